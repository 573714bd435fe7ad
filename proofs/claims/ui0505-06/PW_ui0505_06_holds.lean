import PyProof.Rows.All
import Wide.All
import OpenK.AllK
import Wide.FinOn
import PyProof.Rows.SetFrom
import PyProof.TupleKey
import PyProof.DictRoadsH
import PyProof.IsRules
import PyProof.SetRoads
import PyProof.Rows.EqMixed
import PyProof.Rows.TupTab
import PyProof.DictTruth
import PyProof.DictUpdate
import KE.KDictOf
import KE.KDictText
import PyProof.EqAt
import PyProof.ForAny
import PyProof.Rows.Frame
import PyProof.DefCall
import OpenK.XSeg
import PyProof.WalksPairs
import PySem.Challenge.RW_ui0505_06
set_option Elab.async false
set_option linter.all false
set_option maxRecDepth 100000
set_option maxHeartbeats 8000000
section
open PySem PySem.W PyProof.Rows
namespace Mine
noncomputable abbrev prg : Program := PySem.Challenge.rw_ui0505_06.row.prog
section
noncomputable def st (i : Nat) : Stmt := (prg.main.body[i]?).getD (.Pass ⟨0, 0, 0, 0⟩)
noncomputable def clB : Stmt → List Stmt
  | .ClassDef _ _ _ b _ _ _ _ _ _ _ => b
  | _ => []
noncomputable def mt (i j : Nat) : Stmt := ((clB (st i))[j]?).getD (.Pass ⟨0, 0, 0, 0⟩)
noncomputable def fnA : Stmt → Arguments
  | .FunctionDef _ a _ _ _ _ _ _ _ _ => a
  | _ => { posonlyargs := [], args := [], vararg := none, kwonlyargs := [], kw_defaults := [], kwarg := none, defaults := [] }
noncomputable def fnB : Stmt → List Stmt
  | .FunctionDef _ _ b _ _ _ _ _ _ _ => b
  | _ => []
noncomputable def fnS : Stmt → Scope
  | .FunctionDef _ _ _ _ _ _ s _ _ _ => s
  | _ => { kind := .function, names := [], isGenerator := false, isCoroutine := false }
noncomputable def o0_11 (P : Params) : Obj := PySem.Obj.mk (PySem.Value.type "tuple") Option.none (PySem.Data.seq #[]) #[]
noncomputable def o0_12 (P : Params) : Obj := PySem.Obj.mk PySem.Value.none Option.none (PySem.Data.fields #[]) #[]
noncomputable def o0_13 (P : Params) : Obj := PySem.Obj.mk (PySem.Value.type "code") Option.none   (PySem.Data.fields     #[PySem.Value.str (PySem.Str.ofString "<module>") 182, PySem.Value.str (PySem.Str.ofString "<module>") 183,       PySem.Value.str (PySem.Str.ofString "/claim/cut.py") 184, PySem.Value.int 1 0, PySem.Value.int 0 0,       PySem.Value.int 0 0, PySem.Value.int 0 0, PySem.Value.int 0 0, PySem.Value.ref 11, PySem.Value.bool Bool.false,       PySem.Value.int 181 0, PySem.Value.ref 12, PySem.Value.none, PySem.Value.none, PySem.Value.none, PySem.Value.none,       PySem.Value.int 185 0, PySem.Value.int 1 0, PySem.Value.str (PySem.Str.ofString "/claim/cut.py") 186])   #[]
noncomputable def o0_14 (P : Params) : Obj := PySem.Obj.mk (PySem.Value.type "frame") Option.none PySem.Data.plain   #[Option.some (PySem.Value.ref 13), Option.some (PySem.Value.ref 3), Option.some (PySem.Value.ref 3), Option.none,     Option.some (PySem.Value.str (PySem.Str.ofString "__main__") 164), Option.none, Option.some (PySem.Value.ref 0)]
noncomputable def h0 (P : Params) : Heap := ⟨⟨[PySem.W.boot_o_0 P, PySem.W.boot_o_1 P, PySem.W.boot_o_2 P, PySem.W.boot_o_3 P, PySem.W.boot_o_4 P, PySem.W.boot_o_5 P, PySem.W.boot_o_6 P, PySem.W.boot_o_7 P, PySem.W.boot_o_8 P, PySem.W.boot_o_9 P, PySem.W.boot_o_10 P, o0_11 P, o0_12 P, o0_13 P, o0_14 P]⟩, PySem.Life.mk [] [] [] 0 [] [] Bool.false #[] [] 0 Bool.false Bool.false Bool.false 0 [2000, 10, 10] Bool.false 0   Bool.true [] [] 0 Bool.false⟩
noncomputable abbrev s0 (w : World) (os : OsState) : Shared := ⟨h0 w.params, ⟨[]⟩, PySem.Drawn.mk 0 0 0 0, 187, os⟩
noncomputable abbrev p0 : Pos := PySem.Pos.mk 0 0 0 0
noncomputable def h1 (P : Params) : Heap := ⟨⟨[PySem.W.boot_o_0 P, PySem.W.boot_o_1 P, PySem.W.boot_o_2 P, PySem.W.boot_o_3 P, PySem.W.boot_o_4 P, PySem.W.boot_o_5 P, PySem.W.boot_o_6 P, PySem.W.boot_o_7 P, PySem.W.boot_o_8 P, PySem.W.boot_o_9 P, PySem.W.boot_o_10 P, o0_11 P, o0_12 P, o0_13 P, o0_14 P]⟩, PySem.Life.mk [] [] [] 0 [] [] Bool.false #[] [] 0 Bool.false Bool.false Bool.false 0 [2000, 10, 10] Bool.false 0   Bool.true [] [] 0 Bool.false⟩
noncomputable abbrev s1 (w : World) (os : OsState) : Shared := ⟨h1 w.params, ⟨[]⟩, PySem.Drawn.mk 0 0 0 0, 187, os⟩
noncomputable abbrev p1 : Pos := PySem.Pos.mk 0 0 0 0
noncomputable def o2_3 (P : Params) : Obj := PySem.Obj.mk (PySem.Value.type "dict") Option.none   (PySem.Data.dict     #[PySem.DictEntry.mk (PySem.PyData.keyHash P (PySem.Str.ofString "__name__"))         (PySem.Value.str (PySem.Str.ofString "__name__") 165)         (PySem.Value.str (PySem.Str.ofString "proofkit.errors") 194),       PySem.DictEntry.mk (PySem.PyData.keyHash P (PySem.Str.ofString "__doc__"))         (PySem.Value.str (PySem.Str.ofString "__doc__") 166) PySem.Value.none,       PySem.DictEntry.mk (PySem.PyData.keyHash P (PySem.Str.ofString "__package__"))         (PySem.Value.str (PySem.Str.ofString "__package__") 167) PySem.Value.none,       PySem.DictEntry.mk (PySem.PyData.keyHash P (PySem.Str.ofString "__loader__"))         (PySem.Value.str (PySem.Str.ofString "__loader__") 168) (PySem.Value.builtin "__main__.__loader__#opaque"),       PySem.DictEntry.mk (PySem.PyData.keyHash P (PySem.Str.ofString "__spec__"))         (PySem.Value.str (PySem.Str.ofString "__spec__") 169) PySem.Value.none,       PySem.DictEntry.mk (PySem.PyData.keyHash P (PySem.Str.ofString "__annotations__"))         (PySem.Value.str (PySem.Str.ofString "__annotations__") 170) (PySem.Value.ref 6),       PySem.DictEntry.mk (PySem.PyData.keyHash P (PySem.Str.ofString "__builtins__"))         (PySem.Value.str (PySem.Str.ofString "__builtins__") 171) (PySem.Value.ref 4),       PySem.DictEntry.mk (PySem.PyData.keyHash P (PySem.Str.ofString "__file__"))         (PySem.Value.str (PySem.Str.ofString "__file__") 173)         (PySem.Value.str (PySem.Str.ofString "/claim/cut.py") 172),       PySem.DictEntry.mk (PySem.PyData.keyHash P (PySem.Str.ofString "__cached__"))         (PySem.Value.str (PySem.Str.ofString "__cached__") 174) PySem.Value.none,       PySem.DictEntry.mk (PySem.PyData.keyHash P (PySem.Str.ofString "_wall"))         (PySem.Value.str (PySem.Str.ofString "_wall") 193) (PySem.Value.ref 21),       PySem.DictEntry.mk (PySem.PyData.keyHash P (PySem.Str.ofString "LogicError"))         (PySem.Value.str (PySem.Str.ofString "LogicError") 213) (PySem.Value.ref 31)]     11)   #[]
noncomputable def o2_12 (P : Params) : Obj := PySem.Obj.mk PySem.Value.none Option.none   (PySem.Data.fields     #[PySem.Value.int 1 0, PySem.Value.int 0 0, PySem.Value.ref 20, PySem.Value.int 5 0, PySem.Value.int 0 0,       PySem.Value.ref 27])   #[]
noncomputable def o2_15 (P : Params) : Obj := PySem.Obj.mk (PySem.Value.type "tuple") Option.none (PySem.Data.seq #[]) #[]
noncomputable def o2_16 (P : Params) : Obj := PySem.Obj.mk PySem.Value.none Option.none (PySem.Data.fields #[]) #[]
noncomputable def o2_17 (P : Params) : Obj := PySem.Obj.mk (PySem.Value.type "tuple") Option.none (PySem.Data.seq #[PySem.Value.str (PySem.Str.ofString "k") 190]) #[]
noncomputable def o2_18 (P : Params) : Obj := PySem.Obj.mk (PySem.Value.type "tuple") Option.none (PySem.Data.seq #[]) #[]
noncomputable abbrev fa_t0 : Arguments := by
  refine' (fun (k : Arguments) (_ : fnA (st 0) = k) => k) _ ?h
  case h => (conv => lhs; whnf)
noncomputable abbrev fb_t0 : List Stmt := by
  refine' (fun (k : List Stmt) (_ : fnB (st 0) = k) => k) _ ?h
  case h => (conv => lhs; whnf)
noncomputable abbrev fs_t0 : Scope := by
  refine' (fun (k : Scope) (_ : fnS (st 0) = k) => k) _ ?h
  case h => (conv => lhs; whnf)
noncomputable def o2_19 (P : Params) : Obj := PySem.Obj.mk PySem.Value.none Option.none   (PySem.Data.func     (PySem.FuncData.mk (PySem.Str.ofString "_wall") (PySem.Str.ofString "_wall") fa_t0 (PySem.FuncBody.stmts fb_t0)       fs_t0 0 [] PySem.Value.none PySem.Value.none PySem.Value.none PySem.Value.none Option.none PySem.Value.none       PySem.Value.none 0))   #[]
noncomputable def o2_20 (P : Params) : Obj := PySem.Obj.mk (PySem.Value.type "code") Option.none   (PySem.Data.fields     #[PySem.Value.str (PySem.Str.ofString "_wall") 187, PySem.Value.str (PySem.Str.ofString "_wall") 188,       PySem.Value.str (PySem.Str.ofString "/claim/cut.py") 189, PySem.Value.int 1 0, PySem.Value.int 1 0,       PySem.Value.int 0 0, PySem.Value.int 0 0, PySem.Value.int 3 0, PySem.Value.ref 15, PySem.Value.bool Bool.true,       PySem.Value.int 181 0, PySem.Value.ref 16, PySem.Value.none, PySem.Value.ref 17, PySem.Value.ref 18,       PySem.Value.ref 19, PySem.Value.int 191 0, PySem.Value.int 1 0,       PySem.Value.str (PySem.Str.ofString "/claim/cut.py") 192])   #[]
noncomputable def o2_21 (P : Params) : Obj := PySem.Obj.mk (PySem.Value.type "function") Option.none   (PySem.Data.func     (PySem.FuncData.mk (PySem.Str.ofString "_wall") (PySem.Str.ofString "_wall") fa_t0 (PySem.FuncBody.stmts fb_t0)       fs_t0 3 [] PySem.Value.none PySem.Value.none PySem.Value.none       (PySem.Value.str (PySem.Str.ofString "__main__") 164) Option.none (PySem.Value.ref 20) PySem.Value.none 0))   #[]
noncomputable def o2_22 (P : Params) : Obj := PySem.Obj.mk (PySem.Value.type "tuple") Option.none (PySem.Data.seq #[PySem.Value.type "ValueError"]) #[]
noncomputable def o2_23 (P : Params) : Obj := PySem.Obj.mk (PySem.Value.type "builtin_function_or_method") Option.none   (PySem.Data.fields #[PySem.Value.builtin "type.__prepare__", PySem.Value.type "type"]) #[]
noncomputable def o2_24 (P : Params) : Obj := PySem.Obj.mk (PySem.Value.type "dict") Option.none   (PySem.Data.dict     #[PySem.DictEntry.mk (PySem.PyData.keyHash P (PySem.Str.ofString "__module__"))         (PySem.Value.str (PySem.Str.ofString "__module__") 203)         (PySem.Value.str (PySem.Str.ofString "proofkit.errors") 194),       PySem.DictEntry.mk (PySem.PyData.keyHash P (PySem.Str.ofString "__qualname__"))         (PySem.Value.str (PySem.Str.ofString "__qualname__") 205)         (PySem.Value.str (PySem.Str.ofString "LogicError") 204),       PySem.DictEntry.mk (PySem.PyData.keyHash P (PySem.Str.ofString "__firstlineno__"))         (PySem.Value.str (PySem.Str.ofString "__firstlineno__") 207) (PySem.Value.int 5 206),       PySem.DictEntry.mk (PySem.PyData.keyHash P (PySem.Str.ofString "__static_attributes__"))         (PySem.Value.str (PySem.Str.ofString "__static_attributes__") 208) (PySem.Value.ref 29)]     4)   #[]
noncomputable def o2_25 (P : Params) : Obj := PySem.Obj.mk (PySem.Value.type "tuple") Option.none (PySem.Data.seq #[]) #[]
noncomputable def o2_26 (P : Params) : Obj := PySem.Obj.mk PySem.Value.none Option.none (PySem.Data.fields #[]) #[]
noncomputable def o2_27 (P : Params) : Obj := PySem.Obj.mk (PySem.Value.type "code") Option.none   (PySem.Data.fields     #[PySem.Value.str (PySem.Str.ofString "LogicError") 198, PySem.Value.str (PySem.Str.ofString "LogicError") 199,       PySem.Value.str (PySem.Str.ofString "/claim/cut.py") 200, PySem.Value.int 5 0, PySem.Value.int 0 0,       PySem.Value.int 0 0, PySem.Value.int 0 0, PySem.Value.int 0 0, PySem.Value.ref 25, PySem.Value.bool Bool.false,       PySem.Value.int 181 0, PySem.Value.ref 26, PySem.Value.none, PySem.Value.none, PySem.Value.none, PySem.Value.none,       PySem.Value.int 201 0, PySem.Value.int 5 0, PySem.Value.str (PySem.Str.ofString "/claim/cut.py") 202])   #[]
noncomputable def o2_28 (P : Params) : Obj := PySem.Obj.mk (PySem.Value.type "frame") Option.none PySem.Data.plain   #[Option.some (PySem.Value.ref 27), Option.some (PySem.Value.ref 3), Option.some (PySem.Value.ref 24), Option.none,     Option.some (PySem.Value.str (PySem.Str.ofString "proofkit.errors") 194), Option.none,     Option.some (PySem.Value.ref 0)]
noncomputable def o2_29 (P : Params) : Obj := PySem.Obj.mk (PySem.Value.type "tuple") Option.none (PySem.Data.seq #[]) #[]
noncomputable def o2_30 (P : Params) : Obj := PySem.Obj.mk (PySem.Value.type "dict") Option.none   (PySem.Data.dict     #[PySem.DictEntry.mk (PySem.PyData.keyHash P (PySem.Str.ofString "__module__"))         (PySem.Value.str (PySem.Str.ofString "__module__") 203)         (PySem.Value.str (PySem.Str.ofString "proofkit.errors") 194),       PySem.DictEntry.mk (PySem.PyData.keyHash P (PySem.Str.ofString "__firstlineno__"))         (PySem.Value.str (PySem.Str.ofString "__firstlineno__") 207) (PySem.Value.int 5 206),       PySem.DictEntry.mk (PySem.PyData.keyHash P (PySem.Str.ofString "__static_attributes__"))         (PySem.Value.str (PySem.Str.ofString "__static_attributes__") 208) (PySem.Value.ref 29),       PySem.DictEntry.mk (PySem.PyData.keyHash P (PySem.Str.ofString "__weakref__"))         (PySem.Value.str (PySem.Str.ofString "__weakref__") 210) (PySem.Value.ref 32),       PySem.DictEntry.mk (PySem.PyData.keyHash P (PySem.Str.ofString "__doc__"))         (PySem.Value.str (PySem.Str.ofString "__doc__") 211) PySem.Value.none]     3)   #[]
noncomputable def o2_31 (P : Params) : Obj := PySem.Obj.mk (PySem.Value.type "type") Option.none   (PySem.Data.cls     (PySem.ClassData.mk (PySem.Str.ofString "LogicError") [PySem.Value.type "ValueError"]       [PySem.Value.ref 31, PySem.Value.type "ValueError", PySem.Value.type "Exception",         PySem.Value.type "BaseException", PySem.Value.type "object"]       30 (PySem.Str.ofString "LogicError") Bool.true [] [] Bool.false Option.none Bool.false))   #[Option.some (PySem.Value.ref 22), Option.none, Option.some (PySem.Value.str (PySem.Str.ofString "LogicError") 196),     Option.some (PySem.Value.str (PySem.Str.ofString "LogicError") 204),     Option.some (PySem.Value.builtin "ValueError.__new__"), Option.some (PySem.Value.bool Bool.true)]
noncomputable def o2_32 (P : Params) : Obj := PySem.Obj.mk (PySem.Value.type "getset_descriptor") Option.none   (PySem.Data.fields     #[PySem.Value.str (PySem.Str.ofString "__weakref__") 209, PySem.Value.ref 31,       PySem.Value.builtin "ExceptionGroup.__weakref__", PySem.Value.none])   #[]
noncomputable def o2_33 (P : Params) : Obj := PySem.Obj.mk (PySem.Value.type "super") Option.none   (PySem.Data.fields #[PySem.Value.ref 31, PySem.Value.ref 31, PySem.Value.ref 31]) #[]
noncomputable def o2_34 (P : Params) : Obj := PySem.Obj.mk (PySem.Value.type "builtin_function_or_method") Option.none   (PySem.Data.fields #[PySem.Value.builtin "object.__init_subclass__", PySem.Value.ref 31]) #[]
noncomputable def h2 (P : Params) : Heap := ⟨⟨[PySem.W.boot_o_0 P, PySem.W.boot_o_1 P, PySem.W.boot_o_2 P, o2_3 P, PySem.W.boot_o_4 P, PySem.W.boot_o_5 P, PySem.W.boot_o_6 P, PySem.W.boot_o_7 P, PySem.W.boot_o_8 P, PySem.W.boot_o_9 P, PySem.W.boot_o_10 P, o0_11 P, o2_12 P, o0_13 P, o0_14 P, o2_15 P, o2_16 P, o2_17 P, o2_18 P, o2_19 P, o2_20 P, o2_21 P, o2_22 P, o2_23 P, o2_24 P, o2_25 P, o2_26 P, o2_27 P, o2_28 P, o2_29 P, o2_30 P, o2_31 P, o2_32 P, o2_33 P, o2_34 P]⟩, PySem.Life.mk [] [] [] 0 [] [] Bool.false #[] [] 0 Bool.false Bool.false Bool.false 0 [2000, 10, 10] Bool.false 0   Bool.true [] [] 0 Bool.false⟩
noncomputable abbrev s2 (w : World) (os : OsState) : Shared := ⟨h2 w.params, ⟨[]⟩, PySem.Drawn.mk 0 0 0 0, 214, os⟩
noncomputable abbrev p2 : Pos := PySem.Pos.mk 5 0 6 8
noncomputable def o3_3 (P : Params) : Obj := PySem.Obj.mk (PySem.Value.type "dict") Option.none   (PySem.Data.dict     #[PySem.DictEntry.mk (PySem.PyData.keyHash P (PySem.Str.ofString "__name__"))         (PySem.Value.str (PySem.Str.ofString "__name__") 165)         (PySem.Value.str (PySem.Str.ofString "proofkit.errors") 194),       PySem.DictEntry.mk (PySem.PyData.keyHash P (PySem.Str.ofString "__doc__"))         (PySem.Value.str (PySem.Str.ofString "__doc__") 166) PySem.Value.none,       PySem.DictEntry.mk (PySem.PyData.keyHash P (PySem.Str.ofString "__package__"))         (PySem.Value.str (PySem.Str.ofString "__package__") 167) PySem.Value.none,       PySem.DictEntry.mk (PySem.PyData.keyHash P (PySem.Str.ofString "__loader__"))         (PySem.Value.str (PySem.Str.ofString "__loader__") 168) (PySem.Value.builtin "__main__.__loader__#opaque"),       PySem.DictEntry.mk (PySem.PyData.keyHash P (PySem.Str.ofString "__spec__"))         (PySem.Value.str (PySem.Str.ofString "__spec__") 169) PySem.Value.none,       PySem.DictEntry.mk (PySem.PyData.keyHash P (PySem.Str.ofString "__annotations__"))         (PySem.Value.str (PySem.Str.ofString "__annotations__") 170) (PySem.Value.ref 6),       PySem.DictEntry.mk (PySem.PyData.keyHash P (PySem.Str.ofString "__builtins__"))         (PySem.Value.str (PySem.Str.ofString "__builtins__") 171) (PySem.Value.ref 4),       PySem.DictEntry.mk (PySem.PyData.keyHash P (PySem.Str.ofString "__file__"))         (PySem.Value.str (PySem.Str.ofString "__file__") 173)         (PySem.Value.str (PySem.Str.ofString "/claim/cut.py") 172),       PySem.DictEntry.mk (PySem.PyData.keyHash P (PySem.Str.ofString "__cached__"))         (PySem.Value.str (PySem.Str.ofString "__cached__") 174) PySem.Value.none,       PySem.DictEntry.mk (PySem.PyData.keyHash P (PySem.Str.ofString "_wall"))         (PySem.Value.str (PySem.Str.ofString "_wall") 193) (PySem.Value.ref 21),       PySem.DictEntry.mk (PySem.PyData.keyHash P (PySem.Str.ofString "LogicError"))         (PySem.Value.str (PySem.Str.ofString "LogicError") 213) (PySem.Value.ref 31),       PySem.DictEntry.mk (PySem.PyData.keyHash P (PySem.Str.ofString "ReadError"))         (PySem.Value.str (PySem.Str.ofString "ReadError") 240) (PySem.Value.ref 51)]     12)   #[]
noncomputable def o3_12 (P : Params) : Obj := PySem.Obj.mk PySem.Value.none Option.none   (PySem.Data.fields     #[PySem.Value.int 1 0, PySem.Value.int 0 0, PySem.Value.ref 20, PySem.Value.int 5 0, PySem.Value.int 0 0,       PySem.Value.ref 27, PySem.Value.int 7 0, PySem.Value.int 0 0, PySem.Value.ref 40])   #[]
noncomputable def o3_31 (P : Params) : Obj := PySem.Obj.mk (PySem.Value.type "type") Option.none   (PySem.Data.cls     (PySem.ClassData.mk (PySem.Str.ofString "LogicError") [PySem.Value.type "ValueError"]       [PySem.Value.ref 31, PySem.Value.type "ValueError", PySem.Value.type "Exception",         PySem.Value.type "BaseException", PySem.Value.type "object"]       30 (PySem.Str.ofString "LogicError") Bool.true [] [PySem.Value.ref 51] Bool.false Option.none Bool.false))   #[Option.some (PySem.Value.ref 22), Option.none, Option.some (PySem.Value.str (PySem.Str.ofString "LogicError") 196),     Option.some (PySem.Value.str (PySem.Str.ofString "LogicError") 204),     Option.some (PySem.Value.builtin "ValueError.__new__"), Option.some (PySem.Value.bool Bool.true)]
noncomputable def o3_35 (P : Params) : Obj := PySem.Obj.mk (PySem.Value.type "tuple") Option.none (PySem.Data.seq #[PySem.Value.ref 31]) #[]
noncomputable def o3_36 (P : Params) : Obj := PySem.Obj.mk (PySem.Value.type "builtin_function_or_method") Option.none   (PySem.Data.fields #[PySem.Value.builtin "type.__prepare__", PySem.Value.type "type"]) #[]
noncomputable def o3_37 (P : Params) : Obj := PySem.Obj.mk (PySem.Value.type "dict") Option.none   (PySem.Data.dict     #[PySem.DictEntry.mk (PySem.PyData.keyHash P (PySem.Str.ofString "__module__"))         (PySem.Value.str (PySem.Str.ofString "__module__") 221)         (PySem.Value.str (PySem.Str.ofString "proofkit.errors") 194),       PySem.DictEntry.mk (PySem.PyData.keyHash P (PySem.Str.ofString "__qualname__"))         (PySem.Value.str (PySem.Str.ofString "__qualname__") 223)         (PySem.Value.str (PySem.Str.ofString "ReadError") 222),       PySem.DictEntry.mk (PySem.PyData.keyHash P (PySem.Str.ofString "__firstlineno__"))         (PySem.Value.str (PySem.Str.ofString "__firstlineno__") 225) (PySem.Value.int 7 224),       PySem.DictEntry.mk (PySem.PyData.keyHash P (PySem.Str.ofString "__init__"))         (PySem.Value.str (PySem.Str.ofString "__init__") 234) (PySem.Value.ref 48),       PySem.DictEntry.mk (PySem.PyData.keyHash P (PySem.Str.ofString "__static_attributes__"))         (PySem.Value.str (PySem.Str.ofString "__static_attributes__") 237) (PySem.Value.ref 49)]     5)   #[]
noncomputable def o3_38 (P : Params) : Obj := PySem.Obj.mk (PySem.Value.type "tuple") Option.none (PySem.Data.seq #[]) #[]
noncomputable def o3_39 (P : Params) : Obj := PySem.Obj.mk PySem.Value.none Option.none   (PySem.Data.fields #[PySem.Value.int 9 0, PySem.Value.int 4 0, PySem.Value.ref 47]) #[]
noncomputable def o3_40 (P : Params) : Obj := PySem.Obj.mk (PySem.Value.type "code") Option.none   (PySem.Data.fields     #[PySem.Value.str (PySem.Str.ofString "ReadError") 216, PySem.Value.str (PySem.Str.ofString "ReadError") 217,       PySem.Value.str (PySem.Str.ofString "/claim/cut.py") 218, PySem.Value.int 7 0, PySem.Value.int 0 0,       PySem.Value.int 0 0, PySem.Value.int 0 0, PySem.Value.int 0 0, PySem.Value.ref 38, PySem.Value.bool Bool.false,       PySem.Value.int 181 0, PySem.Value.ref 39, PySem.Value.none, PySem.Value.none, PySem.Value.none, PySem.Value.none,       PySem.Value.int 219 0, PySem.Value.int 7 0, PySem.Value.str (PySem.Str.ofString "/claim/cut.py") 220])   #[]
noncomputable def o3_41 (P : Params) : Obj := PySem.Obj.mk (PySem.Value.type "frame") Option.none PySem.Data.plain   #[Option.some (PySem.Value.ref 40), Option.some (PySem.Value.ref 3), Option.some (PySem.Value.ref 37), Option.none,     Option.some (PySem.Value.str (PySem.Str.ofString "proofkit.errors") 194), Option.none,     Option.some (PySem.Value.ref 0)]
noncomputable def o3_42 (P : Params) : Obj := PySem.Obj.mk (PySem.Value.type "tuple") Option.none (PySem.Data.seq #[]) #[]
noncomputable def o3_43 (P : Params) : Obj := PySem.Obj.mk PySem.Value.none Option.none (PySem.Data.fields #[]) #[]
noncomputable def o3_44 (P : Params) : Obj := PySem.Obj.mk (PySem.Value.type "tuple") Option.none   (PySem.Data.seq     #[PySem.Value.str (PySem.Str.ofString "self") 229, PySem.Value.str (PySem.Str.ofString "why") 230,       PySem.Value.str (PySem.Str.ofString "place") 231])   #[]
noncomputable def o3_45 (P : Params) : Obj := PySem.Obj.mk (PySem.Value.type "tuple") Option.none (PySem.Data.seq #[]) #[]
noncomputable abbrev fa_c3_0 : Arguments := by
  refine' (fun (k : Arguments) (_ : fnA (mt 3 0) = k) => k) _ ?h
  case h => (conv => lhs; whnf)
noncomputable abbrev fb_c3_0 : List Stmt := by
  refine' (fun (k : List Stmt) (_ : fnB (mt 3 0) = k) => k) _ ?h
  case h => (conv => lhs; whnf)
noncomputable abbrev fs_c3_0 : Scope := by
  refine' (fun (k : Scope) (_ : fnS (mt 3 0) = k) => k) _ ?h
  case h => (conv => lhs; whnf)
noncomputable def o3_46 (P : Params) : Obj := PySem.Obj.mk PySem.Value.none Option.none   (PySem.Data.func     (PySem.FuncData.mk (PySem.Str.ofString "__init__") (PySem.Str.ofString "ReadError.__init__") fa_c3_0       (PySem.FuncBody.stmts fb_c3_0) fs_c3_0 0 [] PySem.Value.none PySem.Value.none PySem.Value.none PySem.Value.none       Option.none PySem.Value.none PySem.Value.none 0))   #[]
noncomputable def o3_47 (P : Params) : Obj := PySem.Obj.mk (PySem.Value.type "code") Option.none   (PySem.Data.fields     #[PySem.Value.str (PySem.Str.ofString "__init__") 226,       PySem.Value.str (PySem.Str.ofString "ReadError.__init__") 227,       PySem.Value.str (PySem.Str.ofString "/claim/cut.py") 228, PySem.Value.int 9 0, PySem.Value.int 3 0,       PySem.Value.int 0 0, PySem.Value.int 0 0, PySem.Value.int 3 0, PySem.Value.ref 42, PySem.Value.bool Bool.true,       PySem.Value.int 181 0, PySem.Value.ref 43, PySem.Value.none, PySem.Value.ref 44, PySem.Value.ref 45,       PySem.Value.ref 46, PySem.Value.int 232 0, PySem.Value.int 9 0,       PySem.Value.str (PySem.Str.ofString "/claim/cut.py") 233])   #[]
noncomputable def o3_48 (P : Params) : Obj := PySem.Obj.mk (PySem.Value.type "function") Option.none   (PySem.Data.func     (PySem.FuncData.mk (PySem.Str.ofString "__init__") (PySem.Str.ofString "ReadError.__init__") fa_c3_0       (PySem.FuncBody.stmts fb_c3_0) fs_c3_0 3 [] PySem.Value.none PySem.Value.none PySem.Value.none       (PySem.Value.str (PySem.Str.ofString "proofkit.errors") 194) Option.none (PySem.Value.ref 47) PySem.Value.none 0))   #[]
noncomputable def o3_49 (P : Params) : Obj := PySem.Obj.mk (PySem.Value.type "tuple") Option.none   (PySem.Data.seq #[PySem.Value.str (PySem.Str.ofString "place") 235, PySem.Value.str (PySem.Str.ofString "why") 236])   #[]
noncomputable def o3_50 (P : Params) : Obj := PySem.Obj.mk (PySem.Value.type "dict") Option.none   (PySem.Data.dict     #[PySem.DictEntry.mk (PySem.PyData.keyHash P (PySem.Str.ofString "__module__"))         (PySem.Value.str (PySem.Str.ofString "__module__") 221)         (PySem.Value.str (PySem.Str.ofString "proofkit.errors") 194),       PySem.DictEntry.mk (PySem.PyData.keyHash P (PySem.Str.ofString "__firstlineno__"))         (PySem.Value.str (PySem.Str.ofString "__firstlineno__") 225) (PySem.Value.int 7 224),       PySem.DictEntry.mk (PySem.PyData.keyHash P (PySem.Str.ofString "__init__"))         (PySem.Value.str (PySem.Str.ofString "__init__") 234) (PySem.Value.ref 48),       PySem.DictEntry.mk (PySem.PyData.keyHash P (PySem.Str.ofString "__static_attributes__"))         (PySem.Value.str (PySem.Str.ofString "__static_attributes__") 237) (PySem.Value.ref 49),       PySem.DictEntry.mk (PySem.PyData.keyHash P (PySem.Str.ofString "__doc__"))         (PySem.Value.str (PySem.Str.ofString "__doc__") 238) PySem.Value.none]     2)   #[]
noncomputable def o3_51 (P : Params) : Obj := PySem.Obj.mk (PySem.Value.type "type") Option.none   (PySem.Data.cls     (PySem.ClassData.mk (PySem.Str.ofString "ReadError") [PySem.Value.ref 31]       [PySem.Value.ref 51, PySem.Value.ref 31, PySem.Value.type "ValueError", PySem.Value.type "Exception",         PySem.Value.type "BaseException", PySem.Value.type "object"]       50 (PySem.Str.ofString "ReadError") Bool.true [] [] Bool.false Option.none Bool.false))   #[Option.some (PySem.Value.ref 35), Option.none, Option.some (PySem.Value.str (PySem.Str.ofString "ReadError") 214),     Option.some (PySem.Value.str (PySem.Str.ofString "ReadError") 222),     Option.some (PySem.Value.builtin "ValueError.__new__"), Option.some (PySem.Value.bool Bool.true)]
noncomputable def o3_52 (P : Params) : Obj := PySem.Obj.mk (PySem.Value.type "super") Option.none   (PySem.Data.fields #[PySem.Value.ref 51, PySem.Value.ref 51, PySem.Value.ref 51]) #[]
noncomputable def o3_53 (P : Params) : Obj := PySem.Obj.mk (PySem.Value.type "builtin_function_or_method") Option.none   (PySem.Data.fields #[PySem.Value.builtin "object.__init_subclass__", PySem.Value.ref 51]) #[]
noncomputable def h3 (P : Params) : Heap := ⟨⟨[PySem.W.boot_o_0 P, PySem.W.boot_o_1 P, PySem.W.boot_o_2 P, o3_3 P, PySem.W.boot_o_4 P, PySem.W.boot_o_5 P, PySem.W.boot_o_6 P, PySem.W.boot_o_7 P, PySem.W.boot_o_8 P, PySem.W.boot_o_9 P, PySem.W.boot_o_10 P, o0_11 P, o3_12 P, o0_13 P, o0_14 P, o2_15 P, o2_16 P, o2_17 P, o2_18 P, o2_19 P, o2_20 P, o2_21 P, o2_22 P, o2_23 P, o2_24 P, o2_25 P, o2_26 P, o2_27 P, o2_28 P, o2_29 P, o2_30 P, o3_31 P, o2_32 P, o2_33 P, o2_34 P, o3_35 P, o3_36 P, o3_37 P, o3_38 P, o3_39 P, o3_40 P, o3_41 P, o3_42 P, o3_43 P, o3_44 P, o3_45 P, o3_46 P, o3_47 P, o3_48 P, o3_49 P, o3_50 P, o3_51 P, o3_52 P, o3_53 P]⟩, PySem.Life.mk [] [] [] 0 [] [] Bool.false #[] [] 0 Bool.false Bool.false Bool.false 0 [2000, 10, 10] Bool.false 0   Bool.true [] [] 0 Bool.false⟩
noncomputable abbrev s3 (w : World) (os : OsState) : Shared := ⟨h3 w.params, ⟨[]⟩, PySem.Drawn.mk 0 0 0 0, 241, os⟩
noncomputable abbrev p3 : Pos := PySem.Pos.mk 7 0 12 26
noncomputable def o4_3 (P : Params) : Obj := PySem.Obj.mk (PySem.Value.type "dict") Option.none   (PySem.Data.dict     #[PySem.DictEntry.mk (PySem.PyData.keyHash P (PySem.Str.ofString "__name__"))         (PySem.Value.str (PySem.Str.ofString "__name__") 165)         (PySem.Value.str (PySem.Str.ofString "proofkit.models") 306),       PySem.DictEntry.mk (PySem.PyData.keyHash P (PySem.Str.ofString "__doc__"))         (PySem.Value.str (PySem.Str.ofString "__doc__") 166) PySem.Value.none,       PySem.DictEntry.mk (PySem.PyData.keyHash P (PySem.Str.ofString "__package__"))         (PySem.Value.str (PySem.Str.ofString "__package__") 167) PySem.Value.none,       PySem.DictEntry.mk (PySem.PyData.keyHash P (PySem.Str.ofString "__loader__"))         (PySem.Value.str (PySem.Str.ofString "__loader__") 168) (PySem.Value.builtin "__main__.__loader__#opaque"),       PySem.DictEntry.mk (PySem.PyData.keyHash P (PySem.Str.ofString "__spec__"))         (PySem.Value.str (PySem.Str.ofString "__spec__") 169) PySem.Value.none,       PySem.DictEntry.mk (PySem.PyData.keyHash P (PySem.Str.ofString "__annotations__"))         (PySem.Value.str (PySem.Str.ofString "__annotations__") 170) (PySem.Value.ref 6),       PySem.DictEntry.mk (PySem.PyData.keyHash P (PySem.Str.ofString "__builtins__"))         (PySem.Value.str (PySem.Str.ofString "__builtins__") 171) (PySem.Value.ref 4),       PySem.DictEntry.mk (PySem.PyData.keyHash P (PySem.Str.ofString "__file__"))         (PySem.Value.str (PySem.Str.ofString "__file__") 173)         (PySem.Value.str (PySem.Str.ofString "/claim/cut.py") 172),       PySem.DictEntry.mk (PySem.PyData.keyHash P (PySem.Str.ofString "__cached__"))         (PySem.Value.str (PySem.Str.ofString "__cached__") 174) PySem.Value.none,       PySem.DictEntry.mk (PySem.PyData.keyHash P (PySem.Str.ofString "_wall"))         (PySem.Value.str (PySem.Str.ofString "_wall") 193) (PySem.Value.ref 21),       PySem.DictEntry.mk (PySem.PyData.keyHash P (PySem.Str.ofString "LogicError"))         (PySem.Value.str (PySem.Str.ofString "LogicError") 213) (PySem.Value.ref 31),       PySem.DictEntry.mk (PySem.PyData.keyHash P (PySem.Str.ofString "ReadError"))         (PySem.Value.str (PySem.Str.ofString "ReadError") 240) (PySem.Value.ref 51),       PySem.DictEntry.mk (PySem.PyData.keyHash P (PySem.Str.ofString "names"))         (PySem.Value.str (PySem.Str.ofString "names") 250) (PySem.Value.ref 60),       PySem.DictEntry.mk (PySem.PyData.keyHash P (PySem.Str.ofString "_names"))         (PySem.Value.str (PySem.Str.ofString "_names") 259) (PySem.Value.ref 67),       PySem.DictEntry.mk (PySem.PyData.keyHash P (PySem.Str.ofString "JOINS"))         (PySem.Value.str (PySem.Str.ofString "JOINS") 266) (PySem.Value.ref 68),       PySem.DictEntry.mk (PySem.PyData.keyHash P (PySem.Str.ofString "BINDERS"))         (PySem.Value.str (PySem.Str.ofString "BINDERS") 269) (PySem.Value.ref 69),       PySem.DictEntry.mk (PySem.PyData.keyHash P (PySem.Str.ofString "direct"))         (PySem.Value.str (PySem.Str.ofString "direct") 277) (PySem.Value.ref 76),       PySem.DictEntry.mk (PySem.PyData.keyHash P (PySem.Str.ofString "own_terms"))         (PySem.Value.str (PySem.Str.ofString "own_terms") 284) (PySem.Value.ref 83),       PySem.DictEntry.mk (PySem.PyData.keyHash P (PySem.Str.ofString "free"))         (PySem.Value.str (PySem.Str.ofString "free") 292) (PySem.Value.ref 90),       PySem.DictEntry.mk (PySem.PyData.keyHash P (PySem.Str.ofString "_free"))         (PySem.Value.str (PySem.Str.ofString "_free") 305) (PySem.Value.ref 97)]     20)   #[]
noncomputable def o4_12 (P : Params) : Obj := PySem.Obj.mk PySem.Value.none Option.none   (PySem.Data.fields     #[PySem.Value.int 1 0, PySem.Value.int 0 0, PySem.Value.ref 20, PySem.Value.int 5 0, PySem.Value.int 0 0,       PySem.Value.ref 27, PySem.Value.int 7 0, PySem.Value.int 0 0, PySem.Value.ref 40, PySem.Value.int 14 0,       PySem.Value.int 0 0, PySem.Value.ref 59, PySem.Value.int 18 0, PySem.Value.int 0 0, PySem.Value.ref 66,       PySem.Value.int 28 0, PySem.Value.int 0 0, PySem.Value.ref 75, PySem.Value.int 37 0, PySem.Value.int 0 0,       PySem.Value.ref 82, PySem.Value.int 43 0, PySem.Value.int 0 0, PySem.Value.ref 89, PySem.Value.int 47 0,       PySem.Value.int 0 0, PySem.Value.ref 96])   #[]
noncomputable def o4_54 (P : Params) : Obj := PySem.Obj.mk (PySem.Value.type "tuple") Option.none (PySem.Data.seq #[]) #[]
noncomputable def o4_55 (P : Params) : Obj := PySem.Obj.mk PySem.Value.none Option.none (PySem.Data.fields #[]) #[]
noncomputable def o4_56 (P : Params) : Obj := PySem.Obj.mk (PySem.Value.type "tuple") Option.none   (PySem.Data.seq #[PySem.Value.str (PySem.Str.ofString "term") 246, PySem.Value.str (PySem.Str.ofString "out") 247])   #[]
noncomputable def o4_57 (P : Params) : Obj := PySem.Obj.mk (PySem.Value.type "tuple") Option.none (PySem.Data.seq #[]) #[]
noncomputable abbrev fa_t5 : Arguments := by
  refine' (fun (k : Arguments) (_ : fnA (st 5) = k) => k) _ ?h
  case h => (conv => lhs; whnf)
noncomputable abbrev fb_t5 : List Stmt := by
  refine' (fun (k : List Stmt) (_ : fnB (st 5) = k) => k) _ ?h
  case h => (conv => lhs; whnf)
noncomputable abbrev fs_t5 : Scope := by
  refine' (fun (k : Scope) (_ : fnS (st 5) = k) => k) _ ?h
  case h => (conv => lhs; whnf)
noncomputable def o4_58 (P : Params) : Obj := PySem.Obj.mk PySem.Value.none Option.none   (PySem.Data.func     (PySem.FuncData.mk (PySem.Str.ofString "names") (PySem.Str.ofString "names") fa_t5 (PySem.FuncBody.stmts fb_t5)       fs_t5 0 [] PySem.Value.none PySem.Value.none PySem.Value.none PySem.Value.none Option.none PySem.Value.none       PySem.Value.none 0))   #[]
noncomputable def o4_59 (P : Params) : Obj := PySem.Obj.mk (PySem.Value.type "code") Option.none   (PySem.Data.fields     #[PySem.Value.str (PySem.Str.ofString "names") 243, PySem.Value.str (PySem.Str.ofString "names") 244,       PySem.Value.str (PySem.Str.ofString "/claim/cut.py") 245, PySem.Value.int 14 0, PySem.Value.int 1 0,       PySem.Value.int 0 0, PySem.Value.int 0 0, PySem.Value.int 3 0, PySem.Value.ref 54, PySem.Value.bool Bool.true,       PySem.Value.int 181 0, PySem.Value.ref 55, PySem.Value.none, PySem.Value.ref 56, PySem.Value.ref 57,       PySem.Value.ref 58, PySem.Value.int 248 0, PySem.Value.int 14 0,       PySem.Value.str (PySem.Str.ofString "/claim/cut.py") 249])   #[]
noncomputable def o4_60 (P : Params) : Obj := PySem.Obj.mk (PySem.Value.type "function") Option.none   (PySem.Data.func     (PySem.FuncData.mk (PySem.Str.ofString "names") (PySem.Str.ofString "names") fa_t5 (PySem.FuncBody.stmts fb_t5)       fs_t5 3 [] PySem.Value.none PySem.Value.none PySem.Value.none       (PySem.Value.str (PySem.Str.ofString "proofkit.terms") 241) Option.none (PySem.Value.ref 59) PySem.Value.none 0))   #[]
noncomputable def o4_61 (P : Params) : Obj := PySem.Obj.mk (PySem.Value.type "tuple") Option.none (PySem.Data.seq #[]) #[]
noncomputable def o4_62 (P : Params) : Obj := PySem.Obj.mk PySem.Value.none Option.none (PySem.Data.fields #[]) #[]
noncomputable def o4_63 (P : Params) : Obj := PySem.Obj.mk (PySem.Value.type "tuple") Option.none   (PySem.Data.seq     #[PySem.Value.str (PySem.Str.ofString "term") 254, PySem.Value.str (PySem.Str.ofString "out") 255,       PySem.Value.str (PySem.Str.ofString "arg") 256])   #[]
noncomputable def o4_64 (P : Params) : Obj := PySem.Obj.mk (PySem.Value.type "tuple") Option.none (PySem.Data.seq #[]) #[]
noncomputable abbrev fa_t6 : Arguments := by
  refine' (fun (k : Arguments) (_ : fnA (st 6) = k) => k) _ ?h
  case h => (conv => lhs; whnf)
noncomputable abbrev fb_t6 : List Stmt := by
  refine' (fun (k : List Stmt) (_ : fnB (st 6) = k) => k) _ ?h
  case h => (conv => lhs; whnf)
noncomputable abbrev fs_t6 : Scope := by
  refine' (fun (k : Scope) (_ : fnS (st 6) = k) => k) _ ?h
  case h => (conv => lhs; whnf)
noncomputable def o4_65 (P : Params) : Obj := PySem.Obj.mk PySem.Value.none Option.none   (PySem.Data.func     (PySem.FuncData.mk (PySem.Str.ofString "_names") (PySem.Str.ofString "_names") fa_t6 (PySem.FuncBody.stmts fb_t6)       fs_t6 0 [] PySem.Value.none PySem.Value.none PySem.Value.none PySem.Value.none Option.none PySem.Value.none       PySem.Value.none 0))   #[]
noncomputable def o4_66 (P : Params) : Obj := PySem.Obj.mk (PySem.Value.type "code") Option.none   (PySem.Data.fields     #[PySem.Value.str (PySem.Str.ofString "_names") 251, PySem.Value.str (PySem.Str.ofString "_names") 252,       PySem.Value.str (PySem.Str.ofString "/claim/cut.py") 253, PySem.Value.int 18 0, PySem.Value.int 2 0,       PySem.Value.int 0 0, PySem.Value.int 0 0, PySem.Value.int 3 0, PySem.Value.ref 61, PySem.Value.bool Bool.true,       PySem.Value.int 181 0, PySem.Value.ref 62, PySem.Value.none, PySem.Value.ref 63, PySem.Value.ref 64,       PySem.Value.ref 65, PySem.Value.int 257 0, PySem.Value.int 18 0,       PySem.Value.str (PySem.Str.ofString "/claim/cut.py") 258])   #[]
noncomputable def o4_67 (P : Params) : Obj := PySem.Obj.mk (PySem.Value.type "function") Option.none   (PySem.Data.func     (PySem.FuncData.mk (PySem.Str.ofString "_names") (PySem.Str.ofString "_names") fa_t6 (PySem.FuncBody.stmts fb_t6)       fs_t6 3 [] PySem.Value.none PySem.Value.none PySem.Value.none       (PySem.Value.str (PySem.Str.ofString "proofkit.terms") 241) Option.none (PySem.Value.ref 66) PySem.Value.none 0))   #[]
noncomputable def o4_68 (P : Params) : Obj := PySem.Obj.mk (PySem.Value.type "tuple") Option.none   (PySem.Data.seq     #[PySem.Value.str (PySem.Str.ofString "and") 262, PySem.Value.str (PySem.Str.ofString "or") 263,       PySem.Value.str (PySem.Str.ofString "implies") 264, PySem.Value.str (PySem.Str.ofString "iff") 265])   #[]
noncomputable def o4_69 (P : Params) : Obj := PySem.Obj.mk (PySem.Value.type "tuple") Option.none   (PySem.Data.seq #[PySem.Value.str (PySem.Str.ofString "all") 267, PySem.Value.str (PySem.Str.ofString "some") 268])   #[]
noncomputable def o4_70 (P : Params) : Obj := PySem.Obj.mk (PySem.Value.type "tuple") Option.none (PySem.Data.seq #[]) #[]
noncomputable def o4_71 (P : Params) : Obj := PySem.Obj.mk PySem.Value.none Option.none (PySem.Data.fields #[]) #[]
noncomputable def o4_72 (P : Params) : Obj := PySem.Obj.mk (PySem.Value.type "tuple") Option.none   (PySem.Data.seq #[PySem.Value.str (PySem.Str.ofString "f") 273, PySem.Value.str (PySem.Str.ofString "kind") 274]) #[]
noncomputable def o4_73 (P : Params) : Obj := PySem.Obj.mk (PySem.Value.type "tuple") Option.none (PySem.Data.seq #[]) #[]
noncomputable abbrev fa_t10 : Arguments := by
  refine' (fun (k : Arguments) (_ : fnA (st 10) = k) => k) _ ?h
  case h => (conv => lhs; whnf)
noncomputable abbrev fb_t10 : List Stmt := by
  refine' (fun (k : List Stmt) (_ : fnB (st 10) = k) => k) _ ?h
  case h => (conv => lhs; whnf)
noncomputable abbrev fs_t10 : Scope := by
  refine' (fun (k : Scope) (_ : fnS (st 10) = k) => k) _ ?h
  case h => (conv => lhs; whnf)
noncomputable def o4_74 (P : Params) : Obj := PySem.Obj.mk PySem.Value.none Option.none   (PySem.Data.func     (PySem.FuncData.mk (PySem.Str.ofString "direct") (PySem.Str.ofString "direct") fa_t10 (PySem.FuncBody.stmts fb_t10)       fs_t10 0 [] PySem.Value.none PySem.Value.none PySem.Value.none PySem.Value.none Option.none PySem.Value.none       PySem.Value.none 0))   #[]
noncomputable def o4_75 (P : Params) : Obj := PySem.Obj.mk (PySem.Value.type "code") Option.none   (PySem.Data.fields     #[PySem.Value.str (PySem.Str.ofString "direct") 270, PySem.Value.str (PySem.Str.ofString "direct") 271,       PySem.Value.str (PySem.Str.ofString "/claim/cut.py") 272, PySem.Value.int 28 0, PySem.Value.int 1 0,       PySem.Value.int 0 0, PySem.Value.int 0 0, PySem.Value.int 3 0, PySem.Value.ref 70, PySem.Value.bool Bool.true,       PySem.Value.int 181 0, PySem.Value.ref 71, PySem.Value.none, PySem.Value.ref 72, PySem.Value.ref 73,       PySem.Value.ref 74, PySem.Value.int 275 0, PySem.Value.int 28 0,       PySem.Value.str (PySem.Str.ofString "/claim/cut.py") 276])   #[]
noncomputable def o4_76 (P : Params) : Obj := PySem.Obj.mk (PySem.Value.type "function") Option.none   (PySem.Data.func     (PySem.FuncData.mk (PySem.Str.ofString "direct") (PySem.Str.ofString "direct") fa_t10 (PySem.FuncBody.stmts fb_t10)       fs_t10 3 [] PySem.Value.none PySem.Value.none PySem.Value.none       (PySem.Value.str (PySem.Str.ofString "proofkit.formulas") 260) Option.none (PySem.Value.ref 75) PySem.Value.none       0))   #[]
noncomputable def o4_77 (P : Params) : Obj := PySem.Obj.mk (PySem.Value.type "tuple") Option.none (PySem.Data.seq #[]) #[]
noncomputable def o4_78 (P : Params) : Obj := PySem.Obj.mk PySem.Value.none Option.none (PySem.Data.fields #[]) #[]
noncomputable def o4_79 (P : Params) : Obj := PySem.Obj.mk (PySem.Value.type "tuple") Option.none (PySem.Data.seq #[PySem.Value.str (PySem.Str.ofString "f") 281]) #[]
noncomputable def o4_80 (P : Params) : Obj := PySem.Obj.mk (PySem.Value.type "tuple") Option.none (PySem.Data.seq #[]) #[]
noncomputable abbrev fa_t11 : Arguments := by
  refine' (fun (k : Arguments) (_ : fnA (st 11) = k) => k) _ ?h
  case h => (conv => lhs; whnf)
noncomputable abbrev fb_t11 : List Stmt := by
  refine' (fun (k : List Stmt) (_ : fnB (st 11) = k) => k) _ ?h
  case h => (conv => lhs; whnf)
noncomputable abbrev fs_t11 : Scope := by
  refine' (fun (k : Scope) (_ : fnS (st 11) = k) => k) _ ?h
  case h => (conv => lhs; whnf)
noncomputable def o4_81 (P : Params) : Obj := PySem.Obj.mk PySem.Value.none Option.none   (PySem.Data.func     (PySem.FuncData.mk (PySem.Str.ofString "own_terms") (PySem.Str.ofString "own_terms") fa_t11       (PySem.FuncBody.stmts fb_t11) fs_t11 0 [] PySem.Value.none PySem.Value.none PySem.Value.none PySem.Value.none       Option.none PySem.Value.none PySem.Value.none 0))   #[]
noncomputable def o4_82 (P : Params) : Obj := PySem.Obj.mk (PySem.Value.type "code") Option.none   (PySem.Data.fields     #[PySem.Value.str (PySem.Str.ofString "own_terms") 278, PySem.Value.str (PySem.Str.ofString "own_terms") 279,       PySem.Value.str (PySem.Str.ofString "/claim/cut.py") 280, PySem.Value.int 37 0, PySem.Value.int 1 0,       PySem.Value.int 0 0, PySem.Value.int 0 0, PySem.Value.int 3 0, PySem.Value.ref 77, PySem.Value.bool Bool.true,       PySem.Value.int 181 0, PySem.Value.ref 78, PySem.Value.none, PySem.Value.ref 79, PySem.Value.ref 80,       PySem.Value.ref 81, PySem.Value.int 282 0, PySem.Value.int 37 0,       PySem.Value.str (PySem.Str.ofString "/claim/cut.py") 283])   #[]
noncomputable def o4_83 (P : Params) : Obj := PySem.Obj.mk (PySem.Value.type "function") Option.none   (PySem.Data.func     (PySem.FuncData.mk (PySem.Str.ofString "own_terms") (PySem.Str.ofString "own_terms") fa_t11       (PySem.FuncBody.stmts fb_t11) fs_t11 3 [] PySem.Value.none PySem.Value.none PySem.Value.none       (PySem.Value.str (PySem.Str.ofString "proofkit.formulas") 260) Option.none (PySem.Value.ref 82) PySem.Value.none       0))   #[]
noncomputable def o4_84 (P : Params) : Obj := PySem.Obj.mk (PySem.Value.type "tuple") Option.none (PySem.Data.seq #[]) #[]
noncomputable def o4_85 (P : Params) : Obj := PySem.Obj.mk PySem.Value.none Option.none (PySem.Data.fields #[]) #[]
noncomputable def o4_86 (P : Params) : Obj := PySem.Obj.mk (PySem.Value.type "tuple") Option.none   (PySem.Data.seq #[PySem.Value.str (PySem.Str.ofString "f") 288, PySem.Value.str (PySem.Str.ofString "out") 289]) #[]
noncomputable def o4_87 (P : Params) : Obj := PySem.Obj.mk (PySem.Value.type "tuple") Option.none (PySem.Data.seq #[]) #[]
noncomputable abbrev fa_t12 : Arguments := by
  refine' (fun (k : Arguments) (_ : fnA (st 12) = k) => k) _ ?h
  case h => (conv => lhs; whnf)
noncomputable abbrev fb_t12 : List Stmt := by
  refine' (fun (k : List Stmt) (_ : fnB (st 12) = k) => k) _ ?h
  case h => (conv => lhs; whnf)
noncomputable abbrev fs_t12 : Scope := by
  refine' (fun (k : Scope) (_ : fnS (st 12) = k) => k) _ ?h
  case h => (conv => lhs; whnf)
noncomputable def o4_88 (P : Params) : Obj := PySem.Obj.mk PySem.Value.none Option.none   (PySem.Data.func     (PySem.FuncData.mk (PySem.Str.ofString "free") (PySem.Str.ofString "free") fa_t12 (PySem.FuncBody.stmts fb_t12)       fs_t12 0 [] PySem.Value.none PySem.Value.none PySem.Value.none PySem.Value.none Option.none PySem.Value.none       PySem.Value.none 0))   #[]
noncomputable def o4_89 (P : Params) : Obj := PySem.Obj.mk (PySem.Value.type "code") Option.none   (PySem.Data.fields     #[PySem.Value.str (PySem.Str.ofString "free") 285, PySem.Value.str (PySem.Str.ofString "free") 286,       PySem.Value.str (PySem.Str.ofString "/claim/cut.py") 287, PySem.Value.int 43 0, PySem.Value.int 1 0,       PySem.Value.int 0 0, PySem.Value.int 0 0, PySem.Value.int 3 0, PySem.Value.ref 84, PySem.Value.bool Bool.true,       PySem.Value.int 181 0, PySem.Value.ref 85, PySem.Value.none, PySem.Value.ref 86, PySem.Value.ref 87,       PySem.Value.ref 88, PySem.Value.int 290 0, PySem.Value.int 43 0,       PySem.Value.str (PySem.Str.ofString "/claim/cut.py") 291])   #[]
noncomputable def o4_90 (P : Params) : Obj := PySem.Obj.mk (PySem.Value.type "function") Option.none   (PySem.Data.func     (PySem.FuncData.mk (PySem.Str.ofString "free") (PySem.Str.ofString "free") fa_t12 (PySem.FuncBody.stmts fb_t12)       fs_t12 3 [] PySem.Value.none PySem.Value.none PySem.Value.none       (PySem.Value.str (PySem.Str.ofString "proofkit.formulas") 260) Option.none (PySem.Value.ref 89) PySem.Value.none       0))   #[]
noncomputable def o4_91 (P : Params) : Obj := PySem.Obj.mk (PySem.Value.type "tuple") Option.none (PySem.Data.seq #[]) #[]
noncomputable def o4_92 (P : Params) : Obj := PySem.Obj.mk PySem.Value.none Option.none (PySem.Data.fields #[]) #[]
noncomputable def o4_93 (P : Params) : Obj := PySem.Obj.mk (PySem.Value.type "tuple") Option.none   (PySem.Data.seq     #[PySem.Value.str (PySem.Str.ofString "f") 296, PySem.Value.str (PySem.Str.ofString "bound") 297,       PySem.Value.str (PySem.Str.ofString "out") 298, PySem.Value.str (PySem.Str.ofString "term") 299,       PySem.Value.str (PySem.Str.ofString "name") 300, PySem.Value.str (PySem.Str.ofString "inner") 301,       PySem.Value.str (PySem.Str.ofString "g") 302])   #[]
noncomputable def o4_94 (P : Params) : Obj := PySem.Obj.mk (PySem.Value.type "tuple") Option.none (PySem.Data.seq #[]) #[]
noncomputable abbrev fa_t13 : Arguments := by
  refine' (fun (k : Arguments) (_ : fnA (st 13) = k) => k) _ ?h
  case h => (conv => lhs; whnf)
noncomputable abbrev fb_t13 : List Stmt := by
  refine' (fun (k : List Stmt) (_ : fnB (st 13) = k) => k) _ ?h
  case h => (conv => lhs; whnf)
noncomputable abbrev fs_t13 : Scope := by
  refine' (fun (k : Scope) (_ : fnS (st 13) = k) => k) _ ?h
  case h => (conv => lhs; whnf)
noncomputable def o4_95 (P : Params) : Obj := PySem.Obj.mk PySem.Value.none Option.none   (PySem.Data.func     (PySem.FuncData.mk (PySem.Str.ofString "_free") (PySem.Str.ofString "_free") fa_t13 (PySem.FuncBody.stmts fb_t13)       fs_t13 0 [] PySem.Value.none PySem.Value.none PySem.Value.none PySem.Value.none Option.none PySem.Value.none       PySem.Value.none 0))   #[]
noncomputable def o4_96 (P : Params) : Obj := PySem.Obj.mk (PySem.Value.type "code") Option.none   (PySem.Data.fields     #[PySem.Value.str (PySem.Str.ofString "_free") 293, PySem.Value.str (PySem.Str.ofString "_free") 294,       PySem.Value.str (PySem.Str.ofString "/claim/cut.py") 295, PySem.Value.int 47 0, PySem.Value.int 3 0,       PySem.Value.int 0 0, PySem.Value.int 0 0, PySem.Value.int 3 0, PySem.Value.ref 91, PySem.Value.bool Bool.true,       PySem.Value.int 181 0, PySem.Value.ref 92, PySem.Value.none, PySem.Value.ref 93, PySem.Value.ref 94,       PySem.Value.ref 95, PySem.Value.int 303 0, PySem.Value.int 47 0,       PySem.Value.str (PySem.Str.ofString "/claim/cut.py") 304])   #[]
noncomputable def o4_97 (P : Params) : Obj := PySem.Obj.mk (PySem.Value.type "function") Option.none   (PySem.Data.func     (PySem.FuncData.mk (PySem.Str.ofString "_free") (PySem.Str.ofString "_free") fa_t13 (PySem.FuncBody.stmts fb_t13)       fs_t13 3 [] PySem.Value.none PySem.Value.none PySem.Value.none       (PySem.Value.str (PySem.Str.ofString "proofkit.formulas") 260) Option.none (PySem.Value.ref 96) PySem.Value.none       0))   #[]
noncomputable def h4 (P : Params) : Heap := ⟨⟨[PySem.W.boot_o_0 P, PySem.W.boot_o_1 P, PySem.W.boot_o_2 P, o4_3 P, PySem.W.boot_o_4 P, PySem.W.boot_o_5 P, PySem.W.boot_o_6 P, PySem.W.boot_o_7 P, PySem.W.boot_o_8 P, PySem.W.boot_o_9 P, PySem.W.boot_o_10 P, o0_11 P, o4_12 P, o0_13 P, o0_14 P, o2_15 P, o2_16 P, o2_17 P, o2_18 P, o2_19 P, o2_20 P, o2_21 P, o2_22 P, o2_23 P, o2_24 P, o2_25 P, o2_26 P, o2_27 P, o2_28 P, o2_29 P, o2_30 P, o3_31 P, o2_32 P, o2_33 P, o2_34 P, o3_35 P, o3_36 P, o3_37 P, o3_38 P, o3_39 P, o3_40 P, o3_41 P, o3_42 P, o3_43 P, o3_44 P, o3_45 P, o3_46 P, o3_47 P, o3_48 P, o3_49 P, o3_50 P, o3_51 P, o3_52 P, o3_53 P, o4_54 P, o4_55 P, o4_56 P, o4_57 P, o4_58 P, o4_59 P, o4_60 P, o4_61 P, o4_62 P, o4_63 P, o4_64 P, o4_65 P, o4_66 P, o4_67 P, o4_68 P, o4_69 P, o4_70 P, o4_71 P, o4_72 P, o4_73 P, o4_74 P, o4_75 P, o4_76 P, o4_77 P, o4_78 P, o4_79 P, o4_80 P, o4_81 P, o4_82 P, o4_83 P, o4_84 P, o4_85 P, o4_86 P, o4_87 P, o4_88 P, o4_89 P, o4_90 P, o4_91 P, o4_92 P, o4_93 P, o4_94 P, o4_95 P, o4_96 P, o4_97 P]⟩, PySem.Life.mk [] [] [] 0 [] [] Bool.false #[] [] 0 Bool.false Bool.false Bool.false 0 [2000, 10, 10] Bool.false 0   Bool.true [] [] 0 Bool.false⟩
noncomputable abbrev s4 (w : World) (os : OsState) : Shared := ⟨h4 w.params, ⟨[]⟩, PySem.Drawn.mk 0 0 0 0, 308, os⟩
noncomputable abbrev p4 : Pos := PySem.Pos.mk 57 0 57 8
noncomputable def o5_3 (P : Params) : Obj := PySem.Obj.mk (PySem.Value.type "dict") Option.none   (PySem.Data.dict     #[PySem.DictEntry.mk (PySem.PyData.keyHash P (PySem.Str.ofString "__name__"))         (PySem.Value.str (PySem.Str.ofString "__name__") 165)         (PySem.Value.str (PySem.Str.ofString "proofkit.models") 306),       PySem.DictEntry.mk (PySem.PyData.keyHash P (PySem.Str.ofString "__doc__"))         (PySem.Value.str (PySem.Str.ofString "__doc__") 166) PySem.Value.none,       PySem.DictEntry.mk (PySem.PyData.keyHash P (PySem.Str.ofString "__package__"))         (PySem.Value.str (PySem.Str.ofString "__package__") 167) PySem.Value.none,       PySem.DictEntry.mk (PySem.PyData.keyHash P (PySem.Str.ofString "__loader__"))         (PySem.Value.str (PySem.Str.ofString "__loader__") 168) (PySem.Value.builtin "__main__.__loader__#opaque"),       PySem.DictEntry.mk (PySem.PyData.keyHash P (PySem.Str.ofString "__spec__"))         (PySem.Value.str (PySem.Str.ofString "__spec__") 169) PySem.Value.none,       PySem.DictEntry.mk (PySem.PyData.keyHash P (PySem.Str.ofString "__annotations__"))         (PySem.Value.str (PySem.Str.ofString "__annotations__") 170) (PySem.Value.ref 6),       PySem.DictEntry.mk (PySem.PyData.keyHash P (PySem.Str.ofString "__builtins__"))         (PySem.Value.str (PySem.Str.ofString "__builtins__") 171) (PySem.Value.ref 4),       PySem.DictEntry.mk (PySem.PyData.keyHash P (PySem.Str.ofString "__file__"))         (PySem.Value.str (PySem.Str.ofString "__file__") 173)         (PySem.Value.str (PySem.Str.ofString "/claim/cut.py") 172),       PySem.DictEntry.mk (PySem.PyData.keyHash P (PySem.Str.ofString "__cached__"))         (PySem.Value.str (PySem.Str.ofString "__cached__") 174) PySem.Value.none,       PySem.DictEntry.mk (PySem.PyData.keyHash P (PySem.Str.ofString "_wall"))         (PySem.Value.str (PySem.Str.ofString "_wall") 193) (PySem.Value.ref 21),       PySem.DictEntry.mk (PySem.PyData.keyHash P (PySem.Str.ofString "LogicError"))         (PySem.Value.str (PySem.Str.ofString "LogicError") 213) (PySem.Value.ref 31),       PySem.DictEntry.mk (PySem.PyData.keyHash P (PySem.Str.ofString "ReadError"))         (PySem.Value.str (PySem.Str.ofString "ReadError") 240) (PySem.Value.ref 51),       PySem.DictEntry.mk (PySem.PyData.keyHash P (PySem.Str.ofString "names"))         (PySem.Value.str (PySem.Str.ofString "names") 250) (PySem.Value.ref 60),       PySem.DictEntry.mk (PySem.PyData.keyHash P (PySem.Str.ofString "_names"))         (PySem.Value.str (PySem.Str.ofString "_names") 259) (PySem.Value.ref 67),       PySem.DictEntry.mk (PySem.PyData.keyHash P (PySem.Str.ofString "JOINS"))         (PySem.Value.str (PySem.Str.ofString "JOINS") 266) (PySem.Value.ref 68),       PySem.DictEntry.mk (PySem.PyData.keyHash P (PySem.Str.ofString "BINDERS"))         (PySem.Value.str (PySem.Str.ofString "BINDERS") 269) (PySem.Value.ref 69),       PySem.DictEntry.mk (PySem.PyData.keyHash P (PySem.Str.ofString "direct"))         (PySem.Value.str (PySem.Str.ofString "direct") 277) (PySem.Value.ref 76),       PySem.DictEntry.mk (PySem.PyData.keyHash P (PySem.Str.ofString "own_terms"))         (PySem.Value.str (PySem.Str.ofString "own_terms") 284) (PySem.Value.ref 83),       PySem.DictEntry.mk (PySem.PyData.keyHash P (PySem.Str.ofString "free"))         (PySem.Value.str (PySem.Str.ofString "free") 292) (PySem.Value.ref 90),       PySem.DictEntry.mk (PySem.PyData.keyHash P (PySem.Str.ofString "_free"))         (PySem.Value.str (PySem.Str.ofString "_free") 305) (PySem.Value.ref 97),       PySem.DictEntry.mk (PySem.PyData.keyHash P (PySem.Str.ofString "Model"))         (PySem.Value.str (PySem.Str.ofString "Model") 383) (PySem.Value.ref 147)]     21)   #[]
noncomputable def o5_12 (P : Params) : Obj := PySem.Obj.mk PySem.Value.none Option.none   (PySem.Data.fields     #[PySem.Value.int 1 0, PySem.Value.int 0 0, PySem.Value.ref 20, PySem.Value.int 5 0, PySem.Value.int 0 0,       PySem.Value.ref 27, PySem.Value.int 7 0, PySem.Value.int 0 0, PySem.Value.ref 40, PySem.Value.int 14 0,       PySem.Value.int 0 0, PySem.Value.ref 59, PySem.Value.int 18 0, PySem.Value.int 0 0, PySem.Value.ref 66,       PySem.Value.int 28 0, PySem.Value.int 0 0, PySem.Value.ref 75, PySem.Value.int 37 0, PySem.Value.int 0 0,       PySem.Value.ref 82, PySem.Value.int 43 0, PySem.Value.int 0 0, PySem.Value.ref 89, PySem.Value.int 47 0,       PySem.Value.int 0 0, PySem.Value.ref 96, PySem.Value.int 58 0, PySem.Value.int 0 0, PySem.Value.ref 103])   #[]
noncomputable def o5_98 (P : Params) : Obj := PySem.Obj.mk (PySem.Value.type "tuple") Option.none (PySem.Data.seq #[]) #[]
noncomputable def o5_99 (P : Params) : Obj := PySem.Obj.mk (PySem.Value.type "builtin_function_or_method") Option.none   (PySem.Data.fields #[PySem.Value.builtin "type.__prepare__", PySem.Value.type "type"]) #[]
noncomputable def o5_100 (P : Params) : Obj := PySem.Obj.mk (PySem.Value.type "dict") Option.none   (PySem.Data.dict     #[PySem.DictEntry.mk (PySem.PyData.keyHash P (PySem.Str.ofString "__module__"))         (PySem.Value.str (PySem.Str.ofString "__module__") 315)         (PySem.Value.str (PySem.Str.ofString "proofkit.models") 306),       PySem.DictEntry.mk (PySem.PyData.keyHash P (PySem.Str.ofString "__qualname__"))         (PySem.Value.str (PySem.Str.ofString "__qualname__") 317) (PySem.Value.str (PySem.Str.ofString "Model") 316),       PySem.DictEntry.mk (PySem.PyData.keyHash P (PySem.Str.ofString "__firstlineno__"))         (PySem.Value.str (PySem.Str.ofString "__firstlineno__") 319) (PySem.Value.int 58 318),       PySem.DictEntry.mk (PySem.PyData.keyHash P (PySem.Str.ofString "__init__"))         (PySem.Value.str (PySem.Str.ofString "__init__") 329) (PySem.Value.ref 112),       PySem.DictEntry.mk (PySem.PyData.keyHash P (PySem.Str.ofString "term"))         (PySem.Value.str (PySem.Str.ofString "term") 335) (PySem.Value.ref 117),       PySem.DictEntry.mk (PySem.PyData.keyHash P (PySem.Str.ofString "holds"))         (PySem.Value.str (PySem.Str.ofString "holds") 341) (PySem.Value.ref 123),       PySem.DictEntry.mk (PySem.PyData.keyHash P (PySem.Str.ofString "_bound"))         (PySem.Value.str (PySem.Str.ofString "_bound") 352) (PySem.Value.ref 130),       PySem.DictEntry.mk (PySem.PyData.keyHash P (PySem.Str.ofString "answers"))         (PySem.Value.str (PySem.Str.ofString "answers") 365) (PySem.Value.ref 137),       PySem.DictEntry.mk (PySem.PyData.keyHash P (PySem.Str.ofString "show"))         (PySem.Value.str (PySem.Str.ofString "show") 372) (PySem.Value.ref 144),       PySem.DictEntry.mk (PySem.PyData.keyHash P (PySem.Str.ofString "__static_attributes__"))         (PySem.Value.str (PySem.Str.ofString "__static_attributes__") 376) (PySem.Value.ref 145)]     10)   #[]
noncomputable def o5_101 (P : Params) : Obj := PySem.Obj.mk (PySem.Value.type "tuple") Option.none (PySem.Data.seq #[]) #[]
noncomputable def o5_102 (P : Params) : Obj := PySem.Obj.mk PySem.Value.none Option.none   (PySem.Data.fields     #[PySem.Value.int 60 0, PySem.Value.int 4 0, PySem.Value.ref 111, PySem.Value.int 67 0, PySem.Value.int 4 0,       PySem.Value.ref 116, PySem.Value.int 80 0, PySem.Value.int 4 0, PySem.Value.ref 122, PySem.Value.int 108 0,       PySem.Value.int 4 0, PySem.Value.ref 129, PySem.Value.int 116 0, PySem.Value.int 4 0, PySem.Value.ref 136,       PySem.Value.int 127 0, PySem.Value.int 4 0, PySem.Value.ref 143])   #[]
noncomputable def o5_103 (P : Params) : Obj := PySem.Obj.mk (PySem.Value.type "code") Option.none   (PySem.Data.fields     #[PySem.Value.str (PySem.Str.ofString "Model") 310, PySem.Value.str (PySem.Str.ofString "Model") 311,       PySem.Value.str (PySem.Str.ofString "/claim/cut.py") 312, PySem.Value.int 58 0, PySem.Value.int 0 0,       PySem.Value.int 0 0, PySem.Value.int 0 0, PySem.Value.int 0 0, PySem.Value.ref 101, PySem.Value.bool Bool.false,       PySem.Value.int 181 0, PySem.Value.ref 102, PySem.Value.none, PySem.Value.none, PySem.Value.none,       PySem.Value.none, PySem.Value.int 313 0, PySem.Value.int 58 0,       PySem.Value.str (PySem.Str.ofString "/claim/cut.py") 314])   #[]
noncomputable def o5_104 (P : Params) : Obj := PySem.Obj.mk (PySem.Value.type "frame") Option.none PySem.Data.plain   #[Option.some (PySem.Value.ref 103), Option.some (PySem.Value.ref 3), Option.some (PySem.Value.ref 100), Option.none,     Option.some (PySem.Value.str (PySem.Str.ofString "proofkit.models") 306), Option.none,     Option.some (PySem.Value.ref 0)]
noncomputable def o5_105 (P : Params) : Obj := PySem.Obj.mk (PySem.Value.type "tuple") Option.none (PySem.Data.seq #[PySem.Value.none, PySem.Value.none]) #[]
noncomputable def o5_106 (P : Params) : Obj := PySem.Obj.mk (PySem.Value.type "tuple") Option.none (PySem.Data.seq #[]) #[]
noncomputable def o5_107 (P : Params) : Obj := PySem.Obj.mk PySem.Value.none Option.none (PySem.Data.fields #[]) #[]
noncomputable def o5_108 (P : Params) : Obj := PySem.Obj.mk (PySem.Value.type "tuple") Option.none   (PySem.Data.seq     #[PySem.Value.str (PySem.Str.ofString "self") 323, PySem.Value.str (PySem.Str.ofString "size") 324,       PySem.Value.str (PySem.Str.ofString "relations") 325, PySem.Value.str (PySem.Str.ofString "functions") 326])   #[]
noncomputable def o5_109 (P : Params) : Obj := PySem.Obj.mk (PySem.Value.type "tuple") Option.none (PySem.Data.seq #[]) #[]
noncomputable abbrev fa_c15_0 : Arguments := by
  refine' (fun (k : Arguments) (_ : fnA (mt 15 0) = k) => k) _ ?h
  case h => (conv => lhs; whnf)
noncomputable abbrev fb_c15_0 : List Stmt := by
  refine' (fun (k : List Stmt) (_ : fnB (mt 15 0) = k) => k) _ ?h
  case h => (conv => lhs; whnf)
noncomputable abbrev fs_c15_0 : Scope := by
  refine' (fun (k : Scope) (_ : fnS (mt 15 0) = k) => k) _ ?h
  case h => (conv => lhs; whnf)
noncomputable def o5_110 (P : Params) : Obj := PySem.Obj.mk PySem.Value.none Option.none   (PySem.Data.func     (PySem.FuncData.mk (PySem.Str.ofString "__init__") (PySem.Str.ofString "Model.__init__") fa_c15_0       (PySem.FuncBody.stmts fb_c15_0) fs_c15_0 0 [] PySem.Value.none PySem.Value.none PySem.Value.none PySem.Value.none       Option.none PySem.Value.none PySem.Value.none 0))   #[]
noncomputable def o5_111 (P : Params) : Obj := PySem.Obj.mk (PySem.Value.type "code") Option.none   (PySem.Data.fields     #[PySem.Value.str (PySem.Str.ofString "__init__") 320, PySem.Value.str (PySem.Str.ofString "Model.__init__") 321,       PySem.Value.str (PySem.Str.ofString "/claim/cut.py") 322, PySem.Value.int 60 0, PySem.Value.int 4 0,       PySem.Value.int 0 0, PySem.Value.int 0 0, PySem.Value.int 3 0, PySem.Value.ref 106, PySem.Value.bool Bool.true,       PySem.Value.int 181 0, PySem.Value.ref 107, PySem.Value.none, PySem.Value.ref 108, PySem.Value.ref 109,       PySem.Value.ref 110, PySem.Value.int 327 0, PySem.Value.int 60 0,       PySem.Value.str (PySem.Str.ofString "/claim/cut.py") 328])   #[]
noncomputable def o5_112 (P : Params) : Obj := PySem.Obj.mk (PySem.Value.type "function") Option.none   (PySem.Data.func     (PySem.FuncData.mk (PySem.Str.ofString "__init__") (PySem.Str.ofString "Model.__init__") fa_c15_0       (PySem.FuncBody.stmts fb_c15_0) fs_c15_0 3 [] (PySem.Value.ref 105) PySem.Value.none PySem.Value.none       (PySem.Value.str (PySem.Str.ofString "proofkit.models") 306) Option.none (PySem.Value.ref 111) PySem.Value.none       0))   #[]
noncomputable def o5_113 (P : Params) : Obj := PySem.Obj.mk (PySem.Value.type "tuple") Option.none (PySem.Data.seq #[]) #[]
noncomputable def o5_114 (P : Params) : Obj := PySem.Obj.mk PySem.Value.none Option.none (PySem.Data.fields #[]) #[]
noncomputable abbrev fa_c15_1 : Arguments := by
  refine' (fun (k : Arguments) (_ : fnA (mt 15 1) = k) => k) _ ?h
  case h => (conv => lhs; whnf)
noncomputable abbrev fb_c15_1 : List Stmt := by
  refine' (fun (k : List Stmt) (_ : fnB (mt 15 1) = k) => k) _ ?h
  case h => (conv => lhs; whnf)
noncomputable abbrev fs_c15_1 : Scope := by
  refine' (fun (k : Scope) (_ : fnS (mt 15 1) = k) => k) _ ?h
  case h => (conv => lhs; whnf)
noncomputable def o5_115 (P : Params) : Obj := PySem.Obj.mk PySem.Value.none Option.none   (PySem.Data.func     (PySem.FuncData.mk (PySem.Str.ofString "term") (PySem.Str.ofString "Model.term") fa_c15_1       (PySem.FuncBody.stmts fb_c15_1) fs_c15_1 0 [] PySem.Value.none PySem.Value.none PySem.Value.none PySem.Value.none       Option.none PySem.Value.none PySem.Value.none 0))   #[]
noncomputable def o5_116 (P : Params) : Obj := PySem.Obj.mk (PySem.Value.type "code") Option.none   (PySem.Data.fields     #[PySem.Value.str (PySem.Str.ofString "term") 330, PySem.Value.str (PySem.Str.ofString "Model.term") 331,       PySem.Value.str (PySem.Str.ofString "/claim/cut.py") 332, PySem.Value.int 67 0, PySem.Value.int 3 0,       PySem.Value.int 0 0, PySem.Value.int 0 0, PySem.Value.int 3 0, PySem.Value.ref 113, PySem.Value.bool Bool.true,       PySem.Value.int 181 0, PySem.Value.ref 114, PySem.Value.none, PySem.Value.none, PySem.Value.none,       PySem.Value.ref 115, PySem.Value.int 333 0, PySem.Value.int 67 0,       PySem.Value.str (PySem.Str.ofString "/claim/cut.py") 334])   #[]
noncomputable def o5_117 (P : Params) : Obj := PySem.Obj.mk (PySem.Value.type "function") Option.none   (PySem.Data.func     (PySem.FuncData.mk (PySem.Str.ofString "term") (PySem.Str.ofString "Model.term") fa_c15_1       (PySem.FuncBody.stmts fb_c15_1) fs_c15_1 3 [] PySem.Value.none PySem.Value.none PySem.Value.none       (PySem.Value.str (PySem.Str.ofString "proofkit.models") 306) Option.none (PySem.Value.ref 116) PySem.Value.none       0))   #[]
noncomputable def o5_118 (P : Params) : Obj := PySem.Obj.mk (PySem.Value.type "tuple") Option.none (PySem.Data.seq #[PySem.Value.none]) #[]
noncomputable def o5_119 (P : Params) : Obj := PySem.Obj.mk (PySem.Value.type "tuple") Option.none (PySem.Data.seq #[]) #[]
noncomputable def o5_120 (P : Params) : Obj := PySem.Obj.mk PySem.Value.none Option.none (PySem.Data.fields #[]) #[]
noncomputable abbrev fa_c15_2 : Arguments := by
  refine' (fun (k : Arguments) (_ : fnA (mt 15 2) = k) => k) _ ?h
  case h => (conv => lhs; whnf)
noncomputable abbrev fb_c15_2 : List Stmt := by
  refine' (fun (k : List Stmt) (_ : fnB (mt 15 2) = k) => k) _ ?h
  case h => (conv => lhs; whnf)
noncomputable abbrev fs_c15_2 : Scope := by
  refine' (fun (k : Scope) (_ : fnS (mt 15 2) = k) => k) _ ?h
  case h => (conv => lhs; whnf)
noncomputable def o5_121 (P : Params) : Obj := PySem.Obj.mk PySem.Value.none Option.none   (PySem.Data.func     (PySem.FuncData.mk (PySem.Str.ofString "holds") (PySem.Str.ofString "Model.holds") fa_c15_2       (PySem.FuncBody.stmts fb_c15_2) fs_c15_2 0 [] PySem.Value.none PySem.Value.none PySem.Value.none PySem.Value.none       Option.none PySem.Value.none PySem.Value.none 0))   #[]
noncomputable def o5_122 (P : Params) : Obj := PySem.Obj.mk (PySem.Value.type "code") Option.none   (PySem.Data.fields     #[PySem.Value.str (PySem.Str.ofString "holds") 336, PySem.Value.str (PySem.Str.ofString "Model.holds") 337,       PySem.Value.str (PySem.Str.ofString "/claim/cut.py") 338, PySem.Value.int 80 0, PySem.Value.int 3 0,       PySem.Value.int 0 0, PySem.Value.int 0 0, PySem.Value.int 3 0, PySem.Value.ref 119, PySem.Value.bool Bool.true,       PySem.Value.int 181 0, PySem.Value.ref 120, PySem.Value.none, PySem.Value.none, PySem.Value.none,       PySem.Value.ref 121, PySem.Value.int 339 0, PySem.Value.int 80 0,       PySem.Value.str (PySem.Str.ofString "/claim/cut.py") 340])   #[]
noncomputable def o5_123 (P : Params) : Obj := PySem.Obj.mk (PySem.Value.type "function") Option.none   (PySem.Data.func     (PySem.FuncData.mk (PySem.Str.ofString "holds") (PySem.Str.ofString "Model.holds") fa_c15_2       (PySem.FuncBody.stmts fb_c15_2) fs_c15_2 3 [] (PySem.Value.ref 118) PySem.Value.none PySem.Value.none       (PySem.Value.str (PySem.Str.ofString "proofkit.models") 306) Option.none (PySem.Value.ref 122) PySem.Value.none       0))   #[]
noncomputable def o5_124 (P : Params) : Obj := PySem.Obj.mk (PySem.Value.type "tuple") Option.none (PySem.Data.seq #[]) #[]
noncomputable def o5_125 (P : Params) : Obj := PySem.Obj.mk PySem.Value.none Option.none (PySem.Data.fields #[]) #[]
noncomputable def o5_126 (P : Params) : Obj := PySem.Obj.mk (PySem.Value.type "tuple") Option.none   (PySem.Data.seq     #[PySem.Value.str (PySem.Str.ofString "self") 345, PySem.Value.str (PySem.Str.ofString "f") 346,       PySem.Value.str (PySem.Str.ofString "given") 347, PySem.Value.str (PySem.Str.ofString "inner") 348,       PySem.Value.str (PySem.Str.ofString "thing") 349])   #[]
noncomputable def o5_127 (P : Params) : Obj := PySem.Obj.mk (PySem.Value.type "tuple") Option.none (PySem.Data.seq #[]) #[]
noncomputable abbrev fa_c15_3 : Arguments := by
  refine' (fun (k : Arguments) (_ : fnA (mt 15 3) = k) => k) _ ?h
  case h => (conv => lhs; whnf)
noncomputable abbrev fb_c15_3 : List Stmt := by
  refine' (fun (k : List Stmt) (_ : fnB (mt 15 3) = k) => k) _ ?h
  case h => (conv => lhs; whnf)
noncomputable abbrev fs_c15_3 : Scope := by
  refine' (fun (k : Scope) (_ : fnS (mt 15 3) = k) => k) _ ?h
  case h => (conv => lhs; whnf)
noncomputable def o5_128 (P : Params) : Obj := PySem.Obj.mk PySem.Value.none Option.none   (PySem.Data.func     (PySem.FuncData.mk (PySem.Str.ofString "_bound") (PySem.Str.ofString "Model._bound") fa_c15_3       (PySem.FuncBody.stmts fb_c15_3) fs_c15_3 0 [] PySem.Value.none PySem.Value.none PySem.Value.none PySem.Value.none       Option.none PySem.Value.none PySem.Value.none 0))   #[]
noncomputable def o5_129 (P : Params) : Obj := PySem.Obj.mk (PySem.Value.type "code") Option.none   (PySem.Data.fields     #[PySem.Value.str (PySem.Str.ofString "_bound") 342, PySem.Value.str (PySem.Str.ofString "Model._bound") 343,       PySem.Value.str (PySem.Str.ofString "/claim/cut.py") 344, PySem.Value.int 108 0, PySem.Value.int 3 0,       PySem.Value.int 0 0, PySem.Value.int 0 0, PySem.Value.int 3 0, PySem.Value.ref 124, PySem.Value.bool Bool.true,       PySem.Value.int 181 0, PySem.Value.ref 125, PySem.Value.none, PySem.Value.ref 126, PySem.Value.ref 127,       PySem.Value.ref 128, PySem.Value.int 350 0, PySem.Value.int 108 0,       PySem.Value.str (PySem.Str.ofString "/claim/cut.py") 351])   #[]
noncomputable def o5_130 (P : Params) : Obj := PySem.Obj.mk (PySem.Value.type "function") Option.none   (PySem.Data.func     (PySem.FuncData.mk (PySem.Str.ofString "_bound") (PySem.Str.ofString "Model._bound") fa_c15_3       (PySem.FuncBody.stmts fb_c15_3) fs_c15_3 3 [] PySem.Value.none PySem.Value.none PySem.Value.none       (PySem.Value.str (PySem.Str.ofString "proofkit.models") 306) Option.none (PySem.Value.ref 129) PySem.Value.none       0))   #[]
noncomputable def o5_131 (P : Params) : Obj := PySem.Obj.mk (PySem.Value.type "tuple") Option.none (PySem.Data.seq #[]) #[]
noncomputable def o5_132 (P : Params) : Obj := PySem.Obj.mk PySem.Value.none Option.none (PySem.Data.fields #[]) #[]
noncomputable def o5_133 (P : Params) : Obj := PySem.Obj.mk (PySem.Value.type "tuple") Option.none   (PySem.Data.seq     #[PySem.Value.str (PySem.Str.ofString "self") 356, PySem.Value.str (PySem.Str.ofString "f") 357,       PySem.Value.str (PySem.Str.ofString "names") 358, PySem.Value.str (PySem.Str.ofString "out") 359,       PySem.Value.str (PySem.Str.ofString "row") 360, PySem.Value.str (PySem.Str.ofString "given") 361,       PySem.Value.str (PySem.Str.ofString "k") 362])   #[]
noncomputable def o5_134 (P : Params) : Obj := PySem.Obj.mk (PySem.Value.type "tuple") Option.none (PySem.Data.seq #[]) #[]
noncomputable abbrev fa_c15_4 : Arguments := by
  refine' (fun (k : Arguments) (_ : fnA (mt 15 4) = k) => k) _ ?h
  case h => (conv => lhs; whnf)
noncomputable abbrev fb_c15_4 : List Stmt := by
  refine' (fun (k : List Stmt) (_ : fnB (mt 15 4) = k) => k) _ ?h
  case h => (conv => lhs; whnf)
noncomputable abbrev fs_c15_4 : Scope := by
  refine' (fun (k : Scope) (_ : fnS (mt 15 4) = k) => k) _ ?h
  case h => (conv => lhs; whnf)
noncomputable def o5_135 (P : Params) : Obj := PySem.Obj.mk PySem.Value.none Option.none   (PySem.Data.func     (PySem.FuncData.mk (PySem.Str.ofString "answers") (PySem.Str.ofString "Model.answers") fa_c15_4       (PySem.FuncBody.stmts fb_c15_4) fs_c15_4 0 [] PySem.Value.none PySem.Value.none PySem.Value.none PySem.Value.none       Option.none PySem.Value.none PySem.Value.none 0))   #[]
noncomputable def o5_136 (P : Params) : Obj := PySem.Obj.mk (PySem.Value.type "code") Option.none   (PySem.Data.fields     #[PySem.Value.str (PySem.Str.ofString "answers") 353, PySem.Value.str (PySem.Str.ofString "Model.answers") 354,       PySem.Value.str (PySem.Str.ofString "/claim/cut.py") 355, PySem.Value.int 116 0, PySem.Value.int 2 0,       PySem.Value.int 0 0, PySem.Value.int 0 0, PySem.Value.int 3 0, PySem.Value.ref 131, PySem.Value.bool Bool.true,       PySem.Value.int 181 0, PySem.Value.ref 132, PySem.Value.none, PySem.Value.ref 133, PySem.Value.ref 134,       PySem.Value.ref 135, PySem.Value.int 363 0, PySem.Value.int 116 0,       PySem.Value.str (PySem.Str.ofString "/claim/cut.py") 364])   #[]
noncomputable def o5_137 (P : Params) : Obj := PySem.Obj.mk (PySem.Value.type "function") Option.none   (PySem.Data.func     (PySem.FuncData.mk (PySem.Str.ofString "answers") (PySem.Str.ofString "Model.answers") fa_c15_4       (PySem.FuncBody.stmts fb_c15_4) fs_c15_4 3 [] PySem.Value.none PySem.Value.none PySem.Value.none       (PySem.Value.str (PySem.Str.ofString "proofkit.models") 306) Option.none (PySem.Value.ref 136) PySem.Value.none       0))   #[]
noncomputable def o5_138 (P : Params) : Obj := PySem.Obj.mk (PySem.Value.type "tuple") Option.none (PySem.Data.seq #[]) #[]
noncomputable def o5_139 (P : Params) : Obj := PySem.Obj.mk PySem.Value.none Option.none (PySem.Data.fields #[]) #[]
noncomputable def o5_140 (P : Params) : Obj := PySem.Obj.mk (PySem.Value.type "tuple") Option.none (PySem.Data.seq #[PySem.Value.str (PySem.Str.ofString "self") 369])   #[]
noncomputable def o5_141 (P : Params) : Obj := PySem.Obj.mk (PySem.Value.type "tuple") Option.none (PySem.Data.seq #[]) #[]
noncomputable abbrev fa_c15_5 : Arguments := by
  refine' (fun (k : Arguments) (_ : fnA (mt 15 5) = k) => k) _ ?h
  case h => (conv => lhs; whnf)
noncomputable abbrev fb_c15_5 : List Stmt := by
  refine' (fun (k : List Stmt) (_ : fnB (mt 15 5) = k) => k) _ ?h
  case h => (conv => lhs; whnf)
noncomputable abbrev fs_c15_5 : Scope := by
  refine' (fun (k : Scope) (_ : fnS (mt 15 5) = k) => k) _ ?h
  case h => (conv => lhs; whnf)
noncomputable def o5_142 (P : Params) : Obj := PySem.Obj.mk PySem.Value.none Option.none   (PySem.Data.func     (PySem.FuncData.mk (PySem.Str.ofString "show") (PySem.Str.ofString "Model.show") fa_c15_5       (PySem.FuncBody.stmts fb_c15_5) fs_c15_5 0 [] PySem.Value.none PySem.Value.none PySem.Value.none PySem.Value.none       Option.none PySem.Value.none PySem.Value.none 0))   #[]
noncomputable def o5_143 (P : Params) : Obj := PySem.Obj.mk (PySem.Value.type "code") Option.none   (PySem.Data.fields     #[PySem.Value.str (PySem.Str.ofString "show") 366, PySem.Value.str (PySem.Str.ofString "Model.show") 367,       PySem.Value.str (PySem.Str.ofString "/claim/cut.py") 368, PySem.Value.int 127 0, PySem.Value.int 1 0,       PySem.Value.int 0 0, PySem.Value.int 0 0, PySem.Value.int 3 0, PySem.Value.ref 138, PySem.Value.bool Bool.true,       PySem.Value.int 181 0, PySem.Value.ref 139, PySem.Value.none, PySem.Value.ref 140, PySem.Value.ref 141,       PySem.Value.ref 142, PySem.Value.int 370 0, PySem.Value.int 127 0,       PySem.Value.str (PySem.Str.ofString "/claim/cut.py") 371])   #[]
noncomputable def o5_144 (P : Params) : Obj := PySem.Obj.mk (PySem.Value.type "function") Option.none   (PySem.Data.func     (PySem.FuncData.mk (PySem.Str.ofString "show") (PySem.Str.ofString "Model.show") fa_c15_5       (PySem.FuncBody.stmts fb_c15_5) fs_c15_5 3 [] PySem.Value.none PySem.Value.none PySem.Value.none       (PySem.Value.str (PySem.Str.ofString "proofkit.models") 306) Option.none (PySem.Value.ref 143) PySem.Value.none       0))   #[]
noncomputable def o5_145 (P : Params) : Obj := PySem.Obj.mk (PySem.Value.type "tuple") Option.none   (PySem.Data.seq     #[PySem.Value.str (PySem.Str.ofString "functions") 373, PySem.Value.str (PySem.Str.ofString "relations") 374,       PySem.Value.str (PySem.Str.ofString "size") 375])   #[]
noncomputable def o5_146 (P : Params) : Obj := PySem.Obj.mk (PySem.Value.type "dict") Option.none   (PySem.Data.dict     #[PySem.DictEntry.mk (PySem.PyData.keyHash P (PySem.Str.ofString "__module__"))         (PySem.Value.str (PySem.Str.ofString "__module__") 315)         (PySem.Value.str (PySem.Str.ofString "proofkit.models") 306),       PySem.DictEntry.mk (PySem.PyData.keyHash P (PySem.Str.ofString "__firstlineno__"))         (PySem.Value.str (PySem.Str.ofString "__firstlineno__") 319) (PySem.Value.int 58 318),       PySem.DictEntry.mk (PySem.PyData.keyHash P (PySem.Str.ofString "__init__"))         (PySem.Value.str (PySem.Str.ofString "__init__") 329) (PySem.Value.ref 112),       PySem.DictEntry.mk (PySem.PyData.keyHash P (PySem.Str.ofString "term"))         (PySem.Value.str (PySem.Str.ofString "term") 335) (PySem.Value.ref 117),       PySem.DictEntry.mk (PySem.PyData.keyHash P (PySem.Str.ofString "holds"))         (PySem.Value.str (PySem.Str.ofString "holds") 341) (PySem.Value.ref 123),       PySem.DictEntry.mk (PySem.PyData.keyHash P (PySem.Str.ofString "_bound"))         (PySem.Value.str (PySem.Str.ofString "_bound") 352) (PySem.Value.ref 130),       PySem.DictEntry.mk (PySem.PyData.keyHash P (PySem.Str.ofString "answers"))         (PySem.Value.str (PySem.Str.ofString "answers") 365) (PySem.Value.ref 137),       PySem.DictEntry.mk (PySem.PyData.keyHash P (PySem.Str.ofString "show"))         (PySem.Value.str (PySem.Str.ofString "show") 372) (PySem.Value.ref 144),       PySem.DictEntry.mk (PySem.PyData.keyHash P (PySem.Str.ofString "__static_attributes__"))         (PySem.Value.str (PySem.Str.ofString "__static_attributes__") 376) (PySem.Value.ref 145),       PySem.DictEntry.mk (PySem.PyData.keyHash P (PySem.Str.ofString "__dict__"))         (PySem.Value.str (PySem.Str.ofString "__dict__") 378) (PySem.Value.ref 148),       PySem.DictEntry.mk (PySem.PyData.keyHash P (PySem.Str.ofString "__weakref__"))         (PySem.Value.str (PySem.Str.ofString "__weakref__") 380) (PySem.Value.ref 149),       PySem.DictEntry.mk (PySem.PyData.keyHash P (PySem.Str.ofString "__doc__"))         (PySem.Value.str (PySem.Str.ofString "__doc__") 381) PySem.Value.none]     4)   #[]
noncomputable def o5_147 (P : Params) : Obj := PySem.Obj.mk (PySem.Value.type "type") Option.none   (PySem.Data.cls     (PySem.ClassData.mk (PySem.Str.ofString "Model") [PySem.Value.type "object"]       [PySem.Value.ref 147, PySem.Value.type "object"] 146 (PySem.Str.ofString "Model") Bool.true [] [] Bool.false       Option.none Bool.false))   #[Option.none, Option.none, Option.some (PySem.Value.str (PySem.Str.ofString "Model") 308),     Option.some (PySem.Value.str (PySem.Str.ofString "Model") 316), Option.some (PySem.Value.builtin "object.__new__"),     Option.some (PySem.Value.bool Bool.true)]
noncomputable def o5_148 (P : Params) : Obj := PySem.Obj.mk (PySem.Value.type "getset_descriptor") Option.none   (PySem.Data.fields     #[PySem.Value.str (PySem.Str.ofString "__dict__") 377, PySem.Value.ref 147, PySem.Value.builtin "function.__dict__",       PySem.Value.builtin "function.__dict__#set"])   #[]
noncomputable def o5_149 (P : Params) : Obj := PySem.Obj.mk (PySem.Value.type "getset_descriptor") Option.none   (PySem.Data.fields     #[PySem.Value.str (PySem.Str.ofString "__weakref__") 379, PySem.Value.ref 147,       PySem.Value.builtin "ExceptionGroup.__weakref__", PySem.Value.none])   #[]
noncomputable def o5_150 (P : Params) : Obj := PySem.Obj.mk (PySem.Value.type "super") Option.none   (PySem.Data.fields #[PySem.Value.ref 147, PySem.Value.ref 147, PySem.Value.ref 147]) #[]
noncomputable def o5_151 (P : Params) : Obj := PySem.Obj.mk (PySem.Value.type "builtin_function_or_method") Option.none   (PySem.Data.fields #[PySem.Value.builtin "object.__init_subclass__", PySem.Value.ref 147]) #[]
noncomputable def h5 (P : Params) : Heap := ⟨⟨[PySem.W.boot_o_0 P, PySem.W.boot_o_1 P, PySem.W.boot_o_2 P, o5_3 P, PySem.W.boot_o_4 P, PySem.W.boot_o_5 P, PySem.W.boot_o_6 P, PySem.W.boot_o_7 P, PySem.W.boot_o_8 P, PySem.W.boot_o_9 P, PySem.W.boot_o_10 P, o0_11 P, o5_12 P, o0_13 P, o0_14 P, o2_15 P, o2_16 P, o2_17 P, o2_18 P, o2_19 P, o2_20 P, o2_21 P, o2_22 P, o2_23 P, o2_24 P, o2_25 P, o2_26 P, o2_27 P, o2_28 P, o2_29 P, o2_30 P, o3_31 P, o2_32 P, o2_33 P, o2_34 P, o3_35 P, o3_36 P, o3_37 P, o3_38 P, o3_39 P, o3_40 P, o3_41 P, o3_42 P, o3_43 P, o3_44 P, o3_45 P, o3_46 P, o3_47 P, o3_48 P, o3_49 P, o3_50 P, o3_51 P, o3_52 P, o3_53 P, o4_54 P, o4_55 P, o4_56 P, o4_57 P, o4_58 P, o4_59 P, o4_60 P, o4_61 P, o4_62 P, o4_63 P, o4_64 P, o4_65 P, o4_66 P, o4_67 P, o4_68 P, o4_69 P, o4_70 P, o4_71 P, o4_72 P, o4_73 P, o4_74 P, o4_75 P, o4_76 P, o4_77 P, o4_78 P, o4_79 P, o4_80 P, o4_81 P, o4_82 P, o4_83 P, o4_84 P, o4_85 P, o4_86 P, o4_87 P, o4_88 P, o4_89 P, o4_90 P, o4_91 P, o4_92 P, o4_93 P, o4_94 P, o4_95 P, o4_96 P, o4_97 P, o5_98 P, o5_99 P, o5_100 P, o5_101 P, o5_102 P, o5_103 P, o5_104 P, o5_105 P, o5_106 P, o5_107 P, o5_108 P, o5_109 P, o5_110 P, o5_111 P, o5_112 P, o5_113 P, o5_114 P, o5_115 P, o5_116 P, o5_117 P, o5_118 P, o5_119 P, o5_120 P, o5_121 P, o5_122 P, o5_123 P, o5_124 P, o5_125 P, o5_126 P, o5_127 P, o5_128 P, o5_129 P, o5_130 P, o5_131 P, o5_132 P, o5_133 P, o5_134 P, o5_135 P, o5_136 P, o5_137 P, o5_138 P, o5_139 P, o5_140 P, o5_141 P, o5_142 P, o5_143 P, o5_144 P, o5_145 P, o5_146 P, o5_147 P, o5_148 P, o5_149 P, o5_150 P, o5_151 P]⟩, PySem.Life.mk [] [] [] 0 [] [] Bool.false #[] [] 0 Bool.false Bool.false Bool.false 0 [2000, 10, 10] Bool.false 0   Bool.true [] [] 0 Bool.false⟩
noncomputable abbrev s5 (w : World) (os : OsState) : Shared := ⟨h5 w.params, ⟨[]⟩, PySem.Drawn.mk 0 0 0 0, 384, os⟩
noncomputable abbrev p5 : Pos := PySem.Pos.mk 58 0 128 16
noncomputable def o6_3 (P : Params) : Obj := PySem.Obj.mk (PySem.Value.type "dict") Option.none   (PySem.Data.dict     #[PySem.DictEntry.mk (PySem.PyData.keyHash P (PySem.Str.ofString "__name__"))         (PySem.Value.str (PySem.Str.ofString "__name__") 165)         (PySem.Value.str (PySem.Str.ofString "proofkit.reader") 411),       PySem.DictEntry.mk (PySem.PyData.keyHash P (PySem.Str.ofString "__doc__"))         (PySem.Value.str (PySem.Str.ofString "__doc__") 166) PySem.Value.none,       PySem.DictEntry.mk (PySem.PyData.keyHash P (PySem.Str.ofString "__package__"))         (PySem.Value.str (PySem.Str.ofString "__package__") 167) PySem.Value.none,       PySem.DictEntry.mk (PySem.PyData.keyHash P (PySem.Str.ofString "__loader__"))         (PySem.Value.str (PySem.Str.ofString "__loader__") 168) (PySem.Value.builtin "__main__.__loader__#opaque"),       PySem.DictEntry.mk (PySem.PyData.keyHash P (PySem.Str.ofString "__spec__"))         (PySem.Value.str (PySem.Str.ofString "__spec__") 169) PySem.Value.none,       PySem.DictEntry.mk (PySem.PyData.keyHash P (PySem.Str.ofString "__annotations__"))         (PySem.Value.str (PySem.Str.ofString "__annotations__") 170) (PySem.Value.ref 6),       PySem.DictEntry.mk (PySem.PyData.keyHash P (PySem.Str.ofString "__builtins__"))         (PySem.Value.str (PySem.Str.ofString "__builtins__") 171) (PySem.Value.ref 4),       PySem.DictEntry.mk (PySem.PyData.keyHash P (PySem.Str.ofString "__file__"))         (PySem.Value.str (PySem.Str.ofString "__file__") 173)         (PySem.Value.str (PySem.Str.ofString "/claim/cut.py") 172),       PySem.DictEntry.mk (PySem.PyData.keyHash P (PySem.Str.ofString "__cached__"))         (PySem.Value.str (PySem.Str.ofString "__cached__") 174) PySem.Value.none,       PySem.DictEntry.mk (PySem.PyData.keyHash P (PySem.Str.ofString "_wall"))         (PySem.Value.str (PySem.Str.ofString "_wall") 193) (PySem.Value.ref 21),       PySem.DictEntry.mk (PySem.PyData.keyHash P (PySem.Str.ofString "LogicError"))         (PySem.Value.str (PySem.Str.ofString "LogicError") 213) (PySem.Value.ref 31),       PySem.DictEntry.mk (PySem.PyData.keyHash P (PySem.Str.ofString "ReadError"))         (PySem.Value.str (PySem.Str.ofString "ReadError") 240) (PySem.Value.ref 51),       PySem.DictEntry.mk (PySem.PyData.keyHash P (PySem.Str.ofString "names"))         (PySem.Value.str (PySem.Str.ofString "names") 250) (PySem.Value.ref 60),       PySem.DictEntry.mk (PySem.PyData.keyHash P (PySem.Str.ofString "_names"))         (PySem.Value.str (PySem.Str.ofString "_names") 259) (PySem.Value.ref 67),       PySem.DictEntry.mk (PySem.PyData.keyHash P (PySem.Str.ofString "JOINS"))         (PySem.Value.str (PySem.Str.ofString "JOINS") 266) (PySem.Value.ref 68),       PySem.DictEntry.mk (PySem.PyData.keyHash P (PySem.Str.ofString "BINDERS"))         (PySem.Value.str (PySem.Str.ofString "BINDERS") 269) (PySem.Value.ref 69),       PySem.DictEntry.mk (PySem.PyData.keyHash P (PySem.Str.ofString "direct"))         (PySem.Value.str (PySem.Str.ofString "direct") 277) (PySem.Value.ref 76),       PySem.DictEntry.mk (PySem.PyData.keyHash P (PySem.Str.ofString "own_terms"))         (PySem.Value.str (PySem.Str.ofString "own_terms") 284) (PySem.Value.ref 83),       PySem.DictEntry.mk (PySem.PyData.keyHash P (PySem.Str.ofString "free"))         (PySem.Value.str (PySem.Str.ofString "free") 292) (PySem.Value.ref 90),       PySem.DictEntry.mk (PySem.PyData.keyHash P (PySem.Str.ofString "_free"))         (PySem.Value.str (PySem.Str.ofString "_free") 305) (PySem.Value.ref 97),       PySem.DictEntry.mk (PySem.PyData.keyHash P (PySem.Str.ofString "Model"))         (PySem.Value.str (PySem.Str.ofString "Model") 383) (PySem.Value.ref 147),       PySem.DictEntry.mk (PySem.PyData.keyHash P (PySem.Str.ofString "tuples"))         (PySem.Value.str (PySem.Str.ofString "tuples") 393) (PySem.Value.ref 158),       PySem.DictEntry.mk (PySem.PyData.keyHash P (PySem.Str.ofString "nth_model"))         (PySem.Value.str (PySem.Str.ofString "nth_model") 410) (PySem.Value.ref 165),       PySem.DictEntry.mk (PySem.PyData.keyHash P (PySem.Str.ofString "DEEP"))         (PySem.Value.str (PySem.Str.ofString "DEEP") 414) (PySem.Value.int 80 413),       PySem.DictEntry.mk (PySem.PyData.keyHash P (PySem.Str.ofString "SIGNS"))         (PySem.Value.str (PySem.Str.ofString "SIGNS") 425) (PySem.Value.ref 166),       PySem.DictEntry.mk (PySem.PyData.keyHash P (PySem.Str.ofString "is_letter"))         (PySem.Value.str (PySem.Str.ofString "is_letter") 432) (PySem.Value.ref 173),       PySem.DictEntry.mk (PySem.PyData.keyHash P (PySem.Str.ofString "is_rest"))         (PySem.Value.str (PySem.Str.ofString "is_rest") 439) (PySem.Value.ref 180),       PySem.DictEntry.mk (PySem.PyData.keyHash P (PySem.Str.ofString "tokens"))         (PySem.Value.str (PySem.Str.ofString "tokens") 451) (PySem.Value.ref 187),       PySem.DictEntry.mk (PySem.PyData.keyHash P (PySem.Str.ofString "is_variable"))         (PySem.Value.str (PySem.Str.ofString "is_variable") 458) (PySem.Value.ref 194)]     29)   #[]
noncomputable def o6_12 (P : Params) : Obj := PySem.Obj.mk PySem.Value.none Option.none   (PySem.Data.fields     #[PySem.Value.int 1 0, PySem.Value.int 0 0, PySem.Value.ref 20, PySem.Value.int 5 0, PySem.Value.int 0 0,       PySem.Value.ref 27, PySem.Value.int 7 0, PySem.Value.int 0 0, PySem.Value.ref 40, PySem.Value.int 14 0,       PySem.Value.int 0 0, PySem.Value.ref 59, PySem.Value.int 18 0, PySem.Value.int 0 0, PySem.Value.ref 66,       PySem.Value.int 28 0, PySem.Value.int 0 0, PySem.Value.ref 75, PySem.Value.int 37 0, PySem.Value.int 0 0,       PySem.Value.ref 82, PySem.Value.int 43 0, PySem.Value.int 0 0, PySem.Value.ref 89, PySem.Value.int 47 0,       PySem.Value.int 0 0, PySem.Value.ref 96, PySem.Value.int 58 0, PySem.Value.int 0 0, PySem.Value.ref 103,       PySem.Value.int 129 0, PySem.Value.int 0 0, PySem.Value.ref 157, PySem.Value.int 136 0, PySem.Value.int 0 0,       PySem.Value.ref 164, PySem.Value.int 158 0, PySem.Value.int 0 0, PySem.Value.ref 172, PySem.Value.int 160 0,       PySem.Value.int 0 0, PySem.Value.ref 179, PySem.Value.int 162 0, PySem.Value.int 0 0, PySem.Value.ref 186,       PySem.Value.int 186 0, PySem.Value.int 0 0, PySem.Value.ref 193])   #[]
noncomputable def o6_152 (P : Params) : Obj := PySem.Obj.mk (PySem.Value.type "tuple") Option.none (PySem.Data.seq #[]) #[]
noncomputable def o6_153 (P : Params) : Obj := PySem.Obj.mk PySem.Value.none Option.none (PySem.Data.fields #[]) #[]
noncomputable def o6_154 (P : Params) : Obj := PySem.Obj.mk (PySem.Value.type "tuple") Option.none   (PySem.Data.seq     #[PySem.Value.str (PySem.Str.ofString "size") 387, PySem.Value.str (PySem.Str.ofString "count") 388,       PySem.Value.str (PySem.Str.ofString "row") 389, PySem.Value.str (PySem.Str.ofString "thing") 390])   #[]
noncomputable def o6_155 (P : Params) : Obj := PySem.Obj.mk (PySem.Value.type "tuple") Option.none (PySem.Data.seq #[]) #[]
noncomputable abbrev fa_t16 : Arguments := by
  refine' (fun (k : Arguments) (_ : fnA (st 16) = k) => k) _ ?h
  case h => (conv => lhs; whnf)
noncomputable abbrev fb_t16 : List Stmt := by
  refine' (fun (k : List Stmt) (_ : fnB (st 16) = k) => k) _ ?h
  case h => (conv => lhs; whnf)
noncomputable abbrev fs_t16 : Scope := by
  refine' (fun (k : Scope) (_ : fnS (st 16) = k) => k) _ ?h
  case h => (conv => lhs; whnf)
noncomputable def o6_156 (P : Params) : Obj := PySem.Obj.mk PySem.Value.none Option.none   (PySem.Data.func     (PySem.FuncData.mk (PySem.Str.ofString "tuples") (PySem.Str.ofString "tuples") fa_t16 (PySem.FuncBody.stmts fb_t16)       fs_t16 0 [] PySem.Value.none PySem.Value.none PySem.Value.none PySem.Value.none Option.none PySem.Value.none       PySem.Value.none 0))   #[]
noncomputable def o6_157 (P : Params) : Obj := PySem.Obj.mk (PySem.Value.type "code") Option.none   (PySem.Data.fields     #[PySem.Value.str (PySem.Str.ofString "tuples") 384, PySem.Value.str (PySem.Str.ofString "tuples") 385,       PySem.Value.str (PySem.Str.ofString "/claim/cut.py") 386, PySem.Value.int 129 0, PySem.Value.int 2 0,       PySem.Value.int 0 0, PySem.Value.int 0 0, PySem.Value.int 35 0, PySem.Value.ref 152, PySem.Value.bool Bool.true,       PySem.Value.int 181 0, PySem.Value.ref 153, PySem.Value.none, PySem.Value.ref 154, PySem.Value.ref 155,       PySem.Value.ref 156, PySem.Value.int 391 0, PySem.Value.int 129 0,       PySem.Value.str (PySem.Str.ofString "/claim/cut.py") 392])   #[]
noncomputable def o6_158 (P : Params) : Obj := PySem.Obj.mk (PySem.Value.type "function") Option.none   (PySem.Data.func     (PySem.FuncData.mk (PySem.Str.ofString "tuples") (PySem.Str.ofString "tuples") fa_t16 (PySem.FuncBody.stmts fb_t16)       fs_t16 3 [] PySem.Value.none PySem.Value.none PySem.Value.none       (PySem.Value.str (PySem.Str.ofString "proofkit.models") 306) Option.none (PySem.Value.ref 157) PySem.Value.none       0))   #[]
noncomputable def o6_159 (P : Params) : Obj := PySem.Obj.mk (PySem.Value.type "tuple") Option.none (PySem.Data.seq #[]) #[]
noncomputable def o6_160 (P : Params) : Obj := PySem.Obj.mk PySem.Value.none Option.none (PySem.Data.fields #[]) #[]
noncomputable def o6_161 (P : Params) : Obj := PySem.Obj.mk (PySem.Value.type "tuple") Option.none   (PySem.Data.seq     #[PySem.Value.str (PySem.Str.ofString "size") 397, PySem.Value.str (PySem.Str.ofString "relations") 398,       PySem.Value.str (PySem.Str.ofString "functions") 399, PySem.Value.str (PySem.Str.ofString "number") 400,       PySem.Value.str (PySem.Str.ofString "made") 401, PySem.Value.str (PySem.Str.ofString "name") 402,       PySem.Value.str (PySem.Str.ofString "count") 403, PySem.Value.str (PySem.Str.ofString "rows") 404,       PySem.Value.str (PySem.Str.ofString "row") 405, PySem.Value.str (PySem.Str.ofString "laid") 406,       PySem.Value.str (PySem.Str.ofString "table") 407])   #[]
noncomputable def o6_162 (P : Params) : Obj := PySem.Obj.mk (PySem.Value.type "tuple") Option.none (PySem.Data.seq #[]) #[]
noncomputable abbrev fa_t17 : Arguments := by
  refine' (fun (k : Arguments) (_ : fnA (st 17) = k) => k) _ ?h
  case h => (conv => lhs; whnf)
noncomputable abbrev fb_t17 : List Stmt := by
  refine' (fun (k : List Stmt) (_ : fnB (st 17) = k) => k) _ ?h
  case h => (conv => lhs; whnf)
noncomputable abbrev fs_t17 : Scope := by
  refine' (fun (k : Scope) (_ : fnS (st 17) = k) => k) _ ?h
  case h => (conv => lhs; whnf)
noncomputable def o6_163 (P : Params) : Obj := PySem.Obj.mk PySem.Value.none Option.none   (PySem.Data.func     (PySem.FuncData.mk (PySem.Str.ofString "nth_model") (PySem.Str.ofString "nth_model") fa_t17       (PySem.FuncBody.stmts fb_t17) fs_t17 0 [] PySem.Value.none PySem.Value.none PySem.Value.none PySem.Value.none       Option.none PySem.Value.none PySem.Value.none 0))   #[]
noncomputable def o6_164 (P : Params) : Obj := PySem.Obj.mk (PySem.Value.type "code") Option.none   (PySem.Data.fields     #[PySem.Value.str (PySem.Str.ofString "nth_model") 394, PySem.Value.str (PySem.Str.ofString "nth_model") 395,       PySem.Value.str (PySem.Str.ofString "/claim/cut.py") 396, PySem.Value.int 136 0, PySem.Value.int 4 0,       PySem.Value.int 0 0, PySem.Value.int 0 0, PySem.Value.int 3 0, PySem.Value.ref 159, PySem.Value.bool Bool.true,       PySem.Value.int 181 0, PySem.Value.ref 160, PySem.Value.none, PySem.Value.ref 161, PySem.Value.ref 162,       PySem.Value.ref 163, PySem.Value.int 408 0, PySem.Value.int 136 0,       PySem.Value.str (PySem.Str.ofString "/claim/cut.py") 409])   #[]
noncomputable def o6_165 (P : Params) : Obj := PySem.Obj.mk (PySem.Value.type "function") Option.none   (PySem.Data.func     (PySem.FuncData.mk (PySem.Str.ofString "nth_model") (PySem.Str.ofString "nth_model") fa_t17       (PySem.FuncBody.stmts fb_t17) fs_t17 3 [] PySem.Value.none PySem.Value.none PySem.Value.none       (PySem.Value.str (PySem.Str.ofString "proofkit.models") 306) Option.none (PySem.Value.ref 164) PySem.Value.none       0))   #[]
noncomputable def o6_166 (P : Params) : Obj := PySem.Obj.mk (PySem.Value.type "list") Option.none   (PySem.Data.seq     #[PySem.Value.str (PySem.Str.ofString "<->") 415, PySem.Value.str (PySem.Str.ofString "->") 416,       PySem.Value.str (PySem.Str.ofString "~") 417, PySem.Value.str (PySem.Str.ofString "&") 418,       PySem.Value.str (PySem.Str.ofString "|") 419, PySem.Value.str (PySem.Str.ofString "=") 420,       PySem.Value.str (PySem.Str.ofString "(") 421, PySem.Value.str (PySem.Str.ofString ")") 422,       PySem.Value.str (PySem.Str.ofString ",") 423, PySem.Value.str (PySem.Str.ofString ".") 424])   #[]
noncomputable def o6_167 (P : Params) : Obj := PySem.Obj.mk (PySem.Value.type "tuple") Option.none (PySem.Data.seq #[]) #[]
noncomputable def o6_168 (P : Params) : Obj := PySem.Obj.mk PySem.Value.none Option.none (PySem.Data.fields #[]) #[]
noncomputable def o6_169 (P : Params) : Obj := PySem.Obj.mk (PySem.Value.type "tuple") Option.none (PySem.Data.seq #[PySem.Value.str (PySem.Str.ofString "sign") 429])   #[]
noncomputable def o6_170 (P : Params) : Obj := PySem.Obj.mk (PySem.Value.type "tuple") Option.none (PySem.Data.seq #[]) #[]
noncomputable abbrev fa_t21 : Arguments := by
  refine' (fun (k : Arguments) (_ : fnA (st 21) = k) => k) _ ?h
  case h => (conv => lhs; whnf)
noncomputable abbrev fb_t21 : List Stmt := by
  refine' (fun (k : List Stmt) (_ : fnB (st 21) = k) => k) _ ?h
  case h => (conv => lhs; whnf)
noncomputable abbrev fs_t21 : Scope := by
  refine' (fun (k : Scope) (_ : fnS (st 21) = k) => k) _ ?h
  case h => (conv => lhs; whnf)
noncomputable def o6_171 (P : Params) : Obj := PySem.Obj.mk PySem.Value.none Option.none   (PySem.Data.func     (PySem.FuncData.mk (PySem.Str.ofString "is_letter") (PySem.Str.ofString "is_letter") fa_t21       (PySem.FuncBody.stmts fb_t21) fs_t21 0 [] PySem.Value.none PySem.Value.none PySem.Value.none PySem.Value.none       Option.none PySem.Value.none PySem.Value.none 0))   #[]
noncomputable def o6_172 (P : Params) : Obj := PySem.Obj.mk (PySem.Value.type "code") Option.none   (PySem.Data.fields     #[PySem.Value.str (PySem.Str.ofString "is_letter") 426, PySem.Value.str (PySem.Str.ofString "is_letter") 427,       PySem.Value.str (PySem.Str.ofString "/claim/cut.py") 428, PySem.Value.int 158 0, PySem.Value.int 1 0,       PySem.Value.int 0 0, PySem.Value.int 0 0, PySem.Value.int 3 0, PySem.Value.ref 167, PySem.Value.bool Bool.true,       PySem.Value.int 181 0, PySem.Value.ref 168, PySem.Value.none, PySem.Value.ref 169, PySem.Value.ref 170,       PySem.Value.ref 171, PySem.Value.int 430 0, PySem.Value.int 158 0,       PySem.Value.str (PySem.Str.ofString "/claim/cut.py") 431])   #[]
noncomputable def o6_173 (P : Params) : Obj := PySem.Obj.mk (PySem.Value.type "function") Option.none   (PySem.Data.func     (PySem.FuncData.mk (PySem.Str.ofString "is_letter") (PySem.Str.ofString "is_letter") fa_t21       (PySem.FuncBody.stmts fb_t21) fs_t21 3 [] PySem.Value.none PySem.Value.none PySem.Value.none       (PySem.Value.str (PySem.Str.ofString "proofkit.reader") 411) Option.none (PySem.Value.ref 172) PySem.Value.none       0))   #[]
noncomputable def o6_174 (P : Params) : Obj := PySem.Obj.mk (PySem.Value.type "tuple") Option.none (PySem.Data.seq #[]) #[]
noncomputable def o6_175 (P : Params) : Obj := PySem.Obj.mk PySem.Value.none Option.none (PySem.Data.fields #[]) #[]
noncomputable def o6_176 (P : Params) : Obj := PySem.Obj.mk (PySem.Value.type "tuple") Option.none (PySem.Data.seq #[PySem.Value.str (PySem.Str.ofString "sign") 436])   #[]
noncomputable def o6_177 (P : Params) : Obj := PySem.Obj.mk (PySem.Value.type "tuple") Option.none (PySem.Data.seq #[]) #[]
noncomputable abbrev fa_t22 : Arguments := by
  refine' (fun (k : Arguments) (_ : fnA (st 22) = k) => k) _ ?h
  case h => (conv => lhs; whnf)
noncomputable abbrev fb_t22 : List Stmt := by
  refine' (fun (k : List Stmt) (_ : fnB (st 22) = k) => k) _ ?h
  case h => (conv => lhs; whnf)
noncomputable abbrev fs_t22 : Scope := by
  refine' (fun (k : Scope) (_ : fnS (st 22) = k) => k) _ ?h
  case h => (conv => lhs; whnf)
noncomputable def o6_178 (P : Params) : Obj := PySem.Obj.mk PySem.Value.none Option.none   (PySem.Data.func     (PySem.FuncData.mk (PySem.Str.ofString "is_rest") (PySem.Str.ofString "is_rest") fa_t22       (PySem.FuncBody.stmts fb_t22) fs_t22 0 [] PySem.Value.none PySem.Value.none PySem.Value.none PySem.Value.none       Option.none PySem.Value.none PySem.Value.none 0))   #[]
noncomputable def o6_179 (P : Params) : Obj := PySem.Obj.mk (PySem.Value.type "code") Option.none   (PySem.Data.fields     #[PySem.Value.str (PySem.Str.ofString "is_rest") 433, PySem.Value.str (PySem.Str.ofString "is_rest") 434,       PySem.Value.str (PySem.Str.ofString "/claim/cut.py") 435, PySem.Value.int 160 0, PySem.Value.int 1 0,       PySem.Value.int 0 0, PySem.Value.int 0 0, PySem.Value.int 3 0, PySem.Value.ref 174, PySem.Value.bool Bool.true,       PySem.Value.int 181 0, PySem.Value.ref 175, PySem.Value.none, PySem.Value.ref 176, PySem.Value.ref 177,       PySem.Value.ref 178, PySem.Value.int 437 0, PySem.Value.int 160 0,       PySem.Value.str (PySem.Str.ofString "/claim/cut.py") 438])   #[]
noncomputable def o6_180 (P : Params) : Obj := PySem.Obj.mk (PySem.Value.type "function") Option.none   (PySem.Data.func     (PySem.FuncData.mk (PySem.Str.ofString "is_rest") (PySem.Str.ofString "is_rest") fa_t22       (PySem.FuncBody.stmts fb_t22) fs_t22 3 [] PySem.Value.none PySem.Value.none PySem.Value.none       (PySem.Value.str (PySem.Str.ofString "proofkit.reader") 411) Option.none (PySem.Value.ref 179) PySem.Value.none       0))   #[]
noncomputable def o6_181 (P : Params) : Obj := PySem.Obj.mk (PySem.Value.type "tuple") Option.none (PySem.Data.seq #[]) #[]
noncomputable def o6_182 (P : Params) : Obj := PySem.Obj.mk PySem.Value.none Option.none (PySem.Data.fields #[]) #[]
noncomputable def o6_183 (P : Params) : Obj := PySem.Obj.mk (PySem.Value.type "tuple") Option.none   (PySem.Data.seq     #[PySem.Value.str (PySem.Str.ofString "text") 443, PySem.Value.str (PySem.Str.ofString "out") 444,       PySem.Value.str (PySem.Str.ofString "i") 445, PySem.Value.str (PySem.Str.ofString "j") 446,       PySem.Value.str (PySem.Str.ofString "found") 447, PySem.Value.str (PySem.Str.ofString "sign") 448])   #[]
noncomputable def o6_184 (P : Params) : Obj := PySem.Obj.mk (PySem.Value.type "tuple") Option.none (PySem.Data.seq #[]) #[]
noncomputable abbrev fa_t23 : Arguments := by
  refine' (fun (k : Arguments) (_ : fnA (st 23) = k) => k) _ ?h
  case h => (conv => lhs; whnf)
noncomputable abbrev fb_t23 : List Stmt := by
  refine' (fun (k : List Stmt) (_ : fnB (st 23) = k) => k) _ ?h
  case h => (conv => lhs; whnf)
noncomputable abbrev fs_t23 : Scope := by
  refine' (fun (k : Scope) (_ : fnS (st 23) = k) => k) _ ?h
  case h => (conv => lhs; whnf)
noncomputable def o6_185 (P : Params) : Obj := PySem.Obj.mk PySem.Value.none Option.none   (PySem.Data.func     (PySem.FuncData.mk (PySem.Str.ofString "tokens") (PySem.Str.ofString "tokens") fa_t23 (PySem.FuncBody.stmts fb_t23)       fs_t23 0 [] PySem.Value.none PySem.Value.none PySem.Value.none PySem.Value.none Option.none PySem.Value.none       PySem.Value.none 0))   #[]
noncomputable def o6_186 (P : Params) : Obj := PySem.Obj.mk (PySem.Value.type "code") Option.none   (PySem.Data.fields     #[PySem.Value.str (PySem.Str.ofString "tokens") 440, PySem.Value.str (PySem.Str.ofString "tokens") 441,       PySem.Value.str (PySem.Str.ofString "/claim/cut.py") 442, PySem.Value.int 162 0, PySem.Value.int 1 0,       PySem.Value.int 0 0, PySem.Value.int 0 0, PySem.Value.int 3 0, PySem.Value.ref 181, PySem.Value.bool Bool.true,       PySem.Value.int 181 0, PySem.Value.ref 182, PySem.Value.none, PySem.Value.ref 183, PySem.Value.ref 184,       PySem.Value.ref 185, PySem.Value.int 449 0, PySem.Value.int 162 0,       PySem.Value.str (PySem.Str.ofString "/claim/cut.py") 450])   #[]
noncomputable def o6_187 (P : Params) : Obj := PySem.Obj.mk (PySem.Value.type "function") Option.none   (PySem.Data.func     (PySem.FuncData.mk (PySem.Str.ofString "tokens") (PySem.Str.ofString "tokens") fa_t23 (PySem.FuncBody.stmts fb_t23)       fs_t23 3 [] PySem.Value.none PySem.Value.none PySem.Value.none       (PySem.Value.str (PySem.Str.ofString "proofkit.reader") 411) Option.none (PySem.Value.ref 186) PySem.Value.none       0))   #[]
noncomputable def o6_188 (P : Params) : Obj := PySem.Obj.mk (PySem.Value.type "tuple") Option.none (PySem.Data.seq #[]) #[]
noncomputable def o6_189 (P : Params) : Obj := PySem.Obj.mk PySem.Value.none Option.none (PySem.Data.fields #[]) #[]
noncomputable def o6_190 (P : Params) : Obj := PySem.Obj.mk (PySem.Value.type "tuple") Option.none (PySem.Data.seq #[PySem.Value.str (PySem.Str.ofString "name") 455])   #[]
noncomputable def o6_191 (P : Params) : Obj := PySem.Obj.mk (PySem.Value.type "tuple") Option.none (PySem.Data.seq #[]) #[]
noncomputable abbrev fa_t24 : Arguments := by
  refine' (fun (k : Arguments) (_ : fnA (st 24) = k) => k) _ ?h
  case h => (conv => lhs; whnf)
noncomputable abbrev fb_t24 : List Stmt := by
  refine' (fun (k : List Stmt) (_ : fnB (st 24) = k) => k) _ ?h
  case h => (conv => lhs; whnf)
noncomputable abbrev fs_t24 : Scope := by
  refine' (fun (k : Scope) (_ : fnS (st 24) = k) => k) _ ?h
  case h => (conv => lhs; whnf)
noncomputable def o6_192 (P : Params) : Obj := PySem.Obj.mk PySem.Value.none Option.none   (PySem.Data.func     (PySem.FuncData.mk (PySem.Str.ofString "is_variable") (PySem.Str.ofString "is_variable") fa_t24       (PySem.FuncBody.stmts fb_t24) fs_t24 0 [] PySem.Value.none PySem.Value.none PySem.Value.none PySem.Value.none       Option.none PySem.Value.none PySem.Value.none 0))   #[]
noncomputable def o6_193 (P : Params) : Obj := PySem.Obj.mk (PySem.Value.type "code") Option.none   (PySem.Data.fields     #[PySem.Value.str (PySem.Str.ofString "is_variable") 452, PySem.Value.str (PySem.Str.ofString "is_variable") 453,       PySem.Value.str (PySem.Str.ofString "/claim/cut.py") 454, PySem.Value.int 186 0, PySem.Value.int 1 0,       PySem.Value.int 0 0, PySem.Value.int 0 0, PySem.Value.int 3 0, PySem.Value.ref 188, PySem.Value.bool Bool.true,       PySem.Value.int 181 0, PySem.Value.ref 189, PySem.Value.none, PySem.Value.ref 190, PySem.Value.ref 191,       PySem.Value.ref 192, PySem.Value.int 456 0, PySem.Value.int 186 0,       PySem.Value.str (PySem.Str.ofString "/claim/cut.py") 457])   #[]
noncomputable def o6_194 (P : Params) : Obj := PySem.Obj.mk (PySem.Value.type "function") Option.none   (PySem.Data.func     (PySem.FuncData.mk (PySem.Str.ofString "is_variable") (PySem.Str.ofString "is_variable") fa_t24       (PySem.FuncBody.stmts fb_t24) fs_t24 3 [] PySem.Value.none PySem.Value.none PySem.Value.none       (PySem.Value.str (PySem.Str.ofString "proofkit.reader") 411) Option.none (PySem.Value.ref 193) PySem.Value.none       0))   #[]
noncomputable def h6 (P : Params) : Heap := ⟨⟨[PySem.W.boot_o_0 P, PySem.W.boot_o_1 P, PySem.W.boot_o_2 P, o6_3 P, PySem.W.boot_o_4 P, PySem.W.boot_o_5 P, PySem.W.boot_o_6 P, PySem.W.boot_o_7 P, PySem.W.boot_o_8 P, PySem.W.boot_o_9 P, PySem.W.boot_o_10 P, o0_11 P, o6_12 P, o0_13 P, o0_14 P, o2_15 P, o2_16 P, o2_17 P, o2_18 P, o2_19 P, o2_20 P, o2_21 P, o2_22 P, o2_23 P, o2_24 P, o2_25 P, o2_26 P, o2_27 P, o2_28 P, o2_29 P, o2_30 P, o3_31 P, o2_32 P, o2_33 P, o2_34 P, o3_35 P, o3_36 P, o3_37 P, o3_38 P, o3_39 P, o3_40 P, o3_41 P, o3_42 P, o3_43 P, o3_44 P, o3_45 P, o3_46 P, o3_47 P, o3_48 P, o3_49 P, o3_50 P, o3_51 P, o3_52 P, o3_53 P, o4_54 P, o4_55 P, o4_56 P, o4_57 P, o4_58 P, o4_59 P, o4_60 P, o4_61 P, o4_62 P, o4_63 P, o4_64 P, o4_65 P, o4_66 P, o4_67 P, o4_68 P, o4_69 P, o4_70 P, o4_71 P, o4_72 P, o4_73 P, o4_74 P, o4_75 P, o4_76 P, o4_77 P, o4_78 P, o4_79 P, o4_80 P, o4_81 P, o4_82 P, o4_83 P, o4_84 P, o4_85 P, o4_86 P, o4_87 P, o4_88 P, o4_89 P, o4_90 P, o4_91 P, o4_92 P, o4_93 P, o4_94 P, o4_95 P, o4_96 P, o4_97 P, o5_98 P, o5_99 P, o5_100 P, o5_101 P, o5_102 P, o5_103 P, o5_104 P, o5_105 P, o5_106 P, o5_107 P, o5_108 P, o5_109 P, o5_110 P, o5_111 P, o5_112 P, o5_113 P, o5_114 P, o5_115 P, o5_116 P, o5_117 P, o5_118 P, o5_119 P, o5_120 P, o5_121 P, o5_122 P, o5_123 P, o5_124 P, o5_125 P, o5_126 P, o5_127 P, o5_128 P, o5_129 P, o5_130 P, o5_131 P, o5_132 P, o5_133 P, o5_134 P, o5_135 P, o5_136 P, o5_137 P, o5_138 P, o5_139 P, o5_140 P, o5_141 P, o5_142 P, o5_143 P, o5_144 P, o5_145 P, o5_146 P, o5_147 P, o5_148 P, o5_149 P, o5_150 P, o5_151 P, o6_152 P, o6_153 P, o6_154 P, o6_155 P, o6_156 P, o6_157 P, o6_158 P, o6_159 P, o6_160 P, o6_161 P, o6_162 P, o6_163 P, o6_164 P, o6_165 P, o6_166 P, o6_167 P, o6_168 P, o6_169 P, o6_170 P, o6_171 P, o6_172 P, o6_173 P, o6_174 P, o6_175 P, o6_176 P, o6_177 P, o6_178 P, o6_179 P, o6_180 P, o6_181 P, o6_182 P, o6_183 P, o6_184 P, o6_185 P, o6_186 P, o6_187 P, o6_188 P, o6_189 P, o6_190 P, o6_191 P, o6_192 P, o6_193 P, o6_194 P]⟩, PySem.Life.mk [] [] [] 0 [] [] Bool.false #[] [] 0 Bool.false Bool.false Bool.false 0 [2000, 10, 10] Bool.false 0   Bool.true [] [] 0 Bool.false⟩
noncomputable abbrev s6 (w : World) (os : OsState) : Shared := ⟨h6 w.params, ⟨[]⟩, PySem.Drawn.mk 0 0 0 0, 459, os⟩
noncomputable abbrev p6 : Pos := PySem.Pos.mk 186 0 187 32
noncomputable def o7_3 (P : Params) : Obj := PySem.Obj.mk (PySem.Value.type "dict") Option.none   (PySem.Data.dict     #[PySem.DictEntry.mk (PySem.PyData.keyHash P (PySem.Str.ofString "__name__"))         (PySem.Value.str (PySem.Str.ofString "__name__") 165)         (PySem.Value.str (PySem.Str.ofString "proofkit.reader") 411),       PySem.DictEntry.mk (PySem.PyData.keyHash P (PySem.Str.ofString "__doc__"))         (PySem.Value.str (PySem.Str.ofString "__doc__") 166) PySem.Value.none,       PySem.DictEntry.mk (PySem.PyData.keyHash P (PySem.Str.ofString "__package__"))         (PySem.Value.str (PySem.Str.ofString "__package__") 167) PySem.Value.none,       PySem.DictEntry.mk (PySem.PyData.keyHash P (PySem.Str.ofString "__loader__"))         (PySem.Value.str (PySem.Str.ofString "__loader__") 168) (PySem.Value.builtin "__main__.__loader__#opaque"),       PySem.DictEntry.mk (PySem.PyData.keyHash P (PySem.Str.ofString "__spec__"))         (PySem.Value.str (PySem.Str.ofString "__spec__") 169) PySem.Value.none,       PySem.DictEntry.mk (PySem.PyData.keyHash P (PySem.Str.ofString "__annotations__"))         (PySem.Value.str (PySem.Str.ofString "__annotations__") 170) (PySem.Value.ref 6),       PySem.DictEntry.mk (PySem.PyData.keyHash P (PySem.Str.ofString "__builtins__"))         (PySem.Value.str (PySem.Str.ofString "__builtins__") 171) (PySem.Value.ref 4),       PySem.DictEntry.mk (PySem.PyData.keyHash P (PySem.Str.ofString "__file__"))         (PySem.Value.str (PySem.Str.ofString "__file__") 173)         (PySem.Value.str (PySem.Str.ofString "/claim/cut.py") 172),       PySem.DictEntry.mk (PySem.PyData.keyHash P (PySem.Str.ofString "__cached__"))         (PySem.Value.str (PySem.Str.ofString "__cached__") 174) PySem.Value.none,       PySem.DictEntry.mk (PySem.PyData.keyHash P (PySem.Str.ofString "_wall"))         (PySem.Value.str (PySem.Str.ofString "_wall") 193) (PySem.Value.ref 21),       PySem.DictEntry.mk (PySem.PyData.keyHash P (PySem.Str.ofString "LogicError"))         (PySem.Value.str (PySem.Str.ofString "LogicError") 213) (PySem.Value.ref 31),       PySem.DictEntry.mk (PySem.PyData.keyHash P (PySem.Str.ofString "ReadError"))         (PySem.Value.str (PySem.Str.ofString "ReadError") 240) (PySem.Value.ref 51),       PySem.DictEntry.mk (PySem.PyData.keyHash P (PySem.Str.ofString "names"))         (PySem.Value.str (PySem.Str.ofString "names") 250) (PySem.Value.ref 60),       PySem.DictEntry.mk (PySem.PyData.keyHash P (PySem.Str.ofString "_names"))         (PySem.Value.str (PySem.Str.ofString "_names") 259) (PySem.Value.ref 67),       PySem.DictEntry.mk (PySem.PyData.keyHash P (PySem.Str.ofString "JOINS"))         (PySem.Value.str (PySem.Str.ofString "JOINS") 266) (PySem.Value.ref 68),       PySem.DictEntry.mk (PySem.PyData.keyHash P (PySem.Str.ofString "BINDERS"))         (PySem.Value.str (PySem.Str.ofString "BINDERS") 269) (PySem.Value.ref 69),       PySem.DictEntry.mk (PySem.PyData.keyHash P (PySem.Str.ofString "direct"))         (PySem.Value.str (PySem.Str.ofString "direct") 277) (PySem.Value.ref 76),       PySem.DictEntry.mk (PySem.PyData.keyHash P (PySem.Str.ofString "own_terms"))         (PySem.Value.str (PySem.Str.ofString "own_terms") 284) (PySem.Value.ref 83),       PySem.DictEntry.mk (PySem.PyData.keyHash P (PySem.Str.ofString "free"))         (PySem.Value.str (PySem.Str.ofString "free") 292) (PySem.Value.ref 90),       PySem.DictEntry.mk (PySem.PyData.keyHash P (PySem.Str.ofString "_free"))         (PySem.Value.str (PySem.Str.ofString "_free") 305) (PySem.Value.ref 97),       PySem.DictEntry.mk (PySem.PyData.keyHash P (PySem.Str.ofString "Model"))         (PySem.Value.str (PySem.Str.ofString "Model") 383) (PySem.Value.ref 147),       PySem.DictEntry.mk (PySem.PyData.keyHash P (PySem.Str.ofString "tuples"))         (PySem.Value.str (PySem.Str.ofString "tuples") 393) (PySem.Value.ref 158),       PySem.DictEntry.mk (PySem.PyData.keyHash P (PySem.Str.ofString "nth_model"))         (PySem.Value.str (PySem.Str.ofString "nth_model") 410) (PySem.Value.ref 165),       PySem.DictEntry.mk (PySem.PyData.keyHash P (PySem.Str.ofString "DEEP"))         (PySem.Value.str (PySem.Str.ofString "DEEP") 414) (PySem.Value.int 80 413),       PySem.DictEntry.mk (PySem.PyData.keyHash P (PySem.Str.ofString "SIGNS"))         (PySem.Value.str (PySem.Str.ofString "SIGNS") 425) (PySem.Value.ref 166),       PySem.DictEntry.mk (PySem.PyData.keyHash P (PySem.Str.ofString "is_letter"))         (PySem.Value.str (PySem.Str.ofString "is_letter") 432) (PySem.Value.ref 173),       PySem.DictEntry.mk (PySem.PyData.keyHash P (PySem.Str.ofString "is_rest"))         (PySem.Value.str (PySem.Str.ofString "is_rest") 439) (PySem.Value.ref 180),       PySem.DictEntry.mk (PySem.PyData.keyHash P (PySem.Str.ofString "tokens"))         (PySem.Value.str (PySem.Str.ofString "tokens") 451) (PySem.Value.ref 187),       PySem.DictEntry.mk (PySem.PyData.keyHash P (PySem.Str.ofString "is_variable"))         (PySem.Value.str (PySem.Str.ofString "is_variable") 458) (PySem.Value.ref 194),       PySem.DictEntry.mk (PySem.PyData.keyHash P (PySem.Str.ofString "Reader"))         (PySem.Value.str (PySem.Str.ofString "Reader") 615) (PySem.Value.ref 316)]     30)   #[]
noncomputable def o7_12 (P : Params) : Obj := PySem.Obj.mk PySem.Value.none Option.none   (PySem.Data.fields     #[PySem.Value.int 1 0, PySem.Value.int 0 0, PySem.Value.ref 20, PySem.Value.int 5 0, PySem.Value.int 0 0,       PySem.Value.ref 27, PySem.Value.int 7 0, PySem.Value.int 0 0, PySem.Value.ref 40, PySem.Value.int 14 0,       PySem.Value.int 0 0, PySem.Value.ref 59, PySem.Value.int 18 0, PySem.Value.int 0 0, PySem.Value.ref 66,       PySem.Value.int 28 0, PySem.Value.int 0 0, PySem.Value.ref 75, PySem.Value.int 37 0, PySem.Value.int 0 0,       PySem.Value.ref 82, PySem.Value.int 43 0, PySem.Value.int 0 0, PySem.Value.ref 89, PySem.Value.int 47 0,       PySem.Value.int 0 0, PySem.Value.ref 96, PySem.Value.int 58 0, PySem.Value.int 0 0, PySem.Value.ref 103,       PySem.Value.int 129 0, PySem.Value.int 0 0, PySem.Value.ref 157, PySem.Value.int 136 0, PySem.Value.int 0 0,       PySem.Value.ref 164, PySem.Value.int 158 0, PySem.Value.int 0 0, PySem.Value.ref 172, PySem.Value.int 160 0,       PySem.Value.int 0 0, PySem.Value.ref 179, PySem.Value.int 162 0, PySem.Value.int 0 0, PySem.Value.ref 186,       PySem.Value.int 186 0, PySem.Value.int 0 0, PySem.Value.ref 193, PySem.Value.int 188 0, PySem.Value.int 0 0,       PySem.Value.ref 200])   #[]
noncomputable def o7_195 (P : Params) : Obj := PySem.Obj.mk (PySem.Value.type "tuple") Option.none (PySem.Data.seq #[]) #[]
noncomputable def o7_196 (P : Params) : Obj := PySem.Obj.mk (PySem.Value.type "builtin_function_or_method") Option.none   (PySem.Data.fields #[PySem.Value.builtin "type.__prepare__", PySem.Value.type "type"]) #[]
noncomputable def o7_197 (P : Params) : Obj := PySem.Obj.mk (PySem.Value.type "dict") Option.none   (PySem.Data.dict     #[PySem.DictEntry.mk (PySem.PyData.keyHash P (PySem.Str.ofString "__module__"))         (PySem.Value.str (PySem.Str.ofString "__module__") 466)         (PySem.Value.str (PySem.Str.ofString "proofkit.reader") 411),       PySem.DictEntry.mk (PySem.PyData.keyHash P (PySem.Str.ofString "__qualname__"))         (PySem.Value.str (PySem.Str.ofString "__qualname__") 468) (PySem.Value.str (PySem.Str.ofString "Reader") 467),       PySem.DictEntry.mk (PySem.PyData.keyHash P (PySem.Str.ofString "__firstlineno__"))         (PySem.Value.str (PySem.Str.ofString "__firstlineno__") 470) (PySem.Value.int 188 469),       PySem.DictEntry.mk (PySem.PyData.keyHash P (PySem.Str.ofString "__init__"))         (PySem.Value.str (PySem.Str.ofString "__init__") 478) (PySem.Value.ref 208),       PySem.DictEntry.mk (PySem.PyData.keyHash P (PySem.Str.ofString "peek"))         (PySem.Value.str (PySem.Str.ofString "peek") 485) (PySem.Value.ref 215),       PySem.DictEntry.mk (PySem.PyData.keyHash P (PySem.Str.ofString "place"))         (PySem.Value.str (PySem.Str.ofString "place") 492) (PySem.Value.ref 222),       PySem.DictEntry.mk (PySem.PyData.keyHash P (PySem.Str.ofString "take"))         (PySem.Value.str (PySem.Str.ofString "take") 500) (PySem.Value.ref 229),       PySem.DictEntry.mk (PySem.PyData.keyHash P (PySem.Str.ofString "need"))         (PySem.Value.str (PySem.Str.ofString "need") 508) (PySem.Value.ref 236),       PySem.DictEntry.mk (PySem.PyData.keyHash P (PySem.Str.ofString "formula"))         (PySem.Value.str (PySem.Str.ofString "formula") 517) (PySem.Value.ref 243),       PySem.DictEntry.mk (PySem.PyData.keyHash P (PySem.Str.ofString "_longer"))         (PySem.Value.str (PySem.Str.ofString "_longer") 525) (PySem.Value.ref 250),       PySem.DictEntry.mk (PySem.PyData.keyHash P (PySem.Str.ofString "implication"))         (PySem.Value.str (PySem.Str.ofString "implication") 534) (PySem.Value.ref 257),       PySem.DictEntry.mk (PySem.PyData.keyHash P (PySem.Str.ofString "disjunction"))         (PySem.Value.str (PySem.Str.ofString "disjunction") 543) (PySem.Value.ref 264),       PySem.DictEntry.mk (PySem.PyData.keyHash P (PySem.Str.ofString "conjunction"))         (PySem.Value.str (PySem.Str.ofString "conjunction") 552) (PySem.Value.ref 271),       PySem.DictEntry.mk (PySem.PyData.keyHash P (PySem.Str.ofString "simple"))         (PySem.Value.str (PySem.Str.ofString "simple") 560) (PySem.Value.ref 278),       PySem.DictEntry.mk (PySem.PyData.keyHash P (PySem.Str.ofString "_simple"))         (PySem.Value.str (PySem.Str.ofString "_simple") 571) (PySem.Value.ref 285),       PySem.DictEntry.mk (PySem.PyData.keyHash P (PySem.Str.ofString "name"))         (PySem.Value.str (PySem.Str.ofString "name") 579) (PySem.Value.ref 292),       PySem.DictEntry.mk (PySem.PyData.keyHash P (PySem.Str.ofString "arguments"))         (PySem.Value.str (PySem.Str.ofString "arguments") 587) (PySem.Value.ref 299),       PySem.DictEntry.mk (PySem.PyData.keyHash P (PySem.Str.ofString "term"))         (PySem.Value.str (PySem.Str.ofString "term") 596) (PySem.Value.ref 306),       PySem.DictEntry.mk (PySem.PyData.keyHash P (PySem.Str.ofString "finish"))         (PySem.Value.str (PySem.Str.ofString "finish") 603) (PySem.Value.ref 313),       PySem.DictEntry.mk (PySem.PyData.keyHash P (PySem.Str.ofString "__static_attributes__"))         (PySem.Value.str (PySem.Str.ofString "__static_attributes__") 608) (PySem.Value.ref 314)]     20)   #[]
noncomputable def o7_198 (P : Params) : Obj := PySem.Obj.mk (PySem.Value.type "tuple") Option.none (PySem.Data.seq #[]) #[]
noncomputable def o7_199 (P : Params) : Obj := PySem.Obj.mk PySem.Value.none Option.none   (PySem.Data.fields     #[PySem.Value.int 190 0, PySem.Value.int 4 0, PySem.Value.ref 207, PySem.Value.int 196 0, PySem.Value.int 4 0,       PySem.Value.ref 214, PySem.Value.int 201 0, PySem.Value.int 4 0, PySem.Value.ref 221, PySem.Value.int 206 0,       PySem.Value.int 4 0, PySem.Value.ref 228, PySem.Value.int 211 0, PySem.Value.int 4 0, PySem.Value.ref 235,       PySem.Value.int 216 0, PySem.Value.int 4 0, PySem.Value.ref 242, PySem.Value.int 225 0, PySem.Value.int 4 0,       PySem.Value.ref 249, PySem.Value.int 230 0, PySem.Value.int 4 0, PySem.Value.ref 256, PySem.Value.int 242 0,       PySem.Value.int 4 0, PySem.Value.ref 263, PySem.Value.int 251 0, PySem.Value.int 4 0, PySem.Value.ref 270,       PySem.Value.int 260 0, PySem.Value.int 4 0, PySem.Value.ref 277, PySem.Value.int 268 0, PySem.Value.int 4 0,       PySem.Value.ref 284, PySem.Value.int 293 0, PySem.Value.int 4 0, PySem.Value.ref 291, PySem.Value.int 299 0,       PySem.Value.int 4 0, PySem.Value.ref 298, PySem.Value.int 310 0, PySem.Value.int 4 0, PySem.Value.ref 305,       PySem.Value.int 324 0, PySem.Value.int 4 0, PySem.Value.ref 312])   #[]
noncomputable def o7_200 (P : Params) : Obj := PySem.Obj.mk (PySem.Value.type "code") Option.none   (PySem.Data.fields     #[PySem.Value.str (PySem.Str.ofString "Reader") 461, PySem.Value.str (PySem.Str.ofString "Reader") 462,       PySem.Value.str (PySem.Str.ofString "/claim/cut.py") 463, PySem.Value.int 188 0, PySem.Value.int 0 0,       PySem.Value.int 0 0, PySem.Value.int 0 0, PySem.Value.int 0 0, PySem.Value.ref 198, PySem.Value.bool Bool.false,       PySem.Value.int 181 0, PySem.Value.ref 199, PySem.Value.none, PySem.Value.none, PySem.Value.none,       PySem.Value.none, PySem.Value.int 464 0, PySem.Value.int 188 0,       PySem.Value.str (PySem.Str.ofString "/claim/cut.py") 465])   #[]
noncomputable def o7_201 (P : Params) : Obj := PySem.Obj.mk (PySem.Value.type "frame") Option.none PySem.Data.plain   #[Option.some (PySem.Value.ref 200), Option.some (PySem.Value.ref 3), Option.some (PySem.Value.ref 197), Option.none,     Option.some (PySem.Value.str (PySem.Str.ofString "proofkit.reader") 411), Option.none,     Option.some (PySem.Value.ref 0)]
noncomputable def o7_202 (P : Params) : Obj := PySem.Obj.mk (PySem.Value.type "tuple") Option.none (PySem.Data.seq #[]) #[]
noncomputable def o7_203 (P : Params) : Obj := PySem.Obj.mk PySem.Value.none Option.none (PySem.Data.fields #[]) #[]
noncomputable def o7_204 (P : Params) : Obj := PySem.Obj.mk (PySem.Value.type "tuple") Option.none   (PySem.Data.seq #[PySem.Value.str (PySem.Str.ofString "self") 474, PySem.Value.str (PySem.Str.ofString "text") 475])   #[]
noncomputable def o7_205 (P : Params) : Obj := PySem.Obj.mk (PySem.Value.type "tuple") Option.none (PySem.Data.seq #[]) #[]
noncomputable abbrev fa_c25_0 : Arguments := by
  refine' (fun (k : Arguments) (_ : fnA (mt 25 0) = k) => k) _ ?h
  case h => (conv => lhs; whnf)
noncomputable abbrev fb_c25_0 : List Stmt := by
  refine' (fun (k : List Stmt) (_ : fnB (mt 25 0) = k) => k) _ ?h
  case h => (conv => lhs; whnf)
noncomputable abbrev fs_c25_0 : Scope := by
  refine' (fun (k : Scope) (_ : fnS (mt 25 0) = k) => k) _ ?h
  case h => (conv => lhs; whnf)
noncomputable def o7_206 (P : Params) : Obj := PySem.Obj.mk PySem.Value.none Option.none   (PySem.Data.func     (PySem.FuncData.mk (PySem.Str.ofString "__init__") (PySem.Str.ofString "Reader.__init__") fa_c25_0       (PySem.FuncBody.stmts fb_c25_0) fs_c25_0 0 [] PySem.Value.none PySem.Value.none PySem.Value.none PySem.Value.none       Option.none PySem.Value.none PySem.Value.none 0))   #[]
noncomputable def o7_207 (P : Params) : Obj := PySem.Obj.mk (PySem.Value.type "code") Option.none   (PySem.Data.fields     #[PySem.Value.str (PySem.Str.ofString "__init__") 471, PySem.Value.str (PySem.Str.ofString "Reader.__init__") 472,       PySem.Value.str (PySem.Str.ofString "/claim/cut.py") 473, PySem.Value.int 190 0, PySem.Value.int 2 0,       PySem.Value.int 0 0, PySem.Value.int 0 0, PySem.Value.int 3 0, PySem.Value.ref 202, PySem.Value.bool Bool.true,       PySem.Value.int 181 0, PySem.Value.ref 203, PySem.Value.none, PySem.Value.ref 204, PySem.Value.ref 205,       PySem.Value.ref 206, PySem.Value.int 476 0, PySem.Value.int 190 0,       PySem.Value.str (PySem.Str.ofString "/claim/cut.py") 477])   #[]
noncomputable def o7_208 (P : Params) : Obj := PySem.Obj.mk (PySem.Value.type "function") Option.none   (PySem.Data.func     (PySem.FuncData.mk (PySem.Str.ofString "__init__") (PySem.Str.ofString "Reader.__init__") fa_c25_0       (PySem.FuncBody.stmts fb_c25_0) fs_c25_0 3 [] PySem.Value.none PySem.Value.none PySem.Value.none       (PySem.Value.str (PySem.Str.ofString "proofkit.reader") 411) Option.none (PySem.Value.ref 207) PySem.Value.none       0))   #[]
noncomputable def o7_209 (P : Params) : Obj := PySem.Obj.mk (PySem.Value.type "tuple") Option.none (PySem.Data.seq #[]) #[]
noncomputable def o7_210 (P : Params) : Obj := PySem.Obj.mk PySem.Value.none Option.none (PySem.Data.fields #[]) #[]
noncomputable def o7_211 (P : Params) : Obj := PySem.Obj.mk (PySem.Value.type "tuple") Option.none (PySem.Data.seq #[PySem.Value.str (PySem.Str.ofString "self") 482])   #[]
noncomputable def o7_212 (P : Params) : Obj := PySem.Obj.mk (PySem.Value.type "tuple") Option.none (PySem.Data.seq #[]) #[]
noncomputable abbrev fa_c25_1 : Arguments := by
  refine' (fun (k : Arguments) (_ : fnA (mt 25 1) = k) => k) _ ?h
  case h => (conv => lhs; whnf)
noncomputable abbrev fb_c25_1 : List Stmt := by
  refine' (fun (k : List Stmt) (_ : fnB (mt 25 1) = k) => k) _ ?h
  case h => (conv => lhs; whnf)
noncomputable abbrev fs_c25_1 : Scope := by
  refine' (fun (k : Scope) (_ : fnS (mt 25 1) = k) => k) _ ?h
  case h => (conv => lhs; whnf)
noncomputable def o7_213 (P : Params) : Obj := PySem.Obj.mk PySem.Value.none Option.none   (PySem.Data.func     (PySem.FuncData.mk (PySem.Str.ofString "peek") (PySem.Str.ofString "Reader.peek") fa_c25_1       (PySem.FuncBody.stmts fb_c25_1) fs_c25_1 0 [] PySem.Value.none PySem.Value.none PySem.Value.none PySem.Value.none       Option.none PySem.Value.none PySem.Value.none 0))   #[]
noncomputable def o7_214 (P : Params) : Obj := PySem.Obj.mk (PySem.Value.type "code") Option.none   (PySem.Data.fields     #[PySem.Value.str (PySem.Str.ofString "peek") 479, PySem.Value.str (PySem.Str.ofString "Reader.peek") 480,       PySem.Value.str (PySem.Str.ofString "/claim/cut.py") 481, PySem.Value.int 196 0, PySem.Value.int 1 0,       PySem.Value.int 0 0, PySem.Value.int 0 0, PySem.Value.int 3 0, PySem.Value.ref 209, PySem.Value.bool Bool.true,       PySem.Value.int 181 0, PySem.Value.ref 210, PySem.Value.none, PySem.Value.ref 211, PySem.Value.ref 212,       PySem.Value.ref 213, PySem.Value.int 483 0, PySem.Value.int 196 0,       PySem.Value.str (PySem.Str.ofString "/claim/cut.py") 484])   #[]
noncomputable def o7_215 (P : Params) : Obj := PySem.Obj.mk (PySem.Value.type "function") Option.none   (PySem.Data.func     (PySem.FuncData.mk (PySem.Str.ofString "peek") (PySem.Str.ofString "Reader.peek") fa_c25_1       (PySem.FuncBody.stmts fb_c25_1) fs_c25_1 3 [] PySem.Value.none PySem.Value.none PySem.Value.none       (PySem.Value.str (PySem.Str.ofString "proofkit.reader") 411) Option.none (PySem.Value.ref 214) PySem.Value.none       0))   #[]
noncomputable def o7_216 (P : Params) : Obj := PySem.Obj.mk (PySem.Value.type "tuple") Option.none (PySem.Data.seq #[]) #[]
noncomputable def o7_217 (P : Params) : Obj := PySem.Obj.mk PySem.Value.none Option.none (PySem.Data.fields #[]) #[]
noncomputable def o7_218 (P : Params) : Obj := PySem.Obj.mk (PySem.Value.type "tuple") Option.none (PySem.Data.seq #[PySem.Value.str (PySem.Str.ofString "self") 489])   #[]
noncomputable def o7_219 (P : Params) : Obj := PySem.Obj.mk (PySem.Value.type "tuple") Option.none (PySem.Data.seq #[]) #[]
noncomputable abbrev fa_c25_2 : Arguments := by
  refine' (fun (k : Arguments) (_ : fnA (mt 25 2) = k) => k) _ ?h
  case h => (conv => lhs; whnf)
noncomputable abbrev fb_c25_2 : List Stmt := by
  refine' (fun (k : List Stmt) (_ : fnB (mt 25 2) = k) => k) _ ?h
  case h => (conv => lhs; whnf)
noncomputable abbrev fs_c25_2 : Scope := by
  refine' (fun (k : Scope) (_ : fnS (mt 25 2) = k) => k) _ ?h
  case h => (conv => lhs; whnf)
noncomputable def o7_220 (P : Params) : Obj := PySem.Obj.mk PySem.Value.none Option.none   (PySem.Data.func     (PySem.FuncData.mk (PySem.Str.ofString "place") (PySem.Str.ofString "Reader.place") fa_c25_2       (PySem.FuncBody.stmts fb_c25_2) fs_c25_2 0 [] PySem.Value.none PySem.Value.none PySem.Value.none PySem.Value.none       Option.none PySem.Value.none PySem.Value.none 0))   #[]
noncomputable def o7_221 (P : Params) : Obj := PySem.Obj.mk (PySem.Value.type "code") Option.none   (PySem.Data.fields     #[PySem.Value.str (PySem.Str.ofString "place") 486, PySem.Value.str (PySem.Str.ofString "Reader.place") 487,       PySem.Value.str (PySem.Str.ofString "/claim/cut.py") 488, PySem.Value.int 201 0, PySem.Value.int 1 0,       PySem.Value.int 0 0, PySem.Value.int 0 0, PySem.Value.int 3 0, PySem.Value.ref 216, PySem.Value.bool Bool.true,       PySem.Value.int 181 0, PySem.Value.ref 217, PySem.Value.none, PySem.Value.ref 218, PySem.Value.ref 219,       PySem.Value.ref 220, PySem.Value.int 490 0, PySem.Value.int 201 0,       PySem.Value.str (PySem.Str.ofString "/claim/cut.py") 491])   #[]
noncomputable def o7_222 (P : Params) : Obj := PySem.Obj.mk (PySem.Value.type "function") Option.none   (PySem.Data.func     (PySem.FuncData.mk (PySem.Str.ofString "place") (PySem.Str.ofString "Reader.place") fa_c25_2       (PySem.FuncBody.stmts fb_c25_2) fs_c25_2 3 [] PySem.Value.none PySem.Value.none PySem.Value.none       (PySem.Value.str (PySem.Str.ofString "proofkit.reader") 411) Option.none (PySem.Value.ref 221) PySem.Value.none       0))   #[]
noncomputable def o7_223 (P : Params) : Obj := PySem.Obj.mk (PySem.Value.type "tuple") Option.none (PySem.Data.seq #[]) #[]
noncomputable def o7_224 (P : Params) : Obj := PySem.Obj.mk PySem.Value.none Option.none (PySem.Data.fields #[]) #[]
noncomputable def o7_225 (P : Params) : Obj := PySem.Obj.mk (PySem.Value.type "tuple") Option.none   (PySem.Data.seq #[PySem.Value.str (PySem.Str.ofString "self") 496, PySem.Value.str (PySem.Str.ofString "word") 497])   #[]
noncomputable def o7_226 (P : Params) : Obj := PySem.Obj.mk (PySem.Value.type "tuple") Option.none (PySem.Data.seq #[]) #[]
noncomputable abbrev fa_c25_3 : Arguments := by
  refine' (fun (k : Arguments) (_ : fnA (mt 25 3) = k) => k) _ ?h
  case h => (conv => lhs; whnf)
noncomputable abbrev fb_c25_3 : List Stmt := by
  refine' (fun (k : List Stmt) (_ : fnB (mt 25 3) = k) => k) _ ?h
  case h => (conv => lhs; whnf)
noncomputable abbrev fs_c25_3 : Scope := by
  refine' (fun (k : Scope) (_ : fnS (mt 25 3) = k) => k) _ ?h
  case h => (conv => lhs; whnf)
noncomputable def o7_227 (P : Params) : Obj := PySem.Obj.mk PySem.Value.none Option.none   (PySem.Data.func     (PySem.FuncData.mk (PySem.Str.ofString "take") (PySem.Str.ofString "Reader.take") fa_c25_3       (PySem.FuncBody.stmts fb_c25_3) fs_c25_3 0 [] PySem.Value.none PySem.Value.none PySem.Value.none PySem.Value.none       Option.none PySem.Value.none PySem.Value.none 0))   #[]
noncomputable def o7_228 (P : Params) : Obj := PySem.Obj.mk (PySem.Value.type "code") Option.none   (PySem.Data.fields     #[PySem.Value.str (PySem.Str.ofString "take") 493, PySem.Value.str (PySem.Str.ofString "Reader.take") 494,       PySem.Value.str (PySem.Str.ofString "/claim/cut.py") 495, PySem.Value.int 206 0, PySem.Value.int 1 0,       PySem.Value.int 0 0, PySem.Value.int 0 0, PySem.Value.int 3 0, PySem.Value.ref 223, PySem.Value.bool Bool.true,       PySem.Value.int 181 0, PySem.Value.ref 224, PySem.Value.none, PySem.Value.ref 225, PySem.Value.ref 226,       PySem.Value.ref 227, PySem.Value.int 498 0, PySem.Value.int 206 0,       PySem.Value.str (PySem.Str.ofString "/claim/cut.py") 499])   #[]
noncomputable def o7_229 (P : Params) : Obj := PySem.Obj.mk (PySem.Value.type "function") Option.none   (PySem.Data.func     (PySem.FuncData.mk (PySem.Str.ofString "take") (PySem.Str.ofString "Reader.take") fa_c25_3       (PySem.FuncBody.stmts fb_c25_3) fs_c25_3 3 [] PySem.Value.none PySem.Value.none PySem.Value.none       (PySem.Value.str (PySem.Str.ofString "proofkit.reader") 411) Option.none (PySem.Value.ref 228) PySem.Value.none       0))   #[]
noncomputable def o7_230 (P : Params) : Obj := PySem.Obj.mk (PySem.Value.type "tuple") Option.none (PySem.Data.seq #[]) #[]
noncomputable def o7_231 (P : Params) : Obj := PySem.Obj.mk PySem.Value.none Option.none (PySem.Data.fields #[]) #[]
noncomputable def o7_232 (P : Params) : Obj := PySem.Obj.mk (PySem.Value.type "tuple") Option.none   (PySem.Data.seq #[PySem.Value.str (PySem.Str.ofString "self") 504, PySem.Value.str (PySem.Str.ofString "word") 505])   #[]
noncomputable def o7_233 (P : Params) : Obj := PySem.Obj.mk (PySem.Value.type "tuple") Option.none (PySem.Data.seq #[]) #[]
noncomputable abbrev fa_c25_4 : Arguments := by
  refine' (fun (k : Arguments) (_ : fnA (mt 25 4) = k) => k) _ ?h
  case h => (conv => lhs; whnf)
noncomputable abbrev fb_c25_4 : List Stmt := by
  refine' (fun (k : List Stmt) (_ : fnB (mt 25 4) = k) => k) _ ?h
  case h => (conv => lhs; whnf)
noncomputable abbrev fs_c25_4 : Scope := by
  refine' (fun (k : Scope) (_ : fnS (mt 25 4) = k) => k) _ ?h
  case h => (conv => lhs; whnf)
noncomputable def o7_234 (P : Params) : Obj := PySem.Obj.mk PySem.Value.none Option.none   (PySem.Data.func     (PySem.FuncData.mk (PySem.Str.ofString "need") (PySem.Str.ofString "Reader.need") fa_c25_4       (PySem.FuncBody.stmts fb_c25_4) fs_c25_4 0 [] PySem.Value.none PySem.Value.none PySem.Value.none PySem.Value.none       Option.none PySem.Value.none PySem.Value.none 0))   #[]
noncomputable def o7_235 (P : Params) : Obj := PySem.Obj.mk (PySem.Value.type "code") Option.none   (PySem.Data.fields     #[PySem.Value.str (PySem.Str.ofString "need") 501, PySem.Value.str (PySem.Str.ofString "Reader.need") 502,       PySem.Value.str (PySem.Str.ofString "/claim/cut.py") 503, PySem.Value.int 211 0, PySem.Value.int 2 0,       PySem.Value.int 0 0, PySem.Value.int 0 0, PySem.Value.int 3 0, PySem.Value.ref 230, PySem.Value.bool Bool.true,       PySem.Value.int 181 0, PySem.Value.ref 231, PySem.Value.none, PySem.Value.ref 232, PySem.Value.ref 233,       PySem.Value.ref 234, PySem.Value.int 506 0, PySem.Value.int 211 0,       PySem.Value.str (PySem.Str.ofString "/claim/cut.py") 507])   #[]
noncomputable def o7_236 (P : Params) : Obj := PySem.Obj.mk (PySem.Value.type "function") Option.none   (PySem.Data.func     (PySem.FuncData.mk (PySem.Str.ofString "need") (PySem.Str.ofString "Reader.need") fa_c25_4       (PySem.FuncBody.stmts fb_c25_4) fs_c25_4 3 [] PySem.Value.none PySem.Value.none PySem.Value.none       (PySem.Value.str (PySem.Str.ofString "proofkit.reader") 411) Option.none (PySem.Value.ref 235) PySem.Value.none       0))   #[]
noncomputable def o7_237 (P : Params) : Obj := PySem.Obj.mk (PySem.Value.type "tuple") Option.none (PySem.Data.seq #[]) #[]
noncomputable def o7_238 (P : Params) : Obj := PySem.Obj.mk PySem.Value.none Option.none (PySem.Data.fields #[]) #[]
noncomputable def o7_239 (P : Params) : Obj := PySem.Obj.mk (PySem.Value.type "tuple") Option.none   (PySem.Data.seq     #[PySem.Value.str (PySem.Str.ofString "self") 512, PySem.Value.str (PySem.Str.ofString "left") 513,       PySem.Value.str (PySem.Str.ofString "count") 514])   #[]
noncomputable def o7_240 (P : Params) : Obj := PySem.Obj.mk (PySem.Value.type "tuple") Option.none (PySem.Data.seq #[]) #[]
noncomputable abbrev fa_c25_5 : Arguments := by
  refine' (fun (k : Arguments) (_ : fnA (mt 25 5) = k) => k) _ ?h
  case h => (conv => lhs; whnf)
noncomputable abbrev fb_c25_5 : List Stmt := by
  refine' (fun (k : List Stmt) (_ : fnB (mt 25 5) = k) => k) _ ?h
  case h => (conv => lhs; whnf)
noncomputable abbrev fs_c25_5 : Scope := by
  refine' (fun (k : Scope) (_ : fnS (mt 25 5) = k) => k) _ ?h
  case h => (conv => lhs; whnf)
noncomputable def o7_241 (P : Params) : Obj := PySem.Obj.mk PySem.Value.none Option.none   (PySem.Data.func     (PySem.FuncData.mk (PySem.Str.ofString "formula") (PySem.Str.ofString "Reader.formula") fa_c25_5       (PySem.FuncBody.stmts fb_c25_5) fs_c25_5 0 [] PySem.Value.none PySem.Value.none PySem.Value.none PySem.Value.none       Option.none PySem.Value.none PySem.Value.none 0))   #[]
noncomputable def o7_242 (P : Params) : Obj := PySem.Obj.mk (PySem.Value.type "code") Option.none   (PySem.Data.fields     #[PySem.Value.str (PySem.Str.ofString "formula") 509, PySem.Value.str (PySem.Str.ofString "Reader.formula") 510,       PySem.Value.str (PySem.Str.ofString "/claim/cut.py") 511, PySem.Value.int 216 0, PySem.Value.int 1 0,       PySem.Value.int 0 0, PySem.Value.int 0 0, PySem.Value.int 3 0, PySem.Value.ref 237, PySem.Value.bool Bool.true,       PySem.Value.int 181 0, PySem.Value.ref 238, PySem.Value.none, PySem.Value.ref 239, PySem.Value.ref 240,       PySem.Value.ref 241, PySem.Value.int 515 0, PySem.Value.int 216 0,       PySem.Value.str (PySem.Str.ofString "/claim/cut.py") 516])   #[]
noncomputable def o7_243 (P : Params) : Obj := PySem.Obj.mk (PySem.Value.type "function") Option.none   (PySem.Data.func     (PySem.FuncData.mk (PySem.Str.ofString "formula") (PySem.Str.ofString "Reader.formula") fa_c25_5       (PySem.FuncBody.stmts fb_c25_5) fs_c25_5 3 [] PySem.Value.none PySem.Value.none PySem.Value.none       (PySem.Value.str (PySem.Str.ofString "proofkit.reader") 411) Option.none (PySem.Value.ref 242) PySem.Value.none       0))   #[]
noncomputable def o7_244 (P : Params) : Obj := PySem.Obj.mk (PySem.Value.type "tuple") Option.none (PySem.Data.seq #[]) #[]
noncomputable def o7_245 (P : Params) : Obj := PySem.Obj.mk PySem.Value.none Option.none (PySem.Data.fields #[]) #[]
noncomputable def o7_246 (P : Params) : Obj := PySem.Obj.mk (PySem.Value.type "tuple") Option.none   (PySem.Data.seq #[PySem.Value.str (PySem.Str.ofString "self") 521, PySem.Value.str (PySem.Str.ofString "count") 522])   #[]
noncomputable def o7_247 (P : Params) : Obj := PySem.Obj.mk (PySem.Value.type "tuple") Option.none (PySem.Data.seq #[]) #[]
noncomputable abbrev fa_c25_6 : Arguments := by
  refine' (fun (k : Arguments) (_ : fnA (mt 25 6) = k) => k) _ ?h
  case h => (conv => lhs; whnf)
noncomputable abbrev fb_c25_6 : List Stmt := by
  refine' (fun (k : List Stmt) (_ : fnB (mt 25 6) = k) => k) _ ?h
  case h => (conv => lhs; whnf)
noncomputable abbrev fs_c25_6 : Scope := by
  refine' (fun (k : Scope) (_ : fnS (mt 25 6) = k) => k) _ ?h
  case h => (conv => lhs; whnf)
noncomputable def o7_248 (P : Params) : Obj := PySem.Obj.mk PySem.Value.none Option.none   (PySem.Data.func     (PySem.FuncData.mk (PySem.Str.ofString "_longer") (PySem.Str.ofString "Reader._longer") fa_c25_6       (PySem.FuncBody.stmts fb_c25_6) fs_c25_6 0 [] PySem.Value.none PySem.Value.none PySem.Value.none PySem.Value.none       Option.none PySem.Value.none PySem.Value.none 0))   #[]
noncomputable def o7_249 (P : Params) : Obj := PySem.Obj.mk (PySem.Value.type "code") Option.none   (PySem.Data.fields     #[PySem.Value.str (PySem.Str.ofString "_longer") 518, PySem.Value.str (PySem.Str.ofString "Reader._longer") 519,       PySem.Value.str (PySem.Str.ofString "/claim/cut.py") 520, PySem.Value.int 225 0, PySem.Value.int 2 0,       PySem.Value.int 0 0, PySem.Value.int 0 0, PySem.Value.int 3 0, PySem.Value.ref 244, PySem.Value.bool Bool.true,       PySem.Value.int 181 0, PySem.Value.ref 245, PySem.Value.none, PySem.Value.ref 246, PySem.Value.ref 247,       PySem.Value.ref 248, PySem.Value.int 523 0, PySem.Value.int 225 0,       PySem.Value.str (PySem.Str.ofString "/claim/cut.py") 524])   #[]
noncomputable def o7_250 (P : Params) : Obj := PySem.Obj.mk (PySem.Value.type "function") Option.none   (PySem.Data.func     (PySem.FuncData.mk (PySem.Str.ofString "_longer") (PySem.Str.ofString "Reader._longer") fa_c25_6       (PySem.FuncBody.stmts fb_c25_6) fs_c25_6 3 [] PySem.Value.none PySem.Value.none PySem.Value.none       (PySem.Value.str (PySem.Str.ofString "proofkit.reader") 411) Option.none (PySem.Value.ref 249) PySem.Value.none       0))   #[]
noncomputable def o7_251 (P : Params) : Obj := PySem.Obj.mk (PySem.Value.type "tuple") Option.none (PySem.Data.seq #[]) #[]
noncomputable def o7_252 (P : Params) : Obj := PySem.Obj.mk PySem.Value.none Option.none (PySem.Data.fields #[]) #[]
noncomputable def o7_253 (P : Params) : Obj := PySem.Obj.mk (PySem.Value.type "tuple") Option.none   (PySem.Data.seq     #[PySem.Value.str (PySem.Str.ofString "self") 529, PySem.Value.str (PySem.Str.ofString "rows") 530,       PySem.Value.str (PySem.Str.ofString "out") 531])   #[]
noncomputable def o7_254 (P : Params) : Obj := PySem.Obj.mk (PySem.Value.type "tuple") Option.none (PySem.Data.seq #[]) #[]
noncomputable abbrev fa_c25_7 : Arguments := by
  refine' (fun (k : Arguments) (_ : fnA (mt 25 7) = k) => k) _ ?h
  case h => (conv => lhs; whnf)
noncomputable abbrev fb_c25_7 : List Stmt := by
  refine' (fun (k : List Stmt) (_ : fnB (mt 25 7) = k) => k) _ ?h
  case h => (conv => lhs; whnf)
noncomputable abbrev fs_c25_7 : Scope := by
  refine' (fun (k : Scope) (_ : fnS (mt 25 7) = k) => k) _ ?h
  case h => (conv => lhs; whnf)
noncomputable def o7_255 (P : Params) : Obj := PySem.Obj.mk PySem.Value.none Option.none   (PySem.Data.func     (PySem.FuncData.mk (PySem.Str.ofString "implication") (PySem.Str.ofString "Reader.implication") fa_c25_7       (PySem.FuncBody.stmts fb_c25_7) fs_c25_7 0 [] PySem.Value.none PySem.Value.none PySem.Value.none PySem.Value.none       Option.none PySem.Value.none PySem.Value.none 0))   #[]
noncomputable def o7_256 (P : Params) : Obj := PySem.Obj.mk (PySem.Value.type "code") Option.none   (PySem.Data.fields     #[PySem.Value.str (PySem.Str.ofString "implication") 526,       PySem.Value.str (PySem.Str.ofString "Reader.implication") 527,       PySem.Value.str (PySem.Str.ofString "/claim/cut.py") 528, PySem.Value.int 230 0, PySem.Value.int 1 0,       PySem.Value.int 0 0, PySem.Value.int 0 0, PySem.Value.int 3 0, PySem.Value.ref 251, PySem.Value.bool Bool.true,       PySem.Value.int 181 0, PySem.Value.ref 252, PySem.Value.none, PySem.Value.ref 253, PySem.Value.ref 254,       PySem.Value.ref 255, PySem.Value.int 532 0, PySem.Value.int 230 0,       PySem.Value.str (PySem.Str.ofString "/claim/cut.py") 533])   #[]
noncomputable def o7_257 (P : Params) : Obj := PySem.Obj.mk (PySem.Value.type "function") Option.none   (PySem.Data.func     (PySem.FuncData.mk (PySem.Str.ofString "implication") (PySem.Str.ofString "Reader.implication") fa_c25_7       (PySem.FuncBody.stmts fb_c25_7) fs_c25_7 3 [] PySem.Value.none PySem.Value.none PySem.Value.none       (PySem.Value.str (PySem.Str.ofString "proofkit.reader") 411) Option.none (PySem.Value.ref 256) PySem.Value.none       0))   #[]
noncomputable def o7_258 (P : Params) : Obj := PySem.Obj.mk (PySem.Value.type "tuple") Option.none (PySem.Data.seq #[]) #[]
noncomputable def o7_259 (P : Params) : Obj := PySem.Obj.mk PySem.Value.none Option.none (PySem.Data.fields #[]) #[]
noncomputable def o7_260 (P : Params) : Obj := PySem.Obj.mk (PySem.Value.type "tuple") Option.none   (PySem.Data.seq     #[PySem.Value.str (PySem.Str.ofString "self") 538, PySem.Value.str (PySem.Str.ofString "left") 539,       PySem.Value.str (PySem.Str.ofString "count") 540])   #[]
noncomputable def o7_261 (P : Params) : Obj := PySem.Obj.mk (PySem.Value.type "tuple") Option.none (PySem.Data.seq #[]) #[]
noncomputable abbrev fa_c25_8 : Arguments := by
  refine' (fun (k : Arguments) (_ : fnA (mt 25 8) = k) => k) _ ?h
  case h => (conv => lhs; whnf)
noncomputable abbrev fb_c25_8 : List Stmt := by
  refine' (fun (k : List Stmt) (_ : fnB (mt 25 8) = k) => k) _ ?h
  case h => (conv => lhs; whnf)
noncomputable abbrev fs_c25_8 : Scope := by
  refine' (fun (k : Scope) (_ : fnS (mt 25 8) = k) => k) _ ?h
  case h => (conv => lhs; whnf)
noncomputable def o7_262 (P : Params) : Obj := PySem.Obj.mk PySem.Value.none Option.none   (PySem.Data.func     (PySem.FuncData.mk (PySem.Str.ofString "disjunction") (PySem.Str.ofString "Reader.disjunction") fa_c25_8       (PySem.FuncBody.stmts fb_c25_8) fs_c25_8 0 [] PySem.Value.none PySem.Value.none PySem.Value.none PySem.Value.none       Option.none PySem.Value.none PySem.Value.none 0))   #[]
noncomputable def o7_263 (P : Params) : Obj := PySem.Obj.mk (PySem.Value.type "code") Option.none   (PySem.Data.fields     #[PySem.Value.str (PySem.Str.ofString "disjunction") 535,       PySem.Value.str (PySem.Str.ofString "Reader.disjunction") 536,       PySem.Value.str (PySem.Str.ofString "/claim/cut.py") 537, PySem.Value.int 242 0, PySem.Value.int 1 0,       PySem.Value.int 0 0, PySem.Value.int 0 0, PySem.Value.int 3 0, PySem.Value.ref 258, PySem.Value.bool Bool.true,       PySem.Value.int 181 0, PySem.Value.ref 259, PySem.Value.none, PySem.Value.ref 260, PySem.Value.ref 261,       PySem.Value.ref 262, PySem.Value.int 541 0, PySem.Value.int 242 0,       PySem.Value.str (PySem.Str.ofString "/claim/cut.py") 542])   #[]
noncomputable def o7_264 (P : Params) : Obj := PySem.Obj.mk (PySem.Value.type "function") Option.none   (PySem.Data.func     (PySem.FuncData.mk (PySem.Str.ofString "disjunction") (PySem.Str.ofString "Reader.disjunction") fa_c25_8       (PySem.FuncBody.stmts fb_c25_8) fs_c25_8 3 [] PySem.Value.none PySem.Value.none PySem.Value.none       (PySem.Value.str (PySem.Str.ofString "proofkit.reader") 411) Option.none (PySem.Value.ref 263) PySem.Value.none       0))   #[]
noncomputable def o7_265 (P : Params) : Obj := PySem.Obj.mk (PySem.Value.type "tuple") Option.none (PySem.Data.seq #[]) #[]
noncomputable def o7_266 (P : Params) : Obj := PySem.Obj.mk PySem.Value.none Option.none (PySem.Data.fields #[]) #[]
noncomputable def o7_267 (P : Params) : Obj := PySem.Obj.mk (PySem.Value.type "tuple") Option.none   (PySem.Data.seq     #[PySem.Value.str (PySem.Str.ofString "self") 547, PySem.Value.str (PySem.Str.ofString "left") 548,       PySem.Value.str (PySem.Str.ofString "count") 549])   #[]
noncomputable def o7_268 (P : Params) : Obj := PySem.Obj.mk (PySem.Value.type "tuple") Option.none (PySem.Data.seq #[]) #[]
noncomputable abbrev fa_c25_9 : Arguments := by
  refine' (fun (k : Arguments) (_ : fnA (mt 25 9) = k) => k) _ ?h
  case h => (conv => lhs; whnf)
noncomputable abbrev fb_c25_9 : List Stmt := by
  refine' (fun (k : List Stmt) (_ : fnB (mt 25 9) = k) => k) _ ?h
  case h => (conv => lhs; whnf)
noncomputable abbrev fs_c25_9 : Scope := by
  refine' (fun (k : Scope) (_ : fnS (mt 25 9) = k) => k) _ ?h
  case h => (conv => lhs; whnf)
noncomputable def o7_269 (P : Params) : Obj := PySem.Obj.mk PySem.Value.none Option.none   (PySem.Data.func     (PySem.FuncData.mk (PySem.Str.ofString "conjunction") (PySem.Str.ofString "Reader.conjunction") fa_c25_9       (PySem.FuncBody.stmts fb_c25_9) fs_c25_9 0 [] PySem.Value.none PySem.Value.none PySem.Value.none PySem.Value.none       Option.none PySem.Value.none PySem.Value.none 0))   #[]
noncomputable def o7_270 (P : Params) : Obj := PySem.Obj.mk (PySem.Value.type "code") Option.none   (PySem.Data.fields     #[PySem.Value.str (PySem.Str.ofString "conjunction") 544,       PySem.Value.str (PySem.Str.ofString "Reader.conjunction") 545,       PySem.Value.str (PySem.Str.ofString "/claim/cut.py") 546, PySem.Value.int 251 0, PySem.Value.int 1 0,       PySem.Value.int 0 0, PySem.Value.int 0 0, PySem.Value.int 3 0, PySem.Value.ref 265, PySem.Value.bool Bool.true,       PySem.Value.int 181 0, PySem.Value.ref 266, PySem.Value.none, PySem.Value.ref 267, PySem.Value.ref 268,       PySem.Value.ref 269, PySem.Value.int 550 0, PySem.Value.int 251 0,       PySem.Value.str (PySem.Str.ofString "/claim/cut.py") 551])   #[]
noncomputable def o7_271 (P : Params) : Obj := PySem.Obj.mk (PySem.Value.type "function") Option.none   (PySem.Data.func     (PySem.FuncData.mk (PySem.Str.ofString "conjunction") (PySem.Str.ofString "Reader.conjunction") fa_c25_9       (PySem.FuncBody.stmts fb_c25_9) fs_c25_9 3 [] PySem.Value.none PySem.Value.none PySem.Value.none       (PySem.Value.str (PySem.Str.ofString "proofkit.reader") 411) Option.none (PySem.Value.ref 270) PySem.Value.none       0))   #[]
noncomputable def o7_272 (P : Params) : Obj := PySem.Obj.mk (PySem.Value.type "tuple") Option.none (PySem.Data.seq #[]) #[]
noncomputable def o7_273 (P : Params) : Obj := PySem.Obj.mk PySem.Value.none Option.none (PySem.Data.fields #[]) #[]
noncomputable def o7_274 (P : Params) : Obj := PySem.Obj.mk (PySem.Value.type "tuple") Option.none   (PySem.Data.seq #[PySem.Value.str (PySem.Str.ofString "self") 556, PySem.Value.str (PySem.Str.ofString "out") 557])   #[]
noncomputable def o7_275 (P : Params) : Obj := PySem.Obj.mk (PySem.Value.type "tuple") Option.none (PySem.Data.seq #[]) #[]
noncomputable abbrev fa_c25_10 : Arguments := by
  refine' (fun (k : Arguments) (_ : fnA (mt 25 10) = k) => k) _ ?h
  case h => (conv => lhs; whnf)
noncomputable abbrev fb_c25_10 : List Stmt := by
  refine' (fun (k : List Stmt) (_ : fnB (mt 25 10) = k) => k) _ ?h
  case h => (conv => lhs; whnf)
noncomputable abbrev fs_c25_10 : Scope := by
  refine' (fun (k : Scope) (_ : fnS (mt 25 10) = k) => k) _ ?h
  case h => (conv => lhs; whnf)
noncomputable def o7_276 (P : Params) : Obj := PySem.Obj.mk PySem.Value.none Option.none   (PySem.Data.func     (PySem.FuncData.mk (PySem.Str.ofString "simple") (PySem.Str.ofString "Reader.simple") fa_c25_10       (PySem.FuncBody.stmts fb_c25_10) fs_c25_10 0 [] PySem.Value.none PySem.Value.none PySem.Value.none       PySem.Value.none Option.none PySem.Value.none PySem.Value.none 0))   #[]
noncomputable def o7_277 (P : Params) : Obj := PySem.Obj.mk (PySem.Value.type "code") Option.none   (PySem.Data.fields     #[PySem.Value.str (PySem.Str.ofString "simple") 553, PySem.Value.str (PySem.Str.ofString "Reader.simple") 554,       PySem.Value.str (PySem.Str.ofString "/claim/cut.py") 555, PySem.Value.int 260 0, PySem.Value.int 1 0,       PySem.Value.int 0 0, PySem.Value.int 0 0, PySem.Value.int 3 0, PySem.Value.ref 272, PySem.Value.bool Bool.true,       PySem.Value.int 181 0, PySem.Value.ref 273, PySem.Value.none, PySem.Value.ref 274, PySem.Value.ref 275,       PySem.Value.ref 276, PySem.Value.int 558 0, PySem.Value.int 260 0,       PySem.Value.str (PySem.Str.ofString "/claim/cut.py") 559])   #[]
noncomputable def o7_278 (P : Params) : Obj := PySem.Obj.mk (PySem.Value.type "function") Option.none   (PySem.Data.func     (PySem.FuncData.mk (PySem.Str.ofString "simple") (PySem.Str.ofString "Reader.simple") fa_c25_10       (PySem.FuncBody.stmts fb_c25_10) fs_c25_10 3 [] PySem.Value.none PySem.Value.none PySem.Value.none       (PySem.Value.str (PySem.Str.ofString "proofkit.reader") 411) Option.none (PySem.Value.ref 277) PySem.Value.none       0))   #[]
noncomputable def o7_279 (P : Params) : Obj := PySem.Obj.mk (PySem.Value.type "tuple") Option.none (PySem.Data.seq #[]) #[]
noncomputable def o7_280 (P : Params) : Obj := PySem.Obj.mk PySem.Value.none Option.none (PySem.Data.fields #[]) #[]
noncomputable def o7_281 (P : Params) : Obj := PySem.Obj.mk (PySem.Value.type "tuple") Option.none   (PySem.Data.seq     #[PySem.Value.str (PySem.Str.ofString "self") 564, PySem.Value.str (PySem.Str.ofString "word") 565,       PySem.Value.str (PySem.Str.ofString "name") 566, PySem.Value.str (PySem.Str.ofString "inner") 567,       PySem.Value.str (PySem.Str.ofString "left") 568])   #[]
noncomputable def o7_282 (P : Params) : Obj := PySem.Obj.mk (PySem.Value.type "tuple") Option.none (PySem.Data.seq #[]) #[]
noncomputable abbrev fa_c25_11 : Arguments := by
  refine' (fun (k : Arguments) (_ : fnA (mt 25 11) = k) => k) _ ?h
  case h => (conv => lhs; whnf)
noncomputable abbrev fb_c25_11 : List Stmt := by
  refine' (fun (k : List Stmt) (_ : fnB (mt 25 11) = k) => k) _ ?h
  case h => (conv => lhs; whnf)
noncomputable abbrev fs_c25_11 : Scope := by
  refine' (fun (k : Scope) (_ : fnS (mt 25 11) = k) => k) _ ?h
  case h => (conv => lhs; whnf)
noncomputable def o7_283 (P : Params) : Obj := PySem.Obj.mk PySem.Value.none Option.none   (PySem.Data.func     (PySem.FuncData.mk (PySem.Str.ofString "_simple") (PySem.Str.ofString "Reader._simple") fa_c25_11       (PySem.FuncBody.stmts fb_c25_11) fs_c25_11 0 [] PySem.Value.none PySem.Value.none PySem.Value.none       PySem.Value.none Option.none PySem.Value.none PySem.Value.none 0))   #[]
noncomputable def o7_284 (P : Params) : Obj := PySem.Obj.mk (PySem.Value.type "code") Option.none   (PySem.Data.fields     #[PySem.Value.str (PySem.Str.ofString "_simple") 561, PySem.Value.str (PySem.Str.ofString "Reader._simple") 562,       PySem.Value.str (PySem.Str.ofString "/claim/cut.py") 563, PySem.Value.int 268 0, PySem.Value.int 1 0,       PySem.Value.int 0 0, PySem.Value.int 0 0, PySem.Value.int 3 0, PySem.Value.ref 279, PySem.Value.bool Bool.true,       PySem.Value.int 181 0, PySem.Value.ref 280, PySem.Value.none, PySem.Value.ref 281, PySem.Value.ref 282,       PySem.Value.ref 283, PySem.Value.int 569 0, PySem.Value.int 268 0,       PySem.Value.str (PySem.Str.ofString "/claim/cut.py") 570])   #[]
noncomputable def o7_285 (P : Params) : Obj := PySem.Obj.mk (PySem.Value.type "function") Option.none   (PySem.Data.func     (PySem.FuncData.mk (PySem.Str.ofString "_simple") (PySem.Str.ofString "Reader._simple") fa_c25_11       (PySem.FuncBody.stmts fb_c25_11) fs_c25_11 3 [] PySem.Value.none PySem.Value.none PySem.Value.none       (PySem.Value.str (PySem.Str.ofString "proofkit.reader") 411) Option.none (PySem.Value.ref 284) PySem.Value.none       0))   #[]
noncomputable def o7_286 (P : Params) : Obj := PySem.Obj.mk (PySem.Value.type "tuple") Option.none (PySem.Data.seq #[]) #[]
noncomputable def o7_287 (P : Params) : Obj := PySem.Obj.mk PySem.Value.none Option.none (PySem.Data.fields #[]) #[]
noncomputable def o7_288 (P : Params) : Obj := PySem.Obj.mk (PySem.Value.type "tuple") Option.none   (PySem.Data.seq #[PySem.Value.str (PySem.Str.ofString "self") 575, PySem.Value.str (PySem.Str.ofString "word") 576])   #[]
noncomputable def o7_289 (P : Params) : Obj := PySem.Obj.mk (PySem.Value.type "tuple") Option.none (PySem.Data.seq #[]) #[]
noncomputable abbrev fa_c25_12 : Arguments := by
  refine' (fun (k : Arguments) (_ : fnA (mt 25 12) = k) => k) _ ?h
  case h => (conv => lhs; whnf)
noncomputable abbrev fb_c25_12 : List Stmt := by
  refine' (fun (k : List Stmt) (_ : fnB (mt 25 12) = k) => k) _ ?h
  case h => (conv => lhs; whnf)
noncomputable abbrev fs_c25_12 : Scope := by
  refine' (fun (k : Scope) (_ : fnS (mt 25 12) = k) => k) _ ?h
  case h => (conv => lhs; whnf)
noncomputable def o7_290 (P : Params) : Obj := PySem.Obj.mk PySem.Value.none Option.none   (PySem.Data.func     (PySem.FuncData.mk (PySem.Str.ofString "name") (PySem.Str.ofString "Reader.name") fa_c25_12       (PySem.FuncBody.stmts fb_c25_12) fs_c25_12 0 [] PySem.Value.none PySem.Value.none PySem.Value.none       PySem.Value.none Option.none PySem.Value.none PySem.Value.none 0))   #[]
noncomputable def o7_291 (P : Params) : Obj := PySem.Obj.mk (PySem.Value.type "code") Option.none   (PySem.Data.fields     #[PySem.Value.str (PySem.Str.ofString "name") 572, PySem.Value.str (PySem.Str.ofString "Reader.name") 573,       PySem.Value.str (PySem.Str.ofString "/claim/cut.py") 574, PySem.Value.int 293 0, PySem.Value.int 1 0,       PySem.Value.int 0 0, PySem.Value.int 0 0, PySem.Value.int 3 0, PySem.Value.ref 286, PySem.Value.bool Bool.true,       PySem.Value.int 181 0, PySem.Value.ref 287, PySem.Value.none, PySem.Value.ref 288, PySem.Value.ref 289,       PySem.Value.ref 290, PySem.Value.int 577 0, PySem.Value.int 293 0,       PySem.Value.str (PySem.Str.ofString "/claim/cut.py") 578])   #[]
noncomputable def o7_292 (P : Params) : Obj := PySem.Obj.mk (PySem.Value.type "function") Option.none   (PySem.Data.func     (PySem.FuncData.mk (PySem.Str.ofString "name") (PySem.Str.ofString "Reader.name") fa_c25_12       (PySem.FuncBody.stmts fb_c25_12) fs_c25_12 3 [] PySem.Value.none PySem.Value.none PySem.Value.none       (PySem.Value.str (PySem.Str.ofString "proofkit.reader") 411) Option.none (PySem.Value.ref 291) PySem.Value.none       0))   #[]
noncomputable def o7_293 (P : Params) : Obj := PySem.Obj.mk (PySem.Value.type "tuple") Option.none (PySem.Data.seq #[]) #[]
noncomputable def o7_294 (P : Params) : Obj := PySem.Obj.mk PySem.Value.none Option.none (PySem.Data.fields #[]) #[]
noncomputable def o7_295 (P : Params) : Obj := PySem.Obj.mk (PySem.Value.type "tuple") Option.none   (PySem.Data.seq #[PySem.Value.str (PySem.Str.ofString "self") 583, PySem.Value.str (PySem.Str.ofString "out") 584])   #[]
noncomputable def o7_296 (P : Params) : Obj := PySem.Obj.mk (PySem.Value.type "tuple") Option.none (PySem.Data.seq #[]) #[]
noncomputable abbrev fa_c25_13 : Arguments := by
  refine' (fun (k : Arguments) (_ : fnA (mt 25 13) = k) => k) _ ?h
  case h => (conv => lhs; whnf)
noncomputable abbrev fb_c25_13 : List Stmt := by
  refine' (fun (k : List Stmt) (_ : fnB (mt 25 13) = k) => k) _ ?h
  case h => (conv => lhs; whnf)
noncomputable abbrev fs_c25_13 : Scope := by
  refine' (fun (k : Scope) (_ : fnS (mt 25 13) = k) => k) _ ?h
  case h => (conv => lhs; whnf)
noncomputable def o7_297 (P : Params) : Obj := PySem.Obj.mk PySem.Value.none Option.none   (PySem.Data.func     (PySem.FuncData.mk (PySem.Str.ofString "arguments") (PySem.Str.ofString "Reader.arguments") fa_c25_13       (PySem.FuncBody.stmts fb_c25_13) fs_c25_13 0 [] PySem.Value.none PySem.Value.none PySem.Value.none       PySem.Value.none Option.none PySem.Value.none PySem.Value.none 0))   #[]
noncomputable def o7_298 (P : Params) : Obj := PySem.Obj.mk (PySem.Value.type "code") Option.none   (PySem.Data.fields     #[PySem.Value.str (PySem.Str.ofString "arguments") 580, PySem.Value.str (PySem.Str.ofString "Reader.arguments") 581,       PySem.Value.str (PySem.Str.ofString "/claim/cut.py") 582, PySem.Value.int 299 0, PySem.Value.int 1 0,       PySem.Value.int 0 0, PySem.Value.int 0 0, PySem.Value.int 3 0, PySem.Value.ref 293, PySem.Value.bool Bool.true,       PySem.Value.int 181 0, PySem.Value.ref 294, PySem.Value.none, PySem.Value.ref 295, PySem.Value.ref 296,       PySem.Value.ref 297, PySem.Value.int 585 0, PySem.Value.int 299 0,       PySem.Value.str (PySem.Str.ofString "/claim/cut.py") 586])   #[]
noncomputable def o7_299 (P : Params) : Obj := PySem.Obj.mk (PySem.Value.type "function") Option.none   (PySem.Data.func     (PySem.FuncData.mk (PySem.Str.ofString "arguments") (PySem.Str.ofString "Reader.arguments") fa_c25_13       (PySem.FuncBody.stmts fb_c25_13) fs_c25_13 3 [] PySem.Value.none PySem.Value.none PySem.Value.none       (PySem.Value.str (PySem.Str.ofString "proofkit.reader") 411) Option.none (PySem.Value.ref 298) PySem.Value.none       0))   #[]
noncomputable def o7_300 (P : Params) : Obj := PySem.Obj.mk (PySem.Value.type "tuple") Option.none (PySem.Data.seq #[]) #[]
noncomputable def o7_301 (P : Params) : Obj := PySem.Obj.mk PySem.Value.none Option.none (PySem.Data.fields #[]) #[]
noncomputable def o7_302 (P : Params) : Obj := PySem.Obj.mk (PySem.Value.type "tuple") Option.none   (PySem.Data.seq     #[PySem.Value.str (PySem.Str.ofString "self") 591, PySem.Value.str (PySem.Str.ofString "word") 592,       PySem.Value.str (PySem.Str.ofString "out") 593])   #[]
noncomputable def o7_303 (P : Params) : Obj := PySem.Obj.mk (PySem.Value.type "tuple") Option.none (PySem.Data.seq #[]) #[]
noncomputable abbrev fa_c25_14 : Arguments := by
  refine' (fun (k : Arguments) (_ : fnA (mt 25 14) = k) => k) _ ?h
  case h => (conv => lhs; whnf)
noncomputable abbrev fb_c25_14 : List Stmt := by
  refine' (fun (k : List Stmt) (_ : fnB (mt 25 14) = k) => k) _ ?h
  case h => (conv => lhs; whnf)
noncomputable abbrev fs_c25_14 : Scope := by
  refine' (fun (k : Scope) (_ : fnS (mt 25 14) = k) => k) _ ?h
  case h => (conv => lhs; whnf)
noncomputable def o7_304 (P : Params) : Obj := PySem.Obj.mk PySem.Value.none Option.none   (PySem.Data.func     (PySem.FuncData.mk (PySem.Str.ofString "term") (PySem.Str.ofString "Reader.term") fa_c25_14       (PySem.FuncBody.stmts fb_c25_14) fs_c25_14 0 [] PySem.Value.none PySem.Value.none PySem.Value.none       PySem.Value.none Option.none PySem.Value.none PySem.Value.none 0))   #[]
noncomputable def o7_305 (P : Params) : Obj := PySem.Obj.mk (PySem.Value.type "code") Option.none   (PySem.Data.fields     #[PySem.Value.str (PySem.Str.ofString "term") 588, PySem.Value.str (PySem.Str.ofString "Reader.term") 589,       PySem.Value.str (PySem.Str.ofString "/claim/cut.py") 590, PySem.Value.int 310 0, PySem.Value.int 1 0,       PySem.Value.int 0 0, PySem.Value.int 0 0, PySem.Value.int 3 0, PySem.Value.ref 300, PySem.Value.bool Bool.true,       PySem.Value.int 181 0, PySem.Value.ref 301, PySem.Value.none, PySem.Value.ref 302, PySem.Value.ref 303,       PySem.Value.ref 304, PySem.Value.int 594 0, PySem.Value.int 310 0,       PySem.Value.str (PySem.Str.ofString "/claim/cut.py") 595])   #[]
noncomputable def o7_306 (P : Params) : Obj := PySem.Obj.mk (PySem.Value.type "function") Option.none   (PySem.Data.func     (PySem.FuncData.mk (PySem.Str.ofString "term") (PySem.Str.ofString "Reader.term") fa_c25_14       (PySem.FuncBody.stmts fb_c25_14) fs_c25_14 3 [] PySem.Value.none PySem.Value.none PySem.Value.none       (PySem.Value.str (PySem.Str.ofString "proofkit.reader") 411) Option.none (PySem.Value.ref 305) PySem.Value.none       0))   #[]
noncomputable def o7_307 (P : Params) : Obj := PySem.Obj.mk (PySem.Value.type "tuple") Option.none (PySem.Data.seq #[]) #[]
noncomputable def o7_308 (P : Params) : Obj := PySem.Obj.mk PySem.Value.none Option.none (PySem.Data.fields #[]) #[]
noncomputable def o7_309 (P : Params) : Obj := PySem.Obj.mk (PySem.Value.type "tuple") Option.none (PySem.Data.seq #[PySem.Value.str (PySem.Str.ofString "self") 600])   #[]
noncomputable def o7_310 (P : Params) : Obj := PySem.Obj.mk (PySem.Value.type "tuple") Option.none (PySem.Data.seq #[]) #[]
noncomputable abbrev fa_c25_15 : Arguments := by
  refine' (fun (k : Arguments) (_ : fnA (mt 25 15) = k) => k) _ ?h
  case h => (conv => lhs; whnf)
noncomputable abbrev fb_c25_15 : List Stmt := by
  refine' (fun (k : List Stmt) (_ : fnB (mt 25 15) = k) => k) _ ?h
  case h => (conv => lhs; whnf)
noncomputable abbrev fs_c25_15 : Scope := by
  refine' (fun (k : Scope) (_ : fnS (mt 25 15) = k) => k) _ ?h
  case h => (conv => lhs; whnf)
noncomputable def o7_311 (P : Params) : Obj := PySem.Obj.mk PySem.Value.none Option.none   (PySem.Data.func     (PySem.FuncData.mk (PySem.Str.ofString "finish") (PySem.Str.ofString "Reader.finish") fa_c25_15       (PySem.FuncBody.stmts fb_c25_15) fs_c25_15 0 [] PySem.Value.none PySem.Value.none PySem.Value.none       PySem.Value.none Option.none PySem.Value.none PySem.Value.none 0))   #[]
noncomputable def o7_312 (P : Params) : Obj := PySem.Obj.mk (PySem.Value.type "code") Option.none   (PySem.Data.fields     #[PySem.Value.str (PySem.Str.ofString "finish") 597, PySem.Value.str (PySem.Str.ofString "Reader.finish") 598,       PySem.Value.str (PySem.Str.ofString "/claim/cut.py") 599, PySem.Value.int 324 0, PySem.Value.int 1 0,       PySem.Value.int 0 0, PySem.Value.int 0 0, PySem.Value.int 3 0, PySem.Value.ref 307, PySem.Value.bool Bool.true,       PySem.Value.int 181 0, PySem.Value.ref 308, PySem.Value.none, PySem.Value.ref 309, PySem.Value.ref 310,       PySem.Value.ref 311, PySem.Value.int 601 0, PySem.Value.int 324 0,       PySem.Value.str (PySem.Str.ofString "/claim/cut.py") 602])   #[]
noncomputable def o7_313 (P : Params) : Obj := PySem.Obj.mk (PySem.Value.type "function") Option.none   (PySem.Data.func     (PySem.FuncData.mk (PySem.Str.ofString "finish") (PySem.Str.ofString "Reader.finish") fa_c25_15       (PySem.FuncBody.stmts fb_c25_15) fs_c25_15 3 [] PySem.Value.none PySem.Value.none PySem.Value.none       (PySem.Value.str (PySem.Str.ofString "proofkit.reader") 411) Option.none (PySem.Value.ref 312) PySem.Value.none       0))   #[]
noncomputable def o7_314 (P : Params) : Obj := PySem.Obj.mk (PySem.Value.type "tuple") Option.none   (PySem.Data.seq     #[PySem.Value.str (PySem.Str.ofString "_at") 604, PySem.Value.str (PySem.Str.ofString "_deep") 605,       PySem.Value.str (PySem.Str.ofString "_end") 606, PySem.Value.str (PySem.Str.ofString "_tokens") 607])   #[]
noncomputable def o7_315 (P : Params) : Obj := PySem.Obj.mk (PySem.Value.type "dict") Option.none   (PySem.Data.dict     #[PySem.DictEntry.mk (PySem.PyData.keyHash P (PySem.Str.ofString "__module__"))         (PySem.Value.str (PySem.Str.ofString "__module__") 466)         (PySem.Value.str (PySem.Str.ofString "proofkit.reader") 411),       PySem.DictEntry.mk (PySem.PyData.keyHash P (PySem.Str.ofString "__firstlineno__"))         (PySem.Value.str (PySem.Str.ofString "__firstlineno__") 470) (PySem.Value.int 188 469),       PySem.DictEntry.mk (PySem.PyData.keyHash P (PySem.Str.ofString "__init__"))         (PySem.Value.str (PySem.Str.ofString "__init__") 478) (PySem.Value.ref 208),       PySem.DictEntry.mk (PySem.PyData.keyHash P (PySem.Str.ofString "peek"))         (PySem.Value.str (PySem.Str.ofString "peek") 485) (PySem.Value.ref 215),       PySem.DictEntry.mk (PySem.PyData.keyHash P (PySem.Str.ofString "place"))         (PySem.Value.str (PySem.Str.ofString "place") 492) (PySem.Value.ref 222),       PySem.DictEntry.mk (PySem.PyData.keyHash P (PySem.Str.ofString "take"))         (PySem.Value.str (PySem.Str.ofString "take") 500) (PySem.Value.ref 229),       PySem.DictEntry.mk (PySem.PyData.keyHash P (PySem.Str.ofString "need"))         (PySem.Value.str (PySem.Str.ofString "need") 508) (PySem.Value.ref 236),       PySem.DictEntry.mk (PySem.PyData.keyHash P (PySem.Str.ofString "formula"))         (PySem.Value.str (PySem.Str.ofString "formula") 517) (PySem.Value.ref 243),       PySem.DictEntry.mk (PySem.PyData.keyHash P (PySem.Str.ofString "_longer"))         (PySem.Value.str (PySem.Str.ofString "_longer") 525) (PySem.Value.ref 250),       PySem.DictEntry.mk (PySem.PyData.keyHash P (PySem.Str.ofString "implication"))         (PySem.Value.str (PySem.Str.ofString "implication") 534) (PySem.Value.ref 257),       PySem.DictEntry.mk (PySem.PyData.keyHash P (PySem.Str.ofString "disjunction"))         (PySem.Value.str (PySem.Str.ofString "disjunction") 543) (PySem.Value.ref 264),       PySem.DictEntry.mk (PySem.PyData.keyHash P (PySem.Str.ofString "conjunction"))         (PySem.Value.str (PySem.Str.ofString "conjunction") 552) (PySem.Value.ref 271),       PySem.DictEntry.mk (PySem.PyData.keyHash P (PySem.Str.ofString "simple"))         (PySem.Value.str (PySem.Str.ofString "simple") 560) (PySem.Value.ref 278),       PySem.DictEntry.mk (PySem.PyData.keyHash P (PySem.Str.ofString "_simple"))         (PySem.Value.str (PySem.Str.ofString "_simple") 571) (PySem.Value.ref 285),       PySem.DictEntry.mk (PySem.PyData.keyHash P (PySem.Str.ofString "name"))         (PySem.Value.str (PySem.Str.ofString "name") 579) (PySem.Value.ref 292),       PySem.DictEntry.mk (PySem.PyData.keyHash P (PySem.Str.ofString "arguments"))         (PySem.Value.str (PySem.Str.ofString "arguments") 587) (PySem.Value.ref 299),       PySem.DictEntry.mk (PySem.PyData.keyHash P (PySem.Str.ofString "term"))         (PySem.Value.str (PySem.Str.ofString "term") 596) (PySem.Value.ref 306),       PySem.DictEntry.mk (PySem.PyData.keyHash P (PySem.Str.ofString "finish"))         (PySem.Value.str (PySem.Str.ofString "finish") 603) (PySem.Value.ref 313),       PySem.DictEntry.mk (PySem.PyData.keyHash P (PySem.Str.ofString "__static_attributes__"))         (PySem.Value.str (PySem.Str.ofString "__static_attributes__") 608) (PySem.Value.ref 314),       PySem.DictEntry.mk (PySem.PyData.keyHash P (PySem.Str.ofString "__dict__"))         (PySem.Value.str (PySem.Str.ofString "__dict__") 610) (PySem.Value.ref 317),       PySem.DictEntry.mk (PySem.PyData.keyHash P (PySem.Str.ofString "__weakref__"))         (PySem.Value.str (PySem.Str.ofString "__weakref__") 612) (PySem.Value.ref 318),       PySem.DictEntry.mk (PySem.PyData.keyHash P (PySem.Str.ofString "__doc__"))         (PySem.Value.str (PySem.Str.ofString "__doc__") 613) PySem.Value.none]     4)   #[]
noncomputable def o7_316 (P : Params) : Obj := PySem.Obj.mk (PySem.Value.type "type") Option.none   (PySem.Data.cls     (PySem.ClassData.mk (PySem.Str.ofString "Reader") [PySem.Value.type "object"]       [PySem.Value.ref 316, PySem.Value.type "object"] 315 (PySem.Str.ofString "Reader") Bool.true [] [] Bool.false       Option.none Bool.false))   #[Option.none, Option.none, Option.some (PySem.Value.str (PySem.Str.ofString "Reader") 459),     Option.some (PySem.Value.str (PySem.Str.ofString "Reader") 467), Option.some (PySem.Value.builtin "object.__new__"),     Option.some (PySem.Value.bool Bool.true)]
noncomputable def o7_317 (P : Params) : Obj := PySem.Obj.mk (PySem.Value.type "getset_descriptor") Option.none   (PySem.Data.fields     #[PySem.Value.str (PySem.Str.ofString "__dict__") 609, PySem.Value.ref 316, PySem.Value.builtin "function.__dict__",       PySem.Value.builtin "function.__dict__#set"])   #[]
noncomputable def o7_318 (P : Params) : Obj := PySem.Obj.mk (PySem.Value.type "getset_descriptor") Option.none   (PySem.Data.fields     #[PySem.Value.str (PySem.Str.ofString "__weakref__") 611, PySem.Value.ref 316,       PySem.Value.builtin "ExceptionGroup.__weakref__", PySem.Value.none])   #[]
noncomputable def o7_319 (P : Params) : Obj := PySem.Obj.mk (PySem.Value.type "super") Option.none   (PySem.Data.fields #[PySem.Value.ref 316, PySem.Value.ref 316, PySem.Value.ref 316]) #[]
noncomputable def o7_320 (P : Params) : Obj := PySem.Obj.mk (PySem.Value.type "builtin_function_or_method") Option.none   (PySem.Data.fields #[PySem.Value.builtin "object.__init_subclass__", PySem.Value.ref 316]) #[]
noncomputable def h7 (P : Params) : Heap := ⟨⟨[PySem.W.boot_o_0 P, PySem.W.boot_o_1 P, PySem.W.boot_o_2 P, o7_3 P, PySem.W.boot_o_4 P, PySem.W.boot_o_5 P, PySem.W.boot_o_6 P, PySem.W.boot_o_7 P, PySem.W.boot_o_8 P, PySem.W.boot_o_9 P, PySem.W.boot_o_10 P, o0_11 P, o7_12 P, o0_13 P, o0_14 P, o2_15 P, o2_16 P, o2_17 P, o2_18 P, o2_19 P, o2_20 P, o2_21 P, o2_22 P, o2_23 P, o2_24 P, o2_25 P, o2_26 P, o2_27 P, o2_28 P, o2_29 P, o2_30 P, o3_31 P, o2_32 P, o2_33 P, o2_34 P, o3_35 P, o3_36 P, o3_37 P, o3_38 P, o3_39 P, o3_40 P, o3_41 P, o3_42 P, o3_43 P, o3_44 P, o3_45 P, o3_46 P, o3_47 P, o3_48 P, o3_49 P, o3_50 P, o3_51 P, o3_52 P, o3_53 P, o4_54 P, o4_55 P, o4_56 P, o4_57 P, o4_58 P, o4_59 P, o4_60 P, o4_61 P, o4_62 P, o4_63 P, o4_64 P, o4_65 P, o4_66 P, o4_67 P, o4_68 P, o4_69 P, o4_70 P, o4_71 P, o4_72 P, o4_73 P, o4_74 P, o4_75 P, o4_76 P, o4_77 P, o4_78 P, o4_79 P, o4_80 P, o4_81 P, o4_82 P, o4_83 P, o4_84 P, o4_85 P, o4_86 P, o4_87 P, o4_88 P, o4_89 P, o4_90 P, o4_91 P, o4_92 P, o4_93 P, o4_94 P, o4_95 P, o4_96 P, o4_97 P, o5_98 P, o5_99 P, o5_100 P, o5_101 P, o5_102 P, o5_103 P, o5_104 P, o5_105 P, o5_106 P, o5_107 P, o5_108 P, o5_109 P, o5_110 P, o5_111 P, o5_112 P, o5_113 P, o5_114 P, o5_115 P, o5_116 P, o5_117 P, o5_118 P, o5_119 P, o5_120 P, o5_121 P, o5_122 P, o5_123 P, o5_124 P, o5_125 P, o5_126 P, o5_127 P, o5_128 P, o5_129 P, o5_130 P, o5_131 P, o5_132 P, o5_133 P, o5_134 P, o5_135 P, o5_136 P, o5_137 P, o5_138 P, o5_139 P, o5_140 P, o5_141 P, o5_142 P, o5_143 P, o5_144 P, o5_145 P, o5_146 P, o5_147 P, o5_148 P, o5_149 P, o5_150 P, o5_151 P, o6_152 P, o6_153 P, o6_154 P, o6_155 P, o6_156 P, o6_157 P, o6_158 P, o6_159 P, o6_160 P, o6_161 P, o6_162 P, o6_163 P, o6_164 P, o6_165 P, o6_166 P, o6_167 P, o6_168 P, o6_169 P, o6_170 P, o6_171 P, o6_172 P, o6_173 P, o6_174 P, o6_175 P, o6_176 P, o6_177 P, o6_178 P, o6_179 P, o6_180 P, o6_181 P, o6_182 P, o6_183 P, o6_184 P, o6_185 P, o6_186 P, o6_187 P, o6_188 P, o6_189 P, o6_190 P, o6_191 P, o6_192 P, o6_193 P, o6_194 P, o7_195 P, o7_196 P, o7_197 P, o7_198 P, o7_199 P, o7_200 P, o7_201 P, o7_202 P, o7_203 P, o7_204 P, o7_205 P, o7_206 P, o7_207 P, o7_208 P, o7_209 P, o7_210 P, o7_211 P, o7_212 P, o7_213 P, o7_214 P, o7_215 P, o7_216 P, o7_217 P, o7_218 P, o7_219 P, o7_220 P, o7_221 P, o7_222 P, o7_223 P, o7_224 P, o7_225 P, o7_226 P, o7_227 P, o7_228 P, o7_229 P, o7_230 P, o7_231 P, o7_232 P, o7_233 P, o7_234 P, o7_235 P, o7_236 P, o7_237 P, o7_238 P, o7_239 P, o7_240 P, o7_241 P, o7_242 P, o7_243 P, o7_244 P, o7_245 P, o7_246 P, o7_247 P, o7_248 P, o7_249 P, o7_250 P, o7_251 P, o7_252 P, o7_253 P, o7_254 P, o7_255 P, o7_256 P, o7_257 P, o7_258 P, o7_259 P, o7_260 P, o7_261 P, o7_262 P, o7_263 P, o7_264 P, o7_265 P, o7_266 P, o7_267 P, o7_268 P, o7_269 P, o7_270 P, o7_271 P, o7_272 P, o7_273 P, o7_274 P, o7_275 P, o7_276 P, o7_277 P, o7_278 P, o7_279 P, o7_280 P, o7_281 P, o7_282 P, o7_283 P, o7_284 P, o7_285 P, o7_286 P, o7_287 P, o7_288 P, o7_289 P, o7_290 P, o7_291 P, o7_292 P, o7_293 P, o7_294 P, o7_295 P, o7_296 P, o7_297 P, o7_298 P, o7_299 P, o7_300 P, o7_301 P, o7_302 P, o7_303 P, o7_304 P, o7_305 P, o7_306 P, o7_307 P, o7_308 P, o7_309 P, o7_310 P, o7_311 P, o7_312 P, o7_313 P, o7_314 P, o7_315 P, o7_316 P, o7_317 P, o7_318 P, o7_319 P, o7_320 P]⟩, PySem.Life.mk [] [] [] 0 [] [] Bool.false #[] [] 0 Bool.false Bool.false Bool.false 0 [2000, 10, 10] Bool.false 0   Bool.true [] [] 0 Bool.false⟩
noncomputable abbrev s7 (w : World) (os : OsState) : Shared := ⟨h7 w.params, ⟨[]⟩, PySem.Drawn.mk 0 0 0 0, 616, os⟩
noncomputable abbrev p7 : Pos := PySem.Pos.mk 188 0 326 64
noncomputable def o8_3 (P : Params) : Obj := PySem.Obj.mk (PySem.Value.type "dict") Option.none   (PySem.Data.dict     #[PySem.DictEntry.mk (PySem.PyData.keyHash P (PySem.Str.ofString "__name__"))         (PySem.Value.str (PySem.Str.ofString "__name__") 165)         (PySem.Value.str (PySem.Str.ofString "law_ui0505_06") 631),       PySem.DictEntry.mk (PySem.PyData.keyHash P (PySem.Str.ofString "__doc__"))         (PySem.Value.str (PySem.Str.ofString "__doc__") 166) PySem.Value.none,       PySem.DictEntry.mk (PySem.PyData.keyHash P (PySem.Str.ofString "__package__"))         (PySem.Value.str (PySem.Str.ofString "__package__") 167) PySem.Value.none,       PySem.DictEntry.mk (PySem.PyData.keyHash P (PySem.Str.ofString "__loader__"))         (PySem.Value.str (PySem.Str.ofString "__loader__") 168) (PySem.Value.builtin "__main__.__loader__#opaque"),       PySem.DictEntry.mk (PySem.PyData.keyHash P (PySem.Str.ofString "__spec__"))         (PySem.Value.str (PySem.Str.ofString "__spec__") 169) PySem.Value.none,       PySem.DictEntry.mk (PySem.PyData.keyHash P (PySem.Str.ofString "__annotations__"))         (PySem.Value.str (PySem.Str.ofString "__annotations__") 170) (PySem.Value.ref 6),       PySem.DictEntry.mk (PySem.PyData.keyHash P (PySem.Str.ofString "__builtins__"))         (PySem.Value.str (PySem.Str.ofString "__builtins__") 171) (PySem.Value.ref 4),       PySem.DictEntry.mk (PySem.PyData.keyHash P (PySem.Str.ofString "__file__"))         (PySem.Value.str (PySem.Str.ofString "__file__") 173)         (PySem.Value.str (PySem.Str.ofString "/claim/cut.py") 172),       PySem.DictEntry.mk (PySem.PyData.keyHash P (PySem.Str.ofString "__cached__"))         (PySem.Value.str (PySem.Str.ofString "__cached__") 174) PySem.Value.none,       PySem.DictEntry.mk (PySem.PyData.keyHash P (PySem.Str.ofString "_wall"))         (PySem.Value.str (PySem.Str.ofString "_wall") 193) (PySem.Value.ref 21),       PySem.DictEntry.mk (PySem.PyData.keyHash P (PySem.Str.ofString "LogicError"))         (PySem.Value.str (PySem.Str.ofString "LogicError") 213) (PySem.Value.ref 31),       PySem.DictEntry.mk (PySem.PyData.keyHash P (PySem.Str.ofString "ReadError"))         (PySem.Value.str (PySem.Str.ofString "ReadError") 240) (PySem.Value.ref 51),       PySem.DictEntry.mk (PySem.PyData.keyHash P (PySem.Str.ofString "names"))         (PySem.Value.str (PySem.Str.ofString "names") 250) (PySem.Value.ref 60),       PySem.DictEntry.mk (PySem.PyData.keyHash P (PySem.Str.ofString "_names"))         (PySem.Value.str (PySem.Str.ofString "_names") 259) (PySem.Value.ref 67),       PySem.DictEntry.mk (PySem.PyData.keyHash P (PySem.Str.ofString "JOINS"))         (PySem.Value.str (PySem.Str.ofString "JOINS") 266) (PySem.Value.ref 68),       PySem.DictEntry.mk (PySem.PyData.keyHash P (PySem.Str.ofString "BINDERS"))         (PySem.Value.str (PySem.Str.ofString "BINDERS") 269) (PySem.Value.ref 69),       PySem.DictEntry.mk (PySem.PyData.keyHash P (PySem.Str.ofString "direct"))         (PySem.Value.str (PySem.Str.ofString "direct") 277) (PySem.Value.ref 76),       PySem.DictEntry.mk (PySem.PyData.keyHash P (PySem.Str.ofString "own_terms"))         (PySem.Value.str (PySem.Str.ofString "own_terms") 284) (PySem.Value.ref 83),       PySem.DictEntry.mk (PySem.PyData.keyHash P (PySem.Str.ofString "free"))         (PySem.Value.str (PySem.Str.ofString "free") 292) (PySem.Value.ref 90),       PySem.DictEntry.mk (PySem.PyData.keyHash P (PySem.Str.ofString "_free"))         (PySem.Value.str (PySem.Str.ofString "_free") 305) (PySem.Value.ref 97),       PySem.DictEntry.mk (PySem.PyData.keyHash P (PySem.Str.ofString "Model"))         (PySem.Value.str (PySem.Str.ofString "Model") 383) (PySem.Value.ref 147),       PySem.DictEntry.mk (PySem.PyData.keyHash P (PySem.Str.ofString "tuples"))         (PySem.Value.str (PySem.Str.ofString "tuples") 393) (PySem.Value.ref 158),       PySem.DictEntry.mk (PySem.PyData.keyHash P (PySem.Str.ofString "nth_model"))         (PySem.Value.str (PySem.Str.ofString "nth_model") 410) (PySem.Value.ref 165),       PySem.DictEntry.mk (PySem.PyData.keyHash P (PySem.Str.ofString "DEEP"))         (PySem.Value.str (PySem.Str.ofString "DEEP") 414) (PySem.Value.int 80 413),       PySem.DictEntry.mk (PySem.PyData.keyHash P (PySem.Str.ofString "SIGNS"))         (PySem.Value.str (PySem.Str.ofString "SIGNS") 425) (PySem.Value.ref 166),       PySem.DictEntry.mk (PySem.PyData.keyHash P (PySem.Str.ofString "is_letter"))         (PySem.Value.str (PySem.Str.ofString "is_letter") 432) (PySem.Value.ref 173),       PySem.DictEntry.mk (PySem.PyData.keyHash P (PySem.Str.ofString "is_rest"))         (PySem.Value.str (PySem.Str.ofString "is_rest") 439) (PySem.Value.ref 180),       PySem.DictEntry.mk (PySem.PyData.keyHash P (PySem.Str.ofString "tokens"))         (PySem.Value.str (PySem.Str.ofString "tokens") 451) (PySem.Value.ref 187),       PySem.DictEntry.mk (PySem.PyData.keyHash P (PySem.Str.ofString "is_variable"))         (PySem.Value.str (PySem.Str.ofString "is_variable") 458) (PySem.Value.ref 194),       PySem.DictEntry.mk (PySem.PyData.keyHash P (PySem.Str.ofString "Reader"))         (PySem.Value.str (PySem.Str.ofString "Reader") 615) (PySem.Value.ref 316),       PySem.DictEntry.mk (PySem.PyData.keyHash P (PySem.Str.ofString "read"))         (PySem.Value.str (PySem.Str.ofString "read") 624) (PySem.Value.ref 327),       PySem.DictEntry.mk (PySem.PyData.keyHash P (PySem.Str.ofString "depth"))         (PySem.Value.str (PySem.Str.ofString "depth") 630) (PySem.Value.ref 332),       PySem.DictEntry.mk (PySem.PyData.keyHash P (PySem.Str.ofString "_law_cell"))         (PySem.Value.str (PySem.Str.ofString "_law_cell") 640) (PySem.Value.ref 339),       PySem.DictEntry.mk (PySem.PyData.keyHash P (PySem.Str.ofString "law"))         (PySem.Value.str (PySem.Str.ofString "law") 650) (PySem.Value.ref 346)]     34)   #[]
noncomputable def o8_12 (P : Params) : Obj := PySem.Obj.mk PySem.Value.none Option.none   (PySem.Data.fields     #[PySem.Value.int 1 0, PySem.Value.int 0 0, PySem.Value.ref 20, PySem.Value.int 5 0, PySem.Value.int 0 0,       PySem.Value.ref 27, PySem.Value.int 7 0, PySem.Value.int 0 0, PySem.Value.ref 40, PySem.Value.int 14 0,       PySem.Value.int 0 0, PySem.Value.ref 59, PySem.Value.int 18 0, PySem.Value.int 0 0, PySem.Value.ref 66,       PySem.Value.int 28 0, PySem.Value.int 0 0, PySem.Value.ref 75, PySem.Value.int 37 0, PySem.Value.int 0 0,       PySem.Value.ref 82, PySem.Value.int 43 0, PySem.Value.int 0 0, PySem.Value.ref 89, PySem.Value.int 47 0,       PySem.Value.int 0 0, PySem.Value.ref 96, PySem.Value.int 58 0, PySem.Value.int 0 0, PySem.Value.ref 103,       PySem.Value.int 129 0, PySem.Value.int 0 0, PySem.Value.ref 157, PySem.Value.int 136 0, PySem.Value.int 0 0,       PySem.Value.ref 164, PySem.Value.int 158 0, PySem.Value.int 0 0, PySem.Value.ref 172, PySem.Value.int 160 0,       PySem.Value.int 0 0, PySem.Value.ref 179, PySem.Value.int 162 0, PySem.Value.int 0 0, PySem.Value.ref 186,       PySem.Value.int 186 0, PySem.Value.int 0 0, PySem.Value.ref 193, PySem.Value.int 188 0, PySem.Value.int 0 0,       PySem.Value.ref 200, PySem.Value.int 327 0, PySem.Value.int 0 0, PySem.Value.ref 326, PySem.Value.int 334 0,       PySem.Value.int 0 0, PySem.Value.ref 331, PySem.Value.int 348 0, PySem.Value.int 0 0, PySem.Value.ref 338,       PySem.Value.int 352 0, PySem.Value.int 0 0, PySem.Value.ref 345])   #[]
noncomputable def o8_321 (P : Params) : Obj := PySem.Obj.mk (PySem.Value.type "tuple") Option.none (PySem.Data.seq #[]) #[]
noncomputable def o8_322 (P : Params) : Obj := PySem.Obj.mk PySem.Value.none Option.none (PySem.Data.fields #[]) #[]
noncomputable def o8_323 (P : Params) : Obj := PySem.Obj.mk (PySem.Value.type "tuple") Option.none   (PySem.Data.seq     #[PySem.Value.str (PySem.Str.ofString "text") 619, PySem.Value.str (PySem.Str.ofString "reader") 620,       PySem.Value.str (PySem.Str.ofString "f") 621])   #[]
noncomputable def o8_324 (P : Params) : Obj := PySem.Obj.mk (PySem.Value.type "tuple") Option.none (PySem.Data.seq #[]) #[]
noncomputable abbrev fa_t26 : Arguments := by
  refine' (fun (k : Arguments) (_ : fnA (st 26) = k) => k) _ ?h
  case h => (conv => lhs; whnf)
noncomputable abbrev fb_t26 : List Stmt := by
  refine' (fun (k : List Stmt) (_ : fnB (st 26) = k) => k) _ ?h
  case h => (conv => lhs; whnf)
noncomputable abbrev fs_t26 : Scope := by
  refine' (fun (k : Scope) (_ : fnS (st 26) = k) => k) _ ?h
  case h => (conv => lhs; whnf)
noncomputable def o8_325 (P : Params) : Obj := PySem.Obj.mk PySem.Value.none Option.none   (PySem.Data.func     (PySem.FuncData.mk (PySem.Str.ofString "read") (PySem.Str.ofString "read") fa_t26 (PySem.FuncBody.stmts fb_t26)       fs_t26 0 [] PySem.Value.none PySem.Value.none PySem.Value.none PySem.Value.none Option.none PySem.Value.none       PySem.Value.none 0))   #[]
noncomputable def o8_326 (P : Params) : Obj := PySem.Obj.mk (PySem.Value.type "code") Option.none   (PySem.Data.fields     #[PySem.Value.str (PySem.Str.ofString "read") 616, PySem.Value.str (PySem.Str.ofString "read") 617,       PySem.Value.str (PySem.Str.ofString "/claim/cut.py") 618, PySem.Value.int 327 0, PySem.Value.int 1 0,       PySem.Value.int 0 0, PySem.Value.int 0 0, PySem.Value.int 3 0, PySem.Value.ref 321, PySem.Value.bool Bool.true,       PySem.Value.int 181 0, PySem.Value.ref 322, PySem.Value.none, PySem.Value.ref 323, PySem.Value.ref 324,       PySem.Value.ref 325, PySem.Value.int 622 0, PySem.Value.int 327 0,       PySem.Value.str (PySem.Str.ofString "/claim/cut.py") 623])   #[]
noncomputable def o8_327 (P : Params) : Obj := PySem.Obj.mk (PySem.Value.type "function") Option.none   (PySem.Data.func     (PySem.FuncData.mk (PySem.Str.ofString "read") (PySem.Str.ofString "read") fa_t26 (PySem.FuncBody.stmts fb_t26)       fs_t26 3 [] PySem.Value.none PySem.Value.none PySem.Value.none       (PySem.Value.str (PySem.Str.ofString "proofkit.reader") 411) Option.none (PySem.Value.ref 326) PySem.Value.none       0))   #[]
noncomputable def o8_328 (P : Params) : Obj := PySem.Obj.mk (PySem.Value.type "tuple") Option.none (PySem.Data.seq #[]) #[]
noncomputable def o8_329 (P : Params) : Obj := PySem.Obj.mk PySem.Value.none Option.none (PySem.Data.fields #[]) #[]
noncomputable abbrev fa_t27 : Arguments := by
  refine' (fun (k : Arguments) (_ : fnA (st 27) = k) => k) _ ?h
  case h => (conv => lhs; whnf)
noncomputable abbrev fb_t27 : List Stmt := by
  refine' (fun (k : List Stmt) (_ : fnB (st 27) = k) => k) _ ?h
  case h => (conv => lhs; whnf)
noncomputable abbrev fs_t27 : Scope := by
  refine' (fun (k : Scope) (_ : fnS (st 27) = k) => k) _ ?h
  case h => (conv => lhs; whnf)
noncomputable def o8_330 (P : Params) : Obj := PySem.Obj.mk PySem.Value.none Option.none   (PySem.Data.func     (PySem.FuncData.mk (PySem.Str.ofString "depth") (PySem.Str.ofString "depth") fa_t27 (PySem.FuncBody.stmts fb_t27)       fs_t27 0 [] PySem.Value.none PySem.Value.none PySem.Value.none PySem.Value.none Option.none PySem.Value.none       PySem.Value.none 0))   #[]
noncomputable def o8_331 (P : Params) : Obj := PySem.Obj.mk (PySem.Value.type "code") Option.none   (PySem.Data.fields     #[PySem.Value.str (PySem.Str.ofString "depth") 625, PySem.Value.str (PySem.Str.ofString "depth") 626,       PySem.Value.str (PySem.Str.ofString "/claim/cut.py") 627, PySem.Value.int 334 0, PySem.Value.int 1 0,       PySem.Value.int 0 0, PySem.Value.int 0 0, PySem.Value.int 3 0, PySem.Value.ref 328, PySem.Value.bool Bool.true,       PySem.Value.int 181 0, PySem.Value.ref 329, PySem.Value.none, PySem.Value.none, PySem.Value.none,       PySem.Value.ref 330, PySem.Value.int 628 0, PySem.Value.int 334 0,       PySem.Value.str (PySem.Str.ofString "/claim/cut.py") 629])   #[]
noncomputable def o8_332 (P : Params) : Obj := PySem.Obj.mk (PySem.Value.type "function") Option.none   (PySem.Data.func     (PySem.FuncData.mk (PySem.Str.ofString "depth") (PySem.Str.ofString "depth") fa_t27 (PySem.FuncBody.stmts fb_t27)       fs_t27 3 [] PySem.Value.none PySem.Value.none PySem.Value.none       (PySem.Value.str (PySem.Str.ofString "proofkit.reader") 411) Option.none (PySem.Value.ref 331) PySem.Value.none       0))   #[]
noncomputable def o8_333 (P : Params) : Obj := PySem.Obj.mk (PySem.Value.type "tuple") Option.none (PySem.Data.seq #[]) #[]
noncomputable def o8_334 (P : Params) : Obj := PySem.Obj.mk PySem.Value.none Option.none (PySem.Data.fields #[]) #[]
noncomputable def o8_335 (P : Params) : Obj := PySem.Obj.mk (PySem.Value.type "tuple") Option.none   (PySem.Data.seq #[PySem.Value.str (PySem.Str.ofString "script") 636, PySem.Value.str (PySem.Str.ofString "k") 637])   #[]
noncomputable def o8_336 (P : Params) : Obj := PySem.Obj.mk (PySem.Value.type "tuple") Option.none (PySem.Data.seq #[]) #[]
noncomputable abbrev fa_t29 : Arguments := by
  refine' (fun (k : Arguments) (_ : fnA (st 29) = k) => k) _ ?h
  case h => (conv => lhs; whnf)
noncomputable abbrev fb_t29 : List Stmt := by
  refine' (fun (k : List Stmt) (_ : fnB (st 29) = k) => k) _ ?h
  case h => (conv => lhs; whnf)
noncomputable abbrev fs_t29 : Scope := by
  refine' (fun (k : Scope) (_ : fnS (st 29) = k) => k) _ ?h
  case h => (conv => lhs; whnf)
noncomputable def o8_337 (P : Params) : Obj := PySem.Obj.mk PySem.Value.none Option.none   (PySem.Data.func     (PySem.FuncData.mk (PySem.Str.ofString "_law_cell") (PySem.Str.ofString "_law_cell") fa_t29       (PySem.FuncBody.stmts fb_t29) fs_t29 0 [] PySem.Value.none PySem.Value.none PySem.Value.none PySem.Value.none       Option.none PySem.Value.none PySem.Value.none 0))   #[]
noncomputable def o8_338 (P : Params) : Obj := PySem.Obj.mk (PySem.Value.type "code") Option.none   (PySem.Data.fields     #[PySem.Value.str (PySem.Str.ofString "_law_cell") 633, PySem.Value.str (PySem.Str.ofString "_law_cell") 634,       PySem.Value.str (PySem.Str.ofString "/claim/cut.py") 635, PySem.Value.int 348 0, PySem.Value.int 2 0,       PySem.Value.int 0 0, PySem.Value.int 0 0, PySem.Value.int 3 0, PySem.Value.ref 333, PySem.Value.bool Bool.true,       PySem.Value.int 181 0, PySem.Value.ref 334, PySem.Value.none, PySem.Value.ref 335, PySem.Value.ref 336,       PySem.Value.ref 337, PySem.Value.int 638 0, PySem.Value.int 348 0,       PySem.Value.str (PySem.Str.ofString "/claim/cut.py") 639])   #[]
noncomputable def o8_339 (P : Params) : Obj := PySem.Obj.mk (PySem.Value.type "function") Option.none   (PySem.Data.func     (PySem.FuncData.mk (PySem.Str.ofString "_law_cell") (PySem.Str.ofString "_law_cell") fa_t29       (PySem.FuncBody.stmts fb_t29) fs_t29 3 [] PySem.Value.none PySem.Value.none PySem.Value.none       (PySem.Value.str (PySem.Str.ofString "law_ui0505_06") 631) Option.none (PySem.Value.ref 338) PySem.Value.none 0))   #[]
noncomputable def o8_340 (P : Params) : Obj := PySem.Obj.mk (PySem.Value.type "tuple") Option.none (PySem.Data.seq #[]) #[]
noncomputable def o8_341 (P : Params) : Obj := PySem.Obj.mk PySem.Value.none Option.none (PySem.Data.fields #[]) #[]
noncomputable def o8_342 (P : Params) : Obj := PySem.Obj.mk (PySem.Value.type "tuple") Option.none   (PySem.Data.seq     #[PySem.Value.str (PySem.Str.ofString "script") 644, PySem.Value.str (PySem.Str.ofString "size") 645,       PySem.Value.str (PySem.Str.ofString "model") 646, PySem.Value.str (PySem.Str.ofString "many") 647])   #[]
noncomputable def o8_343 (P : Params) : Obj := PySem.Obj.mk (PySem.Value.type "tuple") Option.none (PySem.Data.seq #[]) #[]
noncomputable abbrev fa_t30 : Arguments := by
  refine' (fun (k : Arguments) (_ : fnA (st 30) = k) => k) _ ?h
  case h => (conv => lhs; whnf)
noncomputable abbrev fb_t30 : List Stmt := by
  refine' (fun (k : List Stmt) (_ : fnB (st 30) = k) => k) _ ?h
  case h => (conv => lhs; whnf)
noncomputable abbrev fs_t30 : Scope := by
  refine' (fun (k : Scope) (_ : fnS (st 30) = k) => k) _ ?h
  case h => (conv => lhs; whnf)
noncomputable def o8_344 (P : Params) : Obj := PySem.Obj.mk PySem.Value.none Option.none   (PySem.Data.func     (PySem.FuncData.mk (PySem.Str.ofString "law") (PySem.Str.ofString "law") fa_t30 (PySem.FuncBody.stmts fb_t30) fs_t30       0 [] PySem.Value.none PySem.Value.none PySem.Value.none PySem.Value.none Option.none PySem.Value.none       PySem.Value.none 0))   #[]
noncomputable def o8_345 (P : Params) : Obj := PySem.Obj.mk (PySem.Value.type "code") Option.none   (PySem.Data.fields     #[PySem.Value.str (PySem.Str.ofString "law") 641, PySem.Value.str (PySem.Str.ofString "law") 642,       PySem.Value.str (PySem.Str.ofString "/claim/cut.py") 643, PySem.Value.int 352 0, PySem.Value.int 1 0,       PySem.Value.int 0 0, PySem.Value.int 0 0, PySem.Value.int 3 0, PySem.Value.ref 340, PySem.Value.bool Bool.true,       PySem.Value.int 181 0, PySem.Value.ref 341, PySem.Value.none, PySem.Value.ref 342, PySem.Value.ref 343,       PySem.Value.ref 344, PySem.Value.int 648 0, PySem.Value.int 352 0,       PySem.Value.str (PySem.Str.ofString "/claim/cut.py") 649])   #[]
noncomputable def o8_346 (P : Params) : Obj := PySem.Obj.mk (PySem.Value.type "function") Option.none   (PySem.Data.func     (PySem.FuncData.mk (PySem.Str.ofString "law") (PySem.Str.ofString "law") fa_t30 (PySem.FuncBody.stmts fb_t30) fs_t30       3 [] PySem.Value.none PySem.Value.none PySem.Value.none (PySem.Value.str (PySem.Str.ofString "law_ui0505_06") 631)       Option.none (PySem.Value.ref 345) PySem.Value.none 0))   #[]
noncomputable def h8 (P : Params) : Heap := ⟨⟨[PySem.W.boot_o_0 P, PySem.W.boot_o_1 P, PySem.W.boot_o_2 P, o8_3 P, PySem.W.boot_o_4 P, PySem.W.boot_o_5 P, PySem.W.boot_o_6 P, PySem.W.boot_o_7 P, PySem.W.boot_o_8 P, PySem.W.boot_o_9 P, PySem.W.boot_o_10 P, o0_11 P, o8_12 P, o0_13 P, o0_14 P, o2_15 P, o2_16 P, o2_17 P, o2_18 P, o2_19 P, o2_20 P, o2_21 P, o2_22 P, o2_23 P, o2_24 P, o2_25 P, o2_26 P, o2_27 P, o2_28 P, o2_29 P, o2_30 P, o3_31 P, o2_32 P, o2_33 P, o2_34 P, o3_35 P, o3_36 P, o3_37 P, o3_38 P, o3_39 P, o3_40 P, o3_41 P, o3_42 P, o3_43 P, o3_44 P, o3_45 P, o3_46 P, o3_47 P, o3_48 P, o3_49 P, o3_50 P, o3_51 P, o3_52 P, o3_53 P, o4_54 P, o4_55 P, o4_56 P, o4_57 P, o4_58 P, o4_59 P, o4_60 P, o4_61 P, o4_62 P, o4_63 P, o4_64 P, o4_65 P, o4_66 P, o4_67 P, o4_68 P, o4_69 P, o4_70 P, o4_71 P, o4_72 P, o4_73 P, o4_74 P, o4_75 P, o4_76 P, o4_77 P, o4_78 P, o4_79 P, o4_80 P, o4_81 P, o4_82 P, o4_83 P, o4_84 P, o4_85 P, o4_86 P, o4_87 P, o4_88 P, o4_89 P, o4_90 P, o4_91 P, o4_92 P, o4_93 P, o4_94 P, o4_95 P, o4_96 P, o4_97 P, o5_98 P, o5_99 P, o5_100 P, o5_101 P, o5_102 P, o5_103 P, o5_104 P, o5_105 P, o5_106 P, o5_107 P, o5_108 P, o5_109 P, o5_110 P, o5_111 P, o5_112 P, o5_113 P, o5_114 P, o5_115 P, o5_116 P, o5_117 P, o5_118 P, o5_119 P, o5_120 P, o5_121 P, o5_122 P, o5_123 P, o5_124 P, o5_125 P, o5_126 P, o5_127 P, o5_128 P, o5_129 P, o5_130 P, o5_131 P, o5_132 P, o5_133 P, o5_134 P, o5_135 P, o5_136 P, o5_137 P, o5_138 P, o5_139 P, o5_140 P, o5_141 P, o5_142 P, o5_143 P, o5_144 P, o5_145 P, o5_146 P, o5_147 P, o5_148 P, o5_149 P, o5_150 P, o5_151 P, o6_152 P, o6_153 P, o6_154 P, o6_155 P, o6_156 P, o6_157 P, o6_158 P, o6_159 P, o6_160 P, o6_161 P, o6_162 P, o6_163 P, o6_164 P, o6_165 P, o6_166 P, o6_167 P, o6_168 P, o6_169 P, o6_170 P, o6_171 P, o6_172 P, o6_173 P, o6_174 P, o6_175 P, o6_176 P, o6_177 P, o6_178 P, o6_179 P, o6_180 P, o6_181 P, o6_182 P, o6_183 P, o6_184 P, o6_185 P, o6_186 P, o6_187 P, o6_188 P, o6_189 P, o6_190 P, o6_191 P, o6_192 P, o6_193 P, o6_194 P, o7_195 P, o7_196 P, o7_197 P, o7_198 P, o7_199 P, o7_200 P, o7_201 P, o7_202 P, o7_203 P, o7_204 P, o7_205 P, o7_206 P, o7_207 P, o7_208 P, o7_209 P, o7_210 P, o7_211 P, o7_212 P, o7_213 P, o7_214 P, o7_215 P, o7_216 P, o7_217 P, o7_218 P, o7_219 P, o7_220 P, o7_221 P, o7_222 P, o7_223 P, o7_224 P, o7_225 P, o7_226 P, o7_227 P, o7_228 P, o7_229 P, o7_230 P, o7_231 P, o7_232 P, o7_233 P, o7_234 P, o7_235 P, o7_236 P, o7_237 P, o7_238 P, o7_239 P, o7_240 P, o7_241 P, o7_242 P, o7_243 P, o7_244 P, o7_245 P, o7_246 P, o7_247 P, o7_248 P, o7_249 P, o7_250 P, o7_251 P, o7_252 P, o7_253 P, o7_254 P, o7_255 P, o7_256 P, o7_257 P, o7_258 P, o7_259 P, o7_260 P, o7_261 P, o7_262 P, o7_263 P, o7_264 P, o7_265 P, o7_266 P, o7_267 P, o7_268 P, o7_269 P, o7_270 P, o7_271 P, o7_272 P, o7_273 P, o7_274 P, o7_275 P, o7_276 P, o7_277 P, o7_278 P, o7_279 P, o7_280 P, o7_281 P, o7_282 P, o7_283 P, o7_284 P, o7_285 P, o7_286 P, o7_287 P, o7_288 P, o7_289 P, o7_290 P, o7_291 P, o7_292 P, o7_293 P, o7_294 P, o7_295 P, o7_296 P, o7_297 P, o7_298 P, o7_299 P, o7_300 P, o7_301 P, o7_302 P, o7_303 P, o7_304 P, o7_305 P, o7_306 P, o7_307 P, o7_308 P, o7_309 P, o7_310 P, o7_311 P, o7_312 P, o7_313 P, o7_314 P, o7_315 P, o7_316 P, o7_317 P, o7_318 P, o7_319 P, o7_320 P, o8_321 P, o8_322 P, o8_323 P, o8_324 P, o8_325 P, o8_326 P, o8_327 P, o8_328 P, o8_329 P, o8_330 P, o8_331 P, o8_332 P, o8_333 P, o8_334 P, o8_335 P, o8_336 P, o8_337 P, o8_338 P, o8_339 P, o8_340 P, o8_341 P, o8_342 P, o8_343 P, o8_344 P, o8_345 P, o8_346 P]⟩, PySem.Life.mk [] [] [] 0 [] [] Bool.false #[] [] 0 Bool.false Bool.false Bool.false 0 [2000, 10, 10] Bool.false 0   Bool.true [] [] 0 Bool.false⟩
noncomputable abbrev s8 (w : World) (os : OsState) : Shared := ⟨h8 w.params, ⟨[]⟩, PySem.Drawn.mk 0 0 0 0, 651, os⟩
noncomputable abbrev p8 : Pos := PySem.Pos.mk 352 0 360 84
noncomputable def h9 (P : Params) : Heap := ⟨⟨[PySem.W.boot_o_0 P, PySem.W.boot_o_1 P, PySem.W.boot_o_2 P, o8_3 P, PySem.W.boot_o_4 P, PySem.W.boot_o_5 P, PySem.W.boot_o_6 P, PySem.W.boot_o_7 P, PySem.W.boot_o_8 P, PySem.W.boot_o_9 P, PySem.W.boot_o_10 P, o0_11 P, o8_12 P, o0_13 P, o0_14 P, o2_15 P, o2_16 P, o2_17 P, o2_18 P, o2_19 P, o2_20 P, o2_21 P, o2_22 P, o2_23 P, o2_24 P, o2_25 P, o2_26 P, o2_27 P, o2_28 P, o2_29 P, o2_30 P, o3_31 P, o2_32 P, o2_33 P, o2_34 P, o3_35 P, o3_36 P, o3_37 P, o3_38 P, o3_39 P, o3_40 P, o3_41 P, o3_42 P, o3_43 P, o3_44 P, o3_45 P, o3_46 P, o3_47 P, o3_48 P, o3_49 P, o3_50 P, o3_51 P, o3_52 P, o3_53 P, o4_54 P, o4_55 P, o4_56 P, o4_57 P, o4_58 P, o4_59 P, o4_60 P, o4_61 P, o4_62 P, o4_63 P, o4_64 P, o4_65 P, o4_66 P, o4_67 P, o4_68 P, o4_69 P, o4_70 P, o4_71 P, o4_72 P, o4_73 P, o4_74 P, o4_75 P, o4_76 P, o4_77 P, o4_78 P, o4_79 P, o4_80 P, o4_81 P, o4_82 P, o4_83 P, o4_84 P, o4_85 P, o4_86 P, o4_87 P, o4_88 P, o4_89 P, o4_90 P, o4_91 P, o4_92 P, o4_93 P, o4_94 P, o4_95 P, o4_96 P, o4_97 P, o5_98 P, o5_99 P, o5_100 P, o5_101 P, o5_102 P, o5_103 P, o5_104 P, o5_105 P, o5_106 P, o5_107 P, o5_108 P, o5_109 P, o5_110 P, o5_111 P, o5_112 P, o5_113 P, o5_114 P, o5_115 P, o5_116 P, o5_117 P, o5_118 P, o5_119 P, o5_120 P, o5_121 P, o5_122 P, o5_123 P, o5_124 P, o5_125 P, o5_126 P, o5_127 P, o5_128 P, o5_129 P, o5_130 P, o5_131 P, o5_132 P, o5_133 P, o5_134 P, o5_135 P, o5_136 P, o5_137 P, o5_138 P, o5_139 P, o5_140 P, o5_141 P, o5_142 P, o5_143 P, o5_144 P, o5_145 P, o5_146 P, o5_147 P, o5_148 P, o5_149 P, o5_150 P, o5_151 P, o6_152 P, o6_153 P, o6_154 P, o6_155 P, o6_156 P, o6_157 P, o6_158 P, o6_159 P, o6_160 P, o6_161 P, o6_162 P, o6_163 P, o6_164 P, o6_165 P, o6_166 P, o6_167 P, o6_168 P, o6_169 P, o6_170 P, o6_171 P, o6_172 P, o6_173 P, o6_174 P, o6_175 P, o6_176 P, o6_177 P, o6_178 P, o6_179 P, o6_180 P, o6_181 P, o6_182 P, o6_183 P, o6_184 P, o6_185 P, o6_186 P, o6_187 P, o6_188 P, o6_189 P, o6_190 P, o6_191 P, o6_192 P, o6_193 P, o6_194 P, o7_195 P, o7_196 P, o7_197 P, o7_198 P, o7_199 P, o7_200 P, o7_201 P, o7_202 P, o7_203 P, o7_204 P, o7_205 P, o7_206 P, o7_207 P, o7_208 P, o7_209 P, o7_210 P, o7_211 P, o7_212 P, o7_213 P, o7_214 P, o7_215 P, o7_216 P, o7_217 P, o7_218 P, o7_219 P, o7_220 P, o7_221 P, o7_222 P, o7_223 P, o7_224 P, o7_225 P, o7_226 P, o7_227 P, o7_228 P, o7_229 P, o7_230 P, o7_231 P, o7_232 P, o7_233 P, o7_234 P, o7_235 P, o7_236 P, o7_237 P, o7_238 P, o7_239 P, o7_240 P, o7_241 P, o7_242 P, o7_243 P, o7_244 P, o7_245 P, o7_246 P, o7_247 P, o7_248 P, o7_249 P, o7_250 P, o7_251 P, o7_252 P, o7_253 P, o7_254 P, o7_255 P, o7_256 P, o7_257 P, o7_258 P, o7_259 P, o7_260 P, o7_261 P, o7_262 P, o7_263 P, o7_264 P, o7_265 P, o7_266 P, o7_267 P, o7_268 P, o7_269 P, o7_270 P, o7_271 P, o7_272 P, o7_273 P, o7_274 P, o7_275 P, o7_276 P, o7_277 P, o7_278 P, o7_279 P, o7_280 P, o7_281 P, o7_282 P, o7_283 P, o7_284 P, o7_285 P, o7_286 P, o7_287 P, o7_288 P, o7_289 P, o7_290 P, o7_291 P, o7_292 P, o7_293 P, o7_294 P, o7_295 P, o7_296 P, o7_297 P, o7_298 P, o7_299 P, o7_300 P, o7_301 P, o7_302 P, o7_303 P, o7_304 P, o7_305 P, o7_306 P, o7_307 P, o7_308 P, o7_309 P, o7_310 P, o7_311 P, o7_312 P, o7_313 P, o7_314 P, o7_315 P, o7_316 P, o7_317 P, o7_318 P, o7_319 P, o7_320 P, o8_321 P, o8_322 P, o8_323 P, o8_324 P, o8_325 P, o8_326 P, o8_327 P, o8_328 P, o8_329 P, o8_330 P, o8_331 P, o8_332 P, o8_333 P, o8_334 P, o8_335 P, o8_336 P, o8_337 P, o8_338 P, o8_339 P, o8_340 P, o8_341 P, o8_342 P, o8_343 P, o8_344 P, o8_345 P, o8_346 P]⟩, PySem.Life.mk [] [] [] 0 [] [] Bool.false #[] [] 0 Bool.false Bool.false Bool.false 0 [2000, 10, 10] Bool.false 0   Bool.true [] [] 0 Bool.false⟩
noncomputable abbrev s9 (w : World) (os : OsState) : Shared := ⟨h9 w.params, ⟨[]⟩, PySem.Drawn.mk 0 0 0 0, 651, os⟩
noncomputable abbrev p9 : Pos := PySem.Pos.mk 352 0 360 84
noncomputable def K06 : Params → Frag := fun P => (nat_lit 2, PySem.W.boot_o_2 P) :: (nat_lit 3, o8_3 P) :: (nat_lit 59, o4_59 P) :: (nat_lit 60, o4_60 P) :: (nat_lit 66, o4_66 P) :: (nat_lit 67, o4_67 P) :: (nat_lit 68, o4_68 P) :: (nat_lit 69, o4_69 P) :: (nat_lit 75, o4_75 P) :: (nat_lit 76, o4_76 P) :: (nat_lit 82, o4_82 P) :: (nat_lit 83, o4_83 P) :: (nat_lit 89, o4_89 P) :: (nat_lit 90, o4_90 P) :: (nat_lit 96, o4_96 P) :: (nat_lit 97, o4_97 P) :: (nat_lit 105, o5_105 P) :: (nat_lit 111, o5_111 P) :: (nat_lit 112, o5_112 P) :: (nat_lit 116, o5_116 P) :: (nat_lit 117, o5_117 P) :: (nat_lit 118, o5_118 P) :: (nat_lit 122, o5_122 P) :: (nat_lit 123, o5_123 P) :: (nat_lit 129, o5_129 P) :: (nat_lit 130, o5_130 P) :: (nat_lit 136, o5_136 P) :: (nat_lit 137, o5_137 P) :: (nat_lit 146, o5_146 P) :: (nat_lit 147, o5_147 P) :: (nat_lit 157, o6_157 P) :: (nat_lit 158, o6_158 P) :: (nat_lit 164, o6_164 P) :: (nat_lit 165, o6_165 P) :: (nat_lit 166, o6_166 P) :: (nat_lit 172, o6_172 P) :: (nat_lit 173, o6_173 P) :: (nat_lit 179, o6_179 P) :: (nat_lit 180, o6_180 P) :: (nat_lit 186, o6_186 P) :: (nat_lit 187, o6_187 P) :: (nat_lit 193, o6_193 P) :: (nat_lit 194, o6_194 P) :: (nat_lit 207, o7_207 P) :: (nat_lit 208, o7_208 P) :: (nat_lit 214, o7_214 P) :: (nat_lit 215, o7_215 P) :: (nat_lit 228, o7_228 P) :: (nat_lit 229, o7_229 P) :: (nat_lit 235, o7_235 P) :: (nat_lit 236, o7_236 P) :: (nat_lit 242, o7_242 P) :: (nat_lit 243, o7_243 P) :: (nat_lit 256, o7_256 P) :: (nat_lit 257, o7_257 P) :: (nat_lit 263, o7_263 P) :: (nat_lit 264, o7_264 P) :: (nat_lit 270, o7_270 P) :: (nat_lit 271, o7_271 P) :: (nat_lit 277, o7_277 P) :: (nat_lit 278, o7_278 P) :: (nat_lit 284, o7_284 P) :: (nat_lit 285, o7_285 P) :: (nat_lit 291, o7_291 P) :: (nat_lit 292, o7_292 P) :: (nat_lit 298, o7_298 P) :: (nat_lit 299, o7_299 P) :: (nat_lit 305, o7_305 P) :: (nat_lit 306, o7_306 P) :: (nat_lit 312, o7_312 P) :: (nat_lit 313, o7_313 P) :: (nat_lit 315, o7_315 P) :: (nat_lit 316, o7_316 P) :: (nat_lit 326, o8_326 P) :: (nat_lit 327, o8_327 P) :: (nat_lit 331, o8_331 P) :: (nat_lit 332, o8_332 P) :: (nat_lit 338, o8_338 P) :: (nat_lit 339, o8_339 P) :: (nat_lit 345, o8_345 P) :: (nat_lit 346, o8_346 P) :: []
noncomputable abbrev bdy : List Stmt := behindTheImports prg
noncomputable abbrev env0 : Env := { scope := prg.main.scope, locals := mainNs, globals := mainNs, cells := [], code := .ref 13, frame := some 14 }
noncomputable abbrev cd0 : Code := .body bdy env0
noncomputable abbrev an0 : Option Value := some (.ref 6)
noncomputable abbrev B0 : List Frame := [topFrame ⟨0, 0, 0, 0⟩]
noncomputable abbrev b0 (w : World) (os : OsState) : Shared := ⟨boot_heap w.params, ⟨[]⟩, boot_drawn, boot_toks, os⟩
noncomputable def g2 : List Stmt := (bdy.drop 0).take 3
noncomputable def g3 : List Stmt := (bdy.drop 3).take 1
noncomputable def g4 : List Stmt := (bdy.drop 4).take 11
noncomputable def g5 : List Stmt := (bdy.drop 15).take 1
noncomputable def g6 : List Stmt := (bdy.drop 16).take 9
noncomputable def g7 : List Stmt := (bdy.drop 25).take 1
noncomputable def g8 : List Stmt := (bdy.drop 26).take 5
noncomputable abbrev r9 : List Stmt := []
noncomputable abbrev r8 : List Stmt := g8 ++ r9
noncomputable abbrev r7 : List Stmt := g7 ++ r8
noncomputable abbrev r6 : List Stmt := g6 ++ r7
noncomputable abbrev r5 : List Stmt := g5 ++ r6
noncomputable abbrev r4 : List Stmt := g4 ++ r5
noncomputable abbrev r3 : List Stmt := g3 ++ r4
noncomputable abbrev r2 : List Stmt := g2 ++ r3
theorem l_pre : ∀ (w : World) (os : OsState), topGo treeTable prg w 11 an0 12 (b0 w os) (topStub prg) = some (s0 w os, ⟨denote treeTable cd0, cd0, p0, B0⟩) := fun w os => by kernel_rfl
theorem l_blk : ∀ (w : World) (os : OsState), segRun treeTable prg w 11 an0 1 1 (s0 w os) (blockOf bdy env0 cd0 p0 B0) = some (.next, s1 w os, cd0, p1) := fun w os => by kernel_rfl
theorem l_2 : ∀ (w : World) (os : OsState), segRun treeTable prg w 11 an0 1 225 (s1 w os) (piecesOf g2 env0 cd0 p1 B0) = some (.next, s2 w os, cd0, p2) := fun w os => by kernel_rfl
theorem l_3 : ∀ (w : World) (os : OsState), segRun treeTable prg w 11 an0 1 248 (s2 w os) (piecesOf g3 env0 cd0 p2 B0) = some (.next, s3 w os, cd0, p3) := fun w os => by kernel_rfl
theorem l_4 : ∀ (w : World) (os : OsState), segRun treeTable prg w 11 an0 1 239 (s3 w os) (piecesOf g4 env0 cd0 p3 B0) = some (.next, s4 w os, cd0, p4) := fun w os => by kernel_rfl
theorem l_5 : ∀ (w : World) (os : OsState), segRun treeTable prg w 11 an0 1 388 (s4 w os) (piecesOf g5 env0 cd0 p4 B0) = some (.next, s5 w os, cd0, p5) := fun w os => by kernel_rfl
theorem l_6 : ∀ (w : World) (os : OsState), segRun treeTable prg w 11 an0 1 231 (s5 w os) (piecesOf g6 env0 cd0 p5 B0) = some (.next, s6 w os, cd0, p6) := fun w os => by kernel_rfl
theorem l_7 : ∀ (w : World) (os : OsState), segRun treeTable prg w 11 an0 1 711 (s6 w os) (piecesOf g7 env0 cd0 p6 B0) = some (.next, s7 w os, cd0, p7) := fun w os => by kernel_rfl
theorem l_8 : ∀ (w : World) (os : OsState), segRun treeTable prg w 11 an0 1 129 (s7 w os) (piecesOf g8 env0 cd0 p7 B0) = some (.next, s8 w os, cd0, p8) := fun w os => by kernel_rfl
theorem l_fin : ∀ (w : World) (os : OsState), topRun treeTable prg w 11 an0 2 (s8 w os) (restOf r9 env0 cd0 p8 B0) = some (s9 w os) := fun w os => by kernel_rfl
theorem q_8 (w : World) (os : OsState) : topRun treeTable prg w 11 an0 (129 + (2)) (s7 w os) (restOf r8 env0 cd0 p7 B0) = some (s9 w os) := piece_app (l_8 w os) (l_fin w os)
theorem q_7 (w : World) (os : OsState) : topRun treeTable prg w 11 an0 (711 + (129 + (2))) (s6 w os) (restOf r7 env0 cd0 p6 B0) = some (s9 w os) := piece_app (l_7 w os) (q_8 w os)
theorem q_6 (w : World) (os : OsState) : topRun treeTable prg w 11 an0 (231 + (711 + (129 + (2)))) (s5 w os) (restOf r6 env0 cd0 p5 B0) = some (s9 w os) := piece_app (l_6 w os) (q_7 w os)
theorem q_5 (w : World) (os : OsState) : topRun treeTable prg w 11 an0 (388 + (231 + (711 + (129 + (2))))) (s4 w os) (restOf r5 env0 cd0 p4 B0) = some (s9 w os) := piece_app (l_5 w os) (q_6 w os)
theorem q_4 (w : World) (os : OsState) : topRun treeTable prg w 11 an0 (239 + (388 + (231 + (711 + (129 + (2)))))) (s3 w os) (restOf r4 env0 cd0 p3 B0) = some (s9 w os) := piece_app (l_4 w os) (q_5 w os)
theorem q_3 (w : World) (os : OsState) : topRun treeTable prg w 11 an0 (248 + (239 + (388 + (231 + (711 + (129 + (2))))))) (s2 w os) (restOf r3 env0 cd0 p2 B0) = some (s9 w os) := piece_app (l_3 w os) (q_4 w os)
theorem q_2 (w : World) (os : OsState) : topRun treeTable prg w 11 an0 (225 + (248 + (239 + (388 + (231 + (711 + (129 + (2)))))))) (s1 w os) (restOf r2 env0 cd0 p1 B0) = some (s9 w os) := piece_app (l_2 w os) (q_3 w os)
theorem bdy_eq : bdy = r2 := by kernel_rfl
theorem q_b (w : World) (os : OsState) : topRun treeTable prg w 11 an0 (225 + (248 + (239 + (388 + (231 + (711 + (129 + (2)))))))) (s1 w os) (restOf bdy env0 cd0 p1 B0) = some (s9 w os) := by
  have h := q_2 w os
  rw [← bdy_eq] at h
  exact h
theorem q_1 (w : World) (os : OsState) : topRun treeTable prg w 11 an0 (1 + (225 + (248 + (239 + (388 + (231 + (711 + (129 + (2))))))))) (s0 w os) ⟨denote treeTable cd0, cd0, p0, B0⟩ = some (s9 w os) := piece_block (l_blk w os) (q_b w os)
theorem q_0 (w : World) (os : OsState) : topRun treeTable prg w 11 an0 (12 + (1 + (225 + (248 + (239 + (388 + (231 + (711 + (129 + (2)))))))))) (b0 w os) (topStub prg) = some (s9 w os) := go_top (l_pre w os) (q_1 w os)
noncomputable abbrev asK : List Addr := [2, 3, 59, 60, 66, 67, 68, 69, 75, 76, 82, 83, 89, 90, 96, 97, 105, 111, 112, 116, 117, 118, 122, 123, 129, 130, 136, 137, 146, 147, 157, 158, 164, 165, 166, 172, 173, 179, 180, 186, 187, 193, 194, 207, 208, 214, 215, 228, 229, 235, 236, 242, 243, 256, 257, 263, 264, 270, 271, 277, 278, 284, 285, 291, 292, 298, 299, 305, 306, 312, 313, 315, 316, 326, 327, 331, 332, 338, 339, 345, 346]
theorem asK_eq (P : Params) : asK = (K06 P).map (·.1) := by kernel_rfl
noncomputable abbrev vw : Program := { prg with main := { prg.main with body := ([0, 2, 3, 5, 6, 8, 9, 10, 11, 12, 13, 15, 16, 17, 19, 20, 21, 22, 23, 24, 25, 26, 27, 29, 30] : List Nat).filterMap fun i => prg.main.body[i]? } }
noncomputable abbrev hkK : Hook := kHook K06 asK asK_eq
theorem l_size : ∀ w : World, ((boot_heap w.params).isNs mainGlobals && (⟨[]⟩ : Array GenState).size == 0, (boot_heap w.params).objs.size, (boot_heap w.params).nsMap mainGlobals (Str.ofString "__annotations__")) = (true, 11, an0) := fun w => by kernel_rfl
theorem l_looks : ∀ w : World, (fun os => (staticsOk (importedModules prg.main.body) (boot_heap w.params) (h9 w.params) && namesBound prg (h9 w.params) && gensDone (s9 w os) && laidKept (boot_heap w.params) (h9 w.params), openSeen vw [Str.ofString "SIGNS"] (importedModules prg.main.body) (fun s => xlAt vw [] s && recOk [] s) true (s9 w os), Hook.obs hkK (s9 w os))) = fun (_ : OsState) => (true, openGood vw [Str.ofString "SIGNS"], Hook.val hkK w) := fun w => by kernel_rfl
theorem left : LeftO prg vw [Str.ofString "SIGNS"] (fun s => xlAt vw [] s && recOk [] s) (Hook.obs hkK) (Hook.val hkK) 4454 := LeftO.of_pieces (boot_open (by kernel_rfl) (by kernel_rfl) (fun _ => by kernel_rfl)) l_size q_0 (by kernel_rfl) l_looks
theorem a1 : defOf vw PySem.Challenge.rw_ui0505_06.row.name = some (⟨Str.ofString "law", fa_t30, fb_t30, fs_t30, ⟨352, 0, 360, 84⟩⟩, []) := by kernel_rfl
theorem a2 : PySem.Challenge.rw_ui0505_06.row.prog.theDef PySem.Challenge.rw_ui0505_06.row.name = some (fa_t30, fb_t30, fs_t30) := by kernel_rfl
theorem a6 : (chainsOk vw && opensWell PySem.Challenge.rw_ui0505_06.row.prog && (frees PySem.Challenge.rw_ui0505_06.row.toRowW && PySem.Challenge.rw_ui0505_06.row.within.isEmpty)) = true := by kernel_rfl
theorem a7 : PySem.Challenge.rw_ui0505_06.row.prog.bare := ⟨rfl, rfl, rfl, rfl, rfl, by decide +kernel⟩
theorem hd06 (hc : WalkO vw [Str.ofString "SIGNS"] (XL vw []) (Hook.says (kHook K06 asK asK_eq)) PySem.Challenge.rw_ui0505_06.row.toRowW ⟨Str.ofString "law", fa_t30, fb_t30, fs_t30, ⟨352, 0, 360, 84⟩⟩ [] fun f vs => PySem.call f vs) : PySem.Challenge.rw_ui0505_06.Holds := by
  w_on
  o_law
  refine holds_open (d := ⟨Str.ofString "law", fa_t30, fb_t30, fs_t30, ⟨352, 0, 360, 84⟩⟩) (kwd := []) (q := vw) (loose := [Str.ofString "SIGNS"]) (Xt := fun s => xlAt vw [] s && recOk [] s) (XP := XL vw []) (Yf := Hook.obs hkK) (Ya := Hook.val hkK) (YP := Hook.says hkK) (N := 4454) left (Hook.of hkK) (Hook.keeps hkK) (fun s e => xl_of s (Bool.and_eq_true_iff.mp e).1) XL.keeps a1 a2 rfl (fun s e => recFacts_of (Bool.and_eq_true_iff.mp e).2) rfl (by assumption) a6 a7 ?hw hc
  case hw => w_witness2
end
end Mine
end
section
open PySem PySem.W PyProof.Rows PyProof.V PySem.Spec
namespace Mine
/-- fewer entries -/
theorem nsub {h₀ h : Heap} {L : Addr} {l l' : List (Addr × Obj)} (N : News h₀ L h l) (hs : ∀ q ∈ l', q ∈ l) : News h₀ L h l' := fun q hq => N q (hs q hq)
/-- two entries that differ somewhere have two addresses -/
theorem nne {α : Type} (f : Obj → α) {h₀ h : Heap} {L : Addr} {l : List (Addr × Obj)} (N : News h₀ L h l) {a b : Addr} {x y : Obj} (ha : (a, x) ∈ l) (hb : (b, y) ∈ l) (hf : f x ≠ f y) : @Ne Nat a b := by
  intro e
  subst e
  have h1 := (N _ ha).1
  rw [(N _ hb).1] at h1
  exact hf (congrArg f (Option.some.inj h1)).symm
/-- the ledger without one address -/
def off (a : Addr) (l : List (Addr × Obj)) : List (Addr × Obj) := l.filter fun q => !(q.1 == a)
theorem mem_off {a : Addr} {l : List (Addr × Obj)} {q : Addr × Obj} : q ∈ off a l ↔ q ∈ l ∧ q.1 ≠ a := by
  simp [off, List.mem_filter]
theorem off_ne {a : Addr} {l : List (Addr × Obj)} : ∀ q ∈ off a l, q.1 ≠ a := fun _ hq => (mem_off.mp hq).2
theorem allLt_ne {d : Addr} : ∀ {l : List (Addr × Obj)}, AllLt d l → ∀ p ∈ l, p.1 ≠ d
  | [], _, _, hp => nomatch hp
  | _ :: _, h, p, hp => by
    rcases List.mem_cons.mp hp with rfl | hp
    · exact Nat.ne_of_lt h.1
    · exact allLt_ne h.2 p hp
/-- all but one address stays -/
def Kept (d : Addr) (news news' : List (Addr × Obj)) : Prop := ∀ q ∈ news, q.1 ≠ d → q ∈ news'
theorem Kept.trans {d : Addr} {a b c : List (Addr × Obj)} (h : Kept d a b) (h' : Kept d b c) : Kept d a c := fun q hq h1 => h' q (h q hq h1) h1
theorem Kept.sub {d : Addr} {a b : List (Addr × Obj)} (h : ∀ q ∈ a, q ∈ b) : Kept d a b := fun q hq _ => h q hq
abbrev ent (w : World) (x : String) (t : Tok) (v : Value) : DictEntry := ⟨PyData.keyHash w.params (Str.ofString x), .str (Str.ofString x) t, v⟩
abbrev tupO (vs : List Value) (n : Nat) : Obj := { cls := .type "tuple", data := .seq vs.toArray n }
/-- the reader's dict -/
structure RT where
  k1 : Tok
  k2 : Tok
  k3 : Tok
  k4 : Tok
  en : Int
  u2 : Tok
abbrev rdO (w : World) (r : RT) (tl : Addr) (at_ dp : Int) (ua ud : Tok) : Obj := dictOf [ent w "_tokens" r.k1 (.ref tl), ent w "_end" r.k2 (.int r.en r.u2), ent w "_at" r.k3 (.int at_ ua), ent w "_deep" r.k4 (.int dp ud)] 4
/-- the word at a place -/
def wordAt (ws : List (Str × Int)) (i : Nat) : Str := match ws[i]? with | some x => x.1 | none => Str.ofString ""
/-- the tokens lie in the ledger -/
structure TK (news : List (Addr × Obj)) (tl : Addr) (nt : Nat) (vs : List Value) (ws : List (Str × Int)) : Prop where
  htl : (tl, listOf vs.toArray nt) ∈ news
  hlen : vs.length = ws.length
  hle : ws.length ≤ 1000
  htk : ∀ (i : Nat) (x : Str × Int), ws[i]? = some x → ∃ (a : Addr) (t u : Tok) (n : Nat), vs[i]? = some (.ref a) ∧ (a, tupO [.str x.1 t, .int x.2 u] n) ∈ news
theorem TK.mono {news news' : List (Addr × Obj)} {tl : Addr} {nt : Nat} {vs : List Value} {ws : List (Str × Int)} (T : TK news tl nt vs ws) (h : ∀ q ∈ news, q ∈ news') : TK news' tl nt vs ws :=
  ⟨h _ T.htl, T.hlen, T.hle, fun i x hx => let ⟨a, t, u, n, h1, h2⟩ := T.htk i x hx; ⟨a, t, u, n, h1, h _ h2⟩⟩
/-- the reader -/
structure RS (C : Addr) (w : World) (news : List (Addr × Obj)) (rd dd tl : Addr) (r : RT) (nt : Nat) (vs : List Value) (ws : List (Str × Int)) (i : Nat) (dp : Int) : Prop where
  hrd : (rd, instObj C dd) ∈ news
  hdd : ∃ ua ud, (dd, rdO w r tl (i : Int) dp ua ud) ∈ news
  tk : TK news tl nt vs ws
section
variable {C : Addr} {w : World} {h₀ h : Heap} {L : Addr} {news news' : List (Addr × Obj)} {rd dd tl : Addr} {r : RT} {nt : Nat} {vs : List Value} {ws : List (Str × Int)} {i : Nat} {dp : Int}
theorem list_dict : Value.type "list" ≠ Value.type "dict" := by decide
theorem tup_dict : Value.type "tuple" ≠ Value.type "dict" := by decide
theorem TK.off (T : TK news tl nt vs ws) (N : News h₀ L h news) {o : Obj} (hd : (dd, o) ∈ news) (ho : o.cls = .type "dict") : TK (off dd news) tl nt vs ws :=
  ⟨mem_off.mpr ⟨T.htl, nne Obj.cls N T.htl hd (by rw [ho]; exact list_dict)⟩, T.hlen, T.hle, fun i x hx => let ⟨a, t, u, n, h1, h2⟩ := T.htk i x hx; ⟨a, t, u, n, h1, mem_off.mpr ⟨h2, nne Obj.cls N h2 hd (by rw [ho]; exact tup_dict)⟩⟩⟩
theorem RS.cast {d : Int} (S : RS C w news rd dd tl r nt vs ws i d) (e : d = dp) : RS C w news rd dd tl r nt vs ws i dp := e ▸ S
theorem RS.mono (S : RS C w news rd dd tl r nt vs ws i dp) (k : ∀ q ∈ news, q ∈ news') : RS C w news' rd dd tl r nt vs ws i dp := let ⟨ua, ud, h⟩ := S.hdd; ⟨k _ S.hrd, ⟨ua, ud, k _ h⟩, S.tk.mono k⟩
theorem RS.front {o : Obj} (N : News h₀ L h news) (hd : (dd, o) ∈ news) : News h₀ L h ((dd, o) :: Mine.off dd news) := nsub N fun q hq => by
  rcases List.mem_cons.mp hq with rfl | hq
  · exact hd
  · exact (mem_off.mp hq).1
theorem RS.keep (S : RS C w news rd dd tl r nt vs ws i dp) (N : News h₀ L h news) {j : Nat} {dp' : Int} {ua ud : Tok} (K : Kept dd news news') (hd : (dd, rdO w r tl (j : Int) dp' ua ud) ∈ news') : RS C w news' rd dd tl r nt vs ws j dp' := by
  obtain ⟨ua0, ud0, hd0⟩ := S.hdd
  have T' := S.tk.off N hd0 rfl
  refine ⟨K _ S.hrd (nne Obj.cls N S.hrd hd0 (fun e => by cases e)), ⟨ua, ud, hd⟩, T'.mono fun q hq => K q (mem_off.mp hq).1 (mem_off.mp hq).2⟩
end
section
variable {prog : Program} {w : World} {A : Around} {E : Value → Shared → Prop} {s : Shared} {h₀ : Heap} {L : Addr} {news : List (Addr × Obj)} {Q : Value → Shared → Prop}
theorem newsList {a : Addr} {vs : List Value} {n : Nat} (N : News h₀ L s.heap news) (hm : (a, listOf vs.toArray n) ∈ news) : s.heap.IsList a vs.toArray := ⟨_, (N _ hm).1, rfl, n, rfl⟩
theorem lenL {a : Addr} {vs : List Value} {n k : Nat} (N : News h₀ L s.heap news) (hm : (a, listOf vs.toArray n) ∈ news) (hk : vs.length = k) (hfit : k ≤ 1000)
    (h : Q (.int (k : Int) (s.toks + 1)) { s with toks := s.toks + 1 + 1 }) : wpAny (model prog w) A (call (.builtin "len") [.ref a]) Q E s := by
  have e : (vs.toArray.size : Int) = (k : Int) := by rw [List.size_toArray, hk]
  exact PyProof.Rows.len_list (newsList N hm) (by rw [e]; omega) (by rw [e]; exact h)
theorem itemL {value slice : PySem.Expr} {a : Addr} {vs : List Value} {n i : Nat} {k : Int} {u : Tok} {x : Value} (N : News h₀ L s.heap news) (hx : vs[i]? = some x) (hm : (a, listOf vs.toArray n) ∈ news) (hk : k = (i : Int)) (hi : i ≤ 1000) (h : Q x s)
    (hs : subscripted slice false (.ref a) (.int k u) = operate [.ref a, .int k u] (getItem (.ref a) (.int k u))) :
    wpAny (model prog w) A (subscriptTail value slice (.ref a) (.int k u)) Q E s := by
  subst hk
  exact tail_any (newsList N hm).typeIs slot_list_getitem.lookup (wpAny_getItem_list (newsList N hm) (by omega) (by omega) (by simpa using hx) h) hs
theorem itemT {t : Addr} {vs : List Value} {n j : Nat} {k : Int} {u : Tok} {x : Value} {value slice : PySem.Expr} (N : News h₀ L s.heap news) (hm : (t, tupO vs n) ∈ news)
    (hlo : -(2 ^ 63) ≤ k) (hhi : k < 2 ^ 63) (hj : seqIndex? k vs.length = some j) (hx : vs[j]? = some x) (h : Q x s)
    (hs : subscripted slice false (.ref t) (.int k u) = operate [.ref t, .int k u] (getItem (.ref t) (.int k u))) (hg : ∀ r, letTemporaryGo value (.ref t) r = pure ()) :
    wpAny (model prog w) A (subscriptTail value slice (.ref t) (.int k u)) Q E s :=
  item_tupleL ⟨_, N.get hm, rfl, _, rfl⟩ hlo hhi hj hx h hs hg
theorem appendL {m : Str → Option Value} {a : Addr} {vs : List Value} {n : Nat} {x : Value} {news' : List (Addr × Obj)} (F : Fr h₀ L s.heap m) (N : News h₀ L s.heap news) (U : Upd a (listOf vs.toArray n) (listOf (vs ++ [x]).toArray (n + 1)) news news') (hsz : vs.length ≤ 1000)
    (h : ∀ h', Fr h₀ L h' m → News h₀ L h' news' → Q .none { s with heap := h' }) : wpAny (model prog w) A (call (.builtin "list.append") [.ref a, x]) Q E s := by
  refine append_K (its := vs.toArray) F N (by simpa using U) h ?_
  rw [List.size_toArray, sizeLine_eq]; omega
end
end Mine
end
section
open PySem PySem.W PyProof.Rows PyProof.V PySem.Spec
namespace Mine
/-- the formulas that are read -/
inductive Sf
  | atom
  | atomx
  | no (f : Sf)
  | all (f : Sf)
  | some (f : Sf)
  | par (f : Sf)
  | imp (f g : Sf)
namespace Sf
/-- the words that it is written by -/
def words : Sf → List Str
  | atom => [Str.ofString "P"]
  | atomx => [Str.ofString "P", Str.ofString "(", Str.ofString "x", Str.ofString ")"]
  | no f => Str.ofString "~" :: f.words
  | all f => Str.ofString "all" :: Str.ofString "x" :: Str.ofString "." :: f.words
  | some f => Str.ofString "some" :: Str.ofString "x" :: Str.ofString "." :: f.words
  | par f => Str.ofString "(" :: (f.words ++ [Str.ofString ")"])
  | imp f g => f.words ++ Str.ofString "->" :: g.words
/-- how deep the reader goes -/
def deep : Sf → Nat
  | atom => 1
  | atomx => 2
  | no f => f.deep + 1
  | all f => f.deep + 1
  | some f => f.deep + 1
  | par f => f.deep + 1
  | imp f g => max f.deep g.deep
def size : Sf → Nat
  | atom => 1
  | atomx => 1
  | no f => f.size + 3
  | all f => f.size + 16
  | some f => f.size + 16
  | par f => f.size + 16
  | imp f g => max f.size g.size
theorem deep_pos : ∀ f : Sf, 1 ≤ f.deep := by intro f; induction f <;> simp [deep] <;> omega
end Sf
/-- the ledger bears it -/
inductive FIs (news : List (Addr × Obj)) : Value → Sf → Prop
  | atom {a b : Addr} {t u : Tok} {n k : Nat} : (a, tupO [.str (Str.ofString "atom") t, .str (Str.ofString "P") u, .ref b] n) ∈ news → (b, tupO [] k) ∈ news → FIs news (.ref a) .atom
  | atomx {a b c : Addr} {t u t1 t2 : Tok} {n k k2 : Nat} : (a, tupO [.str (Str.ofString "atom") t, .str (Str.ofString "P") u, .ref b] n) ∈ news → (b, tupO [.ref c] k) ∈ news → (c, tupO [.str (Str.ofString "var") t1, .str (Str.ofString "x") t2] k2) ∈ news → FIs news (.ref a) .atomx
  | no {a : Addr} {t : Tok} {n : Nat} {v : Value} {f : Sf} : (a, tupO [.str (Str.ofString "not") t, v] n) ∈ news → FIs news v f → FIs news (.ref a) (.no f)
  | all {a : Addr} {t u : Tok} {n : Nat} {v : Value} {f : Sf} : (a, tupO [.str (Str.ofString "all") t, .str (Str.ofString "x") u, v] n) ∈ news → FIs news v f → FIs news (.ref a) (.all f)
  | some {a : Addr} {t u : Tok} {n : Nat} {v : Value} {f : Sf} : (a, tupO [.str (Str.ofString "some") t, .str (Str.ofString "x") u, v] n) ∈ news → FIs news v f → FIs news (.ref a) (.some f)
  | par {v : Value} {f : Sf} : FIs news v f → FIs news v (.par f)
  | imp {a : Addr} {t : Tok} {n : Nat} {v u : Value} {f g : Sf} : (a, tupO [.str (Str.ofString "implies") t, v, u] n) ∈ news → FIs news v f → FIs news u g → FIs news (.ref a) (.imp f g)
theorem FIs.keep {d : Addr} {o : Obj} {h₀ h : Heap} {L : Addr} {news news' : List (Addr × Obj)} {v : Value} {f : Sf} (x : FIs news v f) (N : News h₀ L h news) (hd : (d, o) ∈ news) (ho : o.cls = .type "dict") (K : Kept d news news') : FIs news' v f := by
  have k : ∀ {a : Addr} {vs : List Value} {n : Nat}, (a, tupO vs n) ∈ news → (a, tupO vs n) ∈ news' := fun hm => K _ hm (nne Obj.cls N hm hd (by rw [ho]; exact tup_dict))
  induction x with
  | atom h1 h2 => exact .atom (k h1) (k h2)
  | atomx h1 h2 h3 => exact .atomx (k h1) (k h2) (k h3)
  | no h1 _ ih => exact .no (k h1) ih
  | all h1 _ ih => exact .all (k h1) ih
  | some h1 _ ih => exact .some (k h1) ih
  | par _ ih => exact .par ih
  | imp h1 _ _ ih ih2 => exact .imp (k h1) ih ih2
theorem FIs.mono {news news' : List (Addr × Obj)} {v : Value} {f : Sf} (x : FIs news v f) (k : ∀ q ∈ news, q ∈ news') : FIs news' v f := by
  induction x with
  | atom h1 h2 => exact .atom (k _ h1) (k _ h2)
  | atomx h1 h2 h3 => exact .atomx (k _ h1) (k _ h2) (k _ h3)
  | no h1 _ ih => exact .no (k _ h1) ih
  | all h1 _ ih => exact .all (k _ h1) ih
  | some h1 _ ih => exact .some (k _ h1) ih
  | par _ ih => exact .par ih
  | imp h1 _ _ ih ih2 => exact .imp (k _ h1) ih ih2
/-- the words stand from this place on -/
def At (ws : List (Str × Int)) (i : Nat) (xs : List Str) : Prop := ∀ j x, xs[j]? = some x → wordAt ws (i + j) = x
theorem At.head {ws : List (Str × Int)} {i : Nat} {x : Str} {xs : List Str} (h : At ws i (x :: xs)) : wordAt ws i = x := h 0 x rfl
theorem At.tail {ws : List (Str × Int)} {i : Nat} {x : Str} {xs : List Str} (h : At ws i (x :: xs)) : At ws (i + 1) xs := fun j y hy => by
  have := h (j + 1) y (by simpa using hy)
  rwa [show i + 1 + j = i + (j + 1) by omega]
theorem At.left {ws : List (Str × Int)} {i : Nat} {xs ys : List Str} (h : At ws i (xs ++ ys)) : At ws i xs := fun j y hy => h j y (by
  rw [List.getElem?_append_left (List.getElem?_eq_some_iff.mp hy).1]; exact hy)
theorem At.right {ws : List (Str × Int)} {i : Nat} {xs ys : List Str} (h : At ws i (xs ++ ys)) : At ws (i + xs.length) ys := fun j y hy => by
  have := h (xs.length + j) y (by rw [List.getElem?_append_right (by omega)]; simpa using hy)
  rwa [show i + xs.length + j = i + (xs.length + j) by omega]
/-- what a def that reads a formula promises -/
def Reads1 (prog : Program) (K : Params → Frag) (C fa : Addr) (w : World) (p : Program) (loose : List Str) (mean : ExcName → Option Value) (mg mb : Str → Option Value) (f : Sf) (ex lim : Nat) (stop : Str → Prop) : Prop :=
    ∀ (dp un : Nat) (gd : Option (List Code)) (cn : Str) (cs : Scope) (a : Addr) (ccd : Value) (cl : List (Str × Addr)) (outer : List Env) (A₀ : Around) (base h₀ : Heap) (L : Addr) (m : Str → Option Value) (news : List (Addr × Obj)) (s : Shared) (rd dd tl : Addr) (r : RT) (nt : Nat) (vs : List Value) (ws : List (Str × Int)) (i : Nat) (dq : Nat) (x : Str) (Q E : Value → Shared → Prop),
      Below A₀ base outer h₀ → Fr h₀ L s.heap m → (K w.params).In h₀ → News h₀ L s.heap news → Top p loose mean mg mb h₀ → cs.kind = .function → dp + f.size + ex + 60 < recursionLimit → un + 4 * f.size + 3 * ex + 400 < cLine →
      RS C w news rd dd tl r nt vs ws i (dq : Int) → At ws i f.words → wordAt ws (i + f.words.length) = x → stop x → i + f.words.length ≤ 800 → dq + f.deep ≤ lim →
      (∀ h' tk' v news', Fr h₀ L h' m → News h₀ L h' news' → Kept dd news news' → RS C w news' rd dd tl r nt vs ws (i + f.words.length) (dq : Int) → FIs news' v f → Q v { s with heap := h', toks := tk' }) →
      wpAny (model prog w) (ktrTop dp un gd cn cs L a ccd cl outer) (call (.ref fa) [.ref rd]) Q E s
end Mine
end
section
open PySem PySem.W PyProof.Rows PyProof.V PySem.Spec
namespace Mine
section
variable {prog : Program} {w : World} {A : Around} {E : Value → Shared → Prop} {s : Shared} {Q : Value → Shared → Prop}
/-- the sign at a place of a text -/
theorem textAt {value slice : PySem.Expr} {x : Str} {i c : Nat} {k : Int} {t u : Tok} (hc : x.cps[i]? = some c) (hk : k = (i : Int)) (hi : i ≤ 100000) (h : Q (.str ⟨#[c]⟩ s.toks) { s with toks := s.toks + 1 })
    (hs : subscripted slice false (.str x t) (.int k u) = operate [.str x t, .int k u] (getItem (.str x t) (.int k u))) (ht : ∀ r, letTemporaryGo value (.str x t) r = pure ()) :
    wpAny (model prog w) A (subscriptTail value slice (.str x t) (.int k u)) Q E s := by
  subst hk
  have hl : i < x.length := (Array.getElem?_eq_some_iff.mp hc).1
  have e : Txt.item x (i : Int) = ⟨#[c]⟩ := PyProof.Rows.item_meets (by omega) (by simpa using hc)
  refine item_str (fitsSsize_of (N := 9223372036854775808) (by omega) (by omega) (Int.le_refl _)) (by omega) (by omega) (fun _ => ?_) hs ht
  rw [e]
  exact h
/-- a text's start from a place on -/
theorem startsAt {x y : Str} {i : Int} {t u v : Tok} {b : Bool} (hb : Txt.startswith3 x y i = b) (h : Q (.bool b) s) : wpAny (model prog w) A (call (.builtin "str.startswith") [.str x t, .str y u, .int i v]) Q E s :=
  SC.startswith3 (by rw [hb]; exact h)
end
section
variable {prog : Program} {w : World} {A : Around} {E : Value → Shared → Prop} {env : Env} {test : PySem.Expr} {body orelse : List Stmt} {Q : Flow → Shared → Prop}
/-- behind a turn of a while -/
def WEnd (I : Nat → Shared → Prop) (Q : Flow → Shared → Prop) (n : Nat) (f : Flow) (s : Shared) : Prop :=
  match f with
  | .next => ∃ m, m < n ∧ I m s
  | .cont => ∃ m, m < n ∧ I m s
  | .brk => Q .next s
  | .ret v => Q (.ret v) s
/-- a while by a measure -/
theorem while_by (I : Nat → Shared → Prop) (hE : PassesOwn (model prog w) A env E)
    (turn : ∀ n s, I n s → wpAny (model prog w) A (isTrue test env (eval test env)) (fun b s₂ => WhlIf b (wpAny (model prog w) A (execs body env) (WEnd I Q n) E s₂) (wpAny (model prog w) A (execs orelse env) Q E s₂)) E s)
    (k n : Nat) : ∀ s, I n s → WhlRest prog w A E env test body orelse Q k s := by
  induction n using Nat.strongRecOn with
  | ind n ih =>
    intro s hI
    refine whl_turn (k := k) hE (wpAny_mono (turn n s hI) (fun b s₂ h₂ => ?_) fun _ _ e => e)
    cases b with
    | false => exact WhlIf.no rfl (by unfold WhlIf at h₂; rw [if_neg Bool.false_ne_true] at h₂; exact h₂)
    | true =>
      refine WhlIf.yes rfl ?_
      unfold WhlIf at h₂
      rw [if_pos rfl] at h₂
      refine wpAny_mono h₂ (fun f s₃ h₃ => ?_) fun _ _ e => e
      cases f with
      | next => obtain ⟨m, hm, hI'⟩ := h₃; exact ih m hm s₃ hI'
      | cont => obtain ⟨m, hm, hI'⟩ := h₃; exact ih m hm s₃ hI'
      | brk => exact h₃
      | ret v => exact h₃
end
end Mine
end
section
open PySem PySem.W PyProof.Rows PyProof.V PySem.Spec
namespace Mine
/-- the map with one name told otherwise -/
abbrev upm (x : Str) (ov : Option Value) (m : Str → Option Value) : Str → Option Value := fun y => if y = x then ov else m y
theorem upm_upm (x : Str) (a b : Option Value) (m : Str → Option Value) : upm x a (upm x b m) = upm x a m := by
  funext y
  by_cases h : y = x <;> simp [upm, h]
theorem upm_self (x : Str) (m : Str → Option Value) : upm x (m x) m = m := by
  funext y
  by_cases h : y = x <;> simp [upm, h]
theorem frc {h₀ : Heap} {L : Addr} {h : Heap} {m m' : Str → Option Value} (F : Fr h₀ L h m) (e : ∀ y, m y = m' y) : Fr h₀ L h m' := (funext e : m = m') ▸ F
/-- a turn that leaves all as it was -/
def SameEnd (h₀ : Heap) (L : Addr) (x : Str) (m₀ : Str → Option Value) (news : List (Addr × Obj)) (s : Shared) (f : Flow) (s' : Shared) : Prop :=
  f = .next ∧ ∃ h' tk' ov, s' = { s with heap := h', toks := tk' } ∧ Fr h₀ L h' (upm x ov m₀) ∧ News h₀ L h' news
def BrkEnd (Q : Flow → Shared → Prop) (f : Flow) (s' : Shared) : Prop := f = .brk ∧ Q .next s'
section
variable {prog : Program} {w : World} {A : Around} {E : Value → Shared → Prop} {s : Shared} {env : Env} {h₀ : Heap} {x : Str} {body : List Stmt} {Q : Flow → Shared → Prop}
/-- a loop over a list of the top that ends by a break at its k-th item -/
theorem brk_loop {l : Addr} {vs : List Value} {m₀ : Str → Option Value} {news : List (Addr × Obj)} (k : Nat) (hh : A.handled = none) (hl : h₀.IsList l vs.toArray) (hk : k < vs.length) (F : Fr h₀ env.locals s.heap m₀) (N : News h₀ env.locals s.heap news)
    (turn : ∀ (i : Nat) (v : Value) h tk news', i < k → vs[i]? = some v → Fr h₀ env.locals h (upm x (some v) m₀) → News h₀ env.locals h news' → (∀ q ∈ news, q ∈ news') → wpAny (model prog w) A (execs body env) (SameEnd h₀ env.locals x m₀ news' { s with heap := h, toks := tk }) E { s with heap := h, toks := tk })
    (last : ∀ (v : Value) h tk, vs[k]? = some v → Fr h₀ env.locals h (upm x (some v) m₀) → News h₀ env.locals h news → wpAny (model prog w) A (execs body env) (BrkEnd Q) E { s with heap := h, toks := tk }) :
    wpAny (model prog w) A (pyIter (.ref l)) (fun it s₂ => LoopAtV prog w A h₀ env x body Q E it s₂) E s := by
  have hls : s.heap.IsList l vs.toArray := hl.at fun o e => F.keep l o e
  obtain ⟨ol, hol, _⟩ := id hl
  have hlt : l < h₀.objs.size := Heap.lt_size hol
  have hne : l ≠ s.heap.objs.size := Nat.ne_of_lt (Nat.lt_trans (Nat.lt_of_lt_of_le hlt F.above) F.ns.lt)
  refine wpAny_pyIter_list hls ?_
  have W := Walks.list (prog := prog) (w := w) hh s.heap.objs.size l hne vs.toArray
  have hlen : vs.toArray.size = vs.length := by simp
  rw [hlen] at W
  let J' : Nat → (Str → Option Value) → List (Addr × Obj) → Prop := fun i m₁ news₁ => news₁ = news ∧ i ≤ k ∧ ∃ ov, m₁ = upm x ov m₀
  refine ⟨_, _, _, vs.length, _, _, m₀, news, J', rfl, W, ?_, ?_, ?_, ⟨⟨_, Heap.get?_push_size _ rfl, rfl, rfl⟩, hls.at fun o e => Heap.get?_push_of_some _ e⟩, F.push _, (fun p hp => ⟨Heap.get?_push_of_some _ (N p hp).1, (N p hp).2⟩), ⟨rfl, Nat.zero_le _, m₀ x, (upm_self x m₀).symm⟩, ?_, ?_⟩
  · intro hm
    rcases List.mem_cons.mp hm with e | hm
    · exact absurd F.ns.lt (e ▸ Nat.lt_irrefl _)
    · exact absurd (Nat.lt_of_lt_of_le hlt F.above) ((List.mem_singleton.mp hm) ▸ Nat.lt_irrefl _)
  · intro b hb
    rw [List.mem_singleton.mp hb]
    exact next_is_new F
  · intro p hp hI
    exact absurd (Heap.lt_size (N p hp).1) ((List.mem_singleton.mp hI) ▸ Nat.lt_irrefl _)
  · rintro i v m₁ news₁ s₁ own ⟨hh', tk', rfl⟩ hin hP ⟨rfl, hik, ov, rfl⟩ hoff _ _ _ _ F₁ N₁
    have hP' : vs[i]? = some v := by simpa using hP
    have e : (fun y => if y = x then some v else upm x ov m₀ y) = upm x (some v) m₀ := upm_upm x (some v) ov m₀
    rw [e] at F₁
    by_cases hlt2 : i < k
    · refine wpAny_mono (turn i v hh' tk' _ hlt2 hP' F₁ N₁ (fun q hq => List.mem_append_right _ hq)) (fun f s₂ p => ?_) fun _ _ e => e
      obtain ⟨rfl, h', tk2, ov', rfl, F', N'⟩ := p
      exact .next ⟨rfl, h', tk2, upm x ov' m₀, news₁, rfl, F', N', hoff, rfl, by omega, ov', rfl⟩
    · have hik2 : i = k := by omega
      subst hik2
      refine wpAny_mono (last v hh' tk' hP' F₁ (fun q hq => N₁ q (List.mem_append_right _ hq))) (fun f s₂ p => ?_) fun _ _ e => e
      obtain ⟨rfl, p⟩ := p
      exact .brk p
  · rintro h' tk m' news' F' N' _ ⟨_, hJ, _⟩
    exact absurd hJ (by omega)
end
end Mine
end
section
open PySem PySem.W PyProof.Rows PyProof.V PySem.Spec
namespace Mine
/-- the sign at a place -/
def SignAt (x : Str) (i : Nat) (y : Str) : Prop := ∃ c, x.cps[i]? = some c ∧ y = ⟨#[c]⟩
/-- how a text falls into words -/
inductive Lex (x : Str) : Nat → List (Str × Int) → Prop
  | done {i : Nat} : x.length = i → Lex x i []
  | space {i : Nat} {ws : List (Str × Int)} : SignAt x i (Str.ofString " ") → Lex x (i + 1) ws → Lex x i ws
  | word {i : Nat} {ws : List (Str × Int)} : SignAt x i (Str.ofString "P") → (x.length = i + 1 ∨ SignAt x (i + 1) (Str.ofString " ")) → Lex x (i + 1) ws → Lex x i ((Str.ofString "P", (i : Int)) :: ws)
  | tilde {i : Nat} {ws : List (Str × Int)} : SignAt x i (Str.ofString "~") → Lex x (i + 1) ws → Lex x i ((Str.ofString "~", (i : Int)) :: ws)
  | arrow {i : Nat} {ws : List (Str × Int)} : SignAt x i (Str.ofString "-") → SignAt x (i + 1) (Str.ofString ">") → Lex x (i + 2) ws → Lex x i ((Str.ofString "->", (i : Int)) :: ws)
theorem SignAt.lt {x : Str} {i : Nat} {y : Str} (h : SignAt x i y) : i < x.length := let ⟨_, hc, _⟩ := h; (Array.getElem?_eq_some_iff.mp hc).1
def SignI (x : Str) (k : Int) (y : Str) : Prop := 0 ≤ k ∧ k ≤ 100000 ∧ SignAt x k.toNat y
theorem signAt {prog : Program} {w : World} {A : Around} {E : Value → Shared → Prop} {s : Shared} {Q : Value → Shared → Prop} {value slice : PySem.Expr} {x y : Str} {k : Int} {t u : Tok} (hc : SignI x k y) (h : Q (.str y s.toks) { s with toks := s.toks + 1 })
    (hs : subscripted slice false (.str x t) (.int k u) = operate [.str x t, .int k u] (getItem (.str x t) (.int k u))) (ht : ∀ r, letTemporaryGo value (.str x t) r = pure ()) :
    wpAny (model prog w) A (subscriptTail value slice (.str x t) (.int k u)) Q E s := by
  obtain ⟨h0, h1, c, hc, rfl⟩ := hc
  exact textAt hc (by omega) (by omega) h hs ht
/-- the walk halts here -/
def Halt (P : Prop) : Prop := P
theorem halt {P : Prop} (h : Halt P) : P := h
/-- the words read so far lie in the ledger -/
structure TKs (rest : List (Addr × Obj)) (vs : List Value) (ws : List (Str × Int)) : Prop where
  hlen : vs.length = ws.length
  htk : ∀ (i : Nat) (x : Str × Int), ws[i]? = some x → ∃ (a : Addr) (t u : Tok) (n : Nat), vs[i]? = some (.ref a) ∧ (a, tupO [.str x.1 t, .int x.2 u] n) ∈ rest
theorem TKs.add {rest : List (Addr × Obj)} {vs : List Value} {ws : List (Str × Int)} (T : TKs rest vs ws) {a : Addr} {y : Str} {k : Int} {t u : Tok} {n : Nat} : TKs ((a, tupO [.str y t, .int k u] n) :: rest) (vs ++ [.ref a]) (ws ++ [(y, k)]) := by
  refine ⟨by simp [T.hlen], fun i x hx => ?_⟩
  by_cases hi : i < ws.length
  · rw [List.getElem?_append_left hi] at hx
    obtain ⟨a', t', u', n', h1, h2⟩ := T.htk i x hx
    exact ⟨a', t', u', n', by rw [List.getElem?_append_left (by rw [T.hlen]; exact hi)]; exact h1, List.mem_cons_of_mem _ h2⟩
  · rw [List.getElem?_append_right (by omega)] at hx
    have h0 : i - ws.length = 0 := by
      have := (List.getElem?_eq_some_iff.mp hx).1
      simp at this
      omega
    rw [h0] at hx
    simp at hx
    subst hx
    refine ⟨a, t, u, n, ?_, List.mem_cons_self⟩
    rw [List.getElem?_append_right (by rw [T.hlen]; omega), T.hlen, h0]
    rfl
theorem upm3 {m : Str → Option Value} {a b c : Str} {u v z : Value} (h1 : m a = some u) (h2 : m b = some v) (h3 : m c = some z) : ∀ y, m y = upm a (some u) (upm b (some v) (upm c (some z) m)) y := by
  intro y
  by_cases e1 : y = a
  · subst e1; simp [upm, h1]
  · by_cases e2 : y = b
    · subst e2; simp [upm, e1, h2]
    · by_cases e3 : y = c
      · subst e3; simp [upm, e1, e2, h3]
      · simp [upm, e1, e2, e3]
/-- between two turns of tokens -/
def TInv (h₀ : Heap) (L o : Addr) (x : Str) (t : Tok) (ws : List (Str × Int)) (news : List (Addr × Obj)) (s : Shared) (n : Nat) (s' : Shared) : Prop :=
  ∃ (h : Heap) (tk : Nat) (vs : List Value) (nt i : Nat) (rest : List (Addr × Obj)) (m : Str → Option Value) (d ws' : List (Str × Int)),
    s' = { s with heap := h, toks := tk } ∧ Fr h₀ L h m ∧ (∃ ti, m (Str.ofString "i") = some (.int (i : Int) ti)) ∧ m (Str.ofString "out") = some (.ref o) ∧ m (Str.ofString "text") = some (.str x t) ∧ News h₀ L h ((o, listOf vs.toArray nt) :: rest) ∧ (∀ q ∈ rest, q.1 ≠ o) ∧ (∀ q ∈ news, q ∈ rest) ∧ Lex x i ws' ∧ TKs rest vs d ∧ ws = d ++ ws' ∧ n + i = x.length
end Mine
end
section
open PySem PySem.W PyProof.Rows PyProof.V PySem.Spec
namespace Mine
open PyProof in
theorem starts_no {x y : Str} {i : Nat} {c c' : Nat} (hc : x.cps[i]? = some c) (hy : y.cps[0]? = some c') (hne : c ≠ c') : Txt.startswith3 x y (i : Int) = false := by
  unfold Txt.startswith3
  have e : fromIndex x.length (i : Int) = i := by
    unfold fromIndex
    rw [if_neg (by omega)]
    omega
  rw [e]
  unfold Builtin.Str.subAt
  refine Bool.and_eq_false_imp.mpr fun _ => beq_eq_false_iff_ne.mpr fun h => hne ?_
  have h2 := congrArg (fun (z : Array Nat) => z[0]?) h
  simp only [Array.getElem?_extract] at h2
  have hyl : 0 < y.length := (Array.getElem?_eq_some_iff.mp hy).1
  have hxl : i < x.cps.size := (Array.getElem?_eq_some_iff.mp hc).1
  rw [hy] at h2
  split at h2
  · simp [hc] at h2; exact h2
  · cases h2
open PyProof in
theorem starts_yes {x y : Str} {i : Nat} (h : ∀ j, j < y.length → x.cps[i + j]? = y.cps[j]?) (hp : 0 < y.length) : Txt.startswith3 x y (i : Int) = true := by
  unfold Txt.startswith3
  have e : fromIndex x.length (i : Int) = i := by
    unfold fromIndex
    rw [if_neg (by omega)]
    omega
  rw [e]
  unfold Builtin.Str.subAt
  have hl : i + y.length ≤ x.length := by
    have h1 := h (y.length - 1) (by omega)
    have h2 : y.length - 1 < y.cps.size := by show _ < y.length; omega
    rw [Array.getElem?_eq_getElem h2] at h1
    have h3 : i + (y.length - 1) < x.length := (Array.getElem?_eq_some_iff.mp h1).1
    omega
  refine Bool.and_eq_true_iff.mpr ⟨decide_eq_true hl, beq_iff_eq.mpr ?_⟩
  apply Array.ext_getElem?
  intro j
  rw [Array.getElem?_extract]
  have hx : i + y.length ≤ x.cps.size := hl
  split
  · rename_i h1
    exact h j (by omega)
  · rename_i h1
    exact (Array.getElem?_eq_none (by show y.length ≤ j; omega)).symm
/-- a word more -/
theorem TInv.add {h₀ : Heap} {L o : Addr} {x : Str} {t : Tok} {ws : List (Str × Int)} {news : List (Addr × Obj)} {s : Shared} {n i j tk : Nat} {h : Heap} {m : Str → Option Value} {D : Addr} {y : Str} {tt : Obj} {t1 t2 : Tok} {nd nt : Nat} {vs : List Value} {d ws' : List (Str × Int)} {rest : List (Addr × Obj)}
    (F : Fr h₀ L h m) (N : News h₀ L h ((D, tt) :: (o, listOf (vs ++ [Value.ref D]).toArray nt) :: rest)) (ht : tt = tupO [.str y t1, .int (i : Int) t2] nd) (hi : ∃ ti, m (Str.ofString "i") = some (.int (j : Int) ti)) (ho : m (Str.ofString "out") = some (.ref o)) (hx : m (Str.ofString "text") = some (.str x t))
    (ad : ∀ q ∈ rest, q.1 ≠ o) (hsub : ∀ q ∈ news, q ∈ rest) (hl : Lex x j ws') (hT : TKs rest vs d) (hws : ws = d ++ (y, (i : Int)) :: ws') (hn : n + i = x.length) (hij : i < j) (hj : j ≤ x.length) : ∃ n', n' < n ∧ TInv h₀ L o x t ws news s n' { s with heap := h, toks := tk } := by
  subst ht
  refine ⟨x.length - j, by omega, h, tk, vs ++ [Value.ref D], nt, j, (D, tupO [.str y t1, .int (i : Int) t2] nd) :: rest, m, d ++ [(y, (i : Int))], ws', rfl, F, hi, ho, hx, ?_, ?_, fun q hq => List.mem_cons_of_mem _ (hsub q hq), hl, hT.add, by rw [hws, List.append_assoc]; rfl, by omega⟩
  · refine nsub N fun q hq => ?_
    rcases List.mem_cons.mp hq with rfl | hq
    · exact List.mem_cons_of_mem _ List.mem_cons_self
    · rcases List.mem_cons.mp hq with rfl | hq
      · exact List.mem_cons_self
      · exact List.mem_cons_of_mem _ (List.mem_cons_of_mem _ hq)
  · intro q hq
    rcases List.mem_cons.mp hq with rfl | hq
    · exact nne Obj.cls N List.mem_cons_self (List.mem_cons_of_mem _ List.mem_cons_self) (by show Value.type "tuple" ≠ Value.type "list"; decide)
    · exact ad q hq
theorem inList {K : Frag} {h : Heap} {l : Addr} {o : Obj} {vs : List Value} {n : Nat} (X : K.In h) (e : K.lookup l = some o) (ho : o = listOf vs.toArray n) : h.IsList l vs.toArray := by
  subst ho
  exact ⟨_, X _ _ e, rfl, n, rfl⟩
end Mine
end
section
open PySem PySem.W PyProof.Rows PyProof.V PySem.Spec
namespace Mine
section
open PySem PyProof
variable {prog : Program} {w : World} {A : Around} {E : Value → Shared → Prop} {h : Heap} {g : Array GenState} {d : Drawn} {t : Nat} {os : OsState}
variable {nm q : Str} {C N : Addr} {bs bm bmB : List Value} {hdct : Bool} {sn : List Str} {sub : List Value} {ab : Bool} {col : Option Bool} {dd : Option Addr} {k0 k1 k2 k3 k5 : Option Value} {B newId initId : String}
end
/-- an own exception class with an __init__ of its own, in the written part -/
def excI (K : Frag) (C : Addr) (bmB : List Value) (newId : String) (fI : Addr) : Bool := match K.lookup C with
  | some ⟨.type "type", _, .cls cd, sl⟩ => (match cd.mro, sl.toList with
    | .ref C' :: bm, [_, _, _, _, some (.builtin n), _] => C' == C && n == newId && !cd.hasDel && tailIn K bmB bm && nsOkIn K cd.ns && nsIn K cd.ns "__init__" == some (some (.ref fI))
    | _, _ => false)
  | _ => false
/-- a raised instance of it -/
structure ExcO (C : Addr) (o : Obj) : Prop where
  hcls : o.cls = .ref C
  hdat : ∃ vs a0, o.data = .fields vs ∧ vs[1]? = some .none ∧ vs[0]? = some a0
section
variable {prog : Program} {w : World} {A : Around} {E : Value → Shared → Prop} {s : Shared} {K : Frag} {C L : Addr} {h₀ : Heap} {m : Str → Option Value} {bmB : List Value} {B newId initId : String} {fI : Addr}
end
section
variable {M : Model} {A : Around} {E : Value → Shared → Prop} {s' : Shared} {base g g₂ : Heap} {outer : List Env} {L a x : Addr} {m : Str → Option Value} {name : Str} {scope : Scope} {cd : Value} {Q : Unit → Shared → Prop} {C : Addr}
end
section
variable {prog : Program} {w : World} {A₀ : Around} {E : Value → Shared → Prop} {s' : Shared} {h₀ h : Heap} {outer : List Env} {L a e : Addr} {m : Str → Option Value} {name : Str} {scope : Scope} {cd : Value}
  {b₀ : Stmt} {suite : List Stmt} {pos np : Pos} {rest : List ExceptHandler} {Q : Flow → Shared → Prop} {KF : Frag} {C fI : Addr} {bmB : List Value} {newId : String}
  {p : Program} {loose : List Str} {mean : ExcName → Option Value} {mg mb : Str → Option Value} {x : Str}
end
end Mine
end
section
open PySem PySem.W PyProof.Rows PyProof.V PySem.Spec
namespace Mine
/-- an exception that is being made -/
structure ExcAt (h₀ : Heap) (L : Addr) (h : Heap) (x C : Addr) (ns : List Str) : Prop where
  obj : ∃ vs sl dd a0, h.get? x = some ⟨.ref C, dd, .fields vs, sl⟩ ∧ vs[1]? = some .none ∧ vs[0]? = some a0 ∧ ((dd = none ∧ ns = []) ∨ ∃ D mA, dd = some D ∧ D ≠ x ∧ D ≠ L ∧ h₀.get? D = none ∧ h.Ns1 D mA ∧ Within mA ns)
  new : h₀.get? x = none
  ne : x ≠ L
theorem ExcAt.news {h₀ : Heap} {L : Addr} {h : Heap} {x C : Addr} {ns : List Str} (S : ExcAt h₀ L h x C ns) : ∃ o, ExcO C o ∧ News h₀ L h [(x, o)] := by
  obtain ⟨vs, sl, dd, a0, hx, h1, h0, _⟩ := S.obj
  refine ⟨⟨.ref C, dd, .fields vs, sl⟩, ⟨rfl, vs, a0, rfl, h1, h0⟩, fun q hq => ?_⟩
  rcases List.mem_cons.mp hq with rfl | hq
  · exact ⟨hx, S.ne, S.new⟩
  · cases hq
section
open Builtin Builtin.ObjectAttr
variable {prog : Program} {w : World} {A : Around} {E : Value → Shared → Prop} {s : Shared} {K : Frag} {C C2 L x : Addr} {h₀ : Heap} {m : Str → Option Value} {ns : List Str} {name : Str} {v : Value}
end
section
variable {prog : Program} {w : World} {A : Around} {E : Value → Shared → Prop} {s : Shared} {K : Frag} {C L x : Addr} {h₀ : Heap} {m : Str → Option Value} {fI : Addr} {v : Value} {t0 : Addr}
end
end Mine
end
section
open PySem PySem.W PyProof.Rows PyProof.V PySem.Spec
namespace Mine
theorem kl_last_app (y : Value) : ∀ p : List Value, kl_last (p ++ [y]) = some (p, y)
  | [] => rfl
  | [x] => rfl
  | x :: z :: r => by
    have ih := kl_last_app y (z :: r)
    rw [List.cons_append] at ih
    rw [List.cons_append, List.cons_append]
    unfold kl_last
    rw [ih]
section
variable {prog : Program} {w : World} {A : Around} {E : Value → Shared → Prop} {s : Shared} {h₀ : Heap} {L : Addr} {m : Str → Option Value} {news : List (Addr × Obj)} {Q : Value → Shared → Prop}
theorem popL {a : Addr} {vs : List Value} {n : Nat} {x : Value} {news' : List (Addr × Obj)} (F : Fr h₀ L s.heap m) (N : News h₀ L s.heap news) (U : Upd a (listOf (vs ++ [x]).toArray n) (listOf vs.toArray (n + 1)) news news') (hsz : vs.length ≤ 1000)
    (h : ∀ h', Fr h₀ L h' m → News h₀ L h' news' → Q x { s with heap := h' }) : wpAny (model prog w) A (call (.builtin "list.pop") [.ref a]) Q E s := by
  refine kl_pop (its := (vs ++ [x]).toArray) F N (by simpa using kl_last_app x vs) U ?_ h
  rw [sizeLine_eq]
  simp
  omega
end
theorem upm2 {m : Str → Option Value} {a b : Str} {u v : Value} (h1 : m a = some u) (h2 : m b = some v) : ∀ y, m y = upm a (some u) (upm b (some v) m) y := by
  intro y
  by_cases e1 : y = a
  · subst e1; simp [upm, h1]
  · by_cases e2 : y = b
    · subst e2; simp [upm, e1, h2]
    · simp [upm, e1, e2]
theorem Lex.bound {x : Str} {i : Nat} {ws : List (Str × Int)} (h : Lex x i ws) : ∀ y ∈ ws, 0 ≤ y.2 ∧ y.2 ≤ (x.length : Int) := by
  induction h with
  | done _ => intro y hy; cases hy
  | space _ _ ih => exact ih
  | word h1 _ _ ih =>
    intro y hy
    have := h1.lt
    rcases List.mem_cons.mp hy with rfl | hy
    · exact ⟨by omega, by dsimp only; omega⟩
    · exact ih y hy
  | tilde h1 _ ih =>
    intro y hy
    have := h1.lt
    rcases List.mem_cons.mp hy with rfl | hy
    · exact ⟨by omega, by dsimp only; omega⟩
    · exact ih y hy
  | arrow h1 _ _ ih =>
    intro y hy
    have := h1.lt
    rcases List.mem_cons.mp hy with rfl | hy
    · exact ⟨by omega, by dsimp only; omega⟩
    · exact ih y hy
section
variable {h₀ h : Heap} {L : Addr} {news : List (Addr × Obj)}
theorem FIs.tups {news' : List (Addr × Obj)} {v : Value} {f : Sf} (x : FIs news v f) (k : ∀ (a : Addr) (vs : List Value) (n : Nat), (a, tupO vs n) ∈ news → (a, tupO vs n) ∈ news') : FIs news' v f := by
  induction x with
  | atom h1 h2 => exact .atom (k _ _ _ h1) (k _ _ _ h2)
  | atomx h1 h2 h3 => exact .atomx (k _ _ _ h1) (k _ _ _ h2) (k _ _ _ h3)
  | no h1 _ ih => exact .no (k _ _ _ h1) ih
  | all h1 _ ih => exact .all (k _ _ _ h1) ih
  | some h1 _ ih => exact .some (k _ _ _ h1) ih
  | par _ ih => exact .par ih
  | imp h1 _ _ ih ih2 => exact .imp (k _ _ _ h1) ih ih2
theorem tup_off {o : Addr} {us : List Value} {nu : Nat} (N : News h₀ L h news) (ho : (o, listOf us.toArray nu) ∈ news) (a : Addr) (vs : List Value) (n : Nat) (hm : (a, tupO vs n) ∈ news) : (a, tupO vs n) ∈ off o news :=
  mem_off.mpr ⟨hm, nne Obj.cls N hm ho (by show Value.type "tuple" ≠ Value.type "list"; decide)⟩
end
section
variable {C : Addr} {w : World} {h₀ h : Heap} {L : Addr} {news news2 : List (Addr × Obj)} {rd dd tl o : Addr} {r : RT} {nt nu : Nat} {vs us : List Value} {ws : List (Str × Int)} {i : Nat} {dq : Int} {v' : Value} {g : Sf}
theorem RS.at {j : Nat} (S : RS C w news rd dd tl r nt vs ws i dq) (e : i = j) : RS C w news rd dd tl r nt vs ws j dq := e ▸ S
theorem RS.offl (N : News h₀ L h news) (S : RS C w news rd dd tl r nt vs ws i dq) (ho : (o, listOf us.toArray nu) ∈ news) (hot : @Ne Nat o tl) : RS C w (off o news) rd dd tl r nt vs ws i dq := by
  obtain ⟨hrd, ⟨ua, ud, hdd⟩, htl, hlen, hle, htk⟩ := S
  refine ⟨mem_off.mpr ⟨hrd, nne Obj.cls N hrd ho (fun e => by cases e)⟩, ⟨ua, ud, mem_off.mpr ⟨hdd, nne Obj.cls N hdd ho (by show Value.type "dict" ≠ Value.type "list"; decide)⟩⟩, mem_off.mpr ⟨htl, Ne.symm hot⟩, hlen, hle, fun i x hx => ?_⟩
  obtain ⟨a, t, u, n, h1, h2⟩ := htk i x hx
  exact ⟨a, t, u, n, h1, tup_off N ho _ _ _ h2⟩
end
end Mine
end
section
open PySem PySem.W PyProof.Rows PyProof.V PySem.Spec
namespace Mine
/-- the signs of the law's texts, and whether they are letters -/
abbrev signs6 : List (String × Bool) := [("P", true), ("x", true), ("a", true), ("l", true), ("s", true), ("o", true), ("m", true), ("e", true), ("~", false), ("(", false), (")", false), (".", false), (" ", false)]
def Let6 (y : Str) (b : Bool) : Prop := ∃ z, (z, b) ∈ signs6 ∧ y = Str.ofString z
/-- how a text falls into words -/
inductive Lex6 (x : Str) : Nat → List (Str × Int) → Prop
  | done {i : Nat} : x.length = i → Lex6 x i []
  | space {i : Nat} {ws : List (Str × Int)} : SignAt x i (Str.ofString " ") → Lex6 x (i + 1) ws → Lex6 x i ws
  | word {i n : Nat} {ws : List (Str × Int)} {y : Str} : 1 ≤ n → (∀ j, j < n → ∃ z, SignAt x (i + j) z ∧ Let6 z true) → (∃ z, SignAt x (i + n) z ∧ Let6 z false) → Txt.slice x (some (i : Int)) (some ((i + n : Nat) : Int)) = y → Lex6 x (i + n) ws → Lex6 x i ((y, (i : Int)) :: ws)
  | sign {i k : Nat} {ws : List (Str × Int)} {z : String} : (z, k) ∈ [("~", 2), ("(", 6), (")", 7), (".", 9)] → SignAt x i (Str.ofString z) → Lex6 x (i + 1) ws → Lex6 x i ((Str.ofString z, (i : Int)) :: ws)
/-- between two turns of tokens -/
def TInv6 (h₀ : Heap) (L o : Addr) (x : Str) (t : Tok) (ws : List (Str × Int)) (news : List (Addr × Obj)) (s : Shared) (n : Nat) (s' : Shared) : Prop :=
  ∃ (h : Heap) (tk : Nat) (vs : List Value) (nt i : Nat) (rest : List (Addr × Obj)) (m : Str → Option Value) (d ws' : List (Str × Int)),
    s' = { s with heap := h, toks := tk } ∧ Fr h₀ L h m ∧ (∃ ti, m (Str.ofString "i") = some (.int (i : Int) ti)) ∧ m (Str.ofString "out") = some (.ref o) ∧ m (Str.ofString "text") = some (.str x t) ∧ News h₀ L h ((o, listOf vs.toArray nt) :: rest) ∧ (∀ q ∈ rest, q.1 ≠ o) ∧ (∀ q ∈ news, q ∈ rest) ∧ Lex6 x i ws' ∧ TKs rest vs d ∧ ws = d ++ ws' ∧ n + i = x.length
/-- a word more -/
theorem TInv6.add {h₀ : Heap} {L o : Addr} {x : Str} {t : Tok} {ws : List (Str × Int)} {news : List (Addr × Obj)} {s : Shared} {n i j tk : Nat} {h : Heap} {m : Str → Option Value} {D : Addr} {y : Str} {tt : Obj} {t1 t2 : Tok} {nd nt : Nat} {vs : List Value} {rest : List (Addr × Obj)} {d ws2 : List (Str × Int)}
    (F : Fr h₀ L h m) (N : News h₀ L h ((D, tt) :: (o, listOf (vs ++ [Value.ref D]).toArray nt) :: rest)) (ht : tt = tupO [.str y t1, .int (i : Int) t2] nd) (hi : ∃ ti, m (Str.ofString "i") = some (.int (j : Int) ti)) (ho : m (Str.ofString "out") = some (.ref o)) (hm : m (Str.ofString "text") = some (.str x t))
    (ad : ∀ q ∈ rest, q.1 ≠ o) (hsub : ∀ q ∈ news, q ∈ rest) (hl : Lex6 x j ws2) (hT : TKs rest vs d) (hws : ws = d ++ (y, (i : Int)) :: ws2) (hn : n + i = x.length) (hij : i < j) (hj : j ≤ x.length) : ∃ m', m' < n ∧ TInv6 h₀ L o x t ws news s m' { s with heap := h, toks := tk } := by
  subst ht
  have hne : D ≠ o := nne Obj.cls N List.mem_cons_self (List.mem_cons_of_mem _ List.mem_cons_self) (show Value.type "tuple" ≠ Value.type "list" by decide)
  refine ⟨x.length - j, by omega, h, tk, vs ++ [.ref D], nt, j, (D, tupO [.str y t1, .int (i : Int) t2] nd) :: rest, m, d ++ [(y, (i : Int))], ws2, rfl, F, hi, ho, hm, ?_, ?_, fun q hq => List.mem_cons_of_mem _ (hsub q hq), hl, hT.add, by rw [hws, List.append_assoc]; rfl, by omega⟩
  · intro q hq
    rcases List.mem_cons.mp hq with rfl | hq
    · exact N _ (List.mem_cons_of_mem _ List.mem_cons_self)
    · rcases List.mem_cons.mp hq with rfl | hq
      · exact N _ List.mem_cons_self
      · exact N _ (List.mem_cons_of_mem _ (List.mem_cons_of_mem _ hq))
  · intro q hq
    rcases List.mem_cons.mp hq with rfl | hq
    · exact hne
    · exact ad q hq
theorem sign_one {x : Str} {i c : Nat} {z : String} (h : SignAt x i (Str.ofString z)) (hz : (Str.ofString z).cps = #[c]) : x.cps[i]? = some c := by
  obtain ⟨c', hc, e⟩ := h
  have : (#[c] : Array Nat) = #[c'] := hz.symm.trans (congrArg Str.cps e)
  have : c = c' := by simpa using this
  rw [this]; exact hc
theorem starts_one {x : Str} {i c : Nat} {z : String} (h : SignAt x i (Str.ofString z)) (hz : (Str.ofString z).cps = #[c]) : Txt.startswith3 x (Str.ofString z) (i : Int) = true := by
  have hl : (Str.ofString z).length = 1 := congrArg Array.size hz
  refine starts_yes (fun j hj => ?_) (by omega)
  have : j = 0 := by omega
  subst this
  rw [Nat.add_zero, sign_one h hz, hz]
  rfl
theorem starts_sign {x : Str} {i : Nat} {z : String} {k : Nat} (hz : (z, k) ∈ [("~", 2), ("(", 6), (")", 7), (".", 9)]) (h : SignAt x i (Str.ofString z)) :
    (∀ j y, j < k → ["<->", "->", "~", "&", "|", "=", "(", ")", ",", "."][j]? = some y → Txt.startswith3 x (Str.ofString y) (i : Int) = false) ∧ Txt.startswith3 x (Str.ofString z) (i : Int) = true ∧ ["<->", "->", "~", "&", "|", "=", "(", ")", ",", "."][k]? = some z ∧ (Str.ofString z).length = 1 ∧ Let6 (Str.ofString z) false := by
  simp only [List.mem_cons, List.mem_nil_iff, or_false, Prod.mk.injEq] at hz
  rcases hz with ⟨rfl, rfl⟩ | ⟨rfl, rfl⟩ | ⟨rfl, rfl⟩ | ⟨rfl, rfl⟩
  · refine ⟨fun j y hj hy => ?_, starts_one (c := 126) h (by decide), rfl, by decide, ⟨_, by decide, rfl⟩⟩
    have hc := sign_one (c := 126) h (by decide)
    match j, hj, hy with
    | 0, _, hy => cases hy; exact starts_no (c' := 60) hc (by decide) (by decide)
    | 1, _, hy => cases hy; exact starts_no (c' := 45) hc (by decide) (by decide)
  · refine ⟨fun j y hj hy => ?_, starts_one (c := 40) h (by decide), rfl, by decide, ⟨_, by decide, rfl⟩⟩
    have hc := sign_one (c := 40) h (by decide)
    match j, hj, hy with
    | 0, _, hy => cases hy; exact starts_no (c' := 60) hc (by decide) (by decide)
    | 1, _, hy => cases hy; exact starts_no (c' := 45) hc (by decide) (by decide)
    | 2, _, hy => cases hy; exact starts_no (c' := 126) hc (by decide) (by decide)
    | 3, _, hy => cases hy; exact starts_no (c' := 38) hc (by decide) (by decide)
    | 4, _, hy => cases hy; exact starts_no (c' := 124) hc (by decide) (by decide)
    | 5, _, hy => cases hy; exact starts_no (c' := 61) hc (by decide) (by decide)
  · refine ⟨fun j y hj hy => ?_, starts_one (c := 41) h (by decide), rfl, by decide, ⟨_, by decide, rfl⟩⟩
    have hc := sign_one (c := 41) h (by decide)
    match j, hj, hy with
    | 0, _, hy => cases hy; exact starts_no (c' := 60) hc (by decide) (by decide)
    | 1, _, hy => cases hy; exact starts_no (c' := 45) hc (by decide) (by decide)
    | 2, _, hy => cases hy; exact starts_no (c' := 126) hc (by decide) (by decide)
    | 3, _, hy => cases hy; exact starts_no (c' := 38) hc (by decide) (by decide)
    | 4, _, hy => cases hy; exact starts_no (c' := 124) hc (by decide) (by decide)
    | 5, _, hy => cases hy; exact starts_no (c' := 61) hc (by decide) (by decide)
    | 6, _, hy => cases hy; exact starts_no (c' := 40) hc (by decide) (by decide)
  · refine ⟨fun j y hj hy => ?_, starts_one (c := 46) h (by decide), rfl, by decide, ⟨_, by decide, rfl⟩⟩
    have hc := sign_one (c := 46) h (by decide)
    match j, hj, hy with
    | 0, _, hy => cases hy; exact starts_no (c' := 60) hc (by decide) (by decide)
    | 1, _, hy => cases hy; exact starts_no (c' := 45) hc (by decide) (by decide)
    | 2, _, hy => cases hy; exact starts_no (c' := 126) hc (by decide) (by decide)
    | 3, _, hy => cases hy; exact starts_no (c' := 38) hc (by decide) (by decide)
    | 4, _, hy => cases hy; exact starts_no (c' := 124) hc (by decide) (by decide)
    | 5, _, hy => cases hy; exact starts_no (c' := 61) hc (by decide) (by decide)
    | 6, _, hy => cases hy; exact starts_no (c' := 40) hc (by decide) (by decide)
    | 7, _, hy => cases hy; exact starts_no (c' := 41) hc (by decide) (by decide)
    | 8, _, hy => cases hy; exact starts_no (c' := 44) hc (by decide) (by decide)
/-- the list of terms is put in front -/
theorem astep {C : Addr} {w : World} {h₀ h : Heap} {L : Addr} {news news2 : List (Addr × Obj)} {rd dd tl o c : Addr} {r : RT} {nt nu k : Nat} {vs us xs : List Value} {ws : List (Str × Int)} {i : Nat} {dq : Int}
    (N : News h₀ L h news2) (S : RS C w news2 rd dd tl r nt vs ws i dq) (ho : (o, listOf us.toArray nu) ∈ news2) (hot : @Ne Nat o tl) (hc : (c, tupO xs k) ∈ news2) (Kn : Kept dd news news2) (hno : ∀ q ∈ news, q.1 ≠ o) :
    ∃ rest, News h₀ L h ((o, listOf us.toArray nu) :: rest) ∧ (∀ q ∈ rest, q.1 ≠ o) ∧ Kept dd news rest ∧ RS C w rest rd dd tl r nt vs ws i dq ∧ (c, tupO xs k) ∈ rest :=
  ⟨off o news2, RS.front N ho, off_ne, fun q hq h1 => mem_off.mpr ⟨Kn q hq h1, hno q hq⟩, S.offl N ho hot, tup_off N ho _ _ _ hc⟩
end Mine
end
section
open PySem PySem.W PyProof.Rows PyProof.V PySem.Spec
namespace Mine
/-- a tree of tuples: how deep, how many nodes -/
inductive DN (news : List (Addr × Obj)) : Value → Nat → Nat → Prop
  | leaf {a b : Addr} {k y : Str} {t u : Tok} {n m : Nat} : (a, tupO [.str k t, .str y u, .ref b] n) ∈ news → (b, tupO [] m) ∈ news → DN news (.ref a) 1 1
  | leafx {a b e : Addr} {k y : Str} {t u : Tok} {n m d c : Nat} : (a, tupO [.str k t, .str y u, .ref b] n) ∈ news → (b, tupO [.ref e] m) ∈ news → DN news (.ref e) d c → DN news (.ref a) (d + 1) (c + 1)
  | var {a : Addr} {k y : Str} {t u : Tok} {n : Nat} : (a, tupO [.str k t, .str y u] n) ∈ news → DN news (.ref a) 1 1
  | un {a : Addr} {k : Str} {t : Tok} {n : Nat} {v : Value} {d c : Nat} : (a, tupO [.str k t, v] n) ∈ news → DN news v d c → DN news (.ref a) (d + 1) (c + 1)
  | bnd {a : Addr} {k y : Str} {t u : Tok} {n : Nat} {v : Value} {d c : Nat} : (a, tupO [.str k t, .str y u, v] n) ∈ news → DN news v d c → DN news (.ref a) (d + 1) (c + 1)
  | bi {a : Addr} {k : Str} {t : Tok} {n : Nat} {v u : Value} {d c d' c' : Nat} : (a, tupO [.str k t, v, u] n) ∈ news → DN news v d c → DN news u d' c' → DN news (.ref a) (max d d' + 1) (c + c' + 1)
theorem DN.head {news : List (Addr × Obj)} {v : Value} {d c : Nat} (x : DN news v d c) : ∃ (a : Addr) (k : Str) (t : Tok) (vs : List Value) (n : Nat), v = .ref a ∧ (a, tupO (.str k t :: vs) n) ∈ news ∧ vs.length ≤ 2 := by
  cases x with
  | leaf h1 _ => exact ⟨_, _, _, _, _, rfl, h1, by simp⟩
  | leafx h1 _ _ => exact ⟨_, _, _, _, _, rfl, h1, by simp⟩
  | var h1 => exact ⟨_, _, _, _, _, rfl, h1, by simp⟩
  | un h1 _ => exact ⟨_, _, _, _, _, rfl, h1, by simp⟩
  | bnd h1 _ => exact ⟨_, _, _, _, _, rfl, h1, by simp⟩
  | bi h1 _ _ => exact ⟨_, _, _, _, _, rfl, h1, by simp⟩
theorem DN.tups {news news' : List (Addr × Obj)} {v : Value} {d c : Nat} (x : DN news v d c) (k : ∀ (a : Addr) (vs : List Value) (n : Nat), (a, tupO vs n) ∈ news → (a, tupO vs n) ∈ news') : DN news' v d c := by
  induction x with
  | leaf h1 h2 => exact .leaf (k _ _ _ h1) (k _ _ _ h2)
  | leafx h1 h2 _ ih => exact .leafx (k _ _ _ h1) (k _ _ _ h2) ih
  | var h1 => exact .var (k _ _ _ h1)
  | un h1 _ ih => exact .un (k _ _ _ h1) ih
  | bnd h1 _ ih => exact .bnd (k _ _ _ h1) ih
  | bi h1 _ _ ih ih2 => exact .bi (k _ _ _ h1) ih ih2
theorem DN.mono {news news' : List (Addr × Obj)} {v : Value} {d c : Nat} (x : DN news v d c) (k : ∀ q ∈ news, q ∈ news') : DN news' v d c := x.tups fun _ _ _ h => k _ h
def Sf.dep : Sf → Nat
  | atom => 1
  | atomx => 2
  | no f => f.dep + 1
  | all f => f.dep + 1
  | some f => f.dep + 1
  | par f => f.dep
  | imp f g => max f.dep g.dep + 1
def Sf.nodes : Sf → Nat
  | atom => 1
  | atomx => 2
  | no f => f.nodes + 1
  | all f => f.nodes + 1
  | some f => f.nodes + 1
  | par f => f.nodes
  | imp f g => f.nodes + g.nodes + 1
theorem FIs.dn {news : List (Addr × Obj)} {v : Value} {f : Sf} (x : FIs news v f) : DN news v f.dep f.nodes := by
  induction x with
  | atom h1 h2 => exact .leaf h1 h2
  | atomx h1 h2 h3 => exact .leafx h1 h2 (.var h3)
  | no h1 _ ih => exact .un h1 ih
  | all h1 _ ih => exact .bnd h1 ih
  | some h1 _ ih => exact .bnd h1 ih
  | par _ ih => exact ih
  | imp h1 _ _ ih ih2 => exact .bi h1 ih ih2
/-- what lies in the heap to be looked at -/
def DItem (news : List (Addr × Obj)) (u : Value) (c : Nat) : Prop := ∃ (a : Addr) (v : Value) (k d : Nat) (t : Tok) (n : Nat), u = .ref a ∧ (a, tupO [v, .int (k : Int) t] n) ∈ news ∧ DN news v d c ∧ 1 ≤ k ∧ k + d ≤ 81
/-- all of it, with its nodes counted -/
inductive DWork (news : List (Addr × Obj)) : List Value → Nat → Prop
  | nil : DWork news [] 0
  | snoc {us : List Value} {u : Value} {c n : Nat} : DWork news us n → DItem news u c → DWork news (us ++ [u]) (n + c)
theorem DItem.tups {news news' : List (Addr × Obj)} {u : Value} {c : Nat} (x : DItem news u c) (k : ∀ (a : Addr) (vs : List Value) (n : Nat), (a, tupO vs n) ∈ news → (a, tupO vs n) ∈ news') : DItem news' u c := by
  obtain ⟨a, v, k', d, t, n, h1, h2, h3, h4⟩ := x
  exact ⟨a, v, k', d, t, n, h1, k _ _ _ h2, h3.tups k, h4⟩
theorem DWork.tups {news news' : List (Addr × Obj)} {us : List Value} {n : Nat} (x : DWork news us n) (k : ∀ (a : Addr) (vs : List Value) (n : Nat), (a, tupO vs n) ∈ news → (a, tupO vs n) ∈ news') : DWork news' us n := by
  induction x with
  | nil => exact .nil
  | snoc _ h ih => exact .snoc ih (h.tups k)
theorem DN.pos {news : List (Addr × Obj)} {v : Value} {d c : Nat} (x : DN news v d c) : 1 ≤ c ∧ 1 ≤ d := by cases x <;> exact ⟨by omega, by omega⟩
theorem DWork.len {news : List (Addr × Obj)} {us : List Value} {n : Nat} (x : DWork news us n) : us.length ≤ n := by
  induction x with
  | nil => simp
  | snoc _ h ih =>
    obtain ⟨_, _, _, _, _, _, _, _, h3, _⟩ := h
    have := h3.pos
    rw [List.length_append, List.length_singleton]
    omega
theorem DWork.last {news : List (Addr × Obj)} {us : List Value} {u : Value} {n : Nat} (x : DWork news (us ++ [u]) n) : ∃ m c, DWork news us m ∧ DItem news u c ∧ m + c = n := by
  generalize e : us ++ [u] = vs at x
  cases x with
  | nil => simp at e
  | snoc h1 h2 =>
    obtain ⟨rfl, e2⟩ := List.append_inj' e rfl
    obtain rfl : u = _ := by simpa using e2
    exact ⟨_, _, h1, h2, rfl⟩
theorem allLt_lt {d : Addr} : ∀ {l : List (Addr × Obj)}, AllLt d l → ∀ p ∈ l, @Eq Nat p.1 (d + 1) → False
  | [], _, _, hp, _ => nomatch hp
  | _ :: _, h, p, hp, e => by
    rcases List.mem_cons.mp hp with rfl | hp
    · have := h.1; omega
    · exact allLt_lt h.2 p hp e
/-- between two turns of depth -/
def DInv (h₀ : Heap) (L o : Addr) (news : List (Addr × Obj)) (s : Shared) (n : Nat) (s' : Shared) : Prop :=
  ∃ (h : Heap) (tk : Nat) (us : List Value) (nu : Nat) (oc : Obj) (vc : Option Value) (rest : List (Addr × Obj)) (m : Str → Option Value) (k : Int),
    s' = { s with heap := h, toks := tk } ∧ Fr h₀ L h m ∧ m (Str.ofString "work") = some (.ref o) ∧ (∃ t, m (Str.ofString "deepest") = some (.int k t)) ∧ k ≤ 80 ∧ 0 ≤ k ∧ News h₀ L h ((o, listOf us.toArray nu) :: (L + 1, oc) :: rest) ∧ oc.data = .cell vc ∧
      (∀ q ∈ rest, q.1 ≠ o) ∧ (∀ q ∈ rest, @Ne Nat q.1 (L + 1)) ∧ @Ne Nat o (L + 1) ∧ (∀ q ∈ news, q ∈ rest) ∧ DWork rest us n ∧ n ≤ 900
theorem DWork.one {news : List (Addr × Obj)} {u : Value} {c : Nat} (x : DItem news u c) : DWork news [u] c := by
  have := DWork.snoc (us := []) .nil x
  rwa [List.nil_append, Nat.zero_add] at this
theorem DInv.init {h₀ : Heap} {L o D : Addr} {news : List (Addr × Obj)} {s : Shared} {h : Heap} {tk : Nat} {tt oc : Obj} {vc : Option Value} {m : Str → Option Value} {v : Value} {t t0 : Tok} {d c : Nat} (F : Fr h₀ L h m) (N : News h₀ L h ((o, listOf [Value.ref D].toArray 0) :: (D, tt) :: (L + 1, oc) :: news))
    (ht : tt = tupO [v, .int 1 t] 0) (hw : m (Str.ofString "work") = some (.ref o)) (hdp : m (Str.ofString "deepest") = some (.int 0 t0)) (hc : oc.data = .cell vc) (l1 : @LT.lt Nat _ (L + 1) D) (l2 : @LT.lt Nat _ D o) (a1 : AllLt L news) (a3 : AllLt o news) (hdn : DN news v d c) (hd : d ≤ 80) (hc9 : c ≤ 900) :
    DInv h₀ L o news s c { s with heap := h, toks := tk } := by
  subst ht
  refine ⟨h, tk, [.ref D], 0, oc, vc, (D, tupO [v, .int ((1 : Nat) : Int) t] 0) :: news, m, 0, rfl, F, hw, ⟨t0, hdp⟩, by omega, by omega, nsub N (fun q hq => ?_), hc, ?_, ?_, ?_, fun q hq => List.mem_cons_of_mem _ hq, DWork.one ⟨D, v, 1, d, t, 0, rfl, List.mem_cons_self, hdn.mono fun q hq => List.mem_cons_of_mem _ hq, by omega, by omega⟩, hc9⟩
  · rcases List.mem_cons.mp hq with rfl | hq
    · exact List.mem_cons_self
    · rcases List.mem_cons.mp hq with rfl | hq
      · exact List.mem_cons_of_mem _ (List.mem_cons_of_mem _ List.mem_cons_self)
      · rcases List.mem_cons.mp hq with rfl | hq
        · exact List.mem_cons_of_mem _ List.mem_cons_self
        · exact List.mem_cons_of_mem _ (List.mem_cons_of_mem _ (List.mem_cons_of_mem _ hq))
  · intro q hq
    rcases List.mem_cons.mp hq with rfl | hq
    · exact Nat.ne_of_lt l2
    · exact allLt_ne a3 q hq
  · intro q hq
    rcases List.mem_cons.mp hq with rfl | hq
    · exact Nat.ne_of_gt l1
    · intro e
      exact allLt_lt a1 q hq e
  · exact Nat.ne_of_gt (Nat.lt_trans l1 l2)
section
variable {prog : Program} {w : World} {A : Around} {E : Value → Shared → Prop} {s : Shared} {env : Env} {h₀ : Heap} {x : Str} {body : List Stmt} {Q : Flow → Shared → Prop}
/-- behind a turn of a loop over a made tuple -/
def TupEnd (h₀ : Heap) (L : Addr) (J : (Str → Option Value) → List (Addr × Obj) → Prop) (own : List (Addr × Obj)) (s₁ : Shared) (f : Flow) (s₂ : Shared) : Prop :=
  f = .next ∧ ∃ h' tk m' news' nx, s₂ = { s₁ with heap := h', toks := tk } ∧ Fr h₀ L h' m' ∧ News h₀ L h' news' ∧ (∀ p ∈ nx, p ∈ news') ∧ (∀ p ∈ own, p ∈ news') ∧ (∀ p ∈ own, ∀ q ∈ nx, p.1 ≠ q.1) ∧ J m' nx
theorem tup_iter {l : Addr} {vs : List Value} {nn : Nat} {m₀ : Str → Option Value} {news : List (Addr × Obj)} (J : Nat → (Str → Option Value) → List (Addr × Obj) → Prop)
    (hh : A.handled = none) (hl : (l, tupO vs nn) ∈ news) (F : Fr h₀ env.locals s.heap m₀) (N : News h₀ env.locals s.heap news) (hj : J 0 m₀ news) (hlJ : ∀ i m nx, J i m nx → (l, tupO vs nn) ∈ nx)
    (turn : ∀ i v m₁ news₁ h tk own, vs[i]? = some v → (∀ p ∈ own, ∀ q ∈ news₁, p.1 ≠ q.1) → J i m₁ news₁ → Fr h₀ env.locals h (upm x (some v) m₁) → News h₀ env.locals h (news₁ ++ own) →
      wpAny (model prog w) A (execs body env) (TupEnd h₀ env.locals (J (i + 1)) own { s with heap := h, toks := tk }) E { s with heap := h, toks := tk })
    (done : ∀ m₁ news₁ h tk, J vs.length m₁ news₁ → Fr h₀ env.locals h m₁ → News h₀ env.locals h news₁ → Q .next { s with heap := h, toks := tk }) :
    wpAny (model prog w) A (pyIter (.ref l)) (fun it s₂ => LoopAtV prog w A h₀ env x body Q E it s₂) E s := by
  have hol : s.heap.get? l = some (tupO vs nn) := (N _ hl).1
  have hls : s.heap.IsTuple l vs.toArray := ⟨_, hol, rfl, nn, rfl⟩
  have hne : l ≠ s.heap.objs.size := Nat.ne_of_lt (Heap.lt_size hol)
  refine wpAny_pyIter_tuple hls ?_
  have W := Walks.tuple (prog := prog) (w := w) hh s.heap.objs.size l hne vs.toArray
  have hlen : vs.toArray.size = vs.length := by simp
  rw [hlen] at W
  refine ⟨_, _, _, vs.length, _, _, m₀, news, J, rfl, W, ?_, ?_, ?_, ⟨⟨_, Heap.get?_push_size _ rfl, rfl, rfl⟩, hls.at fun o e => Heap.get?_push_of_some _ e⟩, F.push _, (fun p hp => ⟨Heap.get?_push_of_some _ (N p hp).1, (N p hp).2⟩), hj, ?_, ?_⟩
  · intro hm
    rcases List.mem_cons.mp hm with e | hm
    · exact absurd F.ns.lt (e ▸ Nat.lt_irrefl _)
    · exact (N _ hl).2.1 ((List.mem_singleton.mp hm).symm)
  · intro b hb
    rw [List.mem_singleton.mp hb]
    exact next_is_new F
  · intro p hp hI
    exact absurd (Heap.lt_size (N p hp).1) ((List.mem_singleton.mp hI) ▸ Nat.lt_irrefl _)
  · rintro i v m₁ news₁ s₁ own ⟨hh', tk', rfl⟩ hin hP hJ hoff hown hget hfp hst F₁ N₁
    have hP' : vs[i]? = some v := by simpa using hP
    have hI0 : h₀.get? s.heap.objs.size = none := next_is_new F
    obtain ⟨⟨oI, hoI, _⟩, _⟩ := id hst
    have hIown : (s.heap.objs.size, oI) ∈ own := hfp _ (List.mem_cons.mpr (.inl rfl)) hI0 _ hoI
    have hl₁ := hlJ _ _ _ hJ
    have hlo : hh'.get? l = some (tupO vs nn) := (N₁ _ (List.mem_append.mpr (.inr hl₁))).1
    refine wpAny_mono (turn i v m₁ news₁ hh' tk' [(s.heap.objs.size, oI)] hP' ?_ hJ F₁ ?_) (fun f s₂ p => ?_) fun _ _ e => e
    · intro p hp q hq e
      rw [List.mem_singleton.mp hp] at e
      exact hoff q hq (List.mem_singleton.mpr e.symm)
    · intro p hp
      refine N₁ p ((List.mem_append.mp hp).elim (fun h => List.mem_append.mpr (.inr h)) fun h => List.mem_append.mpr (.inl ?_))
      rw [List.mem_singleton.mp h]; exact hIown
    · obtain ⟨rfl, h', tk, m', news', nx, e, F', N', hn, ho, ha, hm⟩ := p
      refine .next ⟨rfl, h', tk, m', nx, e, F', fun p hp => ?_, fun p hp hq => ?_, hm⟩
      · rcases List.mem_append.mp hp with h | h
        · by_cases hI : p.1 = s.heap.objs.size
          · have h2 : hh'.get? p.1 = some p.2 := hget p h
            rw [hI, hoI] at h2
            have h3 : p = (s.heap.objs.size, oI) := Prod.ext hI (Option.some.inj h2).symm
            rw [h3]
            exact N' _ (ho _ List.mem_cons_self)
          · have h1 : p.1 = l := by
              rcases List.mem_cons.mp (hown p h) with h2 | h2
              · exact absurd h2 hI
              · exact List.mem_singleton.mp h2
            have h2 : hh'.get? p.1 = some p.2 := hget p h
            rw [h1, hlo] at h2
            have h3 : p = (l, tupO vs nn) := Prod.ext h1 (Option.some.inj h2).symm
            rw [h3]
            exact N' _ (hn _ (hlJ _ _ _ hm))
        · exact N' p (hn p h)
      · exact ha _ List.mem_cons_self p hp (List.mem_singleton.mp hq).symm
  · rintro h' tk m' news' F' N' _ hJ
    exact done m' news' h' tk hJ F' N'
end
/-- a part of a node: a text, an empty tuple, a node, or a tuple of one node -/
def DPart (news : List (Addr × Obj)) (k : Nat) (p : Value) (c : Nat) : Prop :=
  (c = 0 ∧ ∃ y t, p = .str y t) ∨ (c = 0 ∧ ∃ b m, p = .ref b ∧ (b, tupO [] m) ∈ news) ∨ (∃ d, DN news p d c ∧ k + 1 + d ≤ 81) ∨ ∃ b m e d, p = .ref b ∧ (b, tupO [.ref e] m) ∈ news ∧ DN news (.ref e) d c ∧ k + 1 + d ≤ 81
theorem DPart.mono {news news' : List (Addr × Obj)} {k : Nat} {p : Value} {c : Nat} (x : DPart news k p c) (h : ∀ q ∈ news, q ∈ news') : DPart news' k p c := by
  rcases x with x | ⟨h0, b, m, h1, h2⟩ | ⟨d, h1, h2⟩ | ⟨b, m, e, d, h1, h2, h3, h4⟩
  · exact .inl x
  · exact .inr (.inl ⟨h0, b, m, h1, h _ h2⟩)
  · exact .inr (.inr (.inl ⟨d, h1.mono h, h2⟩))
  · exact .inr (.inr (.inr ⟨b, m, e, d, h1, h _ h2, h3.mono h, h4⟩))
/-- a node's parts -/
theorem DN.parts {news : List (Addr × Obj)} {v : Value} {d c k : Nat} (x : DN news v d c) (hk : k + d ≤ 81) : ∃ (a : Addr) (ps : List Value) (n : Nat) (cs : List Nat), v = .ref a ∧ (a, tupO ps n) ∈ news ∧ ps.length = cs.length ∧ cs.sum + 1 = c ∧ ∀ (i : Nat) p c', ps[i]? = some p → cs[i]? = some c' → DPart news k p c' := by
  cases x with
  | leaf h1 h2 =>
    refine ⟨_, _, _, [0, 0, 0], rfl, h1, rfl, rfl, fun i p c' hp hc => ?_⟩
    match i, hp, hc with
    | 0, hp, hc => cases hp; cases hc; exact .inl ⟨rfl, _, _, rfl⟩
    | 1, hp, hc => cases hp; cases hc; exact .inl ⟨rfl, _, _, rfl⟩
    | 2, hp, hc => cases hp; cases hc; exact .inr (.inl ⟨rfl, _, _, rfl, h2⟩)
  | leafx h1 h2 h3 =>
    rename_i c0
    refine ⟨_, _, _, [0, 0, c0], rfl, h1, rfl, by simp, fun i p c' hp hc => ?_⟩
    match i, hp, hc with
    | 0, hp, hc => cases hp; cases hc; exact .inl ⟨rfl, _, _, rfl⟩
    | 1, hp, hc => cases hp; cases hc; exact .inl ⟨rfl, _, _, rfl⟩
    | 2, hp, hc => cases hp; cases hc; exact .inr (.inr (.inr ⟨_, _, _, _, rfl, h2, h3, by omega⟩))
  | var h1 =>
    refine ⟨_, _, _, [0, 0], rfl, h1, rfl, rfl, fun i p c' hp hc => ?_⟩
    match i, hp, hc with
    | 0, hp, hc => cases hp; cases hc; exact .inl ⟨rfl, _, _, rfl⟩
    | 1, hp, hc => cases hp; cases hc; exact .inl ⟨rfl, _, _, rfl⟩
  | un h1 h2 =>
    rename_i c0
    refine ⟨_, _, _, [0, c0], rfl, h1, rfl, by simp, fun i p c' hp hc => ?_⟩
    match i, hp, hc with
    | 0, hp, hc => cases hp; cases hc; exact .inl ⟨rfl, _, _, rfl⟩
    | 1, hp, hc => cases hp; cases hc; exact .inr (.inr (.inl ⟨_, h2, by omega⟩))
  | bnd h1 h2 =>
    rename_i c0
    refine ⟨_, _, _, [0, 0, c0], rfl, h1, rfl, by simp, fun i p c' hp hc => ?_⟩
    match i, hp, hc with
    | 0, hp, hc => cases hp; cases hc; exact .inl ⟨rfl, _, _, rfl⟩
    | 1, hp, hc => cases hp; cases hc; exact .inl ⟨rfl, _, _, rfl⟩
    | 2, hp, hc => cases hp; cases hc; exact .inr (.inr (.inl ⟨_, h2, by omega⟩))
  | bi h1 h2 h3 =>
    rename_i c0 d' c1
    refine ⟨_, _, _, [0, c0, c1], rfl, h1, rfl, by simp, fun i p c' hp hc => ?_⟩
    match i, hp, hc with
    | 0, hp, hc => cases hp; cases hc; exact .inl ⟨rfl, _, _, rfl⟩
    | 1, hp, hc => cases hp; cases hc; exact .inr (.inr (.inl ⟨_, h2, by omega⟩))
    | 2, hp, hc => cases hp; cases hc; exact .inr (.inr (.inl ⟨_, h3, by omega⟩))
/-- between two turns of depth's inner loop -/
def EInv (L o : Addr) (l : Addr) (ps : List Value) (np : Nat) (base news : List (Addr × Obj)) (k0 : Nat) (t0 : Tok) (m₀ : Str → Option Value) (m0 : Nat) (cs : List Nat) (i : Nat) (m : Str → Option Value) (nx : List (Addr × Obj)) : Prop :=
  (∃ ov, m = upm (Str.ofString "inner") ov m₀) ∧ ∃ (us : List Value) (nu : Nat) (oc : Obj) (rest : List (Addr × Obj)), nx = (o, listOf us.toArray nu) :: (L + 1, oc) :: rest ∧ oc.data = .cell (some (.int (k0 : Int) t0)) ∧ (∀ q ∈ rest, q.1 ≠ o) ∧ (∀ q ∈ rest, @Ne Nat q.1 (L + 1)) ∧ (∀ q ∈ base, q ∈ rest) ∧ (∀ q ∈ news, q ∈ rest) ∧ (l, tupO ps np) ∈ rest ∧ DWork rest us (m0 + (cs.take i).sum)
/-- the tuple lies in the ledger -/
def SrcTp (ax : Addr) (its : Array Value) (news : List (Addr × Obj)) : Prop := False ∨ ∃ o, (ax, o) ∈ news ∧ o.cls = .type "tuple" ∧ ∃ n, o.data = .seq its n
/-- a comprehension's source that is a made tuple -/
def TupSrc (prog : Program) (w : World) (A : Around) (h₀ : Heap) (L : Addr) (m : Str → Option Value) (env : Env) (elt : PySem.Expr) (x : Str) (scope : Scope) (cl : List (Str × Addr)) (Fin : Shared → List Value → List (Addr × Obj) → Prop) (xv : Value) (s₁ : Shared) : Prop :=
  ∃ ax its news, xv = .ref ax ∧ A.handled = none ∧ Fr h₀ L s₁.heap m ∧ News h₀ L s₁.heap news ∧ SrcTp ax its news ∧ its.size ≤ sizeLine ∧
    ∀ g, LCg.CompRest prog w A h₀ L m env elt x scope cl { s₁ with heap := g } (SrcTp ax its) (fun i v => its[i]? = some v) (Fin { s₁ with heap := g }) its.size 0 [] news
section
variable {prog : Program} {w : World} {A : Around} {E : Value → Shared → Prop} {s : Shared} {h₀ : Heap} {L : Addr} {m : Str → Option Value} {env : Env}
theorem SrcTp.tup {h : Heap} {ax : Addr} {its : Array Value} {news : List (Addr × Obj)} (x : SrcTp ax its news) (N : News h₀ L h news) : IsTup h ax its := by
  rcases x with x | ⟨o, hm, r⟩
  · exact x.elim
  · exact ⟨o, N.get hm, r⟩
theorem tupSrc_intro {elt : PySem.Expr} {x : Str} {scope : Scope} {cl : List (Str × Addr)} {Fin : Shared → List Value → List (Addr × Obj) → Prop} {ax : Addr} {vs : List Value} {k : Nat} {news : List (Addr × Obj)} {s₁ : Shared}
    (hh : A.handled = none) (F : Fr h₀ L s₁.heap m) (N : News h₀ L s₁.heap news) (hm : (ax, tupO vs k) ∈ news) (hsz : vs.toArray.size ≤ sizeLine)
    (h : ∀ g, LCg.CompRest prog w A h₀ L m env elt x scope cl { s₁ with heap := g } (SrcTp ax vs.toArray) (fun i v => vs.toArray[i]? = some v) (Fin { s₁ with heap := g }) vs.toArray.size 0 [] news) :
    TupSrc prog w A h₀ L m env elt x scope cl Fin (.ref ax) s₁ := ⟨ax, vs.toArray, news, rfl, hh, F, N, .inr ⟨_, hm, rfl, _, rfl⟩, hsz, h⟩
theorem ListComp_Tp {elt iter : PySem.Expr} {x : Str} {px : Pos} {scope : Scope} {cl : List (Str × Addr)} {pos : Pos} {Q : Value → Shared → Prop} (_F₀ : Fr h₀ L s.heap m)
    (hclos : closureFor scope env = pure cl) (hcell : ∀ y ∈ scope.names, y.2 ≠ .cell) (hkind : scope.kind = .function)
    (hnames : ∀ y ∈ scope.names, y.2 = .local → scope.names.lookup y.1 = some .local) (hx : scope.names.lookup x = some .local)
    (h : wpAny (model prog w) A (eval iter env) (TupSrc prog w A h₀ L m env elt x scope cl (fun s₂ => LCg.FinE h₀ L m s₂ Q)) E s)
    (hs : ∀ x, foldedSetIterable iter env x = pure x := by intro _; rfl) :
    wpAny (model prog w) A (eval (.ListComp elt [⟨.Name x px, iter, [], 0⟩] scope pos) env) Q E s := by
  rw [eval_ListComp]
  refine wpAny_comprehension_free (use := none) rfl hs hclos hkind hnames (wpAny_mono h (fun xv s₁ h₁ => ?_) fun _ _ e => e)
  obtain ⟨ax, its, news, rfl, hh, F, N, S, hsz, R⟩ := h₁
  have hl : s₁.heap.IsTuple ax its := S.tup N
  have hlt : ax < s₁.heap.objs.size := by obtain ⟨_, e, _⟩ := hl; exact Heap.lt_size e
  refine wpAny_pyIter_tuple hl ?_
  have up : ∀ b o, s₁.heap.get? b = some o → (s₁.heap.push { cls := .type "tuple_iterator", data := .fields #[.ref ax, .int 0 0] }).get? b = some o := fun b o e => Heap.get?_push_of_some _ e
  refine LCg.block_U (Walks.tuple hh s₁.heap.objs.size ax (Nat.ne_of_lt hlt) its) hsz (fun i h st => by obtain ⟨o, e, _⟩ := st.1; exact ⟨o, e⟩) (S := SrcTp ax its) (fun i h h' o nw st e e' _ N' S' => ⟨by obtain ⟨o', q, r⟩ := st.1; rw [e] at q; cases q; exact ⟨o, e', r⟩, S'.tup N'⟩) hcell hkind hx
    ⟨⟨_, Heap.get?_push_size _ rfl, rfl, rfl⟩, IsTup.keeps hl up⟩ (fun b hb => ?_)
    (F.keeps up) (N.grown up) (Nat.ne_of_lt F.ns.lt) (next_is_new F) (fun p hp => Nat.ne_of_lt (Heap.lt_size (N p hp).1)) S (R _) ?_
  · show b < (s₁.heap.push _).objs.size
    rw [Heap.size_push]
    rcases List.mem_cons.mp hb with rfl | hb
    · exact Nat.lt_succ_self _
    · rw [List.mem_singleton.mp hb]; exact Nat.lt_succ_of_lt hlt
  · intro D C h tk m' ys news' F' N' o1 hn hC₀ hD₀ hCL hDL hCD offC fin
    refine ⟨m', hn, fun h'' hs'' => fin D h'' tk (F'.change hs'' hCL hC₀) (fun p hp => ?_) o1⟩
    refine ⟨hs''.extBut _ _ ?_ (N' p hp).1, (N' p hp).2⟩
    rcases List.mem_cons.mp hp with rfl | hp
    · exact Ne.symm hCD
    · exact offC p hp
end
section
variable {prog : Program} {w : World} {A : Around} {E : Value → Shared → Prop} {s : Shared} {h₀ : Heap} {L : Addr} {news : List (Addr × Obj)} {Q : Value → Shared → Prop}
theorem lenT {a : Addr} {vs : List Value} {n k : Nat} (N : News h₀ L s.heap news) (hm : (a, tupO vs n) ∈ news) (hk : vs.length = k) (hfit : k ≤ 1000)
    (h : Q (.int (k : Int) (s.toks + 1)) { s with toks := s.toks + 1 + 1 }) : wpAny (model prog w) A (call (.builtin "len") [.ref a]) Q E s := by
  have e : (vs.toArray.size : Int) = (k : Int) := by rw [List.size_toArray, hk]
  exact PyProof.Rows.len_tuple ⟨_, N.get hm, rfl, _, rfl⟩ (by rw [e]; omega) (by rw [e]; exact h)
end
section
variable {prog : Program} {w : World} {A : Around} {E : Value → Shared → Prop} {s : Shared} {h₀ : Heap} {L : Addr} {m : Str → Option Value} {news news' : List (Addr × Obj)} {Q : Value → Shared → Prop}
theorem extNil {o b : Addr} {us : List Value} {nu n2 : Nat} (F : Fr h₀ L s.heap m) (N : News h₀ L s.heap news) (hb : (b, listOf #[] n2) ∈ news) (U : Upd o (listOf us.toArray nu) (listOf us.toArray nu) news news') (hl : us.length ≤ 1000)
    (h : ∀ h', Fr h₀ L h' m → News h₀ L h' news' → Q .none { s with heap := h' }) : wpAny (model prog w) A (call (.builtin "list.extend") [.ref o, .ref b]) Q E s := by
  refine kxn_extend F N hb rfl U ?_ ?_ ?_ h
  · unfold Builtin.List.listTooLong
    rw [sizeLine_eq]
    simp
    omega
  · rw [sizeLine_eq]; simp; omega
  · rw [sizeLine_eq]; simp; omega
theorem extOne {o b : Addr} {us : List Value} {x : Value} {nu n2 : Nat} (F : Fr h₀ L s.heap m) (N : News h₀ L s.heap news) (hb : (b, listOf #[x] n2) ∈ news) (U : Upd o (listOf us.toArray nu) (listOf (us ++ [x]).toArray (nu + 1)) news news') (hl : us.length ≤ 1000)
    (h : ∀ h', Fr h₀ L h' m → News h₀ L h' news' → Q .none { s with heap := h' }) : wpAny (model prog w) A (call (.builtin "list.extend") [.ref o, .ref b]) Q E s := by
  obtain ⟨pre, post, rfl, rfl, a, c⟩ := U.split
  have z := N (o, listOf us.toArray nu) (List.mem_append.mpr (.inr (.head _)))
  have hz : us.length ≤ sizeLine := by rw [sizeLine_eq]; omega
  refine call_meets PySem.F.slot_list_extend ⟨_, z.1, rfl⟩ PySem.F.entry_list_extend (PySem.F.args_list_extend_2 _ _) (PySem.AutoSeq1.list_extend_list_list_0 o _ nu b #[x] n2 ?_ (by simpa using hz) ?_) ⟨z.1, (N _ hb).1, h _ (F.change (Heap.SameBut.update ..) z.2.1 z.2.2) (kl_turn _ N a c ?_ ?_)⟩
  · unfold Builtin.List.listTooLong
    rw [sizeLine_eq]
    simp
    omega
  · rw [sizeLine_eq]; simp; omega
  · simp
  · simp
end
section
variable {prog : Program} {w : World} {A : Around} {E : Value → Shared → Prop} {s : Shared} {h₀ : Heap} {L : Addr} {m : Str → Option Value} {news news' : List (Addr × Obj)} {Q : Value → Shared → Prop}
theorem ld_cellC {x : Str} {pos : Pos} {scope : Scope} {cl : List (Str × Addr)} {C c : Addr} {env : Env} {oc : Obj} {v : Value} (N : News h₀ L s.heap news) (hm : (c, oc) ∈ news) (hc : oc.data = .cell (some v)) (hcl : (compEnvC scope cl C env).cells.lookup x = some c) (h : Q v s)
    (hk : (compEnvC scope cl C env).scope.kind = .function := by rfl) (hl : (compEnvC scope cl C env).kindOf x = some .cell := by rfl) (hd : (x == ("__debug__" : Str)) = false := by decide) :
    wpAny (model prog w) A (eval (.Name x pos) (compEnvC scope cl C env)) Q E s :=
  wpAny_Name (wpAny_loadName_cell hk hl hcl ⟨_, (N _ hm).1, hc⟩ h) hd
theorem seq0 (n : Nat) : seqIndex? 0 (n + 1) = some 0 := by
  unfold seqIndex?
  simp
theorem item0 {t : Addr} {x : Value} {vs : List Value} {n : Nat} {u : Tok} {value slice : PySem.Expr} (N : News h₀ L s.heap news) (hm : (t, tupO (x :: vs) n) ∈ news) (h : Q x s)
    (hs : subscripted slice false (.ref t) (.int 0 u) = operate [.ref t, .int 0 u] (getItem (.ref t) (.int 0 u))) (hg : ∀ r, letTemporaryGo value (.ref t) r = pure ()) :
    wpAny (model prog w) A (subscriptTail value slice (.ref t) (.int 0 u)) Q E s := itemT N hm (by decide) (by decide) (seq0 vs.length) rfl h hs hg
end
section
variable {h₀ : Heap} {L o l : Addr} {ps : List Value} {np : Nat} {base news : List (Addr × Obj)} {k0 : Nat} {t0 : Tok} {m₀ : Str → Option Value} {m0 : Nat} {cs : List Nat} {i : Nat} {us : List Value} {nu : Nat} {oc : Obj} {rest own news' : List (Addr × Obj)} {s : Shared} {h' : Heap} {tk : Nat} {ov : Option Value} {n1 nu0 : Nat}
theorem eend_same (F : Fr h₀ L h' (upm (Str.ofString "inner") ov m₀)) (N : News h₀ L h' news') (hs : ∀ q ∈ (o, listOf us.toArray nu) :: (L + 1, oc) :: (rest ++ own), q ∈ news') (hcd : oc.data = .cell (some (.int (k0 : Int) t0))) (ad1 : ∀ q ∈ rest, q.1 ≠ o) (ad2 : ∀ q ∈ rest, @Ne Nat q.1 (L + 1))
    (hbs : ∀ q ∈ base, q ∈ rest) (hns : ∀ q ∈ news, q ∈ rest) (hp : (l, tupO ps np) ∈ rest) (hW : DWork rest us n1) (hn : n1 = m0 + (cs.take (i + 1)).sum) (hown : ∀ p ∈ own, ∀ q ∈ (o, listOf us.toArray nu) :: (L + 1, oc) :: rest, p.1 ≠ q.1) :
    TupEnd h₀ L (EInv L o l ps np base news k0 t0 m₀ m0 cs (i + 1)) own s .next { s with heap := h', toks := tk } := by
  refine ⟨rfl, h', tk, _, news', (o, listOf us.toArray nu) :: (L + 1, oc) :: rest, rfl, F, N, fun q hq => hs q ?_, fun q hq => hs q ?_, hown, ⟨ov, rfl⟩, us, nu, oc, rest, rfl, hcd, ad1, ad2, hbs, hns, hp, hn ▸ hW⟩
  · rcases List.mem_cons.mp hq with rfl | hq
    · exact List.mem_cons_self
    · rcases List.mem_cons.mp hq with rfl | hq
      · exact List.mem_cons_of_mem _ List.mem_cons_self
      · exact List.mem_cons_of_mem _ (List.mem_cons_of_mem _ (List.mem_append_left _ hq))
  · exact List.mem_cons_of_mem _ (List.mem_cons_of_mem _ (List.mem_append_right _ hq))
theorem eend_more {D b : Addr} {tt : Obj} {t : Tok} {d1 c1 : Nat} (F : Fr h₀ L h' (upm (Str.ofString "inner") ov m₀)) (N : News h₀ L h' ((D, tt) :: (o, listOf (us ++ [Value.ref D]).toArray nu) :: (L + 1, oc) :: (rest ++ own))) (ht : tt = tupO [.ref b, .int ((k0 + 1 : Nat) : Int) t] 0) (hcd : oc.data = .cell (some (.int (k0 : Int) t0))) (ad1 : ∀ q ∈ rest, q.1 ≠ o) (ad2 : ∀ q ∈ rest, @Ne Nat q.1 (L + 1))
    (lD : AllLt D (rest ++ own)) (lo : @LT.lt Nat _ o D) (lL : @LT.lt Nat _ (L + 1) D)
    (hbs : ∀ q ∈ base, q ∈ rest) (hns : ∀ q ∈ news, q ∈ rest) (hp : (l, tupO ps np) ∈ rest) (hW : DWork rest us n1) (hd : DN rest (.ref b) d1 c1) (hk : k0 + 1 + d1 ≤ 81) (hn : n1 + c1 = m0 + (cs.take (i + 1)).sum) (hown : ∀ p ∈ own, ∀ q ∈ (o, listOf us.toArray nu0) :: (L + 1, oc) :: rest, p.1 ≠ q.1) :
    TupEnd h₀ L (EInv L o l ps np base news k0 t0 m₀ m0 cs (i + 1)) own s .next { s with heap := h', toks := tk } := by
  subst ht
  have up : ∀ q ∈ rest, q ∈ (D, tupO [.ref b, .int ((k0 + 1 : Nat) : Int) t] 0) :: rest := fun q hq => List.mem_cons_of_mem _ hq
  refine ⟨rfl, h', tk, _, _, (o, listOf (us ++ [Value.ref D]).toArray nu) :: (L + 1, oc) :: (D, tupO [.ref b, .int ((k0 + 1 : Nat) : Int) t] 0) :: rest, rfl, F, N, fun q hq => ?_, fun q hq => ?_, fun p hp q hq => ?_, ⟨ov, rfl⟩, us ++ [.ref D], nu, oc, _ :: rest, rfl, hcd, fun q hq => ?_, fun q hq => ?_, fun q hq => up q (hbs q hq), fun q hq => up q (hns q hq), up _ hp, hn ▸ ?_⟩
  · rcases List.mem_cons.mp hq with rfl | hq
    · exact List.mem_cons_of_mem _ List.mem_cons_self
    · rcases List.mem_cons.mp hq with rfl | hq
      · exact List.mem_cons_of_mem _ (List.mem_cons_of_mem _ List.mem_cons_self)
      · rcases List.mem_cons.mp hq with rfl | hq
        · exact List.mem_cons_self
        · exact List.mem_cons_of_mem _ (List.mem_cons_of_mem _ (List.mem_cons_of_mem _ (List.mem_append_left _ hq)))
  · exact List.mem_cons_of_mem _ (List.mem_cons_of_mem _ (List.mem_cons_of_mem _ (List.mem_append_right _ hq)))
  · rcases List.mem_cons.mp hq with rfl | hq
    · exact hown p hp (o, listOf us.toArray nu0) List.mem_cons_self
    · rcases List.mem_cons.mp hq with rfl | hq
      · exact hown p hp _ (List.mem_cons_of_mem _ List.mem_cons_self)
      · rcases List.mem_cons.mp hq with rfl | hq
        · exact allLt_ne lD p (List.mem_append_right _ hp)
        · exact hown p hp _ (List.mem_cons_of_mem _ (List.mem_cons_of_mem _ hq))
  · rcases List.mem_cons.mp hq with rfl | hq
    · exact Nat.ne_of_gt lo
    · exact ad1 q hq
  · rcases List.mem_cons.mp hq with rfl | hq
    · exact Nat.ne_of_gt lL
    · exact ad2 q hq
  · exact .snoc (hW.tups fun _ _ _ h => up _ h) ⟨D, .ref b, k0 + 1, d1, t, 0, rfl, List.mem_cons_self, hd.mono up, by omega, by omega⟩
end
/-- a turn of a comprehension that made one object -/
theorem compEnd1 {h₀ : Heap} {L I C D T : Addr} {m : Str → Option Value} {s₁ : Shared} {oI oC oD tt : Obj} {S : List (Addr × Obj) → Prop} {rest : Value → List (Addr × Obj) → Prop} {y : Value} {h' : Heap} {tk : Nat} {news : List (Addr × Obj)}
    (F : Fr h₀ L h' m) (N : News h₀ L h' ((T, tt) :: (I, oI) :: (C, oC) :: (D, oD) :: news)) (off : LCg.Off3 I C D news) (n1 : @Ne Nat T I) (n2 : @Ne Nat T C) (n3 : @Ne Nat T D) (hS : S ((T, tt) :: news)) (r : rest y ((T, tt) :: news)) :
    LCg.CompEnd h₀ L m s₁ I oI C oC D oD S rest y { s₁ with heap := h', toks := tk } := by
  refine .intro F N ((T, tt) :: news) (fun p hp => ?_) ⟨⟨n1, n2, n3⟩, off⟩ hS r
  rcases List.mem_cons.mp hp with rfl | hp
  · exact List.mem_cons_of_mem _ List.mem_cons_self
  · rcases List.mem_cons.mp hp with rfl | hp
    · exact List.mem_cons_of_mem _ (List.mem_cons_of_mem _ List.mem_cons_self)
    · rcases List.mem_cons.mp hp with rfl | hp
      · exact List.mem_cons_of_mem _ (List.mem_cons_of_mem _ (List.mem_cons_of_mem _ List.mem_cons_self))
      · rcases List.mem_cons.mp hp with rfl | hp
        · exact List.mem_cons_self
        · exact List.mem_cons_of_mem _ (List.mem_cons_of_mem _ (List.mem_cons_of_mem _ (List.mem_cons_of_mem _ hp)))
theorem wordAt_end {ws : List (Str × Int)} {n : Nat} (h : ws.length = n) : wordAt ws n = Str.ofString "" := by
  rw [wordAt, List.getElem?_eq_none (by omega)]
theorem allLt_ne2 {x d : Addr} {l : List (Addr × Obj)} (h : AllLt x l) (hd : @LT.lt Nat _ x d) : ∀ p ∈ l, p.1 ≠ d := by
  induction l with
  | nil => intro p hp; exact nomatch hp
  | cons q r ih =>
    intro p hp
    rcases List.mem_cons.mp hp with rfl | hp
    · exact Nat.ne_of_lt (Nat.lt_trans h.1 hd)
    · exact ih h.2 p hp
end Mine
end
section
open PySem PyProof.Rows
namespace Mine
def hk (k : Int) : Int := reduceHash (Builtin.Tuple.tupleHashOf [hashInt k])
def setObj (es : Array (Int × Value)) (ep : Nat) (t : SetTable) : Obj := { cls := .type "set", dict := none, data := .set es ep t }
section
variable {prog : Program} {w : World} {A : Around} {E : Value → Shared → Prop} {s : Shared} {S a : Addr} {es : Array (Int × Value)} {ep : Nat} {t : SetTable} {k : Int}
theorem key1 (ha : IsTupleKey (intKind prog w) s.heap [k] a) {Q : Int → Shared → Prop} (hu : A.units < cLine) (h : Q (hk k) { s with toks := s.toks + 2 }) : wpAny (model prog w) A (pyHash (.ref a)) Q E s :=
  wpAny_pyHash_tuple hu ha h
theorem byval (ha : IsTupleKey (intKind prog w) s.heap [k] a) {Q : Bool → Shared → Prop} (h : Q true s) : wpAny (model prog w) A (hashByValue 8 (.ref a)) Q E s := by
  have hT := ha.typeIs
  obtain ⟨o, items, n, ho, _, hd, hi⟩ := ha
  unfold hashByValue
  refine wpAny_bind (wpAny_specialOf hT F.slot_tuple_hash.lookup ?_)
  dsimp only
  refine wpAny_bind (wpAny_seqItems ho hd ?_)
  cases hl : items.toList with
  | nil => rw [hl] at hi; cases hi
  | cons v vs =>
    rw [hl] at hi
    cases hi with
    | cons h1 h2 =>
      cases h2
      obtain ⟨tk, rfl⟩ := Value.isInt_shape h1
      have e : items = #[.int k tk] := by
        apply Array.toList_inj.mp; exact hl
      subst e
      refine wpAny_bind ?_
      show wpAny _ _ (forIn #[Value.int k tk] _ _) _ _ s
      rw [← Array.forIn_toList]
      simp only [List.forIn_cons, List.forIn_nil]
      refine wpAny_bind (wpAny_bind ?_)
      unfold hashByValue
      refine wpAny_pure ?_
      simp only [Bool.not_true, Bool.false_eq_true, if_false]
      first
        | exact wpAny_pure (wpAny_pure (wpAny_pure h))
        | exact wpAny_pure (wpAny_pure h)

theorem add_new {j p : Nat} {t' : SetTable} {Q : Bool → Shared → Prop} (ha : IsTupleKey (intKind prog w) s.heap [k] a) (ho : s.heap.get? S = some (setObj es ep t)) (hf : t.fits es.size = true) (hg : t.gaveWay = false)
    (hp : t.probe (fun i => ((es[i]?).map (·.1)).getD 0) (hk k) (t.probeStart (hk k)) = some (.empty j none)) (hpl : t'.plain = true) (hput : t.put j = (t', p)) (htf : t'.tooFull = false) (hu : A.units < cLine) (hz : (SetTable.insertAt es p (hk k, Value.ref a)).size ≤ sizeLine)
    (h : Q true { s with heap := s.heap.update S (Obj.putSet (SetTable.insertAt es p (hk k, .ref a)) t'), toks := s.toks + 2 }) : wpAny (model prog w) A (setAdd S (.ref a)) Q E s := by
  unfold setAdd
  refine wpAny_holding (wpAny_bind (key1 ha hu ?_))
  unfold setAddHashed
  refine wpAny_holding ?_
  unfold setAddHashedIn
  refine wpAny_bind (wpAny_setState_of (s := { s with toks := s.toks + 2 }) ho rfl hf ?_)
  dsimp only
  have hb : byScan (.ref a) es = false := by simp [byScan, Value.scannable]
  rw [hb]
  simp only [Bool.false_eq_true, if_false]
  refine wpAny_bind ?_
  unfold setSearch setSearchFrom
  refine wpAny_bind (wpAny_setState_of (s := { s with toks := s.toks + 2 }) ho rfl hf ?_)
  dsimp only
  rw [hg]
  simp only [Bool.false_eq_true, if_false]
  split
  case h_2 heq => 
    have e := Eq.trans (Eq.symm hp) (Option.eq_none_iff_forall_ne_some.mpr (fun x hx => heq x hx))
    cases e
  case h_1 met heq =>
    have e : some (SetTable.Met.empty j none) = some met := Eq.trans (Eq.symm hp) heq
    cases e
    dsimp only
    refine wpAny_pure ?_
    dsimp only
    refine wpAny_bind (wpAny_setState_of (s := { s with toks := s.toks + 2 }) ho rfl hf ?_)
    dsimp only
    rw [hput]
    dsimp only
    rw [if_pos hpl]
    refine wpAny_bind (byval (s := { s with toks := s.toks + 2 }) ha ?_)
    simp only [if_true]
    refine wpAny_bind (wpAny_storeSet_of (s := { s with toks := s.toks + 2 }) ho rfl ?_ hz)
    simp only [Bool.not_false, Bool.true_and]
    rw [htf]
    simp only [Bool.false_eq_true, if_false]
    exact wpAny_pure h
theorem find_not {j : Nat} {Q : Bool → Shared → Prop} (ha : IsTupleKey (intKind prog w) s.heap [k] a) (ho : s.heap.get? S = some (setObj es ep t)) (hf : t.fits es.size = true) (hg : t.gaveWay = false)
    (hp : t.probe (fun i => ((es[i]?).map (·.1)).getD 0) (hk k) (t.probeStart (hk k)) = some (.empty j none)) (hu : A.units < cLine)
    (h : Q false { s with toks := s.toks + 2 }) : wpAny (model prog w) A (setContains S (.ref a)) Q E s := by
  unfold setContains
  refine wpAny_holding (wpAny_bind (key1 ha hu ?_))
  unfold setFind setFindIn
  refine wpAny_bind ?_
  refine wpAny_bind (wpAny_setState_of (s := { s with toks := s.toks + 2 }) ho rfl hf ?_)
  dsimp only
  have hb : byScan (.ref a) es = false := by simp [byScan, Value.scannable]
  rw [hb]
  simp only [Bool.false_eq_true, if_false]
  refine wpAny_bind ?_
  unfold setSearch setSearchFrom
  refine wpAny_bind (wpAny_setState_of (s := { s with toks := s.toks + 2 }) ho rfl hf ?_)
  dsimp only
  rw [hg]
  simp only [Bool.false_eq_true, if_false]
  split
  case h_2 heq => 
    have e := Eq.trans (Eq.symm hp) (Option.eq_none_iff_forall_ne_some.mpr (fun x hx => heq x hx))
    cases e
  case h_1 met heq =>
    have e : some (SetTable.Met.empty j none) = some met := Eq.trans (Eq.symm hp) heq
    cases e
    dsimp only
    refine wpAny_pure ?_
    dsimp only
    exact wpAny_pure (wpAny_pure h)
theorem find_yes {j i : Nat} {b : Addr} {nx : SetTable.Probe} {Q : Bool → Shared → Prop} (ha : IsTupleKey (intKind prog w) s.heap [k] a) (hb : IsTupleKey (intKind prog w) s.heap [k] b) (ho : s.heap.get? S = some (setObj es ep t)) (hf : t.fits es.size = true) (hg : t.gaveWay = false)
    (hp : t.probe (fun i => ((es[i]?).map (·.1)).getD 0) (hk k) (t.probeStart (hk k)) = some (.candidate j i nx)) (hi : es[i]? = some (hk k, .ref b)) (hj : t.slot j = .live i) (hu : A.units < cLine)
    (hq : ∀ (P : Bool → Shared → Prop), P false { s with toks := s.toks + 2 } → wpAny (model prog w) A (searchCouldBeSeen (.ref a) ((es.filter (·.1 == hk k)).toList.map (·.2))) P E { s with toks := s.toks + 2 })
    (h : Q true { s with toks := s.toks + 2 }) : wpAny (model prog w) A (setContains S (.ref a)) Q E s := by
  unfold setContains
  refine wpAny_holding (wpAny_bind (key1 ha hu ?_))
  unfold setFind setFindIn
  refine wpAny_bind ?_
  refine wpAny_bind (wpAny_setState_of (s := { s with toks := s.toks + 2 }) ho rfl hf ?_)
  dsimp only
  have hb' : byScan (.ref a) es = false := by simp [byScan, Value.scannable]
  rw [hb']
  simp only [Bool.false_eq_true, if_false]
  refine wpAny_bind ?_
  unfold setSearch setSearchFrom
  refine wpAny_bind (wpAny_setState_of (s := { s with toks := s.toks + 2 }) ho rfl hf ?_)
  dsimp only
  rw [hg]
  simp only [Bool.false_eq_true, if_false]
  split
  case h_2 heq => 
    have e := Eq.trans (Eq.symm hp) (Option.eq_none_iff_forall_ne_some.mpr (fun x hx => heq x hx))
    cases e
  case h_1 met heq =>
    have e : some (SetTable.Met.candidate j i nx) = some met := Eq.trans (Eq.symm hp) heq
    cases e
    dsimp only
    rw [hi]
    dsimp only
    have core : wpAny (model prog w) A (do
        let equal ← holding [Value.ref b] (eqBool (.ref b) (.ref a))
        let __x ← setState S
        if (false && equal) = true then pure (SetFound.there none)
        else
          match __x.2.snd.sameMemory t.moves t.mask with
          | some same =>
            match if same = true then __x.2.snd.slot j else SetTable.Slot.empty with
            | SetTable.Slot.live i' =>
              match __x.fst[i']? with
              | some (fst, y') => do
                let d ← isSame y' (.ref b)
                let still ← pure (if d = true then some i' else none)
                match still with
                  | none => do
                    rule "set.search.anew"
                    setSearchFrom S (Value.ref a) (hk k) false 99999 none
                  | some i' =>
                    if equal = true then pure (SetFound.there (some i'))
                    else setSearchFrom S (Value.ref a) (hk k) false 99999 (some nx)
              | none => do
                let still ← pure none
                match still with
                  | none => do
                    rule "set.search.anew"
                    setSearchFrom S (Value.ref a) (hk k) false 99999 none
                  | some i' =>
                    if equal = true then pure (SetFound.there (some i'))
                    else setSearchFrom S (Value.ref a) (hk k) false 99999 (some nx)
            | x => do
              let still ← pure none
              match still with
                | none => do
                  rule "set.search.anew"
                  setSearchFrom S (Value.ref a) (hk k) false 99999 none
                | some i' =>
                  if equal = true then pure (SetFound.there (some i'))
                  else setSearchFrom S (Value.ref a) (hk k) false 99999 (some nx)
          | x => unsupported "set.changed-during-lookup:is-the-new-block-at-the-old-address") (fun r s' => r = .there (some i) ∧ s' = { s with toks := s.toks + 2 }) E { s with toks := s.toks + 2 } := by
      refine wpAny_bind (wpAny_holding (wpAny_eqBool_tuple (s := { s with toks := s.toks + 2 }) hu hb ha ?_))
      refine wpAny_bind (wpAny_setState_of (s := { s with toks := s.toks + 2 }) ho rfl hf ?_)
      have hsm : t.sameMemory t.moves t.mask = some true := by simp [SetTable.sameMemory]
      dsimp only
      simp only [Bool.false_and, Bool.false_eq_true, if_false]
      rw [hsm]
      dsimp only
      simp only [if_true]
      rw [hj]
      dsimp only
      rw [hi]
      dsimp only
      refine wpAny_bind (wpAny_isSame_ref_self ?_)
      simp only [if_true]
      refine wpAny_bind (wpAny_pure ?_)
      simp only [decide_true, if_true]
      exact wpAny_pure ⟨rfl, rfl⟩
    have fin : ∀ r s', (r = SetFound.there (some i) ∧ s' = { s with toks := s.toks + 2 }) → wpAny (model prog w) A (match r with | .there i => pure i | .free .. => pure none) (fun r s' => wpAny (model prog w) A (pure r.isSome) Q E s') E s' := by
      rintro r s' ⟨rfl, rfl⟩
      exact wpAny_pure (wpAny_pure h)
    by_cases hl : t.led = true
    · rw [hl]
      simp only [Bool.not_true, Bool.false_eq_true, if_false]
      exact wpAny_mono core fin (fun _ _ x => x)
    · have hl' : t.led = false := by simpa using hl
      rw [hl']
      simp only [Bool.not_false, if_true]
      refine wpAny_bind (hq _ ?_)
      simp only [Bool.false_eq_true, if_false]
      exact wpAny_mono core fin (fun _ _ x => x)
end
end Mine
end
section
open PySem PyProof.Rows
namespace Mine
section
variable {prog : Program} {w : World} {A : Around} {E : Value → Shared → Prop} {s : Shared} {S a b : Addr} {es : Array (Int × Value)} {ep : Nat} {t : SetTable} {k : Int}
theorem noclass (ha : IsTupleKey (intKind prog w) s.heap [k] a) {Q : Bool → Shared → Prop} (h : Q false s) : wpAny (model prog w) A (ofAClassStatement 8 (.ref a)) Q E s := by
  have hT := ha.typeIs
  obtain ⟨o, items, n, ho, _, hd, hi⟩ := ha
  unfold ofAClassStatement
  refine wpAny_bind (wpAny_typeOf hT ?_)
  dsimp only
  simp only [beq_self_eq_true, if_true]
  refine wpAny_bind (wpAny_pure ?_)
  simp only [Bool.not_true, Bool.false_eq_true, if_false]
  refine wpAny_bind (wpAny_seqItems ho hd ?_)
  dsimp only
  cases hl : items.toList with
  | nil => rw [hl] at hi; cases hi
  | cons v vs =>
    rw [hl] at hi
    cases hi with
    | cons h1 h2 =>
      cases h2
      obtain ⟨tk, rfl⟩ := Value.isInt_shape h1
      have e : items = #[.int k tk] := by
        apply Array.toList_inj.mp; exact hl
      subst e
      refine wpAny_bind ?_
      rw [← Array.forIn_toList]
      simp only [List.forIn_cons, List.forIn_nil]
      refine wpAny_bind (wpAny_bind ?_)
      unfold ofAClassStatement
      refine wpAny_pure ?_
      simp only [Bool.false_eq_true, if_false]
      first
        | exact wpAny_pure (wpAny_pure (wpAny_pure h))
        | exact wpAny_pure (wpAny_pure h)
theorem unseen (ha : IsTupleKey (intKind prog w) s.heap [k] a) (hb : IsTupleKey (intKind prog w) s.heap [k] b) {Q : Bool → Shared → Prop} (h : Q false s) : wpAny (model prog w) A (searchCouldBeSeen (.ref a) [.ref b]) Q E s := by
  unfold searchCouldBeSeen
  refine wpAny_bind ?_
  simp only [List.forIn_cons, List.forIn_nil]
  refine wpAny_bind ?_
  by_cases hab : (a == b) = true
  · simp only [hab, Bool.true_or, if_true]
    exact wpAny_pure (wpAny_pure (wpAny_pure h))
  · have hf : (a == b) = false := by simpa using hab
    simp only [hf, carriedByValue, Bool.false_and, Bool.or_false, Bool.false_eq_true, if_false]
    refine wpAny_bind (wpAny_eqIsQuiet_tuple ha ?_)
    simp only [Bool.not_true, Bool.false_eq_true, if_false]
    refine wpAny_bind (wpAny_eqIsQuiet_tuple hb ?_)
    simp only [Bool.not_true, Bool.false_eq_true, if_false]
    refine wpAny_bind (noclass ha ?_)
    simp only [Bool.false_eq_true, if_false]
    refine wpAny_bind (noclass hb ?_)
    simp only [Bool.false_eq_true, if_false]
    exact wpAny_pure (wpAny_pure (wpAny_pure h))
end
end Mine
end
section
open PySem PyProof.Rows
namespace Mine
def slotOf (k : Int) : Nat := if k = 0 then 0 else if k = 1 then 1 else 3
def tbk (ks : List Int) (led : Bool) : SetTable := { mask := 7, place := (ks.map slotOf).toArray, dummies := #[], finger := 0, led := led, moves := 0, plain := true }
def es3 (l : List (Int × Addr)) : Array (Int × Value) := (l.map fun p => (hk p.1, Value.ref p.2)).toArray
def hsf (ks : List Int) (i : Nat) : Int := ((ks.map hk)[i]?).getD 0
theorem hashAt (l : List (Int × Addr)) : (fun i => (((es3 l)[i]?).map (·.1)).getD 0) = hsf (l.map (·.1)) := by
  funext i
  simp only [es3, hsf, List.getElem?_toArray, List.getElem?_map, Option.map_map]
  rfl
def all8 : List (List Int) := [[], [0], [1], [2], [0, 1], [0, 2], [1, 2], [0, 1, 2]]
def fitOk (ks : List Int) : Bool := [true, false].all fun led => (tbk ks led).fits ks.length && !(tbk ks led).gaveWay
def newOk (ks : List Int) (k : Int) : Bool := [true, false].all fun led =>
  decide ((tbk ks led).probe (hsf ks) (hk k) ((tbk ks led).probeStart (hk k)) = some (.empty (slotOf k) none))
def addOk (ks : List Int) (k : Int) : Bool := newOk ks k && [true, false].all fun led => decide ((tbk ks led).put (slotOf k) = (tbk (ks ++ [k]) led, ks.length)) && !(tbk (ks ++ [k]) led).tooFull
def yesOk (ks : List Int) (k : Int) (i : Nat) : Bool := [true, false].all fun led =>
  decide ((tbk ks led).probe (hsf ks) (hk k) ((tbk ks led).probeStart (hk k)) = some (.candidate (slotOf k) i ((tbk ks led).advance ((tbk ks led).probeStart (hk k))))) && decide ((tbk ks led).slot (slotOf k) = .live i) && decide (ks[i]? = some k)
theorem fits8 : all8.all fitOk = true := by decide +kernel
theorem look8 : (all8.all fun ks => [(0 : Int), 1, 2].all fun k => if k ∈ ks then yesOk ks k (ks.idxOf k) else newOk ks k) = true := by decide +kernel
theorem only8 : (all8.all fun ks => [(0 : Int), 1, 2].all fun k => if k ∈ ks then decide ((ks.filter fun x => hk x == hk k) = [k]) else true) = true := by decide +kernel
end Mine
end
section
open PySem PyProof.Rows
namespace Mine
theorem insert_end {l : List (Int × Value)} {x : Int × Value} : SetTable.insertAt l.toArray l.length x = (l ++ [x]).toArray := by
  unfold SetTable.insertAt
  have h1 : l.toArray.extract 0 l.length = l.toArray := by simp
  have h2 : l.toArray.extract l.length l.toArray.size = #[] := by simp
  rw [h1, h2]
  simp
/-- the set's object -/
def set3 (l : List (Int × Addr)) (ep : Nat) (led : Bool) : Obj := setObj (es3 l) ep (tbk (l.map (·.1)) led)
theorem es3_size (l : List (Int × Addr)) : (es3 l).size = (l.map (·.1)).length := by simp [es3]
section
variable {prog : Program} {w : World} {A : Around} {E : Value → Shared → Prop} {s : Shared} {S a b : Addr} {l : List (Int × Addr)} {ep : Nat} {led : Bool} {k : Int}
theorem bothB {p : Bool → Bool} (h : [true, false].all p = true) (b : Bool) : p b = true := by
  simp only [List.all_cons, List.all_nil, Bool.and_true, Bool.and_eq_true] at h
  cases b
  · exact h.2
  · exact h.1
theorem put_set {h : Heap} {es es' : Array (Int × Value)} {t t' : SetTable} (ho : h.get? S = some (setObj es ep t)) : (h.update S (Obj.putSet es' t')).get? S = some (setObj es' (ep + 1) t') := by
  have := Heap.get?_update_self (Obj.putSet es' t') ho (by rw [putSet_of es' t' rfl]; rfl)
  rw [putSet_of es' t' rfl] at this; exact this
theorem add3 {Q : Bool → Shared → Prop} (hfit : fitOk (l.map (·.1)) = true) (hadd : addOk (l.map (·.1)) k = true) (ha : IsTupleKey (intKind prog w) s.heap [k] a) (ho : s.heap.get? S = some (set3 l ep led)) (hu : A.units < cLine) (hz : l.length + 1 ≤ sizeLine)
    (h : ∀ h', Heap.SameBut S s.heap h' → h'.get? S = some (set3 (l ++ [(k, a)]) (ep + 1) led) → Q true { s with heap := h', toks := s.toks + 2 }) : wpAny (model prog w) A (setAdd S (.ref a)) Q E s := by
  have hf := bothB hfit led
  simp only [Bool.and_eq_true, Bool.not_eq_true'] at hf
  simp only [addOk, Bool.and_eq_true] at hadd
  obtain ⟨hnew, hadd⟩ := hadd
  have hn := bothB hnew led
  have hd := bothB hadd led
  simp only [Bool.and_eq_true, Bool.not_eq_true', decide_eq_true_eq] at hd hn
  have e : SetTable.insertAt (es3 l) ((l.map (·.1)).length) (hk k, Value.ref a) = es3 (l ++ [(k, a)]) := by
    have := @insert_end (l.map fun p => (hk p.1, Value.ref p.2)) (hk k, Value.ref a)
    simp only [List.length_map] at this ⊢
    simp only [es3, List.map_append, List.map_cons, List.map_nil]
    exact this
  refine add_new (es := es3 l) (ep := ep) (t := tbk (l.map (·.1)) led) (p := (l.map (·.1)).length) (j := slotOf k) (t' := tbk (l.map (·.1) ++ [k]) led) ha ho ?_ hf.2 ?_ rfl hd.1 hd.2 hu ?_ ?_
  · rw [es3_size]; exact hf.1
  · rw [hashAt]; exact hn
  · rw [e, es3_size]; simpa using hz
  · rw [e]
    refine h _ (Heap.SameBut.update s.heap S _) ?_
    have := put_set (es' := es3 (l ++ [(k, a)])) (t' := tbk (l.map (·.1) ++ [k]) led) ho
    rw [this]
    simp [set3]
theorem has3 {Q : Bool → Shared → Prop} (h8 : l.map (·.1) ∈ all8) (hk3 : k = 0 ∨ k = 1 ∨ k = 2) (hl : ∀ p ∈ l, IsTupleKey (intKind prog w) s.heap [p.1] p.2) (ha : IsTupleKey (intKind prog w) s.heap [k] a) (ho : s.heap.get? S = some (set3 l ep led)) (hu : A.units < cLine)
    (h : Q (decide (k ∈ l.map (·.1))) { s with toks := s.toks + 2 }) : wpAny (model prog w) A (setContains S (.ref a)) Q E s := by
  have hfit := List.all_eq_true.mp fits8 _ h8
  have hf := bothB hfit led
  simp only [Bool.and_eq_true, Bool.not_eq_true'] at hf
  have hkm : k ∈ [(0 : Int), 1, 2] := by simpa using hk3
  have hlook := List.all_eq_true.mp (List.all_eq_true.mp look8 _ h8) _ hkm
  have honly := List.all_eq_true.mp (List.all_eq_true.mp only8 _ h8) _ hkm
  by_cases hm : k ∈ l.map (·.1)
  · rw [if_pos hm] at hlook honly
    have hy := bothB hlook led
    simp only [Bool.and_eq_true, decide_eq_true_eq] at hy honly
    obtain ⟨⟨hp, hj⟩, hi⟩ := hy
    rw [List.getElem?_map] at hi
    obtain ⟨q, hq, hqk⟩ := Option.map_eq_some_iff.mp hi
    have hqm : q ∈ l := List.mem_of_getElem? hq
    have hb := hl q hqm
    rw [hqk] at hb
    have hfil : ((es3 l).filter (·.1 == hk k)).toList.map (·.2) = [.ref q.2] := by
      have e1 : (l.filter fun x => hk x.1 == hk k).map Prod.fst = [k] := by
        rw [List.filter_map] at honly; exact honly
      have e2 : ((es3 l).filter (·.1 == hk k)).toList.map (·.2) = (l.filter fun x => hk x.1 == hk k).map fun x => Value.ref x.2 := by
        simp only [es3, List.filter_toArray, List.filter_map, List.map_map]
        rfl
      rw [e2]
      have hqf : q ∈ l.filter fun x => hk x.1 == hk k := List.mem_filter.mpr ⟨hqm, by rw [hqk]; simp⟩
      cases hc : (l.filter fun x => hk x.1 == hk k) with
      | nil => rw [hc] at e1; cases e1
      | cons x r =>
        rw [hc] at e1 hqf
        simp only [List.map_cons, List.cons.injEq, List.map_eq_nil_iff] at e1
        obtain ⟨_, rfl⟩ := e1
        rw [List.mem_singleton.mp hqf]
        rfl
    refine find_yes (es := es3 l) (ep := ep) (t := tbk (l.map Prod.fst) led) (b := q.2) ha hb ho (by rw [es3_size]; exact hf.1) hf.2 (by rw [hashAt]; exact hp) ?_ hj hu ?_ ?_
    · simp only [es3, List.getElem?_toArray, List.getElem?_map, hq, Option.map_some, hqk]
    · intro P hP
      rw [hfil]
      exact unseen (s := { s with toks := s.toks + 2 }) ha hb hP
    · rw [decide_eq_true hm] at h; exact h
  · rw [if_neg hm] at hlook
    have hn := bothB hlook led
    simp only [decide_eq_true_eq] at hn
    refine find_not (es := es3 l) (ep := ep) (t := tbk (l.map Prod.fst) led) ha ho (by rw [es3_size]; exact hf.1) hf.2 (by rw [hashAt]; exact hn) hu ?_
    rw [decide_eq_false hm] at h; exact h
end
end Mine
end
section
open PySem PyProof.Rows
namespace Mine
section
variable {prog : Program} {w : World} {A : Around} {E : Value → Shared → Prop} {s : Shared} {S a b : Addr} {l : List (Int × Addr)} {ep : Nat} {led : Bool} {k : Int}
theorem set3_type (ho : s.heap.get? S = some (set3 l ep led)) : s.TypeIs (.ref S) "set" := ⟨_, ho, rfl⟩
theorem in3 {Q : Value → Shared → Prop} (h8 : l.map (·.1) ∈ all8) (hk3 : k = 0 ∨ k = 1 ∨ k = 2) (hl : ∀ p ∈ l, IsTupleKey (intKind prog w) s.heap [p.1] p.2) (ha : IsTupleKey (intKind prog w) s.heap [k] a) (ho : s.heap.get? S = some (set3 l ep led)) (hu : A.units + 8 < cLine)
    (h : Q (.bool (decide (k ∈ l.map (·.1)))) { s with toks := s.toks + 2 }) : wpAny (model prog w) A (compareOp .In (.ref a) (.ref S)) Q E s := by
  have hT := set3_type ho
  show wpAny _ _ (do return .bool (← contains (.ref S) (.ref a))) Q E s
  refine wpAny_bind ?_
  unfold contains
  try with_reducible refine wpAny_holding ?_
  refine wpAny_bind (wpAny_specialOf hT F.slot_set_contains.lookup ?_)
  show wpAny _ _ (if (some (Value.builtin "set.__contains__") == some Value.none) = true then _ else _) _ E s
  rw [if_neg (by rw [beq_builtin_none]; exact Bool.false_ne_true)]
  refine wpAny_bind (wpAny_callSpecialUnlessNone?_slot (name := Str.ofString "__contains__") hT F.slot_set_contains
    (wpAny_call_entry F.slot_set_contains hT entry_set_contains ?_ (F.args_set_contains_2 _ _)))
  unfold Builtin.«frozenset.__contains__» Builtin.Frozenset.oneOther
  simp only [List.isEmpty_nil, bind_assoc]
  unfold Builtin.Frozenset.addrOf Builtin.Frozenset.withSetAsKey
  refine wpAny_bind (wpAny_pure ?_)
  try dsimp only
  refine wpAny_bind (wpAny_pure ?_)
  try dsimp only
  refine wpAny_bind (wpAny_tryCatch ?_)
  refine has3 h8 hk3 hl ha ho ?_ ?_
  · show A.units + 1 < cLine
    omega
  · show wpAny _ _ (ret (Value.bool _)) _ _ _
    exact wpAny_pure ⟨_, rfl, wpAny_truthy_bool (wpAny_pure h)⟩
end
section
variable {prog : Program} {w : World} {A : Around} {R : Result → Shared → Prop} {I : Addr} {fp wr : List Addr} {G : Array GenState → Array GenState → Prop} {n : Nat} {P : Nat → Value → Prop} {St : Nat → Shared → Prop}
end
end Mine
end
section
open PySem PyProof.Rows
namespace Mine
section
variable {prog : Program} {w : World} {A : Around} {E : Value → Shared → Prop} {s : Shared}
end
end Mine
end
section
open PySem PyProof.Rows
namespace Mine
abbrev MK := Sum Str Int
def mixIs : MK → Value → Bool
  | .inl x, v => Value.isStrOf x v
  | .inr n, v => Value.isInt n v
def mixHash (w : World) : MK → Int
  | .inl x => hashStr w x
  | .inr n => hashInt n
section
variable {prog : Program} {w : World} {A : Around} {E : Value → Shared → Prop} {s : Shared}
theorem eqB_str_int {a : Str} {t : Tok} {b : Int} {u : Tok} {Q : Bool → Shared → Prop} (h : Q false s) : wpAny (model prog w) A (eqBool (.str a t) (.int b u)) Q E s := by
  unfold eqBool
  refine wpAny_holding ?_
  have e : (Value.str a t == Value.int b u) = false := by rfl
  rw [e, if_neg Bool.false_ne_true]
  exact wpAny_bind (EqMixed.eq_str_int (wpAny_truthy_bool h))
theorem eqB_int_str {a : Str} {t : Tok} {b : Int} {u : Tok} {Q : Bool → Shared → Prop} (h : Q false s) : wpAny (model prog w) A (eqBool (.int b u) (.str a t)) Q E s := by
  unfold eqBool
  refine wpAny_holding ?_
  have e : (Value.int b u == Value.str a t) = false := by rfl
  rw [e, if_neg Bool.false_ne_true]
  exact wpAny_bind (EqMixed.eq_int_str (wpAny_truthy_bool h))
end
def mixKind (prog : Program) (w : World) : KeyKind prog w MK where
  is := mixIs
  hash := mixHash w
  inj := fun v a b ha hb => by
    cases a <;> cases b <;> simp only [mixIs] at ha hb
    · rw [Value.isStrOf_inj v _ _ ha hb]
    · obtain ⟨t, rfl⟩ := Value.isStrOf_shape ha; simp [Value.isInt] at hb
    · obtain ⟨t, rfl⟩ := Value.isInt_shape ha; simp [Value.isStrOf] at hb
    · rw [Value.isInt_inj v _ _ ha hb]
  byValue := fun k v h => by
    cases k <;> simp only [mixIs] at h
    · obtain ⟨t, rfl⟩ := Value.isStrOf_shape h; rfl
    · obtain ⟨t, rfl⟩ := Value.isInt_shape h; rfl
  pyHash := fun {_ _ _ k _ _} hv h => by
    cases k <;> simp only [mixIs] at hv
    · obtain ⟨t, rfl⟩ := Value.isStrOf_shape hv; exact wpAny_pyHash_str h
    · obtain ⟨t, rfl⟩ := Value.isInt_shape hv; exact wpAny_pyHash_int h
  eqBool := fun {_ _ _ a b _ _ _} hu hv h => by
    cases a <;> cases b <;> simp only [mixIs] at hu hv
    · obtain ⟨t, rfl⟩ := Value.isStrOf_shape hu
      obtain ⟨u, rfl⟩ := Value.isStrOf_shape hv
      exact wpAny_eqBool_str (by simpa using h)
    · obtain ⟨t, rfl⟩ := Value.isStrOf_shape hu
      obtain ⟨u, rfl⟩ := Value.isInt_shape hv
      exact eqB_str_int (by simpa using h)
    · obtain ⟨t, rfl⟩ := Value.isInt_shape hu
      obtain ⟨u, rfl⟩ := Value.isStrOf_shape hv
      exact eqB_int_str (by simpa using h)
    · obtain ⟨t, rfl⟩ := Value.isInt_shape hu
      obtain ⟨u, rfl⟩ := Value.isInt_shape hv
      exact wpAny_eqBool_int (by simp only [Sum.inr.injEq] at h; exact h)
  «strs» := fun k x t v h => by
    cases k <;> simp only [mixIs] at h ⊢
    · obtain ⟨u, hu⟩ := Value.isStrOf_shape h
      injection hu with hx
      subst hx
      cases v <;> rfl
    · simp [Value.isInt] at h
abbrev PK : List MK := [.inl (Str.ofString "P"), .inr 1]
abbrev pkind (prog : Program) (w : World) : HeapKind prog w (List MK) := tupleKind (mixKind prog w)
section
variable {prog : Program} {w : World} {A : Around} {E : Value → Shared → Prop} {s : Shared} {a d o : Addr} {v : Value}
/-- the dict of one pair -/
def One (prog : Program) (w : World) (h : Heap) (d a : Addr) (v : Value) : Prop := h.DictOfH (pkind prog w) d [(PK, a, v)]
theorem one_merge {nm : String} {Q : Unit → Shared → Prop} (hdo : d ≠ o) (hoS : (o == sysModules) = false) (hd : s.heap.DictOfH (pkind prog w) d []) (ho : One prog w s.heap o a v)
    (hQ : ∀ h', One prog w h' d a v → Heap.SameBut d s.heap h' → Q () { s with heap := h' }) : wpAny (model prog w) A (Builtin.Dict.mergeDict nm d o) Q E s := by
  obtain ⟨od, esd, epd, hod, hcd, hdd, hed, hkd, hnd⟩ := id hd
  obtain ⟨oo, eso, epo, hoo, hco, hdo', heo, hko, hno⟩ := id ho
  have hka : (pkind prog w).is s.heap PK a := hko (PK, a, v) List.mem_cons_self
  have ees : eso = #[entryOfKey (pkind prog w) (PK, a, v)] := Array.toList_inj.mp heo
  have eds : esd = #[] := Array.toList_inj.mp hed
  subst ees; subst eds
  unfold Builtin.Dict.mergeDict
  rw [if_neg (by simpa using hdo)]
  unfold Builtin.Dict.showsAll
  rw [if_neg (by rw [hoS]; exact Bool.false_ne_true)]
  refine wpAny_bind (wpAny_pure ?_)
  refine wpAny_bind (wpAny_dictEntries hoo hdo' ?_)
  dsimp only
  obtain ⟨e, he⟩ : ∃ e, e = entryOfKey (pkind prog w) (PK, a, v) := ⟨_, rfl⟩
  have hkey : e.key = .ref a := by rw [he]; rfl
  rw [← he] at hdo' ⊢
  have hQ' : Q () { s with heap := s.heap.update d (Obj.mapDictKeys fun _ => #[e]) } := by
    refine hQ _ ⟨_, _, _, Heap.get?_update_self _ hod (Obj.isFreed_of_dict (Obj.data_mapDictKeys hdd _)), hcd.mapDictKeys _, Obj.data_mapDictKeys hdd _, by rw [he]; rfl, ?_, hno⟩ (Heap.SameBut.update ..)
    intro x hx
    exact (pkind prog w).keeps (hko x hx) hod hdd (Heap.SameBut.update ..)
  clear he heo hed hQ
  have hfew : (!(decide (#[e].size ≤ 8) && #[e].all fun e => (keyPart e.key).isSome)) = true := by simp [hkey, keyPart]
  rw [if_pos hfew]
  refine wpAny_bind (wpAny_dictEntries hod hdd ?_)
  rw [if_pos (by rfl)]
  refine wpAny_bind ?_
  unfold Builtin.Dict.entriesForEmpty
  refine wpAny_bind (wpAny_dictEntries hoo hdo' ?_)
  refine wpAny_bind ?_
  rw [← Array.forIn_toList]
  simp only [List.forIn_cons, List.forIn_nil]
  rw [hkey]
  refine wpAny_bind (wpAny_bind ?_)
  unfold Builtin.Dict.quietEq
  dsimp only
  refine wpAny_bind (wpAny_specialOf hka.typeIs F.slot_tuple_eq.lookup ?_)
  refine wpAny_pure ?_
  have hq : (some (Value.builtin "tuple.__eq__") == some (Value.builtin "object.__eq__")) = false := by decide
  rw [hq]
  simp only [Bool.not_false, if_true]
  have hsz : ¬ (Array.filter (fun x : DictEntry => x.hash == e.hash) #[e]).size > 1 := by
    have := Array.size_filter_le (p := fun x : DictEntry => x.hash == e.hash) (xs := #[e])
    exact Nat.not_lt.mpr this
  rw [if_neg hsz]
  refine wpAny_pure (wpAny_pure (wpAny_pure ?_))
  rw [if_pos (by rfl)]
  exact wpAny_bind (wpAny_updateDictKeys hod hdd (wpAny_pure hQ') (by simp) (by simp))
theorem one_meets (hd : (d == sysModules) = false) (a : Addr) (v : Value) :
    MeetsIn prog w (Builtin.«dict.__len__» ⟨[.ref d], []⟩) (fun _ R s => One prog w s.heap d a v ∧ R (.ok (.ret (.int 1 s.toks))) { s with toks := s.toks + 1 }) :=
  .of_wp fun A R s ⟨hm, h⟩ => by
    obtain ⟨o, es, ep, ho, hc, hdat, he, hk, hn⟩ := hm
    show wpAny _ _ (dictSize d >>= _) _ _ s
    unfold dictSize
    refine wpAny_bind (wpAny_bind (wpAny_dictEntries ho hdat (wpAny_pure ?_)))
    show wpAny _ _ (Builtin.Dict.pendingCount d >>= _) _ _ s
    refine wpAny_bind (wpAny_pendingCount_other hd ?_)
    refine wpAny_ret_mkInt ?_
    have : es.size = 1 := by rw [size_of_entries he]; rfl
    rw [Nat.add_zero, this]; exact h
theorem one_len {Q : Value → Shared → Prop} (hd : (d == sysModules) = false) (hm : One prog w s.heap d a v)
    (h : Q (.int 1 (s.toks + 1)) { s with toks := s.toks + 1 + 1 }) : wpAny (model prog w) A (Builtin.«len» ⟨[.ref d], []⟩) (fun fin s' => ∃ r, fin = .done (.ret r) ∧ Q r s') E s := by
  have hT := hm.typeIs
  unfold Builtin.«len»
  refine wpAny_bind (m := oneArg "len" _) (wpAny_pure ?_)
  refine wpAny_bind (m := callSpecial? (.ref d) (Str.ofString "__len__")) (wpAny_callSpecial?_slot (name := Str.ofString "__len__") hT F.slot_dict_len
    (call_meetsIn F.slot_dict_len hT F.entry_dict_len (F.args_dict_len_1 _) (one_meets hd a v) ⟨hm, ?_⟩))
  show wpAny _ _ _ _ _ { s with toks := s.toks + 1 }
  refine wpAny_bind (wpAny_holding (wpAny_pure ?_))
  refine wpAny_bind (wpAny_letGo ?_)
  show wpAny _ _ (if (1 : Int) < 0 then _ else _) _ _ _
  rw [if_neg (by decide)]
  show wpAny _ _ (if (1 : Int) ≥ 2 ^ 63 then _ else _) _ _ _
  rw [if_neg (by decide)]
  exact wpAny_bind (wpAny_mkInt (wpAny_pure ⟨_, rfl, h⟩))
theorem one_truthy {Q : Bool → Shared → Prop} (hd : (d == sysModules) = false) (hm : One prog w s.heap d a v)
    (h : Q true { s with toks := s.toks + 1 + 1 }) : wpAny (model prog w) A (truthy (.ref d)) Q E s := by
  have hT := hm.typeIs
  have key : wpAny (model prog w) A (runValue (.builtin "len" ⟨[.ref d], []⟩)) (fun r s' => r = .int 1 (s.toks + 1) ∧ Q true s') E s := by
    refine wpAny_runValue (codeAny_builtin entry_len ?_)
    rw [Around.under_plainId plain_len _]
    exact wpAny_mono (one_len (Q := fun r s' => r = .int 1 (s.toks + 1) ∧ Q true s') hd hm ⟨rfl, h⟩)
      (fun fin s' h' => by obtain ⟨r, rfl, hq⟩ := h'; exact hq) fun _ _ e => e
  unfold truthy
  first
    | refine wpAny_bind (wpAny_callSpecial?_none (name := Str.ofString "__bool__") hT noBool_dict ?_)
    | refine wpAny_bind (wpAny_pure (wpAny_bind (wpAny_callSpecial?_none (name := Str.ofString "__bool__") hT noBool_dict ?_)))
  first
    | refine wpAny_bind (wpAny_specialOf (name := Str.ofString "__len__") hT F.slot_dict_len.lookup ?_)
    | refine wpAny_bind (wpAny_pure (wpAny_bind (wpAny_specialOf (name := Str.ofString "__len__") hT F.slot_dict_len.lookup ?_)))
  first
    | exact wpAny_bind (wpAny_mono key (fun r s' h' => by obtain ⟨rfl, hq⟩ := h'; exact wpAny_pure hq) fun _ _ e => e)
    | exact wpAny_bind (wpAny_pure (wpAny_bind (wpAny_mono key (fun r s' h' => by obtain ⟨rfl, hq⟩ := h'; exact wpAny_pure hq) fun _ _ e => e)))
theorem one_copy {Q : Value → Shared → Prop} (hoS : (o == sysModules) = false) (ho : One prog w s.heap o a v)
    (h : ∀ h', One prog w h' s.heap.objs.size a v → Heap.SameBut s.heap.objs.size (s.heap.push { cls := .type "dict", data := .dict #[] }) h' → Q (.ref s.heap.objs.size) { s with heap := h' }) :
    wpAny (model prog w) A (call (.type "dict") [.ref o]) Q E s := by
  refine callType_codes (Q₁ := fun obj s₁ => obj = .ref s.heap.objs.size ∧ s₁ = { s with heap := s.heap.push { cls := .type "dict", data := .dict #[] } }) F.kt_called_dict (F.kt_typeCall_dict_1 _) F.entry_dict_init (kt_code_dict_new _ ⟨rfl, rfl⟩) ?_
  rintro obj s₁ ⟨rfl, rfl⟩
  have hnew : (s.heap.push { cls := .type "dict", data := .dict #[] }).DictOfH (pkind prog w) s.heap.objs.size [] := Heap.DictOfH.new s.heap
  have hlt : o < s.heap.objs.size := by obtain ⟨_, _, _, hg, _⟩ := ho; exact Heap.lt_size hg
  have ho' : One prog w (s.heap.push { cls := .type "dict", data := .dict #[] }) o a v := by
    obtain ⟨oo, es, ep, hg, hc, hd, he, hk, hn⟩ := ho
    refine ⟨oo, es, ep, Heap.get?_push_of_some _ hg, hc, hd, he, fun x hx => ?_, hn⟩
    obtain ⟨ox, items, n, hox, r⟩ := hk x hx
    exact ⟨ox, items, n, Heap.get?_push_of_some _ hox, r⟩
  have hdo : s.heap.objs.size ≠ o := Nat.ne_of_gt hlt
  have hTo : Shared.TypeIs { s with heap := s.heap.push { cls := .type "dict", data := .dict #[] } } (.ref o) "dict" := by
    obtain ⟨oo, _, _, hg, hc, _⟩ := ho'
    exact ⟨oo, hg, hc.1⟩
  refine ⟨hnew.typeIs, F.args_dict_init_2 _ _, ?_⟩
  unfold Builtin.«dict.__init__»
  refine wpAny_bind ?_
  unfold Builtin.Dict.selfAndRest
  refine wpAny_bind (wpAny_notOrdered_dict hnew.typeIs ?_)
  show wpAny _ _ (pure (s.heap.objs.size, [Value.ref o])) _ _ _
  refine wpAny_pure ?_
  show wpAny _ _ (Builtin.Dict.updateFrom "dict.__init__" s.heap.objs.size (.ref o) [] .none) _ _ _
  unfold Builtin.Dict.updateFrom
  refine wpAny_bind (wpAny_typeOf hTo ?_)
  rw [if_neg (by decide)]
  refine wpAny_bind ?_
  unfold Builtin.Dict.merge
  refine wpAny_bind ?_
  unfold Builtin.Dict.readDirectly
  refine wpAny_bind (wpAny_isInstance hTo isSubtype_dict_dict ?_)
  simp only [Bool.not_true, Bool.false_eq_true, if_false]
  refine wpAny_bind (wpAny_specialOf hTo F.slot_dict_iter.lookup (wpAny_pure ?_))
  simp only [beq_self_eq_true, if_true]
  refine wpAny_bind (wpAny_pure ?_)
  refine one_merge (s := { s with heap := s.heap.push { cls := .type "dict", data := .dict #[] } }) hdo hoS hnew ho' fun h' hd' hs' => ?_
  show wpAny _ _ (Builtin.Dict.addKeywords s.heap.objs.size [] >>= _) _ _ _
  exact wpAny_bind (wpAny_pure (wpAny_pure ⟨rfl, h h' hd' hs'⟩))
end
end Mine
end
section
open PySem PySem.W PyProof.Rows PyProof.V PySem.Spec
namespace Mine
def OneObj (prog : Program) (w : World) (o : Obj) (a : Addr) (v : Value) : Prop := ∃ es ep, o.ExactDict ∧ o.data = .dict es ep ∧ es.toList = [entryOfKey (pkind prog w) (PK, a, v)]
def OneMade (prog : Program) (w : World) (d : Addr) (Q : Value → Shared → Prop) (vs : List (Value × Value)) (s₁ : Shared) : Prop :=
  ∃ a v, vs = [(.ref a, v)] ∧ (pkind prog w).is s₁.heap PK a ∧ s₁.heap.DictOfH (pkind prog w) d [] ∧
      ∀ h', One prog w h' d a v → Heap.SameBut d s₁.heap h' → Q (.ref d) { s₁ with heap := h', toks := s₁.toks + 3 }
section
variable {prog : Program} {w : World} {A : Around} {E : Value → Shared → Prop} {s : Shared} {env : Env} {h₀ h : Heap} {L d a S : Addr} {m : Str → Option Value} {news : List (Addr × Obj)} {g : Obj → List (Addr × Obj)} {o : Obj} {v : Value} {t u : Tok} {n : Nat} {k : Int}
theorem pkey (N : News h₀ L h news) (hk : (a, tupO [.str (Str.ofString "P") t, .int 1 u] n) ∈ news) : (pkind prog w).is h PK a :=
  ⟨_, _, n, N.get hk, rfl, rfl, .cons (by simp [mixKind, mixIs, Value.isStrOf]) (.cons (by simp [mixKind, mixIs, Value.isInt]) .nil)⟩
theorem ikey (N : News h₀ L h news) (hk : (a, tupO [.int k t] n) ∈ news) : IsTupleKey (intKind prog w) h [k] a :=
  ⟨_, _, n, N.get hk, rfl, rfl, .cons (by simp [intKind, Value.isInt]) .nil⟩
theorem one_of (N : News h₀ L h news) (hd : (d, o) ∈ news) (ho : OneObj prog w o a v) (hk : (a, tupO [.str (Str.ofString "P") t, .int 1 u] n) ∈ news) : One prog w h d a v :=
  let ⟨es, ep, hc, hdat, he⟩ := ho
  ⟨o, es, ep, N.get hd, hc, hdat, he, fun x hx => by rw [List.mem_singleton.mp hx]; exact pkey N hk, by simp⟩
theorem one_obj (x : One prog w h d a v) : ∃ o, h.get? d = some o ∧ OneObj prog w o a v :=
  let ⟨o, es, ep, hg, hc, hd, he, _, _⟩ := x
  ⟨o, hg, es, ep, hc, hd, he⟩
theorem one_made {Q : Value → Shared → Prop} (F : Fr h₀ L s.heap m) (N : News h₀ L s.heap news) (U : UpdF d { cls := .type "dict", data := .dict #[] } news g) (hk : (a, tupO [.str (Str.ofString "P") t, .int 1 u] n) ∈ news)
    (h : ∀ h' o', Fr h₀ L h' m → News h₀ L h' (g o') → OneObj prog w o' a v → Q (.ref d) { s with heap := h', toks := s.toks + 3 }) : OneMade prog w d Q [(.ref a, v)] s := by
  obtain ⟨pre, post, rfl, hg, x, y⟩ := U.split
  have hm := N (d, { cls := .type "dict", data := .dict #[] }) (List.mem_append_right _ (.head _))
  refine ⟨a, v, rfl, pkey N hk, ⟨_, #[], _, hm.1, ⟨rfl, rfl, rfl⟩, rfl, rfl, fun _ hx => (nomatch hx), List.nodup_nil⟩, fun h' hm' hs => ?_⟩
  obtain ⟨o', ho', hd'⟩ := one_obj hm'
  exact h h' o' (F.change hs hm.2.1 hm.2.2) (hg o' ▸ N.setIn x y hs ho') hd'
theorem one_copyK {src : Addr} {Q : Value → Shared → Prop} (F : Fr h₀ L s.heap m) (N : News h₀ L s.heap news) (hbig : h₀.NoLimit) (hS : (src == sysModules) = false) (hd : (src, o) ∈ news) (ho : OneObj prog w o a v) (hk : (a, tupO [.str (Str.ofString "P") t, .int 1 u] n) ∈ news)
    (h : ∀ d h' o', Fr h₀ L h' m → News h₀ L h' ((d, o') :: news) → (∀ p ∈ news, p.1 < d) → (d == sysModules) = false → OneObj prog w o' a v → Q (.ref d) { s with heap := h' }) : wpAny (model prog w) A (call (.type "dict") [.ref src]) Q E s := by
  refine one_copy hS (one_of N hd ho hk) fun h' hm hs => ?_
  obtain ⟨o', ho', hd'⟩ := one_obj hm
  have N1 := News.push F N { cls := .type "dict", data := .dict #[] }
  exact h _ h' o' ((F.push _).change hs (N1 _ (.head _)).2.1 (N1.fresh (.head _))) (N1.setHead N.apart hs ho') (fun p hp => Heap.lt_size (N p hp).1) (F.notModules (modules_low hbig)) hd'
theorem one_truthK {Q : Bool → Shared → Prop} (N : News h₀ L s.heap news) (hS : (d == sysModules) = false) (hd : (d, o) ∈ news) (ho : OneObj prog w o a v) (hk : (a, tupO [.str (Str.ofString "P") t, .int 1 u] n) ∈ news)
    (h : Q true { s with toks := s.toks + 1 + 1 }) : wpAny (model prog w) A (truthy (.ref d)) Q E s := one_truthy hS (one_of N hd ho hk) h
theorem one_notin {b : Addr} {t' u' : Tok} {n' : Nat} {Q : Value → Shared → Prop} (N : News h₀ L s.heap news) (hS : (d == sysModules) = false) (hd : (d, o) ∈ news) (ho : OneObj prog w o a v) (hk : (a, tupO [.str (Str.ofString "P") t, .int 1 u] n) ∈ news) (hb : (b, tupO [.str (Str.ofString "P") t', .int 1 u'] n') ∈ news)
    (hu : A.units + 1 < cLine) (h : Q (.bool false) { s with toks := s.toks + 3 }) : wpAny (model prog w) A (compareOp .NotIn (.ref b) (.ref d)) Q E s :=
  wpAny_notIn_heap (knd := pkind prog w) (k := PK) hu (pkey N hb) hS (one_of N hd ho hk) h
theorem one_item {b : Addr} {t' u' : Tok} {n' : Nat} {value slice : PySem.Expr} {Q : Value → Shared → Prop} (N : News h₀ L s.heap news) (hd : (d, o) ∈ news) (ho : OneObj prog w o a v) (hk : (a, tupO [.str (Str.ofString "P") t, .int 1 u] n) ∈ news) (hb : (b, tupO [.str (Str.ofString "P") t', .int 1 u'] n') ∈ news)
    (hu : A.units + 1 < cLine) (h : Q v { s with toks := s.toks + 3 })
    (hs : subscripted slice false (.ref d) (.ref b) = operate [.ref d, .ref b] (getItem (.ref d) (.ref b)) := by with_unfolding_all rfl) (hg : ∀ r, letTemporaryGo value (.ref d) r = pure () := by intro _; with_unfolding_all rfl) :
    wpAny (model prog w) A (subscriptTail value slice (.ref d) (.ref b)) Q E s :=
  subscriptTail_builtin (one_of N hd ho hk).typeIs slot_dict_getitem.lookup (wpAny_getItem_heap (knd := pkind prog w) (k := PK) (p := (a, v)) hu (pkey N hb) (one_of N hd ho hk) rfl h) hs hg
/-- what is known of the set -/
def RowsIn (news : List (Addr × Obj)) (l : List (Int × Addr)) : Prop := l.map (·.1) ∈ all8 ∧ ∀ p ∈ l, ∃ (t : Tok) (n : Nat), (p.2, tupO [.int p.1 t] n) ∈ news
theorem in3K {l : List (Int × Addr)} {ep : Nat} {led : Bool} {Q : Value → Shared → Prop} (N : News h₀ L s.heap news) (hS : (S, set3 l ep led) ∈ news) (hl : RowsIn news l) (hk3 : 0 ≤ k ∧ k < 3) (ha : (a, tupO [.int k t] n) ∈ news) (hu : A.units + 8 < cLine)
    (h : Q (.bool (decide (k ∈ l.map (·.1)))) { s with toks := s.toks + 2 }) : wpAny (model prog w) A (compareOp .In (.ref a) (.ref S)) Q E s :=
  in3 hl.1 (by omega) (fun p hp => let ⟨_, _, hm⟩ := hl.2 p hp; ikey N hm) (ikey N ha) (N.get hS) hu h
end
end Mine
end
section
open PySem PySem.W PyProof.Rows PyProof.V PySem.Spec
namespace Mine
/-- a dict of names and things -/
def GivenC (prog : Program) (w : World) (o : Obj) (c : List (Str × Int)) : Prop := ∃ kvs, Obj.IsDictOf (PySem.strKind prog w) o kvs ∧ FlatPairs PyData.str kvs (kdpD c)
def GivenIs (prog : Program) (w : World) (news : List (Addr × Obj)) (g : Addr) (c : List (Str × Int)) : Prop := ∃ o, (g == sysModules) = false ∧ (g, o) ∈ news ∧ GivenC prog w o c
theorem GivenIs.mono {prog : Program} {w : World} {l l' : List (Addr × Obj)} {g : Addr} {c : List (Str × Int)} (x : GivenIs prog w l g c) (h : ∀ q ∈ l, q ∈ l') : GivenIs prog w l' g c :=
  let ⟨o, h0, h1, h2⟩ := x; ⟨o, h0, h _ h1, h2⟩
abbrev xIs (k : Int) : List (Str × Int) := [(Str.ofString "x", k)]
section
variable {prog : Program} {w : World} {A : Around} {E : Value → Shared → Prop} {s : Shared} {h₀ : Heap} {L d : Addr} {m : Str → Option Value} {news : List (Addr × Obj)} {o : Obj} {k : Int} {tk te : Tok}
theorem GivenC.tab {c : List (Str × Int)} (N : News h₀ L s.heap news) (hm : (d, o) ∈ news) (hs : (d == sysModules) = false) (hg : GivenC prog w o c) : StrTab prog w s.heap d (kdpD c) := by
  obtain ⟨kvs, h1, h2⟩ := hg
  exact TabAt.ofNews N hm hs h1 h2
theorem gv_notin {Q : Value → Shared → Prop} (N : News h₀ L s.heap news) (hg : GivenIs prog w news d (xIs k)) (h : Q (.bool false) { s with toks := s.toks + 1 }) : wpAny (model prog w) A (compareOp .NotIn (.str (Str.ofString "x") tk) (.ref d)) Q E s := by
  obtain ⟨o, h0, h1, h2⟩ := hg
  exact kdp_notin (h2.tab N h1 h0) h
theorem gv_item {value slice : PySem.Expr} {Q : Value → Shared → Prop} (N : News h₀ L s.heap news) (hg : GivenIs prog w news d (xIs k)) (h : ∀ t, Q (.int k t) { s with toks := s.toks + 1 })
    (hs : subscripted slice false (.ref d) (.str (Str.ofString "x") tk) = operate [.ref d, .str (Str.ofString "x") tk] (getItem (.ref d) (.str (Str.ofString "x") tk))) (hgo : ∀ r, letTemporaryGo value (.ref d) r = pure ()) :
    wpAny (model prog w) A (subscriptTail value slice (.ref d) (.str (Str.ofString "x") tk)) Q E s := by
  obtain ⟨o, h0, h1, h2⟩ := hg
  exact kdp_item (h2.tab N h1 h0) rfl h hs hgo
theorem gv_set {c : List (Str × Int)} {u : Obj → List (Addr × Obj)} {Q : Unit → Shared → Prop} (F : Fr h₀ L s.heap m) (N : News h₀ L s.heap news) (U : UpdF d o news u) (hg : GivenC prog w o c) (hc : c = [] ∨ ∃ k0, c = xIs k0)
    (h : ∀ h' o', Fr h₀ L h' m → News h₀ L h' (u o') → GivenC prog w o' (xIs k) → Q () { s with heap := h', toks := s.toks + 1 }) :
    wpAny (model prog w) A (setItem (.ref d) (.str (Str.ofString "x") tk) (.int k te)) Q E s := by
  obtain ⟨kvs, h1, h2⟩ := hg
  have hl : c.length ≤ 1 := by rcases hc with rfl | ⟨k0, rfl⟩ <;> simp
  refine kdp_setItem F N U h1 h2 (by omega) fun h' o' kvs' F' N' a b => h h' o' F' N' ⟨kvs', a, ?_⟩
  rcases hc with rfl | ⟨k0, rfl⟩
  · exact b
  · exact b
end
/-- behind a turn of a loop over a range -/
def RngEnd (h₀ : Heap) (L : Addr) (J : (Str → Option Value) → List (Addr × Obj) → Prop) (own : List (Addr × Obj)) (s₁ : Shared) (Q : Flow → Shared → Prop) (f : Flow) (s₂ : Shared) : Prop := match f with
  | .next => ∃ h' tk m' news' nx, s₂ = { s₁ with heap := h', toks := tk } ∧ Fr h₀ L h' m' ∧ News h₀ L h' news' ∧ (∀ p ∈ nx, p ∈ news') ∧ (∀ p ∈ own, p ∈ news') ∧ (∀ p ∈ own, ∀ q ∈ nx, p.1 ≠ q.1) ∧ J m' nx
  | .ret v => Q (.ret v) s₂
  | _ => False
section
variable {prog : Program} {w : World} {A : Around} {E : Value → Shared → Prop} {s : Shared} {env : Env} {h₀ : Heap} {x : Str} {body : List Stmt} {Q : Flow → Shared → Prop}
theorem rng_iter {r : Addr} {n : Nat} {t₀ u₀ v₀ : Tok} {m₀ : Str → Option Value} {news : List (Addr × Obj)} (J : Nat → (Str → Option Value) → List (Addr × Obj) → Prop)
    (hh : A.handled = none) (hr : IsRange s.heap r 0 (n : Int) 1 t₀ u₀ v₀) (hn : n ≤ 100) (F : Fr h₀ env.locals s.heap m₀) (N : News h₀ env.locals s.heap news) (hj : J 0 m₀ news)
    (turn : ∀ i m₁ news₁ h tk own t, i < n → (∀ p ∈ own, ∀ q ∈ news₁, p.1 ≠ q.1) → J i m₁ news₁ → Fr h₀ env.locals h (upm x (some (.int (i : Int) t)) m₁) → News h₀ env.locals h (news₁ ++ own) →
      wpAny (model prog w) A (execs body env) (RngEnd h₀ env.locals (J (i + 1)) own { s with heap := h, toks := tk } Q) E { s with heap := h, toks := tk })
    (done : ∀ m₁ news₁ h tk, J n m₁ news₁ → Fr h₀ env.locals h m₁ → News h₀ env.locals h news₁ → Q .next { s with heap := h, toks := tk }) :
    wpAny (model prog w) A (pyIter (.ref r)) (fun it s₂ => LoopAtV prog w A h₀ env x body Q E it s₂) E s := by
  refine wpAny_pyIter_range hr (small_one (by decide) (by decide) (by omega) (by omega)) ?_
  have hnr : Builtin.Range.rangeSize 0 (n : Int) 1 = (n : Int) := by rw [rangeSize_one]; split <;> omega
  refine ⟨s.heap.objs.size, [s.heap.objs.size], [s.heap.objs.size], n, _, _, m₀, news, J, rfl, Walks.range hh _ 0 1 n, ?_, ?_, ?_, (by show IsRangeIter _ _ _ _ _; rw [hnr]; simpa using Heap.get?_push_size _ rfl), F.push _, (fun p hp => ⟨Heap.get?_push_of_some _ (N p hp).1, (N p hp).2⟩), hj, ?_, ?_⟩
  · intro hm
    exact absurd F.ns.lt ((List.mem_singleton.mp hm) ▸ Nat.lt_irrefl _)
  · intro b hb
    rw [List.mem_singleton.mp hb]
    exact next_is_new F
  · intro p hp hI
    exact absurd (Heap.lt_size (N p hp).1) ((List.mem_singleton.mp hI) ▸ Nat.lt_irrefl _)
  · rintro i v m₁ news₁ s₁ own ⟨hh', tk', rfl⟩ hin ⟨t, rfl⟩ hJ hoff hown hget hfp hst F₁ N₁
    have hI0 : h₀.get? s.heap.objs.size = none := next_is_new F
    obtain ⟨oI, hoI⟩ : ∃ oI, hh'.get? s.heap.objs.size = some oI := ⟨_, hst⟩
    have hIown := hfp _ (List.mem_singleton.mpr rfl) hI0 _ hoI
    have ev : (0 : Int) + (i : Int) * 1 = (i : Int) := by omega
    try rw [ev] at F₁
    refine wpAny_mono (turn i m₁ news₁ hh' tk' [(s.heap.objs.size, oI)] t hin ?_ hJ ?_ ?_) (fun f s₂ p => ?_) fun _ _ e => e
    · intro p hp q hq e
      rw [List.mem_singleton.mp hp] at e
      exact hoff q hq (List.mem_singleton.mpr e.symm)
    · exact F₁
    · intro p hp
      refine N₁ p ((List.mem_append.mp hp).elim (fun h => List.mem_append.mpr (.inr h)) fun h => List.mem_append.mpr (.inl ?_))
      rw [List.mem_singleton.mp h]; exact hIown
    · cases f with
      | ret v => exact .ret p
      | brk => exact p.elim
      | cont => exact p.elim
      | next =>
        obtain ⟨h', tk, m', news', nx, e, F', N', hn, ho, ha, hm⟩ := p
        refine .next ⟨rfl, h', tk, m', nx, e, F', fun p hp => ?_, fun p hp hq => ?_, hm⟩
        · rcases List.mem_append.mp hp with h | h
          · have h1 : p.1 = s.heap.objs.size := List.mem_singleton.mp (hown p h)
            have h2 : hh'.get? p.1 = some p.2 := hget p h
            rw [h1, hoI] at h2
            have h3 : p = (s.heap.objs.size, oI) := Prod.ext h1 (Option.some.inj h2).symm
            rw [h3]
            exact N' _ (ho _ List.mem_cons_self)
          · exact N' p (hn p h)
        · exact ha _ List.mem_cons_self p hp (List.mem_singleton.mp hq).symm
  · rintro h' tk m' news' F' N' _ hJ
    exact done m' news' h' tk hJ F' N'
end
end Mine
end
section
open PySem PySem.W PyProof.Rows PyProof.V PySem.Spec
namespace Mine
abbrev emptyD : Obj := { cls := .type "dict", data := .dict #[] }
section
variable {prog : Program} {w : World} {A : Around} {E : Value → Shared → Prop} {s : Shared} {h₀ : Heap} {L d o : Addr} {m : Str → Option Value} {news : List (Addr × Obj)}
theorem emp_merge {nm : String} {Q : Unit → Shared → Prop} {oo : Obj} {ep : Nat} (hdo : d ≠ o) (hoS : (o == sysModules) = false) (ho : s.heap.get? o = some oo) (hod : oo.data = .dict #[] ep) (hQ : Q () s) : wpAny (model prog w) A (Builtin.Dict.mergeDict nm d o) Q E s := by
  unfold Builtin.Dict.mergeDict
  rw [if_neg (by simpa using hdo)]
  unfold Builtin.Dict.showsAll
  rw [if_neg (by rw [hoS]; exact Bool.false_ne_true)]
  refine wpAny_bind (wpAny_pure ?_)
  refine wpAny_bind (wpAny_dictEntries ho hod ?_)
  dsimp only
  rw [if_neg (by simp)]
  refine wpAny_bind (wpAny_dictEpoch ho hod ?_)
  refine wpAny_bind (wpAny_dictEntries ho hod ?_)
  simp only [List.size_toArray, List.length_nil]
  refine wpAny_bind (wpAny_of_eq (a := PUnit.unit) (by first | (rw [Std.Legacy.Range.forIn_eq_forIn_range']; rfl) | (simp [Std.Legacy.Range.forIn_eq_forIn_range']; done)) ?_)
  exact wpAny_pure hQ
theorem emp_copy {Q : Value → Shared → Prop} {oo : Obj} {ep : Nat} (hoS : (o == sysModules) = false) (ho : s.heap.get? o = some oo) (hod : oo.data = .dict #[] ep) (hcls : oo.cls = .type "dict")
    (h : Q (.ref s.heap.objs.size) { s with heap := s.heap.push emptyD }) :
    wpAny (model prog w) A (call (.type "dict") [.ref o]) Q E s := by
  refine callType_codes (Q₁ := fun obj s₁ => obj = .ref s.heap.objs.size ∧ s₁ = { s with heap := s.heap.push emptyD }) F.kt_called_dict (F.kt_typeCall_dict_1 _) F.entry_dict_init (kt_code_dict_new _ ⟨rfl, rfl⟩) ?_
  rintro obj s₁ ⟨rfl, rfl⟩
  have hlt : o < s.heap.objs.size := Heap.lt_size ho
  have ho' : (s.heap.push emptyD).get? o = some oo := Heap.get?_push_of_some _ ho
  have hdo : s.heap.objs.size ≠ o := Nat.ne_of_gt hlt
  have hTo : Shared.TypeIs { s with heap := s.heap.push emptyD } (.ref o) "dict" := ⟨_, ho', hcls⟩
  have hnT : Shared.TypeIs { s with heap := s.heap.push emptyD } (.ref s.heap.objs.size) "dict" := ⟨_, Heap.get?_push_size _ rfl, rfl⟩
  refine ⟨hnT, F.args_dict_init_2 _ _, ?_⟩
  unfold Builtin.«dict.__init__»
  refine wpAny_bind ?_
  unfold Builtin.Dict.selfAndRest
  refine wpAny_bind (wpAny_notOrdered_dict hnT ?_)
  show wpAny _ _ (pure (s.heap.objs.size, [Value.ref o])) _ _ _
  refine wpAny_pure ?_
  show wpAny _ _ (Builtin.Dict.updateFrom "dict.__init__" s.heap.objs.size (.ref o) [] .none) _ _ _
  unfold Builtin.Dict.updateFrom
  refine wpAny_bind (wpAny_typeOf hTo ?_)
  rw [if_neg (by decide)]
  refine wpAny_bind ?_
  unfold Builtin.Dict.merge
  refine wpAny_bind ?_
  unfold Builtin.Dict.readDirectly
  refine wpAny_bind (wpAny_isInstance hTo isSubtype_dict_dict ?_)
  simp only [Bool.not_true, Bool.false_eq_true, if_false]
  refine wpAny_bind (wpAny_specialOf hTo F.slot_dict_iter.lookup (wpAny_pure ?_))
  simp only [beq_self_eq_true, if_true]
  refine wpAny_bind (wpAny_pure ?_)
  refine emp_merge (s := { s with heap := s.heap.push emptyD }) hdo hoS ho' hod ?_
  show wpAny _ _ (Builtin.Dict.addKeywords s.heap.objs.size [] >>= _) _ _ _
  exact wpAny_bind (wpAny_pure (wpAny_pure ⟨rfl, h⟩))
theorem emp_copyK {src : Addr} {Q : Value → Shared → Prop} (F : Fr h₀ L s.heap m) (N : News h₀ L s.heap news) (hbig : h₀.NoLimit) (hg : GivenIs prog w news src [])
    (h : ∀ d h', Fr h₀ L h' m → News h₀ L h' ((d, emptyD) :: news) → (∀ p ∈ news, p.1 < d) → (d == sysModules) = false → Q (.ref d) { s with heap := h' }) : wpAny (model prog w) A (call (.type "dict") [.ref src]) Q E s := by
  obtain ⟨oo, hS, hd, kvs, ⟨es, ep, hx, hdat, _, hp, _⟩, hf⟩ := hg
  have hk : kvs = [] := by cases hf; rfl
  subst hk
  have he : es = #[] := by
    have : es.toList = [] := by cases h9 : es.toList with
      | nil => rfl
      | cons a r => rw [h9] at hp; cases hp
    exact Array.toList_inj.mp this
  subst he
  refine emp_copy hS (N _ hd).1 hdat hx.1 ?_
  exact h _ _ (F.push _) (News.push F N _) (fun p hp => Heap.lt_size (N p hp).1) (F.notModules (modules_low hbig))
theorem gv_empty : GivenC prog w emptyD [] := ⟨[], ⟨#[], 0, ⟨rfl, rfl, rfl⟩, rfl, by intro x hx; simp at hx, .nil, List.nodup_nil⟩, .nil⟩
theorem nin_list {l : Addr} {n : Nat} {x : Value} {Q : Value → Shared → Prop} (N : News h₀ L s.heap news) (hm : (l, listOf #[] n) ∈ news) (h : Q (.bool true) s) : wpAny (model prog w) A (compareOp .NotIn x (.ref l)) Q E s :=
  PySem.SeqAt.notIn_listAt (fun _ => false) ⟨_, (N _ hm).1, rfl, _, rfl⟩ (fun y hy => by simp at hy) (by simpa using h)
theorem nin_tup {l : Addr} {n : Nat} {x : Value} {Q : Value → Shared → Prop} (N : News h₀ L s.heap news) (hm : (l, tupO [] n) ∈ news) (h : Q (.bool true) s) : wpAny (model prog w) A (compareOp .NotIn x (.ref l)) Q E s :=
  PySem.SeqAt.notIn_tupleAt (fun _ => false) ⟨_, (N _ hm).1, rfl, _, rfl⟩ (fun y hy => by simp at hy) (by simpa using h)
theorem in_top_strs {K : Frag} {a : Addr} {oo : Obj} {vs : List Value} {ys : List Str} {n : Nat} {x : Str} {u : Tok} {b : Bool} {Q : Value → Shared → Prop} (F : Fr h₀ L s.heap m) (X : K.In h₀) (e : K.lookup a = some oo) (ho : oo = tupO vs n) (hi : StrsAre vs ys) (hb : ys.any (· == x) = b) (h : Q (.bool b) s) :
    wpAny (model prog w) A (compareOp .In (.str x u) (.ref a)) Q E s := by
  subst ho
  exact in_tuple_strs (items := vs.toArray) ⟨_, F.keep _ _ (X _ _ e), rfl, _, rfl⟩ (by simpa using hi) (by rw [hb]; exact h)
end
/-- behind the one turn of a loop over one item -/
def T1End (h₀ : Heap) (L l : Addr) (v : Value) (nn : Nat) (own : List (Addr × Obj)) (s₁ : Shared) (Q : Flow → Shared → Prop) (f : Flow) (s₂ : Shared) : Prop :=
  f = .next ∧ ∃ h' tk m' news' nx, s₂ = { s₁ with heap := h', toks := tk } ∧ Fr h₀ L h' m' ∧ News h₀ L h' news' ∧ (∀ p ∈ nx, p ∈ news') ∧ (∀ p ∈ own, p ∈ news') ∧ (∀ p ∈ own, ∀ q ∈ nx, p.1 ≠ q.1) ∧ (l, listOf [v].toArray nn) ∈ nx ∧ ∀ h'' tk'', Fr h₀ L h'' m' → News h₀ L h'' nx → Q .next { s₁ with heap := h'', toks := tk'' }
section
variable {prog : Program} {w : World} {A : Around} {E : Value → Shared → Prop} {s : Shared} {env : Env} {h₀ : Heap} {x : Str} {body : List Stmt} {Q : Flow → Shared → Prop}
theorem lst_iter {l : Addr} {vs : List Value} {nn : Nat} {m₀ : Str → Option Value} {news : List (Addr × Obj)} (J : Nat → (Str → Option Value) → List (Addr × Obj) → Prop)
    (hh : A.handled = none) (hl : (l, listOf vs.toArray nn) ∈ news) (F : Fr h₀ env.locals s.heap m₀) (N : News h₀ env.locals s.heap news) (hj : J 0 m₀ news) (hlJ : ∀ i m nx, J i m nx → (l, listOf vs.toArray nn) ∈ nx)
    (turn : ∀ i v m₁ news₁ h tk own, vs[i]? = some v → (∀ p ∈ own, ∀ q ∈ news₁, p.1 ≠ q.1) → J i m₁ news₁ → Fr h₀ env.locals h (upm x (some v) m₁) → News h₀ env.locals h (news₁ ++ own) →
      wpAny (model prog w) A (execs body env) (TupEnd h₀ env.locals (J (i + 1)) own { s with heap := h, toks := tk }) E { s with heap := h, toks := tk })
    (done : ∀ m₁ news₁ h tk, J vs.length m₁ news₁ → Fr h₀ env.locals h m₁ → News h₀ env.locals h news₁ → Q .next { s with heap := h, toks := tk }) :
    wpAny (model prog w) A (pyIter (.ref l)) (fun it s₂ => LoopAtV prog w A h₀ env x body Q E it s₂) E s := by
  have hol : s.heap.get? l = some (listOf vs.toArray nn) := (N _ hl).1
  have hls : s.heap.IsList l vs.toArray := ⟨_, hol, rfl, nn, rfl⟩
  have hne : l ≠ s.heap.objs.size := Nat.ne_of_lt (Heap.lt_size hol)
  refine wpAny_pyIter_list hls ?_
  have W := Walks.list (prog := prog) (w := w) hh s.heap.objs.size l hne vs.toArray
  have hlen : vs.toArray.size = vs.length := by simp
  rw [hlen] at W
  refine ⟨_, _, _, vs.length, _, _, m₀, news, J, rfl, W, ?_, ?_, ?_, ⟨⟨_, Heap.get?_push_size _ rfl, rfl, rfl⟩, hls.at fun o e => Heap.get?_push_of_some _ e⟩, F.push _, (fun p hp => ⟨Heap.get?_push_of_some _ (N p hp).1, (N p hp).2⟩), hj, ?_, ?_⟩
  · intro hm
    rcases List.mem_cons.mp hm with e | hm
    · exact absurd F.ns.lt (e ▸ Nat.lt_irrefl _)
    · exact (N _ hl).2.1 ((List.mem_singleton.mp hm).symm)
  · intro b hb
    rw [List.mem_singleton.mp hb]
    exact next_is_new F
  · intro p hp hI
    exact absurd (Heap.lt_size (N p hp).1) ((List.mem_singleton.mp hI) ▸ Nat.lt_irrefl _)
  · rintro i v m₁ news₁ s₁ own ⟨hh', tk', rfl⟩ hin hP hJ hoff hown hget hfp hst F₁ N₁
    have hP' : vs[i]? = some v := by simpa using hP
    have hI0 : h₀.get? s.heap.objs.size = none := next_is_new F
    obtain ⟨⟨oI, hoI, _⟩, _⟩ := id hst
    have hIown : (s.heap.objs.size, oI) ∈ own := hfp _ (List.mem_cons.mpr (.inl rfl)) hI0 _ hoI
    have hl₁ := hlJ _ _ _ hJ
    have hlo : hh'.get? l = some (listOf vs.toArray nn) := (N₁ _ (List.mem_append.mpr (.inr hl₁))).1
    refine wpAny_mono (turn i v m₁ news₁ hh' tk' [(s.heap.objs.size, oI)] hP' ?_ hJ F₁ ?_) (fun f s₂ p => ?_) fun _ _ e => e
    · intro p hp q hq e
      rw [List.mem_singleton.mp hp] at e
      exact hoff q hq (List.mem_singleton.mpr e.symm)
    · intro p hp
      refine N₁ p ((List.mem_append.mp hp).elim (fun h => List.mem_append.mpr (.inr h)) fun h => List.mem_append.mpr (.inl ?_))
      rw [List.mem_singleton.mp h]; exact hIown
    · obtain ⟨rfl, h', tk, m', news', nx, e, F', N', hn, ho, ha, hm⟩ := p
      refine .next ⟨rfl, h', tk, m', nx, e, F', fun p hp => ?_, fun p hp hq => ?_, hm⟩
      · rcases List.mem_append.mp hp with h | h
        · by_cases hI : p.1 = s.heap.objs.size
          · have h2 : hh'.get? p.1 = some p.2 := hget p h
            rw [hI, hoI] at h2
            have h3 : p = (s.heap.objs.size, oI) := Prod.ext hI (Option.some.inj h2).symm
            rw [h3]
            exact N' _ (ho _ List.mem_cons_self)
          · have h1 : p.1 = l := by
              rcases List.mem_cons.mp (hown p h) with h2 | h2
              · exact absurd h2 hI
              · exact List.mem_singleton.mp h2
            have h2 : hh'.get? p.1 = some p.2 := hget p h
            rw [h1, hlo] at h2
            have h3 : p = (l, listOf vs.toArray nn) := Prod.ext h1 (Option.some.inj h2).symm
            rw [h3]
            exact N' _ (hn _ (hlJ _ _ _ hm))
        · exact N' p (hn p h)
      · exact ha _ List.mem_cons_self p hp (List.mem_singleton.mp hq).symm
  · rintro h' tk m' news' F' N' _ hJ
    exact done m' news' h' tk hJ F' N'
theorem for1 {l : Addr} {v : Value} {nn : Nat} {m₀ : Str → Option Value} {news : List (Addr × Obj)}
    (hh : A.handled = none) (hl : (l, listOf [v].toArray nn) ∈ news) (F : Fr h₀ env.locals s.heap m₀) (N : News h₀ env.locals s.heap news)
    (turn : ∀ h tk own, (∀ p ∈ own, ∀ q ∈ news, p.1 ≠ q.1) → Fr h₀ env.locals h (upm x (some v) m₀) → News h₀ env.locals h (news ++ own) →
      wpAny (model prog w) A (execs body env) (T1End h₀ env.locals l v nn own { s with heap := h, toks := tk } Q) E { s with heap := h, toks := tk }) :
    wpAny (model prog w) A (pyIter (.ref l)) (fun it s₂ => LoopAtV prog w A h₀ env x body Q E it s₂) E s := by
  refine lst_iter (vs := [v]) (fun i m nx => (i = 0 ∧ m = m₀ ∧ nx = news) ∨ (1 ≤ i ∧ (l, listOf [v].toArray nn) ∈ nx ∧ ∀ h'' tk'', Fr h₀ env.locals h'' m → News h₀ env.locals h'' nx → Q .next { s with heap := h'', toks := tk'' })) hh hl F N (.inl ⟨rfl, rfl, rfl⟩) ?_ ?_ ?_
  · rintro i m nx (⟨_, _, rfl⟩ | ⟨_, h, _⟩)
    · exact hl
    · exact h
  · rintro i v' m₁ nx h tk own hv hap (⟨rfl, rfl, rfl⟩ | ⟨hi, _, _⟩) F₁ N₁
    · cases hv
      refine wpAny_mono (turn h tk own hap F₁ N₁) (fun f s₂ q => ?_) fun _ _ e => e
      obtain ⟨rfl, h', tk', m', news', nx, rfl, F', N', q1, q2, q3, q4, q5⟩ := q
      exact ⟨rfl, h', tk', m', news', nx, rfl, F', N', q1, q2, q3, .inr ⟨Nat.le_refl 1, q4, q5⟩⟩
    · have := (List.getElem?_eq_some_iff.mp hv).1
      simp at this
      omega
  · rintro m₁ nx h tk (⟨h0, _, _⟩ | ⟨_, _, hq⟩) F₁ N₁
    · simp at h0
    · exact hq h tk F₁ N₁
theorem for0 {l : Addr} {nn : Nat} {m₀ : Str → Option Value} {news : List (Addr × Obj)}
    (hh : A.handled = none) (hl : (l, listOf #[] nn) ∈ news) (F : Fr h₀ env.locals s.heap m₀) (N : News h₀ env.locals s.heap news)
    (done : ∀ h tk, Fr h₀ env.locals h m₀ → News h₀ env.locals h news → Q .next { s with heap := h, toks := tk }) :
    wpAny (model prog w) A (pyIter (.ref l)) (fun it s₂ => LoopAtV prog w A h₀ env x body Q E it s₂) E s := by
  refine lst_iter (vs := []) (fun i m nx => m = m₀ ∧ nx = news) hh hl F N ⟨rfl, rfl⟩ ?_ ?_ ?_
  · rintro i m nx ⟨_, rfl⟩
    exact hl
  · intro i v' m₁ nx h tk own hv
    simp at hv
  · rintro m₁ nx h tk ⟨rfl, rfl⟩ F₁ N₁
    exact done h tk F₁ N₁
end
end Mine
end
section
open PySem PySem.W PyProof.Rows PyProof.V PySem.Spec
namespace Mine
section
variable {prog : Program} {w : World} {A : Around} {E : Value → Shared → Prop} {s : Shared} {env : Env} {h₀ h : Heap} {L d a S : Addr} {m : Str → Option Value} {news : List (Addr × Obj)} {g : Obj → List (Addr × Obj)} {o : Obj} {v : Value} {t u : Tok} {n : Nat} {k : Int}
/-- a one-tuple is put into the set -/
theorem addK {l : List (Int × Addr)} {ep : Nat} {led : Bool} {Q : Value → Shared → Prop} (F : Fr h₀ L s.heap m) (N : News h₀ L s.heap news) (U : UpdF S (set3 l ep led) news g) (ha : (a, tupO [.int k t] n) ∈ news) (hfit : fitOk (l.map (·.1)) = true) (hadd : addOk (l.map (·.1)) k = true) (hu : A.units + 2 < cLine) (hz : l.length + 1 ≤ sizeLine)
    (h : ∀ h' tk', Fr h₀ L h' m → News h₀ L h' (g (set3 (l ++ [(k, a)]) (ep + 1) led)) → Q .none { s with heap := h', toks := tk' }) :
    wpAny (model prog w) A (call (.builtin "set.add") [.ref S, .ref a]) Q E s := by
  obtain ⟨pre, post, rfl, hg, x, y⟩ := U.split
  have hm := N (S, set3 l ep led) (List.mem_append_right _ (.head _))
  have hT : s.TypeIs (.ref S) "set" := ⟨_, hm.1, rfl⟩
  refine wpAny_call_entry PySem.F.slot_set_add hT PySem.F.entry_set_add ?_ (PySem.F.args_set_add_2 _ _)
  unfold Builtin.«set.add» Builtin.Frozenset.oneOther
  simp only [List.isEmpty_nil, bind_assoc]
  unfold Builtin.Frozenset.addrOf
  refine wpAny_bind (wpAny_pure ?_)
  try dsimp only
  refine wpAny_bind (wpAny_pure ?_)
  try dsimp only
  refine wpAny_bind (add3 (l := l) (ep := ep) (led := led) (k := k) hfit hadd (ikey N ha) hm.1 (by show A.units + 1 < cLine; omega) hz fun h' hs hS => ?_)
  refine wpAny_pure ⟨.none, rfl, h h' _ (F.change hs hm.2.1 hm.2.2) (hg _ ▸ N.setIn x y hs hS)⟩
theorem get_add {l : List (Int × Addr)} {ep : Nat} {led : Bool} {pl : Sem Bool} {Q : Value × List Value → Shared → Prop} (N : News h₀ L s.heap news) (hS : (S, set3 l ep led) ∈ news) (h : Q (.builtin "set.add", [.ref S]) s) :
    wpAny (model prog w) A (getMethod (.ref S) (Str.ofString "add") pl) Q E s :=
  getMethod_builtin ⟨_, (N _ hS).1, rfl⟩ PySem.F.plainAttrs_set PySem.F.slot_set_add PySem.F.type_set_add (fun b e => by injection e with e; subst e; exact ⟨_, (N _ hS).1, rfl⟩) h
/-- a dict without entries -/
def EmpO (o : Obj) : Prop := ∃ ep, o.ExactDict ∧ o.data = .dict #[] ep
theorem emp_of {prog : Program} {w : World} {o : Obj} (h : o.IsDictOf (PySem.strKind prog w) []) : EmpO o := by
  obtain ⟨es, ep, hx, hd, _, hp, _⟩ := h
  have he : es = #[] := by
    have : es.toList = [] := by cases h9 : es.toList with
      | nil => rfl
      | cons a r => rw [h9] at hp; cases hp
    exact Array.toList_inj.mp this
  subst he
  exact ⟨ep, hx, hd⟩
/-- the one pair is stored -/
theorem one_store {Q : Unit → Shared → Prop} (F : Fr h₀ L s.heap m) (N : News h₀ L s.heap news) (U : UpdF d o news g) (he : EmpO o) (hk : (a, tupO [.str (Str.ofString "P") t, .int 1 u] n) ∈ news) (hu : A.units + 2 < cLine)
    (h : ∀ h' tk' o', Fr h₀ L h' m → News h₀ L h' (g o') → OneObj prog w o' a v → Q () { s with heap := h', toks := tk' }) :
    wpAny (model prog w) A (setItem (.ref d) (.ref a) v) Q E s := by
  obtain ⟨pre, post, rfl, hg, x, y⟩ := U.split
  obtain ⟨ep, hx, hd⟩ := he
  have hm := N (d, o) (List.mem_append_right _ (.head _))
  refine wpAny_setItem_heap (knd := pkind prog w) (k := PK) (xs := []) (by show A.units + 1 < cLine; omega) (pkey N hk) ⟨o, #[], ep, hm.1, hx, hd, rfl, fun _ hx => (nomatch hx), List.nodup_nil⟩ (fun h' hm' hs => ?_)
  obtain ⟨o', ho', hd'⟩ := one_obj (hm' : One prog w h' d a v)
  exact h h' _ o' (F.change hs hm.2.1 hm.2.2) (hg o' ▸ N.setIn x y hs ho') hd'
end
end Mine
end
section
open PySem PySem.W PySem.W.X PyProof.Rows
namespace Mine
/-- the function's end, its raise -/
def Kf : Flow → Sem Fin := fun f => .pure (.done (.ret (match f with | .ret v => v | _ => .none)))
def Hf (env : Env) : Value → Sem Fin := fun e => (leaving env e).wrap (fun _ => .raise e) .raise id id
def Kt (tgt : Expr) (it : Value) (fb oe : List Stmt) (env : Env) : Flow → Sem Fin := fun f => match f with
  | .next | .cont => .pure (.again (.forLoop tgt it fb oe env))
  | .brk => .pure (.done .next)
  | .ret v => .pure (.done (.ret v))
def Ht (env : Env) : Value → Sem Fin := fun e => (do noteFrame e env; theTreesLotGoes e : Sem Unit).wrap (fun _ => .raise e) .raise id id
def kFor (env : Env) (K : Flow → Sem Fin) (H : Value → Sem Fin) : Result → Sem Fin := fun r => ((match r with | .ok f => (.pure f : Sem Flow) | .error e => .raise e).onRaise fun (x : Value) => do
        if (← field x 1) == Value.none then unsupported "frame.own-activation:exception-without-traceback"
        setFlight x env.frame).wrap K H id id
section
variable {prog : Program} {w : World} {A : Around} {c : Code} {fs : List Frame} {P : End → Shared → Prop} {s : Shared} {env : Env}
theorem sx_wrap {α : Type} {m : Sem α} {K : α → Sem Fin} {H : Value → Sem Fin} {gd lv}
    (h : wpAny (model prog w) (A.over c fs) m (fun a s' => SegX (model prog w) A c (K a) fs s' P) (fun x s' => SegX (model prog w) A c (H x) fs s' P) s) :
    SegX (model prog w) A c (m.wrap K H gd lv) fs s P := by
  rintro Γ p rfl hΓ
  obtain ⟨e, s', hr, hq⟩ := runs_wrap_of_wp (Φ := fun e s' => e.quiet = true ∧ P e s') K H gd lv m (h (Γ.over fs) p (hΓ.over fs)) (fun a p' s' h' => h' Γ p' rfl hΓ) (fun x p' s' h' => h' Γ p' rfl hΓ)
  exact ⟨e, s', hr, hq⟩
theorem sx_at {p' : Pos} {k : Unit → Sem Fin} (h : SegX (model prog w) A c (k ()) fs s P) : SegX (model prog w) A c (.at p' k) fs s P :=
  sx_wrap (m := standAt p') (K := k) (H := .raise) (gd := id) (lv := id) (wpAny_standAt h)
theorem sx_point {l : List Value} {k : Unit → Sem Fin} (h : SegX (model prog w) A c (k ()) fs s P) : SegX (model prog w) A c (.point l k) fs s P :=
  sx_wrap (m := point) (K := k) (H := .raise) (gd := id) (lv := fun _ => l) (wpAny_point h)
theorem sx_call {c' : Code} {h g l} {k : Result → Sem Fin} (hc : ∀ p, SegX (model prog w) A c' ((model prog w).den c') (.ret k h g l c p [] :: fs) s P) :
    SegX (model prog w) A c (.call c' h g l k) fs s P := s_call prog w A c fs P s c' h g l k hc
theorem sx_leaf {k h g l c₁ p₁ kp} (r : Result) (hk : SegX (model prog w) A c₁ (k r) fs s P) : SegX (model prog w) A c (leafOf r) (.ret k h g l c₁ p₁ kp :: fs) s P :=
  s_pop prog w A c fs P s r _ rfl k h g l c₁ p₁ kp hk
theorem sx_again {c' : Code} (hq : c'.quiet = true) (hc : SegX (model prog w) A c' ((model prog w).den c') fs s P) : SegX (model prog w) A c (.pure (.again c')) fs s P :=
  s_again prog w A c fs P s c' hq hc
theorem sx_end (r : Result) (h : P (.ret r) s) : SegX (model prog w) A c (leafOf r) [] s P := s_end prog w A c P s r _ rfl h
theorem sx_yield {v : Value} {g : Bool} {l : List Value} {k : Resume → Sem Fin} (hg : g = false) (hfs : splitAtGen fs = none) (hfg : fs.any Frame.guarded = false) (x : ∀ p, P (.susp v false l k c p fs) s) : SegX (model prog w) A c (.yield v g l k) fs s P := by
  subst hg
  exact s_yield prog w A c fs P s v l k hfs hfg x
/-- a generator is woken -/
theorem wpAny_wake {α : Type} {Q : α → Shared → Prop} {E : Value → Shared → Prop} {g : Nat} {gs : GenState} {r : Resume} {l : List Value} {k : GenResult → Sem α} {c₀ : Code} {t₀ : Sem Fin} {fs₀ : List Frame} (hg : s.gens[g]? = some gs)
    (hgs : (gs = .fresh c₀ ∧ r = .send .none ∧ t₀ = (model prog w).den c₀ ∧ fs₀ = []) ∨ (∃ k₀ l₀ p₀ cl, gs = .suspended k₀ l₀ c₀ p₀ fs₀ cl ∧ t₀ = k₀ r))
    (x : SegX (model prog w) A c₀ t₀ fs₀ (s.setGen g .running) (fun e s₁ => wpAny (model prog w) A (k e.result) Q E (s₁.setGen g e.genState))) :
    wpAny (model prog w) A (.resume g r l k) Q E s :=
  wake_any α prog w hg hgs (fun Γ => Γ.In A) (fun _ h => h) (x.mono fun _ _ h Γ p hC => h Γ p hC)
theorem den_func {body : List Stmt} : (model prog w).den (.func body env) = .point [] fun _ => (execs body env).wrap Kf (Hf env) id id := by
  show (Sem.point [] fun _ => ((execs body env).onRaise (leaving env)) >>= _) = _
  congr 1
  funext _
  rw [Sem.onRaise_eq_wrap, Sem.bind_eq_wrap', Sem.wrap_wrap]
  refine Sem.wrap_congr (execs body env) _ _ (fun f => by cases f <;> rfl) (fun e => by rw [Sem.bind_eq_wrap, Sem.wrap_wrap]; rfl)
theorem sx_cons {st : Stmt} {rest : List Stmt} {K : Flow → Sem Fin} {H : Value → Sem Fin} {gd lv}
    (h : SegX (model prog w) A c ((exec st env).wrap (fun f => match f with | .next => (execs rest env).wrap K H gd lv | f => K f) H gd lv) fs s P) :
    SegX (model prog w) A c ((execs (st :: rest) env).wrap K H gd lv) fs s P := by rw [execs_cons_wrap]; exact h
/-- a yield as a statement -/
theorem sx_Yield {e : Expr} {yp pos : Pos} {K : Flow → Sem Fin} {H : Value → Sem Fin} (hfs : splitAtGen fs = none) (hfg : fs.any Frame.guarded = false)
    (h : wpAny (model prog w) (A.over c fs) (eval e env) (fun v s' => ∀ (k : Resume → Sem Fin) p, (∀ A' c' fs' s'' P', SegX (model prog w) A' c' (K .next) fs' s'' P' → SegX (model prog w) A' c' (k (.send .none)) fs' s'' P') → P (.susp v false [] k c p fs) s') (fun x s' => SegX (model prog w) A c (H x) fs s' P) s)
    (hco : env.scope.isCoroutine = false := by rfl) (hi : interactive env = false := by rfl) :
    SegX (model prog w) A c ((exec (.Expr (.Yield (some e) yp) pos) env).wrap K H id id) fs s P := by
  rw [exec_Expr env _ pos hi rfl]
  have hy : ∀ v, yieldOut env v = yieldValue v := fun v => by simp only [yieldOut, hco, Bool.false_eq_true, if_false]
  show SegX _ A _ (.at pos fun _ => ((eval e env >>= fun v => (standAt yp >>= fun _ => yieldOut env v)) >>= fun y => dropValue (.Yield (some e) yp) pos y).wrap K H id id) fs s P
  simp only [hy]
  refine sx_at ?_
  rw [Sem.bind_eq_wrap', Sem.bind_eq_wrap', Sem.wrap_wrap, Sem.wrap_wrap]
  refine sx_wrap (wpAny_mono h (fun v s' h' => ?_) fun _ _ x => x)
  refine sx_at ?_
  show SegX _ A _ (.yield v false [] _) fs s' P
  refine sx_yield rfl hfs hfg fun p => h' _ p fun A' c' fs' s'' P' hk => ?_
  exact hk
theorem sx_For {tgt iter : Expr} {fb oe : List Stmt} {pos : Pos} {K : Flow → Sem Fin} {H : Value → Sem Fin} (hfold : ∀ x, foldedSetIterable iter env x = pure x)
    (h : wpAny (model prog w) (A.over c fs) (eval iter env) (fun x s₁ => wpAny (model prog w) (A.over c fs) (pyIter x) (fun it s₂ => ∀ p, SegX (model prog w) A (.forLoop tgt it fb oe env) ((model prog w).den (.forLoop tgt it fb oe env)) (.ret (kFor env K H) none false [] c p [] :: fs) s₂ P) (fun _ _ => False) s₁) (fun _ _ => False) s) :
    SegX (model prog w) A c ((exec (.For tgt iter fb oe pos) env).wrap K H id id) fs s P := by
  show SegX _ A c (.at pos fun _ => ((eval iter env) >>= fun x => (foldedSetIterable iter env x) >>= fun x => (standAt iter.pos >>= fun _ => (holding [x] (pyIter x) >>= fun it => runOwn (.forLoop tgt it fb oe env) env))).wrap K H id id) fs s P
  refine sx_at ?_
  rw [Sem.bind_eq_wrap', Sem.wrap_wrap]
  refine sx_wrap (wpAny_mono h (fun x s₁ h₁ => ?_) fun _ _ x => x.elim)
  rw [hfold]
  show SegX _ A c ((standAt iter.pos >>= fun _ => (holding [x] (pyIter x) >>= fun it => runOwn (.forLoop tgt it fb oe env) env)).wrap K H id id) fs s₁ P
  show SegX _ A c (.at iter.pos fun _ => ((holding [x] (pyIter x) >>= fun it => runOwn (.forLoop tgt it fb oe env) env)).wrap K H id id) fs s₁ P
  refine sx_at ?_
  rw [Sem.bind_eq_wrap', Sem.wrap_wrap]
  refine sx_wrap (wpAny_holding (wpAny_mono h₁ (fun it s₂ h₂ => ?_) fun _ _ x => x.elim))
  exact sx_call h₂
theorem sx_turn {tgt : Expr} {it : Value} {fb oe : List Stmt}
    (h : wpAny (model prog w) (A.over (.forLoop tgt it fb oe env) fs) (pyNext it) (fun r s₁ => match r with
      | none => SegX (model prog w) A (.block oe env) ((model prog w).den (.block oe env)) fs s₁ P
      | some v => wpAny (model prog w) (A.over (.forLoop tgt it fb oe env) fs) (letOwnedTupleGo tgt it v) (fun _ s₂ => wpAny (model prog w) (A.over (.forLoop tgt it fb oe env) fs) (assign tgt env v) (fun _ s₃ => SegX (model prog w) A (.forLoop tgt it fb oe env) ((execs fb env).wrap (Kt tgt it fb oe env) (Ht env) id id) fs s₃ P) (fun _ _ => False) s₂) (fun _ _ => False) s₁) (fun _ _ => False) s) :
    SegX (model prog w) A (.forLoop tgt it fb oe env) ((model prog w).den (.forLoop tgt it fb oe env)) fs s P := by
  show SegX _ A _ ((forTurn tgt it fb oe env).onRaise (fun x => do noteFrame x env; theTreesLotGoes x)) fs s P
  unfold forTurn
  rw [Sem.onRaise_eq_wrap, Sem.bind_eq_wrap', Sem.wrap_wrap]
  refine sx_wrap (wpAny_standAt ?_)
  rw [Sem.bind_eq_wrap', Sem.wrap_wrap]
  refine sx_wrap (wpAny_onRaise (wpAny_mono h (fun r s₁ h₁ => ?_) fun _ _ x => x.elim))
  cases r with
  | none => exact sx_again rfl h₁
  | some v =>
    dsimp only at h₁ ⊢
    rw [Sem.bind_eq_wrap', Sem.wrap_wrap]
    refine sx_wrap (wpAny_mono h₁ (fun _ s₂ h₂ => ?_) fun _ _ x => x.elim)
    rw [Sem.bind_eq_wrap', Sem.wrap_wrap]
    refine sx_wrap (wpAny_mono h₂ (fun _ s₃ h₃ => ?_) fun _ _ x => x.elim)
    rw [Sem.bind_eq_wrap', Sem.wrap_wrap]
    rw [Sem.wrap_congr (execs fb env) _ _ (K' := Kt tgt it fb oe env) (H' := Ht env) (fun f => by cases f <;> rfl) (fun e => by first | exact Sem.bind_eq_wrap _ _ | (show (do noteFrame e env; theTreesLotGoes e : Sem Unit).bind (fun _ => .raise e) = _; rw [Sem.bind_eq_wrap]; rfl))]
    exact h₃
theorem sx_block {k : Result → Sem Fin} {hd : Option Value} {gd : Bool} {l : List Value} {c₁ : Code} {p₁ : Pos} {kp : List Value}
    (h : SegX (model prog w) A c₁ (k (.ok .next)) fs s P) : SegX (model prog w) A (.block [] env) ((model prog w).den (.block [] env)) (.ret k hd gd l c₁ p₁ kp :: fs) s P := by
  show SegX _ A (.block [] env) (leafOf (.ok .next)) _ s P
  exact sx_leaf (.ok .next) h
end
end Mine
end
section
open PySem PySem.W PySem.W.X PyProof.Rows PyProof.V PySem.Spec PySem.Calls
namespace Mine
abbrev prog6 : Program := PySem.Challenge.rw_ui0505_06.row.prog
/-- the body of tuples, its places aside -/
abbrev tTest (q : Nat → Pos) : PySem.Expr := .Compare (.Name (Str.ofString "count") (q 0)) [.Eq] [.Constant (.int 0) 0 (q 1)] (q 2)
abbrev tYield0 (q : Nat → Pos) : Stmt := .Expr (.Yield (some (.Tuple [] 0 (q 3))) (q 4)) (q 5)
abbrev tIter (q : Nat → Pos) : PySem.Expr := .Call (.Name (Str.ofString "tuples") (q 9)) [.Name (Str.ofString "size") (q 10), .BinOp (.Name (Str.ofString "count") (q 11)) .Sub (.Constant (.int 1) 0 (q 12)) (q 13)] [] (q 14)
abbrev tIter2 (q : Nat → Pos) : PySem.Expr := .Call (.Name (Str.ofString "range") (q 16)) [.Name (Str.ofString "size") (q 17)] [] (q 18)
abbrev tVal (q : Nat → Pos) : PySem.Expr := .BinOp (.Name (Str.ofString "row") (q 19)) .Add (.Tuple [.Name (Str.ofString "thing") (q 20)] 0 (q 21)) (q 22)
abbrev tBody2 (q : Nat → Pos) : List Stmt := [.Expr (.Yield (some (tVal q)) (q 23)) (q 24)]
abbrev tFor2 (q : Nat → Pos) : Stmt := .For (.Name (Str.ofString "thing") (q 15)) (tIter2 q) (tBody2 q) [] (q 25)
abbrev tFor1 (q : Nat → Pos) : Stmt := .For (.Name (Str.ofString "row") (q 8)) (tIter q) [tFor2 q] [] (q 26)
abbrev tIf (q : Nat → Pos) : Stmt := .If (tTest q) [tYield0 q, .Return none (q 6)] [] (q 7)
abbrev bodyT (q : Nat → Pos) : List Stmt := [tIf q, tFor1 q]
noncomputable abbrev envT (L : Addr) : Env := envOf (Str.ofString "tuples") fs_t16 L 158 (.ref 157)
def posOf (l : List Pos) (n : Nat) : Pos := l.getD n default
theorem tuples_is (w : World) : ∃ (ps : List Pos) (fd : FuncData) (o : Obj), (K06 w.params).lookup 158 = some o ∧ o.data = .func fd ∧ fd.body = .stmts (bodyT (posOf ps)) ∧ fd.scope = fs_t16 ∧ fd.scope.isGenerator = true ∧ fd.code = .ref 157 ∧ fd.qualname = Str.ofString "tuples" ∧
    (∀ L, callEnv fd L 158 = envT L) ∧ (∀ u v, ∀ s : Shared, BindsTo s fd ⟨[u, v], []⟩ [(Str.ofString "size", u), (Str.ofString "count", v)]) ∧ codeIn (K06 w.params) (.ref 157) (Str.ofString "tuples") = true :=
  ⟨[_, _, _, _, _, _, _, _, _, _, _, _, _, _, _, _, _, _, _, _, _, _, _, _, _, _, _], _, _, rfl, rfl, rfl, rfl, rfl, rfl, rfl, fun _ => rfl, fun _ _ _ => BindsTo.of_eq rfl, rfl⟩
/-- the text's tuples, as the world has it -/
structure TupIs (w : World) (q : Nat → Pos) : Prop where
  is : ∃ (fd : FuncData) (o : Obj), (K06 w.params).lookup 158 = some o ∧ o.data = .func fd ∧ fd.body = .stmts (bodyT q) ∧ fd.scope = fs_t16 ∧ fd.scope.isGenerator = true ∧ fd.code = .ref 157 ∧ fd.qualname = Str.ofString "tuples" ∧
    (∀ L, callEnv fd L 158 = envT L) ∧ (∀ u v, ∀ s : Shared, BindsTo s fd ⟨[u, v], []⟩ [(Str.ofString "size", u), (Str.ofString "count", v)]) ∧ codeIn (K06 w.params) (.ref 157) (Str.ofString "tuples") = true
theorem tup_Is (w : World) : ∃ q, TupIs w q := by
  obtain ⟨ps, fd, o, h⟩ := tuples_is w
  exact ⟨posOf ps, ⟨fd, o, h⟩⟩
theorem tuples_at {w : World} {p : Program} {loose : List Str} {mean : ExcName → Option Value} {mg mb : Str → Option Value} {A : Around} {E : Value → Shared → Prop} {s : Shared} {h₀ : Heap} {u v : Value} {q : Nat → Pos} {Q : Value → Shared → Prop}
    (P : TupIs w q) (X : (K06 w.params).In h₀) (T : Top p loose mean mg mb h₀) (hb : ∀ b o, h₀.get? b = some o → s.heap.get? b = some o) (hd : A.depth + 8 < recursionLimit)
    (h : ∀ h' tk' it, (∀ b o, s.heap.get? b = some o → h'.get? b = some o) → h'.Ns s.heap.objs.size (fun x => [(Str.ofString "count", v), (Str.ofString "size", u)].lookup x) → s.heap.objs.size < it → h'.IsGen it s.gens.size →
      Q (.ref it) { s with heap := h', toks := tk', gens := s.gens.push (.fresh (.func (bodyT q) (envT s.heap.objs.size))) }) :
    wpAny (model prog6 w) A (call (.ref 158) [u, v]) Q E s := by
  obtain ⟨fd, o, h1, h2, h3, h4, h5, h6, h7, h8, h9, h10⟩ := P.is
  have XS := X.keeps hb
  have hcd : s.heap.CodeRec fd.code fd.qualname := by rw [h6, h7]; exact codeRec_of XS h10
  have hk : fd.scope.kind = .function := by rw [h4]
  refine wpAny_call (codeAny_call_generator (by omega) (XS 158 _ h1) h2 (by rw [h4]) h5 h3 hcd ?_)
  refine h9 u v s _ _ _ _ ?_
  refine wpAny_newFunctionEnv (by rw [h4]; decide) (by
    intro x hx
    rw [h4]
    rcases List.mem_cons.mp hx with rfl | hx
    · rfl
    · rw [List.mem_singleton.mp hx]; rfl) (fun h₁ hns hsb => ?_) hk
  have hext : ∀ b ob, s.heap.get? b = some ob → h₁.get? b = some ob := fun b ob e => hsb.extBut b ob (Nat.ne_of_lt (Heap.lt_size e)) (Heap.get?_push_of_some _ e)
  refine ⟨T.nolimit.keeps fun b o e => hext b o (hb b o e), ?_⟩
  have key := h (h₁.push { cls := .type "generator", data := .fields #[.int s.gens.size 0, .str fd.name (s.toks + 2), .str fd.qualname (s.toks + 2 + 1)] }) (s.toks + 2 + 1 + 1) h₁.objs.size (fun b o e => Heap.get?_push_of_some _ (hext b o e)) (hns.at' fun o e => Heap.get?_push_of_some _ e) hns.lt ⟨_, _, _, Heap.get?_push_size _ rfl, rfl, rfl, rfl⟩
  have he := h8 s.heap.objs.size
  rw [← he] at key
  exact key
theorem rows_up {m : Str → Option Value} {a : Str} {u : Value} (h1 : m a = some u) : ∀ y, m y = upm a (some u) m y := by
  intro y
  by_cases e1 : y = a
  · subst e1; simp [upm, h1]
  · simp [upm, e1]
theorem add_nil {prog : Program} {w : World} {A : Around} {E : Value → Shared → Prop} {s : Shared} {h₀ : Heap} {L e b : Addr} {news : List (Addr × Obj)} {n n2 : Nat} {vs : List Value} {Q : Value → Shared → Prop} (N : News h₀ L s.heap news) (he : (e, tupO [] n) ∈ news) (hb : (b, tupO vs n2) ∈ news) (h : Q (.ref b) s) :
    wpAny (model prog w) A (binaryOp .Add (.ref e) (.ref b)) Q E s :=
  concat_meets ⟨_, (N _ he).1, rfl⟩ ⟨_, (N _ hb).1, rfl⟩ noFill_tuple_add seq_tuple_add F.slot_tuple_add F.entry_tuple_add (F.args_tuple_add_2 _ _) (AutoSeq1.tuple___add___tuple_tuple_0 e #[] n b vs.toArray n2 rfl) ⟨(N _ he).1, (N _ hb).1, h⟩
end Mine
end
section
open PySem PySem.W PySem.W.X PyProof.Rows PyProof.V PySem.Spec PySem.Calls
namespace Mine
section
variable {prog : Program} {w : World} {A : Around} {c : Code} {fs : List Frame} {P : End → Shared → Prop} {s : Shared} {env : Env}
theorem sx_If {test : PySem.Expr} {body orelse : List Stmt} {pos : Pos} {K : Flow → Sem Fin} {H : Value → Sem Fin}
    (h : wpAny (model prog w) (A.over c fs) (isTrue test env (eval test env)) (fun b s' => SegX (model prog w) A c ((if b = true then execs body env else execs orelse env).wrap K H id id) fs s' P) (fun _ _ => False) s) :
    SegX (model prog w) A c ((exec (.If test body orelse pos) env).wrap K H id id) fs s P := by
  show SegX _ A c (.at pos fun _ => (isTrue test env (eval test env) >>= fun b => if b = true then execs body env else execs orelse env).wrap K H id id) fs s P
  refine sx_at ?_
  rw [Sem.bind_eq_wrap', Sem.wrap_wrap]
  exact sx_wrap (wpAny_mono h (fun _ _ x => x) fun _ _ x => x.elim)
theorem sx_Ret0 {pos : Pos} {K : Flow → Sem Fin} {H : Value → Sem Fin} (h : SegX (model prog w) A c (K (.ret .none)) fs s P) : SegX (model prog w) A c ((exec (.Return none pos) env).wrap K H id id) fs s P :=
  sx_wrap (wpAny_Return_none h)
/-- the next item of a generator -/
theorem pyNext_gx {E : Value → Shared → Prop} {a : Addr} {g : Nat} {gs : GenState} {c₀ : Code} {t₀ : Sem Fin} {fs₀ : List Frame} {Q : Option Value → Shared → Prop} (hh : A.handled = none) (hl : s.heap.NoLimit) (hroom : A.depth < recursionLimit) (hg : s.heap.IsGen a g) (hgs : s.gens[g]? = some gs)
    (hst : (gs = .fresh c₀ ∧ t₀ = (model prog w).den c₀ ∧ fs₀ = []) ∨ ∃ k₀ l₀ p₀ cl, gs = .suspended k₀ l₀ c₀ p₀ fs₀ cl ∧ t₀ = k₀ (.send .none))
    (x : SegX (model prog w) A.in1 c₀ t₀ fs₀ (s.setGen g .running) (fun e s₁ => (e = .ret (.ok (.ret .none)) ∧ ∀ h', (∀ b o, s₁.heap.get? b = some o → h'.get? b = some o) → Q none { s₁.setGen g .finished with heap := h' }) ∨
      ∃ v gq l k c p fs, e = .susp v gq l k c p fs ∧ Q (some v) (s₁.setGen g e.genState))) :
    wpAny (model prog w) A (pyNext (.ref a)) Q E s := by
  unfold pyNext
  refine wpAny_bind (wpAny_attempt (wpAny_callSpecial?_slot (name := Str.ofString "__next__") hg.typeIs slot_gen_next
    (wpAny_call_entry slot_gen_next hg.typeIs entry_gen_next ?_ (args_gen_next _))))
  show wpAny _ _ (Builtin.Generator.genWake (.ref a) (.send .none)) _ _ s
  unfold Builtin.Generator.genWake
  refine wpAny_bind (wpAny_holding (wpAny_genNumber hg (wpAny_bind (wpAny_genState hgs ?_))))
  have fin : ∀ (e : End) (s₁ : Shared), ((e = .ret (.ok (.ret .none)) ∧ ∀ h', (∀ b o, s₁.heap.get? b = some o → h'.get? b = some o) → Q none { s₁.setGen g .finished with heap := h' }) ∨ ∃ v gq l k c p fs, e = .susp v gq l k c p fs ∧ Q (some v) (s₁.setGen g e.genState)) → True := fun _ _ _ => trivial
  rcases hst with ⟨rfl, rfl, rfl⟩ | ⟨k₀, l₀, p₀, cl, rfl, rfl⟩
  all_goals
    refine wpAny_bind (wpAny_roomToWake hl hroom ?_)
    show wpAny _ _ (.resume g (.send .none) [] _) _ _ s
    refine wpAny_wake hgs (by first | exact .inl ⟨rfl, rfl, rfl, rfl⟩ | exact .inr ⟨_, _, _, _, rfl, rfl⟩) (x.mono fun e s₁ he => ?_)
    rcases he with ⟨rfl, hp⟩ | ⟨v, gq, l, k, c, p, fs, rfl, hq⟩
    · show wpAny _ _ (newExc (.type "StopIteration") [] >>= _) _ _ _
      refine wpAny_bind ?_
      simp only [newExc, newTuple]
      refine wpAny_bind (wpAny_newObj_type ?_ (by size_fits))
      refine wpAny_bind (m := firstArgMember _ _) (wpAny_of_eq (a := Value.none) (by first | rfl | (simp only [firstArgMember]; rfl)) ?_)
      refine wpAny_newObj_type ?_ (by size_fits)
      simp only [raiseNew]
      refine wpAny_bind (wpAny_bind (wpAny_handled ?_))
      rw [show A.in1.handled = none from hh]
      refine wpAny_throw ?_
      refine wpAny_bind (wpAny_isInstance (T := "StopIteration") (b := true) ⟨_, Heap.get?_push_size _ rfl, rfl⟩ isSubtype_stop ?_)
      exact wpAny_pure (hp _ fun b o hb => Heap.get?_push_of_some _ (Heap.get?_push_of_some _ hb))
    · exact wpAny_pure ⟨v, rfl, wpAny_pure hq⟩
end
/-- the frame's namespace and another's change places -/
theorem swap {h₀ h : Heap} {B C : Addr} {m mb : Str → Option Value} {ob : Obj} {rest : List (Addr × Obj)} (F : Fr h₀ C h m) (N : News h₀ C h ((B, ob) :: rest)) (hb : LCg.NsObj ob mb) (ha : h₀.objs.size ≤ B) (had : ∀ q ∈ rest, q.1 ≠ B) :
    ∃ oc, Fr h₀ B h mb ∧ News h₀ B h ((C, oc) :: rest) ∧ LCg.NsObj oc m ∧ ∀ q ∈ rest, q.1 ≠ C := by
  obtain ⟨oc, hoc, hn⟩ := LCg.ns_obj F.ns
  obtain ⟨hB, hne, _⟩ := N _ List.mem_cons_self
  refine ⟨oc, ⟨hb.ns hB, F.keep, ha⟩, fun q hq => ?_, hn, fun q hq => (N q (List.mem_cons_of_mem _ hq)).2.1⟩
  rcases List.mem_cons.mp hq with rfl | hq
  · refine ⟨hoc, Ne.symm hne, ?_⟩
    cases e : h₀.get? C with
    | none => rfl
    | some o => exact absurd (Heap.lt_size e) (Nat.not_lt.mpr F.above)
  · have := N q (List.mem_cons_of_mem _ hq)
    exact ⟨this.1, had q hq, this.2.2⟩
end Mine
end
section
open PySem PySem.W PyProof.Rows PyProof.V PySem.Spec
namespace Mine
local macro_rules | `(tactic| k_mem) => `(tactic| first | exact List.mem_cons_self | with_reducible assumption | (refine List.mem_cons_of_mem _ ?_; k_mem))
local macro_rules | `(tactic| k_all) => `(tactic| first | exact List.forall_mem_nil _ | with_reducible assumption | exact allLt_ne (by with_reducible assumption) | (refine' List.forall_mem_cons.mpr ⟨?a, ?b⟩; (case a => k_ne); (case b => k_all)))
local macro_rules | `(tactic| k_lt $h:ident) => `(tactic| (replace $h := allLt_of $h; (try simp only [AllLt, and_true] at $h:ident); repeat (with_reducible (rename _ ∧ _ => hh9); obtain ⟨_, _⟩ := hh9)))
local macro_rules | `(tactic| walk_at "enter") => `(tactic| (refine' code_def ?k1 ?k2 ?k3 ?k4 ?k5 ?kA ?kF ?kK ?k6 ?k7 ?k8 ?k9 ?kB ?_ ?c2 ?c3 ?c4 ?c5; (case kA => exact rfl); (case kF => exact rfl); (case kK => first | exact rfl | assumption); (case k2 => k_asm); (case k1 => k_asm); (case k3 => k_asm); (case k4 => k_asm); (case k5 => k_asm); (case k6 => k_is); (case k7 => k_is); (case k8 => ktr_room); (case k9 => first | exact BindsTo.of_eq rfl | exact binds_K (by k_in) rfl (by k_is) rfl rfl rfl); (case c5 => decide); (case kB => exact locs rfl); (case c2 => exact rfl); (case c3 => exact rfl); (case c4 => exact rfl); k_whole; intro g' L' h' FG' F' N' B' X' T'; (try dsimp only); (try k_fold)))
local macro_rules | `(tactic| walk_at $s:str) => `(tactic| k_extra $s)
section
variable {w : World} {p : Program} {loose : List Str} {mean : ExcName → Option Value} {mg mb : Str → Option Value} {A : Around} {E : Value → Shared → Prop} {s : Shared} {h₀ : Heap} {L : Addr} {q : Nat → Pos} {c : Int} {t : Tok} {m : Str → Option Value} {news : List (Addr × Obj)}
theorem tp_test {Q : Bool → Shared → Prop} {b : Bool} (F : Fr h₀ L s.heap m) (N : News h₀ L s.heap news) (X : (K06 w.params).In h₀) (T : Top p loose mean mg mb h₀) (hm : m (Str.ofString "count") = some (.int c t)) (hb : (c == 0) = b) (h : ∀ tk', Q b { s with toks := tk' }) :
    wpAny (model PySem.Challenge.rw_ui0505_06.row.prog w) A (isTrue (tTest q) (envT L) (eval (tTest q) (envT L))) Q E s := by
  revert X
  k_fill
  intro X
  k_with_none
  k_with "steps" => repeat' (first | (k_unfold; (try dsimp only)) | walk1 | (dsimp only; walk1) | (leave1; walk_say "STEP leave1"; try dsimp only) | k_extra "mine")
  k_with "spliced" => first | refine args_cons ?_ | refine args_nil ⟨Fr.keep (by assumption) _ _ (by assumption), ?_⟩ | (refine args_nil ?_; try simp only [List.cons_append, List.nil_append])
  k_with "call builtin:len cons nil" => (k_here; (with_reducible show wpAny _ _ (call (Value.builtin "len") [Value.ref _]) _ _ _); k_dflt (refine' lenL (by k_asm) (by k_mem) (by first | (with_reducible assumption) | (simp only [List.length_append, List.length_map, List.length_cons, List.length_nil]; with_reducible rfl)) (by omega) ?_))
  k_with "call ref cons nil" => (k_here; k_dflt (refine' call_cls (by k_asm) (by k_asm) (by k_asm) (by k_is) (by k_is) (by k_is) ?_; k_whole; intro x' d' h' F' N' l1 l2; (try k_lt l1); (try k_lt2 l2); (try k_sweep); walk_at "enter"))
  k_with "call builtin:list.append cons nil" => (k_here; (with_reducible show wpAny _ _ (call (Value.builtin "list.append") [Value.ref _, _]) _ _ _); k_dflt (refine' appendL (by k_asm) (by k_asm) (by k_upd) (by ((try simp only [List.length_append, List.length_map, List.length_cons, List.length_nil]); omega)) ?_; k_whole); intro h' F' N'; (try k_sweep))
  k_with "subscriptTail Attribute Name Attribute ref int" => (k_here; (with_reducible show wpAny _ _ (subscriptTail _ _ (Value.ref _) (Value.int _ _)) _ _ _); k_dflt (refine' itemL (by k_asm) (by with_reducible assumption) (by k_mem) (by with_reducible rfl) (by omega) ?_ (by with_unfolding_all rfl); k_whole))
  k_with "subscriptTail Subscript Attribute Attribute Constant ref int" => (k_here; (with_reducible show wpAny _ _ (subscriptTail _ _ (Value.ref _) (Value.int _ _)) _ _ _); k_dflt (refine' itemT (by k_asm) (by k_mem) (by decide) (by decide) (by rfl) (by rfl) ?_ (by with_unfolding_all rfl) (by intro _; with_unfolding_all rfl)))
  k_with "WhlIf" => first | (with_reducible refine WhlIf.no (by with_reducible assumption) ?_) | (with_reducible refine WhlIf.yes (by with_reducible assumption) ?_)
  k_with "exec While Compare cons nil" => (k_here; (with_reducible refine whl_start 100 ?_))
  k_with "call ref cons nil" => (k_here; (with_reducible show wpAny _ _ (call (Value.ref 158) _) _ _ _); with_reducible refine halt ?_)
  k_with "binaryOp Add ref ref" => (k_here; k_dflt (refine' add_nil (by k_asm) (by k_mem) (by k_mem) ?_))
  replace F := frc F (rows_up hm)
  k_extra "steps"
  rw [hb]
  exact h _
theorem tp_iter {Q : Value → Shared → Prop} {u : Value} (P : TupIs w q) (F : Fr h₀ L s.heap m) (N : News h₀ L s.heap news) (X : (K06 w.params).In h₀) (T : Top p loose mean mg mb h₀) (hd : A.depth + 8 < recursionLimit) (hm : m (Str.ofString "count") = some (.int 1 t)) (hm2 : m (Str.ofString "size") = some u)
    (h : ∀ h' tk' it v, (∀ b o, s.heap.get? b = some o → h'.get? b = some o) → h'.Ns s.heap.objs.size (fun x => [(Str.ofString "count", .int 0 v), (Str.ofString "size", u)].lookup x) → s.heap.objs.size < it → h'.IsGen it s.gens.size →
      Q (.ref it) { s with heap := h', toks := tk', gens := s.gens.push (.fresh (.func (bodyT q) (envT s.heap.objs.size))) }) :
    wpAny (model PySem.Challenge.rw_ui0505_06.row.prog w) A (eval (tIter q) (envT L)) Q E s := by
  revert X
  k_fill
  intro X
  k_with_none
  k_with "steps" => repeat' (first | (k_unfold; (try dsimp only)) | walk1 | (dsimp only; walk1) | (leave1; walk_say "STEP leave1"; try dsimp only) | k_extra "mine")
  k_with "spliced" => first | refine args_cons ?_ | refine args_nil ⟨Fr.keep (by assumption) _ _ (by assumption), ?_⟩ | (refine args_nil ?_; try simp only [List.cons_append, List.nil_append])
  k_with "call builtin:len cons nil" => (k_here; (with_reducible show wpAny _ _ (call (Value.builtin "len") [Value.ref _]) _ _ _); k_dflt (refine' lenL (by k_asm) (by k_mem) (by first | (with_reducible assumption) | (simp only [List.length_append, List.length_map, List.length_cons, List.length_nil]; with_reducible rfl)) (by omega) ?_))
  k_with "call ref cons nil" => (k_here; k_dflt (refine' call_cls (by k_asm) (by k_asm) (by k_asm) (by k_is) (by k_is) (by k_is) ?_; k_whole; intro x' d' h' F' N' l1 l2; (try k_lt l1); (try k_lt2 l2); (try k_sweep); walk_at "enter"))
  k_with "call builtin:list.append cons nil" => (k_here; (with_reducible show wpAny _ _ (call (Value.builtin "list.append") [Value.ref _, _]) _ _ _); k_dflt (refine' appendL (by k_asm) (by k_asm) (by k_upd) (by ((try simp only [List.length_append, List.length_map, List.length_cons, List.length_nil]); omega)) ?_; k_whole); intro h' F' N'; (try k_sweep))
  k_with "subscriptTail Attribute Name Attribute ref int" => (k_here; (with_reducible show wpAny _ _ (subscriptTail _ _ (Value.ref _) (Value.int _ _)) _ _ _); k_dflt (refine' itemL (by k_asm) (by with_reducible assumption) (by k_mem) (by with_reducible rfl) (by omega) ?_ (by with_unfolding_all rfl); k_whole))
  k_with "subscriptTail Subscript Attribute Attribute Constant ref int" => (k_here; (with_reducible show wpAny _ _ (subscriptTail _ _ (Value.ref _) (Value.int _ _)) _ _ _); k_dflt (refine' itemT (by k_asm) (by k_mem) (by decide) (by decide) (by rfl) (by rfl) ?_ (by with_unfolding_all rfl) (by intro _; with_unfolding_all rfl)))
  k_with "WhlIf" => first | (with_reducible refine WhlIf.no (by with_reducible assumption) ?_) | (with_reducible refine WhlIf.yes (by with_reducible assumption) ?_)
  k_with "exec While Compare cons nil" => (k_here; (with_reducible refine whl_start 100 ?_))
  k_with "call ref cons nil" => (k_here; (with_reducible show wpAny _ _ (call (Value.ref 158) _) _ _ _); with_reducible refine halt ?_)
  k_with "binaryOp Add ref ref" => (k_here; k_dflt (refine' add_nil (by k_asm) (by k_mem) (by k_mem) ?_))
  replace F := frc F (upm2 hm hm2)
  k_extra "steps"
  unfold Halt
  refine tuples_at P X T (fun b o e => F.keep b o e) hd ?_
  intro h' tk' it h1 h2 h3 h4
  exact h h' tk' it _ h1 h2 h3 h4
theorem tp_rng {Q : Value → Shared → Prop} {nn : Nat} (hh : A.handled = none) (F : Fr h₀ L s.heap m) (N : News h₀ L s.heap news) (X : (K06 w.params).In h₀) (T : Top p loose mean mg mb h₀) (hm : m (Str.ofString "size") = some (.int (nn : Int) t)) (hnn : nn ≤ 3)
    (h : ∀ h' tk' r t1 t2 t3, Fr h₀ L h' m → News h₀ L h' news → IsRange h' r 0 (nn : Int) 1 t1 t2 t3 → Q (.ref r) { s with heap := h', toks := tk' }) :
    wpAny (model PySem.Challenge.rw_ui0505_06.row.prog w) A (eval (tIter2 q) (envT L)) Q E s := by
  revert X
  k_fill
  intro X
  k_with_none
  k_with "steps" => repeat' (first | (k_unfold; (try dsimp only)) | walk1 | (dsimp only; walk1) | (leave1; walk_say "STEP leave1"; try dsimp only) | k_extra "mine")
  k_with "spliced" => first | refine args_cons ?_ | refine args_nil ⟨Fr.keep (by assumption) _ _ (by assumption), ?_⟩ | (refine args_nil ?_; try simp only [List.cons_append, List.nil_append])
  k_with "call builtin:len cons nil" => (k_here; (with_reducible show wpAny _ _ (call (Value.builtin "len") [Value.ref _]) _ _ _); k_dflt (refine' lenL (by k_asm) (by k_mem) (by first | (with_reducible assumption) | (simp only [List.length_append, List.length_map, List.length_cons, List.length_nil]; with_reducible rfl)) (by omega) ?_))
  k_with "call ref cons nil" => (k_here; k_dflt (refine' call_cls (by k_asm) (by k_asm) (by k_asm) (by k_is) (by k_is) (by k_is) ?_; k_whole; intro x' d' h' F' N' l1 l2; (try k_lt l1); (try k_lt2 l2); (try k_sweep); walk_at "enter"))
  k_with "call builtin:list.append cons nil" => (k_here; (with_reducible show wpAny _ _ (call (Value.builtin "list.append") [Value.ref _, _]) _ _ _); k_dflt (refine' appendL (by k_asm) (by k_asm) (by k_upd) (by ((try simp only [List.length_append, List.length_map, List.length_cons, List.length_nil]); omega)) ?_; k_whole); intro h' F' N'; (try k_sweep))
  k_with "subscriptTail Attribute Name Attribute ref int" => (k_here; (with_reducible show wpAny _ _ (subscriptTail _ _ (Value.ref _) (Value.int _ _)) _ _ _); k_dflt (refine' itemL (by k_asm) (by with_reducible assumption) (by k_mem) (by with_reducible rfl) (by omega) ?_ (by with_unfolding_all rfl); k_whole))
  k_with "subscriptTail Subscript Attribute Attribute Constant ref int" => (k_here; (with_reducible show wpAny _ _ (subscriptTail _ _ (Value.ref _) (Value.int _ _)) _ _ _); k_dflt (refine' itemT (by k_asm) (by k_mem) (by decide) (by decide) (by rfl) (by rfl) ?_ (by with_unfolding_all rfl) (by intro _; with_unfolding_all rfl)))
  k_with "WhlIf" => first | (with_reducible refine WhlIf.no (by with_reducible assumption) ?_) | (with_reducible refine WhlIf.yes (by with_reducible assumption) ?_)
  k_with "exec While Compare cons nil" => (k_here; (with_reducible refine whl_start 100 ?_))
  k_with "call ref cons nil" => (k_here; (with_reducible show wpAny _ _ (call (Value.ref 158) _) _ _ _); with_reducible refine halt ?_)
  k_with "binaryOp Add ref ref" => (k_here; k_dflt (refine' add_nil (by k_asm) (by k_mem) (by k_mem) ?_))
  have em := rows_up hm
  replace F := frc F em
  k_extra "steps"
  rename Fr _ _ _ _ => F9
  rename News _ _ _ _ => N9
  exact h _ _ _ _ _ _ (frc F9 fun y => (em y).symm) N9 (by assumption)
theorem tp_val {Q : Value → Shared → Prop} {e : Addr} {n : Nat} {k : Int} (F : Fr h₀ L s.heap m) (N : News h₀ L s.heap news) (X : (K06 w.params).In h₀) (T : Top p loose mean mg mb h₀) (hm : m (Str.ofString "row") = some (.ref e)) (hm2 : m (Str.ofString "thing") = some (.int k t)) (he : (e, tupO [] n) ∈ news)
    (h : ∀ h' tk' b n', Fr h₀ L h' m → News h₀ L h' ((b, tupO [.int k t] n') :: news) → (∀ q ∈ news, q.1 ≠ b) → Q (.ref b) { s with heap := h', toks := tk' }) :
    wpAny (model PySem.Challenge.rw_ui0505_06.row.prog w) A (eval (tVal q) (envT L)) Q E s := by
  revert X
  k_fill
  intro X
  k_with_none
  k_with "steps" => repeat' (first | (k_unfold; (try dsimp only)) | walk1 | (dsimp only; walk1) | (leave1; walk_say "STEP leave1"; try dsimp only) | k_extra "mine")
  k_with "spliced" => first | refine args_cons ?_ | refine args_nil ⟨Fr.keep (by assumption) _ _ (by assumption), ?_⟩ | (refine args_nil ?_; try simp only [List.cons_append, List.nil_append])
  k_with "call builtin:len cons nil" => (k_here; (with_reducible show wpAny _ _ (call (Value.builtin "len") [Value.ref _]) _ _ _); k_dflt (refine' lenL (by k_asm) (by k_mem) (by first | (with_reducible assumption) | (simp only [List.length_append, List.length_map, List.length_cons, List.length_nil]; with_reducible rfl)) (by omega) ?_))
  k_with "call ref cons nil" => (k_here; k_dflt (refine' call_cls (by k_asm) (by k_asm) (by k_asm) (by k_is) (by k_is) (by k_is) ?_; k_whole; intro x' d' h' F' N' l1 l2; (try k_lt l1); (try k_lt2 l2); (try k_sweep); walk_at "enter"))
  k_with "call builtin:list.append cons nil" => (k_here; (with_reducible show wpAny _ _ (call (Value.builtin "list.append") [Value.ref _, _]) _ _ _); k_dflt (refine' appendL (by k_asm) (by k_asm) (by k_upd) (by ((try simp only [List.length_append, List.length_map, List.length_cons, List.length_nil]); omega)) ?_; k_whole); intro h' F' N'; (try k_sweep))
  k_with "subscriptTail Attribute Name Attribute ref int" => (k_here; (with_reducible show wpAny _ _ (subscriptTail _ _ (Value.ref _) (Value.int _ _)) _ _ _); k_dflt (refine' itemL (by k_asm) (by with_reducible assumption) (by k_mem) (by with_reducible rfl) (by omega) ?_ (by with_unfolding_all rfl); k_whole))
  k_with "subscriptTail Subscript Attribute Attribute Constant ref int" => (k_here; (with_reducible show wpAny _ _ (subscriptTail _ _ (Value.ref _) (Value.int _ _)) _ _ _); k_dflt (refine' itemT (by k_asm) (by k_mem) (by decide) (by decide) (by rfl) (by rfl) ?_ (by with_unfolding_all rfl) (by intro _; with_unfolding_all rfl)))
  k_with "WhlIf" => first | (with_reducible refine WhlIf.no (by with_reducible assumption) ?_) | (with_reducible refine WhlIf.yes (by with_reducible assumption) ?_)
  k_with "exec While Compare cons nil" => (k_here; (with_reducible refine whl_start 100 ?_))
  k_with "call ref cons nil" => (k_here; (with_reducible show wpAny _ _ (call (Value.ref 158) _) _ _ _); with_reducible refine halt ?_)
  k_with "binaryOp Add ref ref" => (k_here; k_dflt (refine' add_nil (by k_asm) (by k_mem) (by k_mem) ?_))
  have em := upm2 hm hm2
  replace F := frc F em
  k_extra "steps"
  rename Fr _ _ _ _ => F9
  rename News _ _ _ _ => N9
  exact h _ _ _ 0 (frc F9 fun y => (em y).symm) N9 (allLt_ne (by assumption))
theorem tp_nil {Q : Value → Shared → Prop} {pos : Pos} (F : Fr h₀ L s.heap m) (N : News h₀ L s.heap news) (X : (K06 w.params).In h₀)
    (h : ∀ h' e n, Fr h₀ L h' m → News h₀ L h' ((e, tupO [] n) :: news) → (∀ q ∈ news, q.1 ≠ e) → Q (.ref e) { s with heap := h' }) :
    wpAny (model PySem.Challenge.rw_ui0505_06.row.prog w) A (eval (.Tuple [] 0 pos) (envT L)) Q E s := by
  revert X
  k_fill
  k_with_none
  k_with "steps" => repeat' (first | (k_unfold; (try dsimp only)) | walk1 | (dsimp only; walk1) | (leave1; walk_say "STEP leave1"; try dsimp only) | k_extra "mine")
  k_with "spliced" => first | refine args_cons ?_ | refine args_nil ⟨Fr.keep (by assumption) _ _ (by assumption), ?_⟩ | (refine args_nil ?_; try simp only [List.cons_append, List.nil_append])
  k_with "call builtin:len cons nil" => (k_here; (with_reducible show wpAny _ _ (call (Value.builtin "len") [Value.ref _]) _ _ _); k_dflt (refine' lenL (by k_asm) (by k_mem) (by first | (with_reducible assumption) | (simp only [List.length_append, List.length_map, List.length_cons, List.length_nil]; with_reducible rfl)) (by omega) ?_))
  k_with "call ref cons nil" => (k_here; k_dflt (refine' call_cls (by k_asm) (by k_asm) (by k_asm) (by k_is) (by k_is) (by k_is) ?_; k_whole; intro x' d' h' F' N' l1 l2; (try k_lt l1); (try k_lt2 l2); (try k_sweep); walk_at "enter"))
  k_with "call builtin:list.append cons nil" => (k_here; (with_reducible show wpAny _ _ (call (Value.builtin "list.append") [Value.ref _, _]) _ _ _); k_dflt (refine' appendL (by k_asm) (by k_asm) (by k_upd) (by ((try simp only [List.length_append, List.length_map, List.length_cons, List.length_nil]); omega)) ?_; k_whole); intro h' F' N'; (try k_sweep))
  k_with "subscriptTail Attribute Name Attribute ref int" => (k_here; (with_reducible show wpAny _ _ (subscriptTail _ _ (Value.ref _) (Value.int _ _)) _ _ _); k_dflt (refine' itemL (by k_asm) (by with_reducible assumption) (by k_mem) (by with_reducible rfl) (by omega) ?_ (by with_unfolding_all rfl); k_whole))
  k_with "subscriptTail Subscript Attribute Attribute Constant ref int" => (k_here; (with_reducible show wpAny _ _ (subscriptTail _ _ (Value.ref _) (Value.int _ _)) _ _ _); k_dflt (refine' itemT (by k_asm) (by k_mem) (by decide) (by decide) (by rfl) (by rfl) ?_ (by with_unfolding_all rfl) (by intro _; with_unfolding_all rfl)))
  k_with "WhlIf" => first | (with_reducible refine WhlIf.no (by with_reducible assumption) ?_) | (with_reducible refine WhlIf.yes (by with_reducible assumption) ?_)
  k_with "exec While Compare cons nil" => (k_here; (with_reducible refine whl_start 100 ?_))
  k_with "call ref cons nil" => (k_here; (with_reducible show wpAny _ _ (call (Value.ref 158) _) _ _ _); with_reducible refine halt ?_)
  k_with "binaryOp Add ref ref" => (k_here; k_dflt (refine' add_nil (by k_asm) (by k_mem) (by k_mem) ?_))
  intro X
  k_extra "steps"
  rename Fr _ _ _ _ => F9
  rename News _ _ _ _ => N9
  exact h _ _ 0 F9 N9 (allLt_ne (by assumption))
end
end Mine
end
section
open PySem PySem.W PySem.W.X PyProof.Rows PyProof.V PySem.Spec PySem.Calls
namespace Mine
/-- room for n generators more -/
structure GOk (n : Nat) (A : Around) : Prop where
  handled : A.handled = none
  depth : A.depth + 8 * n + 16 < recursionLimit
/-- a generator's object -/
def GenO (o : Obj) (g : Nat) : Prop := ∃ nm qn, o.cls = .type "generator" ∧ o.data = .fields #[.int g 0, nm, qn] ∧ o.slots = #[]
theorem GenO.is {h : Heap} {a : Addr} {o : Obj} {g : Nat} (x : GenO o g) (e : h.get? a = some o) : h.IsGen a g := let ⟨nm, qn, r⟩ := x; ⟨o, nm, qn, e, r⟩
theorem gen_obj {h : Heap} {a : Addr} {g : Nat} (x : h.IsGen a g) : ∃ o, h.get? a = some o ∧ GenO o g := let ⟨o, nm, qn, e, r⟩ := x; ⟨o, e, nm, qn, r⟩
theorem setGen_ne {s : Shared} {g i : Nat} {x : GenState} (h : i ≠ g) : (s.setGen g x).gens[i]? = s.gens[i]? := by
  simp [Shared.setGen, Array.getElem?_setIfInBounds, Ne.symm h]
theorem setGen_self {s : Shared} {g : Nat} {x : GenState} (h : g < s.gens.size) : (s.setGen g x).gens[g]? = some x := by
  simp [Shared.setGen, Array.getElem?_setIfInBounds, h]
theorem setGen_size {s : Shared} {g : Nat} {x : GenState} : (s.setGen g x).gens.size = s.gens.size := by simp [Shared.setGen]
theorem bare_set {s : Shared} {g : Nat} {x : GenState} (h : AllBare s.gens) (hx : x.bare = true) : AllBare (s.setGen g x).gens := by
  intro y hy
  obtain ⟨i, hi, rfl⟩ := Array.mem_iff_getElem.mp hy
  have hs : (s.setGen g x).gens[i]? = some (s.setGen g x).gens[i] := Array.getElem?_eq_getElem hi
  by_cases e : i = g
  · subst e
    rw [setGen_size] at hi
    rw [setGen_self hi] at hs
    rw [← Option.some.inj hs]; exact hx
  · rw [setGen_ne e] at hs
    have hi' : i < s.gens.size := by rw [setGen_size] at hi; exact hi
    rw [Array.getElem?_eq_getElem hi'] at hs
    rw [← Option.some.inj hs]
    exact h _ (Array.getElem_mem hi')
theorem gens_lt {s : Shared} {g : Nat} {x : GenState} (h : s.gens[g]? = some x) : g < s.gens.size := by
  rcases Nat.lt_or_ge g s.gens.size with h' | h'
  · exact h'
  · rw [Array.getElem?_eq_none h'] at h; cases h
/-- the frame's facts in a heap that keeps all -/
theorem fr_keeps {h₀ h h' : Heap} {L : Addr} {m : Str → Option Value} (F : Fr h₀ L h m) (k : ∀ b o, h.get? b = some o → h'.get? b = some o) : Fr h₀ L h' m := ⟨F.ns.at' fun o e => k _ o e, fun b o e => k b o (F.keep b o e), F.above⟩
theorem news_keeps {h₀ h h' : Heap} {L : Addr} {l : List (Addr × Obj)} (N : News h₀ L h l) (k : ∀ b o, h.get? b = some o → h'.get? b = some o) : News h₀ L h' l := fun q hq => ⟨k _ _ (N q hq).1, (N q hq).2⟩
section
variable {w : World} {p : Program} {loose : List Str} {mean : ExcName → Option Value} {mg mb : Str → Option Value} {h₀ : Heap} {q : Nat → Pos}
/-- what goes on behind the one item of the inner generator -/
def RetNext (w : World) (k : Resume → Sem Fin) : Prop := ∀ (A' : Around) (c' : Code) (fs' : List Frame) (s'' : Shared) (P' : End → Shared → Prop), SegX (model prog6 w) A' c' (Kf (.ret .none)) fs' s'' P' → SegX (model prog6 w) A' c' (k (.send .none)) fs' s'' P'
theorem inner_first {s : Shared} {A : Around} {E : Value → Shared → Prop} {Lc L2 ga : Addr} {g : Nat} {m m2 : Str → Option Value} {o2 og : Obj} {cn : List (Addr × Obj)} {t : Tok} {Q : Option Value → Shared → Prop}
    (X : (K06 w.params).In h₀) (T : Top p loose mean mg mb h₀) (hA : GOk 0 A) (F : Fr h₀ Lc s.heap m) (N : News h₀ Lc s.heap ((L2, o2) :: (ga, og) :: cn)) (h2 : LCg.NsObj o2 m2) (hm2 : m2 (Str.ofString "count") = some (.int 0 t)) (hog : GenO og g) (hL : h₀.objs.size ≤ L2) (had : ∀ x ∈ (ga, og) :: cn, x.1 ≠ L2)
    (hg : s.gens[g]? = some (.fresh (.func (bodyT q) (envT L2)))) (hbr : AllBare s.gens)
    (h : ∀ e n h' tk gs o2' k pp, Fr h₀ Lc h' m → News h₀ Lc h' ((e, tupO [] n) :: (L2, o2') :: (ga, og) :: cn) → LCg.NsObj o2' m2 → (∀ x ∈ (Lc, (default : Obj)) :: (L2, o2') :: (ga, og) :: cn, x.1 ≠ e) → RetNext w k → gs[g]? = some (.suspended k [] (.func (bodyT q) (envT L2)) pp [] false) → (∀ i, i ≠ g → gs[i]? = s.gens[i]?) → gs.size = s.gens.size → AllBare gs →
      Q (some (.ref e)) { s with heap := h', toks := tk, gens := gs }) :
    wpAny (model prog6 w) A (pyNext (.ref ga)) Q E s := by
  have hgl := gens_lt hg
  refine pyNext_gx (c₀ := .func (bodyT q) (envT L2)) hA.handled (T.nolimit.keeps F.keep) (by have := hA.depth; omega) (hog.is (N _ (List.mem_cons_of_mem _ List.mem_cons_self)).1) hg (.inl ⟨rfl, rfl, rfl⟩) ?_
  obtain ⟨oc, F2, N2, hc, had2⟩ := swap F N h2 hL had
  rw [den_func]
  refine sx_point (sx_cons (sx_If ?_))
  refine tp_test (s := s.setGen g .running) F2 N2 X T hm2 (b := true) (by decide) fun tk' => ?_
  rw [if_pos rfl]
  refine sx_cons (sx_Yield rfl rfl ?_)
  refine tp_nil (s := { s.setGen g .running with toks := tk' }) F2 N2 X fun h' e n F3 N3 hne k pp hk => ?_
  have N4 : News h₀ L2 h' ((Lc, oc) :: (e, tupO [] n) :: (ga, og) :: cn) := nsub N3 fun x hx => by
    rcases List.mem_cons.mp hx with rfl | hx
    · exact List.mem_cons_of_mem _ List.mem_cons_self
    · rcases List.mem_cons.mp hx with rfl | hx
      · exact List.mem_cons_self
      · exact List.mem_cons_of_mem _ (List.mem_cons_of_mem _ hx)
  have hLe : (Lc : Addr) ≠ e := hne _ List.mem_cons_self
  obtain ⟨o2', F5, N5, hn5, had5⟩ := swap F3 N4 hc F.above (fun x hx => by
    rcases List.mem_cons.mp hx with rfl | hx
    · exact Ne.symm hLe
    · exact had2 x hx)
  refine .inr ⟨_, _, _, _, _, _, _, rfl, ?_⟩
  have key := h e n h' tk' ((Shared.setGen { s.setGen g .running with heap := h', toks := tk' } g (.suspended k [] (.func (bodyT q) (envT L2)) pp [] false)).gens) o2' k pp F5 (nsub N5 fun x hx => by
    rcases List.mem_cons.mp hx with rfl | hx
    · exact List.mem_cons_of_mem _ List.mem_cons_self
    · rcases List.mem_cons.mp hx with rfl | hx
      · exact List.mem_cons_self
      · exact List.mem_cons_of_mem _ (List.mem_cons_of_mem _ hx)) hn5 (fun x hx => by
    rcases List.mem_cons.mp hx with rfl | hx
    · exact hLe
    · rcases List.mem_cons.mp hx with rfl | hx
      · exact Ne.symm (N3 _ List.mem_cons_self).2.1
      · exact hne x (List.mem_cons_of_mem _ hx)) (fun A' c' fs' s'' P' hx => hk A' c' fs' s'' P' (sx_cons (sx_Ret0 hx)))
    (setGen_self (by show g < (s.setGen g .running).gens.size; rw [setGen_size]; exact hgl)) (fun i hi => (setGen_ne hi).trans (setGen_ne hi)) (by rw [setGen_size]; exact setGen_size) (bare_set (bare_set hbr rfl) rfl)
  exact key
theorem inner_second {s : Shared} {A : Around} {E : Value → Shared → Prop} {Lc ga : Addr} {c : Code} {g : Nat} {m : Str → Option Value} {og : Obj} {cn : List (Addr × Obj)} {k : Resume → Sem Fin} {pp : Pos} {Q : Option Value → Shared → Prop}
    (T : Top p loose mean mg mb h₀) (hA : GOk 0 A) (F : Fr h₀ Lc s.heap m) (N : News h₀ Lc s.heap ((ga, og) :: cn)) (hog : GenO og g)
    (hg : s.gens[g]? = some (.suspended k [] c pp [] false)) (hk : RetNext w k) (hbr : AllBare s.gens)
    (h : ∀ h' gs, Fr h₀ Lc h' m → News h₀ Lc h' ((ga, og) :: cn) → (∀ i, i ≠ g → gs[i]? = s.gens[i]?) → gs.size = s.gens.size → AllBare gs → Q none { s with heap := h', gens := gs }) :
    wpAny (model prog6 w) A (pyNext (.ref ga)) Q E s := by
  refine pyNext_gx (c₀ := c) hA.handled (T.nolimit.keeps F.keep) (by have := hA.depth; omega) (hog.is (N _ List.mem_cons_self).1) hg (.inr ⟨k, _, _, _, rfl, rfl⟩) ?_
  refine hk _ _ _ _ _ ?_
  show SegX _ _ _ (leafOf (.ok (.ret .none))) [] _ _
  refine sx_end (.ok (.ret .none)) (.inl ⟨rfl, fun h' kp => ?_⟩)
  exact h h' _ (fr_keeps F kp) (news_keeps N kp) (fun i hi => (setGen_ne hi).trans (setGen_ne hi)) (by rw [setGen_size]; exact setGen_size) (bare_set (bare_set hbr rfl) rfl)
end
end Mine
end
section
open PySem PySem.W PySem.W.X PyProof.Rows PyProof.V PySem.Spec PySem.Calls
namespace Mine
abbrev rngO (x left : Int) : Obj := { cls := .type "range_iterator", dict := none, data := .fields #[rawInt x, rawInt left, rawInt 1], slots := #[] }
noncomputable abbrev cT (q : Nat → Pos) (L1 itr : Addr) : Code := .forLoop (.Name (Str.ofString "thing") (q 15)) (.ref itr) (tBody2 q) [] (envT L1)
noncomputable abbrev cR (q : Nat → Pos) (L1 ga2 : Addr) : Code := .forLoop (.Name (Str.ofString "row") (q 8)) (.ref ga2) [tFor2 q] [] (envT L1)
noncomputable abbrev KK2 (q : Nat → Pos) (L1 ga2 : Addr) : Flow → Sem Fin := fun f => match f with | .next => (execs [] (envT L1)).wrap (Kt (.Name (Str.ofString "row") (q 8)) (.ref ga2) [tFor2 q] [] (envT L1)) (Ht (envT L1)) id id | f => Kt (.Name (Str.ofString "row") (q 8)) (.ref ga2) [tFor2 q] [] (envT L1) f
noncomputable abbrev KK1 (L1 : Addr) : Flow → Sem Fin := fun f => match f with | .next => (execs [] (envT L1)).wrap Kf (Hf (envT L1)) id id | f => Kf f
noncomputable abbrev fR (q : Nat → Pos) (L1 ga2 : Addr) (pp : Pos) : Frame := .ret (kFor (envT L1) (KK2 q L1 ga2) (Ht (envT L1))) none false [] (cR q L1 ga2) pp []
noncomputable abbrev fF (q : Nat → Pos) (L1 : Addr) (pp : Pos) : Frame := .ret (kFor (envT L1) (KK1 L1) (Hf (envT L1))) none false [] (.func (bodyT q) (envT L1)) pp []
/-- what goes on behind an item of the outer generator -/
def AgainNext (w : World) (c : Code) (k : Resume → Sem Fin) : Prop := ∀ (A' : Around) (c' : Code) (fs' : List Frame) (s'' : Shared) (P' : End → Shared → Prop), SegX (model prog6 w) A' c' (.pure (.again c)) fs' s'' P' → SegX (model prog6 w) A' c' (k (.send .none)) fs' s'' P'
section
variable {w : World} {p : Program} {loose : List Str} {mean : ExcName → Option Value} {mg mb : Str → Option Value} {h₀ : Heap} {q : Nat → Pos}
/-- the outer generator comes to its next item -/
theorem outer_item {s : Shared} {A : Around} {Lc L1 itr ga2 e : Addr} {m m1 : Str → Option Value} {o1 : Obj} {rest : List (Addr × Obj)} {ne : Nat} {k nn : Nat} {p1 p2 : Pos} {P : End → Shared → Prop}
    (X : (K06 w.params).In h₀) (T : Top p loose mean mg mb h₀) (F : Fr h₀ Lc s.heap m) (N : News h₀ Lc s.heap ((L1, o1) :: (itr, rngO (k : Int) ((nn : Int) - (k : Int))) :: rest)) (hn1 : LCg.NsObj o1 m1) (hL : h₀.objs.size ≤ L1)
    (had1 : ∀ x ∈ (itr, rngO (k : Int) ((nn : Int) - (k : Int))) :: rest, x.1 ≠ L1) (hadI : ∀ x ∈ rest, x.1 ≠ itr) (hrow : m1 (Str.ofString "row") = some (.ref e)) (he : (e, tupO [] ne) ∈ rest) (hkn : k < nn)
    (h : ∀ b n t h' tk o1' m1' kk p3, Fr h₀ Lc h' m → News h₀ Lc h' ((b, tupO [.int (k : Int) t] n) :: (L1, o1') :: (itr, rngO ((k + 1 : Nat) : Int) ((nn : Int) - ((k + 1 : Nat) : Int))) :: rest) → LCg.NsObj o1' m1' → m1' (Str.ofString "row") = some (.ref e) → (∀ x ∈ (Lc, (default : Obj)) :: (L1, o1') :: (itr, rngO ((k + 1 : Nat) : Int) ((nn : Int) - ((k + 1 : Nat) : Int))) :: rest, x.1 ≠ b) → AgainNext w (cT q L1 itr) kk →
      P (.susp (.ref b) false [] kk (cT q L1 itr) p3 [fR q L1 ga2 p2, fF q L1 p1]) { s with heap := h', toks := tk }) :
    SegX (model prog6 w) A (cT q L1 itr) ((model prog6 w).den (cT q L1 itr)) [fR q L1 ga2 p2, fF q L1 p1] s P := by
  have hI := N _ (List.mem_cons_of_mem _ List.mem_cons_self)
  have hIL : itr ≠ L1 := had1 _ List.mem_cons_self
  refine sx_turn ?_
  refine wpAny_pyNext_range_item (x := (k : Int)) (left := (nn : Int) - (k : Int)) hI.1 (by omega) fun h1 hit1 hsb1 => ?_
  have ek : ((k : Int) + 1) = ((k + 1 : Nat) : Int) := by omega
  have el : ((nn : Int) - (k : Int) - 1) = ((nn : Int) - ((k + 1 : Nat) : Int)) := by omega
  rw [ek, el] at hit1
  have F1 : Fr h₀ Lc h1 m := F.change hsb1 hI.2.1 hI.2.2
  have N1 : News h₀ Lc h1 ((L1, o1) :: (itr, rngO ((k + 1 : Nat) : Int) ((nn : Int) - ((k + 1 : Nat) : Int))) :: rest) := by
    intro x hx
    rcases List.mem_cons.mp hx with rfl | hx
    · have := N _ List.mem_cons_self
      exact ⟨(hsb1.2 _ (Ne.symm hIL)).trans this.1, this.2⟩
    · rcases List.mem_cons.mp hx with rfl | hx
      · exact ⟨hit1, hI.2⟩
      · have := N _ (List.mem_cons_of_mem _ (List.mem_cons_of_mem _ hx))
        exact ⟨(hsb1.2 _ (hadI x hx)).trans this.1, this.2⟩
  have had1' : ∀ x ∈ (itr, rngO ((k + 1 : Nat) : Int) ((nn : Int) - ((k + 1 : Nat) : Int))) :: rest, x.1 ≠ L1 := by
    intro x hx
    rcases List.mem_cons.mp hx with rfl | hx
    · exact hIL
    · exact had1 x (List.mem_cons_of_mem _ hx)
  show wpAny _ _ (pure ()) _ _ _
  refine wpAny_pure ?_
  obtain ⟨oc, F2, N2, hc, had2⟩ := swap F1 N1 hn1 hL had1'
  refine wpAny_assign_Name (wpAny_storeName_local (m := m1) rfl F2.ns (fun h3 hn3 hsb3 => ?_) rfl)
  have F3 := F2.set hn3 hsb3
  have N3 := N2.set hsb3
  refine sx_cons (sx_Yield rfl rfl ?_)
  refine tp_val (s := { s with heap := h3, toks := s.toks + 1 + 1 }) (t := s.toks) (k := (k : Int)) (e := e) (n := ne) F3 N3 X T ?_ ?_ ?_ ?_
  · show (if Str.ofString "row" = Str.ofString "thing" then _ else m1 (Str.ofString "row")) = _
    rw [if_neg (by decide)]; exact hrow
  · show (if Str.ofString "thing" = Str.ofString "thing" then _ else _) = _
    rw [if_pos rfl]
  · exact List.mem_cons_of_mem _ (List.mem_cons_of_mem _ he)
  intro h4 tk4 b n F4 N4 hne kk p3 hkk
  have N5 : News h₀ L1 h4 ((Lc, oc) :: (b, tupO [.int (k : Int) s.toks] n) :: (itr, rngO ((k + 1 : Nat) : Int) ((nn : Int) - ((k + 1 : Nat) : Int))) :: rest) := nsub N4 fun x hx => by
    rcases List.mem_cons.mp hx with rfl | hx
    · exact List.mem_cons_of_mem _ List.mem_cons_self
    · rcases List.mem_cons.mp hx with rfl | hx
      · exact List.mem_cons_self
      · exact List.mem_cons_of_mem _ (List.mem_cons_of_mem _ hx)
  have hLb : (Lc : Addr) ≠ b := hne _ List.mem_cons_self
  obtain ⟨o1', F6, N6, hn6, had6⟩ := swap F4 N5 hc F.above (fun x hx => by
    rcases List.mem_cons.mp hx with rfl | hx
    · exact Ne.symm hLb
    · exact had2 x hx)
  refine h b n s.toks h4 tk4 o1' _ kk p3 F6 (nsub N6 fun x hx => by
    rcases List.mem_cons.mp hx with rfl | hx
    · exact List.mem_cons_of_mem _ List.mem_cons_self
    · rcases List.mem_cons.mp hx with rfl | hx
      · exact List.mem_cons_self
      · exact List.mem_cons_of_mem _ (List.mem_cons_of_mem _ hx)) hn6 ?_ (fun x hx => ?_) (fun A' c' fs' s'' P' hx => hkk A' c' fs' s'' P' hx)
  · show (if Str.ofString "row" = Str.ofString "thing" then _ else m1 (Str.ofString "row")) = _
    rw [if_neg (by decide)]; exact hrow
  · rcases List.mem_cons.mp hx with rfl | hx
    · exact hLb
    · rcases List.mem_cons.mp hx with rfl | hx
      · exact Ne.symm (N4 _ List.mem_cons_self).2.1
      · exact hne x (List.mem_cons_of_mem _ hx)
/-- or to its end -/
theorem outer_end {s : Shared} {A : Around} {Lc L1 itr ga2 : Addr} {m : Str → Option Value} {og2 : Obj} {cn : List (Addr × Obj)} {nn g2 : Nat} {p1 p2 pp : Pos} {c : Code} {k2 : Resume → Sem Fin} {P : End → Shared → Prop}
    (T : Top p loose mean mg mb h₀) (hA : GOk 1 A) (F : Fr h₀ Lc s.heap m) (N : News h₀ Lc s.heap ((itr, rngO (nn : Int) 0) :: (ga2, og2) :: cn)) (hog2 : GenO og2 g2) (hadI : ∀ x ∈ (ga2, og2) :: cn, x.1 ≠ itr)
    (hg2 : s.gens[g2]? = some (.suspended k2 [] c pp [] false)) (hk2 : RetNext w k2) (hbr : AllBare s.gens)
    (h : ∀ h' tk gs, Fr h₀ Lc h' m → News h₀ Lc h' cn → (∀ i, i ≠ g2 → gs[i]? = s.gens[i]?) → gs.size = s.gens.size → AllBare gs → P (.ret (.ok (.ret .none))) { s with heap := h', toks := tk, gens := gs }) :
    SegX (model prog6 w) A (cT q L1 itr) ((model prog6 w).den (cT q L1 itr)) [fR q L1 ga2 p2, fF q L1 p1] s P := by
  have hI := N _ List.mem_cons_self
  refine sx_turn ?_
  refine wpAny_pyNext_range_end (x := (nn : Int)) (left := 0) (step := 1) hA.handled hI.1 (by decide) fun h1 hext => ?_
  have F1 : Fr h₀ Lc h1 m := ⟨F.ns.at' fun o e => hext _ o (Ne.symm hI.2.1) e, fun b o e => hext b o (fun x => by rw [x, hI.2.2] at e; cases e) (F.keep b o e), F.above⟩
  have N1 : News h₀ Lc h1 ((ga2, og2) :: cn) := fun x hx => by
    have := N x (List.mem_cons_of_mem _ hx)
    exact ⟨hext _ _ (hadI x hx) this.1, this.2⟩
  refine sx_block ?_
  show SegX _ _ (cR q L1 ga2) (.pure (.again (cR q L1 ga2))) [fF q L1 p1] _ P
  refine sx_again rfl (sx_turn ?_)
  refine inner_second (s := { s with heap := h1 }) (A := A.over (cR q L1 ga2) [fF q L1 p1]) T ⟨hA.handled, (by show A.depth + 1 + 8 * 0 + 16 < recursionLimit; have := hA.depth; omega)⟩ F1 N1 hog2 hg2 hk2 hbr ?_
  intro h2 gs F2 N2 hgi hgz hbr2
  refine sx_block ?_
  show SegX _ _ (.func (bodyT q) (envT L1)) (leafOf (.ok (.ret .none))) [] _ P
  refine sx_end (.ok (.ret .none)) ?_
  exact h h2 s.toks gs F2 (nsub N2 fun x hx => List.mem_cons_of_mem _ hx) hgi hgz hbr2
end
end Mine
end
section
open PySem PySem.W PySem.W.X PyProof.Rows PyProof.V PySem.Spec PySem.Calls
namespace Mine
/-- the outer generator sleeps behind k items -/
structure OSt (w : World) (h₀ : Heap) (q : Nat → Pos) (nn k : Nat) (ga : Addr) (og : Obj) (g : Nat) (L1 itr ga2 e : Addr) (o1 og2 : Obj) (ne : Nat) (m1 : Str → Option Value) (rest : List (Addr × Obj)) (g2 : Nat) (kk k2 : Resume → Sem Fin) (p1 p2 p3 pp : Pos) (c : Code) (gs : Array GenState) : Prop where
  mga : (ga, og) ∈ rest
  mga2 : (ga2, og2) ∈ rest
  me : (e, tupO [] ne) ∈ rest
  hog : GenO og g
  hog2 : GenO og2 g2
  hn1 : LCg.NsObj o1 m1
  hL : h₀.objs.size ≤ L1
  row : m1 (Str.ofString "row") = some (.ref e)
  nL : ∀ x ∈ (itr, rngO (k : Int) ((nn : Int) - (k : Int))) :: rest, x.1 ≠ L1
  nI : ∀ x ∈ rest, x.1 ≠ itr
  gne : g ≠ g2
  again : AgainNext w (cT q L1 itr) kk
  retn : RetNext w k2
  hg : gs[g]? = some (.suspended kk [] (cT q L1 itr) p3 [fR q L1 ga2 p2, fF q L1 p1] false)
  hg2 : gs[g2]? = some (.suspended k2 [] c pp [] false)
def OS (w : World) (h₀ : Heap) (q : Nat → Pos) (nn k : Nat) (ga : Addr) (px : List (Addr × Obj)) (gs : Array GenState) : Prop :=
  ∃ og g L1 itr ga2 e o1 og2 ne m1 rest g2 kk k2 p1 p2 p3 pp c, px = (L1, o1) :: (itr, rngO (k : Int) ((nn : Int) - (k : Int))) :: rest ∧ OSt w h₀ q nn k ga og g L1 itr ga2 e o1 og2 ne m1 rest g2 kk k2 p1 p2 p3 pp c gs
/-- no entry of the one list at an address of the other -/
def Apart (cn px : List (Addr × Obj)) : Prop := ∀ x ∈ cn, ∀ y ∈ px, x.1 ≠ y.1
section
variable {w : World} {p : Program} {loose : List Str} {mean : ExcName → Option Value} {mg mb : Str → Option Value} {h₀ : Heap} {q : Nat → Pos}
theorem os_next {s : Shared} {A : Around} {E : Value → Shared → Prop} {Lc ga : Addr} {m : Str → Option Value} {cn px : List (Addr × Obj)} {nn k : Nat} {Q : Option Value → Shared → Prop}
    (X : (K06 w.params).In h₀) (T : Top p loose mean mg mb h₀) (hA : GOk 1 A) (F : Fr h₀ Lc s.heap m) (N : News h₀ Lc s.heap (px ++ cn)) (hap : Apart cn px) (S : OS w h₀ q nn k ga px s.gens) (hbr : AllBare s.gens) (hkn : k < nn)
    (h : ∀ b n t px' h' tk gs, Fr h₀ Lc h' m → News h₀ Lc h' ((b, tupO [.int (k : Int) t] n) :: (px' ++ cn)) → Apart ((b, tupO [.int (k : Int) t] n) :: cn) px' → (∀ x ∈ cn, x.1 ≠ b) → OS w h₀ q nn (k + 1) ga px' gs → AllBare gs → Q (some (.ref b)) { s with heap := h', toks := tk, gens := gs }) :
    wpAny (model prog6 w) A (pyNext (.ref ga)) Q E s := by
  obtain ⟨og, g, L1, itr, ga2, e, o1, og2, ne, m1, rest, g2, kk, k2, p1, p2, p3, pp, c, rfl, S⟩ := S
  have hgl := gens_lt S.hg
  have N0 : News h₀ Lc s.heap ((L1, o1) :: (itr, rngO (k : Int) ((nn : Int) - (k : Int))) :: (rest ++ cn)) := N
  have hin : (ga, og) ∈ rest ++ cn := List.mem_append_left _ S.mga
  refine pyNext_gx hA.handled (T.nolimit.keeps F.keep) (by have := hA.depth; omega) (S.hog.is (N0 _ (List.mem_cons_of_mem _ (List.mem_cons_of_mem _ hin))).1) S.hg (.inr ⟨kk, _, _, _, rfl, rfl⟩) ?_
  refine S.again _ _ _ _ _ (sx_again rfl ?_)
  refine outer_item (s := s.setGen g .running) (rest := rest ++ cn) X T F N0 S.hn1 S.hL ?_ ?_ S.row (List.mem_append_left _ S.me) hkn ?_
  · intro x hx
    rcases List.mem_cons.mp hx with rfl | hx
    · exact S.nL _ List.mem_cons_self
    · rcases List.mem_append.mp hx with hx | hx
      · exact S.nL x (List.mem_cons_of_mem _ hx)
      · exact hap x hx _ List.mem_cons_self
  · intro x hx
    rcases List.mem_append.mp hx with hx | hx
    · exact S.nI x hx
    · exact hap x hx _ (List.mem_cons_of_mem _ List.mem_cons_self)
  · intro b n t h' tk o1' m1' kk' p3' F' N' hn' hrow' hne' hkk'
    refine .inr ⟨_, _, _, _, _, _, _, rfl, ?_⟩
    have hneb : ∀ x ∈ (L1, o1') :: (itr, rngO ((k + 1 : Nat) : Int) ((nn : Int) - ((k + 1 : Nat) : Int))) :: (rest ++ cn), x.1 ≠ b := fun x hx => hne' x (List.mem_cons_of_mem _ hx)
    have key := h b n t ((L1, o1') :: (itr, rngO ((k + 1 : Nat) : Int) ((nn : Int) - ((k + 1 : Nat) : Int))) :: rest) h' tk (Shared.setGen { s.setGen g .running with heap := h', toks := tk } g (.suspended kk' [] (cT q L1 itr) p3' [fR q L1 ga2 p2, fF q L1 p1] false)).gens F' N' ?_ ?_ ?_ (bare_set (bare_set hbr rfl) rfl)
    · exact key
    · intro x hx y hy
      rcases List.mem_cons.mp hx with rfl | hx
      · refine Ne.symm (hneb y ?_)
        rcases List.mem_cons.mp hy with rfl | hy
        · exact List.mem_cons_self
        · rcases List.mem_cons.mp hy with rfl | hy
          · exact List.mem_cons_of_mem _ List.mem_cons_self
          · exact List.mem_cons_of_mem _ (List.mem_cons_of_mem _ (List.mem_append_left _ hy))
      · rcases List.mem_cons.mp hy with rfl | hy
        · exact hap x hx (L1, o1) List.mem_cons_self
        · rcases List.mem_cons.mp hy with rfl | hy
          · exact hap x hx (itr, rngO (k : Int) ((nn : Int) - (k : Int))) (List.mem_cons_of_mem _ List.mem_cons_self)
          · exact hap x hx y (List.mem_cons_of_mem _ (List.mem_cons_of_mem _ hy))
    · exact fun x hx => hneb x (List.mem_cons_of_mem _ (List.mem_cons_of_mem _ (List.mem_append_right _ hx)))
    · refine ⟨og, g, L1, itr, ga2, e, o1', og2, ne, m1', rest, g2, kk', k2, p1, p2, p3', pp, c, rfl, S.mga, S.mga2, S.me, S.hog, S.hog2, hn', S.hL, hrow', ?_, S.nI, S.gne, hkk', S.retn, ?_, ?_⟩
      · intro x hx
        rcases List.mem_cons.mp hx with rfl | hx
        · exact S.nL (itr, rngO (k : Int) ((nn : Int) - (k : Int))) List.mem_cons_self
        · exact S.nL x (List.mem_cons_of_mem _ hx)
      · exact setGen_self (by show g < (s.setGen g .running).gens.size; rw [setGen_size]; exact hgl)
      · rw [setGen_ne (Ne.symm S.gne)]
        exact (setGen_ne (Ne.symm S.gne)).trans S.hg2
theorem os_end {s : Shared} {A : Around} {E : Value → Shared → Prop} {Lc ga : Addr} {m : Str → Option Value} {cn px : List (Addr × Obj)} {nn : Nat} {Q : Option Value → Shared → Prop}
    (T : Top p loose mean mg mb h₀) (hA : GOk 1 A) (F : Fr h₀ Lc s.heap m) (N : News h₀ Lc s.heap (px ++ cn)) (hap : Apart cn px) (S : OS w h₀ q nn nn ga px s.gens) (hbr : AllBare s.gens)
    (h : ∀ h' tk gs, Fr h₀ Lc h' m → News h₀ Lc h' cn → AllBare gs → Q none { s with heap := h', toks := tk, gens := gs }) :
    wpAny (model prog6 w) A (pyNext (.ref ga)) Q E s := by
  obtain ⟨og, g, L1, itr, ga2, e, o1, og2, ne, m1, rest, g2, kk, k2, p1, p2, p3, pp, c, rfl, S⟩ := S
  have N0 : News h₀ Lc s.heap ((L1, o1) :: (itr, rngO (nn : Int) ((nn : Int) - (nn : Int))) :: (rest ++ cn)) := N
  have hin : (ga, og) ∈ rest ++ cn := List.mem_append_left _ S.mga
  refine pyNext_gx hA.handled (T.nolimit.keeps F.keep) (by have := hA.depth; omega) (S.hog.is (N0 _ (List.mem_cons_of_mem _ (List.mem_cons_of_mem _ hin))).1) S.hg (.inr ⟨kk, _, _, _, rfl, rfl⟩) ?_
  refine S.again _ _ _ _ _ (sx_again rfl ?_)
  have e0 : ((nn : Int) - (nn : Int)) = 0 := Int.sub_self _
  have N1 : News h₀ Lc s.heap ((itr, rngO (nn : Int) 0) :: (ga2, og2) :: cn) := nsub N0 fun x hx => by
    rcases List.mem_cons.mp hx with rfl | hx
    · rw [e0]; exact List.mem_cons_of_mem _ List.mem_cons_self
    · rcases List.mem_cons.mp hx with rfl | hx
      · exact List.mem_cons_of_mem _ (List.mem_cons_of_mem _ (List.mem_append_left _ S.mga2))
      · exact List.mem_cons_of_mem _ (List.mem_cons_of_mem _ (List.mem_append_right _ hx))
  refine outer_end (s := s.setGen g .running) (A := A.in1) T ⟨hA.handled, hA.depth⟩ F N1 S.hog2 ?_ ((setGen_ne (Ne.symm S.gne)).trans S.hg2) S.retn (bare_set hbr rfl) ?_
  · intro x hx
    rcases List.mem_cons.mp hx with rfl | hx
    · exact S.nI _ S.mga2
    · exact hap x hx _ (List.mem_cons_of_mem _ List.mem_cons_self)
  · intro h' tk gs F' N' hgi hgz hb'
    refine .inl ⟨rfl, fun h'' kp => ?_⟩
    exact h h'' tk _ (fr_keeps F' kp) (news_keeps N' kp) (bare_set (s := { s.setGen g .running with heap := h', toks := tk, gens := gs }) hb' rfl)
end
end Mine
end
section
open PySem PySem.W PySem.W.X PyProof.Rows PyProof.V PySem.Spec PySem.Calls
namespace Mine
/-- the outer generator is fresh -/
structure OF (h₀ : Heap) (q : Nat → Pos) (nn : Nat) (ga : Addr) (og : Obj) (g : Nat) (L1 : Addr) (o1 : Obj) (m1 : Str → Option Value) (gs : Array GenState) : Prop where
  hog : GenO og g
  hn1 : LCg.NsObj o1 m1
  hL : h₀.objs.size ≤ L1
  cnt : ∃ t, m1 (Str.ofString "count") = some (.int 1 t)
  siz : ∃ t, m1 (Str.ofString "size") = some (.int (nn : Int) t)
  ne : ga ≠ L1
  hg : gs[g]? = some (.fresh (.func (bodyT q) (envT L1)))
section
variable {w : World} {p : Program} {loose : List Str} {mean : ExcName → Option Value} {mg mb : Str → Option Value} {h₀ : Heap} {q : Nat → Pos}
theorem os_first {s : Shared} {A : Around} {E : Value → Shared → Prop} {Lc ga L1 : Addr} {og o1 : Obj} {g : Nat} {m m1 : Str → Option Value} {cn : List (Addr × Obj)} {nn : Nat} {Q : Option Value → Shared → Prop}
    (P : TupIs w q) (X : (K06 w.params).In h₀) (T : Top p loose mean mg mb h₀) (hA : GOk 2 A) (F : Fr h₀ Lc s.heap m) (N : News h₀ Lc s.heap ((L1, o1) :: (ga, og) :: cn)) (hap : Apart cn [(L1, o1), (ga, og)]) (S : OF h₀ q nn ga og g L1 o1 m1 s.gens) (hbr : AllBare s.gens) (h1n : 1 ≤ nn) (hnn3 : nn ≤ 3)
    (h : ∀ b n t px' h' tk gs, Fr h₀ Lc h' m → News h₀ Lc h' ((b, tupO [.int ((0 : Nat) : Int) t] n) :: (px' ++ cn)) → Apart ((b, tupO [.int ((0 : Nat) : Int) t] n) :: cn) px' → (∀ x ∈ cn, x.1 ≠ b) → OS w h₀ q nn 1 ga px' gs → AllBare gs → Q (some (.ref b)) { s with heap := h', toks := tk, gens := gs }) :
    wpAny (model prog6 w) A (pyNext (.ref ga)) Q E s := by
  have hgl := gens_lt S.hg
  obtain ⟨tc, hcnt⟩ := S.cnt
  obtain ⟨ts, hsiz⟩ := S.siz
  refine pyNext_gx (c₀ := .func (bodyT q) (envT L1)) hA.handled (T.nolimit.keeps F.keep) (by have := hA.depth; omega) (S.hog.is (N _ (List.mem_cons_of_mem _ List.mem_cons_self)).1) S.hg (.inl ⟨rfl, rfl, rfl⟩) ?_
  obtain ⟨oc, F2, N2, hc, had2⟩ := swap F N S.hn1 S.hL (fun x hx => by
    rcases List.mem_cons.mp hx with rfl | hx
    · exact S.ne
    · exact hap x hx _ List.mem_cons_self)
  rw [den_func]
  refine sx_point (sx_cons (sx_If ?_))
  refine tp_test (s := s.setGen g .running) F2 N2 X T hcnt (b := false) (by decide) fun tk' => ?_
  rw [if_neg Bool.false_ne_true]
  show SegX _ _ _ ((execs [tFor1 q] (envT L1)).wrap Kf (Hf (envT L1)) id id) [] _ _
  refine sx_cons (sx_For (fun _ => rfl) ?_)
  refine tp_iter (s := { s.setGen g .running with toks := tk' }) P F2 N2 X T (by show A.depth + 1 + 8 < recursionLimit; have := hA.depth; omega) hcnt hsiz ?_
  intro h1 tk1 ga2 v hk1 hns1 hlt1 hig1
  have hk1' : ∀ b o, s.heap.get? b = some o → h1.get? b = some o := hk1
  have hns1' : h1.Ns s.heap.objs.size _ := hns1
  have hlt1' : @LT.lt Nat _ s.heap.objs.size ga2 := hlt1
  have hig1' : h1.IsGen ga2 s.gens.size := by
    have : (s.setGen g .running).gens.size = s.gens.size := setGen_size
    rw [← this]; exact hig1
  refine wpAny_pyIter_gen hig1' fun p1 => ?_
  refine sx_turn ?_
  -- the ledger at the inner generator
  obtain ⟨o2, ho2, hn2⟩ := LCg.ns_obj hns1'
  obtain ⟨og2, hog2, hgo2⟩ := gen_obj hig1'
  have old : ∀ b o, s.heap.get? b = some o → @LT.lt Nat _ b s.heap.objs.size := fun b o e => Heap.lt_size e
  have F3 : Fr h₀ L1 h1 m1 := fr_keeps F2 hk1'
  have hfresh : ∀ b : Addr, @LE.le Nat _ s.heap.objs.size b → h₀.get? b = none := fun b hb => by
    cases e : h₀.get? b with
    | none => rfl
    | some o => exact absurd (old b o (F.keep b o e)) (Nat.not_lt.mpr hb)
  have hL1lt : @LT.lt Nat _ L1 s.heap.objs.size := old L1 o1 (N _ List.mem_cons_self).1
  have N3 : News h₀ L1 h1 ((s.heap.objs.size, o2) :: (ga2, og2) :: (Lc, oc) :: (ga, og) :: cn) := by
    intro x hx
    rcases List.mem_cons.mp hx with rfl | hx
    · exact ⟨ho2, Nat.ne_of_gt hL1lt, hfresh _ (Nat.le_refl _)⟩
    · rcases List.mem_cons.mp hx with rfl | hx
      · exact ⟨hog2, Nat.ne_of_gt (Nat.lt_trans hL1lt hlt1'), hfresh _ (Nat.le_of_lt hlt1')⟩
      · have := N2 x hx
        exact ⟨hk1' _ _ this.1, this.2⟩
  have hsmall : ∀ x ∈ (Lc, oc) :: (ga, og) :: cn, @LT.lt Nat _ x.1 s.heap.objs.size := fun x hx => old _ _ (N2 x hx).1
  refine inner_first (s := { s.setGen g .running with heap := h1, toks := tk1, gens := (s.setGen g .running).gens.push (.fresh (.func (bodyT q) (envT s.heap.objs.size))) }) (q := q) (g := s.gens.size) (t := v) (E := fun _ _ => False) X T ⟨hA.handled, (by show A.depth + 1 + 8 * 0 + 16 < recursionLimit; have := hA.depth; omega)⟩ F3 N3 hn2 ?_ hgo2 ?_ ?_ ?_ ?_ ?_
  · rfl
  · exact Nat.le_trans F.above (Nat.le_of_lt (old Lc oc (N2 _ List.mem_cons_self).1))
  · intro x hx
    rcases List.mem_cons.mp hx with rfl | hx
    · exact Nat.ne_of_gt hlt1'
    · exact Nat.ne_of_lt (hsmall x hx)
  · have : (s.setGen g .running).gens.size = s.gens.size := setGen_size
    show ((s.setGen g .running).gens.push _)[s.gens.size]? = _
    rw [← this]; simp
  · exact (bare_set hbr rfl).push rfl
  intro e n h2 tk2 gs2 o2' k2 pp F4 N4 hn2' hne2 hret2 hgs2 hgs2' hgz2 hbr2
  show wpAny _ _ (pure ()) _ _ _
  refine wpAny_pure ?_
  refine wpAny_assign_Name (wpAny_storeName_local (m := m1) rfl F4.ns (fun h3 hn3 hsb3 => ?_) rfl)
  have F5 := F4.set hn3 hsb3
  have N5 := N4.set hsb3
  refine sx_cons (sx_For (fun _ => rfl) ?_)
  refine tp_rng (s := { s.setGen g .running with heap := h3, toks := tk2 + 1, gens := gs2 }) (nn := nn) (t := ts) hA.handled F5 N5 X T ?_ hnn3 ?_
  · show (if Str.ofString "size" = Str.ofString "row" then _ else m1 (Str.ofString "size")) = _
    rw [if_neg (by decide)]; exact hsiz
  intro h6 tk6 r t1 t2 t3 F6 N6 hr
  have hnr : Builtin.Range.rangeSize 0 (nn : Int) 1 = (nn : Int) := by rw [rangeSize_one]; split <;> omega
  refine wpAny_pyIter_range hr (small_one (by decide) (by decide) (by omega) (by omega)) fun p2 => ?_
  rw [hnr]
  have old6 : ∀ x ∈ (e, tupO [] n) :: (s.heap.objs.size, o2') :: (ga2, og2) :: (Lc, oc) :: (ga, og) :: cn, @LT.lt Nat _ x.1 h6.objs.size := fun x hx => Heap.lt_size (N6 x hx).1
  have e0 : rngO ((0 : Nat) : Int) ((nn : Int) - ((0 : Nat) : Int)) = rngO 0 (nn : Int) := by
    have : (nn : Int) - ((0 : Nat) : Int) = (nn : Int) := by omega
    rw [this]; rfl
  have F7 := F6.push (rngO 0 (nn : Int))
  have N7 : News h₀ L1 (h6.push (rngO 0 (nn : Int))) ((Lc, oc) :: (h6.objs.size, rngO ((0 : Nat) : Int) ((nn : Int) - ((0 : Nat) : Int))) :: ([(e, tupO [] n), (s.heap.objs.size, o2'), (ga2, og2), (ga, og)] ++ cn)) := by
    have up : ∀ x ∈ (e, tupO [] n) :: (s.heap.objs.size, o2') :: (ga2, og2) :: (Lc, oc) :: (ga, og) :: cn, (h6.push (rngO 0 (nn : Int))).get? x.1 = some x.2 ∧ x.1 ≠ L1 ∧ h₀.get? x.1 = none := fun x hx => ⟨Heap.get?_push_of_some _ (N6 x hx).1, (N6 x hx).2⟩
    intro x hx
    rcases List.mem_cons.mp hx with rfl | hx
    · exact up _ (by simp)
    · rcases List.mem_cons.mp hx with rfl | hx
      · rw [e0]
        exact ⟨Heap.get?_push_size _ rfl, Nat.ne_of_gt F6.ns.lt, next_is_new F6⟩
      · refine up x ?_
        rcases List.mem_append.mp hx with hx | hx
        · simp only [List.mem_cons, List.not_mem_nil, or_false] at hx
          rcases hx with rfl | rfl | rfl | rfl <;> simp
        · simp [hx]
  have hLcs : @LT.lt Nat _ Lc s.heap.objs.size := hsmall _ List.mem_cons_self
  have hcns : ∀ x ∈ cn, @LT.lt Nat _ x.1 s.heap.objs.size := fun x hx => hsmall x (by simp [hx])
  obtain ⟨o1', F9, N9, hn9, had9⟩ := swap F7 N7 hc F.above (fun x hx => by
    rcases List.mem_cons.mp hx with rfl | hx
    · exact Nat.ne_of_gt (old6 (Lc, oc) (by simp))
    · rcases List.mem_append.mp hx with hx | hx
      · simp only [List.mem_cons, List.not_mem_nil, or_false] at hx
        rcases hx with rfl | rfl | rfl | rfl
        · exact Ne.symm (hne2 (Lc, oc) (by simp))
        · exact Nat.ne_of_gt hLcs
        · exact Nat.ne_of_gt (Nat.lt_trans hLcs hlt1')
        · exact had2 _ (by simp)
      · exact had2 x (by simp [hx]))
  have hI : ∀ x ∈ [(e, tupO [] n), (s.heap.objs.size, o2'), (ga2, og2), (ga, og)] ++ cn, x.1 ≠ h6.objs.size := fun x hx => by
    refine Nat.ne_of_lt (old6 x ?_)
    rcases List.mem_append.mp hx with hx | hx
    · simp only [List.mem_cons, List.not_mem_nil, or_false] at hx
      rcases hx with rfl | rfl | rfl | rfl <;> simp
    · simp [hx]
  have hL1 : ∀ x ∈ (h6.objs.size, rngO ((0 : Nat) : Int) ((nn : Int) - ((0 : Nat) : Int))) :: ([(e, tupO [] n), (s.heap.objs.size, o2'), (ga2, og2), (ga, og)] ++ cn), x.1 ≠ L1 := fun x hx => (N7 x (List.mem_cons_of_mem _ hx)).2.1
  have hgz : gs2.size = s.gens.size + 1 := by
    rw [hgz2]
    show ((s.setGen g .running).gens.push _).size = _
    rw [Array.size_push, setGen_size]
  refine outer_item (q := q) (s := { s.setGen g .running with heap := h6.push (rngO 0 (nn : Int)), toks := tk6, gens := gs2 }) (k := 0) (nn := nn) (rest := [(e, tupO [] n), (s.heap.objs.size, o2'), (ga2, og2), (ga, og)] ++ cn) (e := e) (ne := n) X T F9 N9 hn9 S.hL hL1 hI ?_ (by simp) (by omega) ?_
  · show (if Str.ofString "row" = Str.ofString "row" then _ else _) = _
    rw [if_pos rfl]
  intro b n' t h' tk o1'' m1' kk p3 F' N' hn' hrow' hneb hkk
  refine .inr ⟨_, _, _, _, _, _, _, rfl, ?_⟩
  have key := h b n' t ((L1, o1'') :: (h6.objs.size, rngO ((0 + 1 : Nat) : Int) ((nn : Int) - ((0 + 1 : Nat) : Int))) :: [(e, tupO [] n), (s.heap.objs.size, o2'), (ga2, og2), (ga, og)]) h' tk (Shared.setGen { s.setGen g .running with heap := h', toks := tk, gens := gs2 } g (.suspended kk [] (cT q L1 h6.objs.size) p3 [fR q L1 ga2 p2, fF q L1 p1] false)).gens F' N' ?_ ?_ ?_ (bare_set (s := { s.setGen g .running with heap := h', toks := tk, gens := gs2 }) hbr2 rfl)
  · exact key
  · intro x hx y hy
    rcases List.mem_cons.mp hx with rfl | hx
    · refine Ne.symm (hneb y (List.mem_cons_of_mem _ ?_))
      rcases List.mem_cons.mp hy with rfl | hy
      · exact List.mem_cons_self
      · rcases List.mem_cons.mp hy with rfl | hy
        · exact List.mem_cons_of_mem _ List.mem_cons_self
        · exact List.mem_cons_of_mem _ (List.mem_cons_of_mem _ (List.mem_append_left _ hy))
    · simp only [List.mem_cons, List.not_mem_nil, or_false] at hy
      rcases hy with rfl | rfl | rfl | rfl | rfl | rfl
      · exact hap x hx (L1, o1) (by simp)
      · exact hI x (List.mem_append_right _ hx)
      · exact hne2 x (by simp [hx])
      · exact Nat.ne_of_lt (hcns x hx)
      · exact Nat.ne_of_lt (Nat.lt_trans (hcns x hx) hlt1')
      · exact hap x hx (ga, og) (by simp)
  · exact fun x hx => hneb x (List.mem_cons_of_mem _ (List.mem_cons_of_mem _ (List.mem_cons_of_mem _ (List.mem_append_right _ hx))))
  · refine ⟨og, g, L1, h6.objs.size, ga2, e, o1'', og2, n, m1', _, s.gens.size, kk, k2, p1, p2, p3, pp, (.func (bodyT q) (envT s.heap.objs.size)), rfl, by simp, by simp, by simp, S.hog, hgo2, hn', S.hL, hrow', ?_, fun x hx => hI x (List.mem_append_left _ hx), Nat.ne_of_lt hgl, hkk, hret2, ?_, ?_⟩
    · intro x hx
      rcases List.mem_cons.mp hx with rfl | hx
      · exact hL1 (h6.objs.size, rngO ((0 : Nat) : Int) ((nn : Int) - ((0 : Nat) : Int))) List.mem_cons_self
      · exact hL1 x (List.mem_cons_of_mem _ (List.mem_append_left _ hx))
    · exact setGen_self (by show g < gs2.size; rw [hgz]; omega)
    · rw [setGen_ne (Nat.ne_of_gt hgl)]
      exact hgs2
end
end Mine
end
section
open PySem PySem.W PySem.W.X PyProof.Rows PyProof.V PySem.Spec PySem.Calls
namespace Mine
/-- a generator of tuples behind k items -/
def GT (w : World) (h₀ : Heap) (q : Nat → Pos) (nn k : Nat) (ga : Addr) (px : List (Addr × Obj)) (gs : Array GenState) : Prop :=
  (k = 0 ∧ ∃ og g L1 o1 m1, px = [(L1, o1), (ga, og)] ∧ OF h₀ q nn ga og g L1 o1 m1 gs) ∨ (1 ≤ k ∧ OS w h₀ q nn k ga px gs)
section
variable {w : World} {p : Program} {loose : List Str} {mean : ExcName → Option Value} {mg mb : Str → Option Value} {h₀ : Heap} {q : Nat → Pos}
theorem gt_next {s : Shared} {A : Around} {E : Value → Shared → Prop} {Lc ga : Addr} {m : Str → Option Value} {cn px : List (Addr × Obj)} {nn k : Nat} {Q : Option Value → Shared → Prop}
    (P : TupIs w q) (X : (K06 w.params).In h₀) (T : Top p loose mean mg mb h₀) (hA : GOk 2 A) (F : Fr h₀ Lc s.heap m) (N : News h₀ Lc s.heap (px ++ cn)) (hap : Apart cn px) (S : GT w h₀ q nn k ga px s.gens) (hbr : AllBare s.gens) (hkn : k < nn) (hnn3 : nn ≤ 3)
    (h : ∀ b n t px' h' tk gs, Fr h₀ Lc h' m → News h₀ Lc h' ((b, tupO [.int (k : Int) t] n) :: (px' ++ cn)) → Apart ((b, tupO [.int (k : Int) t] n) :: cn) px' → (∀ x ∈ cn, x.1 ≠ b) → GT w h₀ q nn (k + 1) ga px' gs → AllBare gs → Q (some (.ref b)) { s with heap := h', toks := tk, gens := gs }) :
    wpAny (model prog6 w) A (pyNext (.ref ga)) Q E s := by
  rcases S with ⟨rfl, og, g, L1, o1, m1, rfl, S⟩ | ⟨h1, S⟩
  · exact os_first P X T hA F N hap S hbr hkn hnn3 fun b n t px' h' tk gs F' N' a1 a2 S' b' => h b n t px' h' tk gs F' N' a1 a2 (.inr ⟨Nat.le_refl 1, S'⟩) b'
  · exact os_next X T ⟨hA.handled, by have := hA.depth; omega⟩ F N hap S hbr hkn fun b n t px' h' tk gs F' N' a1 a2 S' b' => h b n t px' h' tk gs F' N' a1 a2 (.inr ⟨by omega, S'⟩) b'
theorem gt_end {s : Shared} {A : Around} {E : Value → Shared → Prop} {Lc ga : Addr} {m : Str → Option Value} {cn px : List (Addr × Obj)} {nn : Nat} {Q : Option Value → Shared → Prop}
    (T : Top p loose mean mg mb h₀) (hA : GOk 2 A) (F : Fr h₀ Lc s.heap m) (N : News h₀ Lc s.heap (px ++ cn)) (hap : Apart cn px) (S : GT w h₀ q nn nn ga px s.gens) (hbr : AllBare s.gens) (h1n : 1 ≤ nn)
    (h : ∀ h' tk gs, Fr h₀ Lc h' m → News h₀ Lc h' cn → AllBare gs → Q none { s with heap := h', toks := tk, gens := gs }) :
    wpAny (model prog6 w) A (pyNext (.ref ga)) Q E s := by
  rcases S with ⟨h0, _⟩ | ⟨_, S⟩
  · omega
  · exact os_end T ⟨hA.handled, by have := hA.depth; omega⟩ F N hap S hbr h
end
/-- behind a turn of a loop over tuples -/
def GEnd (h₀ : Heap) (L : Addr) (J : (Str → Option Value) → List (Addr × Obj) → Prop) (px : List (Addr × Obj)) (s₁ : Shared) (f : Flow) (s₂ : Shared) : Prop :=
  f = .next ∧ ∃ h' tk m' front, s₂ = { s₁ with heap := h', toks := tk } ∧ Fr h₀ L h' m' ∧ News h₀ L h' (front ++ px) ∧ Apart front px ∧ J m' front
/-- a loop over tuples -/
def GLoop (w : World) (A : Around) (h₀ : Heap) (env : Env) (x : Str) (body : List Stmt) (Q : Flow → Shared → Prop) (E : Value → Shared → Prop) (it : Value) (s₂ : Shared) : Prop :=
  ∃ (ga : Addr) (nn : Nat) (q : Nat → Pos) (p : Program) (loose : List Str) (mean : ExcName → Option Value) (mg mb : Str → Option Value) (J : Nat → (Str → Option Value) → List (Addr × Obj) → Prop) (m : Str → Option Value) (front px : List (Addr × Obj)),
    it = .ref ga ∧ GOk 2 A ∧ 1 ≤ nn ∧ nn ≤ 3 ∧ TupIs w q ∧ (K06 w.params).In h₀ ∧ Top p loose mean mg mb h₀ ∧ Fr h₀ env.locals s₂.heap m ∧ News h₀ env.locals s₂.heap (front ++ px) ∧ Apart front px ∧ GT w h₀ q nn 0 ga px s₂.gens ∧ AllBare s₂.gens ∧ J 0 m front ∧
    (∀ k m₁ front px h tk gs b n t, k < nn → J k m₁ front → Fr h₀ env.locals h (upm x (some (.ref b)) m₁) → News h₀ env.locals h ((b, tupO [.int (k : Int) t] n) :: (front ++ px)) → Apart ((b, tupO [.int (k : Int) t] n) :: front) px → (∀ y ∈ front, y.1 ≠ b) →
      wpAny (model prog6 w) A (execs body env) (GEnd h₀ env.locals (J (k + 1)) px { s₂ with heap := h, toks := tk, gens := gs }) E { s₂ with heap := h, toks := tk, gens := gs }) ∧
    ∀ h tk gs m' front, Fr h₀ env.locals h m' → News h₀ env.locals h front → J nn m' front → AllBare gs → Q .next { s₂ with heap := h, toks := tk, gens := gs }
theorem For_gen {w : World} {A : Around} {h₀ : Heap} {env : Env} {s : Shared} {E : Value → Shared → Prop} {Q : Flow → Shared → Prop} {x : Str} {px pos : Pos} {iter : PySem.Expr} {body : List Stmt} {mm : Str → Option Value} (_F₀ : Fr h₀ env.locals s.heap mm) (hx : env.kindOf x = some .local)
    (hp : (env.scope.kind == .class || (env.scope.kind == .module && env.locals != env.globals)) = false)
    (h : wpAny (model prog6 w) A (eval iter env) (fun xv s₁ => wpAny (model prog6 w) A (pyIter xv) (fun it s₂ => GLoop w A h₀ env x body Q E it s₂) E s₁) E s)
    (hs : ∀ x, foldedSetIterable iter env x = pure x := by intro _; rfl)
    (hE : PassesOwn (model prog6 w) A env E := by passes_own) :
    wpAny (model prog6 w) A (exec (.For (.Name x px) iter body [] pos) env) Q E s := by
  refine wpAny_For (wpAny_mono h (fun xv s₁ h₁ => wpAny_mono h₁ (fun it s₂ h₂ => ?_) fun _ _ e => e) fun _ _ e => e) hs
  obtain ⟨ga, nn, q, p, loose, mean, mg, mb, J, m, front, px, rfl, hA, h1n, hn3, P, X, T, F, N, hap, S, hbr, h0, turn, done⟩ := h₂
  refine codeAny_forLoop_any (R := fun r s' => match r with | .ok f => Q f s' | .error e => cameBackBy (model prog6 w) A env E e s')
    (fun n s' => ∃ k h tk gs px m₁ front, s' = { s₂ with heap := h, toks := tk, gens := gs } ∧ n = nn - k ∧ k ≤ nn ∧ Fr h₀ env.locals h m₁ ∧ News h₀ env.locals h (front ++ px) ∧ Apart front px ∧ GT w h₀ q nn k ga px gs ∧ AllBare gs ∧ J k m₁ front) ?_ nn
    ⟨0, s₂.heap, s₂.toks, s₂.gens, px, m, front, rfl, rfl, Nat.zero_le _, F, N, hap, S, hbr, h0⟩
  rintro n s' ⟨k, h, tk, gs, px, m₁, front, rfl, rfl, hk, F, N, hap, S, hbr, hJ⟩
  have N' : News h₀ env.locals h (px ++ front) := nsub N fun y hy => (List.mem_append.mp hy).elim (fun h => List.mem_append_right _ h) fun h => List.mem_append_left _ h
  by_cases hkn : k < nn
  · refine gt_next (s := { s₂ with heap := h, toks := tk, gens := gs }) P X T hA F N' hap S hbr hkn hn3 fun b n t px' h' tk' gs' F' N2 a1 a2 S' b' => ?_
    show wpAny _ _ (pure ()) _ _ _
    refine wpAny_pure ?_
    refine wpAny_assign_Name (wpAny_storeName_local hx F'.ns (fun h3 hn3 hsb3 => ?_) hp)
    have F3 := F'.set hn3 hsb3
    have N3 : News h₀ env.locals h3 ((b, tupO [.int (k : Int) t] n) :: (front ++ px')) := nsub (N2.set hsb3) fun y hy => by
      rcases List.mem_cons.mp hy with rfl | hy
      · exact List.mem_cons_self
      · exact List.mem_cons_of_mem _ ((List.mem_append.mp hy).elim (fun h => List.mem_append_right _ h) fun h => List.mem_append_left _ h)
    refine wpAny_passesOwn hE (wpAny_mono (turn k m₁ front px' h3 (tk' + 1) gs' b n t hkn hJ F3 N3 a1 a2) (fun f s₃ hf => ?_) fun _ _ e => e)
    obtain ⟨rfl, h4, tk4, m4, front4, rfl, F4, N4, ap4, J4⟩ := hf
    exact ⟨nn - (k + 1), by omega, k + 1, h4, tk4, gs', px', m4, front4, rfl, rfl, by omega, F4, N4, ap4, S', b', J4⟩
  · have : k = nn := by omega
    subst this
    refine gt_end (s := { s₂ with heap := h, toks := tk, gens := gs }) T hA F N' hap S hbr h1n fun h' tk' gs' F' N2 b' => ?_
    exact wpAny_execs_nil (done h' tk' gs' m₁ front F' N2 hJ b')
/-- tuples is called by a frame of the walk -/
theorem tuples_K {w : World} {p : Program} {loose : List Str} {mean : ExcName → Option Value} {mg mb : Str → Option Value} {A : Around} {E : Value → Shared → Prop} {s : Shared} {h₀ : Heap} {L : Addr} {m : Str → Option Value} {news : List (Addr × Obj)} {nn : Nat} {t u : Tok} {q : Nat → Pos} {Q : Value → Shared → Prop}
    (P : TupIs w q) (X : (K06 w.params).In h₀) (T : Top p loose mean mg mb h₀) (hd : A.depth + 8 < recursionLimit) (F : Fr h₀ L s.heap m) (N : News h₀ L s.heap news)
    (h : ∀ h' tk' ga px gs, Fr h₀ L h' m → News h₀ L h' (news ++ px) → Apart news px → GT w h₀ q nn 0 ga px gs → (AllBare s.gens → AllBare gs) → h'.IsGen ga s.gens.size → Q (.ref ga) { s with heap := h', toks := tk', gens := gs }) :
    wpAny (model prog6 w) A (call (.ref 158) [.int (nn : Int) t, .int 1 u]) Q E s := by
  refine tuples_at P X T F.keep hd fun h' tk' it hk hns hlt hig => ?_
  obtain ⟨o1, ho1, hn1⟩ := LCg.ns_obj hns
  obtain ⟨og, hog, hgo⟩ := gen_obj hig
  have old : ∀ b o, s.heap.get? b = some o → @LT.lt Nat _ b s.heap.objs.size := fun b o e => Heap.lt_size e
  have hfresh : ∀ b : Addr, @LE.le Nat _ s.heap.objs.size b → h₀.get? b = none := fun b hb => by
    cases e : h₀.get? b with
    | none => rfl
    | some o => exact absurd (old b o (F.keep b o e)) (Nat.not_lt.mpr hb)
  have hLlt : @LT.lt Nat _ L s.heap.objs.size := F.ns.lt
  have hlt' : @LT.lt Nat _ s.heap.objs.size it := hlt
  refine h h' tk' it [(s.heap.objs.size, o1), (it, og)] _ (fr_keeps F hk) ?_ ?_ (.inl ⟨rfl, og, s.gens.size, s.heap.objs.size, o1, _, rfl, hgo, hn1, Nat.le_trans F.above (Nat.le_of_lt hLlt), ⟨u, rfl⟩, ⟨t, rfl⟩, Nat.ne_of_gt hlt', by simp⟩) (fun hb => hb.push rfl) hig
  · intro x hx
    rcases List.mem_append.mp hx with hx | hx
    · exact ⟨hk _ _ (N x hx).1, (N x hx).2⟩
    · simp only [List.mem_cons, List.not_mem_nil, or_false] at hx
      rcases hx with rfl | rfl
      · exact ⟨ho1, Nat.ne_of_gt hLlt, hfresh _ (Nat.le_refl _)⟩
      · exact ⟨hog, Nat.ne_of_gt (Nat.lt_trans hLlt hlt'), hfresh _ (Nat.le_of_lt hlt')⟩
  · intro x hx y hy
    have hx' := old _ _ (N x hx).1
    simp only [List.mem_cons, List.not_mem_nil, or_false] at hy
    rcases hy with rfl | rfl
    · exact Nat.ne_of_lt hx'
    · exact Nat.ne_of_lt (Nat.lt_trans hx' hlt')
end Mine
end
section
open PySem PySem.W PySem.W.X PyProof.Rows PyProof.V PySem.Spec PySem.Calls
namespace Mine
/-- behind the one turn of a loop over a list of one item; generators may have come and gone -/
def O1End (h₀ : Heap) (L l T : Addr) (nn : Nat) (own : List (Addr × Obj)) (s₁ : Shared) (Q : Flow → Shared → Prop) (f : Flow) (s₂ : Shared) : Prop :=
  f = .next ∧ ∃ h' tk gs m' news' nx, s₂ = { s₁ with heap := h', toks := tk, gens := gs } ∧ Fr h₀ L h' m' ∧ News h₀ L h' news' ∧ (∀ p ∈ nx, p ∈ news') ∧ (∀ p ∈ own, p ∈ news') ∧ (∀ p ∈ own, ∀ q ∈ nx, p.1 ≠ q.1) ∧ (l, listOf [Value.ref T].toArray nn) ∈ nx ∧ (∀ h'' tk'', Fr h₀ L h'' m' → News h₀ L h'' nx → Q .next { s₁ with heap := h'', toks := tk'', gens := gs })
/-- the source of a loop over one pair -/
def OneSrc (w : World) (A : Around) (h₀ : Heap) (env : Env) (elts : List PySem.Expr) (x1 : Nat) (pt : Pos) (body : List Stmt) (Q : Flow → Shared → Prop) (E : Value → Shared → Prop) (xv : Value) (s₁ : Shared) : Prop :=
  ∃ l T nn m news, xv = .ref l ∧ Fr h₀ env.locals s₁.heap m ∧ News h₀ env.locals s₁.heap news ∧ (l, listOf [Value.ref T].toArray nn) ∈ news ∧
      ∀ h tk own, (∀ p ∈ own, ∀ q ∈ news, p.1 ≠ q.1) → (∀ p ∈ own, p.2.cls = .type "list_iterator") → Fr h₀ env.locals h m → News h₀ env.locals h (news ++ own) →
        wpAny (model prog6 w) A (assign (.Tuple elts x1 pt) env (.ref T)) (fun _ s₂ => wpAny (model prog6 w) A (execs body env) (O1End h₀ env.locals l T nn own s₁ Q) E s₂) E { s₁ with heap := h, toks := tk }
theorem For_one {w : World} {A : Around} {h₀ : Heap} {env : Env} {s : Shared} {E : Value → Shared → Prop} {Q : Flow → Shared → Prop} {elts : List PySem.Expr} {x1 : Nat} {pt pos : Pos} {iter : PySem.Expr} {body : List Stmt} {mm : Str → Option Value} (hh : A.handled = none) (_F₀ : Fr h₀ env.locals s.heap mm)
    (h : wpAny (model prog6 w) A (eval iter env) (OneSrc w A h₀ env elts x1 pt body Q E) E s)
    (hs : ∀ x, foldedSetIterable iter env x = pure x := by intro _; rfl)
    (hE : PassesOwn (model prog6 w) A env E := by passes_own) :
    wpAny (model prog6 w) A (exec (.For (.Tuple elts x1 pt) iter body [] pos) env) Q E s := by
  refine wpAny_For (wpAny_mono h (fun xv s₁ h₁ => ?_) fun _ _ e => e) hs
  obtain ⟨l, T, nn, m, news, rfl, F, N, hl, turn⟩ := h₁
  have hol := (N _ hl).1
  have hls : s₁.heap.IsList l [Value.ref T].toArray := ⟨_, hol, rfl, nn, rfl⟩
  have hne : l ≠ s₁.heap.objs.size := Nat.ne_of_lt (Heap.lt_size hol)
  refine wpAny_pyIter_list hls ?_
  refine codeAny_forLoop_any (R := fun r s' => match r with | .ok f => Q f s' | .error e => cameBackBy (model prog6 w) A env E e s')
    (fun n s' => (n = 1 ∧ s' = { s₁ with heap := s₁.heap.push { cls := .type "list_iterator", data := .fields #[.ref l, .int 0 0] } }) ∨
      (n = 0 ∧ ∃ h tk gs m' nx, s' = { s₁ with heap := h, toks := tk, gens := gs } ∧ Fr h₀ env.locals h m' ∧ News h₀ env.locals h nx ∧ (∀ q ∈ nx, q.1 ≠ s₁.heap.objs.size) ∧ (l, listOf [Value.ref T].toArray nn) ∈ nx ∧ h.IsListIter s₁.heap.objs.size l 1 ∧ ∀ h'' tk'', Fr h₀ env.locals h'' m' → News h₀ env.locals h'' nx → Q .next { s₁ with heap := h'', toks := tk'', gens := gs })) ?_ 1 (.inl ⟨rfl, rfl⟩)
  have hI0 : h₀.get? s₁.heap.objs.size = none := next_is_new F
  have hIL : s₁.heap.objs.size ≠ env.locals := Nat.ne_of_gt F.ns.lt
  rintro n s' (⟨rfl, rfl⟩ | ⟨rfl, h, tk, gs, m', nx, rfl, F2, N2, hoff, hl2, hit2, hq⟩)
  · have hit : (s₁.heap.push { cls := .type "list_iterator", data := .fields #[.ref l, .int 0 0] }).IsListIter s₁.heap.objs.size l 0 := ⟨_, Heap.get?_push_size _ rfl, rfl, rfl⟩
    refine wpAny_pyNext_list_item (l := l) (i := 0) (items := [Value.ref T].toArray) (x := .ref T) hit ⟨_, Heap.get?_push_of_some _ hol, rfl, nn, rfl⟩ rfl (fun h1 hit1 hsb1 => ?_)
    refine wpAny_letOwnedTupleGo_listiter hit1 ?_
    obtain ⟨oi, hoi, hic, hid⟩ := id hit1
    have up : ∀ b o, b ≠ s₁.heap.objs.size → s₁.heap.get? b = some o → h1.get? b = some o := fun b o hb e => (hsb1.2 b hb).trans (Heap.get?_push_of_some _ e)
    have F1 : Fr h₀ env.locals h1 m := (F.push _).change hsb1 hIL hI0
    have N1 : News h₀ env.locals h1 (news ++ [(s₁.heap.objs.size, oi)]) := by
      intro x hx
      rcases List.mem_append.mp hx with hx | hx
      · exact ⟨up _ _ (Nat.ne_of_lt (Heap.lt_size (N x hx).1)) (N x hx).1, (N x hx).2⟩
      · rw [List.mem_singleton.mp hx]
        exact ⟨hoi, hIL, hI0⟩
    have ap : ∀ x ∈ [(s₁.heap.objs.size, oi)], ∀ y ∈ news, x.1 ≠ y.1 := fun x hx y hy => by
      rw [List.mem_singleton.mp hx]
      exact Nat.ne_of_gt (Heap.lt_size (N y hy).1)
    refine wpAny_passesOwn hE (wpAny_mono (turn h1 s₁.toks [(s₁.heap.objs.size, oi)] ap (fun x hx => by rw [List.mem_singleton.mp hx]; exact hic) F1 N1) (fun _ s₂ h₂ => ?_) fun _ _ e => e)
    refine wpAny_passesOwn hE (wpAny_mono h₂ (fun f s₃ h₃ => ?_) fun _ _ e => e)
    obtain ⟨rfl, h', tk, gs, m', news', nx, rfl, F', N', q1, q2, q3, q4, q5⟩ := h₃
    refine ⟨0, by omega, .inr ⟨rfl, h', tk, gs, m', nx, rfl, F', fun p hp => N' p (q1 p hp), fun p hp e => q3 _ List.mem_cons_self p hp e.symm, q4, ⟨oi, (N' _ (q2 _ List.mem_cons_self)).1, hic, hid⟩, q5⟩⟩
  · have hol2 := (N2 _ hl2).1
    refine wpAny_pyNext_list_end (l := l) (i := 1) (items := [Value.ref T].toArray) hh hit2 ⟨_, hol2, rfl, nn, rfl⟩ rfl (fun h3 hext => ?_)
    refine wpAny_execs_nil (hq h3 tk ⟨F2.ns.at' fun o e => hext _ o (Ne.symm hIL) e, fun b o e => hext b o (fun x => by rw [x, hI0] at e; cases e) (F2.keep b o e), F2.above⟩ fun x hx => ⟨hext _ _ (hoff x hx) (N2 x hx).1, (N2 x hx).2⟩)
/-- the source of a loop over no pair -/
def NoSrc (h₀ : Heap) (L : Addr) (Q : Flow → Shared → Prop) (xv : Value) (s₁ : Shared) : Prop :=
  ∃ l nn m news, xv = .ref l ∧ Fr h₀ L s₁.heap m ∧ News h₀ L s₁.heap news ∧ (l, listOf #[] nn) ∈ news ∧ ∀ h tk, Fr h₀ L h m → News h₀ L h news → Q .next { s₁ with heap := h, toks := tk }
theorem For_none {w : World} {A : Around} {h₀ : Heap} {env : Env} {s : Shared} {E : Value → Shared → Prop} {Q : Flow → Shared → Prop} {elts : List PySem.Expr} {x1 : Nat} {pt pos : Pos} {iter : PySem.Expr} {body : List Stmt} {mm : Str → Option Value} (hh : A.handled = none) (_F₀ : Fr h₀ env.locals s.heap mm)
    (h : wpAny (model prog6 w) A (eval iter env) (NoSrc h₀ env.locals Q) E s)
    (hs : ∀ x, foldedSetIterable iter env x = pure x := by intro _; rfl) :
    wpAny (model prog6 w) A (exec (.For (.Tuple elts x1 pt) iter body [] pos) env) Q E s := by
  refine wpAny_For (wpAny_mono h (fun xv s₁ h₁ => ?_) fun _ _ e => e) hs
  obtain ⟨l, nn, m, news, rfl, F, N, hl, done⟩ := h₁
  have hol := (N _ hl).1
  have hls : s₁.heap.IsList l #[] := ⟨_, hol, rfl, nn, rfl⟩
  refine wpAny_pyIter_list hls ?_
  have hI0 : h₀.get? s₁.heap.objs.size = none := next_is_new F
  have hIL : s₁.heap.objs.size ≠ env.locals := Nat.ne_of_gt F.ns.lt
  refine codeAny_forLoop_any (R := fun r s' => match r with | .ok f => Q f s' | .error e => cameBackBy (model prog6 w) A env E e s')
    (fun _ s' => s' = { s₁ with heap := s₁.heap.push { cls := .type "list_iterator", data := .fields #[.ref l, .int 0 0] } }) ?_ 0 rfl
  rintro n s' rfl
  refine wpAny_pyNext_list_end (l := l) (i := 0) (items := #[]) hh ⟨_, Heap.get?_push_size _ rfl, rfl, rfl⟩ ⟨_, Heap.get?_push_of_some _ hol, rfl, nn, rfl⟩ rfl (fun h3 hext => ?_)
  have F1 := F.push { cls := .type "list_iterator", data := .fields #[.ref l, .int 0 0] }
  refine wpAny_execs_nil (done h3 s₁.toks ⟨F1.ns.at' fun o e => hext _ o (Ne.symm hIL) e, fun b o e => hext b o (fun x => by rw [x, hI0] at e; cases e) (F1.keep b o e), F1.above⟩ fun x hx => ⟨hext _ _ (Nat.ne_of_lt (Heap.lt_size (N x hx).1)) (Heap.get?_push_of_some _ (N x hx).1), (N x hx).2⟩)
end Mine
end
section
open PySem PySem.W PyProof.Rows PyProof.V PySem.Spec
namespace Mine
local macro_rules | `(tactic| k_mem) => `(tactic| first | exact List.mem_cons_self | with_reducible assumption | (refine List.mem_cons_of_mem _ ?_; k_mem))
local macro_rules | `(tactic| k_all) => `(tactic| first | exact List.forall_mem_nil _ | with_reducible assumption | exact allLt_ne (by with_reducible assumption) | (refine' List.forall_mem_cons.mpr ⟨?a, ?b⟩; (case a => k_ne); (case b => k_all)))
local macro_rules | `(tactic| k_lt $h:ident) => `(tactic| (replace $h := allLt_of $h; (try simp only [AllLt, and_true] at $h:ident); repeat (with_reducible (rename _ ∧ _ => hh9); obtain ⟨_, _⟩ := hh9)))
local macro_rules | `(tactic| walk_at "enter") => `(tactic| (refine' code_def ?k1 ?k2 ?k3 ?k4 ?k5 ?kA ?kF ?kK ?k6 ?k7 ?k8 ?k9 ?kB ?_ ?c2 ?c3 ?c4 ?c5; (case kA => exact rfl); (case kF => exact rfl); (case kK => first | exact rfl | assumption); (case k2 => k_asm); (case k1 => k_asm); (case k3 => k_asm); (case k4 => k_asm); (case k5 => k_asm); (case k6 => k_is); (case k7 => k_is); (case k8 => ktr_room); (case k9 => first | exact BindsTo.of_eq rfl | exact binds_K (by k_in) rfl (by k_is) rfl rfl rfl); (case c5 => decide); (case kB => exact locs rfl); (case c2 => exact rfl); (case c3 => exact rfl); (case c4 => exact rfl); k_whole; intro g' L' h' FG' F' N' B' X' T'; (try dsimp only); (try k_fold)))
local macro_rules | `(tactic| walk_at $s:str) => `(tactic| k_extra $s)
theorem peek_ok (w : World) (p : Program) (loose : List Str) (mean : ExcName → Option Value) (mg mb : Str → Option Value) :
    ∀ (dp un : Nat) (gd : Option (List Code)) (cn : Str) (cs : Scope) (a : Addr) (ccd : Value) (cl : List (Str × Addr)) (outer : List Env) (A₀ : Around) (base h₀ : Heap) (L : Addr) (m : Str → Option Value) (news : List (Addr × Obj)) (s : Shared) (rd dd tl : Addr) (r : RT) (nt : Nat) (vs : List Value) (ws : List (Str × Int)) (i : Nat) (dq : Int) (x : Str) (Q E : Value → Shared → Prop),
      Below A₀ base outer h₀ → Fr h₀ L s.heap m → (K06 w.params).In h₀ → News h₀ L s.heap news → Top p loose mean mg mb h₀ → cs.kind = .function → dp + 20 < recursionLimit → un + 160 < cLine →
      RS 316 w news rd dd tl r nt vs ws i dq → wordAt ws i = x → i ≤ 1000 →
      (∀ h' tk' u, Fr h₀ L h' m → News h₀ L h' news → Q (.str x u) { s with heap := h', toks := tk' }) →
      wpAny (model PySem.Challenge.rw_ui0505_06.row.prog w) (ktrTop dp un gd cn cs L a ccd cl outer) (call (.ref 215) [.ref rd]) Q E s := by
  k_fill
  k_with_none
  k_with "steps" => repeat' (first | (k_unfold; (try dsimp only)) | walk1 | (dsimp only; walk1) | (leave1; walk_say "STEP leave1"; try dsimp only) | k_extra "mine")
  k_with "spliced" => first | refine args_cons ?_ | refine args_nil ⟨Fr.keep (by assumption) _ _ (by assumption), ?_⟩ | (refine args_nil ?_; try simp only [List.cons_append, List.nil_append])
  k_with "call builtin:len cons nil" => (k_here; (with_reducible show wpAny _ _ (call (Value.builtin "len") [Value.ref _]) _ _ _); k_dflt (refine' lenL (by k_asm) (by k_mem) (by first | (with_reducible assumption) | (simp only [List.length_append, List.length_map, List.length_cons, List.length_nil]; with_reducible rfl)) (by omega) ?_))
  k_with "call ref cons nil" => (k_here; k_dflt (refine' call_cls (by k_asm) (by k_asm) (by k_asm) (by k_is) (by k_is) (by k_is) ?_; k_whole; intro x' d' h' F' N' l1 l2; (try k_lt l1); (try k_lt2 l2); (try k_sweep); walk_at "enter"))
  k_with "call builtin:list.append cons nil" => (k_here; (with_reducible show wpAny _ _ (call (Value.builtin "list.append") [Value.ref _, _]) _ _ _); k_dflt (refine' appendL (by k_asm) (by k_asm) (by k_upd) (by ((try simp only [List.length_append, List.length_map, List.length_cons, List.length_nil]); omega)) ?_; k_whole); intro h' F' N'; (try k_sweep))
  k_with "subscriptTail Attribute Name Attribute ref int" => (k_here; (with_reducible show wpAny _ _ (subscriptTail _ _ (Value.ref _) (Value.int _ _)) _ _ _); k_dflt (refine' itemL (by k_asm) (by with_reducible assumption) (by k_mem) (by with_reducible rfl) (by omega) ?_ (by with_unfolding_all rfl); k_whole))
  k_with "subscriptTail Subscript Attribute Attribute Constant ref int" => (k_here; (with_reducible show wpAny _ _ (subscriptTail _ _ (Value.ref _) (Value.int _ _)) _ _ _); k_dflt (refine' itemT (by k_asm) (by k_mem) (by decide) (by decide) (by rfl) (by rfl) ?_ (by with_unfolding_all rfl) (by intro _; with_unfolding_all rfl)))
  k_with "WhlIf" => first | (with_reducible refine WhlIf.no (by with_reducible assumption) ?_) | (with_reducible refine WhlIf.yes (by with_reducible assumption) ?_)
  k_with "exec While Compare cons nil" => (k_here; (with_reducible refine whl_start 100 ?_))
  intro dp un gd cn cs a ccd cl outer A₀ base h₀ L m news s rd dd tl r nt vs ws i dq x Q E B F X N T hk hd hu hS hx hi hret
  obtain ⟨hrd, ⟨ua, ud, hdd⟩, hT⟩ := hS
  have htl := hT.htl
  have hlen := hT.hlen
  have hle := hT.hle
  by_cases hlt : i < ws.length
  · have hw : ws[i]? = some ws[i] := by simp [hlt]
    obtain ⟨at1, t1, u1, n1, hv, hm⟩ := hT.htk i _ hw
    have hxx : ws[i].1 = x := by rw [← hx, wordAt, hw]
    rw [hxx] at hm
    have hcmp : ((i : Int) < ((ws.length : Nat) : Int)) := by omega
    refine wpAny_call ?_
    k_dflt (walk_at "enter")
    k_extra "steps"
    rename Fr h₀ L _ _ => F9
    rename News h₀ L _ _ => N9
    exact hret _ _ _ F9 N9
  · have hw : ws[i]? = none := List.getElem?_eq_none (by omega)
    have hxx : Str.ofString "" = x := by rw [← hx, wordAt, hw]
    subst hxx
    have hcmp : ¬ ((i : Int) < ((ws.length : Nat) : Int)) := by omega
    refine wpAny_call ?_
    k_dflt (walk_at "enter")
    k_extra "steps"
    rename Fr h₀ L _ _ => F9
    rename News h₀ L _ _ => N9
    exact hret _ _ _ F9 N9
theorem take_ok (w : World) (p : Program) (loose : List Str) (mean : ExcName → Option Value) (mg mb : Str → Option Value) :
    ∀ (dp un : Nat) (gd : Option (List Code)) (cn : Str) (cs : Scope) (a : Addr) (ccd : Value) (cl : List (Str × Addr)) (outer : List Env) (A₀ : Around) (base h₀ : Heap) (L : Addr) (m : Str → Option Value) (news : List (Addr × Obj)) (s : Shared) (rd dd tl : Addr) (r : RT) (nt : Nat) (vs : List Value) (ws : List (Str × Int)) (i : Nat) (dq : Int) (x : Str) (Q E : Value → Shared → Prop),
      Below A₀ base outer h₀ → Fr h₀ L s.heap m → (K06 w.params).In h₀ → News h₀ L s.heap news → Top p loose mean mg mb h₀ → cs.kind = .function → dp + 40 < recursionLimit → un + 320 < cLine →
      RS 316 w news rd dd tl r nt vs ws i dq → wordAt ws i = x → i ≤ 900 →
      (∀ h' tk' u news', Fr h₀ L h' m → News h₀ L h' news' → Kept dd news news' → RS 316 w news' rd dd tl r nt vs ws (i + 1) dq → Q (.str x u) { s with heap := h', toks := tk' }) →
      wpAny (model PySem.Challenge.rw_ui0505_06.row.prog w) (ktrTop dp un gd cn cs L a ccd cl outer) (call (.ref 229) [.ref rd]) Q E s := by
  k_fill
  k_with_none
  k_with "steps" => repeat' (first | (k_unfold; (try dsimp only)) | walk1 | (dsimp only; walk1) | (leave1; walk_say "STEP leave1"; try dsimp only) | k_extra "mine")
  k_with "spliced" => first | refine args_cons ?_ | refine args_nil ⟨Fr.keep (by assumption) _ _ (by assumption), ?_⟩ | (refine args_nil ?_; try simp only [List.cons_append, List.nil_append])
  k_with "call builtin:len cons nil" => (k_here; (with_reducible show wpAny _ _ (call (Value.builtin "len") [Value.ref _]) _ _ _); k_dflt (refine' lenL (by k_asm) (by k_mem) (by first | (with_reducible assumption) | (simp only [List.length_append, List.length_map, List.length_cons, List.length_nil]; with_reducible rfl)) (by omega) ?_))
  k_with "call ref cons nil" => (k_here; k_dflt (refine' call_cls (by k_asm) (by k_asm) (by k_asm) (by k_is) (by k_is) (by k_is) ?_; k_whole; intro x' d' h' F' N' l1 l2; (try k_lt l1); (try k_lt2 l2); (try k_sweep); walk_at "enter"))
  k_with "call builtin:list.append cons nil" => (k_here; (with_reducible show wpAny _ _ (call (Value.builtin "list.append") [Value.ref _, _]) _ _ _); k_dflt (refine' appendL (by k_asm) (by k_asm) (by k_upd) (by ((try simp only [List.length_append, List.length_map, List.length_cons, List.length_nil]); omega)) ?_; k_whole); intro h' F' N'; (try k_sweep))
  k_with "subscriptTail Attribute Name Attribute ref int" => (k_here; (with_reducible show wpAny _ _ (subscriptTail _ _ (Value.ref _) (Value.int _ _)) _ _ _); k_dflt (refine' itemL (by k_asm) (by with_reducible assumption) (by k_mem) (by with_reducible rfl) (by omega) ?_ (by with_unfolding_all rfl); k_whole))
  k_with "subscriptTail Subscript Attribute Attribute Constant ref int" => (k_here; (with_reducible show wpAny _ _ (subscriptTail _ _ (Value.ref _) (Value.int _ _)) _ _ _); k_dflt (refine' itemT (by k_asm) (by k_mem) (by decide) (by decide) (by rfl) (by rfl) ?_ (by with_unfolding_all rfl) (by intro _; with_unfolding_all rfl)))
  k_with "WhlIf" => first | (with_reducible refine WhlIf.no (by with_reducible assumption) ?_) | (with_reducible refine WhlIf.yes (by with_reducible assumption) ?_)
  k_with "exec While Compare cons nil" => (k_here; (with_reducible refine whl_start 100 ?_))
  k_with "call ref nil" => (k_here; (with_reducible show wpAny _ _ (call (Value.ref 215) _) _ _ _); k_dflt (refine' peek_ok _ _ _ _ _ _ _ _ _ _ _ _ _ _ _ _ _ _ _ _ _ _ _ _ _ _ _ _ _ _ _ _ _ _ (by k_asm) (by k_asm) (by k_asm) (by k_asm) (by k_asm) (by first | rfl | assumption) (by first | decide | omega | ktr_room) (by first | decide | omega | ktr_units) (by exact ⟨by k_mem, ⟨_, _, by k_mem⟩, TK.mono (by assumption) (fun q hq => by repeat (first | exact hq | refine List.mem_cons_of_mem _ ?_))⟩) (by first | assumption | rfl) (by omega) ?_; intro h' tk' u' F' N'; (try k_sweep); (try dsimp only)))
  intro dp un gd cn cs a ccd cl outer A₀ base h₀ L m news s rd dd tl r nt vs ws i dq x Q E B F X N T hk hd hu hS hx hi hret
  have hS0 := hS
  obtain ⟨hrd, ⟨ua, ud, hdd⟩, hT⟩ := hS
  have N1 := RS.front N hdd
  have hT1 := hT.off N hdd rfl
  have nr : @Ne Nat rd dd := nne Obj.cls N hrd hdd (fun e => by cases e)
  have hr1 : (rd, instObj 316 dd) ∈ off dd news := mem_off.mpr ⟨hrd, nr⟩
  have ad : ∀ q ∈ off dd news, q.1 ≠ dd := off_ne
  have hN := N
  have hk1 : Kept dd news (off dd news) := fun q hq hne => mem_off.mpr ⟨hq, hne⟩
  generalize off dd news = rest at N1 hT1 hr1 ad hk1
  clear N hrd hdd hT
  refine wpAny_call ?_
  k_dflt (walk_at "enter")
  k_extra "steps"
  rename Fr h₀ L _ _ => F9
  rename News h₀ L _ _ => N9
  have K9 : ∀ o, Kept dd news ((dd, o) :: rest) := fun o => hk1.trans (Kept.sub fun q hq => List.mem_cons_of_mem _ hq)
  exact hret _ _ _ _ F9 N9 (K9 _) (hS0.keep hN (K9 _) List.mem_cons_self)
theorem isl_ok (w : World) (p : Program) (loose : List Str) (mean : ExcName → Option Value) (mg mb : Str → Option Value) (x : Str) (b : Bool) (hx : Let6 x b) :
    ∀ (dp un : Nat) (gd : Option (List Code)) (cn : Str) (cs : Scope) (a : Addr) (ccd : Value) (cl : List (Str × Addr)) (outer : List Env) (A₀ : Around) (base h₀ : Heap) (L : Addr) (m : Str → Option Value) (news : List (Addr × Obj)) (s : Shared) (t : Tok) (Q E : Value → Shared → Prop),
      Below A₀ base outer h₀ → Fr h₀ L s.heap m → (K06 w.params).In h₀ → News h₀ L s.heap news → Top p loose mean mg mb h₀ → cs.kind = .function → dp + 20 < recursionLimit → un + 160 < cLine →
      (∀ h' tk', Fr h₀ L h' m → News h₀ L h' news → Q (.bool b) { s with heap := h', toks := tk' }) →
      wpAny (model PySem.Challenge.rw_ui0505_06.row.prog w) (ktrTop dp un gd cn cs L a ccd cl outer) (call (.ref 173) [.str x t]) Q E s := by
  k_fill
  k_with_none
  k_with "steps" => repeat' (first | (k_unfold; (try dsimp only)) | walk1 | (dsimp only; walk1) | (leave1; walk_say "STEP leave1"; try dsimp only) | k_extra "mine")
  k_with "spliced" => first | refine args_cons ?_ | refine args_nil ⟨Fr.keep (by assumption) _ _ (by assumption), ?_⟩ | (refine args_nil ?_; try simp only [List.cons_append, List.nil_append])
  k_with "call builtin:len cons nil" => (k_here; (with_reducible show wpAny _ _ (call (Value.builtin "len") [Value.ref _]) _ _ _); k_dflt (refine' lenL (by k_asm) (by k_mem) (by first | (with_reducible assumption) | (simp only [List.length_append, List.length_map, List.length_cons, List.length_nil]; with_reducible rfl)) (by omega) ?_))
  k_with "call ref cons nil" => (k_here; k_dflt (refine' call_cls (by k_asm) (by k_asm) (by k_asm) (by k_is) (by k_is) (by k_is) ?_; k_whole; intro x' d' h' F' N' l1 l2; (try k_lt l1); (try k_lt2 l2); (try k_sweep); walk_at "enter"))
  k_with "call builtin:list.append cons nil" => (k_here; (with_reducible show wpAny _ _ (call (Value.builtin "list.append") [Value.ref _, _]) _ _ _); k_dflt (refine' appendL (by k_asm) (by k_asm) (by k_upd) (by ((try simp only [List.length_append, List.length_map, List.length_cons, List.length_nil]); omega)) ?_; k_whole); intro h' F' N'; (try k_sweep))
  k_with "subscriptTail Attribute Name Attribute ref int" => (k_here; (with_reducible show wpAny _ _ (subscriptTail _ _ (Value.ref _) (Value.int _ _)) _ _ _); k_dflt (refine' itemL (by k_asm) (by with_reducible assumption) (by k_mem) (by with_reducible rfl) (by omega) ?_ (by with_unfolding_all rfl); k_whole))
  k_with "subscriptTail Subscript Attribute Attribute Constant ref int" => (k_here; (with_reducible show wpAny _ _ (subscriptTail _ _ (Value.ref _) (Value.int _ _)) _ _ _); k_dflt (refine' itemT (by k_asm) (by k_mem) (by decide) (by decide) (by rfl) (by rfl) ?_ (by with_unfolding_all rfl) (by intro _; with_unfolding_all rfl)))
  k_with "WhlIf" => first | (with_reducible refine WhlIf.no (by with_reducible assumption) ?_) | (with_reducible refine WhlIf.yes (by with_reducible assumption) ?_)
  k_with "exec While Compare cons nil" => (k_here; (with_reducible refine whl_start 100 ?_))
  intro dp un gd cn cs a ccd cl outer A₀ base h₀ L m news s t Q E B F X N T hk hd hu hret
  obtain ⟨z, hz, rfl⟩ := hx
  simp only [signs6, List.mem_cons, List.mem_nil_iff, or_false, Prod.mk.injEq] at hz
  rcases hz with ⟨rfl, rfl⟩ | ⟨rfl, rfl⟩ | ⟨rfl, rfl⟩ | ⟨rfl, rfl⟩ | ⟨rfl, rfl⟩ | ⟨rfl, rfl⟩ | ⟨rfl, rfl⟩ | ⟨rfl, rfl⟩ | ⟨rfl, rfl⟩ | ⟨rfl, rfl⟩ | ⟨rfl, rfl⟩ | ⟨rfl, rfl⟩ | ⟨rfl, rfl⟩
  all_goals (
    refine wpAny_call ?_
    k_dflt (walk_at "enter")
    k_extra "steps"
    rename Fr h₀ L _ _ => F9
    rename News h₀ L _ _ => N9
    exact hret _ _ F9 N9)
theorem isr_ok (w : World) (p : Program) (loose : List Str) (mean : ExcName → Option Value) (mg mb : Str → Option Value) (x : Str) (b : Bool) (hx : Let6 x b) :
    ∀ (dp un : Nat) (gd : Option (List Code)) (cn : Str) (cs : Scope) (a : Addr) (ccd : Value) (cl : List (Str × Addr)) (outer : List Env) (A₀ : Around) (base h₀ : Heap) (L : Addr) (m : Str → Option Value) (news : List (Addr × Obj)) (s : Shared) (t : Tok) (Q E : Value → Shared → Prop),
      Below A₀ base outer h₀ → Fr h₀ L s.heap m → (K06 w.params).In h₀ → News h₀ L s.heap news → Top p loose mean mg mb h₀ → cs.kind = .function → dp + 40 < recursionLimit → un + 320 < cLine →
      (∀ h' tk', Fr h₀ L h' m → News h₀ L h' news → Q (.bool b) { s with heap := h', toks := tk' }) →
      wpAny (model PySem.Challenge.rw_ui0505_06.row.prog w) (ktrTop dp un gd cn cs L a ccd cl outer) (call (.ref 180) [.str x t]) Q E s := by
  k_fill
  k_with_none
  k_with "steps" => repeat' (first | (k_unfold; (try dsimp only)) | walk1 | (dsimp only; walk1) | (leave1; walk_say "STEP leave1"; try dsimp only) | k_extra "mine")
  k_with "spliced" => first | refine args_cons ?_ | refine args_nil ⟨Fr.keep (by assumption) _ _ (by assumption), ?_⟩ | (refine args_nil ?_; try simp only [List.cons_append, List.nil_append])
  k_with "call builtin:len cons nil" => (k_here; (with_reducible show wpAny _ _ (call (Value.builtin "len") [Value.ref _]) _ _ _); k_dflt (refine' lenL (by k_asm) (by k_mem) (by first | (with_reducible assumption) | (simp only [List.length_append, List.length_map, List.length_cons, List.length_nil]; with_reducible rfl)) (by omega) ?_))
  k_with "call ref cons nil" => (k_here; k_dflt (refine' call_cls (by k_asm) (by k_asm) (by k_asm) (by k_is) (by k_is) (by k_is) ?_; k_whole; intro x' d' h' F' N' l1 l2; (try k_lt l1); (try k_lt2 l2); (try k_sweep); walk_at "enter"))
  k_with "call builtin:list.append cons nil" => (k_here; (with_reducible show wpAny _ _ (call (Value.builtin "list.append") [Value.ref _, _]) _ _ _); k_dflt (refine' appendL (by k_asm) (by k_asm) (by k_upd) (by ((try simp only [List.length_append, List.length_map, List.length_cons, List.length_nil]); omega)) ?_; k_whole); intro h' F' N'; (try k_sweep))
  k_with "subscriptTail Attribute Name Attribute ref int" => (k_here; (with_reducible show wpAny _ _ (subscriptTail _ _ (Value.ref _) (Value.int _ _)) _ _ _); k_dflt (refine' itemL (by k_asm) (by with_reducible assumption) (by k_mem) (by with_reducible rfl) (by omega) ?_ (by with_unfolding_all rfl); k_whole))
  k_with "subscriptTail Subscript Attribute Attribute Constant ref int" => (k_here; (with_reducible show wpAny _ _ (subscriptTail _ _ (Value.ref _) (Value.int _ _)) _ _ _); k_dflt (refine' itemT (by k_asm) (by k_mem) (by decide) (by decide) (by rfl) (by rfl) ?_ (by with_unfolding_all rfl) (by intro _; with_unfolding_all rfl)))
  k_with "WhlIf" => first | (with_reducible refine WhlIf.no (by with_reducible assumption) ?_) | (with_reducible refine WhlIf.yes (by with_reducible assumption) ?_)
  k_with "exec While Compare cons nil" => (k_here; (with_reducible refine whl_start 100 ?_))
  k_with "call ref cons nil" => (k_here; (with_reducible show wpAny _ _ (call (Value.ref 173) _) _ _ _); k_dflt (refine' isl_ok _ _ _ _ _ _ _ _ (by assumption) _ _ _ _ _ _ _ _ _ _ _ _ _ _ _ _ _ _ _ (by k_asm) (by k_asm) (by k_asm) (by k_asm) (by k_asm) (by first | rfl | assumption) (by first | decide | omega | ktr_room) (by first | decide | omega | ktr_units) ?_; intro h' tk' F' N'; (try k_sweep); (try dsimp only)))
  intro dp un gd cn cs a ccd cl outer A₀ base h₀ L m news s t Q E B F X N T hk hd hu hret
  have hx2 := hx
  cases b with
  | true =>
    refine wpAny_call ?_
    k_dflt (walk_at "enter")
    k_extra "steps"
    rename Fr h₀ L _ _ => F9
    rename News h₀ L _ _ => N9
    exact hret _ _ F9 N9
  | false =>
    obtain ⟨z, hz, rfl⟩ := hx
    simp only [signs6, List.mem_cons, List.mem_nil_iff, or_false, Prod.mk.injEq, Bool.false_eq_true, and_false, and_true, false_or, reduceCtorEq] at hz
    rcases hz with rfl | rfl | rfl | rfl | rfl
    all_goals (
      refine wpAny_call ?_
      k_dflt (walk_at "enter")
      k_extra "steps"
      rename Fr h₀ L _ _ => F9
      rename News h₀ L _ _ => N9
      exact hret _ _ F9 N9)
theorem isv_ok (w : World) (p : Program) (loose : List Str) (mean : ExcName → Option Value) (mg mb : Str → Option Value) :
    ∀ (dp un : Nat) (gd : Option (List Code)) (cn : Str) (cs : Scope) (a : Addr) (ccd : Value) (cl : List (Str × Addr)) (outer : List Env) (A₀ : Around) (base h₀ : Heap) (L : Addr) (m : Str → Option Value) (news : List (Addr × Obj)) (s : Shared) (t : Tok) (Q E : Value → Shared → Prop),
      Below A₀ base outer h₀ → Fr h₀ L s.heap m → (K06 w.params).In h₀ → News h₀ L s.heap news → Top p loose mean mg mb h₀ → cs.kind = .function → dp + 20 < recursionLimit → un + 160 < cLine →
      (∀ h' tk', Fr h₀ L h' m → News h₀ L h' news → Q (.bool true) { s with heap := h', toks := tk' }) →
      wpAny (model PySem.Challenge.rw_ui0505_06.row.prog w) (ktrTop dp un gd cn cs L a ccd cl outer) (call (.ref 194) [.str (Str.ofString "x") t]) Q E s := by
  k_fill
  k_with_none
  k_with "steps" => repeat' (first | (k_unfold; (try dsimp only)) | walk1 | (dsimp only; walk1) | (leave1; walk_say "STEP leave1"; try dsimp only) | k_extra "mine")
  k_with "spliced" => first | refine args_cons ?_ | refine args_nil ⟨Fr.keep (by assumption) _ _ (by assumption), ?_⟩ | (refine args_nil ?_; try simp only [List.cons_append, List.nil_append])
  k_with "call builtin:len cons nil" => (k_here; (with_reducible show wpAny _ _ (call (Value.builtin "len") [Value.ref _]) _ _ _); k_dflt (refine' lenL (by k_asm) (by k_mem) (by first | (with_reducible assumption) | (simp only [List.length_append, List.length_map, List.length_cons, List.length_nil]; with_reducible rfl)) (by omega) ?_))
  k_with "call ref cons nil" => (k_here; k_dflt (refine' call_cls (by k_asm) (by k_asm) (by k_asm) (by k_is) (by k_is) (by k_is) ?_; k_whole; intro x' d' h' F' N' l1 l2; (try k_lt l1); (try k_lt2 l2); (try k_sweep); walk_at "enter"))
  k_with "call builtin:list.append cons nil" => (k_here; (with_reducible show wpAny _ _ (call (Value.builtin "list.append") [Value.ref _, _]) _ _ _); k_dflt (refine' appendL (by k_asm) (by k_asm) (by k_upd) (by ((try simp only [List.length_append, List.length_map, List.length_cons, List.length_nil]); omega)) ?_; k_whole); intro h' F' N'; (try k_sweep))
  k_with "subscriptTail Attribute Name Attribute ref int" => (k_here; (with_reducible show wpAny _ _ (subscriptTail _ _ (Value.ref _) (Value.int _ _)) _ _ _); k_dflt (refine' itemL (by k_asm) (by with_reducible assumption) (by k_mem) (by with_reducible rfl) (by omega) ?_ (by with_unfolding_all rfl); k_whole))
  k_with "subscriptTail Subscript Attribute Attribute Constant ref int" => (k_here; (with_reducible show wpAny _ _ (subscriptTail _ _ (Value.ref _) (Value.int _ _)) _ _ _); k_dflt (refine' itemT (by k_asm) (by k_mem) (by decide) (by decide) (by rfl) (by rfl) ?_ (by with_unfolding_all rfl) (by intro _; with_unfolding_all rfl)))
  k_with "WhlIf" => first | (with_reducible refine WhlIf.no (by with_reducible assumption) ?_) | (with_reducible refine WhlIf.yes (by with_reducible assumption) ?_)
  k_with "exec While Compare cons nil" => (k_here; (with_reducible refine whl_start 100 ?_))
  intro dp un gd cn cs a ccd cl outer A₀ base h₀ L m news s t Q E B F X N T hk hd hu hret
  refine wpAny_call ?_
  k_dflt (walk_at "enter")
  k_extra "steps"
  rename Fr h₀ L _ _ => F9
  rename News h₀ L _ _ => N9
  exact hret _ _ F9 N9
theorem need_ok (w : World) (p : Program) (loose : List Str) (mean : ExcName → Option Value) (mg mb : Str → Option Value) (y : Str) :
    ∀ (dp un : Nat) (gd : Option (List Code)) (cn : Str) (cs : Scope) (a : Addr) (ccd : Value) (cl : List (Str × Addr)) (outer : List Env) (A₀ : Around) (base h₀ : Heap) (L : Addr) (m : Str → Option Value) (news : List (Addr × Obj)) (s : Shared) (rd dd tl : Addr) (r : RT) (nt : Nat) (vs : List Value) (ws : List (Str × Int)) (i : Nat) (dq : Int) (t : Tok) (Q E : Value → Shared → Prop),
      Below A₀ base outer h₀ → Fr h₀ L s.heap m → (K06 w.params).In h₀ → News h₀ L s.heap news → Top p loose mean mg mb h₀ → cs.kind = .function → dp + 50 < recursionLimit → un + 360 < cLine →
      RS 316 w news rd dd tl r nt vs ws i dq → wordAt ws i = y → i ≤ 900 →
      (∀ h' tk' news', Fr h₀ L h' m → News h₀ L h' news' → Kept dd news news' → RS 316 w news' rd dd tl r nt vs ws (i + 1) dq → Q .none { s with heap := h', toks := tk' }) →
      wpAny (model PySem.Challenge.rw_ui0505_06.row.prog w) (ktrTop dp un gd cn cs L a ccd cl outer) (call (.ref 236) [.ref rd, .str y t]) Q E s := by
  k_fill
  k_with_none
  k_with "steps" => repeat' (first | (k_unfold; (try dsimp only)) | walk1 | (dsimp only; walk1) | (leave1; walk_say "STEP leave1"; try dsimp only) | k_extra "mine")
  k_with "spliced" => first | refine args_cons ?_ | refine args_nil ⟨Fr.keep (by assumption) _ _ (by assumption), ?_⟩ | (refine args_nil ?_; try simp only [List.cons_append, List.nil_append])
  k_with "call builtin:len cons nil" => (k_here; (with_reducible show wpAny _ _ (call (Value.builtin "len") [Value.ref _]) _ _ _); k_dflt (refine' lenL (by k_asm) (by k_mem) (by first | (with_reducible assumption) | (simp only [List.length_append, List.length_map, List.length_cons, List.length_nil]; with_reducible rfl)) (by omega) ?_))
  k_with "call ref cons nil" => (k_here; k_dflt (refine' call_cls (by k_asm) (by k_asm) (by k_asm) (by k_is) (by k_is) (by k_is) ?_; k_whole; intro x' d' h' F' N' l1 l2; (try k_lt l1); (try k_lt2 l2); (try k_sweep); walk_at "enter"))
  k_with "call builtin:list.append cons nil" => (k_here; (with_reducible show wpAny _ _ (call (Value.builtin "list.append") [Value.ref _, _]) _ _ _); k_dflt (refine' appendL (by k_asm) (by k_asm) (by k_upd) (by ((try simp only [List.length_append, List.length_map, List.length_cons, List.length_nil]); omega)) ?_; k_whole); intro h' F' N'; (try k_sweep))
  k_with "subscriptTail Attribute Name Attribute ref int" => (k_here; (with_reducible show wpAny _ _ (subscriptTail _ _ (Value.ref _) (Value.int _ _)) _ _ _); k_dflt (refine' itemL (by k_asm) (by with_reducible assumption) (by k_mem) (by with_reducible rfl) (by omega) ?_ (by with_unfolding_all rfl); k_whole))
  k_with "subscriptTail Subscript Attribute Attribute Constant ref int" => (k_here; (with_reducible show wpAny _ _ (subscriptTail _ _ (Value.ref _) (Value.int _ _)) _ _ _); k_dflt (refine' itemT (by k_asm) (by k_mem) (by decide) (by decide) (by rfl) (by rfl) ?_ (by with_unfolding_all rfl) (by intro _; with_unfolding_all rfl)))
  k_with "WhlIf" => first | (with_reducible refine WhlIf.no (by with_reducible assumption) ?_) | (with_reducible refine WhlIf.yes (by with_reducible assumption) ?_)
  k_with "exec While Compare cons nil" => (k_here; (with_reducible refine whl_start 100 ?_))
  k_with "call ref nil" => (k_here; (with_reducible show wpAny _ _ (call (Value.ref 215) _) _ _ _); k_dflt (refine' peek_ok _ _ _ _ _ _ _ _ _ _ _ _ _ _ _ _ _ _ _ _ _ _ _ _ _ _ _ _ _ _ _ _ _ _ (by k_asm) (by k_asm) (by k_asm) (by k_asm) (by k_asm) (by first | rfl | assumption) (by first | decide | omega | ktr_room) (by first | decide | omega | ktr_units) (by exact ⟨by k_mem, ⟨_, _, by k_mem⟩, TK.mono (by assumption) (fun q hq => by repeat (first | exact hq | refine List.mem_cons_of_mem _ ?_))⟩) (by first | assumption | rfl) (by omega) ?_; intro h' tk' u' F' N'; (try k_sweep); (try dsimp only)))
  k_with "call ref nil" => (k_here; (with_reducible show wpAny _ _ (call (Value.ref 229) _) _ _ _); k_dflt (refine' take_ok _ _ _ _ _ _ _ _ _ _ _ _ _ _ _ _ _ _ _ _ _ _ _ _ _ _ _ _ _ _ _ _ _ _ (by k_asm) (by k_asm) (by k_asm) (by k_asm) (by k_asm) (by first | rfl | assumption) (by first | decide | omega | ktr_room) (by first | decide | omega | ktr_units) (by exact ⟨by k_mem, ⟨_, _, by k_mem⟩, TK.mono (by assumption) (fun q hq => by repeat (first | exact hq | refine List.mem_cons_of_mem _ ?_))⟩) (by first | assumption | rfl) (by omega) ?_; intro h' tk' u' news' F' N' K' S'; (have hrd' := S'.hrd); (obtain ⟨ua', ud', hdd'⟩ := S'.hdd); (have hT' := S'.tk); (try k_sweep); (try dsimp only)))
  intro dp un gd cn cs a ccd cl outer A₀ base h₀ L m news s rd dd tl r nt vs ws i dq t Q E B F X N T hk hd hu hS hx hi hret
  have hS0 := hS
  obtain ⟨hrd, ⟨ua, ud, hdd⟩, hT⟩ := hS
  have hyy : (y == y) = true := beq_self_eq_true y
  have hyn : (y != y) = false := by simp
  refine wpAny_call ?_
  k_dflt (walk_at "enter")
  k_extra "steps"
  rename Fr h₀ L _ _ => F9
  rename News h₀ L _ _ => N9
  exact hret _ _ _ F9 N9 K' S'
theorem term_ok (w : World) (p : Program) (loose : List Str) (mean : ExcName → Option Value) (mg mb : Str → Option Value) :
    ∀ (dp un : Nat) (gd : Option (List Code)) (cn : Str) (cs : Scope) (a : Addr) (ccd : Value) (cl : List (Str × Addr)) (outer : List Env) (A₀ : Around) (base h₀ : Heap) (L : Addr) (m : Str → Option Value) (news : List (Addr × Obj)) (s : Shared) (rd dd tl : Addr) (r : RT) (nt : Nat) (vs : List Value) (ws : List (Str × Int)) (i : Nat) (dq : Int) (x : Str) (Q E : Value → Shared → Prop),
      Below A₀ base outer h₀ → Fr h₀ L s.heap m → (K06 w.params).In h₀ → News h₀ L s.heap news → Top p loose mean mg mb h₀ → cs.kind = .function → dp + 50 < recursionLimit → un + 360 < cLine →
      RS 316 w news rd dd tl r nt vs ws i dq → wordAt ws i = Str.ofString "x" → wordAt ws (i + 1) = x → x ≠ Str.ofString "(" → i ≤ 900 →
      (∀ h' tk' a t1 t2 k news', Fr h₀ L h' m → News h₀ L h' news' → Kept dd news news' → RS 316 w news' rd dd tl r nt vs ws (i + 1) dq → (a, tupO [.str (Str.ofString "var") t1, .str (Str.ofString "x") t2] k) ∈ news' → Q (.ref a) { s with heap := h', toks := tk' }) →
      wpAny (model PySem.Challenge.rw_ui0505_06.row.prog w) (ktrTop dp un gd cn cs L a ccd cl outer) (call (.ref 306) [.ref rd]) Q E s := by
  k_fill
  k_with_none
  k_with "steps" => repeat' (first | (k_unfold; (try dsimp only)) | walk1 | (dsimp only; walk1) | (leave1; walk_say "STEP leave1"; try dsimp only) | k_extra "mine")
  k_with "spliced" => first | refine args_cons ?_ | refine args_nil ⟨Fr.keep (by assumption) _ _ (by assumption), ?_⟩ | (refine args_nil ?_; try simp only [List.cons_append, List.nil_append])
  k_with "call builtin:len cons nil" => (k_here; (with_reducible show wpAny _ _ (call (Value.builtin "len") [Value.ref _]) _ _ _); k_dflt (refine' lenL (by k_asm) (by k_mem) (by first | (with_reducible assumption) | (simp only [List.length_append, List.length_map, List.length_cons, List.length_nil]; with_reducible rfl)) (by omega) ?_))
  k_with "call ref cons nil" => (k_here; k_dflt (refine' call_cls (by k_asm) (by k_asm) (by k_asm) (by k_is) (by k_is) (by k_is) ?_; k_whole; intro x' d' h' F' N' l1 l2; (try k_lt l1); (try k_lt2 l2); (try k_sweep); walk_at "enter"))
  k_with "call builtin:list.append cons nil" => (k_here; (with_reducible show wpAny _ _ (call (Value.builtin "list.append") [Value.ref _, _]) _ _ _); k_dflt (refine' appendL (by k_asm) (by k_asm) (by k_upd) (by ((try simp only [List.length_append, List.length_map, List.length_cons, List.length_nil]); omega)) ?_; k_whole); intro h' F' N'; (try k_sweep))
  k_with "subscriptTail Attribute Name Attribute ref int" => (k_here; (with_reducible show wpAny _ _ (subscriptTail _ _ (Value.ref _) (Value.int _ _)) _ _ _); k_dflt (refine' itemL (by k_asm) (by with_reducible assumption) (by k_mem) (by with_reducible rfl) (by omega) ?_ (by with_unfolding_all rfl); k_whole))
  k_with "subscriptTail Subscript Attribute Attribute Constant ref int" => (k_here; (with_reducible show wpAny _ _ (subscriptTail _ _ (Value.ref _) (Value.int _ _)) _ _ _); k_dflt (refine' itemT (by k_asm) (by k_mem) (by decide) (by decide) (by rfl) (by rfl) ?_ (by with_unfolding_all rfl) (by intro _; with_unfolding_all rfl)))
  k_with "WhlIf" => first | (with_reducible refine WhlIf.no (by with_reducible assumption) ?_) | (with_reducible refine WhlIf.yes (by with_reducible assumption) ?_)
  k_with "exec While Compare cons nil" => (k_here; (with_reducible refine whl_start 100 ?_))
  k_with "call ref nil" => (k_here; (with_reducible show wpAny _ _ (call (Value.ref 215) _) _ _ _); k_dflt (refine' peek_ok _ _ _ _ _ _ _ _ _ _ _ _ _ _ _ _ _ _ _ _ _ _ _ _ _ _ _ _ _ _ _ _ _ _ (by k_asm) (by k_asm) (by k_asm) (by k_asm) (by k_asm) (by first | rfl | assumption) (by first | decide | omega | ktr_room) (by first | decide | omega | ktr_units) (by exact ⟨by k_mem, ⟨_, _, by k_mem⟩, TK.mono (by assumption) (fun q hq => by repeat (first | exact hq | refine List.mem_cons_of_mem _ ?_))⟩) (by first | assumption | rfl) (by omega) ?_; intro h' tk' u' F' N'; (try k_sweep); (try dsimp only)))
  k_with "call ref nil" => (k_here; (with_reducible show wpAny _ _ (call (Value.ref 229) _) _ _ _); k_dflt (refine' take_ok _ _ _ _ _ _ _ _ _ _ _ _ _ _ _ _ _ _ _ _ _ _ _ _ _ _ _ _ _ _ _ _ _ _ (by k_asm) (by k_asm) (by k_asm) (by k_asm) (by k_asm) (by first | rfl | assumption) (by first | decide | omega | ktr_room) (by first | decide | omega | ktr_units) (by exact ⟨by k_mem, ⟨_, _, by k_mem⟩, TK.mono (by assumption) (fun q hq => by repeat (first | exact hq | refine List.mem_cons_of_mem _ ?_))⟩) (by first | assumption | rfl) (by omega) ?_; intro h' tk' u' news' F' N' K' S'; (have hrd' := S'.hrd); (obtain ⟨ua', ud', hdd'⟩ := S'.hdd); (have hT' := S'.tk); (try k_sweep); (try dsimp only)))
  k_with "call ref cons nil" => (k_here; (with_reducible show wpAny _ _ (call (Value.ref 194) _) _ _ _); k_dflt (refine' isv_ok _ _ _ _ _ _ _ _ _ _ _ _ _ _ _ _ _ _ _ _ _ _ _ _ _ (by k_asm) (by k_asm) (by k_asm) (by k_asm) (by k_asm) (by first | rfl | assumption) (by first | decide | omega | ktr_room) (by first | decide | omega | ktr_units) ?_; intro h' tk' F' N'; (try k_sweep); (try dsimp only)))
  intro dp un gd cn cs a ccd cl outer A₀ base h₀ L m news s rd dd tl r nt vs ws i dq x Q E B F X N T hk hd hu hS hx hx1 hst hi hret
  have hS0 := hS
  obtain ⟨hrd, ⟨ua, ud, hdd⟩, hT⟩ := hS
  have hne : (x != Str.ofString "(") = true := bne_iff_ne.mpr hst
  have hne1 : (x == Str.ofString "(") = false := beq_eq_false_iff_ne.mpr hst
  refine wpAny_call ?_
  k_dflt (walk_at "enter")
  k_extra "steps"
  rename Fr h₀ L _ _ => F9
  rename News h₀ L _ _ => N9
  exact hret _ _ _ _ _ 0 _ F9 N9 ((Kept.sub fun q hq => List.mem_cons_of_mem _ hq).trans (K'.trans (Kept.sub fun q hq => List.mem_cons_of_mem _ hq))) (S'.mono fun q hq => List.mem_cons_of_mem _ hq) List.mem_cons_self
theorem args1_ok (w : World) (p : Program) (loose : List Str) (mean : ExcName → Option Value) (mg mb : Str → Option Value) :
    ∀ (dp un : Nat) (gd : Option (List Code)) (cn : Str) (cs : Scope) (a : Addr) (ccd : Value) (cl : List (Str × Addr)) (outer : List Env) (A₀ : Around) (base h₀ : Heap) (L : Addr) (m : Str → Option Value) (news : List (Addr × Obj)) (s : Shared) (rd dd tl : Addr) (r : RT) (nt : Nat) (vs : List Value) (ws : List (Str × Int)) (i : Nat) (dq : Int) (Q E : Value → Shared → Prop),
      Below A₀ base outer h₀ → Fr h₀ L s.heap m → (K06 w.params).In h₀ → News h₀ L s.heap news → Top p loose mean mg mb h₀ → cs.kind = .function → dp + 55 < recursionLimit → un + 380 < cLine →
      RS 316 w news rd dd tl r nt vs ws i dq → wordAt ws i = Str.ofString "(" → wordAt ws (i + 1) = Str.ofString "x" → wordAt ws (i + 2) = Str.ofString ")" → i ≤ 800 →
      (∀ h' tk' b c t1 t2 k k2 news', Fr h₀ L h' m → News h₀ L h' news' → Kept dd news news' → RS 316 w news' rd dd tl r nt vs ws (i + 3) dq → (b, tupO [.ref c] k) ∈ news' → (c, tupO [.str (Str.ofString "var") t1, .str (Str.ofString "x") t2] k2) ∈ news' → Q (.ref b) { s with heap := h', toks := tk' }) →
      wpAny (model PySem.Challenge.rw_ui0505_06.row.prog w) (ktrTop dp un gd cn cs L a ccd cl outer) (call (.ref 299) [.ref rd]) Q E s := by
  k_fill
  k_with_none
  k_with "steps" => repeat' (first | (k_unfold; (try dsimp only)) | walk1 | (dsimp only; walk1) | (leave1; walk_say "STEP leave1"; try dsimp only) | k_extra "mine")
  k_with "spliced" => first | refine args_cons ?_ | refine args_nil ⟨Fr.keep (by assumption) _ _ (by assumption), ?_⟩ | (refine args_nil ?_; try simp only [List.cons_append, List.nil_append])
  k_with "call builtin:len cons nil" => (k_here; (with_reducible show wpAny _ _ (call (Value.builtin "len") [Value.ref _]) _ _ _); k_dflt (refine' lenL (by k_asm) (by k_mem) (by first | (with_reducible assumption) | (simp only [List.length_append, List.length_map, List.length_cons, List.length_nil]; with_reducible rfl)) (by omega) ?_))
  k_with "call ref cons nil" => (k_here; k_dflt (refine' call_cls (by k_asm) (by k_asm) (by k_asm) (by k_is) (by k_is) (by k_is) ?_; k_whole; intro x' d' h' F' N' l1 l2; (try k_lt l1); (try k_lt2 l2); (try k_sweep); walk_at "enter"))
  k_with "call builtin:list.append cons nil" => (k_here; (with_reducible show wpAny _ _ (call (Value.builtin "list.append") [Value.ref _, _]) _ _ _); k_dflt (refine' appendL (by k_asm) (by k_asm) (by k_upd) (by ((try simp only [List.length_append, List.length_map, List.length_cons, List.length_nil]); omega)) ?_; k_whole); intro h' F' N'; (try k_sweep))
  k_with "subscriptTail Attribute Name Attribute ref int" => (k_here; (with_reducible show wpAny _ _ (subscriptTail _ _ (Value.ref _) (Value.int _ _)) _ _ _); k_dflt (refine' itemL (by k_asm) (by with_reducible assumption) (by k_mem) (by with_reducible rfl) (by omega) ?_ (by with_unfolding_all rfl); k_whole))
  k_with "subscriptTail Subscript Attribute Attribute Constant ref int" => (k_here; (with_reducible show wpAny _ _ (subscriptTail _ _ (Value.ref _) (Value.int _ _)) _ _ _); k_dflt (refine' itemT (by k_asm) (by k_mem) (by decide) (by decide) (by rfl) (by rfl) ?_ (by with_unfolding_all rfl) (by intro _; with_unfolding_all rfl)))
  k_with "WhlIf" => first | (with_reducible refine WhlIf.no (by with_reducible assumption) ?_) | (with_reducible refine WhlIf.yes (by with_reducible assumption) ?_)
  k_with "exec While Compare cons nil" => (k_here; (with_reducible refine whl_start 100 ?_))
  k_with "call ref nil" => (k_here; (with_reducible show wpAny _ _ (call (Value.ref 215) _) _ _ _); k_dflt (refine' peek_ok _ _ _ _ _ _ _ _ _ _ _ _ _ _ _ _ _ _ _ _ _ _ _ _ _ _ _ _ _ _ _ _ _ _ (by k_asm) (by k_asm) (by k_asm) (by k_asm) (by k_asm) (by first | rfl | assumption) (by first | decide | omega | ktr_room) (by first | decide | omega | ktr_units) (by exact ⟨by k_mem, ⟨_, _, by k_mem⟩, TK.mono (by assumption) (fun q hq => by repeat (first | exact hq | refine List.mem_cons_of_mem _ ?_))⟩) (by first | assumption | rfl) (by omega) ?_; intro h' tk' u' F' N'; (try k_sweep); (try dsimp only)))
  k_with "call ref nil" => (k_here; (with_reducible show wpAny _ _ (call (Value.ref 229) _) _ _ _); k_dflt (refine' take_ok _ _ _ _ _ _ _ _ _ _ _ _ _ _ _ _ _ _ _ _ _ _ _ _ _ _ _ _ _ _ _ _ _ _ (by k_asm) (by k_asm) (by k_asm) (by k_asm) (by k_asm) (by first | rfl | assumption) (by first | decide | omega | ktr_room) (by first | decide | omega | ktr_units) (by exact ⟨by k_mem, ⟨_, _, by k_mem⟩, TK.mono (by assumption) (fun q hq => by repeat (first | exact hq | refine List.mem_cons_of_mem _ ?_))⟩) (by first | assumption | rfl) (by omega) ?_;  intro h' tk' u' news' F' N' K' S'; (rename AllLt _ _ => l9); (have hno9 := allLt_ne l9); (have hod9 : @Ne Nat _ dd := Ne.symm (allLt_ne l9 _ hdd)); (have hot9 : @Ne Nat _ tl := Ne.symm (allLt_ne l9 _ hT.htl)); (have hoo9 := K' _ List.mem_cons_self hod9); (have KK9 : Kept dd news news' := fun q hq hn => K' q (List.mem_cons_of_mem _ hq) hn); (have hrd' := S'.hrd); (obtain ⟨ua', ud', hdd'⟩ := S'.hdd); (have hT' := S'.tk); (try k_sweep); (try dsimp only)))
  k_with "call ref nil" => (k_here; (with_reducible show wpAny _ _ (call (Value.ref 306) _) _ _ _); k_dflt (refine' term_ok _ _ _ _ _ _ _ _ _ _ _ _ _ _ _ _ _ _ _ _ _ _ _ _ _ _ _ _ _ _ _ _ _ _ (by k_asm) (by k_asm) (by k_asm) (by k_asm) (by k_asm) (by first | rfl | assumption) (by first | decide | omega | ktr_room) (by first | decide | omega | ktr_units) (by exact ⟨by k_mem, ⟨_, _, by k_mem⟩, TK.mono (by assumption) (fun q hq => by repeat (first | exact hq | refine List.mem_cons_of_mem _ ?_))⟩) (by first | assumption | rfl) (by first | assumption | rfl) (by decide) (by omega) ?_; intro h' tk' a8 t8 u8 k8 news2 F2 N2 K2 S2 hc2; (have hoo2 := K2 _ hoo9 hod9); (obtain ⟨rest3, N3, ad3, K3, S3, hc3⟩ := astep N2 S2 hoo2 hot9 hc2 (KK9.trans K2) hno9); (clear N2); (have S' := S3); (have hcd9 : @Ne Nat a8 dd := nne Obj.cls N3 (List.mem_cons_of_mem _ hc3) (List.mem_cons_of_mem _ S3.hdd.choose_spec.choose_spec) tup_dict); (have hrd' := S'.hrd); (obtain ⟨ua', ud', hdd'⟩ := S'.hdd); (have hT' := S'.tk); (try k_sweep); (try dsimp only)))
  k_with "call ref cons nil" => (k_here; (with_reducible show wpAny _ _ (call (Value.ref 236) _) _ _ _); k_dflt (refine' need_ok _ _ _ _ _ _ _ _ _ _ _ _ _ _ _ _ _ _ _ _ _ _ _ _ _ _ _ _ _ _ _ _ _ _ _ (by k_asm) (by k_asm) (by k_asm) (by k_asm) (by k_asm) (by first | rfl | assumption) (by first | decide | omega | ktr_room) (by first | decide | omega | ktr_units) (by exact ⟨by k_mem, ⟨_, _, by k_mem⟩, TK.mono (by assumption) (fun q hq => by repeat (first | exact hq | refine List.mem_cons_of_mem _ ?_))⟩) (by first | assumption | rfl) (by omega) ?_; intro h' tk' news4 F' N' K4 S'; (have hoo4 := K4 _ List.mem_cons_self hod9); (have hc4 := K4 _ (List.mem_cons_of_mem _ hc3) hcd9); (have hrd' := S'.hrd); (obtain ⟨ua', ud', hdd'⟩ := S'.hdd); (have hT' := S'.tk); (try k_sweep); (try dsimp only)))
  intro dp un gd cn cs a ccd cl outer A₀ base h₀ L m news s rd dd tl r nt vs ws i dq Q E B F X N T hk hd hu hS hx hx1 hx2 hi hret
  have hS0 := hS
  obtain ⟨hrd, ⟨ua, ud, hdd⟩, hT⟩ := hS
  have hx2' : wordAt ws (i + 1 + 1) = Str.ofString ")" := hx2
  refine wpAny_call ?_
  k_dflt (walk_at "enter")
  k_extra "steps"
  rename Fr h₀ L _ _ => F9
  rename News h₀ L _ _ => N9
  have e9 : i + 1 + 1 + 1 = i + 3 := by omega
  exact hret _ _ _ _ _ _ 0 _ _ F9 N9 ((K3.trans (Kept.sub fun q hq => List.mem_cons_of_mem _ hq)).trans (K4.trans (Kept.sub fun q hq => List.mem_cons_of_mem _ hq))) ((S'.mono fun q hq => List.mem_cons_of_mem _ hq).at e9) List.mem_cons_self (List.mem_cons_of_mem _ hc4)
theorem satomx_ok (w : World) (p : Program) (loose : List Str) (mean : ExcName → Option Value) (mg mb : Str → Option Value) :
    Reads1 PySem.Challenge.rw_ui0505_06.row.prog K06 316 285 w p loose mean mg mb .atomx 0 81 (fun x => x ≠ Str.ofString "(") := by
  unfold Reads1
  k_fill
  k_with_none
  k_with "steps" => repeat' (first | (k_unfold; (try dsimp only)) | walk1 | (dsimp only; walk1) | (leave1; walk_say "STEP leave1"; try dsimp only) | k_extra "mine")
  k_with "spliced" => first | refine args_cons ?_ | refine args_nil ⟨Fr.keep (by assumption) _ _ (by assumption), ?_⟩ | (refine args_nil ?_; try simp only [List.cons_append, List.nil_append])
  k_with "call builtin:len cons nil" => (k_here; (with_reducible show wpAny _ _ (call (Value.builtin "len") [Value.ref _]) _ _ _); k_dflt (refine' lenL (by k_asm) (by k_mem) (by first | (with_reducible assumption) | (simp only [List.length_append, List.length_map, List.length_cons, List.length_nil]; with_reducible rfl)) (by omega) ?_))
  k_with "call ref cons nil" => (k_here; k_dflt (refine' call_cls (by k_asm) (by k_asm) (by k_asm) (by k_is) (by k_is) (by k_is) ?_; k_whole; intro x' d' h' F' N' l1 l2; (try k_lt l1); (try k_lt2 l2); (try k_sweep); walk_at "enter"))
  k_with "call builtin:list.append cons nil" => (k_here; (with_reducible show wpAny _ _ (call (Value.builtin "list.append") [Value.ref _, _]) _ _ _); k_dflt (refine' appendL (by k_asm) (by k_asm) (by k_upd) (by ((try simp only [List.length_append, List.length_map, List.length_cons, List.length_nil]); omega)) ?_; k_whole); intro h' F' N'; (try k_sweep))
  k_with "subscriptTail Attribute Name Attribute ref int" => (k_here; (with_reducible show wpAny _ _ (subscriptTail _ _ (Value.ref _) (Value.int _ _)) _ _ _); k_dflt (refine' itemL (by k_asm) (by with_reducible assumption) (by k_mem) (by with_reducible rfl) (by omega) ?_ (by with_unfolding_all rfl); k_whole))
  k_with "subscriptTail Subscript Attribute Attribute Constant ref int" => (k_here; (with_reducible show wpAny _ _ (subscriptTail _ _ (Value.ref _) (Value.int _ _)) _ _ _); k_dflt (refine' itemT (by k_asm) (by k_mem) (by decide) (by decide) (by rfl) (by rfl) ?_ (by with_unfolding_all rfl) (by intro _; with_unfolding_all rfl)))
  k_with "WhlIf" => first | (with_reducible refine WhlIf.no (by with_reducible assumption) ?_) | (with_reducible refine WhlIf.yes (by with_reducible assumption) ?_)
  k_with "exec While Compare cons nil" => (k_here; (with_reducible refine whl_start 100 ?_))
  k_with "call ref nil" => (k_here; (with_reducible show wpAny _ _ (call (Value.ref 215) _) _ _ _); k_dflt (refine' peek_ok _ _ _ _ _ _ _ _ _ _ _ _ _ _ _ _ _ _ _ _ _ _ _ _ _ _ _ _ _ _ _ _ _ _ (by k_asm) (by k_asm) (by k_asm) (by k_asm) (by k_asm) (by first | rfl | assumption) (by first | decide | omega | ktr_room) (by first | decide | omega | ktr_units) (by exact ⟨by k_mem, ⟨_, _, by k_mem⟩, TK.mono (by assumption) (fun q hq => by repeat (first | exact hq | refine List.mem_cons_of_mem _ ?_))⟩) (by first | assumption | rfl) (by omega) ?_; intro h' tk' u' F' N'; (try k_sweep); (try dsimp only)))
  k_with "call ref nil" => (k_here; (with_reducible show wpAny _ _ (call (Value.ref 229) _) _ _ _); k_dflt (refine' take_ok _ _ _ _ _ _ _ _ _ _ _ _ _ _ _ _ _ _ _ _ _ _ _ _ _ _ _ _ _ _ _ _ _ _ (by k_asm) (by k_asm) (by k_asm) (by k_asm) (by k_asm) (by first | rfl | assumption) (by first | decide | omega | ktr_room) (by first | decide | omega | ktr_units) (by exact ⟨by k_mem, ⟨_, _, by k_mem⟩, TK.mono (by assumption) (fun q hq => by repeat (first | exact hq | refine List.mem_cons_of_mem _ ?_))⟩) (by first | assumption | rfl) (by omega) ?_; intro h' tk' u' news' F' N' K' S'; (have hrd' := S'.hrd); (obtain ⟨ua', ud', hdd'⟩ := S'.hdd); (have hT' := S'.tk); (try k_sweep); (try dsimp only)))
  k_with "call ref nil" => (k_here; (with_reducible show wpAny _ _ (call (Value.ref 299) _) _ _ _); k_dflt (refine' args1_ok _ _ _ _ _ _ _ _ _ _ _ _ _ _ _ _ _ _ _ _ _ _ _ _ _ _ _ _ _ _ _ _ _ (by k_asm) (by k_asm) (by k_asm) (by k_asm) (by k_asm) (by first | rfl | assumption) (by first | decide | omega | ktr_room) (by first | decide | omega | ktr_units) (by exact ⟨by k_mem, ⟨_, _, by k_mem⟩, TK.mono (by assumption) (fun q hq => by repeat (first | exact hq | refine List.mem_cons_of_mem _ ?_))⟩) (by assumption) (by assumption) (by assumption) (by omega) ?_; intro h' tk' b' c' t1' t2' k1' k2' news2' F' N' K2' S2' hb' hc'; (try k_sweep); (try dsimp only)))
  intro dp un gd cn cs a ccd cl outer A₀ base h₀ L m news s rd dd tl r nt vs ws i dq x Q E B F X N T hk hd hu hS hat hx hst hi hdq hret
  have hS0 := hS
  obtain ⟨hrd, ⟨ua, ud, hdd⟩, hT⟩ := hS
  have hw0 := hat.head
  have hw1 := hat.tail.head
  have hw2 := hat.tail.tail.head
  have hw3 := hat.tail.tail.tail.head
  have hw2' : wordAt ws (i + 1 + 1) = Str.ofString "x" := hw2
  have hw3' : wordAt ws (i + 1 + 2) = Str.ofString ")" := hw3
  simp only [Sf.size, Sf.words, List.length_cons, List.length_nil, Sf.deep] at hd hu hx hi hdq hret
  refine wpAny_call ?_
  k_dflt (walk_at "enter")
  k_extra "steps"
  rename Fr h₀ L _ _ => F9
  rename News h₀ L _ _ => N9
  exact hret _ _ _ _ F9 N9 ((K'.trans K2').trans (Kept.sub fun q hq => List.mem_cons_of_mem _ hq)) (S2'.mono fun q hq => List.mem_cons_of_mem _ hq) (.atomx (n := 0) List.mem_cons_self (List.mem_cons_of_mem _ hb') (List.mem_cons_of_mem _ hc'))
theorem name_ok (w : World) (p : Program) (loose : List Str) (mean : ExcName → Option Value) (mg mb : Str → Option Value) :
    ∀ (dp un : Nat) (gd : Option (List Code)) (cn : Str) (cs : Scope) (a : Addr) (ccd : Value) (cl : List (Str × Addr)) (outer : List Env) (A₀ : Around) (base h₀ : Heap) (L : Addr) (m : Str → Option Value) (news : List (Addr × Obj)) (s : Shared) (rd dd tl : Addr) (r : RT) (nt : Nat) (vs : List Value) (ws : List (Str × Int)) (i : Nat) (dq : Int) (Q E : Value → Shared → Prop),
      Below A₀ base outer h₀ → Fr h₀ L s.heap m → (K06 w.params).In h₀ → News h₀ L s.heap news → Top p loose mean mg mb h₀ → cs.kind = .function → dp + 50 < recursionLimit → un + 360 < cLine →
      RS 316 w news rd dd tl r nt vs ws i dq → wordAt ws i = Str.ofString "x" → i ≤ 900 →
      (∀ h' tk' u news', Fr h₀ L h' m → News h₀ L h' news' → Kept dd news news' → RS 316 w news' rd dd tl r nt vs ws (i + 1) dq → Q (.str (Str.ofString "x") u) { s with heap := h', toks := tk' }) →
      wpAny (model PySem.Challenge.rw_ui0505_06.row.prog w) (ktrTop dp un gd cn cs L a ccd cl outer) (call (.ref 292) [.ref rd]) Q E s := by
  k_fill
  k_with_none
  k_with "steps" => repeat' (first | (k_unfold; (try dsimp only)) | walk1 | (dsimp only; walk1) | (leave1; walk_say "STEP leave1"; try dsimp only) | k_extra "mine")
  k_with "spliced" => first | refine args_cons ?_ | refine args_nil ⟨Fr.keep (by assumption) _ _ (by assumption), ?_⟩ | (refine args_nil ?_; try simp only [List.cons_append, List.nil_append])
  k_with "call builtin:len cons nil" => (k_here; (with_reducible show wpAny _ _ (call (Value.builtin "len") [Value.ref _]) _ _ _); k_dflt (refine' lenL (by k_asm) (by k_mem) (by first | (with_reducible assumption) | (simp only [List.length_append, List.length_map, List.length_cons, List.length_nil]; with_reducible rfl)) (by omega) ?_))
  k_with "call ref cons nil" => (k_here; k_dflt (refine' call_cls (by k_asm) (by k_asm) (by k_asm) (by k_is) (by k_is) (by k_is) ?_; k_whole; intro x' d' h' F' N' l1 l2; (try k_lt l1); (try k_lt2 l2); (try k_sweep); walk_at "enter"))
  k_with "call builtin:list.append cons nil" => (k_here; (with_reducible show wpAny _ _ (call (Value.builtin "list.append") [Value.ref _, _]) _ _ _); k_dflt (refine' appendL (by k_asm) (by k_asm) (by k_upd) (by ((try simp only [List.length_append, List.length_map, List.length_cons, List.length_nil]); omega)) ?_; k_whole); intro h' F' N'; (try k_sweep))
  k_with "subscriptTail Attribute Name Attribute ref int" => (k_here; (with_reducible show wpAny _ _ (subscriptTail _ _ (Value.ref _) (Value.int _ _)) _ _ _); k_dflt (refine' itemL (by k_asm) (by with_reducible assumption) (by k_mem) (by with_reducible rfl) (by omega) ?_ (by with_unfolding_all rfl); k_whole))
  k_with "subscriptTail Subscript Attribute Attribute Constant ref int" => (k_here; (with_reducible show wpAny _ _ (subscriptTail _ _ (Value.ref _) (Value.int _ _)) _ _ _); k_dflt (refine' itemT (by k_asm) (by k_mem) (by decide) (by decide) (by rfl) (by rfl) ?_ (by with_unfolding_all rfl) (by intro _; with_unfolding_all rfl)))
  k_with "WhlIf" => first | (with_reducible refine WhlIf.no (by with_reducible assumption) ?_) | (with_reducible refine WhlIf.yes (by with_reducible assumption) ?_)
  k_with "exec While Compare cons nil" => (k_here; (with_reducible refine whl_start 100 ?_))
  k_with "call ref nil" => (k_here; (with_reducible show wpAny _ _ (call (Value.ref 215) _) _ _ _); k_dflt (refine' peek_ok _ _ _ _ _ _ _ _ _ _ _ _ _ _ _ _ _ _ _ _ _ _ _ _ _ _ _ _ _ _ _ _ _ _ (by k_asm) (by k_asm) (by k_asm) (by k_asm) (by k_asm) (by first | rfl | assumption) (by first | decide | omega | ktr_room) (by first | decide | omega | ktr_units) (by exact ⟨by k_mem, ⟨_, _, by k_mem⟩, TK.mono (by assumption) (fun q hq => by repeat (first | exact hq | refine List.mem_cons_of_mem _ ?_))⟩) (by first | assumption | rfl) (by omega) ?_; intro h' tk' u' F' N'; (try k_sweep); (try dsimp only)))
  k_with "call ref nil" => (k_here; (with_reducible show wpAny _ _ (call (Value.ref 229) _) _ _ _); k_dflt (refine' take_ok _ _ _ _ _ _ _ _ _ _ _ _ _ _ _ _ _ _ _ _ _ _ _ _ _ _ _ _ _ _ _ _ _ _ (by k_asm) (by k_asm) (by k_asm) (by k_asm) (by k_asm) (by first | rfl | assumption) (by first | decide | omega | ktr_room) (by first | decide | omega | ktr_units) (by exact ⟨by k_mem, ⟨_, _, by k_mem⟩, TK.mono (by assumption) (fun q hq => by repeat (first | exact hq | refine List.mem_cons_of_mem _ ?_))⟩) (by first | assumption | rfl) (by omega) ?_; intro h' tk' u' news' F' N' K' S'; (have hrd' := S'.hrd); (obtain ⟨ua', ud', hdd'⟩ := S'.hdd); (have hT' := S'.tk); (try k_sweep); (try dsimp only)))
  k_with "call ref cons nil" => (k_here; (with_reducible show wpAny _ _ (call (Value.ref 173) _) _ _ _); k_dflt (refine' isl_ok _ _ _ _ _ _ _ true (by exact ⟨"x", by decide, by first | rfl | decide⟩) _ _ _ _ _ _ _ _ _ _ _ _ _ _ _ _ _ _ _ (by k_asm) (by k_asm) (by k_asm) (by k_asm) (by k_asm) (by first | rfl | assumption) (by first | decide | omega | ktr_room) (by first | decide | omega | ktr_units) ?_; intro h' tk' F' N'; (try k_sweep); (try dsimp only)))
  k_with "call ref cons nil" => (k_here; (with_reducible show wpAny _ _ (call (Value.ref 194) _) _ _ _); k_dflt (refine' isv_ok _ _ _ _ _ _ _ _ _ _ _ _ _ _ _ _ _ _ _ _ _ _ _ _ _ (by k_asm) (by k_asm) (by k_asm) (by k_asm) (by k_asm) (by first | rfl | assumption) (by first | decide | omega | ktr_room) (by first | decide | omega | ktr_units) ?_; intro h' tk' F' N'; (try k_sweep); (try dsimp only)))
  intro dp un gd cn cs a ccd cl outer A₀ base h₀ L m news s rd dd tl r nt vs ws i dq Q E B F X N T hk hd hu hS hx hi hret
  have hS0 := hS
  obtain ⟨hrd, ⟨ua, ud, hdd⟩, hT⟩ := hS
  refine wpAny_call ?_
  k_dflt (walk_at "enter")
  k_extra "steps"
  rename Fr h₀ L _ _ => F9
  rename News h₀ L _ _ => N9
  exact hret _ _ _ _ F9 N9 K' S'
theorem finish_ok (w : World) (p : Program) (loose : List Str) (mean : ExcName → Option Value) (mg mb : Str → Option Value) :
    ∀ (dp un : Nat) (gd : Option (List Code)) (cn : Str) (cs : Scope) (a : Addr) (ccd : Value) (cl : List (Str × Addr)) (outer : List Env) (A₀ : Around) (base h₀ : Heap) (L : Addr) (m : Str → Option Value) (news : List (Addr × Obj)) (s : Shared) (rd dd tl : Addr) (r : RT) (nt : Nat) (vs : List Value) (ws : List (Str × Int)) (i : Nat) (dq : Int) (Q E : Value → Shared → Prop),
      Below A₀ base outer h₀ → Fr h₀ L s.heap m → (K06 w.params).In h₀ → News h₀ L s.heap news → Top p loose mean mg mb h₀ → cs.kind = .function → dp + 40 < recursionLimit → un + 320 < cLine →
      RS 316 w news rd dd tl r nt vs ws i dq → wordAt ws i = Str.ofString "" → i ≤ 900 →
      (∀ h' tk', Fr h₀ L h' m → News h₀ L h' news → Q .none { s with heap := h', toks := tk' }) →
      wpAny (model PySem.Challenge.rw_ui0505_06.row.prog w) (ktrTop dp un gd cn cs L a ccd cl outer) (call (.ref 313) [.ref rd]) Q E s := by
  k_fill
  k_with_none
  k_with "steps" => repeat' (first | (k_unfold; (try dsimp only)) | walk1 | (dsimp only; walk1) | (leave1; walk_say "STEP leave1"; try dsimp only) | k_extra "mine")
  k_with "spliced" => first | refine args_cons ?_ | refine args_nil ⟨Fr.keep (by assumption) _ _ (by assumption), ?_⟩ | (refine args_nil ?_; try simp only [List.cons_append, List.nil_append])
  k_with "call builtin:len cons nil" => (k_here; (with_reducible show wpAny _ _ (call (Value.builtin "len") [Value.ref _]) _ _ _); k_dflt (refine' lenL (by k_asm) (by k_mem) (by first | (with_reducible assumption) | (simp only [List.length_append, List.length_map, List.length_cons, List.length_nil]; with_reducible rfl)) (by omega) ?_))
  k_with "call ref cons nil" => (k_here; k_dflt (refine' call_cls (by k_asm) (by k_asm) (by k_asm) (by k_is) (by k_is) (by k_is) ?_; k_whole; intro x' d' h' F' N' l1 l2; (try k_lt l1); (try k_lt2 l2); (try k_sweep); walk_at "enter"))
  k_with "call builtin:list.append cons nil" => (k_here; (with_reducible show wpAny _ _ (call (Value.builtin "list.append") [Value.ref _, _]) _ _ _); k_dflt (refine' appendL (by k_asm) (by k_asm) (by k_upd) (by ((try simp only [List.length_append, List.length_map, List.length_cons, List.length_nil]); omega)) ?_; k_whole); intro h' F' N'; (try k_sweep))
  k_with "subscriptTail Attribute Name Attribute ref int" => (k_here; (with_reducible show wpAny _ _ (subscriptTail _ _ (Value.ref _) (Value.int _ _)) _ _ _); k_dflt (refine' itemL (by k_asm) (by with_reducible assumption) (by k_mem) (by with_reducible rfl) (by omega) ?_ (by with_unfolding_all rfl); k_whole))
  k_with "subscriptTail Subscript Attribute Attribute Constant ref int" => (k_here; (with_reducible show wpAny _ _ (subscriptTail _ _ (Value.ref _) (Value.int _ _)) _ _ _); k_dflt (refine' itemT (by k_asm) (by k_mem) (by decide) (by decide) (by rfl) (by rfl) ?_ (by with_unfolding_all rfl) (by intro _; with_unfolding_all rfl)))
  k_with "WhlIf" => first | (with_reducible refine WhlIf.no (by with_reducible assumption) ?_) | (with_reducible refine WhlIf.yes (by with_reducible assumption) ?_)
  k_with "exec While Compare cons nil" => (k_here; (with_reducible refine whl_start 100 ?_))
  k_with "call ref nil" => (k_here; (with_reducible show wpAny _ _ (call (Value.ref 215) _) _ _ _); k_dflt (refine' peek_ok _ _ _ _ _ _ _ _ _ _ _ _ _ _ _ _ _ _ _ _ _ _ _ _ _ _ _ _ _ _ _ _ _ _ (by k_asm) (by k_asm) (by k_asm) (by k_asm) (by k_asm) (by first | rfl | assumption) (by first | decide | omega | ktr_room) (by first | decide | omega | ktr_units) (by exact ⟨by k_mem, ⟨_, _, by k_mem⟩, TK.mono (by assumption) (fun q hq => by repeat (first | exact hq | refine List.mem_cons_of_mem _ ?_))⟩) (by first | assumption | rfl) (by omega) ?_; intro h' tk' u' F' N'; (try k_sweep); (try dsimp only)))
  intro dp un gd cn cs a ccd cl outer A₀ base h₀ L m news s rd dd tl r nt vs ws i dq Q E B F X N T hk hd hu hS hx hi hret
  obtain ⟨hrd, ⟨ua, ud, hdd⟩, hT⟩ := hS
  refine wpAny_call ?_
  k_dflt (walk_at "enter")
  k_extra "steps"
  rename Fr h₀ L _ _ => F9
  rename News h₀ L _ _ => N9
  exact hret _ _ F9 N9
theorem simple_ok (w : World) (p : Program) (loose : List Str) (mean : ExcName → Option Value) (mg mb : Str → Option Value) (S : Str → Prop) (f : Sf) (ex : Nat)
    (IH : Reads1 PySem.Challenge.rw_ui0505_06.row.prog K06 316 285 w p loose mean mg mb f ex 81 S) :
    Reads1 PySem.Challenge.rw_ui0505_06.row.prog K06 316 278 w p loose mean mg mb f (ex + 2) 80 S := by
  unfold Reads1
  k_fill
  k_with_none
  k_with "steps" => repeat' (first | (k_unfold; (try dsimp only)) | walk1 | (dsimp only; walk1) | (leave1; walk_say "STEP leave1"; try dsimp only) | k_extra "mine")
  k_with "spliced" => first | refine args_cons ?_ | refine args_nil ⟨Fr.keep (by assumption) _ _ (by assumption), ?_⟩ | (refine args_nil ?_; try simp only [List.cons_append, List.nil_append])
  k_with "call builtin:len cons nil" => (k_here; (with_reducible show wpAny _ _ (call (Value.builtin "len") [Value.ref _]) _ _ _); k_dflt (refine' lenL (by k_asm) (by k_mem) (by first | (with_reducible assumption) | (simp only [List.length_append, List.length_map, List.length_cons, List.length_nil]; with_reducible rfl)) (by omega) ?_))
  k_with "call ref cons nil" => (k_here; k_dflt (refine' call_cls (by k_asm) (by k_asm) (by k_asm) (by k_is) (by k_is) (by k_is) ?_; k_whole; intro x' d' h' F' N' l1 l2; (try k_lt l1); (try k_lt2 l2); (try k_sweep); walk_at "enter"))
  k_with "call builtin:list.append cons nil" => (k_here; (with_reducible show wpAny _ _ (call (Value.builtin "list.append") [Value.ref _, _]) _ _ _); k_dflt (refine' appendL (by k_asm) (by k_asm) (by k_upd) (by ((try simp only [List.length_append, List.length_map, List.length_cons, List.length_nil]); omega)) ?_; k_whole); intro h' F' N'; (try k_sweep))
  k_with "subscriptTail Attribute Name Attribute ref int" => (k_here; (with_reducible show wpAny _ _ (subscriptTail _ _ (Value.ref _) (Value.int _ _)) _ _ _); k_dflt (refine' itemL (by k_asm) (by with_reducible assumption) (by k_mem) (by with_reducible rfl) (by omega) ?_ (by with_unfolding_all rfl); k_whole))
  k_with "subscriptTail Subscript Attribute Attribute Constant ref int" => (k_here; (with_reducible show wpAny _ _ (subscriptTail _ _ (Value.ref _) (Value.int _ _)) _ _ _); k_dflt (refine' itemT (by k_asm) (by k_mem) (by decide) (by decide) (by rfl) (by rfl) ?_ (by with_unfolding_all rfl) (by intro _; with_unfolding_all rfl)))
  k_with "WhlIf" => first | (with_reducible refine WhlIf.no (by with_reducible assumption) ?_) | (with_reducible refine WhlIf.yes (by with_reducible assumption) ?_)
  k_with "exec While Compare cons nil" => (k_here; (with_reducible refine whl_start 100 ?_))
  k_with "call ref nil" => (k_here; (with_reducible show wpAny _ _ (call (Value.ref 215) _) _ _ _); k_dflt (refine' peek_ok _ _ _ _ _ _ _ _ _ _ _ _ _ _ _ _ _ _ _ _ _ _ _ _ _ _ _ _ _ _ _ _ _ _ (by k_asm) (by k_asm) (by k_asm) (by k_asm) (by k_asm) (by first | rfl | assumption) (by first | decide | omega | ktr_room) (by first | decide | omega | ktr_units) (by exact ⟨by k_mem, ⟨_, _, by k_mem⟩, TK.mono (by assumption) (fun q hq => by repeat (first | exact hq | refine List.mem_cons_of_mem _ ?_))⟩) (by first | assumption | rfl) (by omega) ?_; intro h' tk' u' F' N'; (try k_sweep); (try dsimp only)))
  k_with "call ref nil" => (k_here; (with_reducible show wpAny _ _ (call (Value.ref 285) _) _ _ _); (rename Reads1 _ _ _ _ _ _ _ _ _ _ _ _ _ _ => IH9); k_dflt (refine' IH9 _ _ _ _ _ _ _ _ _ _ _ _ _ _ _ _ _ _ _ _ _ _ _ _ (dq + 1) _ _ _ (by k_asm) (by k_asm) (by k_asm) (by k_asm) (by k_asm) (by first | rfl | assumption) (by first | decide | omega | ktr_room) (by first | decide | omega | ktr_units) (by exact RS.cast ⟨by k_mem, ⟨_, _, by k_mem⟩, TK.mono (by assumption) (fun q hq => by repeat (first | exact hq | refine List.mem_cons_of_mem _ ?_))⟩ (by omega)) (by assumption) (by assumption) (by assumption) (by omega) (by omega) ?_; intro h' tk' v' news' F' N' K' S' f'; (obtain ⟨hrd', ⟨ua', ud', hdd'⟩, hT'⟩ := id S'); (have N1' := RS.front N' hdd'); (have hT1' := hT'.off N' hdd' rfl); (have nr' : @Ne Nat rd dd := nne Obj.cls N' hrd' hdd' (fun e => by cases e)); (have hr1' := mem_off.mpr (And.intro hrd' nr')); (have ad' := @off_ne dd news'); (have hN' := N'); (have hk1' : Kept dd news' (off dd news') := fun q hq hne => mem_off.mpr ⟨hq, hne⟩); (have f1' : FIs (off dd news') v' f := f'.keep N' hdd' rfl hk1'); (generalize off dd news' = rest' at N1' hT1' hr1' ad' hk1' f1'); (clear N' hrd' hdd' hT'); (try k_sweep); (try dsimp only)))
  intro dp un gd cn cs a ccd cl outer A₀ base h₀ L m news s rd dd tl r nt vs ws i dq x Q E B F X N T hk hd hu hS hat hx hst hi hdq hret
  have hS0 := hS
  obtain ⟨hrd, ⟨ua, ud, hdd⟩, hT⟩ := hS
  have N1 := RS.front N hdd
  have hT1 := hT.off N hdd rfl
  have nr : @Ne Nat rd dd := nne Obj.cls N hrd hdd (fun e => by cases e)
  have hr1 : (rd, instObj 316 dd) ∈ off dd news := mem_off.mpr ⟨hrd, nr⟩
  have ad : ∀ q ∈ off dd news, q.1 ≠ dd := off_ne
  have hN := N
  have hk1 : Kept dd news (off dd news) := fun q hq hne => mem_off.mpr ⟨hq, hne⟩
  generalize off dd news = rest at N1 hT1 hr1 ad hk1
  clear N hrd hdd hT
  have hdp := f.deep_pos
  have hcut : decide ((80 : Int) < (dq : Int) + 1) = false := decide_eq_false (by omega)
  refine wpAny_call ?_
  k_dflt (walk_at "enter")
  k_extra "steps"
  rename Fr h₀ L _ _ => F9
  rename News h₀ L _ _ => N9
  refine hret _ _ _ _ F9 N9 ?_ (RS.cast ⟨List.mem_cons_of_mem _ hr1', ⟨_, _, List.mem_cons_self⟩, hT1'.mono fun q hq => List.mem_cons_of_mem _ hq⟩ (by omega)) (f1'.mono fun q hq => List.mem_cons_of_mem _ hq)
  exact (((hk1.trans (Kept.sub fun q hq => List.mem_cons_of_mem _ hq)).trans K').trans hk1').trans (Kept.sub fun q hq => List.mem_cons_of_mem _ hq)
theorem sno_ok (w : World) (p : Program) (loose : List Str) (mean : ExcName → Option Value) (mg mb : Str → Option Value) (S : Str → Prop) (f : Sf)
    (IH : Reads1 PySem.Challenge.rw_ui0505_06.row.prog K06 316 278 w p loose mean mg mb f 2 80 S) :
    Reads1 PySem.Challenge.rw_ui0505_06.row.prog K06 316 285 w p loose mean mg mb (.no f) 0 81 S := by
  unfold Reads1
  k_fill
  k_with_none
  k_with "steps" => repeat' (first | (k_unfold; (try dsimp only)) | walk1 | (dsimp only; walk1) | (leave1; walk_say "STEP leave1"; try dsimp only) | k_extra "mine")
  k_with "spliced" => first | refine args_cons ?_ | refine args_nil ⟨Fr.keep (by assumption) _ _ (by assumption), ?_⟩ | (refine args_nil ?_; try simp only [List.cons_append, List.nil_append])
  k_with "call builtin:len cons nil" => (k_here; (with_reducible show wpAny _ _ (call (Value.builtin "len") [Value.ref _]) _ _ _); k_dflt (refine' lenL (by k_asm) (by k_mem) (by first | (with_reducible assumption) | (simp only [List.length_append, List.length_map, List.length_cons, List.length_nil]; with_reducible rfl)) (by omega) ?_))
  k_with "call ref cons nil" => (k_here; k_dflt (refine' call_cls (by k_asm) (by k_asm) (by k_asm) (by k_is) (by k_is) (by k_is) ?_; k_whole; intro x' d' h' F' N' l1 l2; (try k_lt l1); (try k_lt2 l2); (try k_sweep); walk_at "enter"))
  k_with "call builtin:list.append cons nil" => (k_here; (with_reducible show wpAny _ _ (call (Value.builtin "list.append") [Value.ref _, _]) _ _ _); k_dflt (refine' appendL (by k_asm) (by k_asm) (by k_upd) (by ((try simp only [List.length_append, List.length_map, List.length_cons, List.length_nil]); omega)) ?_; k_whole); intro h' F' N'; (try k_sweep))
  k_with "subscriptTail Attribute Name Attribute ref int" => (k_here; (with_reducible show wpAny _ _ (subscriptTail _ _ (Value.ref _) (Value.int _ _)) _ _ _); k_dflt (refine' itemL (by k_asm) (by with_reducible assumption) (by k_mem) (by with_reducible rfl) (by omega) ?_ (by with_unfolding_all rfl); k_whole))
  k_with "subscriptTail Subscript Attribute Attribute Constant ref int" => (k_here; (with_reducible show wpAny _ _ (subscriptTail _ _ (Value.ref _) (Value.int _ _)) _ _ _); k_dflt (refine' itemT (by k_asm) (by k_mem) (by decide) (by decide) (by rfl) (by rfl) ?_ (by with_unfolding_all rfl) (by intro _; with_unfolding_all rfl)))
  k_with "WhlIf" => first | (with_reducible refine WhlIf.no (by with_reducible assumption) ?_) | (with_reducible refine WhlIf.yes (by with_reducible assumption) ?_)
  k_with "exec While Compare cons nil" => (k_here; (with_reducible refine whl_start 100 ?_))
  k_with "call ref nil" => (k_here; (with_reducible show wpAny _ _ (call (Value.ref 215) _) _ _ _); k_dflt (refine' peek_ok _ _ _ _ _ _ _ _ _ _ _ _ _ _ _ _ _ _ _ _ _ _ _ _ _ _ _ _ _ _ _ _ _ _ (by k_asm) (by k_asm) (by k_asm) (by k_asm) (by k_asm) (by first | rfl | assumption) (by first | decide | omega | ktr_room) (by first | decide | omega | ktr_units) (by exact ⟨by k_mem, ⟨_, _, by k_mem⟩, TK.mono (by assumption) (fun q hq => by repeat (first | exact hq | refine List.mem_cons_of_mem _ ?_))⟩) (by first | assumption | rfl) (by omega) ?_; intro h' tk' u' F' N'; (try k_sweep); (try dsimp only)))
  k_with "call ref nil" => (k_here; (with_reducible show wpAny _ _ (call (Value.ref 229) _) _ _ _); k_dflt (refine' take_ok _ _ _ _ _ _ _ _ _ _ _ _ _ _ _ _ _ _ _ _ _ _ _ _ _ _ _ _ _ _ _ _ _ _ (by k_asm) (by k_asm) (by k_asm) (by k_asm) (by k_asm) (by first | rfl | assumption) (by first | decide | omega | ktr_room) (by first | decide | omega | ktr_units) (by exact ⟨by k_mem, ⟨_, _, by k_mem⟩, TK.mono (by assumption) (fun q hq => by repeat (first | exact hq | refine List.mem_cons_of_mem _ ?_))⟩) (by first | assumption | rfl) (by omega) ?_; intro h' tk' u' news' F' N' K' S'; (have hrd' := S'.hrd); (obtain ⟨ua', ud', hdd'⟩ := S'.hdd); (have hT' := S'.tk); (try k_sweep); (try dsimp only)))
  k_with "call ref nil" => (k_here; (with_reducible show wpAny _ _ (call (Value.ref 278) _) _ _ _); (rename Reads1 _ _ _ _ _ _ _ _ _ _ _ _ _ _ => IH9); k_dflt (refine' IH9 _ _ _ _ _ _ _ _ _ _ _ _ _ _ _ _ _ _ _ _ _ _ _ _ _ x _ _ (by k_asm) (by k_asm) (by k_asm) (by k_asm) (by k_asm) (by first | rfl | assumption) (by first | decide | omega | ktr_room) (by first | decide | omega | ktr_units) (by assumption) (by assumption) (by rw [← hx]; congr 1; omega) (by assumption) (by omega) (by omega) ?_; intro h' tk' v' news' F' N' K' S' f'; (have hrd' := S'.hrd); (obtain ⟨ua', ud', hdd'⟩ := S'.hdd); (have hT' := S'.tk); (try k_sweep); (try dsimp only)))
  intro dp un gd cn cs a ccd cl outer A₀ base h₀ L m news s rd dd tl r nt vs ws i dq x Q E B F X N T hk hd hu hS hat hx hst hi hdq hret
  have hS0 := hS
  obtain ⟨hrd, ⟨ua, ud, hdd⟩, hT⟩ := hS
  have hw0 := hat.head
  have hat1 := hat.tail
  simp only [Sf.size, Sf.words, List.length_cons, Sf.deep] at *
  refine wpAny_call ?_
  k_dflt (walk_at "enter")
  k_extra "steps"
  rename Fr h₀ L _ _ => F9
  rename News h₀ L _ _ => N9
  rename Kept dd news _ => Ka
  have e9 : i + 1 + f.words.length = i + (f.words.length + 1) := by omega
  rw [e9] at S'
  exact hret _ _ _ _ F9 N9 ((Ka.trans K').trans (Kept.sub fun q hq => List.mem_cons_of_mem _ hq)) (S'.mono fun q hq => List.mem_cons_of_mem _ hq) (.no (n := 0) List.mem_cons_self (f'.mono fun q hq => List.mem_cons_of_mem _ hq))
theorem conj_ok (w : World) (p : Program) (loose : List Str) (mean : ExcName → Option Value) (mg mb : Str → Option Value) (S : Str → Prop) (f : Sf) (ex : Nat)
    (IH : Reads1 PySem.Challenge.rw_ui0505_06.row.prog K06 316 278 w p loose mean mg mb f ex 80 S) :
    Reads1 PySem.Challenge.rw_ui0505_06.row.prog K06 316 271 w p loose mean mg mb f (ex + 2) 80 (fun x => S x ∧ x ≠ Str.ofString "&") := by
  unfold Reads1
  k_fill
  k_with_none
  k_with "steps" => repeat' (first | (k_unfold; (try dsimp only)) | walk1 | (dsimp only; walk1) | (leave1; walk_say "STEP leave1"; try dsimp only) | k_extra "mine")
  k_with "spliced" => first | refine args_cons ?_ | refine args_nil ⟨Fr.keep (by assumption) _ _ (by assumption), ?_⟩ | (refine args_nil ?_; try simp only [List.cons_append, List.nil_append])
  k_with "call builtin:len cons nil" => (k_here; (with_reducible show wpAny _ _ (call (Value.builtin "len") [Value.ref _]) _ _ _); k_dflt (refine' lenL (by k_asm) (by k_mem) (by first | (with_reducible assumption) | (simp only [List.length_append, List.length_map, List.length_cons, List.length_nil]; with_reducible rfl)) (by omega) ?_))
  k_with "call ref cons nil" => (k_here; k_dflt (refine' call_cls (by k_asm) (by k_asm) (by k_asm) (by k_is) (by k_is) (by k_is) ?_; k_whole; intro x' d' h' F' N' l1 l2; (try k_lt l1); (try k_lt2 l2); (try k_sweep); walk_at "enter"))
  k_with "call builtin:list.append cons nil" => (k_here; (with_reducible show wpAny _ _ (call (Value.builtin "list.append") [Value.ref _, _]) _ _ _); k_dflt (refine' appendL (by k_asm) (by k_asm) (by k_upd) (by ((try simp only [List.length_append, List.length_map, List.length_cons, List.length_nil]); omega)) ?_; k_whole); intro h' F' N'; (try k_sweep))
  k_with "subscriptTail Attribute Name Attribute ref int" => (k_here; (with_reducible show wpAny _ _ (subscriptTail _ _ (Value.ref _) (Value.int _ _)) _ _ _); k_dflt (refine' itemL (by k_asm) (by with_reducible assumption) (by k_mem) (by with_reducible rfl) (by omega) ?_ (by with_unfolding_all rfl); k_whole))
  k_with "subscriptTail Subscript Attribute Attribute Constant ref int" => (k_here; (with_reducible show wpAny _ _ (subscriptTail _ _ (Value.ref _) (Value.int _ _)) _ _ _); k_dflt (refine' itemT (by k_asm) (by k_mem) (by decide) (by decide) (by rfl) (by rfl) ?_ (by with_unfolding_all rfl) (by intro _; with_unfolding_all rfl)))
  k_with "WhlIf" => first | (with_reducible refine WhlIf.no (by with_reducible assumption) ?_) | (with_reducible refine WhlIf.yes (by with_reducible assumption) ?_)
  k_with "exec While Compare cons nil" => (k_here; (with_reducible refine whl_start 100 ?_))
  k_with "call ref nil" => (k_here; (with_reducible show wpAny _ _ (call (Value.ref 215) _) _ _ _); k_dflt (refine' peek_ok _ _ _ _ _ _ _ _ _ _ _ _ _ _ _ _ _ _ _ _ _ _ _ _ _ _ _ _ _ _ _ _ _ _ (by k_asm) (by k_asm) (by k_asm) (by k_asm) (by k_asm) (by first | rfl | assumption) (by first | decide | omega | ktr_room) (by first | decide | omega | ktr_units) (by exact ⟨by k_mem, ⟨_, _, by k_mem⟩, TK.mono (by assumption) (fun q hq => by repeat (first | exact hq | refine List.mem_cons_of_mem _ ?_))⟩) (by first | assumption | rfl) (by omega) ?_; intro h' tk' u' F' N'; (try k_sweep); (try dsimp only)))
  k_with "call ref nil" => (k_here; (with_reducible show wpAny _ _ (call (Value.ref 278) _) _ _ _); (rename Reads1 _ _ _ _ _ _ _ _ _ _ _ _ _ _ => IH9); k_dflt (refine' IH9 _ _ _ _ _ _ _ _ _ _ _ _ _ _ _ _ _ _ _ _ _ _ _ _ _ _ _ _ (by k_asm) (by k_asm) (by k_asm) (by k_asm) (by k_asm) (by first | rfl | assumption) (by first | decide | omega | ktr_room) (by first | decide | omega | ktr_units) (by assumption) (by assumption) (by assumption) (by assumption) (by omega) (by omega) ?_; intro h' tk' v' news' F' N' K' S' f'; (have hrd' := S'.hrd); (obtain ⟨ua', ud', hdd'⟩ := S'.hdd); (have hT' := S'.tk); (try k_sweep); (try dsimp only)))
  intro dp un gd cn cs a ccd cl outer A₀ base h₀ L m news s rd dd tl r nt vs ws i dq x Q E B F X N T hk hd hu hS hat hx hst hi hdq hret
  have hS0 := hS
  obtain ⟨hrd, ⟨ua, ud, hdd⟩, hT⟩ := hS
  obtain ⟨hst1, hst2⟩ := hst
  have hne : (x == Str.ofString "&") = false := beq_eq_false_iff_ne.mpr hst2
  refine wpAny_call ?_
  k_dflt (walk_at "enter")
  k_extra "steps"
  rename Fr h₀ L _ _ => F9
  rename News h₀ L _ _ => N9
  exact hret _ _ _ _ F9 N9 (by assumption) (by assumption) (by assumption)
theorem disj_ok (w : World) (p : Program) (loose : List Str) (mean : ExcName → Option Value) (mg mb : Str → Option Value) (S : Str → Prop) (f : Sf) (ex : Nat)
    (IH : Reads1 PySem.Challenge.rw_ui0505_06.row.prog K06 316 271 w p loose mean mg mb f ex 80 S) :
    Reads1 PySem.Challenge.rw_ui0505_06.row.prog K06 316 264 w p loose mean mg mb f (ex + 2) 80 (fun x => S x ∧ x ≠ Str.ofString "|") := by
  unfold Reads1
  k_fill
  k_with_none
  k_with "steps" => repeat' (first | (k_unfold; (try dsimp only)) | walk1 | (dsimp only; walk1) | (leave1; walk_say "STEP leave1"; try dsimp only) | k_extra "mine")
  k_with "spliced" => first | refine args_cons ?_ | refine args_nil ⟨Fr.keep (by assumption) _ _ (by assumption), ?_⟩ | (refine args_nil ?_; try simp only [List.cons_append, List.nil_append])
  k_with "call builtin:len cons nil" => (k_here; (with_reducible show wpAny _ _ (call (Value.builtin "len") [Value.ref _]) _ _ _); k_dflt (refine' lenL (by k_asm) (by k_mem) (by first | (with_reducible assumption) | (simp only [List.length_append, List.length_map, List.length_cons, List.length_nil]; with_reducible rfl)) (by omega) ?_))
  k_with "call ref cons nil" => (k_here; k_dflt (refine' call_cls (by k_asm) (by k_asm) (by k_asm) (by k_is) (by k_is) (by k_is) ?_; k_whole; intro x' d' h' F' N' l1 l2; (try k_lt l1); (try k_lt2 l2); (try k_sweep); walk_at "enter"))
  k_with "call builtin:list.append cons nil" => (k_here; (with_reducible show wpAny _ _ (call (Value.builtin "list.append") [Value.ref _, _]) _ _ _); k_dflt (refine' appendL (by k_asm) (by k_asm) (by k_upd) (by ((try simp only [List.length_append, List.length_map, List.length_cons, List.length_nil]); omega)) ?_; k_whole); intro h' F' N'; (try k_sweep))
  k_with "subscriptTail Attribute Name Attribute ref int" => (k_here; (with_reducible show wpAny _ _ (subscriptTail _ _ (Value.ref _) (Value.int _ _)) _ _ _); k_dflt (refine' itemL (by k_asm) (by with_reducible assumption) (by k_mem) (by with_reducible rfl) (by omega) ?_ (by with_unfolding_all rfl); k_whole))
  k_with "subscriptTail Subscript Attribute Attribute Constant ref int" => (k_here; (with_reducible show wpAny _ _ (subscriptTail _ _ (Value.ref _) (Value.int _ _)) _ _ _); k_dflt (refine' itemT (by k_asm) (by k_mem) (by decide) (by decide) (by rfl) (by rfl) ?_ (by with_unfolding_all rfl) (by intro _; with_unfolding_all rfl)))
  k_with "WhlIf" => first | (with_reducible refine WhlIf.no (by with_reducible assumption) ?_) | (with_reducible refine WhlIf.yes (by with_reducible assumption) ?_)
  k_with "exec While Compare cons nil" => (k_here; (with_reducible refine whl_start 100 ?_))
  k_with "call ref nil" => (k_here; (with_reducible show wpAny _ _ (call (Value.ref 215) _) _ _ _); k_dflt (refine' peek_ok _ _ _ _ _ _ _ _ _ _ _ _ _ _ _ _ _ _ _ _ _ _ _ _ _ _ _ _ _ _ _ _ _ _ (by k_asm) (by k_asm) (by k_asm) (by k_asm) (by k_asm) (by first | rfl | assumption) (by first | decide | omega | ktr_room) (by first | decide | omega | ktr_units) (by exact ⟨by k_mem, ⟨_, _, by k_mem⟩, TK.mono (by assumption) (fun q hq => by repeat (first | exact hq | refine List.mem_cons_of_mem _ ?_))⟩) (by first | assumption | rfl) (by omega) ?_; intro h' tk' u' F' N'; (try k_sweep); (try dsimp only)))
  k_with "call ref nil" => (k_here; (with_reducible show wpAny _ _ (call (Value.ref 271) _) _ _ _); (rename Reads1 _ _ _ _ _ _ _ _ _ _ _ _ _ _ => IH9); k_dflt (refine' IH9 _ _ _ _ _ _ _ _ _ _ _ _ _ _ _ _ _ _ _ _ _ _ _ _ _ _ _ _ (by k_asm) (by k_asm) (by k_asm) (by k_asm) (by k_asm) (by first | rfl | assumption) (by first | decide | omega | ktr_room) (by first | decide | omega | ktr_units) (by assumption) (by assumption) (by assumption) (by assumption) (by omega) (by omega) ?_; intro h' tk' v' news' F' N' K' S' f'; (have hrd' := S'.hrd); (obtain ⟨ua', ud', hdd'⟩ := S'.hdd); (have hT' := S'.tk); (try k_sweep); (try dsimp only)))
  intro dp un gd cn cs a ccd cl outer A₀ base h₀ L m news s rd dd tl r nt vs ws i dq x Q E B F X N T hk hd hu hS hat hx hst hi hdq hret
  have hS0 := hS
  obtain ⟨hrd, ⟨ua, ud, hdd⟩, hT⟩ := hS
  obtain ⟨hst1, hst2⟩ := hst
  have hne : (x == Str.ofString "|") = false := beq_eq_false_iff_ne.mpr hst2
  refine wpAny_call ?_
  k_dflt (walk_at "enter")
  k_extra "steps"
  rename Fr h₀ L _ _ => F9
  rename News h₀ L _ _ => N9
  exact hret _ _ _ _ F9 N9 (by assumption) (by assumption) (by assumption)
theorem imp1_ok (w : World) (p : Program) (loose : List Str) (mean : ExcName → Option Value) (mg mb : Str → Option Value) (S : Str → Prop) (f : Sf) (ex : Nat)
    (IH : Reads1 PySem.Challenge.rw_ui0505_06.row.prog K06 316 264 w p loose mean mg mb f ex 80 S) :
    Reads1 PySem.Challenge.rw_ui0505_06.row.prog K06 316 257 w p loose mean mg mb f (ex + 2) 80 (fun x => S x ∧ x ≠ Str.ofString "->") := by
  unfold Reads1
  k_fill
  k_with_none
  k_with "steps" => repeat' (first | (k_unfold; (try dsimp only)) | walk1 | (dsimp only; walk1) | (leave1; walk_say "STEP leave1"; try dsimp only) | k_extra "mine")
  k_with "spliced" => first | refine args_cons ?_ | refine args_nil ⟨Fr.keep (by assumption) _ _ (by assumption), ?_⟩ | (refine args_nil ?_; try simp only [List.cons_append, List.nil_append])
  k_with "call builtin:len cons nil" => (k_here; (with_reducible show wpAny _ _ (call (Value.builtin "len") [Value.ref _]) _ _ _); k_dflt (refine' lenL (by k_asm) (by k_mem) (by first | (with_reducible assumption) | (simp only [List.length_append, List.length_map, List.length_cons, List.length_nil]; with_reducible rfl)) (by omega) ?_))
  k_with "call ref cons nil" => (k_here; k_dflt (refine' call_cls (by k_asm) (by k_asm) (by k_asm) (by k_is) (by k_is) (by k_is) ?_; k_whole; intro x' d' h' F' N' l1 l2; (try k_lt l1); (try k_lt2 l2); (try k_sweep); walk_at "enter"))
  k_with "call builtin:list.append cons nil" => (k_here; (with_reducible show wpAny _ _ (call (Value.builtin "list.append") [Value.ref _, _]) _ _ _); k_dflt (refine' appendL (by k_asm) (by k_asm) (by k_upd) (by ((try simp only [List.length_append, List.length_map, List.length_cons, List.length_nil]); omega)) ?_; k_whole); intro h' F' N'; (try k_sweep))
  k_with "subscriptTail Attribute Name Attribute ref int" => (k_here; (with_reducible show wpAny _ _ (subscriptTail _ _ (Value.ref _) (Value.int _ _)) _ _ _); k_dflt (refine' itemL (by k_asm) (by with_reducible assumption) (by k_mem) (by with_reducible rfl) (by omega) ?_ (by with_unfolding_all rfl); k_whole))
  k_with "subscriptTail Subscript Attribute Attribute Constant ref int" => (k_here; (with_reducible show wpAny _ _ (subscriptTail _ _ (Value.ref _) (Value.int _ _)) _ _ _); k_dflt (refine' itemT (by k_asm) (by k_mem) (by decide) (by decide) (by rfl) (by rfl) ?_ (by with_unfolding_all rfl) (by intro _; with_unfolding_all rfl)))
  k_with "WhlIf" => first | (with_reducible refine WhlIf.no (by with_reducible assumption) ?_) | (with_reducible refine WhlIf.yes (by with_reducible assumption) ?_)
  k_with "exec While Compare cons nil" => (k_here; (with_reducible refine whl_start 100 ?_))
  k_with "call ref nil" => (k_here; (with_reducible show wpAny _ _ (call (Value.ref 215) _) _ _ _); k_dflt (refine' peek_ok _ _ _ _ _ _ _ _ _ _ _ _ _ _ _ _ _ _ _ _ _ _ _ _ _ _ _ _ _ _ _ _ _ _ (by k_asm) (by k_asm) (by k_asm) (by k_asm) (by k_asm) (by first | rfl | assumption) (by first | decide | omega | ktr_room) (by first | decide | omega | ktr_units) (by exact ⟨by k_mem, ⟨_, _, by k_mem⟩, TK.mono (by assumption) (fun q hq => by repeat (first | exact hq | refine List.mem_cons_of_mem _ ?_))⟩) (by first | assumption | rfl) (by omega) ?_; intro h' tk' u' F' N'; (try k_sweep); (try dsimp only)))
  k_with "call ref nil" => (k_here; (with_reducible show wpAny _ _ (call (Value.ref 264) _) _ _ _); (rename Reads1 _ _ _ _ _ _ _ _ _ _ _ _ _ _ => IH9); k_dflt (refine' IH9 _ _ _ _ _ _ _ _ _ _ _ _ _ _ _ _ _ _ _ _ _ _ _ _ _ _ _ _ (by k_asm) (by k_asm) (by k_asm) (by k_asm) (by k_asm) (by first | rfl | assumption) (by first | decide | omega | ktr_room) (by first | decide | omega | ktr_units) (by assumption) (by assumption) (by assumption) (by assumption) (by omega) (by omega) ?_; intro h' tk' v' news' F' N' K' S' f'; (have hrd' := S'.hrd); (obtain ⟨ua', ud', hdd'⟩ := S'.hdd); (have hT' := S'.tk); (try k_sweep); (try dsimp only)))
  intro dp un gd cn cs a ccd cl outer A₀ base h₀ L m news s rd dd tl r nt vs ws i dq x Q E B F X N T hk hd hu hS hat hx hst hi hdq hret
  have hS0 := hS
  obtain ⟨hrd, ⟨ua, ud, hdd⟩, hT⟩ := hS
  obtain ⟨hst1, hst2⟩ := hst
  have hne : (x == Str.ofString "->") = false := beq_eq_false_iff_ne.mpr hst2
  refine wpAny_call ?_
  k_dflt (walk_at "enter")
  k_extra "steps"
  rename Fr h₀ L _ _ => F9
  rename News h₀ L _ _ => N9
  exact hret _ _ _ _ F9 N9 (K'.trans (Kept.sub fun q hq => List.mem_cons_of_mem _ hq)) (S'.mono fun q hq => List.mem_cons_of_mem _ hq) (f'.mono fun q hq => List.mem_cons_of_mem _ hq)
theorem form_ok (w : World) (p : Program) (loose : List Str) (mean : ExcName → Option Value) (mg mb : Str → Option Value) (S : Str → Prop) (f : Sf) (ex : Nat)
    (IH : Reads1 PySem.Challenge.rw_ui0505_06.row.prog K06 316 257 w p loose mean mg mb f ex 80 S) :
    Reads1 PySem.Challenge.rw_ui0505_06.row.prog K06 316 243 w p loose mean mg mb f (ex + 2) 80 (fun x => S x ∧ x ≠ Str.ofString "<->") := by
  unfold Reads1
  k_fill
  k_with_none
  k_with "steps" => repeat' (first | (k_unfold; (try dsimp only)) | walk1 | (dsimp only; walk1) | (leave1; walk_say "STEP leave1"; try dsimp only) | k_extra "mine")
  k_with "spliced" => first | refine args_cons ?_ | refine args_nil ⟨Fr.keep (by assumption) _ _ (by assumption), ?_⟩ | (refine args_nil ?_; try simp only [List.cons_append, List.nil_append])
  k_with "call builtin:len cons nil" => (k_here; (with_reducible show wpAny _ _ (call (Value.builtin "len") [Value.ref _]) _ _ _); k_dflt (refine' lenL (by k_asm) (by k_mem) (by first | (with_reducible assumption) | (simp only [List.length_append, List.length_map, List.length_cons, List.length_nil]; with_reducible rfl)) (by omega) ?_))
  k_with "call ref cons nil" => (k_here; k_dflt (refine' call_cls (by k_asm) (by k_asm) (by k_asm) (by k_is) (by k_is) (by k_is) ?_; k_whole; intro x' d' h' F' N' l1 l2; (try k_lt l1); (try k_lt2 l2); (try k_sweep); walk_at "enter"))
  k_with "call builtin:list.append cons nil" => (k_here; (with_reducible show wpAny _ _ (call (Value.builtin "list.append") [Value.ref _, _]) _ _ _); k_dflt (refine' appendL (by k_asm) (by k_asm) (by k_upd) (by ((try simp only [List.length_append, List.length_map, List.length_cons, List.length_nil]); omega)) ?_; k_whole); intro h' F' N'; (try k_sweep))
  k_with "subscriptTail Attribute Name Attribute ref int" => (k_here; (with_reducible show wpAny _ _ (subscriptTail _ _ (Value.ref _) (Value.int _ _)) _ _ _); k_dflt (refine' itemL (by k_asm) (by with_reducible assumption) (by k_mem) (by with_reducible rfl) (by omega) ?_ (by with_unfolding_all rfl); k_whole))
  k_with "subscriptTail Subscript Attribute Attribute Constant ref int" => (k_here; (with_reducible show wpAny _ _ (subscriptTail _ _ (Value.ref _) (Value.int _ _)) _ _ _); k_dflt (refine' itemT (by k_asm) (by k_mem) (by decide) (by decide) (by rfl) (by rfl) ?_ (by with_unfolding_all rfl) (by intro _; with_unfolding_all rfl)))
  k_with "WhlIf" => first | (with_reducible refine WhlIf.no (by with_reducible assumption) ?_) | (with_reducible refine WhlIf.yes (by with_reducible assumption) ?_)
  k_with "exec While Compare cons nil" => (k_here; (with_reducible refine whl_start 100 ?_))
  k_with "call ref nil" => (k_here; (with_reducible show wpAny _ _ (call (Value.ref 215) _) _ _ _); k_dflt (refine' peek_ok _ _ _ _ _ _ _ _ _ _ _ _ _ _ _ _ _ _ _ _ _ _ _ _ _ _ _ _ _ _ _ _ _ _ (by k_asm) (by k_asm) (by k_asm) (by k_asm) (by k_asm) (by first | rfl | assumption) (by first | decide | omega | ktr_room) (by first | decide | omega | ktr_units) (by exact ⟨by k_mem, ⟨_, _, by k_mem⟩, TK.mono (by assumption) (fun q hq => by repeat (first | exact hq | refine List.mem_cons_of_mem _ ?_))⟩) (by first | assumption | rfl) (by omega) ?_; intro h' tk' u' F' N'; (try k_sweep); (try dsimp only)))
  k_with "call ref nil" => (k_here; (with_reducible show wpAny _ _ (call (Value.ref 257) _) _ _ _); (rename Reads1 _ _ _ _ _ _ _ _ _ _ _ _ _ _ => IH9); k_dflt (refine' IH9 _ _ _ _ _ _ _ _ _ _ _ _ _ _ _ _ _ _ _ _ _ _ _ _ _ _ _ _ (by k_asm) (by k_asm) (by k_asm) (by k_asm) (by k_asm) (by first | rfl | assumption) (by first | decide | omega | ktr_room) (by first | decide | omega | ktr_units) (by assumption) (by assumption) (by assumption) (by assumption) (by omega) (by omega) ?_; intro h' tk' v' news' F' N' K' S' f'; (have hrd' := S'.hrd); (obtain ⟨ua', ud', hdd'⟩ := S'.hdd); (have hT' := S'.tk); (try k_sweep); (try dsimp only)))
  intro dp un gd cn cs a ccd cl outer A₀ base h₀ L m news s rd dd tl r nt vs ws i dq x Q E B F X N T hk hd hu hS hat hx hst hi hdq hret
  have hS0 := hS
  obtain ⟨hrd, ⟨ua, ud, hdd⟩, hT⟩ := hS
  obtain ⟨hst1, hst2⟩ := hst
  have hne : (x == Str.ofString "<->") = false := beq_eq_false_iff_ne.mpr hst2
  refine wpAny_call ?_
  k_dflt (walk_at "enter")
  k_extra "steps"
  rename Fr h₀ L _ _ => F9
  rename News h₀ L _ _ => N9
  exact hret _ _ _ _ F9 N9 (by assumption) (by assumption) (by assumption)
theorem signs_val {v' : Value} {t0 t1 t2 t3 t4 t5 t6 t7 t8 t9 : Tok} {i' : Nat} (hv' : [Value.str (Str.ofString "<->") t0, .str (Str.ofString "->") t1, .str (Str.ofString "~") t2, .str (Str.ofString "&") t3, .str (Str.ofString "|") t4, .str (Str.ofString "=") t5, .str (Str.ofString "(") t6, .str (Str.ofString ")") t7, .str (Str.ofString ",") t8, .str (Str.ofString ".") t9][i']? = some v') :
    ∃ y t, v' = .str (Str.ofString y) t ∧ ["<->", "->", "~", "&", "|", "=", "(", ")", ",", "."][i']? = some y := by
  match i', hv' with
  | 0, h => cases h; exact ⟨_, _, rfl, rfl⟩
  | 1, h => cases h; exact ⟨_, _, rfl, rfl⟩
  | 2, h => cases h; exact ⟨_, _, rfl, rfl⟩
  | 3, h => cases h; exact ⟨_, _, rfl, rfl⟩
  | 4, h => cases h; exact ⟨_, _, rfl, rfl⟩
  | 5, h => cases h; exact ⟨_, _, rfl, rfl⟩
  | 6, h => cases h; exact ⟨_, _, rfl, rfl⟩
  | 7, h => cases h; exact ⟨_, _, rfl, rfl⟩
  | 8, h => cases h; exact ⟨_, _, rfl, rfl⟩
  | 9, h => cases h; exact ⟨_, _, rfl, rfl⟩
  | n + 10, h => simp at h
/-- between two turns of a word's while -/
def WInv6 (h₀ : Heap) (L o : Addr) (x : Str) (t : Tok) (i n : Nat) (vs : List Value) (nt : Nat) (rest : List (Addr × Obj)) (s : Shared) (k : Nat) (s' : Shared) : Prop :=
  ∃ (h : Heap) (tk j : Nat) (m : Str → Option Value), s' = { s with heap := h, toks := tk } ∧ Fr h₀ L h m ∧ (∃ ti, m (Str.ofString "i") = some (.int (i : Int) ti)) ∧ (∃ tj, m (Str.ofString "j") = some (.int ((i + j : Nat) : Int) tj)) ∧ m (Str.ofString "out") = some (.ref o) ∧ m (Str.ofString "text") = some (.str x t) ∧ News h₀ L h ((o, listOf vs.toArray nt) :: rest) ∧ 1 ≤ j ∧ j ≤ n ∧ k + j = n
theorem upm4 {m : Str → Option Value} {a b c d : Str} {u v z y : Value} (h1 : m a = some u) (h2 : m b = some v) (h3 : m c = some z) (h4 : m d = some y) : ∀ q, m q = upm a (some u) (upm b (some v) (upm c (some z) (upm d (some y) m))) q := by
  intro q
  by_cases e1 : q = a
  · subst e1; simp [upm, h1]
  · by_cases e2 : q = b
    · subst e2; simp [upm, e1, h2]
    · by_cases e3 : q = c
      · subst e3; simp [upm, e1, e2, h3]
      · by_cases e4 : q = d
        · subst e4; simp [upm, e1, e2, e3, h4]
        · simp [upm, e1, e2, e3, e4]
theorem toks_ok (w : World) (p : Program) (loose : List Str) (mean : ExcName → Option Value) (mg mb : Str → Option Value) :
    ∀ (dp un : Nat) (gd : Option (List Code)) (cn : Str) (cs : Scope) (a : Addr) (ccd : Value) (cl : List (Str × Addr)) (outer : List Env) (A₀ : Around) (base h₀ : Heap) (L : Addr) (m : Str → Option Value) (news : List (Addr × Obj)) (s : Shared) (x : Str) (t : Tok) (ws : List (Str × Int)) (Q E : Value → Shared → Prop),
      Below A₀ base outer h₀ → Fr h₀ L s.heap m → (K06 w.params).In h₀ → News h₀ L s.heap news → Top p loose mean mg mb h₀ → cs.kind = .function → dp + 60 < recursionLimit → un + 500 < cLine →
      Lex6 x 0 ws → x.length ≤ 900 → ws.length ≤ 900 →
      (∀ h' tk' tl nt vs news', Fr h₀ L h' m → News h₀ L h' news' → (∀ q ∈ news, q ∈ news') → TK news' tl nt vs ws → Q (.ref tl) { s with heap := h', toks := tk' }) →
      wpAny (model PySem.Challenge.rw_ui0505_06.row.prog w) (ktrTop dp un gd cn cs L a ccd cl outer) (call (.ref 187) [.str x t]) Q E s := by
  k_fill
  k_with_none
  k_with "steps" => repeat' (first | (k_unfold; (try dsimp only)) | walk1 | (dsimp only; walk1) | (leave1; walk_say "STEP leave1"; try dsimp only) | k_extra "mine")
  k_with "spliced" => first | refine args_cons ?_ | refine args_nil ⟨Fr.keep (by assumption) _ _ (by assumption), ?_⟩ | (refine args_nil ?_; try simp only [List.cons_append, List.nil_append])
  k_with "call builtin:len cons nil" => (k_here; (with_reducible show wpAny _ _ (call (Value.builtin "len") [Value.ref _]) _ _ _); k_dflt (refine' lenL (by k_asm) (by k_mem) (by first | (with_reducible assumption) | (simp only [List.length_append, List.length_map, List.length_cons, List.length_nil]; with_reducible rfl)) (by omega) ?_))
  k_with "call ref cons nil" => (k_here; k_dflt (refine' call_cls (by k_asm) (by k_asm) (by k_asm) (by k_is) (by k_is) (by k_is) ?_; k_whole; intro x' d' h' F' N' l1 l2; (try k_lt l1); (try k_lt2 l2); (try k_sweep); walk_at "enter"))
  k_with "call builtin:list.append cons nil" => (k_here; (with_reducible show wpAny _ _ (call (Value.builtin "list.append") [Value.ref _, _]) _ _ _); k_dflt (refine' appendL (by k_asm) (by k_asm) (by k_upd) (by ((try simp only [List.length_append, List.length_map, List.length_cons, List.length_nil]); omega)) ?_; k_whole); intro h' F' N'; (try k_sweep))
  k_with "subscriptTail Attribute Name Attribute ref int" => (k_here; (with_reducible show wpAny _ _ (subscriptTail _ _ (Value.ref _) (Value.int _ _)) _ _ _); k_dflt (refine' itemL (by k_asm) (by with_reducible assumption) (by k_mem) (by with_reducible rfl) (by omega) ?_ (by with_unfolding_all rfl); k_whole))
  k_with "subscriptTail Subscript Attribute Attribute Constant ref int" => (k_here; (with_reducible show wpAny _ _ (subscriptTail _ _ (Value.ref _) (Value.int _ _)) _ _ _); k_dflt (refine' itemT (by k_asm) (by k_mem) (by decide) (by decide) (by rfl) (by rfl) ?_ (by with_unfolding_all rfl) (by intro _; with_unfolding_all rfl)))
  k_with "WhlIf" => first | (with_reducible refine WhlIf.no (by with_reducible assumption) ?_) | (with_reducible refine WhlIf.yes (by with_reducible assumption) ?_)
  k_with "exec While Compare cons nil" => (k_here; (with_reducible refine whl_start 100 ?_))
  k_with "exec While Compare cons nil" => (k_here; with_reducible refine halt ?_)
  k_with "subscriptTail Name Name str int" => (k_here; (with_reducible show wpAny _ _ (subscriptTail _ _ (Value.str _ _) (Value.int _ _)) _ _ _); k_dflt (refine' signAt (by with_reducible assumption) ?_ (by with_unfolding_all rfl) (by intro _; with_unfolding_all rfl); k_whole))
  k_with "pyIter ref" => (k_here; with_reducible refine halt ?_)
  k_with "call builtin:str.startswith cons cons nil" => (k_here; k_dflt (refine' startsAt (by with_reducible assumption) ?_; k_whole))
  k_with "exec For Name Name cons nil" => (k_here; (rename Fr _ _ _ _ => lF'); (with_unfolding_all refine' For_invVF lF' (by exact rfl) (by exact rfl) ?_ (by exact fun _ => rfl) (by first | passes_own | with_unfolding_all passes_own)); k_whole)
  k_with "exec While BoolOp cons nil" => (k_here; with_reducible refine halt ?_)
  k_with "call ref cons nil" => (k_here; (with_reducible show wpAny _ _ (call (Value.ref 173) _) _ _ _); k_dflt (refine' isl_ok _ _ _ _ _ _ _ _ (by assumption) _ _ _ _ _ _ _ _ _ _ _ _ _ _ _ _ _ _ _ (by k_asm) (by k_asm) (by k_asm) (by k_asm) (by k_asm) (by first | rfl | assumption) (by first | decide | omega | ktr_room) (by first | decide | omega | ktr_units) ?_; intro h' tk' F' N'; (try k_sweep); (try dsimp only)))
  k_with "call ref cons nil" => (k_here; (with_reducible show wpAny _ _ (call (Value.ref 180) _) _ _ _); k_dflt (refine' isr_ok _ _ _ _ _ _ _ _ (by assumption) _ _ _ _ _ _ _ _ _ _ _ _ _ _ _ _ _ _ _ (by k_asm) (by k_asm) (by k_asm) (by k_asm) (by k_asm) (by first | rfl | assumption) (by first | decide | omega | ktr_room) (by first | decide | omega | ktr_units) ?_; intro h' tk' F' N'; (try k_sweep); (try dsimp only)))
  intro dp un gd cn cs a ccd cl outer A₀ base h₀ L m news s x t ws Q E B F X N T hk hd hu hlex hxl hwl hret
  refine wpAny_call ?_
  k_dflt (walk_at "enter")
  k_extra "steps"
  rename News _ _ _ _ => N1
  rename Fr _ _ _ _ => F1
  rename AllLt _ _ => l1
  refine whl_start 100 ?_
  refine while_by (TInv6 _ _ _ x t ws news s) (by first | passes_own | with_unfolding_all passes_own) ?turn 100 x.length _ ⟨_, _, [], 0, 0, news, _, [], ws, rfl, F1, ⟨_, rfl⟩, rfl, rfl, N1, allLt_ne l1, fun q hq => hq, hlex, ⟨rfl, fun i y hy => by simp at hy⟩, rfl, by omega⟩
  case turn =>
    clear F1 N1 l1
    rintro n s' ⟨h, tk, vs, nt, i, rest, mm, d, ws', rfl, F2, ⟨ti, hmi⟩, hmo, hmt, N2, ad, hsub, hl2, hT2, hws, hn⟩
    replace F2 := frc F2 (upm3 hmi hmo hmt)
    clear hmi hmo hmt
    have hdl : d.length ≤ ws.length := by rw [hws, List.length_append]; omega
    have hvl := hT2.hlen
    cases hl2 with
    | done hi =>
      have hcut : decide ((i : Int) < (x.length : Int)) = false := decide_eq_false (by omega)
      k_extra "steps"
      rename Fr h₀ L _ _ => F9
      rename News h₀ L _ _ => N9
      rw [List.append_nil] at hws
      subst hws
      exact hret _ _ _ nt vs _ F9 N9 (fun q hq => List.mem_cons_of_mem _ (hsub q hq)) ⟨List.mem_cons_self, hT2.hlen, by omega, fun i x hx => let ⟨a, t, u, n, q1, q2⟩ := hT2.htk i x hx; ⟨a, t, u, n, q1, List.mem_cons_of_mem _ q2⟩⟩
    | space h1 h2 =>
      have hlt := h1.lt
      have hs1 : SignI x (i : Int) _ := ⟨by omega, by omega, h1⟩
      have hz1 : Let6 (Str.ofString " ") false := ⟨_, by decide, rfl⟩
      have hcut : decide ((i : Int) < (x.length : Int)) = true := decide_eq_true (by omega)
      k_extra "steps"
      rename Fr _ _ _ _ => F9
      rename News _ _ _ _ => N9
      exact ⟨n - 1, by omega, _, _, vs, nt, i + 1, rest, _, d, ws', rfl, F9, ⟨_, rfl⟩, rfl, rfl, N9, ad, hsub, h2, hT2, hws, by omega⟩
    | @word _ k ws2 y hk1 hlet hstop hsl h3 =>
      obtain ⟨z0, hz0, hl0⟩ := hlet 0 (by omega)
      have h1 : SignAt x i z0 := hz0
      have hlt := h1.lt
      have hs1 : SignI x (i : Int) _ := ⟨by omega, by omega, h1⟩
      have hz0e : (z0 == Str.ofString " ") = false := by
        obtain ⟨q, hq, rfl⟩ := hl0
        simp only [signs6, List.mem_cons, List.mem_nil_iff, or_false, Prod.mk.injEq, reduceCtorEq, and_false, and_true] at hq
        rcases hq with rfl | rfl | rfl | rfl | rfl | rfl | rfl | rfl <;> decide
      have hcut : decide ((i : Int) < (x.length : Int)) = true := decide_eq_true (by omega)
      obtain ⟨z9, hz9, hl9⟩ := hstop
      have hlt9 := hz9.lt
      k_extra "steps"
      rename News _ _ _ _ => N1
      rename Fr _ _ _ _ => F1
      unfold Halt
      refine whl_start 100 ?_
      refine while_by (WInv6 _ _ _ x _ i k vs nt rest s) (by first | passes_own | with_unfolding_all passes_own) ?turn2 100 (k - 1) _ ⟨_, _, 1, _, rfl, F1, ⟨_, rfl⟩, ⟨_, rfl⟩, rfl, rfl, N1, by omega, by omega, by omega⟩
      case turn2 =>
        clear F1 N1 hs1 hcut hz0 hl0 h1 hz0e
        rintro n2 s2 ⟨h, tk, j, mm, rfl, F2, ⟨ti, hmi⟩, ⟨tj, hmj⟩, hmo, hmt, N2, hj1, hjk, hnk⟩
        replace F2 := frc F2 (upm4 hmi hmj hmo hmt)
        clear hmi hmj hmo hmt
        by_cases hj : j < k
        · obtain ⟨z1, hz1, hl1⟩ := hlet j hj
          have hlt1 := hz1.lt
          have hs1 : SignI x ((i + j : Nat) : Int) z1 := ⟨by omega, by omega, hz1⟩
          have hcut : decide (((i + j : Nat) : Int) < (x.length : Int)) = true := decide_eq_true (by omega)
          k_extra "steps"
          rename News _ _ _ _ => N9
          rename Fr _ _ _ _ => F9
          exact ⟨n2 - 1, by omega, _, _, j + 1, _, rfl, F9, ⟨_, rfl⟩, ⟨_, rfl⟩, rfl, rfl, N9, by omega, by omega, by omega⟩
        · obtain rfl : j = k := by omega
          have hs1 : SignI x ((i + j : Nat) : Int) z9 := ⟨by omega, by omega, hz9⟩
          have hcut : decide (((i + j : Nat) : Int) < (x.length : Int)) = true := decide_eq_true (by omega)
          k_extra "steps"
          rename News _ _ _ _ => N9
          rename Fr _ _ _ _ => F9
          rw [hsl] at N9
          exact TInv6.add (nd := 0) (j := i + j) F9 N9 rfl ⟨_, rfl⟩ rfl rfl ad hsub h3 hT2 hws hn (by omega) (by omega)
    | @sign _ k ws2 z hz h1 h2 =>
      have hlt := h1.lt
      have hs1 : SignI x (i : Int) _ := ⟨by omega, by omega, h1⟩
      have hcut : decide ((i : Int) < (x.length : Int)) = true := decide_eq_true (by omega)
      obtain ⟨st1, st2, st3, st4, st5⟩ := starts_sign hz h1
      have hk9 : k < 10 := by
        simp only [List.mem_cons, List.mem_nil_iff, or_false, Prod.mk.injEq] at hz
        omega
      have hze : (Str.ofString z == Str.ofString " ") = false ∧ (Str.ofString z == Str.ofString "") = false := by
        simp only [List.mem_cons, List.mem_nil_iff, or_false, Prod.mk.injEq] at hz
        rcases hz with ⟨rfl, rfl⟩ | ⟨rfl, rfl⟩ | ⟨rfl, rfl⟩ | ⟨rfl, rfl⟩ <;> exact ⟨by decide, by decide⟩
      obtain ⟨hze1, hze2⟩ := hze
      k_extra "steps"
      rename Fr _ _ _ _ => F3
      rename News _ _ _ _ => N3
      rename Frag.In _ _ => X3
      have hL := inList (l := 166) X3 (by k_is) rfl
      unfold Halt
      refine' brk_loop k ?b1 hL ?b2 ?b3 ?b4 ?tt ?ll
      case b1 => exact rfl
      case b2 => exact hk9
      case b3 => exact F3
      case b4 => exact N3
      case tt =>
        clear F3 N3
        intro i' v' h tk news' hi' hv' F3 N3 hs3
        obtain ⟨y', t', rfl, hy'⟩ := signs_val hv'
        have hst := st1 i' y' hi' hy'
        k_extra "steps"
        rename Fr _ _ _ _ => F9
        rename News _ _ _ _ => N9
        exact ⟨rfl, _, _, _, rfl, F9, N9⟩
      case ll =>
        clear F3 N3
        intro v' h tk hv' F3 N3
        obtain ⟨y', t', rfl, hy'⟩ := signs_val hv'
        rw [st3] at hy'
        cases hy'
        k_extra "steps"
        refine ⟨rfl, ?_⟩
        k_extra "steps"
        rename Fr _ _ _ _ => F9
        rename News _ _ _ _ => N9
        rw [st4] at F9
        exact TInv6.add (nd := 0) (j := i + 1) F9 N9 rfl ⟨_, rfl⟩ rfl rfl ad hsub h2 hT2 hws hn (by omega) (by omega)
/-- the reader is made -/
theorem rinit_ok (w : World) (p : Program) (loose : List Str) (mean : ExcName → Option Value) (mg mb : Str → Option Value) :
    ∀ (dp un : Nat) (gd : Option (List Code)) (cn : Str) (cs : Scope) (a : Addr) (ccd : Value) (cl : List (Str × Addr)) (outer : List Env) (A₀ : Around) (base h₀ : Heap) (L : Addr) (m : Str → Option Value) (news : List (Addr × Obj)) (s : Shared) (x : Str) (t : Tok) (ws : List (Str × Int)) (Q E : Value → Shared → Prop),
      Below A₀ base outer h₀ → Fr h₀ L s.heap m → (K06 w.params).In h₀ → News h₀ L s.heap news → Top p loose mean mg mb h₀ → cs.kind = .function → dp + 80 < recursionLimit → un + 700 < cLine →
      Lex6 x 0 ws → x.length ≤ 900 → ws.length ≤ 900 →
      (∀ h' tk' rd dd tl r nt vs news', Fr h₀ L h' m → News h₀ L h' news' → (∀ q ∈ news, q ∈ news') → RS 316 w news' rd dd tl r nt vs ws 0 0 → (∀ q ∈ news, q.1 ≠ dd) → Q (.ref rd) { s with heap := h', toks := tk' }) →
      wpAny (model PySem.Challenge.rw_ui0505_06.row.prog w) (ktrTop dp un gd cn cs L a ccd cl outer) (call (.ref 316) [.str x t]) Q E s := by
  k_fill
  k_with_none
  k_with "steps" => repeat' (first | (k_unfold; (try dsimp only)) | walk1 | (dsimp only; walk1) | (leave1; walk_say "STEP leave1"; try dsimp only) | k_extra "mine")
  k_with "spliced" => first | refine args_cons ?_ | refine args_nil ⟨Fr.keep (by assumption) _ _ (by assumption), ?_⟩ | (refine args_nil ?_; try simp only [List.cons_append, List.nil_append])
  k_with "call builtin:len cons nil" => (k_here; (with_reducible show wpAny _ _ (call (Value.builtin "len") [Value.ref _]) _ _ _); k_dflt (refine' lenL (by k_asm) (by k_mem) (by first | (with_reducible assumption) | (simp only [List.length_append, List.length_map, List.length_cons, List.length_nil]; with_reducible rfl)) (by omega) ?_))
  k_with "call ref cons nil" => (k_here; k_dflt (refine' call_cls (by k_asm) (by k_asm) (by k_asm) (by k_is) (by k_is) (by k_is) ?_; k_whole; intro x' d' h' F' N' l1 l2; (try k_lt l1); (try k_lt2 l2); (try k_sweep); walk_at "enter"))
  k_with "call builtin:list.append cons nil" => (k_here; (with_reducible show wpAny _ _ (call (Value.builtin "list.append") [Value.ref _, _]) _ _ _); k_dflt (refine' appendL (by k_asm) (by k_asm) (by k_upd) (by ((try simp only [List.length_append, List.length_map, List.length_cons, List.length_nil]); omega)) ?_; k_whole); intro h' F' N'; (try k_sweep))
  k_with "subscriptTail Attribute Name Attribute ref int" => (k_here; (with_reducible show wpAny _ _ (subscriptTail _ _ (Value.ref _) (Value.int _ _)) _ _ _); k_dflt (refine' itemL (by k_asm) (by with_reducible assumption) (by k_mem) (by with_reducible rfl) (by omega) ?_ (by with_unfolding_all rfl); k_whole))
  k_with "subscriptTail Subscript Attribute Attribute Constant ref int" => (k_here; (with_reducible show wpAny _ _ (subscriptTail _ _ (Value.ref _) (Value.int _ _)) _ _ _); k_dflt (refine' itemT (by k_asm) (by k_mem) (by decide) (by decide) (by rfl) (by rfl) ?_ (by with_unfolding_all rfl) (by intro _; with_unfolding_all rfl)))
  k_with "WhlIf" => first | (with_reducible refine WhlIf.no (by with_reducible assumption) ?_) | (with_reducible refine WhlIf.yes (by with_reducible assumption) ?_)
  k_with "exec While Compare cons nil" => (k_here; (with_reducible refine whl_start 100 ?_))
  k_with "call ref cons nil" => (k_here; (with_reducible show wpAny _ _ (call (Value.ref 187) _) _ _ _); k_dflt (refine' toks_ok _ _ _ _ _ _ _ _ _ _ _ _ _ _ _ _ _ _ _ _ _ _ _ _ _ _ _ (by k_asm) (by k_asm) (by k_asm) (by k_asm) (by k_asm) (by first | rfl | assumption) (by first | decide | omega | ktr_room) (by first | decide | omega | ktr_units | (show un + 1 + 3 + 500 < cLine; omega) | (show un + 2 + 3 + 500 < cLine; omega) | (show un + 0 + 3 + 500 < cLine; omega) | (show un + 3 + 3 + 500 < cLine; omega)) (by assumption) (by assumption) (by assumption) ?_; intro h' tk' tl' nt' vs' news' F' N' K' T'; (have hrd' := K' (x', instObj 316 d') List.mem_cons_self); (have hdd' := K' (d', dictOf [] 0) (List.mem_cons_of_mem _ List.mem_cons_self)); (have N1' := RS.front N' hdd'); (have hT1' := T'.off N' hdd' rfl); (have nr' : @Ne Nat x' d' := nne Obj.cls N' hrd' hdd' (fun e => by cases e)); (have hr1' := mem_off.mpr (And.intro hrd' nr')); (have ad' := @off_ne d' news'); (have hk1' : ∀ q ∈ news, q ∈ off d' news' := fun q hq => mem_off.mpr ⟨K' q (List.mem_cons_of_mem _ (List.mem_cons_of_mem _ hq)), allLt_ne l1 q hq⟩); (generalize off d' news' = rest' at N1' hT1' hr1' ad' hk1'); (clear N' hrd' hdd' T' K'); (try k_sweep); (try dsimp only)))
  intro dp un gd cn cs a ccd cl outer A₀ base h₀ L m news s x t ws Q E B F X N T hk hd hu hlex hxl hwl hret
  k_extra "steps"
  have hdn9 : ∀ q ∈ news, q.1 ≠ d' := by first | exact allLt_ne (by assumption) | exact allLt_ne2 (by assumption) (by assumption)
  rename Fr h₀ L _ _ => F9
  rename News h₀ L _ _ => N9
  exact hret _ _ x' d' tl' ⟨_, _, _, _, _, _⟩ nt' vs' _ F9 N9 (fun q hq => List.mem_cons_of_mem _ (hk1' q hq)) ⟨List.mem_cons_of_mem _ hr1', ⟨_, _, List.mem_cons_self⟩, hT1'.mono fun q hq => List.mem_cons_of_mem _ hq⟩ hdn9
theorem sall_ok (w : World) (p : Program) (loose : List Str) (mean : ExcName → Option Value) (mg mb : Str → Option Value) (S : Str → Prop) (f : Sf)
    (IH : Reads1 PySem.Challenge.rw_ui0505_06.row.prog K06 316 243 w p loose mean mg mb f 10 80 S) :
    Reads1 PySem.Challenge.rw_ui0505_06.row.prog K06 316 285 w p loose mean mg mb (.all f) 0 81 S := by
  unfold Reads1
  k_fill
  k_with_none
  k_with "steps" => repeat' (first | (k_unfold; (try dsimp only)) | walk1 | (dsimp only; walk1) | (leave1; walk_say "STEP leave1"; try dsimp only) | k_extra "mine")
  k_with "spliced" => first | refine args_cons ?_ | refine args_nil ⟨Fr.keep (by assumption) _ _ (by assumption), ?_⟩ | (refine args_nil ?_; try simp only [List.cons_append, List.nil_append])
  k_with "call builtin:len cons nil" => (k_here; (with_reducible show wpAny _ _ (call (Value.builtin "len") [Value.ref _]) _ _ _); k_dflt (refine' lenL (by k_asm) (by k_mem) (by first | (with_reducible assumption) | (simp only [List.length_append, List.length_map, List.length_cons, List.length_nil]; with_reducible rfl)) (by omega) ?_))
  k_with "call ref cons nil" => (k_here; k_dflt (refine' call_cls (by k_asm) (by k_asm) (by k_asm) (by k_is) (by k_is) (by k_is) ?_; k_whole; intro x' d' h' F' N' l1 l2; (try k_lt l1); (try k_lt2 l2); (try k_sweep); walk_at "enter"))
  k_with "call builtin:list.append cons nil" => (k_here; (with_reducible show wpAny _ _ (call (Value.builtin "list.append") [Value.ref _, _]) _ _ _); k_dflt (refine' appendL (by k_asm) (by k_asm) (by k_upd) (by ((try simp only [List.length_append, List.length_map, List.length_cons, List.length_nil]); omega)) ?_; k_whole); intro h' F' N'; (try k_sweep))
  k_with "subscriptTail Attribute Name Attribute ref int" => (k_here; (with_reducible show wpAny _ _ (subscriptTail _ _ (Value.ref _) (Value.int _ _)) _ _ _); k_dflt (refine' itemL (by k_asm) (by with_reducible assumption) (by k_mem) (by with_reducible rfl) (by omega) ?_ (by with_unfolding_all rfl); k_whole))
  k_with "subscriptTail Subscript Attribute Attribute Constant ref int" => (k_here; (with_reducible show wpAny _ _ (subscriptTail _ _ (Value.ref _) (Value.int _ _)) _ _ _); k_dflt (refine' itemT (by k_asm) (by k_mem) (by decide) (by decide) (by rfl) (by rfl) ?_ (by with_unfolding_all rfl) (by intro _; with_unfolding_all rfl)))
  k_with "WhlIf" => first | (with_reducible refine WhlIf.no (by with_reducible assumption) ?_) | (with_reducible refine WhlIf.yes (by with_reducible assumption) ?_)
  k_with "exec While Compare cons nil" => (k_here; (with_reducible refine whl_start 100 ?_))
  k_with "call ref nil" => (k_here; (with_reducible show wpAny _ _ (call (Value.ref 215) _) _ _ _); k_dflt (refine' peek_ok _ _ _ _ _ _ _ _ _ _ _ _ _ _ _ _ _ _ _ _ _ _ _ _ _ _ _ _ _ _ _ _ _ _ (by k_asm) (by k_asm) (by k_asm) (by k_asm) (by k_asm) (by first | rfl | assumption) (by first | decide | omega | ktr_room) (by first | decide | omega | ktr_units) (by exact ⟨by k_mem, ⟨_, _, by k_mem⟩, TK.mono (by assumption) (fun q hq => by repeat (first | exact hq | refine List.mem_cons_of_mem _ ?_))⟩) (by first | assumption | rfl) (by omega) ?_; intro h' tk' u' F' N'; (try k_sweep); (try dsimp only)))
  k_with "call ref nil" => (k_here; (with_reducible show wpAny _ _ (call (Value.ref 229) _) _ _ _); k_dflt (refine' take_ok _ _ _ _ _ _ _ _ _ _ _ _ _ _ _ _ _ _ _ _ _ _ _ _ _ _ _ _ _ _ _ _ _ _ (by k_asm) (by k_asm) (by k_asm) (by k_asm) (by k_asm) (by first | rfl | assumption) (by first | decide | omega | ktr_room) (by first | decide | omega | ktr_units) (by exact ⟨by k_mem, ⟨_, _, by k_mem⟩, TK.mono (by assumption) (fun q hq => by repeat (first | exact hq | refine List.mem_cons_of_mem _ ?_))⟩) (by first | assumption | rfl) (by omega) ?_; intro h' tk' u' news' F' N' K' S'; (have hrd' := S'.hrd); (obtain ⟨ua', ud', hdd'⟩ := S'.hdd); (have hT' := S'.tk); (try k_sweep); (try dsimp only)))
  k_with "call ref nil" => (k_here; (with_reducible show wpAny _ _ (call (Value.ref 292) _) _ _ _); k_dflt (refine' name_ok _ _ _ _ _ _ _ _ _ _ _ _ _ _ _ _ _ _ _ _ _ _ _ _ _ _ _ _ _ _ _ _ _ (by k_asm) (by k_asm) (by k_asm) (by k_asm) (by k_asm) (by first | rfl | assumption) (by first | decide | omega | ktr_room) (by first | decide | omega | ktr_units) (by exact ⟨by k_mem, ⟨_, _, by k_mem⟩, TK.mono (by assumption) (fun q hq => by repeat (first | exact hq | refine List.mem_cons_of_mem _ ?_))⟩) (by first | assumption | rfl) (by omega) ?_; intro h' tk' u' news2' F' N' K2' S'; (have KN2 := K'.trans K2'); (have hrd' := S'.hrd); (obtain ⟨ua', ud', hdd'⟩ := S'.hdd); (have hT' := S'.tk); (try k_sweep); (try dsimp only)))
  k_with "call ref cons nil" => (k_here; (with_reducible show wpAny _ _ (call (Value.ref 236) _) _ _ _); k_dflt (refine' need_ok _ _ _ _ _ _ _ _ _ _ _ _ _ _ _ _ _ _ _ _ _ _ _ _ _ _ _ _ _ _ _ _ _ _ _ (by k_asm) (by k_asm) (by k_asm) (by k_asm) (by k_asm) (by first | rfl | assumption) (by first | decide | omega | ktr_room) (by first | decide | omega | ktr_units) (by exact ⟨by k_mem, ⟨_, _, by k_mem⟩, TK.mono (by assumption) (fun q hq => by repeat (first | exact hq | refine List.mem_cons_of_mem _ ?_))⟩) (by first | assumption | rfl) (by omega) ?_; intro h' tk' news3' F' N' K3' S'; (have KN3 := KN2.trans K3'); (have hrd' := S'.hrd); (obtain ⟨ua', ud', hdd'⟩ := S'.hdd); (have hT' := S'.tk); (try k_sweep); (try dsimp only)))
  k_with "call ref nil" => (k_here; (with_reducible show wpAny _ _ (call (Value.ref 243) _) _ _ _); k_dflt ((rename Reads1 _ _ _ _ _ _ _ _ _ _ _ _ _ _ => IH9); refine' IH9 _ _ _ _ _ _ _ _ _ _ _ _ _ _ _ _ _ _ _ _ _ _ _ _ _ x _ _ (by k_asm) (by k_asm) (by k_asm) (by k_asm) (by k_asm) (by first | rfl | assumption) (by first | decide | omega | ktr_room) (by first | decide | omega | ktr_units) (by assumption) (by assumption) (by rw [← hx]; congr 1; omega) (by assumption) (by omega) (by omega) ?_; intro h' tk' v' news' F' N' K' S' f'; (have hrd' := S'.hrd); (obtain ⟨ua', ud', hdd'⟩ := S'.hdd); (have hT' := S'.tk); (try k_sweep); (try dsimp only)))
  intro dp un gd cn cs a ccd cl outer A₀ base h₀ L m news s rd dd tl r nt vs ws i dq x Q E B F X N T hk hd hu hS hat hx hst hi hdq hret
  have hS0 := hS
  obtain ⟨hrd, ⟨ua, ud, hdd⟩, hT⟩ := hS
  have hw0 := hat.head
  have hw1 := hat.tail.head
  have hw2 := hat.tail.tail.head
  have hat3 := hat.tail.tail.tail
  simp only [Sf.size, Sf.words, List.length_cons, Sf.deep] at hd hu hx hi hdq hret
  refine wpAny_call ?_
  k_dflt (walk_at "enter")
  k_extra "steps"
  rename Fr h₀ L _ _ => F9
  rename News h₀ L _ _ => N9
  have e9 : i + 1 + 1 + 1 + f.words.length = i + (f.words.length + 1 + 1 + 1) := by omega
  exact hret _ _ _ _ F9 N9 ((KN3.trans K').trans (Kept.sub fun q hq => List.mem_cons_of_mem _ hq)) ((S'.mono fun q hq => List.mem_cons_of_mem _ hq).at e9) (.all (n := 0) List.mem_cons_self (f'.mono fun q hq => List.mem_cons_of_mem _ hq))
theorem ssome_ok (w : World) (p : Program) (loose : List Str) (mean : ExcName → Option Value) (mg mb : Str → Option Value) (S : Str → Prop) (f : Sf)
    (IH : Reads1 PySem.Challenge.rw_ui0505_06.row.prog K06 316 243 w p loose mean mg mb f 10 80 S) :
    Reads1 PySem.Challenge.rw_ui0505_06.row.prog K06 316 285 w p loose mean mg mb (.some f) 0 81 S := by
  unfold Reads1
  k_fill
  k_with_none
  k_with "steps" => repeat' (first | (k_unfold; (try dsimp only)) | walk1 | (dsimp only; walk1) | (leave1; walk_say "STEP leave1"; try dsimp only) | k_extra "mine")
  k_with "spliced" => first | refine args_cons ?_ | refine args_nil ⟨Fr.keep (by assumption) _ _ (by assumption), ?_⟩ | (refine args_nil ?_; try simp only [List.cons_append, List.nil_append])
  k_with "call builtin:len cons nil" => (k_here; (with_reducible show wpAny _ _ (call (Value.builtin "len") [Value.ref _]) _ _ _); k_dflt (refine' lenL (by k_asm) (by k_mem) (by first | (with_reducible assumption) | (simp only [List.length_append, List.length_map, List.length_cons, List.length_nil]; with_reducible rfl)) (by omega) ?_))
  k_with "call ref cons nil" => (k_here; k_dflt (refine' call_cls (by k_asm) (by k_asm) (by k_asm) (by k_is) (by k_is) (by k_is) ?_; k_whole; intro x' d' h' F' N' l1 l2; (try k_lt l1); (try k_lt2 l2); (try k_sweep); walk_at "enter"))
  k_with "call builtin:list.append cons nil" => (k_here; (with_reducible show wpAny _ _ (call (Value.builtin "list.append") [Value.ref _, _]) _ _ _); k_dflt (refine' appendL (by k_asm) (by k_asm) (by k_upd) (by ((try simp only [List.length_append, List.length_map, List.length_cons, List.length_nil]); omega)) ?_; k_whole); intro h' F' N'; (try k_sweep))
  k_with "subscriptTail Attribute Name Attribute ref int" => (k_here; (with_reducible show wpAny _ _ (subscriptTail _ _ (Value.ref _) (Value.int _ _)) _ _ _); k_dflt (refine' itemL (by k_asm) (by with_reducible assumption) (by k_mem) (by with_reducible rfl) (by omega) ?_ (by with_unfolding_all rfl); k_whole))
  k_with "subscriptTail Subscript Attribute Attribute Constant ref int" => (k_here; (with_reducible show wpAny _ _ (subscriptTail _ _ (Value.ref _) (Value.int _ _)) _ _ _); k_dflt (refine' itemT (by k_asm) (by k_mem) (by decide) (by decide) (by rfl) (by rfl) ?_ (by with_unfolding_all rfl) (by intro _; with_unfolding_all rfl)))
  k_with "WhlIf" => first | (with_reducible refine WhlIf.no (by with_reducible assumption) ?_) | (with_reducible refine WhlIf.yes (by with_reducible assumption) ?_)
  k_with "exec While Compare cons nil" => (k_here; (with_reducible refine whl_start 100 ?_))
  k_with "call ref nil" => (k_here; (with_reducible show wpAny _ _ (call (Value.ref 215) _) _ _ _); k_dflt (refine' peek_ok _ _ _ _ _ _ _ _ _ _ _ _ _ _ _ _ _ _ _ _ _ _ _ _ _ _ _ _ _ _ _ _ _ _ (by k_asm) (by k_asm) (by k_asm) (by k_asm) (by k_asm) (by first | rfl | assumption) (by first | decide | omega | ktr_room) (by first | decide | omega | ktr_units) (by exact ⟨by k_mem, ⟨_, _, by k_mem⟩, TK.mono (by assumption) (fun q hq => by repeat (first | exact hq | refine List.mem_cons_of_mem _ ?_))⟩) (by first | assumption | rfl) (by omega) ?_; intro h' tk' u' F' N'; (try k_sweep); (try dsimp only)))
  k_with "call ref nil" => (k_here; (with_reducible show wpAny _ _ (call (Value.ref 229) _) _ _ _); k_dflt (refine' take_ok _ _ _ _ _ _ _ _ _ _ _ _ _ _ _ _ _ _ _ _ _ _ _ _ _ _ _ _ _ _ _ _ _ _ (by k_asm) (by k_asm) (by k_asm) (by k_asm) (by k_asm) (by first | rfl | assumption) (by first | decide | omega | ktr_room) (by first | decide | omega | ktr_units) (by exact ⟨by k_mem, ⟨_, _, by k_mem⟩, TK.mono (by assumption) (fun q hq => by repeat (first | exact hq | refine List.mem_cons_of_mem _ ?_))⟩) (by first | assumption | rfl) (by omega) ?_; intro h' tk' u' news' F' N' K' S'; (have hrd' := S'.hrd); (obtain ⟨ua', ud', hdd'⟩ := S'.hdd); (have hT' := S'.tk); (try k_sweep); (try dsimp only)))
  k_with "call ref nil" => (k_here; (with_reducible show wpAny _ _ (call (Value.ref 292) _) _ _ _); k_dflt (refine' name_ok _ _ _ _ _ _ _ _ _ _ _ _ _ _ _ _ _ _ _ _ _ _ _ _ _ _ _ _ _ _ _ _ _ (by k_asm) (by k_asm) (by k_asm) (by k_asm) (by k_asm) (by first | rfl | assumption) (by first | decide | omega | ktr_room) (by first | decide | omega | ktr_units) (by exact ⟨by k_mem, ⟨_, _, by k_mem⟩, TK.mono (by assumption) (fun q hq => by repeat (first | exact hq | refine List.mem_cons_of_mem _ ?_))⟩) (by first | assumption | rfl) (by omega) ?_; intro h' tk' u' news2' F' N' K2' S'; (have KN2 := K'.trans K2'); (have hrd' := S'.hrd); (obtain ⟨ua', ud', hdd'⟩ := S'.hdd); (have hT' := S'.tk); (try k_sweep); (try dsimp only)))
  k_with "call ref cons nil" => (k_here; (with_reducible show wpAny _ _ (call (Value.ref 236) _) _ _ _); k_dflt (refine' need_ok _ _ _ _ _ _ _ _ _ _ _ _ _ _ _ _ _ _ _ _ _ _ _ _ _ _ _ _ _ _ _ _ _ _ _ (by k_asm) (by k_asm) (by k_asm) (by k_asm) (by k_asm) (by first | rfl | assumption) (by first | decide | omega | ktr_room) (by first | decide | omega | ktr_units) (by exact ⟨by k_mem, ⟨_, _, by k_mem⟩, TK.mono (by assumption) (fun q hq => by repeat (first | exact hq | refine List.mem_cons_of_mem _ ?_))⟩) (by first | assumption | rfl) (by omega) ?_; intro h' tk' news3' F' N' K3' S'; (have KN3 := KN2.trans K3'); (have hrd' := S'.hrd); (obtain ⟨ua', ud', hdd'⟩ := S'.hdd); (have hT' := S'.tk); (try k_sweep); (try dsimp only)))
  k_with "call ref nil" => (k_here; (with_reducible show wpAny _ _ (call (Value.ref 243) _) _ _ _); k_dflt ((rename Reads1 _ _ _ _ _ _ _ _ _ _ _ _ _ _ => IH9); refine' IH9 _ _ _ _ _ _ _ _ _ _ _ _ _ _ _ _ _ _ _ _ _ _ _ _ _ x _ _ (by k_asm) (by k_asm) (by k_asm) (by k_asm) (by k_asm) (by first | rfl | assumption) (by first | decide | omega | ktr_room) (by first | decide | omega | ktr_units) (by assumption) (by assumption) (by rw [← hx]; congr 1; omega) (by assumption) (by omega) (by omega) ?_; intro h' tk' v' news' F' N' K' S' f'; (have hrd' := S'.hrd); (obtain ⟨ua', ud', hdd'⟩ := S'.hdd); (have hT' := S'.tk); (try k_sweep); (try dsimp only)))
  intro dp un gd cn cs a ccd cl outer A₀ base h₀ L m news s rd dd tl r nt vs ws i dq x Q E B F X N T hk hd hu hS hat hx hst hi hdq hret
  have hS0 := hS
  obtain ⟨hrd, ⟨ua, ud, hdd⟩, hT⟩ := hS
  have hw0 := hat.head
  have hw1 := hat.tail.head
  have hw2 := hat.tail.tail.head
  have hat3 := hat.tail.tail.tail
  simp only [Sf.size, Sf.words, List.length_cons, Sf.deep] at hd hu hx hi hdq hret
  refine wpAny_call ?_
  k_dflt (walk_at "enter")
  k_extra "steps"
  rename Fr h₀ L _ _ => F9
  rename News h₀ L _ _ => N9
  have e9 : i + 1 + 1 + 1 + f.words.length = i + (f.words.length + 1 + 1 + 1) := by omega
  exact hret _ _ _ _ F9 N9 ((KN3.trans K').trans (Kept.sub fun q hq => List.mem_cons_of_mem _ hq)) ((S'.mono fun q hq => List.mem_cons_of_mem _ hq).at e9) (.some (n := 0) List.mem_cons_self (f'.mono fun q hq => List.mem_cons_of_mem _ hq))
theorem spar_ok (w : World) (p : Program) (loose : List Str) (mean : ExcName → Option Value) (mg mb : Str → Option Value) (S S2 : Str → Prop) (hS1 : S (Str.ofString ")")) (f : Sf)
    (IH : Reads1 PySem.Challenge.rw_ui0505_06.row.prog K06 316 243 w p loose mean mg mb f 10 80 S) :
    Reads1 PySem.Challenge.rw_ui0505_06.row.prog K06 316 285 w p loose mean mg mb (.par f) 0 81 S2 := by
  unfold Reads1
  k_fill
  k_with_none
  k_with "steps" => repeat' (first | (k_unfold; (try dsimp only)) | walk1 | (dsimp only; walk1) | (leave1; walk_say "STEP leave1"; try dsimp only) | k_extra "mine")
  k_with "spliced" => first | refine args_cons ?_ | refine args_nil ⟨Fr.keep (by assumption) _ _ (by assumption), ?_⟩ | (refine args_nil ?_; try simp only [List.cons_append, List.nil_append])
  k_with "call builtin:len cons nil" => (k_here; (with_reducible show wpAny _ _ (call (Value.builtin "len") [Value.ref _]) _ _ _); k_dflt (refine' lenL (by k_asm) (by k_mem) (by first | (with_reducible assumption) | (simp only [List.length_append, List.length_map, List.length_cons, List.length_nil]; with_reducible rfl)) (by omega) ?_))
  k_with "call ref cons nil" => (k_here; k_dflt (refine' call_cls (by k_asm) (by k_asm) (by k_asm) (by k_is) (by k_is) (by k_is) ?_; k_whole; intro x' d' h' F' N' l1 l2; (try k_lt l1); (try k_lt2 l2); (try k_sweep); walk_at "enter"))
  k_with "call builtin:list.append cons nil" => (k_here; (with_reducible show wpAny _ _ (call (Value.builtin "list.append") [Value.ref _, _]) _ _ _); k_dflt (refine' appendL (by k_asm) (by k_asm) (by k_upd) (by ((try simp only [List.length_append, List.length_map, List.length_cons, List.length_nil]); omega)) ?_; k_whole); intro h' F' N'; (try k_sweep))
  k_with "subscriptTail Attribute Name Attribute ref int" => (k_here; (with_reducible show wpAny _ _ (subscriptTail _ _ (Value.ref _) (Value.int _ _)) _ _ _); k_dflt (refine' itemL (by k_asm) (by with_reducible assumption) (by k_mem) (by with_reducible rfl) (by omega) ?_ (by with_unfolding_all rfl); k_whole))
  k_with "subscriptTail Subscript Attribute Attribute Constant ref int" => (k_here; (with_reducible show wpAny _ _ (subscriptTail _ _ (Value.ref _) (Value.int _ _)) _ _ _); k_dflt (refine' itemT (by k_asm) (by k_mem) (by decide) (by decide) (by rfl) (by rfl) ?_ (by with_unfolding_all rfl) (by intro _; with_unfolding_all rfl)))
  k_with "WhlIf" => first | (with_reducible refine WhlIf.no (by with_reducible assumption) ?_) | (with_reducible refine WhlIf.yes (by with_reducible assumption) ?_)
  k_with "exec While Compare cons nil" => (k_here; (with_reducible refine whl_start 100 ?_))
  k_with "call ref nil" => (k_here; (with_reducible show wpAny _ _ (call (Value.ref 215) _) _ _ _); k_dflt (refine' peek_ok _ _ _ _ _ _ _ _ _ _ _ _ _ _ _ _ _ _ _ _ _ _ _ _ _ _ _ _ _ _ _ _ _ _ (by k_asm) (by k_asm) (by k_asm) (by k_asm) (by k_asm) (by first | rfl | assumption) (by first | decide | omega | ktr_room) (by first | decide | omega | ktr_units) (by exact ⟨by k_mem, ⟨_, _, by k_mem⟩, TK.mono (by assumption) (fun q hq => by repeat (first | exact hq | refine List.mem_cons_of_mem _ ?_))⟩) (by first | assumption | rfl) (by omega) ?_; intro h' tk' u' F' N'; (try k_sweep); (try dsimp only)))
  k_with "call ref nil" => (k_here; (with_reducible show wpAny _ _ (call (Value.ref 229) _) _ _ _); k_dflt (refine' take_ok _ _ _ _ _ _ _ _ _ _ _ _ _ _ _ _ _ _ _ _ _ _ _ _ _ _ _ _ _ _ _ _ _ _ (by k_asm) (by k_asm) (by k_asm) (by k_asm) (by k_asm) (by first | rfl | assumption) (by first | decide | omega | ktr_room) (by first | decide | omega | ktr_units) (by exact ⟨by k_mem, ⟨_, _, by k_mem⟩, TK.mono (by assumption) (fun q hq => by repeat (first | exact hq | refine List.mem_cons_of_mem _ ?_))⟩) (by first | assumption | rfl) (by omega) ?_; intro h' tk' u' news' F' N' K' S'; (have hrd' := S'.hrd); (obtain ⟨ua', ud', hdd'⟩ := S'.hdd); (have hT' := S'.tk); (try k_sweep); (try dsimp only)))
  k_with "call ref nil" => (k_here; (with_reducible show wpAny _ _ (call (Value.ref 243) _) _ _ _); k_dflt ((rename Reads1 _ _ _ _ _ _ _ _ _ _ _ _ _ _ => IH9); refine' IH9 _ _ _ _ _ _ _ _ _ _ _ _ _ _ _ _ _ _ _ _ _ _ _ _ _ _ _ _ (by k_asm) (by k_asm) (by k_asm) (by k_asm) (by k_asm) (by first | rfl | assumption) (by first | decide | omega | ktr_room) (by first | decide | omega | ktr_units) (by assumption) (by assumption) (by assumption) (by assumption) (by omega) (by omega) ?_; intro h' tk' v' news2' F' N' K2' S' f'; (have KK2 := K'.trans K2'); (have hrd' := S'.hrd); (obtain ⟨ua', ud', hdd'⟩ := S'.hdd); (have hT' := S'.tk); (try k_sweep); (try dsimp only)))
  k_with "call ref cons nil" => (k_here; (with_reducible show wpAny _ _ (call (Value.ref 236) _) _ _ _); k_dflt (refine' need_ok _ _ _ _ _ _ _ _ _ _ _ _ _ _ _ _ _ _ _ _ _ _ _ _ _ _ _ _ _ _ _ _ _ _ _ (by k_asm) (by k_asm) (by k_asm) (by k_asm) (by k_asm) (by first | rfl | assumption) (by first | decide | omega | ktr_room) (by first | decide | omega | ktr_units) (by exact ⟨by k_mem, ⟨_, _, by k_mem⟩, TK.mono (by assumption) (fun q hq => by repeat (first | exact hq | refine List.mem_cons_of_mem _ ?_))⟩) (by first | assumption | rfl) (by omega) ?_; intro h' tk' news3' F' N' K3' S'; (have f2 := f'.keep (by assumption) hdd' rfl K3'); (have hrd' := S'.hrd); (obtain ⟨ua', ud', hdd'⟩ := S'.hdd); (have hT' := S'.tk); (try k_sweep); (try dsimp only)))
  intro dp un gd cn cs a ccd cl outer A₀ base h₀ L m news s rd dd tl r nt vs ws i dq x Q E B F X N T hk hd hu hS hat hx hst hi hdq hret
  have hS0 := hS
  obtain ⟨hrd, ⟨ua, ud, hdd⟩, hT⟩ := hS
  have hw0 := hat.head
  have hat1 := At.left hat.tail
  have hw2 := (At.right hat.tail).head
  simp only [Sf.size, Sf.words, List.length_cons, List.length_append, List.length_nil, Sf.deep] at hd hu hx hi hdq hret
  refine wpAny_call ?_
  k_dflt (walk_at "enter")
  k_extra "steps"
  rename Fr h₀ L _ _ => F9
  rename News h₀ L _ _ => N9
  have e9 : i + 1 + f.words.length + 1 = i + (f.words.length + (0 + 1) + 1) := by omega
  exact hret _ _ _ _ F9 N9 (KK2.trans K3') (S'.at e9) (.par f2)
theorem take_sum : ∀ (cs : List Nat) (i : Nat) (h : i < cs.length), (cs.take (i + 1)).sum = (cs.take i).sum + cs[i]
  | c :: r, 0, _ => by simp
  | c :: r, i + 1, h => by
    have := take_sum r i (by simpa using h)
    simp only [List.take_succ_cons, List.sum_cons, List.getElem_cons_succ] at *
    omega
theorem sum_take : ∀ (cs : List Nat) (i : Nat) (h : i < cs.length), (cs.take i).sum + cs[i] ≤ cs.sum
  | c :: r, 0, _ => by simp
  | c :: r, i + 1, h => by
    have := sum_take r i (by simpa using h)
    simp only [List.take_succ_cons, List.sum_cons, List.getElem_cons_succ] at *
    omega
theorem depth_ok (w : World) (p : Program) (loose : List Str) (mean : ExcName → Option Value) (mg mb : Str → Option Value) :
    ∀ (dp un : Nat) (gd : Option (List Code)) (cn : Str) (cs : Scope) (a : Addr) (ccd : Value) (cl : List (Str × Addr)) (outer : List Env) (A₀ : Around) (base h₀ : Heap) (L : Addr) (m : Str → Option Value) (news : List (Addr × Obj)) (s : Shared) (v : Value) (d c : Nat) (Q E : Value → Shared → Prop),
      Below A₀ base outer h₀ → Fr h₀ L s.heap m → (K06 w.params).In h₀ → News h₀ L s.heap news → Top p loose mean mg mb h₀ → cs.kind = .function → dp + 20 < recursionLimit → un + 160 < cLine →
      DN news v d c → d ≤ 80 → c ≤ 900 →
      (∀ h' tk' k u, Fr h₀ L h' m → News h₀ L h' news → k ≤ 80 → Q (.int k u) { s with heap := h', toks := tk' }) →
      wpAny (model PySem.Challenge.rw_ui0505_06.row.prog w) (ktrTop dp un gd cn cs L a ccd cl outer) (call (.ref 332) [v]) Q E s := by
  k_fill
  k_with_none
  k_with "steps" => repeat' (first | (k_unfold; (try dsimp only)) | walk1 | (dsimp only; walk1) | (leave1; walk_say "STEP leave1"; try dsimp only) | k_extra "mine")
  k_with "spliced" => first | refine args_cons ?_ | refine args_nil ⟨Fr.keep (by assumption) _ _ (by assumption), ?_⟩ | (refine args_nil ?_; try simp only [List.cons_append, List.nil_append])
  k_with "call builtin:len cons nil" => (k_here; (with_reducible show wpAny _ _ (call (Value.builtin "len") [Value.ref _]) _ _ _); k_dflt (refine' lenL (by k_asm) (by k_mem) (by first | (with_reducible assumption) | (simp only [List.length_append, List.length_map, List.length_cons, List.length_nil]; with_reducible rfl)) (by omega) ?_))
  k_with "call ref cons nil" => (k_here; k_dflt (refine' call_cls (by k_asm) (by k_asm) (by k_asm) (by k_is) (by k_is) (by k_is) ?_; k_whole; intro x' d' h' F' N' l1 l2; (try k_lt l1); (try k_lt2 l2); (try k_sweep); walk_at "enter"))
  k_with "call builtin:list.append cons nil" => (k_here; (with_reducible show wpAny _ _ (call (Value.builtin "list.append") [Value.ref _, _]) _ _ _); k_dflt (refine' appendL (by k_asm) (by k_asm) (by k_upd) (by ((try simp only [List.length_append, List.length_map, List.length_cons, List.length_nil]); omega)) ?_; k_whole); intro h' F' N'; (try k_sweep))
  k_with "subscriptTail Attribute Name Attribute ref int" => (k_here; (with_reducible show wpAny _ _ (subscriptTail _ _ (Value.ref _) (Value.int _ _)) _ _ _); k_dflt (refine' itemL (by k_asm) (by with_reducible assumption) (by k_mem) (by with_reducible rfl) (by omega) ?_ (by with_unfolding_all rfl); k_whole))
  k_with "subscriptTail Subscript Attribute Attribute Constant ref int" => (k_here; (with_reducible show wpAny _ _ (subscriptTail _ _ (Value.ref _) (Value.int _ _)) _ _ _); k_dflt (refine' itemT (by k_asm) (by k_mem) (by decide) (by decide) (by rfl) (by rfl) ?_ (by with_unfolding_all rfl) (by intro _; with_unfolding_all rfl)))
  k_with "WhlIf" => first | (with_reducible refine WhlIf.no (by with_reducible assumption) ?_) | (with_reducible refine WhlIf.yes (by with_reducible assumption) ?_)
  k_with "exec While Compare cons nil" => (k_here; (with_reducible refine whl_start 100 ?_))
  k_with "enterC" => (refine' code_defC (by k_asm) (by k_asm) (by k_asm) (by k_asm) (by k_asm) (by exact rfl) (by exact rfl) (by assumption) (by k_is) (by k_is) (by ktr_room) (by first | exact BindsTo.of_eq rfl | exact binds_K (by k_in) rfl (by k_is) rfl rfl rfl) (by exact rfl) (by decide +kernel) ?_ (by exact rfl) (by exact rfl) (by exact rfl); k_whole; intro g' L' h' tk' cells' FG' F' N' Y' B' X' T' l1; (try k_lt l1); k_cells Y'; (try simp only [List.cons_append, List.nil_append] at N'); (try dsimp only); (try k_fold))
  k_with "exec While Compare cons nil" => (k_here; with_reducible refine halt ?_)
  k_with "call builtin:list.pop cons nil" => (k_here; (with_reducible show wpAny _ _ (call (Value.builtin "list.pop") [Value.ref _]) _ _ _); k_dflt (refine' popL (by k_asm) (by k_asm) (by k_upd) (by omega) ?_; k_whole); intro h' F' N'; (try k_sweep))
  k_with "pyIter ref" => (k_here; with_reducible refine halt ?_)
  k_with "exec For Name Name cons nil" => (k_here; (rename Fr _ _ _ _ => lF'); (with_unfolding_all refine' For_invVF lF' (by exact rfl) (by exact rfl) ?_ (by exact fun _ => rfl) (by first | passes_own | with_unfolding_all passes_own)); k_whole)
  k_with "eval ListComp Tuple cons" => (k_here; k_dflt (refine ListComp_Tp (by k_asm) (by with_unfolding_all rfl) (by decide) (by rfl) (by decide) (by rfl) ?_))
  k_with "CompRest" => (with_unfolding_all first | (refine LCg.CompRest.succ ?_; intro v' I' oI' C' oC' D' m' h' tk' E' hv' hC' hx' F' N' off' ne'; lcg_open hv') | refine LCg.CompRest.zero ?_)
  k_with "CompEnd" => ((with_reducible show LCg.CompEnd _ _ _ _ _ _ _ _ _ _ _ _ _ _); (k_dflt (first | (refine' compEnd1 (by k_asm) (by k_asm) (by assumption) (by k_ne) (by k_ne) (by k_ne) (by exact .inr ⟨_, by k_mem, rfl, _, rfl⟩) ?_) | (refine' LCg.CompEnd.intro ?F ?N _ ?sub ?off ?src ?_; (case F => k_asm); (case N => k_asm); (case off => assumption); (case sub => (intro p9 hp9; repeat (first | exact hp9 | refine List.mem_cons_of_mem _ ?_))); (case src => lcg_src)))))
  k_with "eval Name" => (k_here; (with_reducible show wpAny _ _ (eval (Expr.Name _ _) (compEnvC _ _ _ _)) _ _ _); k_dflt (refine ld_cellC (by k_asm) (by k_mem) (by assumption) (by exact rfl) ?_))
  k_with "mine" => ((with_reducible show TupSrc _ _ _ _ _ _ _ _ _ _ _ _ _ _); (k_dflt (refine' tupSrc_intro (by rfl) (by k_asm) (by k_asm) (by k_mem) (by first | size_fits | exact Nat.le_of_ble_eq_true rfl) ?_)); intro g'; (try lcg_lit))
  k_with "call builtin:len cons nil" => (k_here; (with_reducible show wpAny _ _ (call (Value.builtin "len") [Value.ref _]) _ _ _); k_dflt (refine' lenT (by k_asm) (by k_mem) (by first | with_reducible assumption | (exact rfl)) (by omega) ?_))
  k_with "call builtin:list.extend cons nil" => (k_here; k_dflt (refine' extOne (by k_asm) (by k_asm) (by k_mem) (by k_upd) (by omega) ?_; intro h' F' N'; (try k_sweep)))
  k_with "call builtin:list.extend cons nil" => (k_here; k_dflt (refine' extNil (by k_asm) (by k_asm) (by k_mem) (by k_upd) (by omega) ?_; intro h' F' N'; (try k_sweep)))
  k_with "subscriptTail Name Constant ref int" => (k_here; k_dflt (refine' item0 (by k_asm) (by k_mem) ?_ (by with_unfolding_all rfl) (by intro _; with_unfolding_all rfl)))
  intro dp un gd cn cs a ccd cl outer A₀ base h₀ L m news s v d c Q E B F X N T hk hd hu hdn hd80 hc hret
  refine wpAny_call ?_
  k_dflt (k_extra "enterC")
  clear F N
  k_extra "steps"
  rename News _ _ _ _ => N1
  rename Fr g' _ _ _ => F1
  rename AllLt _ _ => l3
  unfold Halt
  obtain ⟨o, lo, e9⟩ : ∃ o : Addr, AllLt o news ∧ o = _ := ⟨_, l3, rfl⟩
  subst e9
  refine whl_start 100 ?_
  refine while_by (DInv g' L' o news s) (by first | passes_own | with_unfolding_all passes_own) ?turn 100 c _ (DInv.init F1 N1 rfl rfl rfl (by assumption) (by assumption) (by assumption) l1 (by assumption) hdn hd80 hc)
  case turn =>
    clear F1 N1
    rintro n s' ⟨h, tk, us, nu, oc, vc, rest, mm, k, rfl, F2, hm1, ⟨t2, hm2⟩, hk80, hk0, N2, hcell, ad1, ad2, ad3, hsub, hW, hn⟩
    replace F2 := frc F2 (upm2 hm1 hm2)
    clear hm1 hm2
    rcases List.eq_nil_or_concat us with e | ⟨us3, u3, e⟩
    · subst e
      have hl0 : ([] : List Value).length = 0 := rfl
      k_extra "steps"
      rename Fr h₀ L _ _ => F9
      rename News h₀ L _ _ => N9
      exact hret _ _ _ _ F9 (nsub N9 fun q hq => List.mem_cons_of_mem _ (List.mem_cons_of_mem _ (hsub q hq))) hk80
    · rw [List.concat_eq_append] at e
      subst e
      obtain ⟨m0, c0, hW0, ⟨a0, v0, k0, d0, t0, n0, rfl, ha0, hdn0, hk01, hk02⟩, hmc⟩ := hW.last
      have hl3 : (us3 ++ [Value.ref a0]).length = us3.length + 1 := by simp
      have hcut2 : decide ((0 : Int) < ((us3.length + 1 : Nat) : Int)) = true := decide_eq_true (by omega)
      have hlen0 := hW0.len
      obtain ⟨pa, ps, np, cs9, rfl, hpa, hpl, hsum, hparts⟩ := hdn0.parts hk02
      k_extra "steps"
      rename Fr _ _ _ _ => F3
      rename News _ _ _ _ => N3
      rename Obj.data _ = Data.cell _ => hcd
      unfold Halt
      refine tup_iter (EInv L' o pa ps np rest news k0 t0 _ m0 cs9) (by exact rfl) (List.mem_cons_of_mem _ (List.mem_cons_of_mem _ hpa)) F3 N3 ⟨⟨_, (upm_self _ _).symm⟩, us3, nu + 1, _, rest, rfl, hcd, ad1, ad2, fun q hq => hq, hsub, hpa, by simpa using hW0⟩ ?hlJ ?tt ?dd
      case hlJ =>
        rintro i m nx ⟨_, us, nu, oc, rest', rfl, _, _, _, _, _, hp, _⟩
        exact List.mem_cons_of_mem _ (List.mem_cons_of_mem _ hp)
      case tt =>
        clear F3 N3 hcd hW hW0 ad1 ad2
        rintro i v m₁ nx h tk own hv hown ⟨⟨ov, rfl⟩, us, nu, oc, rest', rfl, hcd, ad1, ad2, hbs, hns, hp, hW⟩ F4 N4
        rw [upm_upm] at F4
        have hi : i < ps.length := (List.getElem?_eq_some_iff.mp hv).1
        have hci : cs9[i]? = some (cs9[i]'(by omega)) := by simp
        have hpt := (hparts i v _ hv hci).mono hbs
        have hulen := hW.len
        have hsle : (cs9.take i).sum + cs9[i] ≤ cs9.sum := sum_take cs9 i (by omega)
        have htk : (cs9.take (i + 1)).sum = (cs9.take i).sum + cs9[i] := take_sum cs9 i (by omega)
        replace N4 : News g' L' h ((o, listOf us.toArray nu) :: (L' + 1, oc) :: (rest' ++ own)) := N4
        have ad4 : ∀ q ∈ rest' ++ own, q.1 ≠ o := fun q hq => (List.mem_append.mp hq).elim (ad1 q) fun h => hown q h _ List.mem_cons_self
        have ad5 : ∀ q ∈ rest' ++ own, @Ne Nat q.1 (L' + 1) := fun q hq => (List.mem_append.mp hq).elim (ad2 q) fun h => hown q h _ (List.mem_cons_of_mem _ List.mem_cons_self)
        rcases hpt with ⟨hc0, y, t, rfl⟩ | ⟨hc0, b, mb, rfl, hb⟩ | ⟨d1, hd1, hk1⟩ | ⟨b, mb, e, d1, rfl, hb, hd1, hk1⟩
        · k_extra "steps"
          rename Fr _ _ _ _ => F9
          rename News _ _ _ _ => N9
          exact eend_same F9 N9 (fun q hq => hq) hcd ad1 ad2 hbs hns hp hW (by omega) hown
        · have hb4 : (b, tupO [] mb) ∈ rest' ++ own := List.mem_append_left _ hb
          k_extra "steps"
          rename Fr _ _ _ _ => F9
          rename News _ _ _ _ => N9
          exact eend_same F9 N9 (fun q hq => List.mem_cons_of_mem _ hq) hcd ad1 ad2 hbs hns hp hW (by omega) hown
        · obtain ⟨b, y, t, qs, nq, rfl, hb, hql⟩ := hd1.head
          have hb4 : (b, tupO (.str y t :: qs) nq) ∈ rest' ++ own := List.mem_append_left _ hb
          have hlq : (Value.str y t :: qs).length = qs.length + 1 := rfl
          have hcut3 : decide ((0 : Int) < ((qs.length + 1 : Nat) : Int)) = true := decide_eq_true (by omega)
          k_extra "steps"
          rename Fr _ _ _ _ => F9
          rename News _ _ _ _ => N9
          exact eend_more F9 N9 rfl hcd ad1 ad2 (by assumption) (by assumption) (by assumption) hbs hns hp hW hd1 hk1 (by omega) hown
        · obtain ⟨e', y, t, qs, nq, hee, he, hql⟩ := hd1.head
          cases hee
          have hb4 : (b, tupO [.ref e] mb) ∈ rest' ++ own := List.mem_append_left _ hb
          have he4 : (e, tupO (.str y t :: qs) nq) ∈ rest' ++ own := List.mem_append_left _ he
          have hlq : [Value.ref e].length = 1 := rfl
          k_extra "steps"
          rename Fr _ _ _ _ => F9
          rename News _ _ _ _ => N9
          exact eend_more (nu := nu + 1) F9 (nsub N9 fun q hq => List.mem_cons_of_mem _ hq) rfl hcd ad1 ad2 (by assumption) (by assumption) (by assumption) hbs hns hp hW hd1 hk1 (by omega) hown
      case dd =>
        clear F3 N3 hcd hW hW0 ad1 ad2
        rintro m₁ nx h tk ⟨⟨ov, rfl⟩, us, nu, oc, rest', rfl, hcd, ad1, ad2, hbs, hns, hp, hW⟩ F4 N4
        have htk : (cs9.take ps.length).sum = cs9.sum := by rw [hpl, List.take_length]
        rw [htk] at hW
        have hd0 := hdn0.pos
        k_extra "steps"
        rename Fr _ _ _ _ => F9
        rename News _ _ _ _ => N9
        exact ⟨m0 + cs9.sum, by omega, _, _, us, nu, oc, _, rest', _, _, rfl, F9, rfl, ⟨_, rfl⟩, by split <;> omega, by split <;> omega, N9, hcd, ad1, ad2, ad3, hns, hW, by omega⟩
theorem read_ok (w : World) (p : Program) (loose : List Str) (mean : ExcName → Option Value) (mg mb : Str → Option Value) (S : Str → Prop) (hse : S (Str.ofString "")) (f : Sf) (hdep : f.dep ≤ 80) (hnod : f.nodes ≤ 900) (ex : Nat)
    (IH : Reads1 PySem.Challenge.rw_ui0505_06.row.prog K06 316 243 w p loose mean mg mb f ex 80 S) :
    ∀ (dp un : Nat) (gd : Option (List Code)) (cn : Str) (cs : Scope) (a : Addr) (ccd : Value) (cl : List (Str × Addr)) (outer : List Env) (A₀ : Around) (base h₀ : Heap) (L : Addr) (m : Str → Option Value) (news : List (Addr × Obj)) (s : Shared) (x : Str) (t : Tok) (ws : List (Str × Int)) (Q E : Value → Shared → Prop),
      Below A₀ base outer h₀ → Fr h₀ L s.heap m → (K06 w.params).In h₀ → News h₀ L s.heap news → Top p loose mean mg mb h₀ → cs.kind = .function → dp + f.size + ex + 100 < recursionLimit → un + 4 * f.size + 3 * ex + 900 < cLine →
      Lex6 x 0 ws → x.length ≤ 900 → ws.length ≤ 800 → At ws 0 f.words → ws.length = f.words.length → f.deep ≤ 80 →
      (∀ h' tk' v news', Fr h₀ L h' m → News h₀ L h' news' → (∀ q ∈ news, q ∈ news') → FIs news' v f → Q v { s with heap := h', toks := tk' }) →
      wpAny (model PySem.Challenge.rw_ui0505_06.row.prog w) (ktrTop dp un gd cn cs L a ccd cl outer) (call (.ref 327) [.str x t]) Q E s := by
  k_fill
  k_with_none
  k_with "steps" => repeat' (first | (k_unfold; (try dsimp only)) | walk1 | (dsimp only; walk1) | (leave1; walk_say "STEP leave1"; try dsimp only) | k_extra "mine")
  k_with "spliced" => first | refine args_cons ?_ | refine args_nil ⟨Fr.keep (by assumption) _ _ (by assumption), ?_⟩ | (refine args_nil ?_; try simp only [List.cons_append, List.nil_append])
  k_with "call builtin:len cons nil" => (k_here; (with_reducible show wpAny _ _ (call (Value.builtin "len") [Value.ref _]) _ _ _); k_dflt (refine' lenL (by k_asm) (by k_mem) (by first | (with_reducible assumption) | (simp only [List.length_append, List.length_map, List.length_cons, List.length_nil]; with_reducible rfl)) (by omega) ?_))
  k_with "call ref cons nil" => (k_here; k_dflt (refine' call_cls (by k_asm) (by k_asm) (by k_asm) (by k_is) (by k_is) (by k_is) ?_; k_whole; intro x' d' h' F' N' l1 l2; (try k_lt l1); (try k_lt2 l2); (try k_sweep); walk_at "enter"))
  k_with "call builtin:list.append cons nil" => (k_here; (with_reducible show wpAny _ _ (call (Value.builtin "list.append") [Value.ref _, _]) _ _ _); k_dflt (refine' appendL (by k_asm) (by k_asm) (by k_upd) (by ((try simp only [List.length_append, List.length_map, List.length_cons, List.length_nil]); omega)) ?_; k_whole); intro h' F' N'; (try k_sweep))
  k_with "subscriptTail Attribute Name Attribute ref int" => (k_here; (with_reducible show wpAny _ _ (subscriptTail _ _ (Value.ref _) (Value.int _ _)) _ _ _); k_dflt (refine' itemL (by k_asm) (by with_reducible assumption) (by k_mem) (by with_reducible rfl) (by omega) ?_ (by with_unfolding_all rfl); k_whole))
  k_with "subscriptTail Subscript Attribute Attribute Constant ref int" => (k_here; (with_reducible show wpAny _ _ (subscriptTail _ _ (Value.ref _) (Value.int _ _)) _ _ _); k_dflt (refine' itemT (by k_asm) (by k_mem) (by decide) (by decide) (by rfl) (by rfl) ?_ (by with_unfolding_all rfl) (by intro _; with_unfolding_all rfl)))
  k_with "WhlIf" => first | (with_reducible refine WhlIf.no (by with_reducible assumption) ?_) | (with_reducible refine WhlIf.yes (by with_reducible assumption) ?_)
  k_with "exec While Compare cons nil" => (k_here; (with_reducible refine whl_start 100 ?_))
  k_with "call ref cons nil" => (k_here; (with_reducible show wpAny _ _ (call (Value.ref 316) _) _ _ _); k_dflt (refine' rinit_ok _ _ _ _ _ _ _ _ _ _ _ _ _ _ _ _ _ _ _ _ _ _ _ _ _ _ _ (by k_asm) (by k_asm) (by k_asm) (by k_asm) (by k_asm) (by first | rfl | assumption) (by first | decide | omega | ktr_room) (by first | decide | omega | ktr_units) (by assumption) (by assumption) (by assumption) ?_; intro h' tk' rd dd tl r nt vs news' F' N' K' S' hdn'; (have hnd9 := hdn'); (have hsb9 := K'); (have hrd' := S'.hrd); (obtain ⟨ua', ud', hdd'⟩ := S'.hdd); (have hT' := S'.tk); (try k_sweep); (try dsimp only)))
  k_with "call ref nil" => (k_here; (with_reducible show wpAny _ _ (call (Value.ref 243) _) _ _ _); (rename Reads1 _ _ _ _ _ _ _ _ _ _ _ _ _ _ => IH9); k_dflt (refine' IH9 _ _ _ _ _ _ _ _ _ _ _ _ _ _ _ _ _ _ _ _ _ _ _ _ 0 _ _ _ (by k_asm) (by k_asm) (by k_asm) (by k_asm) (by k_asm) (by first | rfl | assumption) (by first | decide | omega | ktr_room) (by first | decide | omega | ktr_units) (by assumption) (by assumption) (by assumption) (by assumption) (by omega) (by omega) ?_; intro h' tk' v' news' F' N' K' S' f'; (have hsub9 : ∀ q ∈ _, q ∈ news' := fun q hq => K' q (hsb9 q hq) (hnd9 q hq)); (have hrd' := S'.hrd); (obtain ⟨ua', ud', hdd'⟩ := S'.hdd); (have hT' := S'.tk); (try k_sweep); (try dsimp only)))
  k_with "call ref nil" => (k_here; (with_reducible show wpAny _ _ (call (Value.ref 313) _) _ _ _); k_dflt (refine' finish_ok _ _ _ _ _ _ _ _ _ _ _ _ _ _ _ _ _ _ _ _ _ _ _ _ _ _ _ _ _ _ _ _ _ (by k_asm) (by k_asm) (by k_asm) (by k_asm) (by k_asm) (by first | rfl | assumption) (by first | decide | omega | ktr_room) (by first | decide | omega | ktr_units) (by assumption) (by assumption) (by omega) ?_; intro h' tk' F' N'; (try k_sweep); (try dsimp only)))
  k_with "call ref cons nil" => (k_here; (with_reducible show wpAny _ _ (call (Value.ref 332) _) _ _ _); (rename FIs _ _ _ => f9); k_dflt (refine' depth_ok _ _ _ _ _ _ _ _ _ _ _ _ _ _ _ _ _ _ _ _ _ _ _ _ _ _ _ (by k_asm) (by k_asm) (by k_asm) (by k_asm) (by k_asm) (by first | rfl | assumption) (by first | decide | omega | ktr_room) (by first | decide | omega | ktr_units) f9.dn (by assumption) (by assumption) ?_; intro h' tk' k' u' F' N' hk80'; (try k_sweep); (try dsimp only); (have hcut9 : decide ((80 : Int) < k') = false := decide_eq_false (by omega))))
  intro dp un gd cn cs a ccd cl outer A₀ base h₀ L m news s x t ws Q E B F X N T hk hd hu hlex hxl hwl hat hwe hfd hret
  have hend : wordAt ws (0 + f.words.length) = Str.ofString "" := by rw [Nat.zero_add]; exact wordAt_end hwe
  have hwl9 : ws.length ≤ 900 := by omega
  refine wpAny_call ?_
  k_dflt (walk_at "enter")
  k_extra "steps"
  rename Fr h₀ L _ _ => F9
  rename News h₀ L _ _ => N9
  exact hret _ _ _ _ F9 N9 hsub9 (by assumption)
theorem Reads1.mono {prog : Program} {K : Params → Frag} {C fa : Addr} {w : World} {p : Program} {loose : List Str} {mean : ExcName → Option Value} {mg mb : Str → Option Value} {f : Sf} {ex lim : Nat} {S S' : Str → Prop}
    (h : Reads1 prog K C fa w p loose mean mg mb f ex lim S) (hs : ∀ x, S' x → S x) : Reads1 prog K C fa w p loose mean mg mb f ex lim S' := by
  unfold Reads1 at *
  intro dp un gd cn cs a ccd cl outer A₀ base h₀ L m news s rd dd tl r nt vs ws i dq x Q E B F X N T hk hd hu hS hat hx hst hi hdq hret
  exact h dp un gd cn cs a ccd cl outer A₀ base h₀ L m news s rd dd tl r nt vs ws i dq x Q E B F X N T hk hd hu hS hat hx (hs x hst) hi hdq hret
/-- what stands behind a formula -/
def St6 (x : Str) : Prop := x = Str.ofString ")" ∨ x = Str.ofString ""
theorem st6_ne {x y : Str} (h : St6 x) (h1 : y ≠ Str.ofString ")") (h2 : y ≠ Str.ofString "") : x ≠ y := by
  rcases h with rfl | rfl
  · exact Ne.symm h1
  · exact Ne.symm h2
section
variable (w : World) (p : Program) (loose : List Str) (mean : ExcName → Option Value) (mg mb : Str → Option Value)
theorem up6 {f : Sf} (h : Reads1 PySem.Challenge.rw_ui0505_06.row.prog K06 316 285 w p loose mean mg mb f 0 81 St6) : Reads1 PySem.Challenge.rw_ui0505_06.row.prog K06 316 243 w p loose mean mg mb f 10 80 St6 :=
  (form_ok w p loose mean mg mb _ f 8 (imp1_ok w p loose mean mg mb _ f 6 (disj_ok w p loose mean mg mb _ f 4 (conj_ok w p loose mean mg mb _ f 2 (simple_ok w p loose mean mg mb St6 f 0 h))))).mono fun x hx =>
    ⟨⟨⟨⟨hx, st6_ne hx (by decide) (by decide)⟩, st6_ne hx (by decide) (by decide)⟩, st6_ne hx (by decide) (by decide)⟩, st6_ne hx (by decide) (by decide)⟩
theorem g_x : Reads1 PySem.Challenge.rw_ui0505_06.row.prog K06 316 285 w p loose mean mg mb .atomx 0 81 St6 := (satomx_ok w p loose mean mg mb).mono fun x hx => st6_ne hx (by decide) (by decide)
theorem g_no {f : Sf} (h : Reads1 PySem.Challenge.rw_ui0505_06.row.prog K06 316 285 w p loose mean mg mb f 0 81 St6) : Reads1 PySem.Challenge.rw_ui0505_06.row.prog K06 316 285 w p loose mean mg mb (.no f) 0 81 St6 :=
  sno_ok w p loose mean mg mb St6 f (simple_ok w p loose mean mg mb St6 f 0 h)
/-- the law's texts, and what is read from them -/
inductive Text6 : Str → Sf → Prop
  | x : Text6 (Str.ofString "P(x)") .atomx
  | all : Text6 (Str.ofString "all x. P(x)") (.all .atomx)
  | some : Text6 (Str.ofString "some x. P(x)") (.some .atomx)
  | no : Text6 (Str.ofString "~(some x. ~P(x))") (.no (.par (.some (.no .atomx))))
theorem g_text {x : Str} {f : Sf} (h : Text6 x f) : Reads1 PySem.Challenge.rw_ui0505_06.row.prog K06 316 243 w p loose mean mg mb f 10 80 St6 := by
  cases h with
  | x => exact up6 w p loose mean mg mb (g_x w p loose mean mg mb)
  | all => exact up6 w p loose mean mg mb (sall_ok w p loose mean mg mb St6 _ (up6 w p loose mean mg mb (g_x w p loose mean mg mb)))
  | some => exact up6 w p loose mean mg mb (ssome_ok w p loose mean mg mb St6 _ (up6 w p loose mean mg mb (g_x w p loose mean mg mb)))
  | no => exact up6 w p loose mean mg mb (g_no w p loose mean mg mb (spar_ok w p loose mean mg mb St6 St6 (.inl rfl) _ (up6 w p loose mean mg mb (ssome_ok w p loose mean mg mb St6 _ (up6 w p loose mean mg mb (g_no w p loose mean mg mb (g_x w p loose mean mg mb)))))))
end
theorem at_map {ws : List (Str × Int)} {xs : List Str} (h : ws.map (·.1) = xs) : At ws 0 xs := by
  intro j x hj
  rw [← h, List.getElem?_map] at hj
  rw [Nat.zero_add, wordAt]
  cases e : ws[j]? with
  | none => rw [e] at hj; cases hj
  | some y => rw [e] at hj; cases hj; rfl
theorem sg {x : Str} {i : Nat} {z : String} {c : Nat} (h1 : x.cps[i]? = some c) (h2 : (Str.ofString z).cps = #[c]) : SignAt x i (Str.ofString z) := ⟨c, h1, by rw [← h2]⟩
theorem lex_x : Lex6 (Str.ofString "P(x)") 0 [(Str.ofString "P", 0), (Str.ofString "(", 1), (Str.ofString "x", 2), (Str.ofString ")", 3)] := .word (i := 0) (n := 1) (y := Str.ofString "P") (by decide) (fun j hj => match j, hj with | 0, _ => ⟨_, sg (z := "P") (c := 80) (by decide) (by decide), "P", by decide, rfl⟩) ⟨_, sg (z := "(") (c := 40) (by decide) (by decide), "(", by decide, rfl⟩ (by decide +kernel) (.sign (i := 1) (z := "(") (k := 6) (by decide) (sg (z := "(") (c := 40) (by decide) (by decide)) (.word (i := 2) (n := 1) (y := Str.ofString "x") (by decide) (fun j hj => match j, hj with | 0, _ => ⟨_, sg (z := "x") (c := 120) (by decide) (by decide), "x", by decide, rfl⟩) ⟨_, sg (z := ")") (c := 41) (by decide) (by decide), ")", by decide, rfl⟩ (by decide +kernel) (.sign (i := 3) (z := ")") (k := 7) (by decide) (sg (z := ")") (c := 41) (by decide) (by decide)) (.done (by decide)))))
theorem lex_all : Lex6 (Str.ofString "all x. P(x)") 0 [(Str.ofString "all", 0), (Str.ofString "x", 4), (Str.ofString ".", 5), (Str.ofString "P", 7), (Str.ofString "(", 8), (Str.ofString "x", 9), (Str.ofString ")", 10)] := .word (i := 0) (n := 3) (y := Str.ofString "all") (by decide) (fun j hj => match j, hj with | 0, _ => ⟨_, sg (z := "a") (c := 97) (by decide) (by decide), "a", by decide, rfl⟩ | 1, _ => ⟨_, sg (z := "l") (c := 108) (by decide) (by decide), "l", by decide, rfl⟩ | 2, _ => ⟨_, sg (z := "l") (c := 108) (by decide) (by decide), "l", by decide, rfl⟩) ⟨_, sg (z := " ") (c := 32) (by decide) (by decide), " ", by decide, rfl⟩ (by decide +kernel) (.space (i := 3) (sg (z := " ") (c := 32) (by decide) (by decide)) (.word (i := 4) (n := 1) (y := Str.ofString "x") (by decide) (fun j hj => match j, hj with | 0, _ => ⟨_, sg (z := "x") (c := 120) (by decide) (by decide), "x", by decide, rfl⟩) ⟨_, sg (z := ".") (c := 46) (by decide) (by decide), ".", by decide, rfl⟩ (by decide +kernel) (.sign (i := 5) (z := ".") (k := 9) (by decide) (sg (z := ".") (c := 46) (by decide) (by decide)) (.space (i := 6) (sg (z := " ") (c := 32) (by decide) (by decide)) (.word (i := 7) (n := 1) (y := Str.ofString "P") (by decide) (fun j hj => match j, hj with | 0, _ => ⟨_, sg (z := "P") (c := 80) (by decide) (by decide), "P", by decide, rfl⟩) ⟨_, sg (z := "(") (c := 40) (by decide) (by decide), "(", by decide, rfl⟩ (by decide +kernel) (.sign (i := 8) (z := "(") (k := 6) (by decide) (sg (z := "(") (c := 40) (by decide) (by decide)) (.word (i := 9) (n := 1) (y := Str.ofString "x") (by decide) (fun j hj => match j, hj with | 0, _ => ⟨_, sg (z := "x") (c := 120) (by decide) (by decide), "x", by decide, rfl⟩) ⟨_, sg (z := ")") (c := 41) (by decide) (by decide), ")", by decide, rfl⟩ (by decide +kernel) (.sign (i := 10) (z := ")") (k := 7) (by decide) (sg (z := ")") (c := 41) (by decide) (by decide)) (.done (by decide))))))))))
theorem lex_some : Lex6 (Str.ofString "some x. P(x)") 0 [(Str.ofString "some", 0), (Str.ofString "x", 5), (Str.ofString ".", 6), (Str.ofString "P", 8), (Str.ofString "(", 9), (Str.ofString "x", 10), (Str.ofString ")", 11)] := .word (i := 0) (n := 4) (y := Str.ofString "some") (by decide) (fun j hj => match j, hj with | 0, _ => ⟨_, sg (z := "s") (c := 115) (by decide) (by decide), "s", by decide, rfl⟩ | 1, _ => ⟨_, sg (z := "o") (c := 111) (by decide) (by decide), "o", by decide, rfl⟩ | 2, _ => ⟨_, sg (z := "m") (c := 109) (by decide) (by decide), "m", by decide, rfl⟩ | 3, _ => ⟨_, sg (z := "e") (c := 101) (by decide) (by decide), "e", by decide, rfl⟩) ⟨_, sg (z := " ") (c := 32) (by decide) (by decide), " ", by decide, rfl⟩ (by decide +kernel) (.space (i := 4) (sg (z := " ") (c := 32) (by decide) (by decide)) (.word (i := 5) (n := 1) (y := Str.ofString "x") (by decide) (fun j hj => match j, hj with | 0, _ => ⟨_, sg (z := "x") (c := 120) (by decide) (by decide), "x", by decide, rfl⟩) ⟨_, sg (z := ".") (c := 46) (by decide) (by decide), ".", by decide, rfl⟩ (by decide +kernel) (.sign (i := 6) (z := ".") (k := 9) (by decide) (sg (z := ".") (c := 46) (by decide) (by decide)) (.space (i := 7) (sg (z := " ") (c := 32) (by decide) (by decide)) (.word (i := 8) (n := 1) (y := Str.ofString "P") (by decide) (fun j hj => match j, hj with | 0, _ => ⟨_, sg (z := "P") (c := 80) (by decide) (by decide), "P", by decide, rfl⟩) ⟨_, sg (z := "(") (c := 40) (by decide) (by decide), "(", by decide, rfl⟩ (by decide +kernel) (.sign (i := 9) (z := "(") (k := 6) (by decide) (sg (z := "(") (c := 40) (by decide) (by decide)) (.word (i := 10) (n := 1) (y := Str.ofString "x") (by decide) (fun j hj => match j, hj with | 0, _ => ⟨_, sg (z := "x") (c := 120) (by decide) (by decide), "x", by decide, rfl⟩) ⟨_, sg (z := ")") (c := 41) (by decide) (by decide), ")", by decide, rfl⟩ (by decide +kernel) (.sign (i := 11) (z := ")") (k := 7) (by decide) (sg (z := ")") (c := 41) (by decide) (by decide)) (.done (by decide))))))))))
theorem lex_no : Lex6 (Str.ofString "~(some x. ~P(x))") 0 [(Str.ofString "~", 0), (Str.ofString "(", 1), (Str.ofString "some", 2), (Str.ofString "x", 7), (Str.ofString ".", 8), (Str.ofString "~", 10), (Str.ofString "P", 11), (Str.ofString "(", 12), (Str.ofString "x", 13), (Str.ofString ")", 14), (Str.ofString ")", 15)] := .sign (i := 0) (z := "~") (k := 2) (by decide) (sg (z := "~") (c := 126) (by decide) (by decide)) (.sign (i := 1) (z := "(") (k := 6) (by decide) (sg (z := "(") (c := 40) (by decide) (by decide)) (.word (i := 2) (n := 4) (y := Str.ofString "some") (by decide) (fun j hj => match j, hj with | 0, _ => ⟨_, sg (z := "s") (c := 115) (by decide) (by decide), "s", by decide, rfl⟩ | 1, _ => ⟨_, sg (z := "o") (c := 111) (by decide) (by decide), "o", by decide, rfl⟩ | 2, _ => ⟨_, sg (z := "m") (c := 109) (by decide) (by decide), "m", by decide, rfl⟩ | 3, _ => ⟨_, sg (z := "e") (c := 101) (by decide) (by decide), "e", by decide, rfl⟩) ⟨_, sg (z := " ") (c := 32) (by decide) (by decide), " ", by decide, rfl⟩ (by decide +kernel) (.space (i := 6) (sg (z := " ") (c := 32) (by decide) (by decide)) (.word (i := 7) (n := 1) (y := Str.ofString "x") (by decide) (fun j hj => match j, hj with | 0, _ => ⟨_, sg (z := "x") (c := 120) (by decide) (by decide), "x", by decide, rfl⟩) ⟨_, sg (z := ".") (c := 46) (by decide) (by decide), ".", by decide, rfl⟩ (by decide +kernel) (.sign (i := 8) (z := ".") (k := 9) (by decide) (sg (z := ".") (c := 46) (by decide) (by decide)) (.space (i := 9) (sg (z := " ") (c := 32) (by decide) (by decide)) (.sign (i := 10) (z := "~") (k := 2) (by decide) (sg (z := "~") (c := 126) (by decide) (by decide)) (.word (i := 11) (n := 1) (y := Str.ofString "P") (by decide) (fun j hj => match j, hj with | 0, _ => ⟨_, sg (z := "P") (c := 80) (by decide) (by decide), "P", by decide, rfl⟩) ⟨_, sg (z := "(") (c := 40) (by decide) (by decide), "(", by decide, rfl⟩ (by decide +kernel) (.sign (i := 12) (z := "(") (k := 6) (by decide) (sg (z := "(") (c := 40) (by decide) (by decide)) (.word (i := 13) (n := 1) (y := Str.ofString "x") (by decide) (fun j hj => match j, hj with | 0, _ => ⟨_, sg (z := "x") (c := 120) (by decide) (by decide), "x", by decide, rfl⟩) ⟨_, sg (z := ")") (c := 41) (by decide) (by decide), ")", by decide, rfl⟩ (by decide +kernel) (.sign (i := 14) (z := ")") (k := 7) (by decide) (sg (z := ")") (c := 41) (by decide) (by decide)) (.sign (i := 15) (z := ")") (k := 7) (by decide) (sg (z := ")") (c := 41) (by decide) (by decide)) (.done (by decide))))))))))))))
theorem text6 {x : Str} {f : Sf} (h : Text6 x f) : ∃ ws, Lex6 x 0 ws ∧ x.length ≤ 900 ∧ ws.length ≤ 800 ∧ At ws 0 f.words ∧ ws.length = f.words.length ∧ f.deep ≤ 80 ∧ f.dep ≤ 80 ∧ f.nodes ≤ 900 ∧ f.size ≤ 100 := by
  cases h with
  | x => exact ⟨_, lex_x, by decide, by decide, at_map rfl, by decide, by decide, by decide, by decide, by decide⟩
  | all => exact ⟨_, lex_all, by decide, by decide, at_map rfl, by decide, by decide, by decide, by decide, by decide⟩
  | some => exact ⟨_, lex_some, by decide, by decide, at_map rfl, by decide, by decide, by decide, by decide, by decide⟩
  | no => exact ⟨_, lex_no, by decide, by decide, at_map rfl, by decide, by decide, by decide, by decide, by decide⟩
/-- a text of the law is read -/
theorem rdT (w : World) (p : Program) (loose : List Str) (mean : ExcName → Option Value) (mg mb : Str → Option Value) {x : Str} {f : Sf} (hT : Text6 x f) :
    ∀ (dp un : Nat) (gd : Option (List Code)) (cn : Str) (cs : Scope) (a : Addr) (ccd : Value) (cl : List (Str × Addr)) (outer : List Env) (A₀ : Around) (base h₀ : Heap) (L : Addr) (m : Str → Option Value) (news : List (Addr × Obj)) (s : Shared) (t : Tok) (Q E : Value → Shared → Prop),
      Below A₀ base outer h₀ → Fr h₀ L s.heap m → (K06 w.params).In h₀ → News h₀ L s.heap news → Top p loose mean mg mb h₀ → cs.kind = .function → dp + 250 < recursionLimit → un + 1400 < cLine →
      (∀ h' tk' v news', Fr h₀ L h' m → News h₀ L h' news' → (∀ q ∈ news, q ∈ news') → FIs news' v f → Q v { s with heap := h', toks := tk' }) →
      wpAny (model PySem.Challenge.rw_ui0505_06.row.prog w) (ktrTop dp un gd cn cs L a ccd cl outer) (call (.ref 327) [.str x t]) Q E s := by
  intro dp un gd cn cs a ccd cl outer A₀ base h₀ L m news s t Q E B F X N T hk hd hu hret
  obtain ⟨ws, h1, h2, h3, h4, h5, h6, h7, h8, h9⟩ := text6 hT
  exact read_ok w p loose mean mg mb St6 (.inr rfl) f h7 h8 10 (g_text w p loose mean mg mb hT) dp un gd cn cs a ccd cl outer A₀ base h₀ L m news s x t ws Q E B F X N T hk (by omega) (by omega) h1 h2 h3 h4 h5 h6 hret
theorem mterm_ok (w : World) (p : Program) (loose : List Str) (mean : ExcName → Option Value) (mg mb : Str → Option Value) :
    ∀ (dp un : Nat) (gd : Option (List Code)) (cn : Str) (cs : Scope) (a : Addr) (ccd : Value) (cl : List (Str × Addr)) (outer : List Env) (A₀ : Around) (base h₀ : Heap) (L : Addr) (m : Str → Option Value) (news : List (Addr × Obj)) (s : Shared) (mo t g : Addr) (k : Int) (t1 t2 : Tok) (n : Nat) (Q E : Value → Shared → Prop),
      Below A₀ base outer h₀ → Fr h₀ L s.heap m → (K06 w.params).In h₀ → News h₀ L s.heap news → Top p loose mean mg mb h₀ → cs.kind = .function → dp + 20 < recursionLimit → un + 160 < cLine →
      (t, tupO [.str (Str.ofString "var") t1, .str (Str.ofString "x") t2] n) ∈ news → GivenIs PySem.Challenge.rw_ui0505_06.row.prog w news g (xIs k) →
      (∀ h' tk' u, Fr h₀ L h' m → News h₀ L h' news → Q (.int k u) { s with heap := h', toks := tk' }) →
      wpAny (model PySem.Challenge.rw_ui0505_06.row.prog w) (ktrTop dp un gd cn cs L a ccd cl outer) (call (.ref 117) [.ref mo, .ref t, .ref g]) Q E s := by
  k_fill
  k_with_none
  k_with "steps" => repeat' (first | (k_unfold; (try dsimp only)) | walk1 | (dsimp only; walk1) | (leave1; walk_say "STEP leave1"; try dsimp only) | k_extra "mine")
  k_with "spliced" => first | refine args_cons ?_ | refine args_nil ⟨Fr.keep (by assumption) _ _ (by assumption), ?_⟩ | (refine args_nil ?_; try simp only [List.cons_append, List.nil_append])
  k_with "call builtin:len cons nil" => (k_here; (with_reducible show wpAny _ _ (call (Value.builtin "len") [Value.ref _]) _ _ _); k_dflt (refine' lenL (by k_asm) (by k_mem) (by first | (with_reducible assumption) | (simp only [List.length_append, List.length_map, List.length_cons, List.length_nil]; with_reducible rfl)) (by omega) ?_))
  k_with "call ref cons nil" => (k_here; k_dflt (refine' call_cls (by k_asm) (by k_asm) (by k_asm) (by k_is) (by k_is) (by k_is) ?_; k_whole; intro x' d' h' F' N' l1 l2; (try k_lt l1); (try k_lt2 l2); (try k_sweep); walk_at "enter"))
  k_with "call builtin:list.append cons nil" => (k_here; (with_reducible show wpAny _ _ (call (Value.builtin "list.append") [Value.ref _, _]) _ _ _); k_dflt (refine' appendL (by k_asm) (by k_asm) (by k_upd) (by ((try simp only [List.length_append, List.length_map, List.length_cons, List.length_nil]); omega)) ?_; k_whole); intro h' F' N'; (try k_sweep))
  k_with "subscriptTail Attribute Name Attribute ref int" => (k_here; (with_reducible show wpAny _ _ (subscriptTail _ _ (Value.ref _) (Value.int _ _)) _ _ _); k_dflt (refine' itemL (by k_asm) (by with_reducible assumption) (by k_mem) (by with_reducible rfl) (by omega) ?_ (by with_unfolding_all rfl); k_whole))
  k_with "subscriptTail Subscript Attribute Attribute Constant ref int" => (k_here; (with_reducible show wpAny _ _ (subscriptTail _ _ (Value.ref _) (Value.int _ _)) _ _ _); k_dflt (refine' itemT (by k_asm) (by k_mem) (by decide) (by decide) (by rfl) (by rfl) ?_ (by with_unfolding_all rfl) (by intro _; with_unfolding_all rfl)))
  k_with "WhlIf" => first | (with_reducible refine WhlIf.no (by with_reducible assumption) ?_) | (with_reducible refine WhlIf.yes (by with_reducible assumption) ?_)
  k_with "exec While Compare cons nil" => (k_here; (with_reducible refine whl_start 100 ?_))
  k_with "subscriptTail Name Constant ref int" => (k_here; (with_reducible show wpAny _ _ (subscriptTail _ _ (Value.ref _) (Value.int _ _)) _ _ _); k_dflt (refine' itemT (by k_asm) (by k_mem) (by decide) (by decide) (by rfl) (by rfl) ?_ (by with_unfolding_all rfl) (by intro _; with_unfolding_all rfl)))
  k_with "enterC" => (refine' code_defC (by k_asm) (by k_asm) (by k_asm) (by k_asm) (by k_asm) (by exact rfl) (by exact rfl) (by assumption) (by k_is) (by k_is) (by ktr_room) (by first | exact BindsTo.of_eq rfl | exact binds_K (by k_in) rfl (by k_is) rfl rfl rfl) (by exact rfl) (by decide +kernel) ?_ (by exact rfl) (by exact rfl) (by exact rfl); k_whole; intro g' L' h' tk' cells' FG' F' N' Y' B' X' T' l1; (try k_lt l1); k_cells Y'; (try simp only [List.cons_append, List.nil_append] at N'); (try dsimp only); (try k_fold))
  k_with "compareOp NotIn str ref" => (k_here; k_dflt (refine' gv_notin (by k_asm) (GivenIs.mono (by assumption) (fun q9 hq9 => by repeat (first | exact hq9 | refine List.mem_cons_of_mem _ ?_))) ?_))
  k_with "subscriptTail Name Subscript ref str" => (k_here; k_dflt (refine' gv_item (by k_asm) (GivenIs.mono (by assumption) (fun q9 hq9 => by repeat (first | exact hq9 | refine List.mem_cons_of_mem _ ?_))) ?_ (by with_unfolding_all rfl) (by intro _; with_unfolding_all rfl)); intro _)
  intro dp un gd cn cs a ccd cl outer A₀ base h₀ L m news s mo t g k t1 t2 n Q E B F X N T hk hd hu ht hg hret
  refine wpAny_call ?_
  k_dflt (k_extra "enterC")
  clear F N
  k_extra "steps"
  rename Fr h₀ L _ _ => F9
  rename News h₀ L _ _ => N9
  exact hret _ _ _ F9 fun q hq => N9 q (by repeat (first | exact hq | refine List.mem_cons_of_mem _ ?_))
/-- the model's objects -/
structure MdlIs (w : World) (news : List (Addr × Obj)) (mo : Addr) (nn : Int) (l : List (Int × Addr)) (md rd fd key S : Addr) (od : Obj) (t1 t2 t3 t4 t5 t6 : Tok) (n ep : Nat) (led : Bool) : Prop where
  hmo : (mo, instObj 147 md) ∈ news
  hmd : (md, dictOf [ent w "size" t1 (.int nn t2), ent w "relations" t3 (.ref rd), ent w "functions" t4 (.ref fd)] 3) ∈ news
  hrd : (rd, od) ∈ news
  hone : OneObj PySem.Challenge.rw_ui0505_06.row.prog w od key (.ref S)
  hsys : (rd == sysModules) = false
  hkey : (key, tupO [.str (Str.ofString "P") t5, .int 1 t6] n) ∈ news
  hset : (S, set3 l ep led) ∈ news
  hrows : RowsIn news l
def Mdl (w : World) (news : List (Addr × Obj)) (mo : Addr) (nn : Int) (l : List (Int × Addr)) : Prop := ∃ md rd fd key S od t1 t2 t3 t4 t5 t6 n ep led, MdlIs w news mo nn l md rd fd key S od t1 t2 t3 t4 t5 t6 n ep led
theorem Mdl.mono {w : World} {news news' : List (Addr × Obj)} {mo : Addr} {nn : Int} {l : List (Int × Addr)} (x : Mdl w news mo nn l) (h : ∀ q ∈ news, q ∈ news') : Mdl w news' mo nn l := by
  obtain ⟨md, rd, fd, key, S, od, t1, t2, t3, t4, t5, t6, n, ep, led, x⟩ := x
  exact ⟨md, rd, fd, key, S, od, t1, t2, t3, t4, t5, t6, n, ep, led, h _ x.hmo, h _ x.hmd, h _ x.hrd, x.hone, x.hsys, h _ x.hkey, h _ x.hset, x.hrows.1, fun p hp => let ⟨t, n, hm⟩ := x.hrows.2 p hp; ⟨t, n, h _ hm⟩⟩
theorem in3N {prog : Program} {w : World} {A : Around} {E : Value → Shared → Prop} {s : Shared} {h₀ : Heap} {L S a : Addr} {news₀ news : List (Addr × Obj)} {l : List (Int × Addr)} {ep n : Nat} {led : Bool} {k : Int} {t : Tok} {Q : Value → Shared → Prop} (N : News h₀ L s.heap news) (hS : (S, set3 l ep led) ∈ news) (hl : RowsIn news₀ l) (sub : ∀ q ∈ news₀, q ∈ news) (ha : (a, tupO [.int k t] n) ∈ news) (hk3 : 0 ≤ k ∧ k < 3) (hu : A.units + 8 < cLine)
    (h : Q (.bool (decide (k ∈ l.map (·.1)))) { s with toks := s.toks + 2 }) : wpAny (model prog w) A (compareOp .In (.ref a) (.ref S)) Q E s :=
  in3K N hS ⟨hl.1, fun p hp => let ⟨t, n, hm⟩ := hl.2 p hp; ⟨t, n, sub _ hm⟩⟩ hk3 ha hu h
/-- what a formula without binders says of a thing -/
def Sf.ev (l : List Int) (k : Int) : Sf → Bool
  | atom => false
  | atomx => decide (k ∈ l)
  | no f => !f.ev l k
  | all f => f.ev l k
  | some f => f.ev l k
  | par f => f.ev l k
  | imp f g => !f.ev l k || g.ev l k
/-- holds of a formula of x and a thing -/
def HoldsX (w : World) (p : Program) (loose : List Str) (mean : ExcName → Option Value) (mg mb : Str → Option Value) (f : Sf) : Prop :=
    ∀ (dp un : Nat) (gd : Option (List Code)) (cn : Str) (cs : Scope) (a : Addr) (ccd : Value) (cl : List (Str × Addr)) (outer : List Env) (A₀ : Around) (base h₀ : Heap) (L : Addr) (m : Str → Option Value) (news : List (Addr × Obj)) (s : Shared) (mo g : Addr) (nn : Int) (l : List (Int × Addr)) (k : Int) (fv : Value) (Q E : Value → Shared → Prop),
      Below A₀ base outer h₀ → Fr h₀ L s.heap m → (K06 w.params).In h₀ → News h₀ L s.heap news → Top p loose mean mg mb h₀ → cs.kind = .function → dp + 40 + 2 * f.size < recursionLimit → un + 280 + 8 * f.size < cLine →
      Mdl w news mo nn l → GivenIs PySem.Challenge.rw_ui0505_06.row.prog w news g (xIs k) → 0 ≤ k ∧ k < 3 → FIs news fv f →
      (∀ h' tk', Fr h₀ L h' m → News h₀ L h' news → Q (.bool (f.ev (l.map (·.1)) k)) { s with heap := h', toks := tk' }) →
      wpAny (model PySem.Challenge.rw_ui0505_06.row.prog w) (ktrTop dp un gd cn cs L a ccd cl outer) (call (.ref 123) [.ref mo, fv, .ref g]) Q E s
theorem q_of {Q : Value → Shared → Prop} {v v' : Value} {s : Shared} (h : Q v s) (e : v = v') : Q v' s := e ▸ h
theorem holds_atm (w : World) (p : Program) (loose : List Str) (mean : ExcName → Option Value) (mg mb : Str → Option Value) : HoldsX w p loose mean mg mb .atomx := by
  unfold HoldsX
  k_fill
  k_with_none
  k_with "steps" => repeat' (first | (k_unfold; (try dsimp only)) | walk1 | (dsimp only; walk1) | (leave1; walk_say "STEP leave1"; try dsimp only) | k_extra "mine")
  k_with "spliced" => first | refine args_cons ?_ | refine args_nil ⟨Fr.keep (by assumption) _ _ (by assumption), ?_⟩ | (refine args_nil ?_; try simp only [List.cons_append, List.nil_append])
  k_with "call builtin:len cons nil" => (k_here; (with_reducible show wpAny _ _ (call (Value.builtin "len") [Value.ref _]) _ _ _); k_dflt (refine' lenL (by k_asm) (by k_mem) (by first | (with_reducible assumption) | (simp only [List.length_append, List.length_map, List.length_cons, List.length_nil]; with_reducible rfl)) (by omega) ?_))
  k_with "call ref cons nil" => (k_here; k_dflt (refine' call_cls (by k_asm) (by k_asm) (by k_asm) (by k_is) (by k_is) (by k_is) ?_; k_whole; intro x' d' h' F' N' l1 l2; (try k_lt l1); (try k_lt2 l2); (try k_sweep); walk_at "enter"))
  k_with "call builtin:list.append cons nil" => (k_here; (with_reducible show wpAny _ _ (call (Value.builtin "list.append") [Value.ref _, _]) _ _ _); k_dflt (refine' appendL (by k_asm) (by k_asm) (by k_upd) (by ((try simp only [List.length_append, List.length_map, List.length_cons, List.length_nil]); omega)) ?_; k_whole); intro h' F' N'; (try k_sweep))
  k_with "subscriptTail Attribute Name Attribute ref int" => (k_here; (with_reducible show wpAny _ _ (subscriptTail _ _ (Value.ref _) (Value.int _ _)) _ _ _); k_dflt (refine' itemL (by k_asm) (by with_reducible assumption) (by k_mem) (by with_reducible rfl) (by omega) ?_ (by with_unfolding_all rfl); k_whole))
  k_with "subscriptTail Subscript Attribute Attribute Constant ref int" => (k_here; (with_reducible show wpAny _ _ (subscriptTail _ _ (Value.ref _) (Value.int _ _)) _ _ _); k_dflt (refine' itemT (by k_asm) (by k_mem) (by decide) (by decide) (by rfl) (by rfl) ?_ (by with_unfolding_all rfl) (by intro _; with_unfolding_all rfl)))
  k_with "WhlIf" => first | (with_reducible refine WhlIf.no (by with_reducible assumption) ?_) | (with_reducible refine WhlIf.yes (by with_reducible assumption) ?_)
  k_with "exec While Compare cons nil" => (k_here; (with_reducible refine whl_start 100 ?_))
  k_with "subscriptTail Name Constant ref int" => (k_here; (with_reducible show wpAny _ _ (subscriptTail _ _ (Value.ref _) (Value.int _ _)) _ _ _); k_dflt (refine' itemT (by k_asm) (by k_mem) (by decide) (by decide) (by rfl) (by rfl) ?_ (by with_unfolding_all rfl) (by intro _; with_unfolding_all rfl)))
  k_with "enterC" => (refine' code_defC (by k_asm) (by k_asm) (by k_asm) (by k_asm) (by k_asm) (by exact rfl) (by exact rfl) (by assumption) (by k_is) (by k_is) (by ktr_room) (by first | exact BindsTo.of_eq rfl | exact binds_K (by k_in) rfl (by k_is) rfl rfl rfl) (by exact rfl) (by decide +kernel) ?_ (by exact rfl) (by exact rfl) (by exact rfl); k_whole; intro g' L' h' tk' cells' FG' F' N' Y' B' X' T' l1; (try k_lt l1); k_cells Y'; (try simp only [List.cons_append, List.nil_append] at N'); (try dsimp only); (try k_fold))
  k_with "eval ListComp" => (k_here; lcf_look; k_dflt (refine ListComp_Tp (by k_asm) (by with_unfolding_all rfl) (by decide) (by rfl) (by decide) (by rfl) ?_))
  k_with "CompRest" => (with_unfolding_all first | (refine LCg.CompRest.succ ?_; intro v' I' oI' C' oC' D' m' h' tk' E' hv' hC' hx' F' N' off' ne'; lcg_open hv') | refine LCg.CompRest.zero ?_)
  k_with "CompEnd" => ((with_reducible show LCg.CompEnd _ _ _ _ _ _ _ _ _ _ _ _ _ _); (k_dflt (refine' LCg.CompEnd.intro (by k_asm) (by k_asm) _ (by (intro p9 hp9; repeat (first | exact hp9 | refine List.mem_cons_of_mem _ ?_))) (by assumption) (by lcg_src) ?_)))
  k_with "mine" => ((with_reducible show TupSrc _ _ _ _ _ _ _ _ _ _ _ _ _ _); (k_dflt (refine' tupSrc_intro (by rfl) (by k_asm) (by k_asm) (by k_mem) (by first | size_fits | exact Nat.le_of_ble_eq_true rfl) ?_)); intro g'; (try lcg_lit))
  k_with "compareOp NotIn ref ref" => (k_here; (with_reducible show wpAny _ _ (compareOp CmpOp.NotIn (Value.ref _) (Value.ref _)) _ _ _); k_dflt (refine' one_notin (by k_asm) (by assumption) (by k_mem) (by assumption) (by k_mem) (by k_mem) (by first | decide | ktr_units | units_room) ?_))
  k_with "subscriptTail Attribute Name ref ref" => (k_here; (with_reducible show wpAny _ _ (subscriptTail _ _ (Value.ref _) (Value.ref _)) _ _ _); k_dflt (refine' one_item (by k_asm) (by k_mem) (by assumption) (by k_mem) (by k_mem) (by first | decide | ktr_units | units_room) ?_ (by with_unfolding_all rfl) (by intro _; with_unfolding_all rfl)))
  k_with "subscriptTail Name Name ref ref" => (k_here; (with_reducible show wpAny _ _ (subscriptTail _ _ (Value.ref _) (Value.ref _)) _ _ _); k_dflt (refine' one_item (by k_asm) (by k_mem) (by assumption) (by k_mem) (by k_mem) (by first | decide | ktr_units | units_room) ?_ (by with_unfolding_all rfl) (by intro _; with_unfolding_all rfl)))
  k_with "subscriptTail Attribute Name Name ref ref" => (k_here; (with_reducible show wpAny _ _ (subscriptTail _ _ (Value.ref _) (Value.ref _)) _ _ _); k_dflt (refine' one_item (by k_asm) (by k_mem) (by assumption) (by k_mem) (by k_mem) (by first | decide | ktr_units | units_room) ?_ (by with_unfolding_all rfl) (by intro _; with_unfolding_all rfl)))
  k_with "compareOp In ref ref" => (k_here; k_dflt (refine' in3N (by k_asm) (by k_mem) (by assumption) (fun q9 hq9 => by repeat (first | exact hq9 | refine List.mem_cons_of_mem _ ?_)) (by k_mem) (by exact ⟨by assumption, by assumption⟩) (by first | decide | ktr_units | units_room) ?_))
  k_with "call ref cons nil" => (k_here; (with_reducible show wpAny _ _ (call (Value.ref 117) _) _ _ _); k_dflt (refine' mterm_ok _ _ _ _ _ _ _ _ _ _ _ _ _ _ _ _ _ _ _ _ _ _ _ _ _ _ _ _ _ _ _ (by k_asm) (by k_asm) (by k_asm) (by k_asm) (by k_asm) (by first | rfl | assumption) (by first | decide | omega | ktr_room) (by first | decide | omega | ktr_units) (by k_mem) (GivenIs.mono (by assumption) (fun q9 hq9 => by repeat (first | exact hq9 | refine List.mem_cons_of_mem _ ?_))) ?_; intro h' tk' u' F' N'; (try k_sweep); (try dsimp only)))
  intro dp un gd cn cs a ccd cl outer A₀ base h₀ L m news s mo g nn l k fv Q E B F X N T hk hd hu hM hg hk3 hF hret
  cases hF with
  | atomx f1 f2 f3 =>
  obtain ⟨md, rd, fd, key, S, od, t1, t2, t3, t4, t5, t6, n, ep, led, hM⟩ := hM
  have m1 := hM.hmo
  have m2 := hM.hmd
  have m3 := hM.hrd
  have m4 := hM.hone
  have m5 := hM.hsys
  have m6 := hM.hkey
  have m7 := hM.hset
  have m8 := hM.hrows
  simp only [Sf.size] at hd hu
  refine wpAny_call ?_
  k_dflt (k_extra "enterC")
  clear F N
  k_extra "steps"
  rename Fr h₀ L _ _ => F9
  rename News h₀ L _ _ => N9
  refine q_of (hret _ _ F9 fun q hq => N9 q ?_) (by simp [Sf.ev, *])
  repeat (first | exact hq | refine List.mem_cons_of_mem _ ?_)
theorem holds_no (w : World) (p : Program) (loose : List Str) (mean : ExcName → Option Value) (mg mb : Str → Option Value) {f : Sf} (IH : HoldsX w p loose mean mg mb f) : HoldsX w p loose mean mg mb (.no f) := by
  unfold HoldsX
  k_fill
  k_with_none
  k_with "steps" => repeat' (first | (k_unfold; (try dsimp only)) | walk1 | (dsimp only; walk1) | (leave1; walk_say "STEP leave1"; try dsimp only) | k_extra "mine")
  k_with "spliced" => first | refine args_cons ?_ | refine args_nil ⟨Fr.keep (by assumption) _ _ (by assumption), ?_⟩ | (refine args_nil ?_; try simp only [List.cons_append, List.nil_append])
  k_with "call builtin:len cons nil" => (k_here; (with_reducible show wpAny _ _ (call (Value.builtin "len") [Value.ref _]) _ _ _); k_dflt (refine' lenL (by k_asm) (by k_mem) (by first | (with_reducible assumption) | (simp only [List.length_append, List.length_map, List.length_cons, List.length_nil]; with_reducible rfl)) (by omega) ?_))
  k_with "call ref cons nil" => (k_here; k_dflt (refine' call_cls (by k_asm) (by k_asm) (by k_asm) (by k_is) (by k_is) (by k_is) ?_; k_whole; intro x' d' h' F' N' l1 l2; (try k_lt l1); (try k_lt2 l2); (try k_sweep); walk_at "enter"))
  k_with "call builtin:list.append cons nil" => (k_here; (with_reducible show wpAny _ _ (call (Value.builtin "list.append") [Value.ref _, _]) _ _ _); k_dflt (refine' appendL (by k_asm) (by k_asm) (by k_upd) (by ((try simp only [List.length_append, List.length_map, List.length_cons, List.length_nil]); omega)) ?_; k_whole); intro h' F' N'; (try k_sweep))
  k_with "subscriptTail Attribute Name Attribute ref int" => (k_here; (with_reducible show wpAny _ _ (subscriptTail _ _ (Value.ref _) (Value.int _ _)) _ _ _); k_dflt (refine' itemL (by k_asm) (by with_reducible assumption) (by k_mem) (by with_reducible rfl) (by omega) ?_ (by with_unfolding_all rfl); k_whole))
  k_with "subscriptTail Subscript Attribute Attribute Constant ref int" => (k_here; (with_reducible show wpAny _ _ (subscriptTail _ _ (Value.ref _) (Value.int _ _)) _ _ _); k_dflt (refine' itemT (by k_asm) (by k_mem) (by decide) (by decide) (by rfl) (by rfl) ?_ (by with_unfolding_all rfl) (by intro _; with_unfolding_all rfl)))
  k_with "WhlIf" => first | (with_reducible refine WhlIf.no (by with_reducible assumption) ?_) | (with_reducible refine WhlIf.yes (by with_reducible assumption) ?_)
  k_with "exec While Compare cons nil" => (k_here; (with_reducible refine whl_start 100 ?_))
  k_with "subscriptTail Name Constant ref int" => (k_here; (with_reducible show wpAny _ _ (subscriptTail _ _ (Value.ref _) (Value.int _ _)) _ _ _); k_dflt (refine' itemT (by k_asm) (by k_mem) (by decide) (by decide) (by rfl) (by rfl) ?_ (by with_unfolding_all rfl) (by intro _; with_unfolding_all rfl)))
  k_with "enterC" => (refine' code_defC (by k_asm) (by k_asm) (by k_asm) (by k_asm) (by k_asm) (by exact rfl) (by exact rfl) (by assumption) (by k_is) (by k_is) (by ktr_room) (by first | exact BindsTo.of_eq rfl | exact binds_K (by k_in) rfl (by k_is) rfl rfl rfl) (by exact rfl) (by decide +kernel) ?_ (by exact rfl) (by exact rfl) (by exact rfl); k_whole; intro g' L' h' tk' cells' FG' F' N' Y' B' X' T' l1; (try k_lt l1); k_cells Y'; (try simp only [List.cons_append, List.nil_append] at N'); (try dsimp only); (try k_fold))
  k_with "call ref cons nil" => (k_here; (with_reducible show wpAny _ _ (call (Value.ref 123) _) _ _ _); k_dflt ((rename HoldsX _ _ _ _ _ _ _ => IH9); refine' IH9 _ _ _ _ _ _ _ _ _ _ _ _ _ _ _ _ _ _ _ _ _ _ _ _ (by k_asm) (by k_asm) (by k_asm) (by k_asm) (by k_asm) (by first | rfl | assumption) (by first | decide | omega | ktr_room) (by first | decide | omega | ktr_units) (Mdl.mono (by assumption) (fun q9 hq9 => by repeat (first | exact hq9 | refine List.mem_cons_of_mem _ ?_))) (GivenIs.mono (by assumption) (fun q9 hq9 => by repeat (first | exact hq9 | refine List.mem_cons_of_mem _ ?_))) (by exact ⟨by assumption, by assumption⟩) (FIs.mono (by assumption) (fun q9 hq9 => by repeat (first | exact hq9 | refine List.mem_cons_of_mem _ ?_))) ?_; intro h' tk' F' N'; (try k_sweep); (try dsimp only)))
  intro dp un gd cn cs a ccd cl outer A₀ base h₀ L m news s mo g nn l k fv Q E B F X N T hk hd hu hM hg hk3 hF hret
  cases hF with
  | no f1 f2 =>
  obtain ⟨hk0, hk9⟩ := hk3
  have hM0 := hM
  obtain ⟨md, rd, fd, key, S, od, t1, t2, t3, t4, t5, t6, n, ep, led, hM1⟩ := hM
  have m1 := hM1.hmo
  have m2 := hM1.hmd
  clear hM1
  simp only [Sf.size] at hd hu
  refine wpAny_call ?_
  k_dflt (k_extra "enterC")
  clear F N
  k_extra "steps"
  rename Fr h₀ L _ _ => F9
  rename News h₀ L _ _ => N9
  refine q_of (hret _ _ F9 fun q hq => N9 q ?_) (by simp [Sf.ev, *])
  repeat (first | exact hq | refine List.mem_cons_of_mem _ ?_)
theorem bound_all (w : World) (p : Program) (loose : List Str) (mean : ExcName → Option Value) (mg mb : Str → Option Value) {f : Sf} (IH : HoldsX w p loose mean mg mb f) :
    ∀ (dp un : Nat) (gd : Option (List Code)) (cn : Str) (cs : Scope) (a : Addr) (ccd : Value) (cl : List (Str × Addr)) (outer : List Env) (A₀ : Around) (base h₀ : Heap) (L : Addr) (m : Str → Option Value) (news : List (Addr × Obj)) (s : Shared) (mo g : Addr) (nn : Nat) (l : List (Int × Addr)) (fv : Value) (Q E : Value → Shared → Prop),
      Below A₀ base outer h₀ → Fr h₀ L s.heap m → (K06 w.params).In h₀ → News h₀ L s.heap news → Top p loose mean mg mb h₀ → cs.kind = .function → dp + 60 + 2 * f.size < recursionLimit → un + 340 + 8 * f.size < cLine →
      Mdl w news mo (nn : Int) l → nn ≤ 3 → GivenIs PySem.Challenge.rw_ui0505_06.row.prog w news g [] → FIs news fv (.all f) →
      (∀ h' tk', Fr h₀ L h' m → News h₀ L h' news → Q (.bool ((List.range nn).all fun i => f.ev (l.map (·.1)) (i : Int))) { s with heap := h', toks := tk' }) →
      wpAny (model PySem.Challenge.rw_ui0505_06.row.prog w) (ktrTop dp un gd cn cs L a ccd cl outer) (call (.ref 130) [.ref mo, fv, .ref g]) Q E s := by
  k_fill
  k_with_none
  k_with "steps" => repeat' (first | (k_unfold; (try dsimp only)) | walk1 | (dsimp only; walk1) | (leave1; walk_say "STEP leave1"; try dsimp only) | k_extra "mine")
  k_with "spliced" => first | refine args_cons ?_ | refine args_nil ⟨Fr.keep (by assumption) _ _ (by assumption), ?_⟩ | (refine args_nil ?_; try simp only [List.cons_append, List.nil_append])
  k_with "call builtin:len cons nil" => (k_here; (with_reducible show wpAny _ _ (call (Value.builtin "len") [Value.ref _]) _ _ _); k_dflt (refine' lenL (by k_asm) (by k_mem) (by first | (with_reducible assumption) | (simp only [List.length_append, List.length_map, List.length_cons, List.length_nil]; with_reducible rfl)) (by omega) ?_))
  k_with "call ref cons nil" => (k_here; k_dflt (refine' call_cls (by k_asm) (by k_asm) (by k_asm) (by k_is) (by k_is) (by k_is) ?_; k_whole; intro x' d' h' F' N' l1 l2; (try k_lt l1); (try k_lt2 l2); (try k_sweep); walk_at "enter"))
  k_with "call builtin:list.append cons nil" => (k_here; (with_reducible show wpAny _ _ (call (Value.builtin "list.append") [Value.ref _, _]) _ _ _); k_dflt (refine' appendL (by k_asm) (by k_asm) (by k_upd) (by ((try simp only [List.length_append, List.length_map, List.length_cons, List.length_nil]); omega)) ?_; k_whole); intro h' F' N'; (try k_sweep))
  k_with "subscriptTail Attribute Name Attribute ref int" => (k_here; (with_reducible show wpAny _ _ (subscriptTail _ _ (Value.ref _) (Value.int _ _)) _ _ _); k_dflt (refine' itemL (by k_asm) (by with_reducible assumption) (by k_mem) (by with_reducible rfl) (by omega) ?_ (by with_unfolding_all rfl); k_whole))
  k_with "subscriptTail Subscript Attribute Attribute Constant ref int" => (k_here; (with_reducible show wpAny _ _ (subscriptTail _ _ (Value.ref _) (Value.int _ _)) _ _ _); k_dflt (refine' itemT (by k_asm) (by k_mem) (by decide) (by decide) (by rfl) (by rfl) ?_ (by with_unfolding_all rfl) (by intro _; with_unfolding_all rfl)))
  k_with "WhlIf" => first | (with_reducible refine WhlIf.no (by with_reducible assumption) ?_) | (with_reducible refine WhlIf.yes (by with_reducible assumption) ?_)
  k_with "exec While Compare cons nil" => (k_here; (with_reducible refine whl_start 100 ?_))
  k_with "subscriptTail Name Constant ref int" => (k_here; (with_reducible show wpAny _ _ (subscriptTail _ _ (Value.ref _) (Value.int _ _)) _ _ _); k_dflt (refine' itemT (by k_asm) (by k_mem) (by decide) (by decide) (by rfl) (by rfl) ?_ (by with_unfolding_all rfl) (by intro _; with_unfolding_all rfl)))
  k_with "call type:dict cons nil" => (k_here; k_dflt (refine' emp_copyK (by k_asm) (by k_asm) (by exact Top.nolimit (by k_asm)) (GivenIs.mono (by assumption) (fun q9 hq9 => by repeat (first | exact hq9 | refine List.mem_cons_of_mem _ ?_))) ?_); intro d' h' F' N' l1 ls'; (try k_lt l1))
  k_with "exec For Name Call cons nil" => (k_here; (rename Fr _ _ _ _ => lF'); (with_unfolding_all refine' For_invVF lF' (by exact rfl) (by exact rfl) ?_ (by exact fun _ => rfl) (by first | passes_own | with_unfolding_all passes_own)); k_whole)
  k_with "pyIter ref" => (k_here; with_reducible refine halt ?_)
  k_with "setItem ref str" => (k_here; k_dflt (refine' gv_set (by k_asm) (by k_asm) (by k_updF) (by assumption) (by assumption) ?_); intro h' o' F' N' hg'; (try dsimp only at N'); (try k_sweep))
  k_with "call ref cons nil" => (k_here; (with_reducible show wpAny _ _ (call (Value.ref 123) _) _ _ _); k_dflt ((rename HoldsX _ _ _ _ _ _ _ => IH9); refine' IH9 _ _ _ _ _ _ _ _ _ _ _ _ _ _ _ _ _ _ _ _ _ _ _ _ (by k_asm) (by k_asm) (by k_asm) (by k_asm) (by k_asm) (by first | rfl | assumption) (by first | decide | omega | ktr_room) (by first | decide | omega | ktr_units) (Mdl.mono (by assumption) (fun q9 hq9 => by repeat (first | exact hq9 | refine List.mem_cons_of_mem _ ?_))) (by exact ⟨_, by assumption, by k_mem, by assumption⟩) (by exact ⟨by assumption, by assumption⟩) (FIs.mono (by assumption) (fun q9 hq9 => by repeat (first | exact hq9 | refine List.mem_cons_of_mem _ ?_))) ?_; intro h' tk' F' N'; (try k_sweep); (try rw [hb9]); (try dsimp only)))
  intro dp un gd cn cs a ccd cl outer A₀ base h₀ L m news s mo g nn l fv Q E B F X N T hk hd hu hM hnn hg hF hret
  cases hF with
  | all f1 f2 =>
  have hM0 := hM
  obtain ⟨md, rd, fd, key, S, od, t1, t2, t3, t4, t5, t6, n, ep, led, hM1⟩ := hM
  have m1 := hM1.hmo
  have m2 := hM1.hmd
  clear hM1
  refine wpAny_call ?_
  k_dflt (walk_at "enter")
  k_extra "steps"
  rename IsRange _ _ _ _ _ _ _ _ => R1
  rename News _ _ _ _ => N1
  rename Fr _ _ _ _ => F1
  unfold Halt
  refine rng_iter (x := Str.ofString "thing") (fun i m' nx => (∃ ov, m' = upm (Str.ofString "thing") ov _) ∧ ∃ o c, nx = (d', o) :: news ∧ GivenC PySem.Challenge.rw_ui0505_06.row.prog w o c ∧ (c = [] ∨ ∃ k0, c = xIs k0) ∧ ∀ j : Nat, j < i → f.ev (l.map (·.1)) (j : Int) = true) (by exact rfl) R1 (by omega) F1 N1 ⟨⟨_, (upm_self _ _).symm⟩, emptyD, [], rfl, gv_empty, .inl rfl, fun j hj => absurd hj (Nat.not_lt_zero j)⟩ ?turn ?done
  case turn =>
    clear F1 N1 R1 F N
    rintro i m₁ news₁ h tk own t hi hoff ⟨⟨ov, rfl⟩, o, c, rfl, hgc, hc, hev⟩ F2 N2
    rw [upm_upm] at F2
    have hdl : ∀ q ∈ news, q.1 ≠ d' := allLt_ne l1
    have had : ∀ q ∈ news ++ own, q.1 ≠ d' := fun q hq => (List.mem_append.mp hq).elim (hdl q) fun h e => hoff q h (d', o) List.mem_cons_self e
    replace N2 : News _ _ h ((d', o) :: (news ++ own)) := N2
    have hF2 : FIs (news ++ own) _ f := f2.mono fun q hq => List.mem_append_left _ hq
    have hM2 := hM0.mono (news' := news ++ own) fun q hq => List.mem_append_left _ hq
    have m3 : (mo, instObj 147 md) ∈ news ++ own := List.mem_append_left _ m1
    have m4 := List.mem_append_left own m2
    have f3 := List.mem_append_left own f1
    have hi0 : (0 : Int) ≤ (i : Int) := by omega
    have hi3 : (i : Int) < 3 := by omega
    cases hb9 : f.ev (l.map (·.1)) (i : Int) with
    | true =>
      k_extra "steps"
      rename Fr _ _ _ _ => F9
      rename News _ _ _ _ => N9
      refine ⟨_, _, _, _, (d', o') :: news, rfl, F9, N9, fun q hq => ?_, fun q hq => List.mem_cons_of_mem _ (List.mem_append_right _ hq), fun p hp q hq => ?_, ⟨_, rfl⟩, o', xIs i, rfl, by assumption, .inr ⟨_, rfl⟩, fun j hj => ?_⟩
      · rcases List.mem_cons.mp hq with rfl | hq
        · exact List.mem_cons_self
        · exact List.mem_cons_of_mem _ (List.mem_append_left _ hq)
      · rcases List.mem_cons.mp hq with rfl | hq
        · exact hoff p hp (d', o) List.mem_cons_self
        · exact hoff p hp q (List.mem_cons_of_mem _ hq)
      · rcases Nat.lt_succ_iff_lt_or_eq.mp hj with hj | rfl
        · exact hev j hj
        · exact hb9
    | false =>
      k_extra "steps"
      unfold RngEnd
      k_extra "steps"
      rename Fr h₀ L _ _ => F9
      rename News h₀ L _ _ => N9
      refine q_of (hret _ _ F9 fun q hq => N9 q (List.mem_cons_of_mem _ (List.mem_append_left _ hq))) ?_
      congr 1
      rw [show (Str.ofString "all" == Str.ofString "some") = false by decide, List.all_eq_false]
      exact ⟨i, List.mem_range.mpr hi, by simp [hb9]⟩
  case done =>
    clear F1 N1 R1 F N
    rintro m₁ news₁ h tk ⟨⟨ov, rfl⟩, o, c, rfl, hgc, hc, hev⟩ F2 N2
    k_extra "steps"
    rename Fr h₀ L _ _ => F9
    rename News h₀ L _ _ => N9
    refine q_of (hret _ _ F9 fun q hq => N9 q (List.mem_cons_of_mem _ hq)) ?_
    congr 1
    rw [show (Str.ofString "all" == Str.ofString "all") = true by decide, List.all_eq_true]
    intro j hj
    exact hev j (List.mem_range.mp hj)
theorem bound_some (w : World) (p : Program) (loose : List Str) (mean : ExcName → Option Value) (mg mb : Str → Option Value) {f : Sf} (IH : HoldsX w p loose mean mg mb f) :
    ∀ (dp un : Nat) (gd : Option (List Code)) (cn : Str) (cs : Scope) (a : Addr) (ccd : Value) (cl : List (Str × Addr)) (outer : List Env) (A₀ : Around) (base h₀ : Heap) (L : Addr) (m : Str → Option Value) (news : List (Addr × Obj)) (s : Shared) (mo g : Addr) (nn : Nat) (l : List (Int × Addr)) (fv : Value) (Q E : Value → Shared → Prop),
      Below A₀ base outer h₀ → Fr h₀ L s.heap m → (K06 w.params).In h₀ → News h₀ L s.heap news → Top p loose mean mg mb h₀ → cs.kind = .function → dp + 60 + 2 * f.size < recursionLimit → un + 340 + 8 * f.size < cLine →
      Mdl w news mo (nn : Int) l → nn ≤ 3 → GivenIs PySem.Challenge.rw_ui0505_06.row.prog w news g [] → FIs news fv (.some f) →
      (∀ h' tk', Fr h₀ L h' m → News h₀ L h' news → Q (.bool ((List.range nn).any fun i => f.ev (l.map (·.1)) (i : Int))) { s with heap := h', toks := tk' }) →
      wpAny (model PySem.Challenge.rw_ui0505_06.row.prog w) (ktrTop dp un gd cn cs L a ccd cl outer) (call (.ref 130) [.ref mo, fv, .ref g]) Q E s := by
  k_fill
  k_with_none
  k_with "steps" => repeat' (first | (k_unfold; (try dsimp only)) | walk1 | (dsimp only; walk1) | (leave1; walk_say "STEP leave1"; try dsimp only) | k_extra "mine")
  k_with "spliced" => first | refine args_cons ?_ | refine args_nil ⟨Fr.keep (by assumption) _ _ (by assumption), ?_⟩ | (refine args_nil ?_; try simp only [List.cons_append, List.nil_append])
  k_with "call builtin:len cons nil" => (k_here; (with_reducible show wpAny _ _ (call (Value.builtin "len") [Value.ref _]) _ _ _); k_dflt (refine' lenL (by k_asm) (by k_mem) (by first | (with_reducible assumption) | (simp only [List.length_append, List.length_map, List.length_cons, List.length_nil]; with_reducible rfl)) (by omega) ?_))
  k_with "call ref cons nil" => (k_here; k_dflt (refine' call_cls (by k_asm) (by k_asm) (by k_asm) (by k_is) (by k_is) (by k_is) ?_; k_whole; intro x' d' h' F' N' l1 l2; (try k_lt l1); (try k_lt2 l2); (try k_sweep); walk_at "enter"))
  k_with "call builtin:list.append cons nil" => (k_here; (with_reducible show wpAny _ _ (call (Value.builtin "list.append") [Value.ref _, _]) _ _ _); k_dflt (refine' appendL (by k_asm) (by k_asm) (by k_upd) (by ((try simp only [List.length_append, List.length_map, List.length_cons, List.length_nil]); omega)) ?_; k_whole); intro h' F' N'; (try k_sweep))
  k_with "subscriptTail Attribute Name Attribute ref int" => (k_here; (with_reducible show wpAny _ _ (subscriptTail _ _ (Value.ref _) (Value.int _ _)) _ _ _); k_dflt (refine' itemL (by k_asm) (by with_reducible assumption) (by k_mem) (by with_reducible rfl) (by omega) ?_ (by with_unfolding_all rfl); k_whole))
  k_with "subscriptTail Subscript Attribute Attribute Constant ref int" => (k_here; (with_reducible show wpAny _ _ (subscriptTail _ _ (Value.ref _) (Value.int _ _)) _ _ _); k_dflt (refine' itemT (by k_asm) (by k_mem) (by decide) (by decide) (by rfl) (by rfl) ?_ (by with_unfolding_all rfl) (by intro _; with_unfolding_all rfl)))
  k_with "WhlIf" => first | (with_reducible refine WhlIf.no (by with_reducible assumption) ?_) | (with_reducible refine WhlIf.yes (by with_reducible assumption) ?_)
  k_with "exec While Compare cons nil" => (k_here; (with_reducible refine whl_start 100 ?_))
  k_with "subscriptTail Name Constant ref int" => (k_here; (with_reducible show wpAny _ _ (subscriptTail _ _ (Value.ref _) (Value.int _ _)) _ _ _); k_dflt (refine' itemT (by k_asm) (by k_mem) (by decide) (by decide) (by rfl) (by rfl) ?_ (by with_unfolding_all rfl) (by intro _; with_unfolding_all rfl)))
  k_with "call type:dict cons nil" => (k_here; k_dflt (refine' emp_copyK (by k_asm) (by k_asm) (by exact Top.nolimit (by k_asm)) (GivenIs.mono (by assumption) (fun q9 hq9 => by repeat (first | exact hq9 | refine List.mem_cons_of_mem _ ?_))) ?_); intro d' h' F' N' l1 ls'; (try k_lt l1))
  k_with "exec For Name Call cons nil" => (k_here; (rename Fr _ _ _ _ => lF'); (with_unfolding_all refine' For_invVF lF' (by exact rfl) (by exact rfl) ?_ (by exact fun _ => rfl) (by first | passes_own | with_unfolding_all passes_own)); k_whole)
  k_with "pyIter ref" => (k_here; with_reducible refine halt ?_)
  k_with "setItem ref str" => (k_here; k_dflt (refine' gv_set (by k_asm) (by k_asm) (by k_updF) (by assumption) (by assumption) ?_); intro h' o' F' N' hg'; (try dsimp only at N'); (try k_sweep))
  k_with "call ref cons nil" => (k_here; (with_reducible show wpAny _ _ (call (Value.ref 123) _) _ _ _); k_dflt ((rename HoldsX _ _ _ _ _ _ _ => IH9); refine' IH9 _ _ _ _ _ _ _ _ _ _ _ _ _ _ _ _ _ _ _ _ _ _ _ _ (by k_asm) (by k_asm) (by k_asm) (by k_asm) (by k_asm) (by first | rfl | assumption) (by first | decide | omega | ktr_room) (by first | decide | omega | ktr_units) (Mdl.mono (by assumption) (fun q9 hq9 => by repeat (first | exact hq9 | refine List.mem_cons_of_mem _ ?_))) (by exact ⟨_, by assumption, by k_mem, by assumption⟩) (by exact ⟨by assumption, by assumption⟩) (FIs.mono (by assumption) (fun q9 hq9 => by repeat (first | exact hq9 | refine List.mem_cons_of_mem _ ?_))) ?_; intro h' tk' F' N'; (try k_sweep); (try rw [hb9]); (try dsimp only)))
  intro dp un gd cn cs a ccd cl outer A₀ base h₀ L m news s mo g nn l fv Q E B F X N T hk hd hu hM hnn hg hF hret
  cases hF with
  | some f1 f2 =>
  have hM0 := hM
  obtain ⟨md, rd, fd, key, S, od, t1, t2, t3, t4, t5, t6, n, ep, led, hM1⟩ := hM
  have m1 := hM1.hmo
  have m2 := hM1.hmd
  clear hM1
  refine wpAny_call ?_
  k_dflt (walk_at "enter")
  k_extra "steps"
  rename IsRange _ _ _ _ _ _ _ _ => R1
  rename News _ _ _ _ => N1
  rename Fr _ _ _ _ => F1
  unfold Halt
  refine rng_iter (x := Str.ofString "thing") (fun i m' nx => (∃ ov, m' = upm (Str.ofString "thing") ov _) ∧ ∃ o c, nx = (d', o) :: news ∧ GivenC PySem.Challenge.rw_ui0505_06.row.prog w o c ∧ (c = [] ∨ ∃ k0, c = xIs k0) ∧ ∀ j : Nat, j < i → f.ev (l.map (·.1)) (j : Int) = false) (by exact rfl) R1 (by omega) F1 N1 ⟨⟨_, (upm_self _ _).symm⟩, emptyD, [], rfl, gv_empty, .inl rfl, fun j hj => absurd hj (Nat.not_lt_zero j)⟩ ?turn ?done
  case turn =>
    clear F1 N1 R1 F N
    rintro i m₁ news₁ h tk own t hi hoff ⟨⟨ov, rfl⟩, o, c, rfl, hgc, hc, hev⟩ F2 N2
    rw [upm_upm] at F2
    have hdl : ∀ q ∈ news, q.1 ≠ d' := allLt_ne l1
    have had : ∀ q ∈ news ++ own, q.1 ≠ d' := fun q hq => (List.mem_append.mp hq).elim (hdl q) fun h e => hoff q h (d', o) List.mem_cons_self e
    replace N2 : News _ _ h ((d', o) :: (news ++ own)) := N2
    have hF2 : FIs (news ++ own) _ f := f2.mono fun q hq => List.mem_append_left _ hq
    have hM2 := hM0.mono (news' := news ++ own) fun q hq => List.mem_append_left _ hq
    have m3 : (mo, instObj 147 md) ∈ news ++ own := List.mem_append_left _ m1
    have m4 := List.mem_append_left own m2
    have f3 := List.mem_append_left own f1
    have hi0 : (0 : Int) ≤ (i : Int) := by omega
    have hi3 : (i : Int) < 3 := by omega
    cases hb9 : f.ev (l.map (·.1)) (i : Int) with
    | false =>
      k_extra "steps"
      rename Fr _ _ _ _ => F9
      rename News _ _ _ _ => N9
      refine ⟨_, _, _, _, (d', o') :: news, rfl, F9, N9, fun q hq => ?_, fun q hq => List.mem_cons_of_mem _ (List.mem_append_right _ hq), fun p hp q hq => ?_, ⟨_, rfl⟩, o', xIs i, rfl, by assumption, .inr ⟨_, rfl⟩, fun j hj => ?_⟩
      · rcases List.mem_cons.mp hq with rfl | hq
        · exact List.mem_cons_self
        · exact List.mem_cons_of_mem _ (List.mem_append_left _ hq)
      · rcases List.mem_cons.mp hq with rfl | hq
        · exact hoff p hp (d', o) List.mem_cons_self
        · exact hoff p hp q (List.mem_cons_of_mem _ hq)
      · rcases Nat.lt_succ_iff_lt_or_eq.mp hj with hj | rfl
        · exact hev j hj
        · exact hb9
    | true =>
      k_extra "steps"
      unfold RngEnd
      k_extra "steps"
      rename Fr h₀ L _ _ => F9
      rename News h₀ L _ _ => N9
      refine q_of (hret _ _ F9 fun q hq => N9 q (List.mem_cons_of_mem _ (List.mem_append_left _ hq))) ?_
      congr 1
      rw [show (Str.ofString "some" == Str.ofString "some") = true by decide, List.any_eq_true]
      exact ⟨i, List.mem_range.mpr hi, by simp [hb9]⟩
  case done =>
    clear F1 N1 R1 F N
    rintro m₁ news₁ h tk ⟨⟨ov, rfl⟩, o, c, rfl, hgc, hc, hev⟩ F2 N2
    k_extra "steps"
    rename Fr h₀ L _ _ => F9
    rename News h₀ L _ _ => N9
    refine q_of (hret _ _ F9 fun q hq => N9 q (List.mem_cons_of_mem _ hq)) ?_
    congr 1
    rw [show (Str.ofString "some" == Str.ofString "all") = false by decide, List.any_eq_false]
    intro j hj
    exact Bool.not_eq_true _ ▸ hev j (List.mem_range.mp hj)
/-- what a closed formula says -/
def Sf.evB (l : List Int) (nn : Nat) : Sf → Bool
  | atom => false
  | atomx => false
  | no f => !f.evB l nn
  | all f => (List.range nn).all fun i => f.ev l (i : Int)
  | some f => (List.range nn).any fun i => f.ev l (i : Int)
  | par f => f.evB l nn
  | imp f g => !f.evB l nn || g.evB l nn
/-- holds of a closed formula -/
def HoldsB (w : World) (p : Program) (loose : List Str) (mean : ExcName → Option Value) (mg mb : Str → Option Value) (f : Sf) : Prop :=
    ∀ (dp un : Nat) (gd : Option (List Code)) (cn : Str) (cs : Scope) (a : Addr) (ccd : Value) (cl : List (Str × Addr)) (outer : List Env) (A₀ : Around) (base h₀ : Heap) (L : Addr) (m : Str → Option Value) (news : List (Addr × Obj)) (s : Shared) (mo : Addr) (nn : Nat) (l : List (Int × Addr)) (fv : Value) (args : List Value) (Q E : Value → Shared → Prop),
      Below A₀ base outer h₀ → Fr h₀ L s.heap m → (K06 w.params).In h₀ → News h₀ L s.heap news → Top p loose mean mg mb h₀ → cs.kind = .function → dp + 70 + 2 * f.size < recursionLimit → un + 380 + 8 * f.size < cLine →
      Mdl w news mo (nn : Int) l → nn ≤ 3 → (args = [.ref mo, fv] ∨ ∃ g, args = [.ref mo, fv, .ref g] ∧ GivenIs PySem.Challenge.rw_ui0505_06.row.prog w news g []) → FIs news fv f →
      (∀ h' tk', Fr h₀ L h' m → News h₀ L h' news → Q (.bool (f.evB (l.map (·.1)) nn)) { s with heap := h', toks := tk' }) →
      wpAny (model PySem.Challenge.rw_ui0505_06.row.prog w) (ktrTop dp un gd cn cs L a ccd cl outer) (call (.ref 123) args) Q E s
theorem hB_par (w : World) (p : Program) (loose : List Str) (mean : ExcName → Option Value) (mg mb : Str → Option Value) {f : Sf} (IH : HoldsB w p loose mean mg mb f) : HoldsB w p loose mean mg mb (.par f) := by
  unfold HoldsB at *
  intro dp un gd cn cs a ccd cl outer A₀ base h₀ L m news s mo nn l fv args Q E B F X N T hk hd hu hM hnn ha hF hret
  cases hF with
  | par hF => exact IH dp un gd cn cs a ccd cl outer A₀ base h₀ L m news s mo nn l fv args Q E B F X N T hk (by simp only [Sf.size] at hd; omega) (by simp only [Sf.size] at hu; omega) hM hnn ha hF hret
theorem hB_all (w : World) (p : Program) (loose : List Str) (mean : ExcName → Option Value) (mg mb : Str → Option Value) {f : Sf} (IH : HoldsX w p loose mean mg mb f) : HoldsB w p loose mean mg mb (.all f) := by
  unfold HoldsB
  k_fill
  k_with_none
  k_with "steps" => repeat' (first | (k_unfold; (try dsimp only)) | walk1 | (dsimp only; walk1) | (leave1; walk_say "STEP leave1"; try dsimp only) | k_extra "mine")
  k_with "spliced" => first | refine args_cons ?_ | refine args_nil ⟨Fr.keep (by assumption) _ _ (by assumption), ?_⟩ | (refine args_nil ?_; try simp only [List.cons_append, List.nil_append])
  k_with "call builtin:len cons nil" => (k_here; (with_reducible show wpAny _ _ (call (Value.builtin "len") [Value.ref _]) _ _ _); k_dflt (refine' lenL (by k_asm) (by k_mem) (by first | (with_reducible assumption) | (simp only [List.length_append, List.length_map, List.length_cons, List.length_nil]; with_reducible rfl)) (by omega) ?_))
  k_with "call ref cons nil" => (k_here; k_dflt (refine' call_cls (by k_asm) (by k_asm) (by k_asm) (by k_is) (by k_is) (by k_is) ?_; k_whole; intro x' d' h' F' N' l1 l2; (try k_lt l1); (try k_lt2 l2); (try k_sweep); walk_at "enter"))
  k_with "call builtin:list.append cons nil" => (k_here; (with_reducible show wpAny _ _ (call (Value.builtin "list.append") [Value.ref _, _]) _ _ _); k_dflt (refine' appendL (by k_asm) (by k_asm) (by k_upd) (by ((try simp only [List.length_append, List.length_map, List.length_cons, List.length_nil]); omega)) ?_; k_whole); intro h' F' N'; (try k_sweep))
  k_with "subscriptTail Attribute Name Attribute ref int" => (k_here; (with_reducible show wpAny _ _ (subscriptTail _ _ (Value.ref _) (Value.int _ _)) _ _ _); k_dflt (refine' itemL (by k_asm) (by with_reducible assumption) (by k_mem) (by with_reducible rfl) (by omega) ?_ (by with_unfolding_all rfl); k_whole))
  k_with "subscriptTail Subscript Attribute Attribute Constant ref int" => (k_here; (with_reducible show wpAny _ _ (subscriptTail _ _ (Value.ref _) (Value.int _ _)) _ _ _); k_dflt (refine' itemT (by k_asm) (by k_mem) (by decide) (by decide) (by rfl) (by rfl) ?_ (by with_unfolding_all rfl) (by intro _; with_unfolding_all rfl)))
  k_with "WhlIf" => first | (with_reducible refine WhlIf.no (by with_reducible assumption) ?_) | (with_reducible refine WhlIf.yes (by with_reducible assumption) ?_)
  k_with "exec While Compare cons nil" => (k_here; (with_reducible refine whl_start 100 ?_))
  k_with "subscriptTail Name Constant ref int" => (k_here; (with_reducible show wpAny _ _ (subscriptTail _ _ (Value.ref _) (Value.int _ _)) _ _ _); k_dflt (refine' itemT (by k_asm) (by k_mem) (by decide) (by decide) (by rfl) (by rfl) ?_ (by with_unfolding_all rfl) (by intro _; with_unfolding_all rfl)))
  k_with "enterC" => (refine' code_defC (by k_asm) (by k_asm) (by k_asm) (by k_asm) (by k_asm) (by exact rfl) (by exact rfl) (by assumption) (by k_is) (by k_is) (by ktr_room) (by first | exact BindsTo.of_eq rfl | exact binds_K (by k_in) rfl (by k_is) rfl rfl rfl) (by exact rfl) (by decide +kernel) ?_ (by exact rfl) (by exact rfl) (by exact rfl); k_whole; intro g' L' h' tk' cells' FG' F' N' Y' B' X' T' l1; (try k_lt l1); k_cells Y'; (try simp only [List.cons_append, List.nil_append] at N'); (try dsimp only); (try k_fold))
  k_with "call ref cons nil" => (k_here; (with_reducible show wpAny _ _ (call (Value.ref 130) _) _ _ _); k_dflt (refine' bound_all _ _ _ _ _ _ IH _ _ _ _ _ _ _ _ _ _ _ _ _ _ _ _ _ _ _ _ _ _ _ (by k_asm) (by k_asm) (by k_asm) (by k_asm) (by k_asm) (by first | rfl | assumption) (by first | decide | omega | ktr_room) (by first | decide | omega | ktr_units) (Mdl.mono (by assumption) (fun q9 hq9 => by repeat (first | exact hq9 | refine List.mem_cons_of_mem _ ?_))) (by assumption) (by first | exact GivenIs.mono (by assumption) (fun q9 hq9 => by repeat (first | exact hq9 | refine List.mem_cons_of_mem _ ?_)) | exact ⟨_, by assumption, by k_mem, _, by assumption, by assumption⟩) (FIs.mono (by assumption) (fun q9 hq9 => by repeat (first | exact hq9 | refine List.mem_cons_of_mem _ ?_))) ?_; intro h' tk' F' N'; (try k_sweep); (try dsimp only)))
  intro dp un gd cn cs a ccd cl outer A₀ base h₀ L m news s mo nn l fv args Q E B F X N T hk hd hu hM hnn ha hF hret
  have hF0 := hF
  cases hF with
  | all f1 f2 =>
  have hM0 := hM
  obtain ⟨md, rd, fd, key, S, od, t1, t2, t3, t4, t5, t6, n, ep, led, hM1⟩ := hM
  have m1 := hM1.hmo
  have m2 := hM1.hmd
  clear hM1
  simp only [Sf.size] at hd hu
  rcases ha with rfl | ⟨g, rfl, hg⟩
  all_goals (
    refine wpAny_call ?_
    k_dflt (k_extra "enterC")
    clear F N
    have ac9 : ∀ q ∈ news, q.1 ≠ L' + 1 + 1 := allLt_ne2 l1 (by show @LT.lt Nat _ L' (L' + 1 + 1); omega)
    k_extra "steps"
    rename Fr h₀ L _ _ => F9
    rename News h₀ L _ _ => N9
    refine hret _ _ F9 fun q hq => N9 q ?_
    repeat (first | exact hq | refine List.mem_cons_of_mem _ ?_))
theorem hB_some (w : World) (p : Program) (loose : List Str) (mean : ExcName → Option Value) (mg mb : Str → Option Value) {f : Sf} (IH : HoldsX w p loose mean mg mb f) : HoldsB w p loose mean mg mb (.some f) := by
  unfold HoldsB
  k_fill
  k_with_none
  k_with "steps" => repeat' (first | (k_unfold; (try dsimp only)) | walk1 | (dsimp only; walk1) | (leave1; walk_say "STEP leave1"; try dsimp only) | k_extra "mine")
  k_with "spliced" => first | refine args_cons ?_ | refine args_nil ⟨Fr.keep (by assumption) _ _ (by assumption), ?_⟩ | (refine args_nil ?_; try simp only [List.cons_append, List.nil_append])
  k_with "call builtin:len cons nil" => (k_here; (with_reducible show wpAny _ _ (call (Value.builtin "len") [Value.ref _]) _ _ _); k_dflt (refine' lenL (by k_asm) (by k_mem) (by first | (with_reducible assumption) | (simp only [List.length_append, List.length_map, List.length_cons, List.length_nil]; with_reducible rfl)) (by omega) ?_))
  k_with "call ref cons nil" => (k_here; k_dflt (refine' call_cls (by k_asm) (by k_asm) (by k_asm) (by k_is) (by k_is) (by k_is) ?_; k_whole; intro x' d' h' F' N' l1 l2; (try k_lt l1); (try k_lt2 l2); (try k_sweep); walk_at "enter"))
  k_with "call builtin:list.append cons nil" => (k_here; (with_reducible show wpAny _ _ (call (Value.builtin "list.append") [Value.ref _, _]) _ _ _); k_dflt (refine' appendL (by k_asm) (by k_asm) (by k_upd) (by ((try simp only [List.length_append, List.length_map, List.length_cons, List.length_nil]); omega)) ?_; k_whole); intro h' F' N'; (try k_sweep))
  k_with "subscriptTail Attribute Name Attribute ref int" => (k_here; (with_reducible show wpAny _ _ (subscriptTail _ _ (Value.ref _) (Value.int _ _)) _ _ _); k_dflt (refine' itemL (by k_asm) (by with_reducible assumption) (by k_mem) (by with_reducible rfl) (by omega) ?_ (by with_unfolding_all rfl); k_whole))
  k_with "subscriptTail Subscript Attribute Attribute Constant ref int" => (k_here; (with_reducible show wpAny _ _ (subscriptTail _ _ (Value.ref _) (Value.int _ _)) _ _ _); k_dflt (refine' itemT (by k_asm) (by k_mem) (by decide) (by decide) (by rfl) (by rfl) ?_ (by with_unfolding_all rfl) (by intro _; with_unfolding_all rfl)))
  k_with "WhlIf" => first | (with_reducible refine WhlIf.no (by with_reducible assumption) ?_) | (with_reducible refine WhlIf.yes (by with_reducible assumption) ?_)
  k_with "exec While Compare cons nil" => (k_here; (with_reducible refine whl_start 100 ?_))
  k_with "subscriptTail Name Constant ref int" => (k_here; (with_reducible show wpAny _ _ (subscriptTail _ _ (Value.ref _) (Value.int _ _)) _ _ _); k_dflt (refine' itemT (by k_asm) (by k_mem) (by decide) (by decide) (by rfl) (by rfl) ?_ (by with_unfolding_all rfl) (by intro _; with_unfolding_all rfl)))
  k_with "enterC" => (refine' code_defC (by k_asm) (by k_asm) (by k_asm) (by k_asm) (by k_asm) (by exact rfl) (by exact rfl) (by assumption) (by k_is) (by k_is) (by ktr_room) (by first | exact BindsTo.of_eq rfl | exact binds_K (by k_in) rfl (by k_is) rfl rfl rfl) (by exact rfl) (by decide +kernel) ?_ (by exact rfl) (by exact rfl) (by exact rfl); k_whole; intro g' L' h' tk' cells' FG' F' N' Y' B' X' T' l1; (try k_lt l1); k_cells Y'; (try simp only [List.cons_append, List.nil_append] at N'); (try dsimp only); (try k_fold))
  k_with "call ref cons nil" => (k_here; (with_reducible show wpAny _ _ (call (Value.ref 130) _) _ _ _); k_dflt (refine' bound_some _ _ _ _ _ _ IH _ _ _ _ _ _ _ _ _ _ _ _ _ _ _ _ _ _ _ _ _ _ _ (by k_asm) (by k_asm) (by k_asm) (by k_asm) (by k_asm) (by first | rfl | assumption) (by first | decide | omega | ktr_room) (by first | decide | omega | ktr_units) (Mdl.mono (by assumption) (fun q9 hq9 => by repeat (first | exact hq9 | refine List.mem_cons_of_mem _ ?_))) (by assumption) (by first | exact GivenIs.mono (by assumption) (fun q9 hq9 => by repeat (first | exact hq9 | refine List.mem_cons_of_mem _ ?_)) | exact ⟨_, by assumption, by k_mem, _, by assumption, by assumption⟩) (FIs.mono (by assumption) (fun q9 hq9 => by repeat (first | exact hq9 | refine List.mem_cons_of_mem _ ?_))) ?_; intro h' tk' F' N'; (try k_sweep); (try dsimp only)))
  intro dp un gd cn cs a ccd cl outer A₀ base h₀ L m news s mo nn l fv args Q E B F X N T hk hd hu hM hnn ha hF hret
  have hF0 := hF
  cases hF with
  | some f1 f2 =>
  have hM0 := hM
  obtain ⟨md, rd, fd, key, S, od, t1, t2, t3, t4, t5, t6, n, ep, led, hM1⟩ := hM
  have m1 := hM1.hmo
  have m2 := hM1.hmd
  clear hM1
  simp only [Sf.size] at hd hu
  rcases ha with rfl | ⟨g, rfl, hg⟩
  all_goals (
    refine wpAny_call ?_
    k_dflt (k_extra "enterC")
    clear F N
    have ac9 : ∀ q ∈ news, q.1 ≠ L' + 1 + 1 := allLt_ne2 l1 (by show @LT.lt Nat _ L' (L' + 1 + 1); omega)
    k_extra "steps"
    rename Fr h₀ L _ _ => F9
    rename News h₀ L _ _ => N9
    refine hret _ _ F9 fun q hq => N9 q ?_
    repeat (first | exact hq | refine List.mem_cons_of_mem _ ?_))
theorem hB_no (w : World) (p : Program) (loose : List Str) (mean : ExcName → Option Value) (mg mb : Str → Option Value) {f : Sf} (IH : HoldsB w p loose mean mg mb f) : HoldsB w p loose mean mg mb (.no f) := by
  unfold HoldsB
  k_fill
  k_with_none
  k_with "steps" => repeat' (first | (k_unfold; (try dsimp only)) | walk1 | (dsimp only; walk1) | (leave1; walk_say "STEP leave1"; try dsimp only) | k_extra "mine")
  k_with "spliced" => first | refine args_cons ?_ | refine args_nil ⟨Fr.keep (by assumption) _ _ (by assumption), ?_⟩ | (refine args_nil ?_; try simp only [List.cons_append, List.nil_append])
  k_with "call builtin:len cons nil" => (k_here; (with_reducible show wpAny _ _ (call (Value.builtin "len") [Value.ref _]) _ _ _); k_dflt (refine' lenL (by k_asm) (by k_mem) (by first | (with_reducible assumption) | (simp only [List.length_append, List.length_map, List.length_cons, List.length_nil]; with_reducible rfl)) (by omega) ?_))
  k_with "call ref cons nil" => (k_here; k_dflt (refine' call_cls (by k_asm) (by k_asm) (by k_asm) (by k_is) (by k_is) (by k_is) ?_; k_whole; intro x' d' h' F' N' l1 l2; (try k_lt l1); (try k_lt2 l2); (try k_sweep); walk_at "enter"))
  k_with "call builtin:list.append cons nil" => (k_here; (with_reducible show wpAny _ _ (call (Value.builtin "list.append") [Value.ref _, _]) _ _ _); k_dflt (refine' appendL (by k_asm) (by k_asm) (by k_upd) (by ((try simp only [List.length_append, List.length_map, List.length_cons, List.length_nil]); omega)) ?_; k_whole); intro h' F' N'; (try k_sweep))
  k_with "subscriptTail Attribute Name Attribute ref int" => (k_here; (with_reducible show wpAny _ _ (subscriptTail _ _ (Value.ref _) (Value.int _ _)) _ _ _); k_dflt (refine' itemL (by k_asm) (by with_reducible assumption) (by k_mem) (by with_reducible rfl) (by omega) ?_ (by with_unfolding_all rfl); k_whole))
  k_with "subscriptTail Subscript Attribute Attribute Constant ref int" => (k_here; (with_reducible show wpAny _ _ (subscriptTail _ _ (Value.ref _) (Value.int _ _)) _ _ _); k_dflt (refine' itemT (by k_asm) (by k_mem) (by decide) (by decide) (by rfl) (by rfl) ?_ (by with_unfolding_all rfl) (by intro _; with_unfolding_all rfl)))
  k_with "WhlIf" => first | (with_reducible refine WhlIf.no (by with_reducible assumption) ?_) | (with_reducible refine WhlIf.yes (by with_reducible assumption) ?_)
  k_with "exec While Compare cons nil" => (k_here; (with_reducible refine whl_start 100 ?_))
  k_with "subscriptTail Name Constant ref int" => (k_here; (with_reducible show wpAny _ _ (subscriptTail _ _ (Value.ref _) (Value.int _ _)) _ _ _); k_dflt (refine' itemT (by k_asm) (by k_mem) (by decide) (by decide) (by rfl) (by rfl) ?_ (by with_unfolding_all rfl) (by intro _; with_unfolding_all rfl)))
  k_with "enterC" => (refine' code_defC (by k_asm) (by k_asm) (by k_asm) (by k_asm) (by k_asm) (by exact rfl) (by exact rfl) (by assumption) (by k_is) (by k_is) (by ktr_room) (by first | exact BindsTo.of_eq rfl | exact binds_K (by k_in) rfl (by k_is) rfl rfl rfl) (by exact rfl) (by decide +kernel) ?_ (by exact rfl) (by exact rfl) (by exact rfl); k_whole; intro g' L' h' tk' cells' FG' F' N' Y' B' X' T' l1; (try k_lt l1); k_cells Y'; (try simp only [List.cons_append, List.nil_append] at N'); (try dsimp only); (try k_fold))
  k_with "call ref cons nil" => (k_here; (with_reducible show wpAny _ _ (call (Value.ref 123) _) _ _ _); k_dflt ((rename HoldsB _ _ _ _ _ _ _ => IH9); refine' IH9 _ _ _ _ _ _ _ _ _ _ _ _ _ _ _ _ _ _ _ _ _ _ _ (by k_asm) (by k_asm) (by k_asm) (by k_asm) (by k_asm) (by first | rfl | assumption) (by first | decide | omega | ktr_room) (by first | decide | omega | ktr_units) (Mdl.mono (by assumption) (fun q9 hq9 => by repeat (first | exact hq9 | refine List.mem_cons_of_mem _ ?_))) (by assumption) (by first | exact .inr ⟨_, rfl, GivenIs.mono (by assumption) (fun q9 hq9 => by repeat (first | exact hq9 | refine List.mem_cons_of_mem _ ?_))⟩ | exact .inr ⟨_, rfl, _, by assumption, by k_mem, _, by assumption, by assumption⟩) (FIs.mono (by assumption) (fun q9 hq9 => by repeat (first | exact hq9 | refine List.mem_cons_of_mem _ ?_))) ?_; intro h' tk' F' N'; (try k_sweep); (try dsimp only)))
  intro dp un gd cn cs a ccd cl outer A₀ base h₀ L m news s mo nn l fv args Q E B F X N T hk hd hu hM hnn ha hF hret
  cases hF with
  | no f1 f2 =>
  have hM0 := hM
  obtain ⟨md, rd, fd, key, S, od, t1, t2, t3, t4, t5, t6, n, ep, led, hM1⟩ := hM
  have m1 := hM1.hmo
  have m2 := hM1.hmd
  clear hM1
  simp only [Sf.size] at hd hu
  rcases ha with rfl | ⟨g, rfl, hg⟩
  all_goals (
    refine wpAny_call ?_
    k_dflt (k_extra "enterC")
    clear F N
    have ac9 : ∀ q ∈ news, q.1 ≠ L' + 1 + 1 := allLt_ne2 l1 (by show @LT.lt Nat _ L' (L' + 1 + 1); omega)
    k_extra "steps"
    rename Fr h₀ L _ _ => F9
    rename News h₀ L _ _ => N9
    refine hret _ _ F9 fun q hq => N9 q ?_
    repeat (first | exact hq | refine List.mem_cons_of_mem _ ?_))
theorem direct_ok (w : World) (p : Program) (loose : List Str) (mean : ExcName → Option Value) (mg mb : Str → Option Value) :
    ∀ (dp un : Nat) (gd : Option (List Code)) (cn : Str) (cs : Scope) (a : Addr) (ccd : Value) (cl : List (Str × Addr)) (outer : List Env) (A₀ : Around) (base h₀ : Heap) (L : Addr) (m : Str → Option Value) (news : List (Addr × Obj)) (s : Shared) (fv : Value) (Q E : Value → Shared → Prop),
      Below A₀ base outer h₀ → Fr h₀ L s.heap m → (K06 w.params).In h₀ → News h₀ L s.heap news → Top p loose mean mg mb h₀ → cs.kind = .function → dp + 20 < recursionLimit → un + 160 < cLine →
      FIs news fv .atomx →
      (∀ h' tk' l n, AllLt l news → Fr h₀ L h' m → News h₀ L h' ((l, listOf #[] n) :: news) → Q (.ref l) { s with heap := h', toks := tk' }) →
      wpAny (model PySem.Challenge.rw_ui0505_06.row.prog w) (ktrTop dp un gd cn cs L a ccd cl outer) (call (.ref 76) [fv]) Q E s := by
  k_fill
  k_with_none
  k_with "steps" => repeat' (first | (k_unfold; (try dsimp only)) | walk1 | (dsimp only; walk1) | (leave1; walk_say "STEP leave1"; try dsimp only) | k_extra "mine")
  k_with "spliced" => first | refine args_cons ?_ | refine args_nil ⟨Fr.keep (by assumption) _ _ (by assumption), ?_⟩ | (refine args_nil ?_; try simp only [List.cons_append, List.nil_append])
  k_with "call builtin:len cons nil" => (k_here; (with_reducible show wpAny _ _ (call (Value.builtin "len") [Value.ref _]) _ _ _); k_dflt (refine' lenL (by k_asm) (by k_mem) (by first | (with_reducible assumption) | (simp only [List.length_append, List.length_map, List.length_cons, List.length_nil]; with_reducible rfl)) (by omega) ?_))
  k_with "call ref cons nil" => (k_here; k_dflt (refine' call_cls (by k_asm) (by k_asm) (by k_asm) (by k_is) (by k_is) (by k_is) ?_; k_whole; intro x' d' h' F' N' l1 l2; (try k_lt l1); (try k_lt2 l2); (try k_sweep); walk_at "enter"))
  k_with "call builtin:list.append cons nil" => (k_here; (with_reducible show wpAny _ _ (call (Value.builtin "list.append") [Value.ref _, _]) _ _ _); k_dflt (refine' appendL (by k_asm) (by k_asm) (by k_upd) (by ((try simp only [List.length_append, List.length_map, List.length_cons, List.length_nil]); omega)) ?_; k_whole); intro h' F' N'; (try k_sweep))
  k_with "subscriptTail Attribute Name Attribute ref int" => (k_here; (with_reducible show wpAny _ _ (subscriptTail _ _ (Value.ref _) (Value.int _ _)) _ _ _); k_dflt (refine' itemL (by k_asm) (by with_reducible assumption) (by k_mem) (by with_reducible rfl) (by omega) ?_ (by with_unfolding_all rfl); k_whole))
  k_with "subscriptTail Subscript Attribute Attribute Constant ref int" => (k_here; (with_reducible show wpAny _ _ (subscriptTail _ _ (Value.ref _) (Value.int _ _)) _ _ _); k_dflt (refine' itemT (by k_asm) (by k_mem) (by decide) (by decide) (by rfl) (by rfl) ?_ (by with_unfolding_all rfl) (by intro _; with_unfolding_all rfl)))
  k_with "WhlIf" => first | (with_reducible refine WhlIf.no (by with_reducible assumption) ?_) | (with_reducible refine WhlIf.yes (by with_reducible assumption) ?_)
  k_with "exec While Compare cons nil" => (k_here; (with_reducible refine whl_start 100 ?_))
  k_with "subscriptTail Name Constant ref int" => (k_here; (with_reducible show wpAny _ _ (subscriptTail _ _ (Value.ref _) (Value.int _ _)) _ _ _); k_dflt (refine' itemT (by k_asm) (by k_mem) (by decide) (by decide) (by rfl) (by rfl) ?_ (by with_unfolding_all rfl) (by intro _; with_unfolding_all rfl)))
  k_with "compareOp In str ref" => (k_here; k_dflt (refine' in_top_strs (b := false) (by k_asm) (by k_asm) (by k_is) (by exact rfl) (by first | exact StrsAre.cons _ _ (.cons _ _ .nil) | exact StrsAre.cons _ _ (.cons _ _ (.cons _ _ (.cons _ _ .nil)))) (by decide) ?_))
  intro dp un gd cn cs a ccd cl outer A₀ base h₀ L m news s fv Q E B F X N T hk hd hu hF hret
  cases hF with
  | atomx f1 f2 f3 =>
  refine wpAny_call ?_
  k_dflt (walk_at "enter")
  k_extra "steps"
  rename Fr h₀ L _ _ => F9
  rename News h₀ L _ _ => N9
  exact hret _ _ _ _ (by assumption) F9 N9
theorem ownt_ok (w : World) (p : Program) (loose : List Str) (mean : ExcName → Option Value) (mg mb : Str → Option Value) :
    ∀ (dp un : Nat) (gd : Option (List Code)) (cn : Str) (cs : Scope) (a : Addr) (ccd : Value) (cl : List (Str × Addr)) (outer : List Env) (A₀ : Around) (base h₀ : Heap) (L : Addr) (m : Str → Option Value) (news : List (Addr × Obj)) (s : Shared) (fv : Value) (Q E : Value → Shared → Prop),
      Below A₀ base outer h₀ → Fr h₀ L s.heap m → (K06 w.params).In h₀ → News h₀ L s.heap news → Top p loose mean mg mb h₀ → cs.kind = .function → dp + 20 < recursionLimit → un + 160 < cLine →
      FIs news fv .atomx →
      (∀ h' tk' l n c t1 t2 k, AllLt l news → Fr h₀ L h' m → News h₀ L h' ((l, listOf #[.ref c] n) :: news) → (c, tupO [.str (Str.ofString "var") t1, .str (Str.ofString "x") t2] k) ∈ news → Q (.ref l) { s with heap := h', toks := tk' }) →
      wpAny (model PySem.Challenge.rw_ui0505_06.row.prog w) (ktrTop dp un gd cn cs L a ccd cl outer) (call (.ref 83) [fv]) Q E s := by
  k_fill
  k_with_none
  k_with "steps" => repeat' (first | (k_unfold; (try dsimp only)) | walk1 | (dsimp only; walk1) | (leave1; walk_say "STEP leave1"; try dsimp only) | k_extra "mine")
  k_with "spliced" => first | refine args_cons ?_ | refine args_nil ⟨Fr.keep (by assumption) _ _ (by assumption), ?_⟩ | (refine args_nil ?_; try simp only [List.cons_append, List.nil_append])
  k_with "call builtin:len cons nil" => (k_here; (with_reducible show wpAny _ _ (call (Value.builtin "len") [Value.ref _]) _ _ _); k_dflt (refine' lenL (by k_asm) (by k_mem) (by first | (with_reducible assumption) | (simp only [List.length_append, List.length_map, List.length_cons, List.length_nil]; with_reducible rfl)) (by omega) ?_))
  k_with "call ref cons nil" => (k_here; k_dflt (refine' call_cls (by k_asm) (by k_asm) (by k_asm) (by k_is) (by k_is) (by k_is) ?_; k_whole; intro x' d' h' F' N' l1 l2; (try k_lt l1); (try k_lt2 l2); (try k_sweep); walk_at "enter"))
  k_with "call builtin:list.append cons nil" => (k_here; (with_reducible show wpAny _ _ (call (Value.builtin "list.append") [Value.ref _, _]) _ _ _); k_dflt (refine' appendL (by k_asm) (by k_asm) (by k_upd) (by ((try simp only [List.length_append, List.length_map, List.length_cons, List.length_nil]); omega)) ?_; k_whole); intro h' F' N'; (try k_sweep))
  k_with "subscriptTail Attribute Name Attribute ref int" => (k_here; (with_reducible show wpAny _ _ (subscriptTail _ _ (Value.ref _) (Value.int _ _)) _ _ _); k_dflt (refine' itemL (by k_asm) (by with_reducible assumption) (by k_mem) (by with_reducible rfl) (by omega) ?_ (by with_unfolding_all rfl); k_whole))
  k_with "subscriptTail Subscript Attribute Attribute Constant ref int" => (k_here; (with_reducible show wpAny _ _ (subscriptTail _ _ (Value.ref _) (Value.int _ _)) _ _ _); k_dflt (refine' itemT (by k_asm) (by k_mem) (by decide) (by decide) (by rfl) (by rfl) ?_ (by with_unfolding_all rfl) (by intro _; with_unfolding_all rfl)))
  k_with "WhlIf" => first | (with_reducible refine WhlIf.no (by with_reducible assumption) ?_) | (with_reducible refine WhlIf.yes (by with_reducible assumption) ?_)
  k_with "exec While Compare cons nil" => (k_here; (with_reducible refine whl_start 100 ?_))
  k_with "subscriptTail Name Constant ref int" => (k_here; (with_reducible show wpAny _ _ (subscriptTail _ _ (Value.ref _) (Value.int _ _)) _ _ _); k_dflt (refine' itemT (by k_asm) (by k_mem) (by decide) (by decide) (by rfl) (by rfl) ?_ (by with_unfolding_all rfl) (by intro _; with_unfolding_all rfl)))
  intro dp un gd cn cs a ccd cl outer A₀ base h₀ L m news s fv Q E B F X N T hk hd hu hF hret
  cases hF with
  | atomx f1 f2 f3 =>
  refine wpAny_call ?_
  k_dflt (walk_at "enter")
  k_extra "steps"
  rename Fr h₀ L _ _ => F9
  rename News h₀ L _ _ => N9
  exact hret _ _ _ _ _ _ _ _ (by assumption) F9 N9 f3
theorem unames_ok (w : World) (p : Program) (loose : List Str) (mean : ExcName → Option Value) (mg mb : Str → Option Value) :
    ∀ (dp un : Nat) (gd : Option (List Code)) (cn : Str) (cs : Scope) (a : Addr) (ccd : Value) (cl : List (Str × Addr)) (outer : List Env) (A₀ : Around) (base h₀ : Heap) (L : Addr) (m : Str → Option Value) (news : List (Addr × Obj)) (s : Shared) (c o : Addr) (n : Nat) (t1 t2 : Tok) (k : Nat) (rest : List (Addr × Obj)) (Q E : Value → Shared → Prop),
      Below A₀ base outer h₀ → Fr h₀ L s.heap m → (K06 w.params).In h₀ → News h₀ L s.heap news → Top p loose mean mg mb h₀ → cs.kind = .function → dp + 20 < recursionLimit → un + 160 < cLine →
      news = (o, listOf #[] n) :: rest → (∀ q ∈ rest, q.1 ≠ o) → (c, tupO [.str (Str.ofString "var") t1, .str (Str.ofString "x") t2] k) ∈ rest →
      (∀ h' tk' t3, Fr h₀ L h' m → News h₀ L h' ((o, listOf #[.str (Str.ofString "x") t3] (n + 1)) :: rest) → Q .none { s with heap := h', toks := tk' }) →
      wpAny (model PySem.Challenge.rw_ui0505_06.row.prog w) (ktrTop dp un gd cn cs L a ccd cl outer) (call (.ref 67) [.ref c, .ref o]) Q E s := by
  k_fill
  k_with_none
  k_with "steps" => repeat' (first | (k_unfold; (try dsimp only)) | walk1 | (dsimp only; walk1) | (leave1; walk_say "STEP leave1"; try dsimp only) | k_extra "mine")
  k_with "spliced" => first | refine args_cons ?_ | refine args_nil ⟨Fr.keep (by assumption) _ _ (by assumption), ?_⟩ | (refine args_nil ?_; try simp only [List.cons_append, List.nil_append])
  k_with "call builtin:len cons nil" => (k_here; (with_reducible show wpAny _ _ (call (Value.builtin "len") [Value.ref _]) _ _ _); k_dflt (refine' lenL (by k_asm) (by k_mem) (by first | (with_reducible assumption) | (simp only [List.length_append, List.length_map, List.length_cons, List.length_nil]; with_reducible rfl)) (by omega) ?_))
  k_with "call ref cons nil" => (k_here; k_dflt (refine' call_cls (by k_asm) (by k_asm) (by k_asm) (by k_is) (by k_is) (by k_is) ?_; k_whole; intro x' d' h' F' N' l1 l2; (try k_lt l1); (try k_lt2 l2); (try k_sweep); walk_at "enter"))
  k_with "call builtin:list.append cons nil" => (k_here; (with_reducible show wpAny _ _ (call (Value.builtin "list.append") [Value.ref _, _]) _ _ _); k_dflt (refine' appendL (by k_asm) (by k_asm) (by k_upd) (by ((try simp only [List.length_append, List.length_map, List.length_cons, List.length_nil]); omega)) ?_; k_whole); intro h' F' N'; (try k_sweep))
  k_with "subscriptTail Attribute Name Attribute ref int" => (k_here; (with_reducible show wpAny _ _ (subscriptTail _ _ (Value.ref _) (Value.int _ _)) _ _ _); k_dflt (refine' itemL (by k_asm) (by with_reducible assumption) (by k_mem) (by with_reducible rfl) (by omega) ?_ (by with_unfolding_all rfl); k_whole))
  k_with "subscriptTail Subscript Attribute Attribute Constant ref int" => (k_here; (with_reducible show wpAny _ _ (subscriptTail _ _ (Value.ref _) (Value.int _ _)) _ _ _); k_dflt (refine' itemT (by k_asm) (by k_mem) (by decide) (by decide) (by rfl) (by rfl) ?_ (by with_unfolding_all rfl) (by intro _; with_unfolding_all rfl)))
  k_with "WhlIf" => first | (with_reducible refine WhlIf.no (by with_reducible assumption) ?_) | (with_reducible refine WhlIf.yes (by with_reducible assumption) ?_)
  k_with "exec While Compare cons nil" => (k_here; (with_reducible refine whl_start 100 ?_))
  k_with "subscriptTail Name Constant ref int" => (k_here; (with_reducible show wpAny _ _ (subscriptTail _ _ (Value.ref _) (Value.int _ _)) _ _ _); k_dflt (refine' itemT (by k_asm) (by k_mem) (by decide) (by decide) (by rfl) (by rfl) ?_ (by with_unfolding_all rfl) (by intro _; with_unfolding_all rfl)))
  k_with "compareOp NotIn str ref" => (k_here; k_dflt (first | refine' nin_list (by k_asm) (by k_mem) ?_ | refine' nin_tup (by k_asm) (by k_mem) ?_))
  intro dp un gd cn cs a ccd cl outer A₀ base h₀ L m news s c o n t1 t2 k rest Q E B F X N T hk hd hu hnw had hc hret
  subst hnw
  refine wpAny_call ?_
  k_dflt (walk_at "enter")
  k_extra "steps"
  rename Fr h₀ L _ _ => F9
  rename News h₀ L _ _ => N9
  exact hret _ _ _ F9 N9
theorem names_ok (w : World) (p : Program) (loose : List Str) (mean : ExcName → Option Value) (mg mb : Str → Option Value) :
    ∀ (dp un : Nat) (gd : Option (List Code)) (cn : Str) (cs : Scope) (a : Addr) (ccd : Value) (cl : List (Str × Addr)) (outer : List Env) (A₀ : Around) (base h₀ : Heap) (L : Addr) (m : Str → Option Value) (news : List (Addr × Obj)) (s : Shared) (c : Addr) (t1 t2 : Tok) (k : Nat) (Q E : Value → Shared → Prop),
      Below A₀ base outer h₀ → Fr h₀ L s.heap m → (K06 w.params).In h₀ → News h₀ L s.heap news → Top p loose mean mg mb h₀ → cs.kind = .function → dp + 30 < recursionLimit → un + 240 < cLine →
      (c, tupO [.str (Str.ofString "var") t1, .str (Str.ofString "x") t2] k) ∈ news →
      (∀ h' tk' l n t3, AllLt l news → Fr h₀ L h' m → News h₀ L h' ((l, listOf #[.str (Str.ofString "x") t3] n) :: news) → Q (.ref l) { s with heap := h', toks := tk' }) →
      wpAny (model PySem.Challenge.rw_ui0505_06.row.prog w) (ktrTop dp un gd cn cs L a ccd cl outer) (call (.ref 60) [.ref c]) Q E s := by
  k_fill
  k_with_none
  k_with "steps" => repeat' (first | (k_unfold; (try dsimp only)) | walk1 | (dsimp only; walk1) | (leave1; walk_say "STEP leave1"; try dsimp only) | k_extra "mine")
  k_with "spliced" => first | refine args_cons ?_ | refine args_nil ⟨Fr.keep (by assumption) _ _ (by assumption), ?_⟩ | (refine args_nil ?_; try simp only [List.cons_append, List.nil_append])
  k_with "call builtin:len cons nil" => (k_here; (with_reducible show wpAny _ _ (call (Value.builtin "len") [Value.ref _]) _ _ _); k_dflt (refine' lenL (by k_asm) (by k_mem) (by first | (with_reducible assumption) | (simp only [List.length_append, List.length_map, List.length_cons, List.length_nil]; with_reducible rfl)) (by omega) ?_))
  k_with "call ref cons nil" => (k_here; k_dflt (refine' call_cls (by k_asm) (by k_asm) (by k_asm) (by k_is) (by k_is) (by k_is) ?_; k_whole; intro x' d' h' F' N' l1 l2; (try k_lt l1); (try k_lt2 l2); (try k_sweep); walk_at "enter"))
  k_with "call builtin:list.append cons nil" => (k_here; (with_reducible show wpAny _ _ (call (Value.builtin "list.append") [Value.ref _, _]) _ _ _); k_dflt (refine' appendL (by k_asm) (by k_asm) (by k_upd) (by ((try simp only [List.length_append, List.length_map, List.length_cons, List.length_nil]); omega)) ?_; k_whole); intro h' F' N'; (try k_sweep))
  k_with "subscriptTail Attribute Name Attribute ref int" => (k_here; (with_reducible show wpAny _ _ (subscriptTail _ _ (Value.ref _) (Value.int _ _)) _ _ _); k_dflt (refine' itemL (by k_asm) (by with_reducible assumption) (by k_mem) (by with_reducible rfl) (by omega) ?_ (by with_unfolding_all rfl); k_whole))
  k_with "subscriptTail Subscript Attribute Attribute Constant ref int" => (k_here; (with_reducible show wpAny _ _ (subscriptTail _ _ (Value.ref _) (Value.int _ _)) _ _ _); k_dflt (refine' itemT (by k_asm) (by k_mem) (by decide) (by decide) (by rfl) (by rfl) ?_ (by with_unfolding_all rfl) (by intro _; with_unfolding_all rfl)))
  k_with "WhlIf" => first | (with_reducible refine WhlIf.no (by with_reducible assumption) ?_) | (with_reducible refine WhlIf.yes (by with_reducible assumption) ?_)
  k_with "exec While Compare cons nil" => (k_here; (with_reducible refine whl_start 100 ?_))
  k_with "call ref cons nil" => (k_here; (with_reducible show wpAny _ _ (call (Value.ref 67) _) _ _ _); k_dflt (refine' unames_ok _ _ _ _ _ _ _ _ _ _ _ _ _ _ _ _ _ _ _ _ _ _ _ _ _ _ _ _ _ _ _ (by k_asm) (by k_asm) (by k_asm) (by k_asm) (by k_asm) (by first | rfl | assumption) (by first | decide | omega | ktr_room) (by first | decide | omega | ktr_units) (by rfl) (by exact allLt_ne (by assumption)) (by assumption) ?_; intro h' tk' t3' F' N'; (try k_sweep); (try dsimp only)))
  intro dp un gd cn cs a ccd cl outer A₀ base h₀ L m news s c t1 t2 k Q E B F X N T hk hd hu hc hret
  refine wpAny_call ?_
  k_dflt (walk_at "enter")
  k_extra "steps"
  rename Fr h₀ L _ _ => F9
  rename News h₀ L _ _ => N9
  exact hret _ _ _ _ _ (by assumption) F9 N9
theorem ufree_ok (w : World) (p : Program) (loose : List Str) (mean : ExcName → Option Value) (mg mb : Str → Option Value) :
    ∀ (dp un : Nat) (gd : Option (List Code)) (cn : Str) (cs : Scope) (a : Addr) (ccd : Value) (cl : List (Str × Addr)) (outer : List Env) (A₀ : Around) (base h₀ : Heap) (L : Addr) (m : Str → Option Value) (news : List (Addr × Obj)) (s : Shared) (fv : Value) (b o : Addr) (n nb : Nat) (rest : List (Addr × Obj)) (Q E : Value → Shared → Prop),
      Below A₀ base outer h₀ → Fr h₀ L s.heap m → (K06 w.params).In h₀ → News h₀ L s.heap news → Top p loose mean mg mb h₀ → cs.kind = .function → dp + 40 < recursionLimit → un + 320 < cLine →
      news = (o, listOf #[] n) :: rest → (∀ q ∈ rest, q.1 ≠ o) → (b, tupO [] nb) ∈ rest → FIs rest fv .atomx →
      (∀ h' tk' t3 n', Fr h₀ L h' m → News h₀ L h' ((o, listOf #[.str (Str.ofString "x") t3] n') :: rest) → Q .none { s with heap := h', toks := tk' }) →
      wpAny (model PySem.Challenge.rw_ui0505_06.row.prog w) (ktrTop dp un gd cn cs L a ccd cl outer) (call (.ref 97) [fv, .ref b, .ref o]) Q E s := by
  k_fill
  k_with_none
  k_with "steps" => repeat' (first | (k_unfold; (try dsimp only)) | walk1 | (dsimp only; walk1) | (leave1; walk_say "STEP leave1"; try dsimp only) | k_extra "mine")
  k_with "spliced" => first | refine args_cons ?_ | refine args_nil ⟨Fr.keep (by assumption) _ _ (by assumption), ?_⟩ | (refine args_nil ?_; try simp only [List.cons_append, List.nil_append])
  k_with "call builtin:len cons nil" => (k_here; (with_reducible show wpAny _ _ (call (Value.builtin "len") [Value.ref _]) _ _ _); k_dflt (refine' lenL (by k_asm) (by k_mem) (by first | (with_reducible assumption) | (simp only [List.length_append, List.length_map, List.length_cons, List.length_nil]; with_reducible rfl)) (by omega) ?_))
  k_with "call ref cons nil" => (k_here; k_dflt (refine' call_cls (by k_asm) (by k_asm) (by k_asm) (by k_is) (by k_is) (by k_is) ?_; k_whole; intro x' d' h' F' N' l1 l2; (try k_lt l1); (try k_lt2 l2); (try k_sweep); walk_at "enter"))
  k_with "call builtin:list.append cons nil" => (k_here; (with_reducible show wpAny _ _ (call (Value.builtin "list.append") [Value.ref _, _]) _ _ _); k_dflt (refine' appendL (by k_asm) (by k_asm) (by k_upd) (by ((try simp only [List.length_append, List.length_map, List.length_cons, List.length_nil]); omega)) ?_; k_whole); intro h' F' N'; (try k_sweep))
  k_with "subscriptTail Attribute Name Attribute ref int" => (k_here; (with_reducible show wpAny _ _ (subscriptTail _ _ (Value.ref _) (Value.int _ _)) _ _ _); k_dflt (refine' itemL (by k_asm) (by with_reducible assumption) (by k_mem) (by with_reducible rfl) (by omega) ?_ (by with_unfolding_all rfl); k_whole))
  k_with "subscriptTail Subscript Attribute Attribute Constant ref int" => (k_here; (with_reducible show wpAny _ _ (subscriptTail _ _ (Value.ref _) (Value.int _ _)) _ _ _); k_dflt (refine' itemT (by k_asm) (by k_mem) (by decide) (by decide) (by rfl) (by rfl) ?_ (by with_unfolding_all rfl) (by intro _; with_unfolding_all rfl)))
  k_with "WhlIf" => first | (with_reducible refine WhlIf.no (by with_reducible assumption) ?_) | (with_reducible refine WhlIf.yes (by with_reducible assumption) ?_)
  k_with "exec While Compare cons nil" => (k_here; (with_reducible refine whl_start 100 ?_))
  k_with "subscriptTail Name Constant ref int" => (k_here; (with_reducible show wpAny _ _ (subscriptTail _ _ (Value.ref _) (Value.int _ _)) _ _ _); k_dflt (refine' itemT (by k_asm) (by k_mem) (by decide) (by decide) (by rfl) (by rfl) ?_ (by with_unfolding_all rfl) (by intro _; with_unfolding_all rfl)))
  k_with "compareOp In str ref" => (k_here; k_dflt (refine' in_top_strs (b := false) (by k_asm) (by k_asm) (by k_is) (by exact rfl) (by first | exact StrsAre.cons _ _ (.cons _ _ .nil) | exact StrsAre.cons _ _ (.cons _ _ (.cons _ _ (.cons _ _ .nil)))) (by decide) ?_))
  k_with "compareOp NotIn str ref" => (k_here; k_dflt (first | refine' nin_list (by k_asm) (by k_mem) ?_ | refine' nin_tup (by k_asm) (by k_mem) ?_))
  k_with "call ref cons nil" => (k_here; (with_reducible show wpAny _ _ (call (Value.ref 83) _) _ _ _); k_dflt (refine' ownt_ok _ _ _ _ _ _ _ _ _ _ _ _ _ _ _ _ _ _ _ _ _ _ _ _ _ (by k_asm) (by k_asm) (by k_asm) (by k_asm) (by k_asm) (by first | rfl | assumption) (by first | decide | omega | ktr_room) (by first | decide | omega | ktr_units) (FIs.mono (by assumption) (fun q9 hq9 => by repeat (first | exact hq9 | refine List.mem_cons_of_mem _ ?_))) ?_; intro h' tk' l' n' c' t1' t2' k' l1' F' N' hc'; (try simp only [AllLt, and_true] at l1'); (repeat (with_reducible (rename _ ∧ _ => hh9); obtain ⟨_, _⟩ := hh9)); (try k_sweep); (try dsimp only)))
  k_with "call ref cons nil" => (k_here; (with_reducible show wpAny _ _ (call (Value.ref 76) _) _ _ _); k_dflt (refine' direct_ok _ _ _ _ _ _ _ _ _ _ _ _ _ _ _ _ _ _ _ _ _ _ _ _ _ (by k_asm) (by k_asm) (by k_asm) (by k_asm) (by k_asm) (by first | rfl | assumption) (by first | decide | omega | ktr_room) (by first | decide | omega | ktr_units) (FIs.mono (by assumption) (fun q9 hq9 => by repeat (first | exact hq9 | refine List.mem_cons_of_mem _ ?_))) ?_; intro h' tk' l3' n3' l1' F' N'; (try simp only [AllLt, and_true] at l1'); (repeat (with_reducible (rename _ ∧ _ => hh9); obtain ⟨_, _⟩ := hh9)); (try k_sweep); (try dsimp only)))
  k_with "call ref cons nil" => (k_here; (with_reducible show wpAny _ _ (call (Value.ref 60) _) _ _ _); k_dflt (refine' names_ok _ _ _ _ _ _ _ _ _ _ _ _ _ _ _ _ _ _ _ _ _ _ _ _ _ _ _ _ (by k_asm) (by k_asm) (by k_asm) (by k_asm) (by k_asm) (by first | rfl | assumption) (by first | decide | omega | ktr_room) (by first | decide | omega | ktr_units) (by k_mem) ?_; intro h' tk' l2' n2' t3' l1' F' N'; (try simp only [AllLt, and_true] at l1'); (repeat (with_reducible (rename _ ∧ _ => hh9); obtain ⟨_, _⟩ := hh9)); (try k_sweep); (try dsimp only)))
  k_with "pyIter ref" => (k_here; with_reducible refine halt ?_)
  intro dp un gd cn cs a ccd cl outer A₀ base h₀ L m news s fv b o n nb rest Q E B F X N T hk hd hu hnw had hb hF hret
  subst hnw
  have hF0 := hF
  cases hF with
  | atomx f1 f2 f3 =>
  refine wpAny_call ?_
  k_dflt (walk_at "enter")
  k_extra "steps"
  rename Fr _ _ _ _ => F1
  rename News _ _ _ _ => N1
  unfold Halt
  refine for1 (by exact rfl) (by k_mem) F1 N1 ?_
  intro h tk own hap F2 N2
  clear F1 N1
  replace N2 : News _ _ h ((l', listOf #[.ref c'] n') :: (o, listOf #[] n) :: (rest ++ own)) := N2
  have had2 : ∀ q ∈ rest ++ own, q.1 ≠ o := fun q hq => (List.mem_append.mp hq).elim (had q) fun hq => hap q hq (o, listOf #[] n) (List.mem_cons_of_mem _ List.mem_cons_self)
  have hb2 : (b, tupO [] nb) ∈ rest ++ own := List.mem_append_left _ hb
  have hc1 : (c', tupO [.str (Str.ofString "var") t1', .str (Str.ofString "x") t2'] k') ∈ rest := by
    rcases List.mem_cons.mp hc' with e | h
    · have e2 : Value.type "tuple" = Value.type "list" := congrArg (fun q : Addr × Obj => q.2.cls) e
      exact absurd e2 (by decide)
    · exact h
  have hc2 := List.mem_append_left own hc1
  k_extra "steps"
  rename Fr _ _ _ _ => F3
  rename News _ _ _ _ => N3
  unfold Halt
  refine for1 (by exact rfl) (by k_mem) F3 N3 ?_
  intro h tk own2 hap2 F4 N4
  clear F3 N3
  replace N4 : News _ _ h ((l2', listOf #[.str (Str.ofString "x") t3'] n2') :: (l', listOf #[.ref c'] n') :: (o, listOf #[] n) :: (rest ++ own ++ own2)) := N4
  have had3 : ∀ q ∈ rest ++ own ++ own2, q.1 ≠ o := fun q hq => (List.mem_append.mp hq).elim (had2 q) fun hq => hap2 q hq (o, listOf #[] n) (List.mem_cons_of_mem _ (List.mem_cons_of_mem _ List.mem_cons_self))
  have hb3 : (b, tupO [] nb) ∈ rest ++ own ++ own2 := List.mem_append_left _ hb2
  k_extra "steps"
  rename Fr _ _ _ _ => F9
  rename News _ _ _ _ => N9
  refine ⟨rfl, _, _, _, _, (l2', listOf #[.str (Str.ofString "x") t3'] n2') :: (l', listOf #[.ref c'] n') :: (o, listOf #[.str (Str.ofString "x") t3'] (n + 1)) :: (rest ++ own), rfl, F9, N9, ?_, ?_, ?_, List.mem_cons_self, fun h4 tk4 F5 N5 => ?_⟩
  · intro q hq
    rcases List.mem_cons.mp hq with rfl | hq
    · exact List.mem_cons_self
    · rcases List.mem_cons.mp hq with rfl | hq
      · exact List.mem_cons_of_mem _ List.mem_cons_self
      · rcases List.mem_cons.mp hq with rfl | hq
        · exact List.mem_cons_of_mem _ (List.mem_cons_of_mem _ List.mem_cons_self)
        · exact List.mem_cons_of_mem _ (List.mem_cons_of_mem _ (List.mem_cons_of_mem _ (List.mem_append_left _ hq)))
  · exact fun q hq => List.mem_cons_of_mem _ (List.mem_cons_of_mem _ (List.mem_cons_of_mem _ (List.mem_append_right _ hq)))
  · intro p hp q hq
    rcases List.mem_cons.mp hq with rfl | hq
    · exact hap2 p hp (l2', listOf #[.str (Str.ofString "x") t3'] n2') List.mem_cons_self
    · rcases List.mem_cons.mp hq with rfl | hq
      · exact hap2 p hp (l', listOf #[.ref c'] n') (List.mem_cons_of_mem _ List.mem_cons_self)
      · rcases List.mem_cons.mp hq with rfl | hq
        · exact hap2 p hp (o, listOf #[] n) (List.mem_cons_of_mem _ (List.mem_cons_of_mem _ List.mem_cons_self))
        · exact hap2 p hp q (List.mem_cons_of_mem _ (List.mem_cons_of_mem _ (List.mem_cons_of_mem _ hq)))
  · clear F9 N9
    refine wpAny_execs_nil ?_
    refine ⟨rfl, h4, tk4, _, _, (l', listOf #[.ref c'] n') :: (o, listOf #[.str (Str.ofString "x") t3'] (n + 1)) :: rest, rfl, F5, N5, ?_, ?_, ?_, List.mem_cons_self, fun h6 tk6 F6 N6 => ?_⟩
    · intro q hq
      refine List.mem_cons_of_mem _ ?_
      rcases List.mem_cons.mp hq with rfl | hq
      · exact List.mem_cons_self
      · rcases List.mem_cons.mp hq with rfl | hq
        · exact List.mem_cons_of_mem _ List.mem_cons_self
        · exact List.mem_cons_of_mem _ (List.mem_cons_of_mem _ (List.mem_append_left _ hq))
    · exact fun q hq => List.mem_cons_of_mem _ (List.mem_cons_of_mem _ (List.mem_cons_of_mem _ (List.mem_append_right _ hq)))
    · intro p hp q hq
      rcases List.mem_cons.mp hq with rfl | hq
      · exact hap p hp (l', listOf #[.ref c'] n') List.mem_cons_self
      · rcases List.mem_cons.mp hq with rfl | hq
        · exact hap p hp (o, listOf #[] n) (List.mem_cons_of_mem _ List.mem_cons_self)
        · exact hap p hp q (List.mem_cons_of_mem _ (List.mem_cons_of_mem _ hq))
    · clear F5 N5
      have hb5 := hb
      k_extra "steps"
      rename Fr _ _ _ _ => F7
      rename News _ _ _ _ => N7
      unfold Halt
      refine for0 (by exact rfl) (by k_mem) F7 N7 ?_
      intro h8 tk8 F8 N8
      clear F7 N7
      k_extra "steps"
      rename Fr h₀ L _ _ => F9
      rename News h₀ L _ _ => N9
      exact hret _ _ _ _ F9 (nsub N9 fun q hq => by
        rcases List.mem_cons.mp hq with rfl | hq
        · exact List.mem_cons_of_mem _ (List.mem_cons_of_mem _ List.mem_cons_self)
        · exact List.mem_cons_of_mem _ (List.mem_cons_of_mem _ (List.mem_cons_of_mem _ hq)))
theorem nswap {h₀ h : Heap} {L : Addr} {x y : Addr × Obj} {l : List (Addr × Obj)} (N : News h₀ L h (x :: y :: l)) : News h₀ L h (y :: x :: l) := nsub N fun q hq => by
  rcases List.mem_cons.mp hq with rfl | hq
  · exact List.mem_cons_of_mem _ List.mem_cons_self
  · rcases List.mem_cons.mp hq with rfl | hq
    · exact List.mem_cons_self
    · exact List.mem_cons_of_mem _ (List.mem_cons_of_mem _ hq)
theorem free_ok (w : World) (p : Program) (loose : List Str) (mean : ExcName → Option Value) (mg mb : Str → Option Value) :
    ∀ (dp un : Nat) (gd : Option (List Code)) (cn : Str) (cs : Scope) (a : Addr) (ccd : Value) (cl : List (Str × Addr)) (outer : List Env) (A₀ : Around) (base h₀ : Heap) (L : Addr) (m : Str → Option Value) (news : List (Addr × Obj)) (s : Shared) (fv : Value) (Q E : Value → Shared → Prop),
      Below A₀ base outer h₀ → Fr h₀ L s.heap m → (K06 w.params).In h₀ → News h₀ L s.heap news → Top p loose mean mg mb h₀ → cs.kind = .function → dp + 50 < recursionLimit → un + 400 < cLine →
      FIs news fv .atomx →
      (∀ h' tk' l n t3, AllLt l news → Fr h₀ L h' m → News h₀ L h' ((l, listOf #[.str (Str.ofString "x") t3] n) :: news) → Q (.ref l) { s with heap := h', toks := tk' }) →
      wpAny (model PySem.Challenge.rw_ui0505_06.row.prog w) (ktrTop dp un gd cn cs L a ccd cl outer) (call (.ref 90) [fv]) Q E s := by
  k_fill
  k_with_none
  k_with "steps" => repeat' (first | (k_unfold; (try dsimp only)) | walk1 | (dsimp only; walk1) | (leave1; walk_say "STEP leave1"; try dsimp only) | k_extra "mine")
  k_with "spliced" => first | refine args_cons ?_ | refine args_nil ⟨Fr.keep (by assumption) _ _ (by assumption), ?_⟩ | (refine args_nil ?_; try simp only [List.cons_append, List.nil_append])
  k_with "call builtin:len cons nil" => (k_here; (with_reducible show wpAny _ _ (call (Value.builtin "len") [Value.ref _]) _ _ _); k_dflt (refine' lenL (by k_asm) (by k_mem) (by first | (with_reducible assumption) | (simp only [List.length_append, List.length_map, List.length_cons, List.length_nil]; with_reducible rfl)) (by omega) ?_))
  k_with "call ref cons nil" => (k_here; k_dflt (refine' call_cls (by k_asm) (by k_asm) (by k_asm) (by k_is) (by k_is) (by k_is) ?_; k_whole; intro x' d' h' F' N' l1 l2; (try k_lt l1); (try k_lt2 l2); (try k_sweep); walk_at "enter"))
  k_with "call builtin:list.append cons nil" => (k_here; (with_reducible show wpAny _ _ (call (Value.builtin "list.append") [Value.ref _, _]) _ _ _); k_dflt (refine' appendL (by k_asm) (by k_asm) (by k_upd) (by ((try simp only [List.length_append, List.length_map, List.length_cons, List.length_nil]); omega)) ?_; k_whole); intro h' F' N'; (try k_sweep))
  k_with "subscriptTail Attribute Name Attribute ref int" => (k_here; (with_reducible show wpAny _ _ (subscriptTail _ _ (Value.ref _) (Value.int _ _)) _ _ _); k_dflt (refine' itemL (by k_asm) (by with_reducible assumption) (by k_mem) (by with_reducible rfl) (by omega) ?_ (by with_unfolding_all rfl); k_whole))
  k_with "subscriptTail Subscript Attribute Attribute Constant ref int" => (k_here; (with_reducible show wpAny _ _ (subscriptTail _ _ (Value.ref _) (Value.int _ _)) _ _ _); k_dflt (refine' itemT (by k_asm) (by k_mem) (by decide) (by decide) (by rfl) (by rfl) ?_ (by with_unfolding_all rfl) (by intro _; with_unfolding_all rfl)))
  k_with "WhlIf" => first | (with_reducible refine WhlIf.no (by with_reducible assumption) ?_) | (with_reducible refine WhlIf.yes (by with_reducible assumption) ?_)
  k_with "exec While Compare cons nil" => (k_here; (with_reducible refine whl_start 100 ?_))
  k_with "call ref cons nil" => (k_here; (with_reducible show wpAny _ _ (call (Value.ref 97) _) _ _ _); with_reducible refine halt ?_)
  intro dp un gd cn cs a ccd cl outer A₀ base h₀ L m news s fv Q E B F X N T hk hd hu hF hret
  refine wpAny_call ?_
  k_dflt (walk_at "enter")
  k_extra "steps"
  rename Fr _ _ _ _ => F1
  rename News _ _ _ _ => N1
  rename AllLt _ news => r9
  revert r9
  rename AllLt _ news => l9
  intro r9
  unfold Halt
  k_dflt (refine' ufree_ok _ _ _ _ _ _ _ _ _ _ _ _ _ _ _ _ _ _ _ _ _ _ _ _ _ _ _ ((_, _) :: news) _ _ (by k_asm) (by k_asm) (by k_asm) (by exact nswap N1) (by k_asm) (by first | rfl | assumption) (by first | decide | omega | ktr_room) (by first | decide | omega | ktr_units) (by rfl) ?_ (by exact List.mem_cons_self) (FIs.mono (by assumption) (fun q9 hq9 => by repeat (first | exact hq9 | refine List.mem_cons_of_mem _ ?_))) ?_)
  · intro q hq
    rcases List.mem_cons.mp hq with rfl | hq
    · exact Nat.ne_of_gt (by assumption)
    · exact allLt_ne l9 q hq
  intro h' tk' t3' n' F' N'
  clear F1 N1
  try dsimp only
  k_extra "steps"
  rename Fr h₀ L _ _ => F9
  rename News h₀ L _ _ => N9
  refine hret _ _ _ n' t3' l9 F9 (nsub N9 fun q hq => ?_)
  rcases List.mem_cons.mp hq with rfl | hq
  · exact List.mem_cons_self
  · exact List.mem_cons_of_mem _ (List.mem_cons_of_mem _ hq)
theorem adds6 : (all8.all fun ks => [(0 : Int), 1, 2].all fun k => if ks.all (fun x => decide (x < k)) then fitOk ks && addOk ks k && decide (ks ++ [k] ∈ all8) else true) = true := by decide +kernel
theorem add6 {ks : List Int} (h8 : ks ∈ all8) {k : Nat} (hk : k < 3) (hlt : ∀ x ∈ ks, x < (k : Int)) : fitOk ks = true ∧ addOk ks (k : Int) = true ∧ ks ++ [(k : Int)] ∈ all8 := by
  have h1 := List.all_eq_true.mp adds6 ks h8
  have h2 := List.all_eq_true.mp h1 (k : Int) (by
    have : k = 0 ∨ k = 1 ∨ k = 2 := by omega
    rcases this with rfl | rfl | rfl <;> simp)
  rw [if_pos (List.all_eq_true.mpr fun x hx => decide_eq_true (hlt x hx))] at h2
  simp only [Bool.and_eq_true, decide_eq_true_eq] at h2
  exact ⟨h2.1.1, h2.1.2, h2.2⟩
/-- the rows so far -/
def NJ (base : List (Addr × Obj)) (S : Addr) (led : Bool) (mB : Str → Option Value) (k : Nat) (m : Str → Option Value) (front : List (Addr × Obj)) : Prop :=
  ∃ (l : List (Int × Addr)) (ep : Nat) (rest : List (Addr × Obj)) (v : Int) (tv : Tok) (ov : Option Value), front = (S, set3 l ep led) :: rest ∧ m = upm (Str.ofString "row") ov (upm (Str.ofString "number") (some (.int v tv)) mB) ∧
    l.map (·.1) ∈ all8 ∧ (∀ x ∈ l.map (·.1), x < (k : Int)) ∧ (∀ p ∈ l, ∃ (t : Tok) (n : Nat), (p.2, tupO [.int p.1 t] n) ∈ rest) ∧ (∀ y ∈ base, y ∈ rest) ∧ (∀ y ∈ rest, y.1 ≠ S)
theorem nj_eq {m : Str → Option Value} {v : Int} {tv : Tok} (hm : m (Str.ofString "number") = some (.int v tv)) : ∀ y, m y = upm (Str.ofString "row") (m (Str.ofString "row")) (upm (Str.ofString "number") (some (.int v tv)) m) y := by
  rw [← hm, upm_self, upm_self]
  exact fun _ => rfl
theorem nj_map {mB : Str → Option Value} {a b c : Option Value} : ∀ y, (if y = Str.ofString "number" then a else upm (Str.ofString "row") b (upm (Str.ofString "number") c mB) y) = upm (Str.ofString "row") b (upm (Str.ofString "number") a mB) y := by
  intro y
  by_cases h1 : y = Str.ofString "number"
  · subst h1
    rw [if_pos rfl]
    show _ = if Str.ofString "number" = Str.ofString "row" then _ else _
    rw [if_neg (by decide)]
    show _ = if Str.ofString "number" = Str.ofString "number" then _ else _
    rw [if_pos rfl]
  · rw [if_neg h1]
    by_cases h2 : y = Str.ofString "row"
    · simp [upm, h2]
    · simp [upm, h1, h2]
theorem all8_len {ks : List Int} (h : ks ∈ all8) : ks.length ≤ 3 := by
  have : (all8.all fun ks => decide (ks.length ≤ 3)) = true := by decide
  exact of_decide_eq_true (List.all_eq_true.mp this ks h)
theorem emp_truthK {w : World} {A : Around} {E : Value → Shared → Prop} {s : Shared} {h₀ : Heap} {L d : Addr} {news : List (Addr × Obj)} {o : Obj} {Q : Bool → Shared → Prop} (N : News h₀ L s.heap news) (hS : (d == sysModules) = false) (hd : (d, o) ∈ news) (ho : o.IsDictOf (PySem.strKind prog6 w) [])
    (h : Q false { s with toks := s.toks + 1 + 1 }) : wpAny (model prog6 w) A (truthy (.ref d)) Q E s :=
  wpAny_truthy_dict (knd := PySem.strKind prog6 w) (kvs := []) hS (let ⟨es, ep, hx⟩ := ho; ⟨o, es, ep, (N _ hd).1, hx⟩) (by decide) h
theorem nth_ok (w : World) (p : Program) (loose : List Str) (mean : ExcName → Option Value) (mg mb : Str → Option Value) {q : Nat → Pos} (P : TupIs w q) :
    ∀ (dp un : Nat) (gd : Option (List Code)) (cn : Str) (cs : Scope) (a : Addr) (ccd : Value) (cl : List (Str × Addr)) (outer : List Env) (A₀ : Around) (base h₀ : Heap) (L : Addr) (m : Str → Option Value) (news : List (Addr × Obj)) (s : Shared) (nn : Nat) (v : Int) (lr lf tp : Addr) (n1 n2 n3 : Nat) (t u t5 t6 : Tok) (Q E : Value → Shared → Prop),
      Below A₀ base outer h₀ → Fr h₀ L s.heap m → (K06 w.params).In h₀ → News h₀ L s.heap news → Top p loose mean mg mb h₀ → cs.kind = .function → dp + 60 < recursionLimit → un + 400 < cLine →
      1 ≤ nn → nn ≤ 3 → AllBare s.gens → (lr, listOf [Value.ref tp].toArray n1) ∈ news → (tp, tupO [.str (Str.ofString "P") t5, .int 1 t6] n2) ∈ news → (lf, listOf #[] n3) ∈ news →
      (∀ h' tk' gs mo l news', Fr h₀ L h' m → News h₀ L h' news' → (∀ y ∈ news, y ∈ news') → AllBare gs → Mdl w news' mo (nn : Int) l → Q (.ref mo) { s with heap := h', toks := tk', gens := gs }) →
      wpAny (model PySem.Challenge.rw_ui0505_06.row.prog w) (ktrTop dp un gd cn cs L a ccd cl outer) (call (.ref 165) [.int (nn : Int) t, .ref lr, .ref lf, .int v u]) Q E s := by
  k_fill
  k_with_none
  k_with "steps" => repeat' (first | (k_unfold; (try dsimp only)) | walk1 | (dsimp only; walk1) | (leave1; walk_say "STEP leave1"; try dsimp only) | k_extra "mine")
  k_with "spliced" => first | refine args_cons ?_ | refine args_nil ⟨Fr.keep (by assumption) _ _ (by assumption), ?_⟩ | (refine args_nil ?_; try simp only [List.cons_append, List.nil_append])
  k_with "call builtin:len cons nil" => (k_here; (with_reducible show wpAny _ _ (call (Value.builtin "len") [Value.ref _]) _ _ _); k_dflt (refine' lenL (by k_asm) (by k_mem) (by first | (with_reducible assumption) | (simp only [List.length_append, List.length_map, List.length_cons, List.length_nil]; with_reducible rfl)) (by omega) ?_))
  k_with "call ref cons nil" => (k_here; k_dflt (refine' call_cls (by k_asm) (by k_asm) (by k_asm) (by k_is) (by k_is) (by k_is) ?_; k_whole; intro x' d' h' F' N' l1 l2; (try k_lt l1); (try k_lt2 l2); (try k_sweep); walk_at "enter"))
  k_with "call builtin:list.append cons nil" => (k_here; (with_reducible show wpAny _ _ (call (Value.builtin "list.append") [Value.ref _, _]) _ _ _); k_dflt (refine' appendL (by k_asm) (by k_asm) (by k_upd) (by ((try simp only [List.length_append, List.length_map, List.length_cons, List.length_nil]); omega)) ?_; k_whole); intro h' F' N'; (try k_sweep))
  k_with "subscriptTail Attribute Name Attribute ref int" => (k_here; (with_reducible show wpAny _ _ (subscriptTail _ _ (Value.ref _) (Value.int _ _)) _ _ _); k_dflt (refine' itemL (by k_asm) (by with_reducible assumption) (by k_mem) (by with_reducible rfl) (by omega) ?_ (by with_unfolding_all rfl); k_whole))
  k_with "subscriptTail Subscript Attribute Attribute Constant ref int" => (k_here; (with_reducible show wpAny _ _ (subscriptTail _ _ (Value.ref _) (Value.int _ _)) _ _ _); k_dflt (refine' itemT (by k_asm) (by k_mem) (by decide) (by decide) (by rfl) (by rfl) ?_ (by with_unfolding_all rfl) (by intro _; with_unfolding_all rfl)))
  k_with "WhlIf" => first | (with_reducible refine WhlIf.no (by with_reducible assumption) ?_) | (with_reducible refine WhlIf.yes (by with_reducible assumption) ?_)
  k_with "exec While Compare cons nil" => (k_here; (with_reducible refine whl_start 100 ?_))
  k_with "subscriptTail Name Constant ref int" => (k_here; (with_reducible show wpAny _ _ (subscriptTail _ _ (Value.ref _) (Value.int _ _)) _ _ _); k_dflt (refine' itemT (by k_asm) (by k_mem) (by decide) (by decide) (by rfl) (by rfl) ?_ (by with_unfolding_all rfl) (by intro _; with_unfolding_all rfl)))
  k_with "exec For Name Call cons nil" => (k_here; (rename Fr _ _ _ _ => lF'); (with_unfolding_all refine' For_gen lF' (by exact rfl) (by exact rfl) ?_ (by exact fun _ => rfl) (by first | passes_own | with_unfolding_all passes_own)); k_whole)
  k_with "call ref cons nil" => (k_here; (with_reducible show wpAny _ _ (call (Value.ref 158) _) _ _ _); k_dflt (refine' tuples_K (by with_reducible assumption) (by k_asm) (by k_asm) (by first | ktr_room | omega) (by k_asm) (by k_asm) ?_; intro h' tk' ga' px' gs' F' N' ap' S' hb' hig'; (try k_sweep)))
  k_with "pyIter ref" => (k_here; k_dflt (refine' wpAny_pyIter_gen (by assumption) ?_))
  k_with "eval Dict nil nil" => (k_here; k_dflt (refine' newDict_K (by k_asm) (by k_asm) (TopRead.nolimit (by k_asm)) ?_; k_whole); intro dm h' om F' N' l1m lo' hs' fs' hi' fi'; (try (have hZ := hRd; clear hZ; k_lt l1m)); (try k_sweep))
  k_with "call type:set nil nil" => (k_here; k_dflt (refine kse_new (by k_asm) (by k_asm) ?_); intro S h' led F' N' l1s hs' hz'; (try k_sweep))
  k_with "call builtin:set.add cons nil" => (k_here; k_dflt (refine' addK (by k_asm) (by k_asm) (by k_updF) (by k_mem) (by assumption) (by assumption) (by first | decide | ktr_units | units_room) (by assumption) ?_); intro h' tk' F' N'; (try dsimp only at N'); (try k_sweep))
  k_with "getMethod ref" => (k_here; (with_reducible show wpAny _ _ (getMethod (Value.ref S) _ _) _ _ _); k_dflt (refine' get_add (by k_asm) (by k_mem) ?_))
  k_with "setItem ref ref" => (k_here; k_dflt (refine' one_store (by k_asm) (by k_asm) (by k_updF) (by assumption) (by k_mem) (by first | decide | ktr_units | units_room) ?_); intro h' tk' od F' N' hOne; (try dsimp only at N'); (try k_sweep))
  k_with "truthy ref" => (k_here; (with_reducible show wpAny _ _ (truthy (Value.ref _)) _ _ _); k_dflt (first | refine' one_truthK (by k_asm) (by assumption) (by k_mem) (by assumption) (by k_mem) ?_ | refine' emp_truthK (by k_asm) (by assumption) (by k_mem) (by assumption) ?_))
  k_with "call type:dict cons nil" => (k_here; first | (k_dflt (refine' one_copyK (by k_asm) (by k_asm) (TopRead.nolimit (by k_asm)) (by assumption) (by k_mem) (by assumption) (by k_mem) ?_); intro rd h' rod F' N' lrd srd hRd; (try k_lt lrd)) | (k_dflt (refine' emp_copyK (by k_asm) (by k_asm) (TopRead.nolimit (by k_asm)) ⟨_, by assumption, by k_mem, [], by assumption, by assumption⟩ ?_); intro fd h' F' N' lfd sfd; (try k_lt lfd)); (try k_sweep))
  intro dp un gd cn cs a ccd cl outer A₀ base h₀ L m news s nn v lr lf tp n1 n2 n3 t u t5 t6 Q E B F X N T hk hd hu h1n hn3 hbr hlr htp hlf hret
  have hlt1 : decide ((nn : Int) < 1) = false := decide_eq_false (by omega)
  refine wpAny_call ?_
  k_dflt (walk_at "enter")
  k_extra "steps"
  rename Fr _ _ _ _ => F1
  rename News _ _ _ _ => N1
  rename Obj.IsDictOf (PySem.strKind _ _) _ [] => hsd
  have hEd := emp_of hsd
  refine For_one (by exact rfl) F1 ?_ (by exact fun _ => rfl) (by first | passes_own | with_unfolding_all passes_own)
  k_extra "steps"
  refine ⟨lr, tp, n1, _, _, rfl, F1, N1, List.mem_cons_of_mem _ hlr, ?_⟩
  intro h tk own hap hoc F2 N2
  clear F1 N1 F N
  k_extra "steps"
  rename Fr _ _ _ _ => F3
  rename News _ _ _ _ => N3
  have hdm : ∀ y ∈ news ++ own, y.1 ≠ dm := fun y hy => (List.mem_append.mp hy).elim (allLt_ne (allLt_of l1m) y) fun h => hap y h (dm, om) List.mem_cons_self
  have hSb : ∀ y ∈ (dm, om) :: (news ++ own), y.1 ≠ S := allLt_ne (allLt_of l1s)
  have F4 := frc F3 (nj_eq (v := v) (tv := u) rfl)
  refine ⟨ga', nn, q, p, loose, mean, mg, mb, NJ ((dm, om) :: (news ++ own)) S led _, _, _, px', rfl, ⟨rfl, by first | ktr_room | (show dp + 1 + 8 * 2 + 16 < recursionLimit; omega)⟩, h1n, hn3, P, by k_asm, by k_asm, F4, N3, ap', S', hb' hbr, ⟨[], 0, _, v, u, _, rfl, rfl, by decide, by simp, by simp, fun y hy => hy, hSb⟩, ?turn, ?done⟩
  case turn =>
    clear F3 N3 F4
    rintro k m₁ front px h tk gs b n t hk ⟨l, ep, rest, v', tv, ov, rfl, rfl, h8, hlt, hl, hbs, hoff⟩ F4 N4 ap4 hb4
    rw [upm_upm] at F4
    have hS4 : ∀ y ∈ rest ++ px, y.1 ≠ S := fun y hy => (List.mem_append.mp hy).elim (hoff y) fun h e => ap4 (S, set3 l ep led) (List.mem_cons_of_mem _ List.mem_cons_self) y h e.symm
    have hbS : @Ne Nat b S := Ne.symm (hb4 (S, set3 l ep led) List.mem_cons_self)
    replace N4 : News _ _ h ((b, tupO [.int (k : Int) t] n) :: (S, set3 l ep led) :: (rest ++ px)) := N4
    obtain ⟨fit, add, h8'⟩ := add6 h8 (by omega) hlt
    have hz : l.length + 1 ≤ sizeLine := by
      have h9 := all8_len h8
      rw [List.length_map] at h9
      rw [sizeLine_eq]; omega
    cases hbit : (Int.fmod v' 2 == 1) with
    | true =>
      k_extra "steps"
      rename Fr _ _ _ _ => F9
      rename News _ _ _ _ => N9
      have hap9 : Apart ((S, set3 (l ++ [((k : Int), b)]) (ep + 1) led) :: (b, tupO [.int (k : Int) t] n) :: rest) px := by
        intro x hx y hy
        rcases List.mem_cons.mp hx with rfl | hx
        · exact ap4 (S, set3 l ep led) (List.mem_cons_of_mem _ List.mem_cons_self) y hy
        · rcases List.mem_cons.mp hx with rfl | hx
          · exact ap4 (b, tupO [.int (k : Int) t] n) List.mem_cons_self y hy
          · exact ap4 x (List.mem_cons_of_mem _ (List.mem_cons_of_mem _ hx)) y hy
      refine ⟨rfl, _, _, _, (S, set3 (l ++ [((k : Int), b)]) (ep + 1) led) :: (b, tupO [.int (k : Int) t] n) :: rest, rfl, frc F9 nj_map, nsub N9 fun x hx => ?_, hap9, ⟨l ++ [((k : Int), b)], ep + 1, (b, tupO [.int (k : Int) t] n) :: rest, _, _, some (.ref b), rfl, rfl, ?_, ?_, ?_, fun y hy => List.mem_cons_of_mem _ (hbs y hy), ?_⟩⟩
      · rcases List.mem_cons.mp hx with rfl | hx
        · exact List.mem_cons_of_mem _ List.mem_cons_self
        · rcases List.mem_cons.mp hx with rfl | hx
          · exact List.mem_cons_self
          · exact List.mem_cons_of_mem _ (List.mem_cons_of_mem _ hx)
      · simpa using h8'
      · intro x hx
        rw [List.map_append] at hx
        rcases List.mem_append.mp hx with hx | hx
        · have := hlt x hx
          omega
        · have : x = (k : Int) := by simpa using hx
          omega
      · intro p9 hp9
        rcases List.mem_append.mp hp9 with hp9 | hp9
        · obtain ⟨t9, n9, h9⟩ := hl p9 hp9
          exact ⟨t9, n9, List.mem_cons_of_mem _ h9⟩
        · rw [List.mem_singleton.mp hp9]
          exact ⟨t, n, List.mem_cons_self⟩
      · intro y hy
        rcases List.mem_cons.mp hy with rfl | hy
        · exact hbS
        · exact hoff y hy
    | false =>
      k_extra "steps"
      rename Fr _ _ _ _ => F9
      rename News _ _ _ _ => N9
      have hap9 : Apart ((S, set3 l ep led) :: (b, tupO [.int (k : Int) t] n) :: rest) px := by
        intro x hx y hy
        rcases List.mem_cons.mp hx with rfl | hx
        · exact ap4 (S, set3 l ep led) (List.mem_cons_of_mem _ List.mem_cons_self) y hy
        · rcases List.mem_cons.mp hx with rfl | hx
          · exact ap4 (b, tupO [.int (k : Int) t] n) List.mem_cons_self y hy
          · exact ap4 x (List.mem_cons_of_mem _ (List.mem_cons_of_mem _ hx)) y hy
      refine ⟨rfl, _, _, _, (S, set3 l ep led) :: (b, tupO [.int (k : Int) t] n) :: rest, rfl, frc F9 nj_map, nsub N9 fun x hx => ?_, hap9, ⟨l, ep, (b, tupO [.int (k : Int) t] n) :: rest, _, _, some (.ref b), rfl, rfl, ?_, ?_, ?_, fun y hy => List.mem_cons_of_mem _ (hbs y hy), ?_⟩⟩
      · rcases List.mem_cons.mp hx with rfl | hx
        · exact List.mem_cons_of_mem _ List.mem_cons_self
        · rcases List.mem_cons.mp hx with rfl | hx
          · exact List.mem_cons_self
          · exact List.mem_cons_of_mem _ (List.mem_cons_of_mem _ hx)
      · exact h8
      · intro x hx
        have := hlt x hx
        omega
      · intro p9 hp9
        obtain ⟨t9, n9, h9⟩ := hl p9 hp9
        exact ⟨t9, n9, List.mem_cons_of_mem _ h9⟩
      · intro y hy
        rcases List.mem_cons.mp hy with rfl | hy
        · exact hbS
        · exact hoff y hy
  case done =>
    clear F3 N3 F4
    rintro h tk gs m' front F4 N4 ⟨l, ep, rest, v', tv, ov, rfl, rfl, h8, hlt, hl, hbs, hoff⟩ b4
    have hdmr : (dm, om) ∈ rest := hbs _ List.mem_cons_self
    have hcd : om.cls = .type "dict" := let ⟨_, hx, _⟩ := hEd; hx.1
    have hnr : ∀ y ∈ news, y ∈ off dm rest := fun y hy => mem_off.mpr ⟨hbs _ (List.mem_cons_of_mem _ (List.mem_append_left _ hy)), hdm y (List.mem_append_left _ hy)⟩
    have hor : ∀ y ∈ own, y ∈ off dm rest := fun y hy => mem_off.mpr ⟨hbs _ (List.mem_cons_of_mem _ (List.mem_append_right _ hy)), hdm y (List.mem_append_right _ hy)⟩
    have hl5 : ∀ p ∈ l, ∃ (t : Tok) (n : Nat), (p.2, tupO [.int p.1 t] n) ∈ off dm rest ∧ ∀ o ∈ own, o.1 ≠ p.2 := fun p hp => by
      obtain ⟨t, n, hm⟩ := hl p hp
      refine ⟨t, n, mem_off.mpr ⟨hm, nne Obj.cls N4 (List.mem_cons_of_mem _ hm) (List.mem_cons_of_mem _ hdmr) (by rw [hcd]; exact tup_dict)⟩, fun o ho => nne Obj.cls N4 (List.mem_cons_of_mem _ (mem_off.mp (hor o ho)).1) (List.mem_cons_of_mem _ hm) (by rw [hoc o ho]; show Value.type "list_iterator" ≠ Value.type "tuple"; decide)⟩
    have hr5 : ∀ y ∈ off dm rest, y.1 ≠ dm := off_ne
    have hS5 : ∀ y ∈ off dm rest, y.1 ≠ S := fun y hy => hoff y (mem_off.mp hy).1
    have N5 : News _ _ h ((dm, om) :: (S, set3 l ep led) :: off dm rest) := nsub N4 fun x hx => by
      rcases List.mem_cons.mp hx with rfl | hx
      · exact List.mem_cons_of_mem _ hdmr
      · rcases List.mem_cons.mp hx with rfl | hx
        · exact List.mem_cons_self
        · exact List.mem_cons_of_mem _ (mem_off.mp hx).1
    have hdS : @Ne Nat dm S := hSb (dm, om) List.mem_cons_self
    generalize off dm rest = r5 at N5 hr5 hS5 hl5 hor hnr
    clear N4 hdmr hbs hl hoff
    k_extra "steps"
    rename Fr _ _ _ _ => F9
    rename News _ _ _ _ => N9
    rename AllLt _ r5 => l9
    obtain ⟨D, l10, e9⟩ : ∃ D : Addr, AllLt D r5 ∧ D = _ := ⟨_, l9, rfl⟩
    subst e9
    have mfil : ∀ {y : Addr × Obj}, y ∈ r5.filter (fun y => own.all fun o => decide (@Ne Nat o.1 y.1)) ↔ y ∈ r5 ∧ ∀ o ∈ own, o.1 ≠ y.1 := by
      intro y
      simp [List.mem_filter, List.all_eq_true]
    have hnr6 : ∀ y ∈ news, y ∈ r5.filter (fun y => own.all fun o => decide (@Ne Nat o.1 y.1)) := fun y hy => mfil.mpr ⟨hnr y hy, fun o ho => hap o ho y (List.mem_cons_of_mem _ hy)⟩
    have hl6 : ∀ p ∈ l, ∃ (t : Tok) (n : Nat), (p.2, tupO [.int p.1 t] n) ∈ r5.filter (fun y => own.all fun o => decide (@Ne Nat o.1 y.1)) := fun p hp => by
      obtain ⟨t, n, h1, h2⟩ := hl5 p hp
      exact ⟨t, n, mfil.mpr ⟨h1, h2⟩⟩
    have hr6 : ∀ y ∈ r5.filter (fun y => own.all fun o => decide (@Ne Nat o.1 y.1)), y ∈ r5 := fun y hy => (mfil.mp hy).1
    have ho6 : ∀ o ∈ own, ∀ y ∈ r5.filter (fun y => own.all fun o => decide (@Ne Nat o.1 y.1)), o.1 ≠ y.1 := fun o ho y hy => (mfil.mp hy).2 o ho
    generalize r5.filter (fun y => own.all fun o => decide (@Ne Nat o.1 y.1)) = r6 at hnr6 hl6 hr6 ho6
    refine ⟨rfl, _, _, gs, _, _, (D, tupO [.str (Str.ofString "P") t5, .int 1 t6] 0) :: (dm, od) :: (S, set3 l ep led) :: r6, rfl, F9, N9, fun x hx => ?_, fun x hx => List.mem_cons_of_mem _ (List.mem_cons_of_mem _ (List.mem_cons_of_mem _ (hor x hx))), fun x hx y hy => ?_, List.mem_cons_of_mem _ (List.mem_cons_of_mem _ (List.mem_cons_of_mem _ (hnr6 _ hlr))), fun h2 tk2 F10 N10 => ?_⟩
    · rcases List.mem_cons.mp hx with rfl | hx
      · exact List.mem_cons_self
      · rcases List.mem_cons.mp hx with rfl | hx
        · exact List.mem_cons_of_mem _ List.mem_cons_self
        · rcases List.mem_cons.mp hx with rfl | hx
          · exact List.mem_cons_of_mem _ (List.mem_cons_of_mem _ List.mem_cons_self)
          · exact List.mem_cons_of_mem _ (List.mem_cons_of_mem _ (List.mem_cons_of_mem _ (hr6 x hx)))
    · rcases List.mem_cons.mp hy with rfl | hy
      · exact allLt_ne l10 x (hor x hx)
      · rcases List.mem_cons.mp hy with rfl | hy
        · exact hr5 x (hor x hx)
        · rcases List.mem_cons.mp hy with rfl | hy
          · exact hS5 x (hor x hx)
          · exact ho6 x hx y hy
    · clear F9 N9
      k_extra "steps"
      rename Fr _ _ _ _ => F11
      rename News _ _ _ _ => N11
      refine For_none (by exact rfl) F11 ?_ (by exact fun _ => rfl)
      k_extra "steps"
      rename Fr _ _ _ _ => F12
      rename News _ _ _ _ => N12
      refine ⟨lf, n3, _, _, rfl, F12, N12, List.mem_cons_of_mem _ (List.mem_cons_of_mem _ (List.mem_cons_of_mem _ (List.mem_cons_of_mem _ (hnr6 _ hlf)))), fun h3 tk3 F13 N13 => ?_⟩
      clear F12 N12 hr5 hS5 hl5 hor hnr hap hoc ho6 hr6 mfil
      k_extra "steps"
      rename Fr _ _ _ _ => F14
      rename News _ _ _ _ => N14
      refine hret _ _ gs x' l _ F14 N14 (fun y hy => ?_) b4 ⟨d', rd, fd, D, S, rod, _, _, _, _, _, _, _, ep, led, by k_mem, by k_mem, by k_mem, hRd, srd, by k_mem, by k_mem, ⟨h8, fun p hp => ?_⟩⟩
      · have h9 := hnr6 y hy
        clear hy
        repeat (first | exact h9 | refine List.mem_cons_of_mem _ ?_)
      · obtain ⟨t, n, h9⟩ := hl6 p hp
        refine ⟨t, n, ?_⟩
        repeat (first | exact h9 | refine List.mem_cons_of_mem _ ?_)
/-- so many things are in the rows -/
def cnt (l : List Int) (k : Nat) : Nat := ((List.range k).filter fun (j : Nat) => decide ((j : Int) ∈ l)).length
theorem cnt_succ (l : List Int) (k : Nat) : cnt l (k + 1) = if (k : Int) ∈ l then cnt l k + 1 else cnt l k := by
  unfold cnt
  rw [List.range_succ, List.filter_append, List.length_append]
  by_cases h : (k : Int) ∈ l <;> simp [h]
theorem cnt_le (l : List Int) (k : Nat) : cnt l k ≤ k := by
  have := List.length_filter_le (fun (j : Nat) => decide ((j : Int) ∈ l)) (List.range k)
  rw [List.length_range] at this
  exact this
/-- the answers so far -/
def AJ (l : List Int) (base : List (Addr × Obj)) (out : Addr) (mB : Str → Option Value) (k : Nat) (m : Str → Option Value) (front : List (Addr × Obj)) : Prop :=
  ∃ (vs : List Value) (n : Nat) (rest : List (Addr × Obj)) (ov gv kv : Option Value), front = (out, listOf vs.toArray n) :: rest ∧ m = upm (Str.ofString "row") ov (upm (Str.ofString "given") gv (upm (Str.ofString "k") kv mB)) ∧
    vs.length = cnt l k ∧ (∀ y ∈ base, y ∈ rest) ∧ (∀ y ∈ rest, y.1 ≠ out)
theorem upm_swap {m : Str → Option Value} {a b : Option Value} {x y : Str} (h : x ≠ y) : upm x a (upm y b m) = upm y b (upm x a m) := by
  funext z
  simp only [upm]
  by_cases h1 : z = x <;> by_cases h2 : z = y <;> simp_all
theorem aj_given {m : Str → Option Value} {a b c d : Option Value} : upm (Str.ofString "given") d (upm (Str.ofString "row") a (upm (Str.ofString "given") b (upm (Str.ofString "k") c m))) = upm (Str.ofString "row") a (upm (Str.ofString "given") d (upm (Str.ofString "k") c m)) := by
  rw [upm_swap (by decide), upm_upm]
theorem aj_k {m : Str → Option Value} {a b c d : Option Value} : upm (Str.ofString "k") d (upm (Str.ofString "row") a (upm (Str.ofString "given") b (upm (Str.ofString "k") c m))) = upm (Str.ofString "row") a (upm (Str.ofString "given") b (upm (Str.ofString "k") d m)) := by
  rw [upm_swap (by decide), upm_swap (x := Str.ofString "k") (y := Str.ofString "given") (by decide), upm_upm]
theorem ans_ok (w : World) (p : Program) (loose : List Str) (mean : ExcName → Option Value) (mg mb : Str → Option Value) {q : Nat → Pos} (P : TupIs w q) :
    ∀ (dp un : Nat) (gd : Option (List Code)) (cn : Str) (cs : Scope) (a : Addr) (ccd : Value) (cl : List (Str × Addr)) (outer : List Env) (A₀ : Around) (base h₀ : Heap) (L : Addr) (m : Str → Option Value) (news : List (Addr × Obj)) (s : Shared) (mo : Addr) (nn : Nat) (l : List (Int × Addr)) (fv : Value) (Q E : Value → Shared → Prop),
      Below A₀ base outer h₀ → Fr h₀ L s.heap m → (K06 w.params).In h₀ → News h₀ L s.heap news → Top p loose mean mg mb h₀ → cs.kind = .function → dp + 60 < recursionLimit → un + 500 < cLine →
      1 ≤ nn → nn ≤ 3 → AllBare s.gens → Mdl w news mo (nn : Int) l → FIs news fv .atomx →
      (∀ h' tk' gs lo (vs : List Value) n news', Fr h₀ L h' m → News h₀ L h' news' → (∀ y ∈ news, y ∈ news') → AllBare gs → (lo, listOf vs.toArray n) ∈ news' → vs.length = cnt (l.map (·.1)) nn → Q (.ref lo) { s with heap := h', toks := tk', gens := gs }) →
      wpAny (model PySem.Challenge.rw_ui0505_06.row.prog w) (ktrTop dp un gd cn cs L a ccd cl outer) (call (.ref 137) [.ref mo, fv]) Q E s := by
  k_fill
  k_with_none
  k_with "steps" => repeat' (first | (k_unfold; (try dsimp only)) | walk1 | (dsimp only; walk1) | (leave1; walk_say "STEP leave1"; try dsimp only) | k_extra "mine")
  k_with "spliced" => first | refine args_cons ?_ | refine args_nil ⟨Fr.keep (by assumption) _ _ (by assumption), ?_⟩ | (refine args_nil ?_; try simp only [List.cons_append, List.nil_append])
  k_with "call builtin:len cons nil" => (k_here; (with_reducible show wpAny _ _ (call (Value.builtin "len") [Value.ref _]) _ _ _); k_dflt (refine' lenL (by k_asm) (by k_mem) (by first | (with_reducible assumption) | (simp only [List.length_append, List.length_map, List.length_cons, List.length_nil]; with_reducible rfl)) (by omega) ?_))
  k_with "call ref cons nil" => (k_here; k_dflt (refine' call_cls (by k_asm) (by k_asm) (by k_asm) (by k_is) (by k_is) (by k_is) ?_; k_whole; intro x' d' h' F' N' l1 l2; (try k_lt l1); (try k_lt2 l2); (try k_sweep); walk_at "enter"))
  k_with "call builtin:list.append cons nil" => (k_here; (with_reducible show wpAny _ _ (call (Value.builtin "list.append") [Value.ref _, _]) _ _ _); k_dflt (refine' appendL (by k_asm) (by k_asm) (by k_upd) (by ((try simp only [List.length_append, List.length_map, List.length_cons, List.length_nil]); omega)) ?_; k_whole); intro h' F' N'; (try k_sweep))
  k_with "subscriptTail Attribute Name Attribute ref int" => (k_here; (with_reducible show wpAny _ _ (subscriptTail _ _ (Value.ref _) (Value.int _ _)) _ _ _); k_dflt (refine' itemL (by k_asm) (by with_reducible assumption) (by k_mem) (by with_reducible rfl) (by omega) ?_ (by with_unfolding_all rfl); k_whole))
  k_with "subscriptTail Subscript Attribute Attribute Constant ref int" => (k_here; (with_reducible show wpAny _ _ (subscriptTail _ _ (Value.ref _) (Value.int _ _)) _ _ _); k_dflt (refine' itemT (by k_asm) (by k_mem) (by decide) (by decide) (by rfl) (by rfl) ?_ (by with_unfolding_all rfl) (by intro _; with_unfolding_all rfl)))
  k_with "WhlIf" => first | (with_reducible refine WhlIf.no (by with_reducible assumption) ?_) | (with_reducible refine WhlIf.yes (by with_reducible assumption) ?_)
  k_with "exec While Compare cons nil" => (k_here; (with_reducible refine whl_start 100 ?_))
  k_with "subscriptTail Name Constant ref int" => (k_here; (with_reducible show wpAny _ _ (subscriptTail _ _ (Value.ref _) (Value.int _ _)) _ _ _); k_dflt (refine' itemT (by k_asm) (by k_mem) (by decide) (by decide) (by rfl) (by rfl) ?_ (by with_unfolding_all rfl) (by intro _; with_unfolding_all rfl)))
  k_with "exec For Name Call cons nil" => (k_here; (rename Fr _ _ _ _ => lF'); first | ((fail_if_success (have hZ := hTurn)); (with_unfolding_all refine' For_gen lF' (by exact rfl) (by exact rfl) ?_ (by exact fun _ => rfl) (by first | passes_own | with_unfolding_all passes_own)); k_whole) | ((with_unfolding_all refine' For_invVF lF' (by exact rfl) (by exact rfl) ?_ (by exact fun _ => rfl) (by first | passes_own | with_unfolding_all passes_own)); k_whole))
  k_with "call ref cons nil" => (k_here; (with_reducible show wpAny _ _ (call (Value.ref 90) _) _ _ _); k_dflt (refine' free_ok _ _ _ _ _ _ _ _ _ _ _ _ _ _ _ _ _ _ _ _ _ _ _ _ _ (by k_asm) (by k_asm) (by k_asm) (by k_asm) (by k_asm) (by first | rfl | assumption) (by first | decide | omega | ktr_room) (by first | decide | omega | ktr_units) (FIs.mono (by assumption) (fun q9 hq9 => by repeat (first | exact hq9 | refine List.mem_cons_of_mem _ ?_))) ?_; intro h' tk' lf' nf' tf' l9' F' N'; (try k_sweep); (try dsimp only)))
  k_with "call ref cons nil" => (k_here; (with_reducible show wpAny _ _ (call (Value.ref 158) _) _ _ _); k_dflt (refine' tuples_K (by with_reducible assumption) (by k_asm) (by k_asm) (by first | ktr_room | omega) (by k_asm) (by k_asm) ?_; intro h' tk' ga' px' gs' F' N' ap' S' hb' hig'; (try k_sweep)))
  k_with "pyIter ref" => (k_here; first | (k_dflt (refine' wpAny_pyIter_gen (by assumption) ?_)) | (with_reducible refine halt ?_))
  k_with "eval Dict nil nil" => (k_here; k_dflt (refine' newDict_K (by k_asm) (by k_asm) (TopRead.nolimit (by k_asm)) ?_; k_whole); intro dm h' om F' N' l1m lo' hs' fs' hi' fi'; (try k_sweep))
  k_with "setItem ref str" => (k_here; k_dflt (refine' gv_set (by k_asm) (by k_asm) (by k_updF) (by assumption) (by assumption) ?_); intro h' o' F' N' hg'; (try dsimp only at N'); (try k_sweep))
  k_with "call ref cons nil" => (k_here; (with_reducible show wpAny _ _ (call (Value.ref 123) _) _ _ _); k_dflt (refine' holds_atm _ _ _ _ _ _ _ _ _ _ _ _ _ _ _ _ _ _ _ _ _ _ _ _ _ _ _ _ _ _ (by k_asm) (by k_asm) (by k_asm) (by k_asm) (by k_asm) (by first | rfl | assumption) (by rw [hsz]; first | ktr_room | (show dp + 1 + 40 + 2 * 1 < recursionLimit; omega)) (by rw [hsz]; first | ktr_units | (show un + _ + 280 + 8 * 1 < cLine; omega)) (Mdl.mono (by assumption) (fun q9 hq9 => by repeat (first | exact hq9 | refine List.mem_cons_of_mem _ ?_))) (by exact ⟨_, by assumption, by k_mem, by assumption⟩) (by exact ⟨by assumption, by assumption⟩) (FIs.mono (by assumption) (fun q9 hq9 => by repeat (first | exact hq9 | refine List.mem_cons_of_mem _ ?_))) ?_; intro h' tk' F' N'; (try k_sweep); (try rw [hb9]); (try dsimp only)))
  k_with "subscriptTail Name Name ref int" => (k_here; (with_reducible show wpAny _ _ (subscriptTail _ _ (Value.ref _) (Value.int _ _)) _ _ _); k_dflt (first | refine' itemT (j := 0) (by k_asm) (by k_mem) (by decide) (by decide) (by rfl) (by rfl) ?_ (by with_unfolding_all rfl) (by intro _; with_unfolding_all rfl) | refine' itemL (vs := [_]) (i := 0) (by k_asm) (by rfl) (by k_mem) (by rfl) (by decide) ?_ (by with_unfolding_all rfl)))
  intro dp un gd cn cs a ccd cl outer A₀ base h₀ L m news s mo nn l fv Q E B F X N T hk hd hu h1n hn3 hbr hM hF hret
  have hM0 := hM
  obtain ⟨md, rd, fd, key, S, od, t1, t2, t3, t4, t5, t6, n, ep, led, hM1⟩ := hM
  have m1 := hM1.hmo
  have m2 := hM1.hmd
  clear hM1
  refine wpAny_call ?_
  k_dflt (walk_at "enter")
  k_extra "steps"
  rename Fr _ _ _ _ => F3
  rename News _ _ _ _ => N3
  rename AllLt _ news => r9
  obtain ⟨out, r8, e9⟩ : ∃ out : Addr, AllLt out news ∧ out = _ := ⟨_, r9, rfl⟩
  subst e9
  have hbo : ∀ y ∈ (lf', listOf #[.str (Str.ofString "x") tf'] nf') :: news, y.1 ≠ out := fun y hy => by
    rcases List.mem_cons.mp hy with rfl | hy
    · exact Nat.ne_of_lt (by assumption)
    · exact allLt_ne r8 y hy
  clear r9
  refine ⟨ga', nn, q, p, loose, mean, mg, mb, AJ (l.map (·.1)) ((lf', listOf #[.str (Str.ofString "x") tf'] nf') :: news) out _, _, _, px', rfl, ⟨rfl, by first | ktr_room | (show dp + 1 + 8 * 2 + 16 < recursionLimit; omega)⟩, h1n, hn3, P, by k_asm, by k_asm, F3, N3, ap', S', hb' hbr, ⟨[], 0, _, _, _, _, rfl, by rw [upm_self, upm_self, upm_self], rfl, fun y hy => hy, hbo⟩, ?turn, ?done⟩
  case turn =>
    clear F3 N3
    have hTurn : True := trivial
    rintro k m₁ front px h tk gs b n t hk ⟨vs, n0, rest, ov, gv, kv, rfl, rfl, hv, hbs, hoff⟩ F4 N4 ap4 hb4
    rw [upm_upm] at F4
    have hlm : (lf', listOf #[.str (Str.ofString "x") tf'] nf') ∈ rest := hbs _ List.mem_cons_self
    have hM4 : Mdl w rest mo (nn : Int) l := hM0.mono fun y hy => hbs y (List.mem_cons_of_mem _ hy)
    have hF4 : FIs rest fv .atomx := hF.mono fun y hy => hbs y (List.mem_cons_of_mem _ hy)
    have m3 : (mo, instObj 147 md) ∈ rest := hbs _ (List.mem_cons_of_mem _ m1)
    have m4 := hbs _ (List.mem_cons_of_mem _ m2)
    k_extra "steps"
    rename IsRange _ _ _ _ _ _ _ _ => R1
    rename News _ _ _ _ => N5
    rename Fr _ _ _ _ => F5
    have hb5 : ∀ y ∈ (out, listOf vs.toArray n0) :: (b, tupO [.int (k : Int) t] n) :: (rest ++ px), y.1 ≠ dm := fun y hy => Nat.ne_of_lt (l1m y (by
      rcases List.mem_cons.mp hy with rfl | hy
      · exact List.mem_cons_of_mem _ List.mem_cons_self
      · rcases List.mem_cons.mp hy with rfl | hy
        · exact List.mem_cons_self
        · exact List.mem_cons_of_mem _ (List.mem_cons_of_mem _ hy)))
    have ho5 : ∀ y ∈ (b, tupO [.int (k : Int) t] n) :: (rest ++ px), y.1 ≠ out := fun y hy => by
      rcases List.mem_cons.mp hy with rfl | hy
      · exact Ne.symm (hb4 _ List.mem_cons_self)
      · rcases List.mem_append.mp hy with hy | hy
        · exact hoff y hy
        · exact fun e => ap4 (out, listOf vs.toArray n0) (List.mem_cons_of_mem _ List.mem_cons_self) y hy e.symm
    have N6 : News _ _ _ ((dm, om) :: (out, listOf vs.toArray n0) :: (b, tupO [.int (k : Int) t] n) :: (rest ++ px)) := nsub N5 fun y hy => by
      rcases List.mem_cons.mp hy with rfl | hy
      · exact List.mem_cons_self
      · rcases List.mem_cons.mp hy with rfl | hy
        · exact List.mem_cons_of_mem _ (List.mem_cons_of_mem _ List.mem_cons_self)
        · rcases List.mem_cons.mp hy with rfl | hy
          · exact List.mem_cons_of_mem _ List.mem_cons_self
          · exact List.mem_cons_of_mem _ (List.mem_cons_of_mem _ (List.mem_cons_of_mem _ hy))
    have F6 := frc F5 (fun y => congrFun aj_given y)
    clear F5 N5
    unfold Halt
    refine rng_iter (x := Str.ofString "k") (fun i m' nx => (∃ kv, m' = upm (Str.ofString "row") (some (.ref b)) (upm (Str.ofString "given") (some (.ref dm)) (upm (Str.ofString "k") kv _))) ∧ ∃ o c, nx = (dm, o) :: (out, listOf vs.toArray n0) :: (b, tupO [.int (k : Int) t] n) :: (rest ++ px) ∧ GivenC PySem.Challenge.rw_ui0505_06.row.prog w o c ∧ (i = 0 ∧ c = [] ∨ i = 1 ∧ c = xIs k)) (by exact rfl) R1 (by omega) F6 N6 ⟨⟨kv, rfl⟩, om, [], rfl, ⟨[], hs', fs'⟩, .inl ⟨rfl, rfl⟩⟩ ?rt ?rd
    case rt =>
      clear F6 N6
      rintro i m₁ news₁ h tk own t9 hi hof2 ⟨⟨kv, rfl⟩, o, c, rfl, hgc, ⟨rfl, rfl⟩ | ⟨rfl, _⟩⟩ F7 N7
      · have F8 := frc F7 (fun y => congrFun aj_k y)
        have hlm8 : (lf', listOf #[.str (Str.ofString "x") tf'] nf') ∈ ((out, listOf vs.toArray n0) :: (b, tupO [.int (k : Int) t] n) :: (rest ++ px)) ++ own := List.mem_append_left _ (List.mem_cons_of_mem _ (List.mem_cons_of_mem _ (List.mem_append_left _ hlm)))
        have hbm8 : (b, tupO [.int (k : Int) t] n) ∈ ((out, listOf vs.toArray n0) :: (b, tupO [.int (k : Int) t] n) :: (rest ++ px)) ++ own := List.mem_append_left _ (List.mem_cons_of_mem _ List.mem_cons_self)
        have hd8 : ∀ y ∈ ((out, listOf vs.toArray n0) :: (b, tupO [.int (k : Int) t] n) :: (rest ++ px)) ++ own, y.1 ≠ dm := fun y hy => (List.mem_append.mp hy).elim (hb5 y) fun h e => hof2 y h (dm, o) List.mem_cons_self e
        have hs8 : ∀ y ∈ (out, listOf vs.toArray n0) :: (b, tupO [.int (k : Int) t] n) :: (rest ++ px), y ∈ ((out, listOf vs.toArray n0) :: (b, tupO [.int (k : Int) t] n) :: (rest ++ px)) ++ own := fun y hy => List.mem_append_left _ hy
        have ho8 : ∀ y ∈ own, y ∈ ((out, listOf vs.toArray n0) :: (b, tupO [.int (k : Int) t] n) :: (rest ++ px)) ++ own := fun y hy => List.mem_append_right _ hy
        have N8 : News _ _ h ((dm, o) :: (((out, listOf vs.toArray n0) :: (b, tupO [.int (k : Int) t] n) :: (rest ++ px)) ++ own)) := N7
        clear F7 N7
        generalize ((out, listOf vs.toArray n0) :: (b, tupO [.int (k : Int) t] n) :: (rest ++ px)) ++ own = r8' at N8 hlm8 hbm8 hd8 hs8 ho8
        have hc9 : ([] : List (Str × Int)) = [] ∨ ∃ k0, ([] : List (Str × Int)) = xIs k0 := .inl rfl
        k_extra "steps"
        rename Fr _ _ _ _ => F9
        rename News _ _ _ _ => N9
        refine ⟨_, _, _, _, (dm, o') :: (out, listOf vs.toArray n0) :: (b, tupO [.int (k : Int) t] n) :: (rest ++ px), rfl, F9, N9, fun y hy => ?_, fun y hy => List.mem_cons_of_mem _ (ho8 y hy), fun y hy z hz => ?_, ⟨_, rfl⟩, o', xIs k, rfl, by assumption, .inr ⟨rfl, rfl⟩⟩
        · rcases List.mem_cons.mp hy with rfl | hy
          · exact List.mem_cons_self
          · exact List.mem_cons_of_mem _ (hs8 y hy)
        · rcases List.mem_cons.mp hz with rfl | hz
          · exact hof2 y hy (dm, o) List.mem_cons_self
          · exact hof2 y hy z (List.mem_cons_of_mem _ hz)
      · omega
    case rd =>
      clear F6 N6 R1
      rintro m₁ news₁ h tk ⟨⟨kv, rfl⟩, o, c, rfl, hgc, ⟨h9, _⟩ | ⟨_, rfl⟩⟩ F7 N7
      · exact absurd h9 (by decide)
      have hds : ∀ y ∈ (b, tupO [.int (k : Int) t] n) :: (rest ++ px), y.1 ≠ dm := fun y hy => hb5 y (List.mem_cons_of_mem _ hy)
      have hdo : @Ne Nat out dm := hb5 _ List.mem_cons_self
      have hM7 : Mdl w ((b, tupO [.int (k : Int) t] n) :: (rest ++ px)) mo (nn : Int) l := hM4.mono fun y hy => List.mem_cons_of_mem _ (List.mem_append_left _ hy)
      have hF7 : FIs ((b, tupO [.int (k : Int) t] n) :: (rest ++ px)) fv .atomx := hF4.mono fun y hy => List.mem_cons_of_mem _ (List.mem_append_left _ hy)
      have hrb : ∀ y ∈ rest, y ∈ (b, tupO [.int (k : Int) t] n) :: (rest ++ px) := fun y hy => List.mem_cons_of_mem _ (List.mem_append_left _ hy)
      have hpb : ∀ y ∈ px, y ∈ (b, tupO [.int (k : Int) t] n) :: (rest ++ px) := fun y hy => List.mem_cons_of_mem _ (List.mem_append_right _ hy)
      have hbb : (b, tupO [.int (k : Int) t] n) ∈ (b, tupO [.int (k : Int) t] n) :: (rest ++ px) := List.mem_cons_self
      have m5 := hrb _ m3
      have m6 := hrb _ m4
      clear hM4 hF4 m3 m4 hb5 l1m
      generalize (b, tupO [.int (k : Int) t] n) :: (rest ++ px) = r7 at N7 hds hM7 hF7 hrb hpb hbb ho5 m5 m6
      have hk0 : (0 : Int) ≤ (k : Int) := by omega
      have hk3 : (k : Int) < 3 := by omega
      have hsz : Sf.atomx.size = 1 := by rfl
      have hdo' : @Ne Nat dm out := hdo.symm
      have hvl : vs.length ≤ 1000 := by
        have := cnt_le (l.map (·.1)) k
        omega
      cases hb9 : Sf.atomx.ev (l.map (·.1)) (k : Int) with
      | true =>
        k_extra "steps"
        rename Fr _ _ _ _ => F9
        rename News _ _ _ _ => N9
        have hap9 : Apart ((out, listOf (vs ++ [Value.ref b]).toArray (n0 + 1)) :: (b, tupO [.int (k : Int) t] n) :: rest) px := by
          intro x hx y hy
          rcases List.mem_cons.mp hx with rfl | hx
          · exact ap4 (out, listOf vs.toArray n0) (List.mem_cons_of_mem _ List.mem_cons_self) y hy
          · rcases List.mem_cons.mp hx with rfl | hx
            · exact ap4 (b, tupO [.int (k : Int) t] n) List.mem_cons_self y hy
            · exact ap4 x (List.mem_cons_of_mem _ (List.mem_cons_of_mem _ hx)) y hy
        refine ⟨rfl, _, _, _, (out, listOf (vs ++ [Value.ref b]).toArray (n0 + 1)) :: (b, tupO [.int (k : Int) t] n) :: rest, rfl, F9, nsub N9 fun x hx => ?_, hap9, ⟨vs ++ [Value.ref b], n0 + 1, (b, tupO [.int (k : Int) t] n) :: rest, _, _, _, rfl, rfl, ?_, fun y hy => List.mem_cons_of_mem _ (hbs y hy), fun y hy => ?_⟩⟩
        · rcases List.mem_append.mp hx with hx | hx
          · rcases List.mem_cons.mp hx with rfl | hx
            · exact List.mem_cons_of_mem _ List.mem_cons_self
            · rcases List.mem_cons.mp hx with rfl | hx
              · exact List.mem_cons_of_mem _ (List.mem_cons_of_mem _ hbb)
              · exact List.mem_cons_of_mem _ (List.mem_cons_of_mem _ (hrb x hx))
          · exact List.mem_cons_of_mem _ (List.mem_cons_of_mem _ (hpb x hx))
        · rw [cnt_succ, if_pos (of_decide_eq_true hb9), List.length_append, hv]; rfl
        · rcases List.mem_cons.mp hy with rfl | hy
          · exact Ne.symm (hb4 _ List.mem_cons_self)
          · exact hoff y hy
      | false =>
        k_extra "steps"
        rename Fr _ _ _ _ => F9
        rename News _ _ _ _ => N9
        have hap9 : Apart ((out, listOf (vs).toArray (n0)) :: (b, tupO [.int (k : Int) t] n) :: rest) px := by
          intro x hx y hy
          rcases List.mem_cons.mp hx with rfl | hx
          · exact ap4 (out, listOf vs.toArray n0) (List.mem_cons_of_mem _ List.mem_cons_self) y hy
          · rcases List.mem_cons.mp hx with rfl | hx
            · exact ap4 (b, tupO [.int (k : Int) t] n) List.mem_cons_self y hy
            · exact ap4 x (List.mem_cons_of_mem _ (List.mem_cons_of_mem _ hx)) y hy
        refine ⟨rfl, _, _, _, (out, listOf (vs).toArray (n0)) :: (b, tupO [.int (k : Int) t] n) :: rest, rfl, F9, nsub N9 fun x hx => ?_, hap9, ⟨vs, n0, (b, tupO [.int (k : Int) t] n) :: rest, _, _, _, rfl, rfl, ?_, fun y hy => List.mem_cons_of_mem _ (hbs y hy), fun y hy => ?_⟩⟩
        · rcases List.mem_append.mp hx with hx | hx
          · rcases List.mem_cons.mp hx with rfl | hx
            · exact List.mem_cons_of_mem _ List.mem_cons_self
            · rcases List.mem_cons.mp hx with rfl | hx
              · exact List.mem_cons_of_mem _ (List.mem_cons_of_mem _ hbb)
              · exact List.mem_cons_of_mem _ (List.mem_cons_of_mem _ (hrb x hx))
          · exact List.mem_cons_of_mem _ (List.mem_cons_of_mem _ (hpb x hx))
        · rw [cnt_succ, if_neg (of_decide_eq_false hb9), hv]
        · rcases List.mem_cons.mp hy with rfl | hy
          · exact Ne.symm (hb4 _ List.mem_cons_self)
          · exact hoff y hy
  case done =>
    clear F3 N3
    rintro h tk gs m' front F4 N4 ⟨vs, n0, rest, ov, gv, kv, rfl, rfl, hv, hbs, hoff⟩ b4
    k_extra "steps"
    rename Fr h₀ L _ _ => F9
    rename News h₀ L _ _ => N9
    exact hret _ _ gs out vs n0 _ F9 N9 (fun y hy => List.mem_cons_of_mem _ (hbs y (List.mem_cons_of_mem _ hy))) b4 List.mem_cons_self hv
theorem add16 {prog : Program} {w : World} {A : Around} {E : Value → Shared → Prop} {s : Shared} {Q : Value → Shared → Prop} {c : Int} {t u : Tok} (h : ∀ nn : Nat, 1 ≤ nn → nn ≤ 3 → Q (.int (nn : Int) s.toks) { s with toks := s.toks + 1 }) : wpAny (model prog w) A (binaryOp .Add (.int 1 t) (.int (Int.fmod c 3) u)) Q E s := by
  refine PyProof.Rows.add_int ?_
  have h0 : 0 ≤ c.fmod 3 := Int.fmod_nonneg_of_pos _ (by decide)
  have h1 : c.fmod 3 < 3 := Int.fmod_lt_of_pos _ (by decide)
  have := h (1 + c.fmod 3).toNat (by omega) (by omega)
  rw [Int.toNat_of_nonneg (by omega)] at this
  exact this
/-- the law's closed formulas -/
inductive Cl6 : Sf → Prop
  | all : Cl6 (.all .atomx)
  | some : Cl6 (.some .atomx)
  | no : Cl6 (.no (.par (.some (.no .atomx))))
theorem hB6 (w : World) (p : Program) (loose : List Str) (mean : ExcName → Option Value) (mg mb : Str → Option Value) {f : Sf} :
    ∀ (dp un : Nat) (gd : Option (List Code)) (cn : Str) (cs : Scope) (a : Addr) (ccd : Value) (cl : List (Str × Addr)) (outer : List Env) (A₀ : Around) (base h₀ : Heap) (L : Addr) (m : Str → Option Value) (news : List (Addr × Obj)) (s : Shared) (mo : Addr) (nn : Nat) (l : List (Int × Addr)) (fv : Value) (Q E : Value → Shared → Prop),
      Below A₀ base outer h₀ → Fr h₀ L s.heap m → (K06 w.params).In h₀ → News h₀ L s.heap news → Top p loose mean mg mb h₀ → cs.kind = .function → dp + 150 < recursionLimit → un + 700 < cLine →
      Mdl w news mo (nn : Int) l → nn ≤ 3 → FIs news fv f → Cl6 f →
      (∀ h' tk', Fr h₀ L h' m → News h₀ L h' news → Q (.bool (f.evB (l.map (·.1)) nn)) { s with heap := h', toks := tk' }) →
      wpAny (model PySem.Challenge.rw_ui0505_06.row.prog w) (ktrTop dp un gd cn cs L a ccd cl outer) (call (.ref 123) [.ref mo, fv]) Q E s := by
  intro dp un gd cn cs a ccd cl outer A₀ base h₀ L m news s mo nn l fv Q E B F X N T hk hd hu hM hnn hF hc hret
  have hx := holds_atm w p loose mean mg mb
  cases hc with
  | all => exact hB_all w p loose mean mg mb hx dp un gd cn cs a ccd cl outer A₀ base h₀ L m news s mo nn l fv _ Q E B F X N T hk (by simp only [Sf.size]; omega) (by simp only [Sf.size]; omega) hM hnn (.inl rfl) hF hret
  | some => exact hB_some w p loose mean mg mb hx dp un gd cn cs a ccd cl outer A₀ base h₀ L m news s mo nn l fv _ Q E B F X N T hk (by simp only [Sf.size]; omega) (by simp only [Sf.size]; omega) hM hnn (.inl rfl) hF hret
  | no => exact hB_no w p loose mean mg mb (hB_par w p loose mean mg mb (hB_some w p loose mean mg mb (holds_no w p loose mean mg mb hx))) dp un gd cn cs a ccd cl outer A₀ base h₀ L m news s mo nn l fv _ Q E B F X N T hk (by simp only [Sf.size]; omega) (by simp only [Sf.size]; omega) hM hnn (.inl rfl) hF hret
theorem evAll6 (l : List Int) (nn : Nat) : Sf.evB l nn (.all .atomx) = decide (cnt l nn = nn) := by
  rw [Bool.eq_iff_iff, decide_eq_true_eq]
  unfold cnt
  simp only [Sf.evB, Sf.ev]
  rw [List.all_eq_true]
  constructor
  · intro h
    rw [List.filter_eq_self.mpr h, List.length_range]
  · intro h i hi
    have h2 : ((List.range nn).filter fun (j : Nat) => decide ((j : Int) ∈ l)).length = (List.range nn).length := by rw [h, List.length_range]
    exact List.length_filter_eq_length_iff.mp h2 i hi
theorem evSome6 (l : List Int) (nn : Nat) : Sf.evB l nn (.some .atomx) = decide (0 < cnt l nn) := by
  rw [Bool.eq_iff_iff, decide_eq_true_eq]
  unfold cnt
  simp only [Sf.evB, Sf.ev]
  rw [List.any_eq_true, List.length_pos_iff_exists_mem]
  constructor
  · rintro ⟨i, hi, h⟩
    exact ⟨i, List.mem_filter.mpr ⟨hi, h⟩⟩
  · rintro ⟨i, hi⟩
    exact ⟨i, (List.mem_filter.mp hi).1, (List.mem_filter.mp hi).2⟩
theorem evNo6 (l : List Int) (nn : Nat) : Sf.evB l nn (.no (.par (.some (.no .atomx)))) = Sf.evB l nn (.all .atomx) := by
  simp only [Sf.evB, Sf.ev]
  rw [List.not_any_eq_all_not]
  simp
theorem all6 (l : List Int) (nn : Nat) : (Sf.evB l nn (.all .atomx) != ((cnt l nn : Int) == (nn : Int))) = false := by
  rw [evAll6]
  by_cases h : cnt l nn = nn
  · simp [h]
  · have : ¬ (cnt l nn : Int) = (nn : Int) := by omega
    simp [h, this]
theorem some6 (l : List Int) (nn : Nat) : (Sf.evB l nn (.some .atomx) != decide ((cnt l nn : Int) > 0)) = false := by
  rw [evSome6]
  by_cases h : 0 < cnt l nn
  · have : (cnt l nn : Int) > 0 := by omega
    simp [h, this]
  · have : ¬ (cnt l nn : Int) > 0 := by omega
    simp [h, this]
theorem no6 (l : List Int) (nn : Nat) : (Sf.evB l nn (.all .atomx) == Sf.evB l nn (.no (.par (.some (.no .atomx))))) = true := by
  rw [evNo6, beq_self_eq_true]
theorem t : PySem.Challenge.rw_ui0505_06.Holds := hd06 (by
  k_with_none
  k_with "steps" => repeat' (first | (k_unfold; (try dsimp only)) | walk1 | (dsimp only; walk1) | (leave1; walk_say "STEP leave1"; try dsimp only) | k_extra "mine")
  k_with "spliced" => first | refine args_cons ?_ | refine args_nil ⟨Fr.keep (by assumption) _ _ (by assumption), ?_⟩ | (refine args_nil ?_; try simp only [List.cons_append, List.nil_append])
  k_with "call builtin:len cons nil" => (k_here; (with_reducible show wpAny _ _ (call (Value.builtin "len") [Value.ref _]) _ _ _); k_dflt (refine' lenL (by k_asm) (by k_mem) (by first | (with_reducible assumption) | (simp only [List.length_append, List.length_map, List.length_cons, List.length_nil]; with_reducible rfl)) (by omega) ?_))
  k_with "call ref cons nil" => (k_here; k_dflt (refine' call_cls (by k_asm) (by k_asm) (by k_asm) (by k_is) (by k_is) (by k_is) ?_; k_whole; intro x' d' h' F' N' l1 l2; (try k_lt l1); (try k_lt2 l2); (try k_sweep); walk_at "enter"))
  k_with "call builtin:list.append cons nil" => (k_here; (with_reducible show wpAny _ _ (call (Value.builtin "list.append") [Value.ref _, _]) _ _ _); k_dflt (refine' appendL (by k_asm) (by k_asm) (by k_upd) (by ((try simp only [List.length_append, List.length_map, List.length_cons, List.length_nil]); omega)) ?_; k_whole); intro h' F' N'; (try k_sweep))
  k_with "subscriptTail Attribute Name Attribute ref int" => (k_here; (with_reducible show wpAny _ _ (subscriptTail _ _ (Value.ref _) (Value.int _ _)) _ _ _); k_dflt (refine' itemL (by k_asm) (by with_reducible assumption) (by k_mem) (by with_reducible rfl) (by omega) ?_ (by with_unfolding_all rfl); k_whole))
  k_with "subscriptTail Subscript Attribute Attribute Constant ref int" => (k_here; (with_reducible show wpAny _ _ (subscriptTail _ _ (Value.ref _) (Value.int _ _)) _ _ _); k_dflt (refine' itemT (by k_asm) (by k_mem) (by decide) (by decide) (by rfl) (by rfl) ?_ (by with_unfolding_all rfl) (by intro _; with_unfolding_all rfl)))
  k_with "WhlIf" => first | (with_reducible refine WhlIf.no (by with_reducible assumption) ?_) | (with_reducible refine WhlIf.yes (by with_reducible assumption) ?_)
  k_with "exec While Compare cons nil" => (k_here; (with_reducible refine whl_start 100 ?_))
  k_with "binaryOp Add int int" => (k_here; (with_reducible refine' add16 ?_); intro nn hn1 hn3; (try dsimp only))
  k_with "call ref cons nil" => (k_here; (with_reducible show wpAny _ _ (call (Value.ref 165) _) _ _ _); k_dflt (refine' nth_ok _ _ _ _ _ _ (Classical.choose_spec (tup_Is _)) _ _ _ _ _ _ _ _ _ _ _ _ _ _ _ _ _ _ _ _ _ _ _ _ _ _ _ _ _ _ (by k_asm) (by k_asm) (by k_asm) (by k_asm) (by k_asm) (by first | rfl | assumption) (by first | decide | omega | ktr_room) (by first | decide | omega | ktr_units) (by assumption) (by assumption) (by first | assumption | exact .of_eq (by assumption)) (by k_mem) (by k_mem) (by k_mem) ?_; intro h' tk' gs' mo lm news' F' N' hsub9 hbr' hMdl; (have hMx := hMdl; obtain ⟨md9, rd9, fd9, key9, S9, od9, ta9, tb9, tc9, td9, te9, tf9, n9, ep9, led9, hMy⟩ := hMx; have m1 := hMy.hmo; have m2 := hMy.hmd; clear hMy); (try k_sweep); (try dsimp only)))
  k_with "call ref cons nil" => (k_here; (with_reducible show wpAny _ _ (call (Value.ref 327) _) _ _ _); k_dflt (refine' rdT _ _ _ _ _ _ (by first | exact Text6.x | exact Text6.all | exact Text6.some | exact Text6.no) _ _ _ _ _ _ _ _ _ _ _ _ _ _ _ _ _ _ _ (by k_asm) (by k_asm) (by k_asm) (by k_asm) (by k_asm) (by first | rfl | assumption) (by first | decide | omega | ktr_room) (by first | decide | omega | ktr_units) ?_; intro h' tk' v' news' F' N' hsub9 f'; (rename Mdl _ _ _ _ _ => hM9; have hM8 := Mdl.mono hM9 hsub9; clear hM9); (have hMx := hM8; obtain ⟨md9, rd9, fd9, key9, S9, od9, ta9, tb9, tc9, td9, te9, tf9, n9, ep9, led9, hMy⟩ := hMx; have m1 := hMy.hmo; have m2 := hMy.hmd; clear hMy); (try k_sweep); (try dsimp only)))
  k_with "call ref cons nil" => (k_here; (with_reducible show wpAny _ _ (call (Value.ref 137) _) _ _ _); k_dflt (refine' ans_ok _ _ _ _ _ _ (Classical.choose_spec (tup_Is _)) _ _ _ _ _ _ _ _ _ _ _ _ _ _ _ _ _ _ _ _ _ _ (by k_asm) (by k_asm) (by k_asm) (by k_asm) (by k_asm) (by first | rfl | assumption) (by first | decide | omega | ktr_room) (by first | decide | omega | ktr_units) (by assumption) (by assumption) (by assumption) (by assumption) (by assumption) ?_; intro h' tk' gs' lo vs' nl' news' F' N' hsub9 hbr' hlo hcnt; (have hcl := cnt_le (lm.map (·.1)) nn); (have hA6 := all6 (lm.map (·.1)) nn); (have hS6 := some6 (lm.map (·.1)) nn); (have hN6 := no6 (lm.map (·.1)) nn); (rename Mdl _ _ _ _ _ => hM9; have hM8 := Mdl.mono hM9 hsub9; clear hM9); (have hMx := hM8; obtain ⟨md9, rd9, fd9, key9, S9, od9, ta9, tb9, tc9, td9, te9, tf9, n9, ep9, led9, hMy⟩ := hMx; have m1 := hMy.hmo; have m2 := hMy.hmd; clear hMy); (try k_sweep); (try dsimp only)))
  k_with "call ref cons nil" => (k_here; (with_reducible show wpAny _ _ (call (Value.ref 123) _) _ _ _); k_dflt (refine' hB6 _ _ _ _ _ _ _ _ _ _ _ _ _ _ _ _ _ _ _ _ _ _ _ _ _ _ _ _ (by k_asm) (by k_asm) (by k_asm) (by k_asm) (by k_asm) (by first | rfl | assumption) (by first | decide | omega | ktr_room) (by first | decide | omega | ktr_units) (by assumption) (by assumption) (by assumption) (by first | exact .all | exact .some | exact .no) ?_; intro h' tk' F' N'; (try k_sweep); (try dsimp only)))
  w_strict (lge_go0; (all_goals try (rename LGe.Mark => lm9; clear lm9)); (all_goals try k_fold))
  k_extra "steps"
  k_end
  try dsimp only
  rw [hN6]
  with_reducible show GoodWG _ _ _ _ _ (Except.ok (Flow.ret (Value.bool true))) _
  refine ⟨.inl ⟨.bool true, .bool true, [], rfl, fun _ => rfl, .bool _, ?_, fun _ => ⟨List.nodup_nil, fun _ h => nomatch h⟩⟩, OldK.of_keep (Fr.keep (by k_asm)), rfl, by assumption⟩
  wrow_post)
end Mine
end
theorem PySem.Challenge.cw_ui0505_06_holds : PySem.Challenge.rw_ui0505_06.Holds :=
  Mine.t
