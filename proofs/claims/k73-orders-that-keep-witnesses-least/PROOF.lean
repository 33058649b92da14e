import PyProof.Rows.All
import Wide.All
import OpenK.AllK
import Wide.FinOn
import HandS.ForMost
import HandS.ForExc
import HandS.Walk
import HandS.CallSlots
import HandS.Zip
import HandS.IsInst
import HandS.TupAny
import HandS.Style
import HandS.Flow
import HandS.Lambda
import KE.DataEq
import KE.DataCmp
import KE.DataAny
import KE.DataIsa
import HandS.TupMul
import PyProof.ReprRoads
import HandS.Ends
import PyProof.ReprLen
import HandS.Strs
import HandS.SetFor
import KE.GoesEnum
import HandS.Iter
import HandS.ExcOwn
import HandS.ExcIs
import HandS.HotCalls
import HandS.EndOwn
import HandS.Conv
import HandS.TupSets
import KE.KDictKeyed
import KE.SortData
import PyProof.DictUpdate
import KE.GoesZip
import KE.DataFind
import HandS.SortInts
import PyProof.TupleOfSeq
import HandS.Rev
import HandS.Dict
import HandS.DictComp
import KE.DataMinMax
import PySem.Challenge.RW_ridingbench_k73_orders_that_keep_witness
import KE.OsRun
set_option Elab.async false
set_option linter.all false
set_option maxRecDepth 100000
set_option maxHeartbeats 8000000
namespace Z
open PySem
noncomputable def clsDef (st : Stmt) (i : Nat) : Stmt := (match st with
  | .ClassDef (body := b) .. => b
  | _ => []).getD i (.Pass ⟨0, 0, 0, 0⟩)
end Z
namespace Lk73
open PySem
noncomputable def top (i : Nat) : Stmt := PySem.Challenge.pw_ridingbench_k73_orders_that_keep_witness.main.body.getD i (.Pass ⟨0, 0, 0, 0⟩)
end Lk73
namespace Lk73
open PySem PySem.W PySem.Calls PyProof.Rows
abbrev La {α : Type} (l : List α) : Array α := List.toArray l
abbrev VS (s : String) (n : Nat) : Value := Value.str (Str.ofString s) n
abbrev DE (P : Params) (s : String) (i : Nat) (v : Value) : DictEntry := DictEntry.mk (PyData.keyHash P (Str.ofString s)) (Value.str (Str.ofString s) i) v
noncomputable def K0 : Params → PySem.W.Frag := fun P =>
(nat_lit 2, (Obj.mk Value.none .none (Data.dict (La []) 0) (La []))) ::
(nat_lit 3, (Obj.mk (Value.type "dict") .none (Data.dict (La [(DE P "__name__" 165 (VS "law_ridingbench_k73_orders_that_keep_witness" 360)), (DE P "__doc__" 166 Value.none), (DE P "__package__" 167 Value.none), (DE P "__loader__" 168 (Value.builtin "__main__.__loader__#opaque")), (DE P "__spec__" 169 Value.none), (DE P "__annotations__" 170 (Value.ref 6)), (DE P "__builtins__" 171 (Value.ref 4)), (DE P "__file__" 173 (VS "/claim/cut.py" 172)), (DE P "__cached__" 174 Value.none), (DE P "BenchError" 206 (Value.ref 24)), (DE P "NoDocket" 222 (Value.ref 37)), (DE P "PERSONS" 226 (Value.int 6 225)), (DE P "DAYS" 228 (Value.int 61 227)), (DE P "is_within" 237 (Value.ref 46)), (DE P "is_upto" 245 (Value.ref 53)), (DE P "MOST_HEARINGS" 249 (Value.int 6 248)), (DE P "MOST_BEHIND" 251 (Value.int 9 250)), (DE P "are_persons" 257 (Value.ref 58)), (DE P "is_hearing" 264 (Value.ref 65)), (DE P "is_docket" 270 (Value.ref 70)), (DE P "need_docket" 277 (Value.ref 77)), (DE P "least_span" 283 (Value.ref 82)), (DE P "Search" 319 (Value.ref 104)), (DE P "best_of" 327 (Value.ref 115)), (DE P "best_order" 335 (Value.ref 122)), (DE P "fewest_kept" 343 (Value.ref 129)), (DE P "within" 349 (Value.ref 134)), (DE P "least_crowd" 359 (Value.ref 141)), (DE P "_law_cell" 369 (Value.ref 148)), (DE P "_law_pen" 377 (Value.ref 155)), (DE P "_law_draw" 388 (Value.ref 162)), (DE P "_law_persons" 394 (Value.ref 167)), (DE P "_law_docket" 408 (Value.ref 174)), (DE P "_law_orders" 414 (Value.ref 179)), (DE P "_law_kept" 420 (Value.ref 184)), (DE P "law" 426 (Value.ref 189))]) 36) (La []))) ::
(nat_lit 15, (Obj.mk (Value.type "tuple") .none (Data.seq (La [(Value.type "ValueError")]) 0) (La []))) ::
(nat_lit 22, (Obj.mk (Value.type "tuple") .none (Data.seq (La []) 0) (La []))) ::
(nat_lit 23, (Obj.mk (Value.type "dict") .none (Data.dict (La [(DE P "__module__" 196 (VS "ridingbench.errors" 187)), (DE P "__firstlineno__" 200 (Value.int 2 199)), (DE P "__static_attributes__" 201 (Value.ref 22)), (DE P "__weakref__" 203 (Value.ref 25)), (DE P "__doc__" 204 Value.none)]) 3) (La []))) ::
(nat_lit 24, (Obj.mk (Value.type "type") .none (Data.cls (ClassData.mk (Str.ofString "BenchError") [(Value.type "ValueError")] [(Value.ref 24), (Value.type "ValueError"), (Value.type "Exception"), (Value.type "BaseException"), (Value.type "object")] 23 (Str.ofString "BenchError") Bool.true [] [(Value.ref 37)] Bool.false .none Bool.false)) (La [(Option.some (Value.ref 15)), .none, (Option.some (VS "BenchError" 189)), (Option.some (VS "BenchError" 197)), (Option.some (Value.builtin "ValueError.__new__")), (Option.some (Value.bool Bool.true))]))) ::
(nat_lit 25, (Obj.mk (Value.type "getset_descriptor") .none (Data.fields (La [(VS "__weakref__" 202), (Value.ref 24), (Value.builtin "ExceptionGroup.__weakref__"), Value.none])) (La []))) ::
(nat_lit 28, (Obj.mk (Value.type "tuple") .none (Data.seq (La [(Value.ref 24)]) 0) (La []))) ::
(nat_lit 35, (Obj.mk (Value.type "tuple") .none (Data.seq (La []) 0) (La []))) ::
(nat_lit 36, (Obj.mk (Value.type "dict") .none (Data.dict (La [(DE P "__module__" 214 (VS "ridingbench.errors" 187)), (DE P "__firstlineno__" 218 (Value.int 4 217)), (DE P "__static_attributes__" 219 (Value.ref 35)), (DE P "__doc__" 220 Value.none)]) 2) (La []))) ::
(nat_lit 37, (Obj.mk (Value.type "type") .none (Data.cls (ClassData.mk (Str.ofString "NoDocket") [(Value.ref 24)] [(Value.ref 37), (Value.ref 24), (Value.type "ValueError"), (Value.type "Exception"), (Value.type "BaseException"), (Value.type "object")] 36 (Str.ofString "NoDocket") Bool.true [] [] Bool.false .none Bool.false)) (La [(Option.some (Value.ref 28)), .none, (Option.some (VS "NoDocket" 207)), (Option.some (VS "NoDocket" 215)), (Option.some (Value.builtin "ValueError.__new__")), (Option.some (Value.bool Bool.true))]))) ::
(nat_lit 40, (Obj.mk (Value.type "tuple") .none (Data.seq (La []) 0) (La []))) ::
(nat_lit 42, (Obj.mk (Value.type "tuple") .none (Data.seq (La [(VS "thing" 232), (VS "least" 233), (VS "most" 234)]) 0) (La []))) ::
(nat_lit 43, (Obj.mk (Value.type "tuple") .none (Data.seq (La []) 0) (La []))) ::
(nat_lit 45, (Obj.mk (Value.type "code") .none (Data.fields (La [(VS "is_within" 229), (VS "is_within" 230), (VS "/claim/cut.py" 231), (Value.int 9 0), (Value.int 3 0), (Value.int 0 0), (Value.int 0 0), (Value.int 3 0), (Value.ref 40), (Value.bool Bool.true), (Value.int 181 0), (Value.ref 41), Value.none, (Value.ref 42), (Value.ref 43), (Value.ref 44), (Value.int 235 0), (Value.int 9 0), (VS "/claim/cut.py" 236)])) (La []))) ::
(nat_lit 46, (Obj.mk (Value.type "function") .none (Data.func (FuncData.mk (Str.ofString "is_within") (Str.ofString "is_within") (L2.defArgs (top 6)) (FuncBody.stmts (L2.defBody (top 6))) (L2.defScope (top 6)) 3 [] Value.none Value.none Value.none (VS "ridingbench.kinds" 223) .none (Value.ref 45) Value.none 0)) (La []))) ::
(nat_lit 47, (Obj.mk (Value.type "tuple") .none (Data.seq (La []) 0) (La []))) ::
(nat_lit 49, (Obj.mk (Value.type "tuple") .none (Data.seq (La [(VS "thing" 241), (VS "many" 242)]) 0) (La []))) ::
(nat_lit 50, (Obj.mk (Value.type "tuple") .none (Data.seq (La []) 0) (La []))) ::
(nat_lit 52, (Obj.mk (Value.type "code") .none (Data.fields (La [(VS "is_upto" 238), (VS "is_upto" 239), (VS "/claim/cut.py" 240), (Value.int 11 0), (Value.int 2 0), (Value.int 0 0), (Value.int 0 0), (Value.int 3 0), (Value.ref 47), (Value.bool Bool.true), (Value.int 181 0), (Value.ref 48), Value.none, (Value.ref 49), (Value.ref 50), (Value.ref 51), (Value.int 243 0), (Value.int 11 0), (VS "/claim/cut.py" 244)])) (La []))) ::
(nat_lit 53, (Obj.mk (Value.type "function") .none (Data.func (FuncData.mk (Str.ofString "is_upto") (Str.ofString "is_upto") (L2.defArgs (top 7)) (FuncBody.stmts (L2.defBody (top 7))) (L2.defScope (top 7)) 3 [] Value.none Value.none Value.none (VS "ridingbench.kinds" 223) .none (Value.ref 52) Value.none 0)) (La []))) ::
(nat_lit 54, (Obj.mk (Value.type "tuple") .none (Data.seq (La []) 0) (La []))) ::
(nat_lit 57, (Obj.mk (Value.type "code") .none (Data.fields (La [(VS "are_persons" 252), (VS "are_persons" 253), (VS "/claim/cut.py" 254), (Value.int 16 0), (Value.int 1 0), (Value.int 0 0), (Value.int 0 0), (Value.int 3 0), (Value.ref 54), (Value.bool Bool.true), (Value.int 181 0), (Value.ref 55), Value.none, Value.none, Value.none, (Value.ref 56), (Value.int 255 0), (Value.int 16 0), (VS "/claim/cut.py" 256)])) (La []))) ::
(nat_lit 58, (Obj.mk (Value.type "function") .none (Data.func (FuncData.mk (Str.ofString "are_persons") (Str.ofString "are_persons") (L2.defArgs (top 11)) (FuncBody.stmts (L2.defBody (top 11))) (L2.defScope (top 11)) 3 [] Value.none Value.none Value.none (VS "ridingbench.dockets" 246) .none (Value.ref 57) Value.none 0)) (La []))) ::
(nat_lit 59, (Obj.mk (Value.type "tuple") .none (Data.seq (La []) 0) (La []))) ::
(nat_lit 61, (Obj.mk (Value.type "tuple") .none (Data.seq (La [(VS "thing" 261)]) 0) (La []))) ::
(nat_lit 62, (Obj.mk (Value.type "tuple") .none (Data.seq (La []) 0) (La []))) ::
(nat_lit 64, (Obj.mk (Value.type "code") .none (Data.fields (La [(VS "is_hearing" 258), (VS "is_hearing" 259), (VS "/claim/cut.py" 260), (Value.int 20 0), (Value.int 1 0), (Value.int 0 0), (Value.int 0 0), (Value.int 3 0), (Value.ref 59), (Value.bool Bool.true), (Value.int 181 0), (Value.ref 60), Value.none, (Value.ref 61), (Value.ref 62), (Value.ref 63), (Value.int 262 0), (Value.int 20 0), (VS "/claim/cut.py" 263)])) (La []))) ::
(nat_lit 65, (Obj.mk (Value.type "function") .none (Data.func (FuncData.mk (Str.ofString "is_hearing") (Str.ofString "is_hearing") (L2.defArgs (top 12)) (FuncBody.stmts (L2.defBody (top 12))) (L2.defScope (top 12)) 3 [] Value.none Value.none Value.none (VS "ridingbench.dockets" 246) .none (Value.ref 64) Value.none 0)) (La []))) ::
(nat_lit 66, (Obj.mk (Value.type "tuple") .none (Data.seq (La []) 0) (La []))) ::
(nat_lit 69, (Obj.mk (Value.type "code") .none (Data.fields (La [(VS "is_docket" 265), (VS "is_docket" 266), (VS "/claim/cut.py" 267), (Value.int 24 0), (Value.int 1 0), (Value.int 0 0), (Value.int 0 0), (Value.int 3 0), (Value.ref 66), (Value.bool Bool.true), (Value.int 181 0), (Value.ref 67), Value.none, Value.none, Value.none, (Value.ref 68), (Value.int 268 0), (Value.int 24 0), (VS "/claim/cut.py" 269)])) (La []))) ::
(nat_lit 70, (Obj.mk (Value.type "function") .none (Data.func (FuncData.mk (Str.ofString "is_docket") (Str.ofString "is_docket") (L2.defArgs (top 13)) (FuncBody.stmts (L2.defBody (top 13))) (L2.defScope (top 13)) 3 [] Value.none Value.none Value.none (VS "ridingbench.dockets" 246) .none (Value.ref 69) Value.none 0)) (La []))) ::
(nat_lit 71, (Obj.mk (Value.type "tuple") .none (Data.seq (La []) 0) (La []))) ::
(nat_lit 73, (Obj.mk (Value.type "tuple") .none (Data.seq (La [(VS "thing" 274)]) 0) (La []))) ::
(nat_lit 74, (Obj.mk (Value.type "tuple") .none (Data.seq (La []) 0) (La []))) ::
(nat_lit 76, (Obj.mk (Value.type "code") .none (Data.fields (La [(VS "need_docket" 271), (VS "need_docket" 272), (VS "/claim/cut.py" 273), (Value.int 28 0), (Value.int 1 0), (Value.int 0 0), (Value.int 0 0), (Value.int 3 0), (Value.ref 71), (Value.bool Bool.true), (Value.int 181 0), (Value.ref 72), Value.none, (Value.ref 73), (Value.ref 74), (Value.ref 75), (Value.int 275 0), (Value.int 28 0), (VS "/claim/cut.py" 276)])) (La []))) ::
(nat_lit 77, (Obj.mk (Value.type "function") .none (Data.func (FuncData.mk (Str.ofString "need_docket") (Str.ofString "need_docket") (L2.defArgs (top 14)) (FuncBody.stmts (L2.defBody (top 14))) (L2.defScope (top 14)) 3 [] Value.none Value.none Value.none (VS "ridingbench.dockets" 246) .none (Value.ref 76) Value.none 0)) (La []))) ::
(nat_lit 78, (Obj.mk (Value.type "tuple") .none (Data.seq (La []) 0) (La []))) ::
(nat_lit 81, (Obj.mk (Value.type "code") .none (Data.fields (La [(VS "least_span" 278), (VS "least_span" 279), (VS "/claim/cut.py" 280), (Value.int 31 0), (Value.int 3 0), (Value.int 0 0), (Value.int 0 0), (Value.int 3 0), (Value.ref 78), (Value.bool Bool.true), (Value.int 181 0), (Value.ref 79), Value.none, Value.none, Value.none, (Value.ref 80), (Value.int 281 0), (Value.int 31 0), (VS "/claim/cut.py" 282)])) (La []))) ::
(nat_lit 82, (Obj.mk (Value.type "function") .none (Data.func (FuncData.mk (Str.ofString "least_span") (Str.ofString "least_span") (L2.defArgs (top 15)) (FuncBody.stmts (L2.defBody (top 15))) (L2.defScope (top 15)) 3 [] Value.none Value.none Value.none (VS "ridingbench.dockets" 246) .none (Value.ref 81) Value.none 0)) (La []))) ::
(nat_lit 90, (Obj.mk (Value.type "tuple") .none (Data.seq (La []) 0) (La []))) ::
(nat_lit 92, (Obj.mk (Value.type "tuple") .none (Data.seq (La [(VS "self" 299), (VS "docket" 300)]) 0) (La []))) ::
(nat_lit 93, (Obj.mk (Value.type "tuple") .none (Data.seq (La []) 0) (La []))) ::
(nat_lit 95, (Obj.mk (Value.type "code") .none (Data.fields (La [(VS "__init__" 296), (VS "Search.__init__" 297), (VS "/claim/cut.py" 298), (Value.int 41 0), (Value.int 2 0), (Value.int 0 0), (Value.int 0 0), (Value.int 3 0), (Value.ref 90), (Value.bool Bool.true), (Value.int 181 0), (Value.ref 91), Value.none, (Value.ref 92), (Value.ref 93), (Value.ref 94), (Value.int 301 0), (Value.int 41 0), (VS "/claim/cut.py" 302)])) (La []))) ::
(nat_lit 96, (Obj.mk (Value.type "function") .none (Data.func (FuncData.mk (Str.ofString "__init__") (Str.ofString "Search.__init__") (L2.defArgs (Z.clsDef (top 16) 0)) (FuncBody.stmts (L2.defBody (Z.clsDef (top 16) 0))) (L2.defScope (Z.clsDef (top 16) 0)) 3 [] Value.none Value.none Value.none (VS "ridingbench.dockets" 246) .none (Value.ref 95) Value.none 0)) (La []))) ::
(nat_lit 97, (Obj.mk (Value.type "tuple") .none (Data.seq (La []) 0) (La []))) ::
(nat_lit 100, (Obj.mk (Value.type "code") .none (Data.fields (La [(VS "go_on" 304), (VS "Search.go_on" 305), (VS "/claim/cut.py" 306), (Value.int 45 0), (Value.int 2 0), (Value.int 0 0), (Value.int 0 0), (Value.int 3 0), (Value.ref 97), (Value.bool Bool.true), (Value.int 181 0), (Value.ref 98), Value.none, Value.none, Value.none, (Value.ref 99), (Value.int 307 0), (Value.int 45 0), (VS "/claim/cut.py" 308)])) (La []))) ::
(nat_lit 101, (Obj.mk (Value.type "function") .none (Data.func (FuncData.mk (Str.ofString "go_on") (Str.ofString "Search.go_on") (L2.defArgs (Z.clsDef (top 16) 1)) (FuncBody.stmts (L2.defBody (Z.clsDef (top 16) 1))) (L2.defScope (Z.clsDef (top 16) 1)) 3 [] Value.none Value.none Value.none (VS "ridingbench.dockets" 246) .none (Value.ref 100) Value.none 0)) (La []))) ::
(nat_lit 102, (Obj.mk (Value.type "tuple") .none (Data.seq (La [(VS "best" 310), (VS "docket" 311)]) 0) (La []))) ::
(nat_lit 103, (Obj.mk (Value.type "dict") .none (Data.dict (La [(DE P "__module__" 291 (VS "ridingbench.dockets" 246)), (DE P "__firstlineno__" 295 (Value.int 39 294)), (DE P "__init__" 303 (Value.ref 96)), (DE P "go_on" 309 (Value.ref 101)), (DE P "__static_attributes__" 312 (Value.ref 102)), (DE P "__dict__" 314 (Value.ref 105)), (DE P "__weakref__" 316 (Value.ref 106)), (DE P "__doc__" 317 Value.none)]) 4) (La []))) ::
(nat_lit 104, (Obj.mk (Value.type "type") .none (Data.cls (ClassData.mk (Str.ofString "Search") [(Value.type "object")] [(Value.ref 104), (Value.type "object")] 103 (Str.ofString "Search") Bool.true [] [] Bool.false .none Bool.false)) (La [.none, .none, (Option.some (VS "Search" 284)), (Option.some (VS "Search" 292)), (Option.some (Value.builtin "object.__new__")), (Option.some (Value.bool Bool.true))]))) ::
(nat_lit 105, (Obj.mk (Value.type "getset_descriptor") .none (Data.fields (La [(VS "__dict__" 313), (Value.ref 104), (Value.builtin "function.__dict__"), (Value.builtin "function.__dict__#set")])) (La []))) ::
(nat_lit 106, (Obj.mk (Value.type "getset_descriptor") .none (Data.fields (La [(VS "__weakref__" 315), (Value.ref 104), (Value.builtin "ExceptionGroup.__weakref__"), Value.none])) (La []))) ::
(nat_lit 109, (Obj.mk (Value.type "tuple") .none (Data.seq (La []) 0) (La []))) ::
(nat_lit 111, (Obj.mk (Value.type "tuple") .none (Data.seq (La [(VS "docket" 323), (VS "search" 324)]) 0) (La []))) ::
(nat_lit 112, (Obj.mk (Value.type "tuple") .none (Data.seq (La []) 0) (La []))) ::
(nat_lit 114, (Obj.mk (Value.type "code") .none (Data.fields (La [(VS "best_of" 320), (VS "best_of" 321), (VS "/claim/cut.py" 322), (Value.int 56 0), (Value.int 1 0), (Value.int 0 0), (Value.int 0 0), (Value.int 3 0), (Value.ref 109), (Value.bool Bool.true), (Value.int 181 0), (Value.ref 110), Value.none, (Value.ref 111), (Value.ref 112), (Value.ref 113), (Value.int 325 0), (Value.int 56 0), (VS "/claim/cut.py" 326)])) (La []))) ::
(nat_lit 115, (Obj.mk (Value.type "function") .none (Data.func (FuncData.mk (Str.ofString "best_of") (Str.ofString "best_of") (L2.defArgs (top 17)) (FuncBody.stmts (L2.defBody (top 17))) (L2.defScope (top 17)) 3 [] Value.none Value.none Value.none (VS "ridingbench.dockets" 246) .none (Value.ref 114) Value.none 0)) (La []))) ::
(nat_lit 116, (Obj.mk (Value.type "tuple") .none (Data.seq (La []) 0) (La []))) ::
(nat_lit 118, (Obj.mk (Value.type "tuple") .none (Data.seq (La [(VS "docket" 331), (VS "best" 332)]) 0) (La []))) ::
(nat_lit 119, (Obj.mk (Value.type "tuple") .none (Data.seq (La []) 0) (La []))) ::
(nat_lit 121, (Obj.mk (Value.type "code") .none (Data.fields (La [(VS "best_order" 328), (VS "best_order" 329), (VS "/claim/cut.py" 330), (Value.int 62 0), (Value.int 1 0), (Value.int 0 0), (Value.int 0 0), (Value.int 3 0), (Value.ref 116), (Value.bool Bool.true), (Value.int 181 0), (Value.ref 117), Value.none, (Value.ref 118), (Value.ref 119), (Value.ref 120), (Value.int 333 0), (Value.int 62 0), (VS "/claim/cut.py" 334)])) (La []))) ::
(nat_lit 122, (Obj.mk (Value.type "function") .none (Data.func (FuncData.mk (Str.ofString "best_order") (Str.ofString "best_order") (L2.defArgs (top 18)) (FuncBody.stmts (L2.defBody (top 18))) (L2.defScope (top 18)) 3 [] Value.none Value.none Value.none (VS "ridingbench.dockets" 246) .none (Value.ref 121) Value.none 0)) (La []))) ::
(nat_lit 123, (Obj.mk (Value.type "tuple") .none (Data.seq (La []) 0) (La []))) ::
(nat_lit 125, (Obj.mk (Value.type "tuple") .none (Data.seq (La [(VS "docket" 339), (VS "best" 340)]) 0) (La []))) ::
(nat_lit 126, (Obj.mk (Value.type "tuple") .none (Data.seq (La []) 0) (La []))) ::
(nat_lit 128, (Obj.mk (Value.type "code") .none (Data.fields (La [(VS "fewest_kept" 336), (VS "fewest_kept" 337), (VS "/claim/cut.py" 338), (Value.int 66 0), (Value.int 1 0), (Value.int 0 0), (Value.int 0 0), (Value.int 3 0), (Value.ref 123), (Value.bool Bool.true), (Value.int 181 0), (Value.ref 124), Value.none, (Value.ref 125), (Value.ref 126), (Value.ref 127), (Value.int 341 0), (Value.int 66 0), (VS "/claim/cut.py" 342)])) (La []))) ::
(nat_lit 129, (Obj.mk (Value.type "function") .none (Data.func (FuncData.mk (Str.ofString "fewest_kept") (Str.ofString "fewest_kept") (L2.defArgs (top 19)) (FuncBody.stmts (L2.defBody (top 19))) (L2.defScope (top 19)) 3 [] Value.none Value.none Value.none (VS "ridingbench.dockets" 246) .none (Value.ref 128) Value.none 0)) (La []))) ::
(nat_lit 130, (Obj.mk (Value.type "tuple") .none (Data.seq (La []) 0) (La []))) ::
(nat_lit 133, (Obj.mk (Value.type "code") .none (Data.fields (La [(VS "within" 344), (VS "within" 345), (VS "/claim/cut.py" 346), (Value.int 70 0), (Value.int 3 0), (Value.int 0 0), (Value.int 0 0), (Value.int 3 0), (Value.ref 130), (Value.bool Bool.true), (Value.int 181 0), (Value.ref 131), Value.none, Value.none, Value.none, (Value.ref 132), (Value.int 347 0), (Value.int 70 0), (VS "/claim/cut.py" 348)])) (La []))) ::
(nat_lit 134, (Obj.mk (Value.type "function") .none (Data.func (FuncData.mk (Str.ofString "within") (Str.ofString "within") (L2.defArgs (top 20)) (FuncBody.stmts (L2.defBody (top 20))) (L2.defScope (top 20)) 3 [] Value.none Value.none Value.none (VS "ridingbench.dockets" 246) .none (Value.ref 133) Value.none 0)) (La []))) ::
(nat_lit 135, (Obj.mk (Value.type "tuple") .none (Data.seq (La []) 0) (La []))) ::
(nat_lit 137, (Obj.mk (Value.type "tuple") .none (Data.seq (La [(VS "docket" 353), (VS "first" 354), (VS "last" 355), (VS "places" 356)]) 0) (La []))) ::
(nat_lit 138, (Obj.mk (Value.type "tuple") .none (Data.seq (La []) 0) (La []))) ::
(nat_lit 140, (Obj.mk (Value.type "code") .none (Data.fields (La [(VS "least_crowd" 350), (VS "least_crowd" 351), (VS "/claim/cut.py" 352), (Value.int 72 0), (Value.int 1 0), (Value.int 0 0), (Value.int 0 0), (Value.int 3 0), (Value.ref 135), (Value.bool Bool.true), (Value.int 181 0), (Value.ref 136), Value.none, (Value.ref 137), (Value.ref 138), (Value.ref 139), (Value.int 357 0), (Value.int 72 0), (VS "/claim/cut.py" 358)])) (La []))) ::
(nat_lit 141, (Obj.mk (Value.type "function") .none (Data.func (FuncData.mk (Str.ofString "least_crowd") (Str.ofString "least_crowd") (L2.defArgs (top 21)) (FuncBody.stmts (L2.defBody (top 21))) (L2.defScope (top 21)) 3 [] Value.none Value.none Value.none (VS "ridingbench.dockets" 246) .none (Value.ref 140) Value.none 0)) (La []))) ::
(nat_lit 142, (Obj.mk (Value.type "tuple") .none (Data.seq (La []) 0) (La []))) ::
(nat_lit 144, (Obj.mk (Value.type "tuple") .none (Data.seq (La [(VS "_law_script" 365), (VS "_law_k" 366)]) 0) (La []))) ::
(nat_lit 145, (Obj.mk (Value.type "tuple") .none (Data.seq (La []) 0) (La []))) ::
(nat_lit 147, (Obj.mk (Value.type "code") .none (Data.fields (La [(VS "_law_cell" 362), (VS "_law_cell" 363), (VS "/claim/cut.py" 364), (Value.int 80 0), (Value.int 2 0), (Value.int 0 0), (Value.int 0 0), (Value.int 3 0), (Value.ref 142), (Value.bool Bool.true), (Value.int 181 0), (Value.ref 143), Value.none, (Value.ref 144), (Value.ref 145), (Value.ref 146), (Value.int 367 0), (Value.int 80 0), (VS "/claim/cut.py" 368)])) (La []))) ::
(nat_lit 148, (Obj.mk (Value.type "function") .none (Data.func (FuncData.mk (Str.ofString "_law_cell") (Str.ofString "_law_cell") (L2.defArgs (top 23)) (FuncBody.stmts (L2.defBody (top 23))) (L2.defScope (top 23)) 3 [] Value.none Value.none Value.none (VS "law_ridingbench_k73_orders_that_keep_witness" 360) .none (Value.ref 147) Value.none 0)) (La []))) ::
(nat_lit 149, (Obj.mk (Value.type "tuple") .none (Data.seq (La []) 0) (La []))) ::
(nat_lit 151, (Obj.mk (Value.type "tuple") .none (Data.seq (La [(VS "_law_cell_here" 373), (VS "_law_more" 374)]) 0) (La []))) ::
(nat_lit 152, (Obj.mk (Value.type "tuple") .none (Data.seq (La []) 0) (La []))) ::
(nat_lit 154, (Obj.mk (Value.type "code") .none (Data.fields (La [(VS "_law_pen" 370), (VS "_law_pen" 371), (VS "/claim/cut.py" 372), (Value.int 84 0), (Value.int 1 0), (Value.int 0 0), (Value.int 0 0), (Value.int 3 0), (Value.ref 149), (Value.bool Bool.true), (Value.int 181 0), (Value.ref 150), Value.none, (Value.ref 151), (Value.ref 152), (Value.ref 153), (Value.int 375 0), (Value.int 84 0), (VS "/claim/cut.py" 376)])) (La []))) ::
(nat_lit 155, (Obj.mk (Value.type "function") .none (Data.func (FuncData.mk (Str.ofString "_law_pen") (Str.ofString "_law_pen") (L2.defArgs (top 24)) (FuncBody.stmts (L2.defBody (top 24))) (L2.defScope (top 24)) 3 [] Value.none Value.none Value.none (VS "law_ridingbench_k73_orders_that_keep_witness" 360) .none (Value.ref 154) Value.none 0)) (La []))) ::
(nat_lit 156, (Obj.mk (Value.type "tuple") .none (Data.seq (La []) 0) (La []))) ::
(nat_lit 158, (Obj.mk (Value.type "tuple") .none (Data.seq (La [(VS "_law_pen_here" 381), (VS "_law_many" 382), (VS "_law_rest" 383), (VS "_law_drawn" 384), (VS "_law_stir" 385)]) 0) (La []))) ::
(nat_lit 159, (Obj.mk (Value.type "tuple") .none (Data.seq (La []) 0) (La []))) ::
(nat_lit 161, (Obj.mk (Value.type "code") .none (Data.fields (La [(VS "_law_draw" 378), (VS "_law_draw" 379), (VS "/claim/cut.py" 380), (Value.int 87 0), (Value.int 2 0), (Value.int 0 0), (Value.int 0 0), (Value.int 3 0), (Value.ref 156), (Value.bool Bool.true), (Value.int 181 0), (Value.ref 157), Value.none, (Value.ref 158), (Value.ref 159), (Value.ref 160), (Value.int 386 0), (Value.int 87 0), (VS "/claim/cut.py" 387)])) (La []))) ::
(nat_lit 162, (Obj.mk (Value.type "function") .none (Data.func (FuncData.mk (Str.ofString "_law_draw") (Str.ofString "_law_draw") (L2.defArgs (top 25)) (FuncBody.stmts (L2.defBody (top 25))) (L2.defScope (top 25)) 3 [] Value.none Value.none Value.none (VS "law_ridingbench_k73_orders_that_keep_witness" 360) .none (Value.ref 161) Value.none 0)) (La []))) ::
(nat_lit 163, (Obj.mk (Value.type "tuple") .none (Data.seq (La []) 0) (La []))) ::
(nat_lit 166, (Obj.mk (Value.type "code") .none (Data.fields (La [(VS "_law_persons" 389), (VS "_law_persons" 390), (VS "/claim/cut.py" 391), (Value.int 96 0), (Value.int 1 0), (Value.int 0 0), (Value.int 0 0), (Value.int 3 0), (Value.ref 163), (Value.bool Bool.true), (Value.int 181 0), (Value.ref 164), Value.none, Value.none, Value.none, (Value.ref 165), (Value.int 392 0), (Value.int 96 0), (VS "/claim/cut.py" 393)])) (La []))) ::
(nat_lit 167, (Obj.mk (Value.type "function") .none (Data.func (FuncData.mk (Str.ofString "_law_persons") (Str.ofString "_law_persons") (L2.defArgs (top 26)) (FuncBody.stmts (L2.defBody (top 26))) (L2.defScope (top 26)) 3 [] Value.none Value.none Value.none (VS "law_ridingbench_k73_orders_that_keep_witness" 360) .none (Value.ref 166) Value.none 0)) (La []))) ::
(nat_lit 168, (Obj.mk (Value.type "tuple") .none (Data.seq (La []) 0) (La []))) ::
(nat_lit 170, (Obj.mk (Value.type "tuple") .none (Data.seq (La [(VS "_law_pen_here" 398), (VS "_law_many" 399), (VS "_law_wide" 400), (VS "_law_base" 401), (VS "_law_close" 402), (VS "_law_got" 403), (VS "_law_turn" 404), (VS "_law_first" 405)]) 0) (La []))) ::
(nat_lit 171, (Obj.mk (Value.type "tuple") .none (Data.seq (La []) 0) (La []))) ::
(nat_lit 173, (Obj.mk (Value.type "code") .none (Data.fields (La [(VS "_law_docket" 395), (VS "_law_docket" 396), (VS "/claim/cut.py" 397), (Value.int 98 0), (Value.int 3 0), (Value.int 0 0), (Value.int 0 0), (Value.int 3 0), (Value.ref 168), (Value.bool Bool.true), (Value.int 181 0), (Value.ref 169), Value.none, (Value.ref 170), (Value.ref 171), (Value.ref 172), (Value.int 406 0), (Value.int 98 0), (VS "/claim/cut.py" 407)])) (La []))) ::
(nat_lit 174, (Obj.mk (Value.type "function") .none (Data.func (FuncData.mk (Str.ofString "_law_docket") (Str.ofString "_law_docket") (L2.defArgs (top 27)) (FuncBody.stmts (L2.defBody (top 27))) (L2.defScope (top 27)) 3 [] Value.none Value.none Value.none (VS "law_ridingbench_k73_orders_that_keep_witness" 360) .none (Value.ref 173) Value.none 0)) (La []))) ::
(nat_lit 175, (Obj.mk (Value.type "tuple") .none (Data.seq (La []) 0) (La []))) ::
(nat_lit 178, (Obj.mk (Value.type "code") .none (Data.fields (La [(VS "_law_orders" 409), (VS "_law_orders" 410), (VS "/claim/cut.py" 411), (Value.int 104 0), (Value.int 1 0), (Value.int 0 0), (Value.int 0 0), (Value.int 3 0), (Value.ref 175), (Value.bool Bool.true), (Value.int 181 0), (Value.ref 176), Value.none, Value.none, Value.none, (Value.ref 177), (Value.int 412 0), (Value.int 104 0), (VS "/claim/cut.py" 413)])) (La []))) ::
(nat_lit 179, (Obj.mk (Value.type "function") .none (Data.func (FuncData.mk (Str.ofString "_law_orders") (Str.ofString "_law_orders") (L2.defArgs (top 28)) (FuncBody.stmts (L2.defBody (top 28))) (L2.defScope (top 28)) 3 [] Value.none Value.none Value.none (VS "law_ridingbench_k73_orders_that_keep_witness" 360) .none (Value.ref 178) Value.none 0)) (La []))) ::
(nat_lit 180, (Obj.mk (Value.type "tuple") .none (Data.seq (La []) 0) (La []))) ::
(nat_lit 183, (Obj.mk (Value.type "code") .none (Data.fields (La [(VS "_law_kept" 415), (VS "_law_kept" 416), (VS "/claim/cut.py" 417), (Value.int 112 0), (Value.int 2 0), (Value.int 0 0), (Value.int 0 0), (Value.int 3 0), (Value.ref 180), (Value.bool Bool.true), (Value.int 181 0), (Value.ref 181), Value.none, Value.none, Value.none, (Value.ref 182), (Value.int 418 0), (Value.int 112 0), (VS "/claim/cut.py" 419)])) (La []))) ::
(nat_lit 184, (Obj.mk (Value.type "function") .none (Data.func (FuncData.mk (Str.ofString "_law_kept") (Str.ofString "_law_kept") (L2.defArgs (top 29)) (FuncBody.stmts (L2.defBody (top 29))) (L2.defScope (top 29)) 3 [] Value.none Value.none Value.none (VS "law_ridingbench_k73_orders_that_keep_witness" 360) .none (Value.ref 183) Value.none 0)) (La []))) ::
(nat_lit 185, (Obj.mk (Value.type "tuple") .none (Data.seq (La []) 0) (La []))) ::
(nat_lit 188, (Obj.mk (Value.type "code") .none (Data.fields (La [(VS "law" 421), (VS "law" 422), (VS "/claim/cut.py" 423), (Value.int 118 0), (Value.int 1 0), (Value.int 0 0), (Value.int 0 0), (Value.int 3 0), (Value.ref 185), (Value.bool Bool.true), (Value.int 181 0), (Value.ref 186), Value.none, Value.none, Value.none, (Value.ref 187), (Value.int 424 0), (Value.int 118 0), (VS "/claim/cut.py" 425)])) (La []))) ::
(nat_lit 189, (Obj.mk (Value.type "function") .none (Data.func (FuncData.mk (Str.ofString "law") (Str.ofString "law") (L2.defArgs (top 30)) (FuncBody.stmts (L2.defBody (top 30))) (L2.defScope (top 30)) 3 [] Value.none Value.none Value.none (VS "law_ridingbench_k73_orders_that_keep_witness" 360) .none (Value.ref 188) Value.none 0)) (La []))) :: []
noncomputable def as0 : List Addr := [2, 3, 15, 22, 23, 24, 25, 28, 35, 36, 37, 40, 42, 43, 45, 46, 47, 49, 50, 52, 53, 54, 57, 58, 59, 61, 62, 64, 65, 66, 69, 70, 71, 73, 74, 76, 77, 78, 81, 82, 90, 92, 93, 95, 96, 97, 100, 101, 102, 103, 104, 105, 106, 109, 111, 112, 114, 115, 116, 118, 119, 121, 122, 123, 125, 126, 128, 129, 130, 133, 134, 135, 137, 138, 140, 141, 142, 144, 145, 147, 148, 149, 151, 152, 154, 155, 156, 158, 159, 161, 162, 163, 166, 167, 168, 170, 171, 173, 174, 175, 178, 179, 180, 183, 184, 185, 188, 189]
noncomputable abbrev R0 : OpenRow := OpenLaw.row PySem.Challenge.rw_ridingbench_k73_orders_that_keep_witness
noncomputable def loose0_0 : List Str := ["BenchError", "NoDocket", "PERSONS", "DAYS", "is_within", "is_upto", "MOST_HEARINGS", "MOST_BEHIND", "are_persons", "is_hearing", "is_docket", "need_docket", "least_span", "Search", "best_of", "best_order", "fewest_kept", "within", "least_crowd", "_law_cell", "_law_pen", "_law_draw", "_law_persons", "_law_docket", "_law_orders", "_law_kept"]
noncomputable def loose0 : List Str := loose0_0
noncomputable def q0 : Program := view PySem.Challenge.pw_ridingbench_k73_orders_that_keep_witness [30]
theorem as0_eq (P : Params) : as0 = (K0 P).map (·.1) := by kernel_rfl
noncomputable abbrev H0 : Hook := kHook K0 as0 as0_eq
noncomputable def RunB (b : Bool) (w : World) (os : OsState) : Prop := (HeadRun.endF (HeadRun.stepQ (HeadRun.denQ HeadRun.tabQ) R0.prog (w.withFollow "special-get-raises" b)) 2726 R0.prog (w.withFollow "special-get-raises" b) os).map (fun s => (HeadRun.looksF R0.prog (boot_heap (w.withFollow "special-get-raises" b).params) s.abs, HeadRun.seenQ q0 Lk73.loose0 (importedModules R0.prog.main.body) (fun s => xlAt q0 [] s && recOk (RowW.records R0.toRowW) s) s.abs, as0.map (HeadRun.getT s))) = some (true, openGood q0 Lk73.loose0, (K0 (w.withFollow "special-get-raises" b).params).map fun x => some x.2)
theorem run_false (w : World) (os : OsState) : RunB false w os := by
  unfold RunB
  kernel_rfl
theorem run_true (w : World) (os : OsState) : RunB true w os := by
  unfold RunB
  kernel_rfl
theorem left0 : LeftO R0.prog q0 Lk73.loose0 (fun s => xlAt q0 [] s && recOk (RowW.records R0.toRowW) s) (Hook.obs H0) (Hook.val H0) 3426 true := by
  refine HeadRun.left_oneK (M := 2726) (by kernel_rfl) (by rfl) (fun s => by kernel_rfl) (by rfl) ?_
  intro w os
  rw [← World.withFollow_self w "special-get-raises"]
  generalize w.params.followText "special-get-raises" = b
  cases b
  · exact run_false w os
  · exact run_true w os
end Lk73
namespace Z
open PySem L2

inductive D where
  | non | bl (b : Bool) | int (i : Int) | str (x : Str) | tup (ds : List D) | ktup (ds : List D) | lst (ds : List D) | scr (ds : List D) | dct (ks : List Key) (ds : List D) | loc (l : Nat) | ob (v : V) | fn (n : Str)
inductive C where
  | lst (ds : List D) | dK (lk : Bool) (kvs : List (Key × D)) | dT (lk : Bool) (kvs : List (List Key × D)) | ins (c : Str) (fs : List (Str × D)) | tab (P : Addr) (q : Str)
noncomputable abbrev Sto := List C
noncomputable abbrev Tau := List (Option D)

inductive R (A : Type) where
  | ok (a : A) (S : Sto) | ex (c : Str) (fs : List (Str × D)) (S : Sto) | bad
noncomputable def R.bind {A B : Type} (o : R A) (f : A → Sto → R B) : R B := match o with
  | .ok a S => f a S
  | .ex c fs S => .ex c fs S
  | .bad => .bad
@[simp] theorem R.bind_ok {A B : Type} (a : A) (S : Sto) (f : A → Sto → R B) : (R.ok a S).bind f = f a S := rfl
@[simp] theorem R.bind_ex {A B : Type} (c fs) (S : Sto) (f : A → Sto → R B) : (R.ex c fs S).bind f = .ex c fs S := rfl
@[simp] theorem R.bind_bad {A B : Type} (f : A → Sto → R B) : (R.bad).bind f = .bad := rfl

structure Pl where
  loc : List Addr
  hid : List Addr
noncomputable instance : Membership Addr Pl := ⟨fun p a => a ∈ p.loc ∨ a ∈ p.hid⟩
theorem Pl.mem {ρ : Pl} {a : Addr} : a ∈ ρ ↔ a ∈ ρ.loc ∨ a ∈ ρ.hid := Iff.rfl
noncomputable def Pl.push (ρ : Pl) (p : Addr) : Pl := ⟨ρ.loc ++ [p], ρ.hid⟩
noncomputable def Pl.hide (ρ : Pl) (p : Addr) : Pl := ⟨ρ.loc, p :: ρ.hid⟩
noncomputable def Pl.bare (ρ : Pl) (p : Addr) : Pl := ⟨ρ.loc, ρ.hid.filter fun a => decide (a ≠ p)⟩
theorem Pl.bare_sub {ρ : Pl} {p a : Addr} (h : a ∈ ρ.bare p) : a ∈ ρ := h.imp id fun z => (List.mem_filter.mp z).1
noncomputable def pRow : D → Bool
  | .tup (.int _ :: .str _ :: _) => true
  | _ => false
noncomputable def rolly (ds : List D) : Bool := !ds.isEmpty && ds.all pRow
noncomputable def tupHO (b : Bool) (o : Obj) (xs : List V) : HO := if b = true then .frz o (.tup xs) else .tup xs
noncomputable def TupAt (H : Hp) (a : Addr) (xs : List V) (b : Bool) : Prop := ∃ o : Obj, H a = some (tupHO b o xs) ∧ o.dict = none
theorem nt_tupHO {b : Bool} {o : Obj} {xs : List V} : ∀ ps, tupHO b o xs ≠ .tbl ps := fun ps h => by
  unfold tupHO at h
  split at h <;> cases h
theorem TupAt.sq {K : PySem.W.Frag} {H : Hp} {a : Addr} {xs : List V} {b : Bool} (h : TupAt H a xs b) : SqT K H a xs := by
  obtain ⟨o, h, -⟩ := h
  unfold tupHO at h
  split at h
  · exact .inl (.inr ⟨o, h⟩)
  · exact .inl (.inl h)
theorem TupAt.no {H : Hp} {a : Addr} {xs : List V} (h : TupAt H a xs false) : H a = some (.tup xs) := by
  obtain ⟨o, h, -⟩ := h
  exact h
theorem TupAt.imp {H H' : Hp} {a : Addr} {xs : List V} {b : Bool} (h : TupAt H a xs b) (k : H' a = H a) : TupAt H' a xs b := by
  obtain ⟨o, h, d⟩ := h
  exact ⟨o, k.trans h, d⟩
theorem TupAt.ne {H : Hp} {a p : Addr} {xs : List V} {b : Bool} (h : TupAt H a xs b) (hp : H p = none) : a ≠ p := by
  obtain ⟨o, h, d⟩ := h
  exact ne_of_none h hp
mutual
inductive VR (K : PySem.W.Frag) (ρ : Pl) (H : Hp) : V → D → Prop
  | non : VR K ρ H .non .non
  | bl (b : Bool) : VR K ρ H (.bl b) (.bl b)
  | int (i : Int) : VR K ρ H (.int i) (.int i)
  | str (x : Str) : VR K ρ H (.str x) (.str x)
  | tup {a : Addr} {xs : List V} {ds : List D} : TupAt H a xs (rolly ds) → a ∉ ρ → VRs K ρ H xs ds → VR K ρ H (.ref a) (.tup ds)
  | ktup {a : Addr} {xs : List V} {ds : List D} : (∀ H', SqT K H' a xs) → VRs K ρ H xs ds → VR K ρ H (.ref a) (.ktup ds)
  | lst {a : Addr} {xs : List V} {ds : List D} : H a = some (.lst xs) → a ∉ ρ → VRs K ρ H xs ds → VR K ρ H (.ref a) (.lst ds)
  | scr {a : Addr} {xs : List V} {ds : List D} : ((∃ o, H a = some (.frz o (.lst xs)) ∧ a ∉ ρ) ∨ ∀ H', SqL K H' a xs) → VRs K ρ H xs ds → VR K ρ H (.ref a) (.scr ds)
  | dct {a : Addr} {ws : List (Key × V)} {ks : List Key} {ds : List D} : H a = some (.dK ws) → a ∉ ρ → ws.map (·.1) = ks → VRs K ρ H (ws.map (·.2)) ds → VR K ρ H (.ref a) (.dct ks ds)
  | loc {a : Addr} {l : Nat} : ρ.loc[l]? = some a → VR K ρ H (.ref a) (.loc l)
  | ob (v : V) : VR K ρ H v (.ob v)
  | fn {a : Addr} {n : Str} : PySem.W.nsIn K mainGlobals n = some (some (.ref a)) → VR K ρ H (.ref a) (.fn n)
inductive VRs (K : PySem.W.Frag) (ρ : Pl) (H : Hp) : List V → List D → Prop
  | nil : VRs K ρ H [] []
  | cons {v : V} {vs : List V} {d : D} {ds : List D} : VR K ρ H v d → VRs K ρ H vs ds → VRs K ρ H (v :: vs) (d :: ds)
end
inductive KR {κ : Type} (P : V → D → Prop) : List (κ × V) → List (κ × D) → Prop
  | nil : KR P [] []
  | cons {k : κ} {v : V} {d : D} {vs : List (κ × V)} {ds : List (κ × D)} : P v d → KR P vs ds → KR P ((k, v) :: vs) ((k, d) :: ds)

noncomputable def NT (o : HO) : Prop := ∀ ps, o ≠ .tbl ps
noncomputable def FrT (H : Hp) (b : Addr) : Prop := ∀ o, H b = some o → ∃ ps, o = .tbl ps
theorem FrT.none {H : Hp} {b : Addr} (h : H b = none) : FrT H b := fun o e => by rw [h] at e; cases e
noncomputable def NH (o : HO) : Prop := NT o ∧ (∀ c q, o ≠ LamX.CodeO c q) ∧ ∀ xs, o ≠ .tup xs
theorem FrT.no {H : Hp} {b : Addr} {o : HO} (f : FrT H b) (e : H b = some o) (n : NT o) : False := by
  obtain ⟨ps, z⟩ := f o e
  exact n ps z
theorem nt_code {c : Addr} {q : Str} : NT (LamX.CodeO c q) := fun ps z => by
  unfold LamX.CodeO at z; cases z
noncomputable def clsAt (K : PySem.W.Frag) (c : Str) : Value := match PySem.W.nsIn K mainGlobals c with
  | some (some v) => v
  | _ => .none
structure Ext (ρ : Pl) (H : Hp) (ρ' : Pl) (H' : Hp) : Prop where
  pre : ∃ r, ρ'.loc = ρ.loc ++ r
  hid : ∀ p ∈ ρ.hid, p ∈ ρ'.hid
  newL : ∀ p ∈ ρ'.loc, p ∈ ρ.loc ∨ FrT H p
  newH : ∀ p ∈ ρ'.hid, p ∈ ρ.hid ∨ FrT H p
  keep : ∀ b o, H b = some o → NT o → b ∉ ρ.loc → H' b = some o
  live : ∀ b, FrT H' b → FrT H b
  frz : ∀ b o u, H b = some (.frz o u) → H' b = some (.frz o u)
noncomputable def NF (H : Hp) (p : Addr) : Prop := ∀ o u, H p ≠ some (.frz o u)
theorem NF.of {H : Hp} {p : Addr} {x : HO} (h : H p = some x) (n : ∀ o u, x ≠ .frz o u := by (intro o u z; cases z)) : NF H p := fun o u e => by
  rw [h] at e; exact n o u (Option.some.inj e)
theorem NF.none {H : Hp} {p : Addr} (h : H p = none) : NF H p := fun o u e => by rw [h] at e; cases e

section
variable {K : PySem.W.Frag} {ρ ρ' ρ'' : Pl} {H H' H'' : Hp} {S S' : Sto} {σ : St} {τ : Tau}
theorem Ext.refl : Ext ρ H ρ H := ⟨⟨[], by simp⟩, fun _ h => h, fun _ h => .inl h, fun _ h => .inl h, fun _ _ h _ _ => h, fun _ h => h, fun _ _ _ h => h⟩
theorem Ext.outL (e : Ext ρ H ρ' H') {b : Addr} {o : HO} (h : H b = some o) (hb : b ∉ ρ.loc) (n : NT o := by (intro ps z; cases z)) : b ∉ ρ'.loc := fun q => by
  rcases e.newL b q with z | z
  · exact hb z
  · exact z.no h n
theorem Ext.out (e : Ext ρ H ρ' H') {b : Addr} {o : HO} (h : H b = some o) (hb : b ∉ ρ) (n : NT o := by (intro ps z; cases z)) : b ∉ ρ' := fun q => by
  rcases q with q | q
  · exact e.outL h (fun z => hb (.inl z)) n q
  · rcases e.newH b q with z | z
    · exact hb (.inr z)
    · exact z.no h n
theorem Ext.trans (a : Ext ρ H ρ' H') (b : Ext ρ' H' ρ'' H'') : Ext ρ H ρ'' H'' where
  pre := by
    obtain ⟨r, e⟩ := a.pre
    obtain ⟨q, e2⟩ := b.pre
    exact ⟨r ++ q, by rw [e2, e]; simp⟩
  hid := fun p h => b.hid p (a.hid p h)
  newL := fun p hp => (b.newL p hp).elim (a.newL p) fun z => .inr (a.live p z)
  newH := fun p hp => (b.newH p hp).elim (a.newH p) fun z => .inr (a.live p z)
  keep := fun c o h n hc => b.keep c o (a.keep c o h n hc) n (a.outL h hc n)
  live := fun c h => a.live c (b.live c h)
  frz := fun c o u h => b.frz c o u (a.frz c o u h)
theorem Ext.get (e : Ext ρ H ρ' H') {l : Nat} {a : Addr} (h : ρ.loc[l]? = some a) : ρ'.loc[l]? = some a := by
  obtain ⟨r, e1⟩ := e.pre
  rw [e1, List.getElem?_append_left (List.getElem?_eq_some_iff.mp h).1]; exact h
theorem Ext.kp (e : Ext ρ H ρ' H') {b : Addr} {o : HO} (h : H b = some o) (hb : b ∉ ρ) (n : NT o := by (intro ps z; cases z)) : H' b = some o := e.keep b o h n fun z => hb (.inl z)
mutual
theorem VR.mono (e : Ext ρ H ρ' H') : ∀ {v : V} {d : D}, VR K ρ H v d → VR K ρ' H' v d
  | _, _, .non => .non
  | _, _, .bl b => .bl b
  | _, _, .int i => .int i
  | _, _, .str x => .str x
  | _, _, .tup h h2 hs => .tup (let ⟨o, h, hd⟩ := h; ⟨o, e.kp h h2 nt_tupHO, hd⟩) (let ⟨_, h, _⟩ := h; e.out h h2 nt_tupHO) (VRs.mono e hs)
  | _, _, .ktup h hs => .ktup h (VRs.mono e hs)
  | _, _, .lst h h2 hs => .lst (e.kp h h2) (e.out h h2) (VRs.mono e hs)
  | _, _, .scr h hs => .scr (h.imp (fun ⟨o, h1, h2⟩ => ⟨o, e.kp h1 h2, e.out h1 h2⟩) id) (VRs.mono e hs)
  | _, _, .dct h h2 hk hs => .dct (e.kp h h2) (e.out h h2) hk (VRs.mono e hs)
  | _, _, .loc h => .loc (e.get h)
  | _, _, .ob v => .ob v
  | _, _, .fn h => .fn h
theorem VRs.mono (e : Ext ρ H ρ' H') : ∀ {vs : List V} {ds : List D}, VRs K ρ H vs ds → VRs K ρ' H' vs ds
  | _, _, .nil => .nil
  | _, _, .cons h hs => .cons (VR.mono e h) (VRs.mono e hs)
end
theorem VRs.length : ∀ {vs : List V} {ds : List D}, VRs K ρ H vs ds → vs.length = ds.length
  | _, _, .nil => rfl
  | _, _, .cons _ hs => by simp [VRs.length hs]
theorem VRs.get : ∀ {vs : List V} {ds : List D} {i : Nat} {d : D}, VRs K ρ H vs ds → ds[i]? = some d → ∃ v, vs[i]? = some v ∧ VR K ρ H v d
  | _, _, _, _, .nil, e => by simp at e
  | _, _, 0, _, .cons h _, e => by simp at e; subst e; exact ⟨_, rfl, h⟩
  | _, _, i + 1, d, .cons _ hs, e => by
    obtain ⟨v, h1, h2⟩ := VRs.get (i := i) (d := d) hs (by simpa using e)
    exact ⟨v, by simpa using h1, h2⟩
theorem VRs.getV : ∀ {vs : List V} {ds : List D} {i : Nat} {v : V}, VRs K ρ H vs ds → vs[i]? = some v → ∃ d, ds[i]? = some d ∧ VR K ρ H v d
  | _, _, _, _, .nil, e => by simp at e
  | _, _, 0, _, .cons h _, e => by simp at e; subst e; exact ⟨_, rfl, h⟩
  | _, _, i + 1, v, .cons _ hs, e => by
    obtain ⟨d, h1, h2⟩ := VRs.getV (i := i) (v := v) hs (by simpa using e)
    exact ⟨d, by simpa using h1, h2⟩
theorem VRs.append : ∀ {vs ws : List V} {ds es : List D}, VRs K ρ H vs ds → VRs K ρ H ws es → VRs K ρ H (vs ++ ws) (ds ++ es)
  | _, _, _, _, .nil, h => h
  | _, _, _, _, .cons h hs, g => .cons h (VRs.append hs g)
theorem VRs.take : ∀ {vs : List V} {ds : List D} (n : Nat), VRs K ρ H vs ds → VRs K ρ H (vs.take n) (ds.take n)
  | _, _, 0, _ => .nil
  | _, _, _ + 1, .nil => .nil
  | _, _, n + 1, .cons h hs => .cons h (VRs.take n hs)
theorem VRs.drop : ∀ {vs : List V} {ds : List D} (n : Nat), VRs K ρ H vs ds → VRs K ρ H (vs.drop n) (ds.drop n)
  | _, _, 0, h => h
  | _, _, _ + 1, .nil => .nil
  | _, _, n + 1, .cons _ hs => VRs.drop n hs
theorem VRs.set {x : V} {d : D} (r : VR K ρ H x d) : ∀ {vs : List V} {ds : List D} (n : Nat), VRs K ρ H vs ds → VRs K ρ H (vs.set n x) (ds.set n d)
  | _, _, _, .nil => .nil
  | _, _, 0, .cons _ hs => .cons r hs
  | _, _, n + 1, .cons h hs => .cons h (VRs.set r n hs)
theorem VRs.reverse {vs : List V} {ds : List D} (h : VRs K ρ H vs ds) : VRs K ρ H vs.reverse ds.reverse := by
  have g : ∀ (vs ws : List V) (ds es : List D), VRs K ρ H vs ds → VRs K ρ H ws es → VRs K ρ H (vs.reverseAux ws) (ds.reverseAux es) := by
    intro vs
    induction vs with
    | nil => intro ws ds es h g; cases h; exact g
    | cons a r ih => intro ws ds es h g; cases h with | cons h hs => exact (ih _ _ _ hs (.cons h g) :)
  exact g _ _ _ _ h .nil
theorem VRs.map_int (ns : List Int) : VRs K ρ H (ns.map V.int) (ns.map D.int) := by
  induction ns with
  | nil => exact .nil
  | cons a r ih => exact .cons (.int a) ih
theorem KR.length {κ : Type} {P : V → D → Prop} : ∀ {vs : List (κ × V)} {ds : List (κ × D)}, KR P vs ds → vs.length = ds.length
  | _, _, .nil => rfl
  | _, _, .cons _ hs => by simp [KR.length hs]
theorem KR.mono {κ : Type} {P P' : V → D → Prop} (e : ∀ v d, P v d → P' v d) : ∀ {vs : List (κ × V)} {ds : List (κ × D)}, KR P vs ds → KR P' vs ds
  | _, _, .nil => .nil
  | _, _, .cons h hs => .cons (e _ _ h) (KR.mono e hs)

noncomputable def TabN (ρ : Pl) (H : Hp) (P : Addr) (q : Str) : Prop := ∃ ps : Array Value, H P = some (.tbl ps) ∧ TriplesOk ps.toList ∧ ∀ (pos : Pos) (cv : Value), codeAmong pos ps.toList = some cv → ∃ c, cv = .ref c ∧ H c = some (LamX.CodeO c q) ∧ c ∉ ρ
theorem TabN.imp {P : Addr} {q : Str} (t : TabN ρ H P q) (hP : H' P = H P) (k : ∀ c o, H c = some o → NT o → c ∉ ρ → H' c = some o ∧ c ∉ ρ') : TabN ρ' H' P q := by
  obtain ⟨ps, h1, h2, h3⟩ := t
  refine ⟨ps, hP.trans h1, h2, fun pos cv e => ?_⟩
  obtain ⟨c, e1, e2, e3⟩ := h3 pos cv e
  obtain ⟨k1, k2⟩ := k c _ e2 nt_code e3
  exact ⟨c, e1, k1, k2⟩
noncomputable def CR (K : PySem.W.Frag) (ρ : Pl) (H : Hp) (a : Addr) : C → Prop
  | .lst ds => ∃ xs, H a = some (.lst xs) ∧ VRs K ρ H xs ds
  | .dK false kvs => ∃ ws, H a = some (.dK ws) ∧ KR (VR K ρ H) ws kvs
  | .dK true kvs => ∃ o ws, H a = some (.frz o (.dK ws)) ∧ KR (VR K ρ H) ws kvs
  | .dT false kvs => ∃ ws, H a = some (.dT ws) ∧ KR (VR K ρ H) ws kvs
  | .dT true kvs => ∃ o ws, H a = some (.frz o (.dT ws)) ∧ KR (VR K ρ H) ws kvs
  | .ins c fs => ∃ C dx ws, clsAt K c = .ref C ∧ H a = some (.ins C dx ws) ∧ KR (VR K ρ H) ws fs
  | .tab P q => a = P ∧ TabN ρ H P q
structure SR (K : PySem.W.Frag) (ρ : Pl) (S : Sto) (H : Hp) : Prop where
  len : ρ.loc.length = S.length
  nd : ρ.loc.Nodup
  hd : ∀ a ∈ ρ.hid, a ∉ ρ.loc ∧ ∃ o, H a = some o ∧ NH o
  cell : ∀ (l : Nat) c, S[l]? = some c → ∃ a, ρ.loc[l]? = some a ∧ CR K ρ H a c
noncomputable def ER (K : PySem.W.Frag) (ρ : Pl) (H : Hp) (τ : Tau) (σ : St) : Prop := τ.length = σ.length ∧ ∀ (i : Nat) d, τ[i]? = some (some d) → ∃ v, σ[i]? = some (some v) ∧ VR K ρ H v d

theorem CR.isSome {a : Addr} {c : C} (h : CR K ρ H a c) : ∃ o, H a = some o := by
  cases c with
  | lst ds => obtain ⟨xs, h, _⟩ := h; exact ⟨_, h⟩
  | dK lk kvs =>
    cases lk
    · obtain ⟨ws, h, _⟩ := h; exact ⟨_, h⟩
    · obtain ⟨o, ws, h, _⟩ := h; exact ⟨_, h⟩
  | dT lk kvs =>
    cases lk
    · obtain ⟨ws, h, _⟩ := h; exact ⟨_, h⟩
    · obtain ⟨o, ws, h, _⟩ := h; exact ⟨_, h⟩
  | ins cc fs => obtain ⟨C, dx, ws, _, h, _⟩ := h; exact ⟨_, h⟩
  | tab P q => obtain ⟨rfl, ps, h, _⟩ := h; exact ⟨_, h⟩
theorem CR.mono (e : Ext ρ H ρ' H') {a : Addr} {c : C} (h : CR K ρ H a c) (ha : H' a = H a) : CR K ρ' H' a c := by
  have e0 := e
  have m : ∀ v d, VR K ρ H v d → VR K ρ' H' v d := fun _ _ => VR.mono e
  cases c with
  | lst ds => obtain ⟨xs, h, g⟩ := h; exact ⟨xs, ha.trans h, VRs.mono e g⟩
  | dK lk kvs =>
    cases lk
    · obtain ⟨ws, h, g⟩ := h; exact ⟨ws, ha.trans h, g.mono m⟩
    · obtain ⟨o, ws, h, g⟩ := h; exact ⟨o, ws, ha.trans h, g.mono m⟩
  | dT lk kvs =>
    cases lk
    · obtain ⟨ws, h, g⟩ := h; exact ⟨ws, ha.trans h, g.mono m⟩
    · obtain ⟨o, ws, h, g⟩ := h; exact ⟨o, ws, ha.trans h, g.mono m⟩
  | ins cc fs => obtain ⟨C, dx, ws, hc, h, g⟩ := h; exact ⟨C, dx, ws, hc, ha.trans h, g.mono m⟩
  | tab P q => obtain ⟨rfl, h⟩ := h; exact ⟨rfl, h.imp ha fun c o e n z => ⟨e0.kp e z n, e0.out e z n⟩⟩
theorem SR.memL (r : SR K ρ S H) {a : Addr} (h : a ∈ ρ.loc) : ∃ o, H a = some o := by
  obtain ⟨l, hl, e⟩ := List.getElem_of_mem h
  have hl' : l < S.length := by rw [← r.len]; exact hl
  obtain ⟨b, h1, h2⟩ := r.cell l S[l] (by simp [hl'])
  have : b = a := by
    rw [List.getElem?_eq_getElem hl, e] at h1; exact (Option.some.inj h1).symm
  subst this
  exact h2.isSome
theorem SR.mem (r : SR K ρ S H) {a : Addr} (h : a ∈ ρ) : ∃ o, H a = some o := by
  rcases h with h | h
  · exact r.memL h
  · obtain ⟨_, o, e, _⟩ := r.hd a h; exact ⟨o, e⟩
theorem SR.fresh (r : SR K ρ S H) {p : Addr} (h : H p = none) : p ∉ ρ := fun q => by
  obtain ⟨o, e⟩ := r.mem q
  rw [h] at e; cases e
theorem SR.at (r : SR K ρ S H) {l : Nat} {a : Addr} {c : C} (h : ρ.loc[l]? = some a) (hc : S[l]? = some c) : CR K ρ H a c := by
  obtain ⟨b, h1, h2⟩ := r.cell l c hc
  rw [h] at h1; cases h1; exact h2
theorem ER.mono (e : Ext ρ H ρ' H') (r : ER K ρ H τ σ) : ER K ρ' H' τ σ := ⟨r.1, fun i d h => let ⟨v, h1, h2⟩ := r.2 i d h; ⟨v, h1, h2.mono e⟩⟩
theorem upd_live {p : Addr} {o : HO} (n : NT o) : ∀ b, FrT (upd H p o) b → FrT H b := fun b h => by
  by_cases z : b = p
  · subst z; exact (h.no upd_same n).elim
  · intro u e; exact h u (by rw [upd_ne z]; exact e)
theorem upd_live0 {p : Addr} {o : HO} (n : H p = none) : ∀ b, FrT (upd H p o) b → FrT H b := fun b h => by
  by_cases z : b = p
  · subst z; exact .none n
  · intro u e; exact h u (by rw [upd_ne z]; exact e)
theorem Ext.fresh {p : Addr} {o : HO} (h : H p = none) : Ext ρ H ρ (upd H p o) := ⟨⟨[], by simp⟩, fun _ h => h, fun _ q => .inl q, fun _ q => .inl q, fun b u e _ _ => by rw [upd_ne (ne_of_none e h)]; exact e, upd_live0 h, fun b o u e => by rw [upd_ne (ne_of_none e h)]; exact e⟩
theorem SR.laid (r : SR K ρ S H) {p : Addr} {o : HO} (h : H p = none) : SR K ρ S (upd H p o) := ⟨r.len, r.nd, fun a ha => ⟨(r.hd a ha).1, let ⟨u, hu, n⟩ := (r.hd a ha).2; ⟨u, by rw [upd_ne (ne_of_none hu h)]; exact hu, n⟩⟩, fun l c e => by
  obtain ⟨a, h1, h2⟩ := r.cell l c e
  obtain ⟨u, hu⟩ := h2.isSome
  exact ⟨a, h1, h2.mono (Ext.fresh h) (upd_ne (ne_of_none hu h))⟩⟩
theorem Ext.push {p : Addr} {o : HO} (h : H p = none) : Ext ρ H (ρ.push p) (upd H p o) := ⟨⟨[p], rfl⟩, fun _ h => h, fun b q => by
  rcases List.mem_append.mp q with z | z
  · exact .inl z
  · have : b = p := by simpa using z
    subst this; exact .inr (.none h), fun _ q => .inl q, fun b u e _ _ => by rw [upd_ne (ne_of_none e h)]; exact e, upd_live0 h, fun b o u e => by rw [upd_ne (ne_of_none e h)]; exact e⟩
theorem SR.push (r : SR K ρ S H) {p : Addr} {o : HO} {c : C} (h : H p = none) (hc : CR K (ρ.push p) (upd H p o) p c) : SR K (ρ.push p) (S ++ [c]) (upd H p o) := by
  refine ⟨by simp [Pl.push, r.len], ?_, fun a ha => ?_, fun l d e => ?_⟩
  · show (ρ.loc ++ [p]).Nodup
    rw [List.nodup_append]
    refine ⟨r.nd, by simp, fun a ha b hb => ?_⟩
    have : b = p := by simpa using hb
    subst this
    rintro rfl
    exact r.fresh h (.inl ha)
  · obtain ⟨h1, u, hu, n'⟩ := r.hd a ha
    have hne : a ≠ p := ne_of_none hu h
    refine ⟨fun q => ?_, u, by rw [upd_ne hne]; exact hu, n'⟩
    rcases List.mem_append.mp (show a ∈ ρ.loc ++ [p] from q) with z | z
    · exact h1 z
    · exact hne (by simpa using z)
  · by_cases hl : l < S.length
    · rw [List.getElem?_append_left hl] at e
      obtain ⟨a, h1, h2⟩ := r.cell l d e
      obtain ⟨u, hu⟩ := h2.isSome
      exact ⟨a, (Ext.push (o := o) h).get h1, h2.mono (Ext.push h) (upd_ne (ne_of_none hu h))⟩
    · have e2 : l = S.length := by
        have := (List.getElem?_eq_some_iff.mp e).1
        simp at this; omega
      subst e2
      rw [List.getElem?_append_right (Nat.le_refl _)] at e
      simp at e
      subst e
      refine ⟨p, ?_, hc⟩
      show (ρ.loc ++ [p])[S.length]? = some p
      rw [← r.len, List.getElem?_append_right (Nat.le_refl _)]; simp
theorem Pl.push_get {p : Addr} (r : SR K ρ S H) : (ρ.push p).loc[S.length]? = some p := by
  show (ρ.loc ++ [p])[S.length]? = some p
  rw [← r.len, List.getElem?_append_right (Nat.le_refl _)]; simp
theorem Ext.set {l : Nat} {p : Addr} {o : HO} (h : ρ.loc[l]? = some p) (nf : NF H p) (n : NT o := by (intro ps z; cases z)) : Ext ρ H ρ (upd H p o) := ⟨⟨[], by simp⟩, fun _ h => h, fun _ q => .inl q, fun _ q => .inl q, fun b u e _ hb => by
  have : b ≠ p := by rintro rfl; exact hb (List.mem_of_getElem? h)
  rw [upd_ne this]; exact e, upd_live n, fun b q u e => by
  have : b ≠ p := by rintro rfl; exact nf _ _ e
  rw [upd_ne this]; exact e⟩
mutual
theorem VR.unhide {p : Addr} : ∀ {v : V} {d : D}, VR K ρ H v d → VR K (ρ.bare p) H v d
  | _, _, .non => .non
  | _, _, .bl b => .bl b
  | _, _, .int i => .int i
  | _, _, .str x => .str x
  | _, _, .tup h h2 hs => .tup h (fun z => h2 (Pl.bare_sub z)) (VRs.unhide hs)
  | _, _, .ktup h hs => .ktup h (VRs.unhide hs)
  | _, _, .lst h h2 hs => .lst h (fun z => h2 (Pl.bare_sub z)) (VRs.unhide hs)
  | _, _, .dct h h2 hk hs => .dct h (fun z => h2 (Pl.bare_sub z)) hk (VRs.unhide hs)
  | _, _, .scr h hs => .scr (h.imp (fun ⟨o, h1, h2⟩ => ⟨o, h1, fun z => h2 (Pl.bare_sub z)⟩) id) (VRs.unhide hs)
  | _, _, .loc h => .loc h
  | _, _, .ob v => .ob v
  | _, _, .fn h => .fn h
theorem VRs.unhide {p : Addr} : ∀ {vs : List V} {ds : List D}, VRs K ρ H vs ds → VRs K (ρ.bare p) H vs ds
  | _, _, .nil => .nil
  | _, _, .cons h hs => .cons (VR.unhide h) (VRs.unhide hs)
end
mutual
theorem VR.hide {p : Addr} {o : HO} (hp : H p = none) : ∀ {v : V} {d : D}, VR K ρ H v d → VR K (ρ.hide p) (upd H p o) v d
  | _, _, .non => .non
  | _, _, .bl b => .bl b
  | _, _, .int i => .int i
  | _, _, .str x => .str x
  | _, _, .tup h h2 hs => .tup (h.imp (upd_ne (h.ne hp))) (fun z => by
      rcases z with z | z
      · exact h2 (.inl z)
      · rcases List.mem_cons.mp z with z | z
        · exact h.ne hp z
        · exact h2 (.inr z)) (VRs.hide hp hs)
  | _, _, .ktup h hs => .ktup h (VRs.hide hp hs)
  | _, _, .lst h h2 hs => .lst (by rw [upd_ne (ne_of_none h hp)]; exact h) (fun z => by
      rcases z with z | z
      · exact h2 (.inl z)
      · rcases List.mem_cons.mp z with z | z
        · exact ne_of_none h hp z
        · exact h2 (.inr z)) (VRs.hide hp hs)
  | _, _, .dct h h2 hk hs => .dct (by rw [upd_ne (ne_of_none h hp)]; exact h) (fun z => by
      rcases z with z | z
      · exact h2 (.inl z)
      · rcases List.mem_cons.mp z with z | z
        · exact ne_of_none h hp z
        · exact h2 (.inr z)) hk (VRs.hide hp hs)
  | _, _, .scr h hs => .scr (h.imp (fun ⟨u, h1, h2⟩ => ⟨u, by rw [upd_ne (ne_of_none h1 hp)]; exact h1, fun z => by
      rcases z with z | z
      · exact h2 (.inl z)
      · rcases List.mem_cons.mp z with z | z
        · exact ne_of_none h1 hp z
        · exact h2 (.inr z)⟩) id) (VRs.hide hp hs)
  | _, _, .loc h => .loc h
  | _, _, .ob v => .ob v
  | _, _, .fn h => .fn h
theorem VRs.hide {p : Addr} {o : HO} (hp : H p = none) : ∀ {vs : List V} {ds : List D}, VRs K ρ H vs ds → VRs K (ρ.hide p) (upd H p o) vs ds
  | _, _, .nil => .nil
  | _, _, .cons h hs => .cons (VR.hide hp h) (VRs.hide hp hs)
end
theorem ne_hid {p a : Addr} (hp : p ∈ ρ) (h : a ∉ ρ) : a ≠ p := by rintro rfl; exact h hp
mutual
theorem VR.rehide {p : Addr} {o : HO} (hp : p ∈ ρ) : ∀ {v : V} {d : D}, VR K ρ H v d → VR K ρ (upd H p o) v d
  | _, _, .non => .non
  | _, _, .bl b => .bl b
  | _, _, .int i => .int i
  | _, _, .str x => .str x
  | _, _, .tup h h2 hs => .tup (h.imp (upd_ne (ne_hid hp h2))) h2 (VRs.rehide hp hs)
  | _, _, .ktup h hs => .ktup h (VRs.rehide hp hs)
  | _, _, .lst h h2 hs => .lst (by rw [upd_ne (ne_hid hp h2)]; exact h) h2 (VRs.rehide hp hs)
  | _, _, .dct h h2 hk hs => .dct (by rw [upd_ne (ne_hid hp h2)]; exact h) h2 hk (VRs.rehide hp hs)
  | _, _, .scr h hs => .scr (h.imp (fun ⟨u, h1, h2⟩ => ⟨u, by rw [upd_ne (ne_hid hp h2)]; exact h1, h2⟩) id) (VRs.rehide hp hs)
  | _, _, .loc h => .loc h
  | _, _, .ob v => .ob v
  | _, _, .fn h => .fn h
theorem VRs.rehide {p : Addr} {o : HO} (hp : p ∈ ρ) : ∀ {vs : List V} {ds : List D}, VRs K ρ H vs ds → VRs K ρ (upd H p o) vs ds
  | _, _, .nil => .nil
  | _, _, .cons h hs => .cons (VR.rehide hp h) (VRs.rehide hp hs)
end
theorem CR.map {a : Addr} {c : C} (h : CR K ρ H a c) (m : ∀ v d, VR K ρ H v d → VR K ρ' H' v d) (ms : ∀ v d, VRs K ρ H v d → VRs K ρ' H' v d) (mt : ∀ c o, H c = some o → NT o → c ∉ ρ → H' c = some o ∧ c ∉ ρ') (ha : H' a = H a) : CR K ρ' H' a c := by
  cases c with
  | lst ds => obtain ⟨xs, h, g⟩ := h; exact ⟨xs, ha.trans h, ms _ _ g⟩
  | dK lk kvs =>
    cases lk
    · obtain ⟨ws, h, g⟩ := h; exact ⟨ws, ha.trans h, g.mono m⟩
    · obtain ⟨o, ws, h, g⟩ := h; exact ⟨o, ws, ha.trans h, g.mono m⟩
  | dT lk kvs =>
    cases lk
    · obtain ⟨ws, h, g⟩ := h; exact ⟨ws, ha.trans h, g.mono m⟩
    · obtain ⟨o, ws, h, g⟩ := h; exact ⟨o, ws, ha.trans h, g.mono m⟩
  | ins cc fs => obtain ⟨C, dx, ws, hc, h, g⟩ := h; exact ⟨C, dx, ws, hc, ha.trans h, g.mono m⟩
  | tab P q => obtain ⟨rfl, h⟩ := h; exact ⟨rfl, h.imp ha mt⟩
theorem SR.set (r : SR K ρ S H) {l : Nat} {p : Addr} {o : HO} {c : C} (h : ρ.loc[l]? = some p) (hc : CR K ρ (upd H p o) p c) (n : NT o := by (intro ps z; cases z)) : SR K ρ (S.set l c) (upd H p o) := by
  refine ⟨by simp [r.len], r.nd, fun a ha => ?_, fun i d e => ?_⟩
  · obtain ⟨h1, u, hu, n'⟩ := r.hd a ha
    have hne : a ≠ p := by rintro rfl; exact h1 (List.mem_of_getElem? h)
    exact ⟨h1, u, by rw [upd_ne hne]; exact hu, n'⟩
  · by_cases hi : i = l
    · subst hi
      have hl : i < S.length := by
        have := (List.getElem?_eq_some_iff.mp e).1
        simpa using this
      rw [List.getElem?_set_self hl] at e
      cases e
      exact ⟨p, h, hc⟩
    · rw [List.getElem?_set_ne (Ne.symm hi)] at e
      obtain ⟨a, h1, h2⟩ := r.cell i d e
      have : a ≠ p := by
        rintro rfl
        obtain ⟨x1, y1⟩ := List.getElem?_eq_some_iff.mp h1
        obtain ⟨x2, y2⟩ := List.getElem?_eq_some_iff.mp h
        exact hi ((List.getElem_inj r.nd).mp (y1.trans y2.symm))
      have hp : p ∈ ρ := .inl (List.mem_of_getElem? h)
      exact ⟨a, h1, h2.map (fun _ _ => VR.rehide hp) (fun _ _ => VRs.rehide hp) (fun c o e _ z => ⟨by rw [upd_ne (ne_hid hp z)]; exact e, z⟩) (upd_ne this)⟩
theorem SR.hide (r : SR K ρ S H) {p : Addr} {o : HO} (hp : H p = none) (n : NH o := by exact ⟨(by intro ps z; cases z), (by intro c q z; unfold LamX.CodeO at z; cases z), (by intro xs z; cases z)⟩) : SR K (ρ.hide p) S (upd H p o) := by
  refine ⟨r.len, r.nd, fun a ha => ?_, fun l c e => ?_⟩
  · rcases List.mem_cons.mp (show a ∈ p :: ρ.hid from ha) with z | z
    · subst z; exact ⟨fun q => r.fresh hp (.inl q), o, upd_same, n⟩
    · obtain ⟨h1, u, hu, n'⟩ := r.hd a z
      exact ⟨h1, u, by rw [upd_ne (ne_of_none hu hp)]; exact hu, n'⟩
  · obtain ⟨a, h1, h2⟩ := r.cell l c e
    obtain ⟨u, hu⟩ := h2.isSome
    refine ⟨a, h1, h2.map (fun _ _ => VR.hide hp) (fun _ _ => VRs.hide hp) (fun c o e _ z => ⟨by rw [upd_ne (ne_of_none e hp)]; exact e, fun y => ?_⟩) (upd_ne (ne_of_none hu hp))⟩
    rcases y with y | y
    · exact z (.inl y)
    · rcases List.mem_cons.mp y with y | y
      · exact ne_of_none e hp y
      · exact z (.inr y)
theorem SR.rehide (r : SR K ρ S H) {p : Addr} {o : HO} (hp : p ∈ ρ.hid) (n : NH o := by exact ⟨(by intro ps z; cases z), (by intro c q z; unfold LamX.CodeO at z; cases z), (by intro xs z; cases z)⟩) : SR K ρ S (upd H p o) := by
  refine ⟨r.len, r.nd, fun a ha => ?_, fun l c e => ?_⟩
  · obtain ⟨h1, u, hu, n'⟩ := r.hd a ha
    by_cases z : a = p
    · subst z; exact ⟨h1, o, upd_same, n⟩
    · exact ⟨h1, u, by rw [upd_ne z]; exact hu, n'⟩
  · obtain ⟨a, h1, h2⟩ := r.cell l c e
    have : a ≠ p := by rintro rfl; exact (r.hd _ hp).1 (List.mem_of_getElem? h1)
    exact ⟨a, h1, h2.map (fun _ _ => VR.rehide (.inr hp)) (fun _ _ => VRs.rehide (.inr hp)) (fun c o e _ z => ⟨by rw [upd_ne (ne_hid (.inr hp) z)]; exact e, z⟩) (upd_ne this)⟩
theorem SR.unhide {p : Addr} (r : SR K ρ S H) : SR K (ρ.bare p) S H := by
  refine ⟨r.len, r.nd, fun a ha => r.hd a (List.mem_filter.mp ha).1, fun l c e => ?_⟩
  obtain ⟨a, h1, h2⟩ := r.cell l c e
  exact ⟨a, h1, h2.map (fun _ _ => VR.unhide) (fun _ _ => VRs.unhide) (fun c o e _ z => ⟨e, fun y => z (Pl.bare_sub y)⟩) rfl⟩

theorem Ext.hide {p : Addr} {o : HO} (h : H p = none) : Ext ρ H (ρ.hide p) (upd H p o) := ⟨⟨[], by simp [Pl.hide]⟩, fun _ q => List.mem_cons_of_mem _ q, fun _ q => .inl q, fun a q => by
  rcases List.mem_cons.mp (show a ∈ p :: ρ.hid from q) with z | z
  · subst z; exact .inr (.none h)
  · exact .inl z, fun b u e _ _ => by rw [upd_ne (ne_of_none e h)]; exact e, upd_live0 h, fun b o u e => by rw [upd_ne (ne_of_none e h)]; exact e⟩
theorem Ext.bare {p : Addr} (e : Ext ρ H ρ' H') (h : p ∉ ρ.hid) : Ext ρ H (ρ'.bare p) H' := ⟨e.pre, fun a q => List.mem_filter.mpr ⟨e.hid a q, decide_eq_true (by rintro rfl; exact h q)⟩, e.newL, fun a q => e.newH a (List.mem_filter.mp q).1, e.keep, e.live, e.frz⟩
theorem Ext.rehide {p : Addr} {o : HO} (e : Ext ρ H ρ' H') (h : H p = none) : Ext ρ H ρ' (upd H' p o) := ⟨e.pre, e.hid, e.newL, e.newH, fun b u q n hb => by rw [upd_ne (ne_of_none q h)]; exact e.keep b u q n hb, fun b q u z => by
  have hb : b ≠ p := ne_of_none z h
  exact e.live b (fun u2 z2 => q u2 (by rw [upd_ne hb]; exact z2)) u z, fun b q u z => by rw [upd_ne (ne_of_none z h)]; exact e.frz b q u z⟩

noncomputable def XD (K : PySem.W.Frag) (ρ : Pl) (H : Hp) (dd : Option Addr) (fs : List (Str × D)) : Prop :=
  (fs = [] ∧ dd = none) ∨ (fs ≠ [] ∧ ∃ da ws, dd = some da ∧ H da = some (.xd ws) ∧ da ∉ ρ ∧ KR (VR K ρ H) ws fs)
noncomputable def Post (K : PySem.W.Frag) (W : XK) (ρ : Pl) (H : Hp) {A B : Type} (o : R A) (rel : Pl → Hp → B → A → Prop) (Q : B → Hp → Prop) : Prop := match o with
  | .ok d S' => ∀ ρ' H' v, Ext ρ H ρ' H' → SR K ρ' S' H' → rel ρ' H' v d → Q v H'
  | .ex c fs S' => ∀ ρ' H' dd, Ext ρ H ρ' H' → SR K ρ' S' H' → XD K ρ' H' dd fs → W (clsAt K c) dd H'
  | .bad => False
theorem Post.ext {W : XK} {A B : Type} {o : R A} {rel : Pl → Hp → B → A → Prop} {Q : B → Hp → Prop} (e : Ext ρ H ρ' H') (h : Post K W ρ H o rel Q) : Post K W ρ' H' o rel Q := by
  cases o with
  | ok d S' => exact fun r2 H2 v e2 s2 v2 => h r2 H2 v (e.trans e2) s2 v2
  | ex c fs S' => exact fun r2 H2 v e2 s2 v2 => h r2 H2 v (e.trans e2) s2 v2
  | bad => exact h
theorem Post.bind {W : XK} {A B A' B' : Type} {o : R A} {f : A → Sto → R A'} {rel : Pl → Hp → B → A → Prop} {rel' : Pl → Hp → B' → A' → Prop} {Q : B' → Hp → Prop} {Q1 : B → Hp → Prop}
    (h : Post K W ρ H (o.bind f) rel' Q) (k : ∀ ρ1 H1 S1 v d, Ext ρ H ρ1 H1 → SR K ρ1 S1 H1 → rel ρ1 H1 v d → Post K W ρ1 H1 (f d S1) rel' Q → Q1 v H1) : Post K W ρ H o rel Q1 := by
  cases o with
  | ok d S' => exact fun r2 H2 v e2 s2 v2 => k r2 H2 S' v d e2 s2 v2 (Post.ext e2 h)
  | ex c fs S' => exact h
  | bad => exact h
theorem Post.here {W : XK} {A B : Type} {d : A} {rel : Pl → Hp → B → A → Prop} {Q : B → Hp → Prop} {v : B} (h : Post K W ρ H (.ok d S) rel Q) (s : SR K ρ S H) (r : rel ρ H v d) : Q v H := h ρ H v Ext.refl s r
end

noncomputable abbrev ME := Tau → Sto → R D
noncomputable abbrev MT := Tau → Sto → R Bool
noncomputable abbrev MA := Tau → Sto → R (List D)
noncomputable abbrev relB : Pl → Hp → Bool → Bool → Prop := fun _ _ b b' => b = b'
noncomputable def Em (K : PySem.W.Frag) (W : WX) (m : ME) : TE := fun σ H Q => ∃ ρ τ S, SR K ρ S H ∧ ER K ρ H τ σ ∧ Post K (fun c d H' => W c d σ H') ρ H (m τ S) (VR K) Q
noncomputable def Tm (K : PySem.W.Frag) (W : WX) (m : MT) : TT := fun σ H Q => ∃ ρ τ S, SR K ρ S H ∧ ER K ρ H τ σ ∧ Post K (fun c d H' => W c d σ H') ρ H (m τ S) relB Q
noncomputable def Am (K : PySem.W.Frag) (W : WX) (m : MA) : TA := fun σ H Q => ∃ ρ τ S, SR K ρ S H ∧ ER K ρ H τ σ ∧ Post K (fun c d H' => W c d σ H') ρ H (m τ S) (VRs K) Q
theorem PE_imp {X : Cx} {e : Expr} {t t' : TE} (h : PE X e t) (k : ∀ σ H Q, t' σ H Q → t σ H Q) : PE X e t' := ⟨fun pins s σ H Q I w => h.run pins s σ H Q I (k σ H Q w)⟩
theorem PT_imp {X : Cx} {e : Expr} {t t' : TT} (h : PT X e t) (k : ∀ σ H Q, t' σ H Q → t σ H Q) : PT X e t' := ⟨fun pins s σ H Q I w => h.run pins s σ H Q I (k σ H Q w)⟩
theorem PW_imp {X : Cx} {e : Expr} {t t' : TT} (h : PW X e t) (k : ∀ σ H Q, t' σ H Q → t σ H Q) : PW X e t' := ⟨fun wh pins s σ H Q I w => h.run wh pins s σ H Q I (k σ H Q w)⟩
theorem PA_imp {X : Cx} {es : List Expr} {t t' : TA} (h : PA X es t) (k : ∀ σ H Q, t' σ H Q → t σ H Q) : PA X es t' := ⟨fun p pins s σ H Q I w => h.run p pins s σ H Q I (k σ H Q w)⟩
theorem PS_imp {X : Cx} {e : Stmt} {t t' : TS} (h : PS X e t) (k : ∀ D σ H, t' D σ H → t D σ H) : PS X e t' := ⟨fun pins s σ H D I w => h.run pins s σ H D I (k D σ H w)⟩
theorem PSs_imp {X : Cx} {e : List Stmt} {t t' : TS} (h : PSs X e t) (k : ∀ D σ H, t' D σ H → t D σ H) : PSs X e t' := ⟨fun pins s σ H D I w => h.run pins s σ H D I (k D σ H w)⟩

section
variable {X : Cx} {W : WX} {σ : St} {H : Hp}
theorem Em_bind {K : PySem.W.Frag} {A' B' : Type} {m : ME} {f : D → Sto → R A'} {rel' : Pl → Hp → B' → A' → Prop} {Q : B' → Hp → Prop} {Q1 : VK} {ρ : Pl} {τ : Tau} {S : Sto} (s : SR K ρ S H) (r : ER K ρ H τ σ)
    (h : Post K (fun c d H' => W c d σ H') ρ H ((m τ S).bind f) rel' Q)
    (k : ∀ ρ1 H1 S1 v d, SR K ρ1 S1 H1 → ER K ρ1 H1 τ σ → Ext ρ H ρ1 H1 → VR K ρ1 H1 v d → Post K (fun c d H' => W c d σ H') ρ1 H1 (f d S1) rel' Q → Q1 v H1) : Em K W m σ H Q1 :=
  ⟨ρ, τ, S, s, r, Post.bind h fun ρ1 H1 S1 v d e s1 v1 p => k ρ1 H1 S1 v d s1 (r.mono e) e v1 p⟩
theorem Tm_bind {K : PySem.W.Frag} {A' B' : Type} {m : MT} {f : Bool → Sto → R A'} {rel' : Pl → Hp → B' → A' → Prop} {Q : B' → Hp → Prop} {Q1 : Bool → Hp → Prop} {ρ : Pl} {τ : Tau} {S : Sto} (s : SR K ρ S H) (r : ER K ρ H τ σ)
    (h : Post K (fun c d H' => W c d σ H') ρ H ((m τ S).bind f) rel' Q)
    (k : ∀ ρ1 H1 S1 b, SR K ρ1 S1 H1 → ER K ρ1 H1 τ σ → Ext ρ H ρ1 H1 → Post K (fun c d H' => W c d σ H') ρ1 H1 (f b S1) rel' Q → Q1 b H1) : Tm K W m σ H Q1 :=
  ⟨ρ, τ, S, s, r, Post.bind h fun ρ1 H1 S1 v d e s1 v1 p => by
    have v1' : v = d := v1
    subst v1'; exact k ρ1 H1 S1 v s1 (r.mono e) e p⟩
theorem Am_bind {K : PySem.W.Frag} {A' B' : Type} {m : MA} {f : List D → Sto → R A'} {rel' : Pl → Hp → B' → A' → Prop} {Q : B' → Hp → Prop} {Q1 : List V → Hp → Prop} {ρ : Pl} {τ : Tau} {S : Sto} (s : SR K ρ S H) (r : ER K ρ H τ σ)
    (h : Post K (fun c d H' => W c d σ H') ρ H ((m τ S).bind f) rel' Q)
    (k : ∀ ρ1 H1 S1 v d, SR K ρ1 S1 H1 → ER K ρ1 H1 τ σ → Ext ρ H ρ1 H1 → VRs K ρ1 H1 v d → Post K (fun c d H' => W c d σ H') ρ1 H1 (f d S1) rel' Q → Q1 v H1) : Am K W m σ H Q1 :=
  ⟨ρ, τ, S, s, r, Post.bind h fun ρ1 H1 S1 v d e s1 v1 p => k ρ1 H1 S1 v d s1 (r.mono e) e v1 p⟩
end
end Z

namespace Z
open PySem L2

noncomputable def listD : D → Sto → Option (List D)
  | .lst ds, _ => some ds
  | .loc l, S => match S[l]? with | some (.lst ds) => some ds | _ => none
  | _, _ => none
noncomputable def listR : D → Sto → Option (List D)
  | .scr ds, _ => some ds
  | .lst ds, _ => some ds
  | .loc l, S => match S[l]? with | some (.lst ds) => some ds | _ => none
  | _, _ => none
section
variable {K : PySem.W.Frag} {ρ : Pl} {H : Hp} {S : Sto} {v : V} {d : D} {ds : List D}
theorem listD_of (s : SR K ρ S H) (r : VR K ρ H v d) (h : listD d S = some ds) : ∃ a xs, v = .ref a ∧ H a = some (.lst xs) ∧ VRs K ρ H xs ds := by
  cases r with
  | lst h1 h2 hs => simp only [listD, Option.some.injEq] at h; subst h; exact ⟨_, _, rfl, h1, hs⟩
  | @loc a l hl =>
    simp only [listD] at h
    split at h
    · rename_i es e
      simp only [Option.some.injEq] at h
      subst h
      obtain ⟨xs, h1, h2⟩ := s.at hl e
      exact ⟨_, _, rfl, h1, h2⟩
    · cases h
  | _ => simp [listD] at h
theorem listR_of (s : SR K ρ S H) (r : VR K ρ H v d) (h : listR d S = some ds) : ∃ a xs, v = .ref a ∧ SqL K H a xs ∧ VRs K ρ H xs ds := by
  cases r with
  | lst h1 h2 hs => simp only [listR, Option.some.injEq] at h; subst h; exact ⟨_, _, rfl, SqL.of h1, hs⟩
  | scr h1 hs =>
    simp only [listR, Option.some.injEq] at h; subst h
    refine ⟨_, _, rfl, ?_, hs⟩
    rcases h1 with ⟨o, h1, _⟩ | h1
    · exact .inl (.inr ⟨o, h1⟩)
    · exact h1 H
  | @loc a l hl =>
    simp only [listR] at h
    split at h
    · rename_i es e
      simp only [Option.some.injEq] at h
      subst h
      obtain ⟨xs, h1, h2⟩ := s.at hl e
      exact ⟨_, _, rfl, SqL.of h1, h2⟩
    · cases h
  | _ => simp [listR] at h
theorem tup_of (r : VR K ρ H v (.tup ds)) : ∃ a xs, v = .ref a ∧ SqT K H a xs ∧ VRs K ρ H xs ds := by
  cases r with
  | tup h _ hs => exact ⟨_, _, rfl, h.sq, hs⟩
theorem ktup_of (r : VR K ρ H v (.ktup ds)) : ∃ a xs, v = .ref a ∧ SqT K H a xs ∧ VRs K ρ H xs ds := by
  cases r with
  | ktup h hs => exact ⟨_, _, rfl, h H, hs⟩
theorem tup_at (r : VR K ρ H v (.tup ds)) (hb : rolly ds = false) : ∃ a xs, v = .ref a ∧ H a = some (.tup xs) ∧ VRs K ρ H xs ds := by
  cases r with
  | tup h _ hs => rw [hb] at h; exact ⟨_, _, rfl, h.no, hs⟩
theorem VR.newTupB (s : SR K ρ S H) {p : Addr} {xs : List V} {o : Obj} (ho : o.dict = none) (hp : H p = none) (h : VRs K ρ H xs ds) : VR K ρ (upd H p (tupHO (rolly ds) o xs)) (.ref p) (.tup ds) :=
  .tup ⟨o, upd_same, ho⟩ (s.fresh hp) (h.mono (Ext.fresh hp))
theorem VR.newTup (s : SR K ρ S H) {p : Addr} {xs : List V} (hp : H p = none) (h : VRs K ρ H xs ds) (hb : rolly ds = false := by rfl) : VR K ρ (upd H p (.tup xs)) (.ref p) (.tup ds) := by
  have := VR.newTupB s (o := { cls := .none, data := .fields #[] }) rfl hp h
  rw [hb] at this
  exact this
noncomputable def NewT (Q : VK) (H : Hp) (xs : List V) : Prop := ∃ b : Bool, ∀ p o, H p = none → o.dict = none → Q (.ref p) (upd H p (tupHO b o xs))
theorem Post.newTupB {W : XK} {Q : VK} (h : Post K W ρ H (.ok (.tup ds) S) (VR K) Q) (s : SR K ρ S H) {xs : List V} (r : VRs K ρ H xs ds) : NewT Q H xs := ⟨rolly ds, fun p o hp ho =>
  h ρ _ _ (Ext.fresh hp) (s.laid hp) (VR.newTupB s ho hp r)⟩
theorem VR.newLst (s : SR K ρ S H) {p : Addr} {xs : List V} (hp : H p = none) (h : VRs K ρ H xs ds) : VR K ρ (upd H p (.lst xs)) (.ref p) (.lst ds) :=
  .lst upd_same (s.fresh hp) (h.mono (Ext.fresh hp))
theorem Post.newTup {W : XK} {Q : VK} (h : Post K W ρ H (.ok (.tup ds) S) (VR K) Q) (s : SR K ρ S H) {xs : List V} (r : VRs K ρ H xs ds) (hb : rolly ds = false := by rfl) : ∀ p, H p = none → Q (.ref p) (upd H p (.tup xs)) := fun p hp =>
  h ρ _ _ (Ext.fresh hp) (s.laid hp) (VR.newTup s hp r hb)
theorem Post.newLst {W : XK} {Q : VK} (h : Post K W ρ H (.ok (.lst ds) S) (VR K) Q) (s : SR K ρ S H) {xs : List V} (r : VRs K ρ H xs ds) : ∀ p, H p = none → Q (.ref p) (upd H p (.lst xs)) := fun p hp =>
  h ρ _ _ (Ext.fresh hp) (s.laid hp) (VR.newLst s hp r)
end

section
variable {X : Cx} {P : Program} {w : World} {pins : List (Addr × Obj)} {σ : St} {H : Hp} {s : Shared}
theorem objOk_tup {h : Heap} {a : Addr} {b : Bool} {o : Obj} {xs : List V} {its : List Value} {n : Nat} (hz : xs.length ≤ sizeLine) (r : Vals xs its) (e : h.get? a = some o) (hc : o.cls = .type "tuple") (hd : o.data = .seq its.toArray n) : ObjOk P w H h a (tupHO b o xs) := by
  have g : ObjOk P w H h a (.tup xs) := ⟨hz, its, r, o, e, hc, n, hd⟩
  unfold tupHO
  split
  · exact ⟨e, g⟩
  · exact g
noncomputable def tTupN (t : TA) : TE := fun σ H Q => t σ H fun xs H1 => xs.length ≤ sizeLine ∧ NewT Q H1 xs
theorem pe_tupN {es : List Expr} {t : TA} {x1} {pos : Pos} (h : PA X es t) : PE X (.Tuple es x1 pos) (tTupN t) := by
  refine ⟨fun pins s σ H Q I hq => ?_⟩
  refine wpAny_Tuple_spliced (thn (h.run pos pins s σ H _ I hq) fun us s1 ⟨xs, H1, I1, r, z, b, q⟩ => ⟨by rw [← r.length]; exact z, ?_⟩)
  have hf : H1 s1.heap.objs.size = none := I1.hok.fresh (Nat.le_refl _)
  refine ⟨.ref s1.heap.objs.size, _, I1.laid (t' := s1.toks) (o := tupHO b { cls := .type "tuple", data := .seq us.toArray } xs) (fun b u e => Heap.get?_push_of_some _ e) (Nat.le_refl _) ?_, rfl, q _ _ hf rfl⟩
  exact objOk_tup z r (Heap.get?_push_size _ rfl) rfl rfl
end
noncomputable def guardR {A : Type} (c : Prop) [Decidable c] (o : R A) : R A := if c then o else .bad
theorem guardR_post {K W ρ H} {A B : Type} {c : Prop} [Decidable c] {o : R A} {rel : Pl → Hp → B → A → Prop} {Q} (h : Post K W ρ H (guardR c o) rel Q) : c ∧ Post K W ρ H o rel Q := by
  unfold guardR at h
  split at h
  · exact ⟨by assumption, h⟩
  · exact h.elim
@[simp] theorem guardR_pos {A : Type} {c : Prop} [Decidable c] {o : R A} (h : c) : guardR c o = o := if_pos h

noncomputable def mVar (i : Nat) : ME := fun τ S => match τ[i]? with | some (some d) => .ok d S | _ => .bad
noncomputable def mC (d : D) : ME := fun _ S => .ok d S
section
variable {X : Cx} {W : WX} {e a b c : Expr} {ma mb mc : ME} {pos : Pos}
theorem z_var (i : Nat) {x : Str} (h : PE X (.Name x pos) (tVar i)) : PE X (.Name x pos) (Em X.K W (mVar i)) := PE_imp h fun σ H Q ⟨ρ, τ, S, s, r, p⟩ => by
  unfold mVar at p
  split at p
  · rename_i d e
    obtain ⟨v, h1, h2⟩ := r.2 i d e
    exact ⟨v, h1, p.here s h2⟩
  · exact p.elim
theorem z_c {v : V} {d : D} (h : PE X e (tC v)) (hv : ∀ ρ H, VR X.K ρ H v d) : PE X e (Em X.K W (mC d)) := PE_imp h fun σ H Q ⟨ρ, τ, S, s, r, p⟩ => p.here s (hv ρ H)
theorem z_int {i j} : PE X (.Constant (.int i) j pos) (Em X.K W (mC (.int i))) := z_c pe_int fun _ _ => .int i
theorem z_bl {i j} : PE X (.Constant (.bool i) j pos) (Em X.K W (mC (.bl i))) := z_c pe_bl fun _ _ => .bl i
theorem z_non {j} : PE X (.Constant .none j pos) (Em X.K W (mC .non)) := z_c pe_non fun _ _ => .non
theorem z_glob {x : Str} {v : V} {u : Value} {d : D} (hm : X.mg x = some u) (r : RelV v u) (hv : ∀ ρ H, VR X.K ρ H v d) (hg : Gl X x := by rfl) (hd : (x == ("__debug__" : Str)) = false := by decide) : PE X (.Name x pos) (Em X.K W (mC d)) :=
  z_c (pe_glob hg hm r hd) hv

noncomputable def OpS (K : PySem.W.Frag) (f : D → D → Sto → R D) (r : R2) : Prop := ∀ (W : XK) (ρ : Pl) (S : Sto) (H : Hp) (x y : V) (dx dy : D) (Q : VK), SR K ρ S H → VR K ρ H x dx → VR K ρ H y dy → Post K W ρ H (f dx dy S) (VR K) Q → r x y H Q
noncomputable def mBin (f : D → D → Sto → R D) (a b : ME) : ME := fun τ S => (a τ S).bind fun x S1 => (b τ S1).bind fun y S2 => f x y S2
theorem Em_op {K : PySem.W.Frag} {f : D → D → Sto → R D} {r : R2} (hs : OpS K f r) {σ : St} {H : Hp} {Q : VK} (h : Em K W (mBin f ma mb) σ H Q) : tOp r (Em K W ma) (Em K W mb) σ H Q := by
  obtain ⟨ρ, τ, S, s, e, p⟩ := h
  exact Em_bind s e p fun ρ1 H1 S1 v d s1 e1 x1 v1 p1 => Em_bind s1 e1 p1 fun ρ2 H2 S2 w d2 s2 e2 x2 v2 p2 => hs _ ρ2 S2 H2 v w d d2 Q s2 (v1.mono x2) v2 p2
theorem z_bin {op : Operator} {f : D → D → Sto → R D} {r : R2} (ho : OpR X (binaryOp op) r) (hs : OpS X.K f r) (ha : PE X a (Em X.K W ma)) (hb : PE X b (Em X.K W mb)) : PE X (.BinOp a op b pos) (Em X.K W (mBin f ma mb)) :=
  PE_imp (pe_op ho ha hb) fun σ H Q h => Em_op hs h
theorem z_cmp {op : CmpOp} {f : D → D → Sto → R D} {r : R2} (ho : OpR X (compareOp op) r) (hs : OpS X.K f r) (ha : PE X a (Em X.K W ma)) (hb : PE X b (Em X.K W mb)) (hm : behindInMarks op b = false := by first | exact nomark _ | rfl) : PE X (.Compare a [op] [b] pos) (Em X.K W (mBin f ma mb)) :=
  PE_imp (pe_cmpR ho ha hb hm) fun σ H Q h => Em_op hs h
noncomputable def asB : D → Sto → R Bool
  | .bl b, S => .ok b S
  | _, _ => .bad
noncomputable def mB (m : ME) : MT := fun τ S => (m τ S).bind asB
theorem asB_post {K : PySem.W.Frag} {Wk : XK} {ρ : Pl} {H : Hp} {S : Sto} {v : V} {d : D} {Q : Bool → Hp → Prop} (s : SR K ρ S H) (r : VR K ρ H v d) (h : Post K Wk ρ H (asB d S) relB Q) : ∃ k, v = .bl k ∧ Q k H := by
  unfold asB at h
  split at h
  · cases r
    exact ⟨_, rfl, h.here s rfl⟩
  · exact h.elim
theorem t_cmp {op : CmpOp} {f : D → D → Sto → R D} {r : R2} (ho : OpR X (compareOp op) r) (hs : OpS X.K f r) (ha : PE X a (Em X.K W ma)) (hb : PE X b (Em X.K W mb)) (hm : behindInMarks op b = false := by first | exact nomark _ | rfl) : PT X (.Compare a [op] [b] pos) (Tm X.K W (mB (mBin f ma mb))) :=
  PT_imp (pt_cmpR ho ha hb hm) fun σ H Q h => by
    obtain ⟨ρ, τ, S, s, e, p⟩ := h
    have p' : Post X.K (fun c d H' => W c d σ H') ρ H ((ma τ S).bind fun x S1 => ((mb τ S1).bind fun y S2 => f x y S2).bind asB) relB Q := by
      have : ((mBin f ma mb τ S).bind asB) = ((ma τ S).bind fun x S1 => ((mb τ S1).bind fun y S2 => f x y S2).bind asB) := by
        unfold mBin
        cases ma τ S <;> rfl
      rw [← this]; exact p
    refine Em_bind s e p' fun ρ1 H1 S1 v d s1 e1 x1 v1 p1 => ?_
    have p1' : Post X.K (fun c d H' => W c d σ H') ρ1 H1 ((mb τ S1).bind fun y S2 => (f d y S2).bind asB) relB Q := by
      have : (((mb τ S1).bind fun y S2 => f d y S2).bind asB) = ((mb τ S1).bind fun y S2 => (f d y S2).bind asB) := by
        cases mb τ S1 <;> rfl
      rw [← this]; exact p1
    refine Em_bind s1 e1 p1' fun ρ2 H2 S2 w d2 s2 e2 x2 v2 p2 => ?_
    refine hs _ ρ2 S2 H2 v w d d2 _ s2 (v1.mono x2) v2 (Post.bind p2 fun ρ3 H3 S3 z dz x3 s3 v3 p3 => asB_post s3 v3 p3)
noncomputable def mChain (f g : D → D → Sto → R D) (a b c : ME) : ME := fun τ S => (a τ S).bind fun x S1 => (b τ S1).bind fun y S2 => (f x y S2).bind fun k S3 => (asB k S3).bind fun k S3 =>
  if k = true then (c τ S3).bind fun z S4 => g y z S4 else .ok (.bl false) S3
theorem z_chain {op op' : CmpOp} {f g : D → D → Sto → R D} {r r' : R2} (ho : OpR X (compareOp op) r) (hs : OpS X.K f r) (ho' : OpR X (compareOp op') r') (hs' : OpS X.K g r') (ha : PE X a (Em X.K W ma)) (hb : PE X b (Em X.K W mb)) (hc : PE X c (Em X.K W mc)) 
    (h : PE X (.Compare a [op, op'] [b, c] pos) (tChain r r' (Em X.K W ma) (Em X.K W mb) (Em X.K W mc))) : PE X (.Compare a [op, op'] [b, c] pos) (Em X.K W (mChain f g ma mb mc)) :=
  PE_imp h fun σ H Q h => by
    obtain ⟨ρ, τ, S, s, e, p⟩ := h
    refine Em_bind s e p fun ρ1 H1 S1 v d s1 e1 x1 v1 p1 => ?_
    refine Em_bind s1 e1 p1 fun ρ2 H2 S2 w d2 s2 e2 x2 v2 p2 => ?_
    refine hs _ ρ2 S2 H2 v w d d2 _ s2 (v1.mono x2) v2 (Post.bind p2 fun ρ3 H3 S3 z dz x3 s3 v3 p3 => ?_)
    cases v3 with
    | bl k =>
      refine ⟨k, rfl, ?_⟩
      cases k with
      | true =>
        simp only [asB, R.bind_ok, if_true] at p3 ⊢
        exact Em_bind s3 (e2.mono x3) p3 fun ρ4 H4 S4 u d4 s4 e4 x4 v4 p4 => hs' _ ρ4 S4 H4 w u d2 d4 Q s4 ((v2.mono x3).mono x4) v4 p4
      | false =>
        simp only [asB, R.bind_ok] at p3 ⊢
        rw [if_neg (by decide)] at p3 ⊢
        exact p3.here s3 (.bl false)
    | _ => exact (show False from p3).elim

noncomputable def ofO {A : Type} (o : Option A) (S : Sto) : R A := match o with | some a => .ok a S | none => .bad
@[simp] theorem ofO_some {A : Type} (a : A) (S : Sto) : ofO (some a) S = .ok a S := rfl
@[simp] theorem ofO_none {A : Type} (S : Sto) : ofO (none : Option A) S = .bad := rfl
noncomputable def truP : D → Sto → Option Bool
  | .non, _ => some false
  | .bl b, _ => some b
  | .int i, _ => some (i != 0)
  | .str x, _ => if x.length ≤ sizeLine then some ((x.length : Int) != 0) else none
  | .tup ds, _ => some (!ds.isEmpty)
  | .ktup _, _ => none
  | .lst ds, _ => some (!ds.isEmpty)
  | .scr ds, _ => some (!ds.isEmpty)
  | .dct ks _, _ => some (!ks.isEmpty)
  | .loc l, S => match S[l]? with
    | some (.lst ds) => some (!ds.isEmpty)
    | some (.dK false kvs) => some (!kvs.isEmpty)
    | _ => none
  | .ob _, _ => none
  | .fn _, _ => none
noncomputable def tru (d : D) (S : Sto) : R Bool := ofO (truP d S) S
theorem isEmpty_len {α β : Type} {l : List α} {m : List β} (h : l.length = m.length) : l.isEmpty = m.isEmpty := by
  cases l <;> cases m <;> first | rfl | simp at h
theorem truP_of {K : PySem.W.Frag} {ρ : Pl} {H : Hp} {S : Sto} {v : V} {d : D} {k : Bool} (s : SR K ρ S H) (r : VR K ρ H v d) (h : truP d S = some k) : TruV K v H k := by
  cases r with
  | non => exact (Option.some.inj h).symm
  | bl b => exact (Option.some.inj h).symm
  | int b => exact (Option.some.inj h).symm
  | str x =>
    simp only [truP] at h
    split at h
    · exact ⟨by assumption, (Option.some.inj h).symm⟩
    · cases h
  | tup ht ht2 hs =>
    obtain ⟨a, xs, e, h1, h2⟩ := tup_of (VR.tup ht ht2 hs)
    rw [e]
    exact .inr (.inl ⟨xs, h1, by rw [isEmpty_len h2.length]; exact (Option.some.inj h).symm⟩)
  | ktup _ _ => cases h
  | lst h1 h2 hs => exact .inl ⟨_, SqL.of h1, by rw [isEmpty_len hs.length]; exact (Option.some.inj h).symm⟩
  | scr h1 hs =>
    obtain ⟨a, xs, e, h1, h2⟩ := listR_of s (VR.scr h1 hs) rfl
    rw [e]
    exact .inl ⟨_, h1, by rw [isEmpty_len h2.length]; exact (Option.some.inj h).symm⟩
  | dct h1 h2 hk hs => exact .inr (.inr ⟨_, h1, by rw [← hk] at h; rw [← isEmpty_len (List.length_map (·.1))]; exact (Option.some.inj h).symm⟩)
  | @loc a l hl =>
    simp only [truP] at h
    split at h
    · rename_i ds e
      obtain ⟨xs, h1, h2⟩ := s.at hl e
      exact .inl ⟨xs, SqL.of h1, by rw [isEmpty_len h2.length]; exact (Option.some.inj h).symm⟩
    · rename_i kvs e
      obtain ⟨ws, h1, h2⟩ := s.at hl e
      exact .inr (.inr ⟨ws, h1, by rw [isEmpty_len h2.length]; exact (Option.some.inj h).symm⟩)
    · cases h
  | ob v => cases h
  | fn _ => cases h
theorem ofO_bind {K : PySem.W.Frag} {Wk : XK} {ρ : Pl} {H : Hp} {S : Sto} {A B C : Type} {o : Option A} {f : A → Sto → R B} {rel : Pl → Hp → C → B → Prop} {Q : C → Hp → Prop} (h : Post K Wk ρ H ((ofO o S).bind f) rel Q) : ∃ a, o = some a ∧ Post K Wk ρ H (f a S) rel Q := by
  cases o with
  | some a => exact ⟨a, rfl, h⟩
  | none => exact h.elim
theorem ofO_post {K : PySem.W.Frag} {Wk : XK} {ρ : Pl} {H : Hp} {S : Sto} {A C : Type} {o : Option A} {rel : Pl → Hp → C → A → Prop} {Q : C → Hp → Prop} (h : Post K Wk ρ H (ofO o S) rel Q) : ∃ a, o = some a ∧ Post K Wk ρ H (.ok a S) rel Q := by
  cases o with
  | some a => exact ⟨a, rfl, h⟩
  | none => exact h.elim
theorem tru_post {K : PySem.W.Frag} {Wk : XK} {ρ : Pl} {H : Hp} {S : Sto} {v : V} {d : D} {Q : Bool → Hp → Prop} (s : SR K ρ S H) (r : VR K ρ H v d) (h : Post K Wk ρ H (tru d S) relB Q) : ∃ k, TruV K v H k ∧ Q k H := by
  obtain ⟨k, e, p⟩ := ofO_post h
  exact ⟨k, truP_of s r e, p.here s rfl⟩
noncomputable def mT (m : ME) : MT := fun τ S => (m τ S).bind tru
theorem t_tru (ha : PE X a (Em X.K W ma)) (he : ∀ whole, isTrue a X.env whole = (do let v ← whole; standAt a.pos; holding [v] (truthy v)) := by intro _; rfl) : PT X a (Tm X.K W (mT ma)) := PT_imp (pt_truth ha he) fun σ H Q h => by
  obtain ⟨ρ, τ, S, s, e, p⟩ := h
  exact Em_bind s e p fun ρ1 H1 S1 v d s1 e1 x1 v1 p1 => tru_post s1 v1 p1
noncomputable def mAnd (a b : MT) : MT := fun τ S => (a τ S).bind fun k S1 => if k = true then b τ S1 else .ok false S1
noncomputable def mOr (a b : MT) : MT := fun τ S => (a τ S).bind fun k S1 => if k = true then .ok true S1 else b τ S1
noncomputable def mNot (a : MT) : MT := fun τ S => (a τ S).bind fun k S1 => .ok (!k) S1
variable {ta tb : MT} {rest : List Expr}
theorem w_and1 (ha : PT X a (Tm X.K W ta)) : PW X (.BoolOp .And [a] pos) (Tm X.K W ta) := pw_and1 ha
theorem w_or1 (ha : PT X a (Tm X.K W ta)) : PW X (.BoolOp .Or [a] pos) (Tm X.K W ta) := pw_or1 ha
theorem w_and (ha : PT X a (Tm X.K W ta)) (hb : PW X (.BoolOp .And (b :: rest) pos) (Tm X.K W tb)) : PW X (.BoolOp .And (a :: b :: rest) pos) (Tm X.K W (mAnd ta tb)) := PW_imp (pw_and ha hb) fun σ H Q h => by
  obtain ⟨ρ, τ, S, s, e, p⟩ := h
  refine Tm_bind s e p fun ρ1 H1 S1 k s1 e1 x1 p1 => ?_
  cases k with
  | true => exact iteT ⟨ρ1, τ, S1, s1, e1, p1⟩
  | false => exact iteF (p1.here s1 rfl)
theorem w_or (ha : PT X a (Tm X.K W ta)) (hb : PW X (.BoolOp .Or (b :: rest) pos) (Tm X.K W tb)) : PW X (.BoolOp .Or (a :: b :: rest) pos) (Tm X.K W (mOr ta tb)) := PW_imp (pw_or ha hb) fun σ H Q h => by
  obtain ⟨ρ, τ, S, s, e, p⟩ := h
  refine Tm_bind s e p fun ρ1 H1 S1 k s1 e1 x1 p1 => ?_
  cases k with
  | true => exact iteT (p1.here s1 rfl)
  | false => exact iteF ⟨ρ1, τ, S1, s1, e1, p1⟩
theorem t_not (ha : PT X a (Tm X.K W ta)) : PT X (.UnaryOp .Not a pos) (Tm X.K W (mNot ta)) := PT_imp (pt_not ha) fun σ H Q h => by
  obtain ⟨ρ, τ, S, s, e, p⟩ := h
  exact Tm_bind s e p fun ρ1 H1 S1 k s1 e1 x1 p1 => p1.here s1 rfl
noncomputable def mAndV (a b : ME) : ME := fun τ S => (a τ S).bind fun x S1 => (tru x S1).bind fun k S2 => if k = true then b τ S2 else .ok x S2
noncomputable def mOrV (a b : ME) : ME := fun τ S => (a τ S).bind fun x S1 => (tru x S1).bind fun k S2 => if k = true then .ok x S2 else b τ S2
noncomputable def mNotV (a : ME) : ME := fun τ S => (a τ S).bind fun x S1 => (tru x S1).bind fun k S2 => .ok (.bl (!k)) S2
theorem v_and1 (ha : PE X a (Em X.K W ma)) {op} : PE X (.BoolOp op [a] pos) (Em X.K W ma) := pe_one ha
variable {mr : ME}
theorem v_and (ha : PE X a (Em X.K W ma)) (hb : PE X (.BoolOp .And (b :: rest) pos) (Em X.K W mr)) : PE X (.BoolOp .And (a :: b :: rest) pos) (Em X.K W (mAndV ma mr)) := PE_imp (pe_andT ha hb) fun σ H Q h => by
  obtain ⟨ρ, τ, S, s, e, p⟩ := h
  refine Em_bind s e p fun ρ1 H1 S1 v d s1 e1 x1 v1 p1 => ?_
  obtain ⟨k, ek, p2⟩ := ofO_bind p1
  refine ⟨k, truP_of s1 v1 ek, ?_⟩
  cases k with
  | true => exact iteT ⟨ρ1, τ, S1, s1, e1, p2⟩
  | false => exact iteF (p2.here s1 v1)
theorem v_not (ha : PE X a (Em X.K W ma)) : PE X (.UnaryOp .Not a pos) (Em X.K W (mNotV ma)) := PE_imp (pe_notT ha) fun σ H Q h => by
  obtain ⟨ρ, τ, S, s, e, p⟩ := h
  refine Em_bind s e p fun ρ1 H1 S1 v d s1 e1 x1 v1 p1 => ?_
  obtain ⟨k, ek, p2⟩ := ofO_bind p1
  exact ⟨k, truP_of s1 v1 ek, p2.here s1 (.bl _)⟩
noncomputable def mIf (t : MT) (a b : ME) : ME := fun τ S => (t τ S).bind fun k S1 => if k = true then a τ S1 else b τ S1
theorem z_if (hc : PT X c (Tm X.K W ta)) (ha : PE X a (Em X.K W ma)) (hb : PE X b (Em X.K W mb)) : PE X (.IfExp c a b pos) (Em X.K W (mIf ta ma mb)) := PE_imp (pe_ifExp hc ha hb) fun σ H Q h => by
  obtain ⟨ρ, τ, S, s, e, p⟩ := h
  refine Tm_bind s e p fun ρ1 H1 S1 k s1 e1 x1 p1 => ?_
  cases k with
  | true => exact iteT ⟨ρ1, τ, S1, s1, e1, p1⟩
  | false => exact iteF ⟨ρ1, τ, S1, s1, e1, p1⟩
noncomputable def dNeg : D → Sto → R D
  | .int i, S => .ok (.int (-i)) S
  | _, _ => .bad
noncomputable def mUn (f : D → Sto → R D) (a : ME) : ME := fun τ S => (a τ S).bind f
noncomputable def aNil : MA := fun _ S => .ok [] S
noncomputable def aCons (a : ME) (r : MA) : MA := fun τ S => (a τ S).bind fun x S1 => (r τ S1).bind fun xs S2 => .ok (x :: xs) S2
variable {es : List Expr} {mas : MA}
theorem a_nil : PA X [] (Am X.K W aNil) := PA_imp pa_nil fun σ H Q ⟨ρ, τ, S, s, e, p⟩ => p.here s .nil
theorem a_cons (ha : PE X a (Em X.K W ma)) (hr : PA X es (Am X.K W mas)) (hs : starEach (a :: es) X.env = (false, eval a X.env) :: starEach es X.env := by rfl) : PA X (a :: es) (Am X.K W (aCons ma mas)) := PA_imp (pa_cons ha hr hs) fun σ H Q h => by
  obtain ⟨ρ, τ, S, s, e, p⟩ := h
  refine Em_bind s e p fun ρ1 H1 S1 v d s1 e1 x1 v1 p1 => ?_
  exact Am_bind s1 e1 p1 fun ρ2 H2 S2 vs ds s2 e2 x2 v2 p2 => p2.here s2 (.cons (v1.mono x2) v2)
noncomputable def mTup (r : MA) : ME := fun τ S => (r τ S).bind fun xs S1 => guardR (xs.length ≤ sizeLine) (.ok (.tup xs) S1)
noncomputable def mLst (r : MA) : ME := fun τ S => (r τ S).bind fun xs S1 => guardR (xs.length ≤ sizeLine) (.ok (.lst xs) S1)
noncomputable def mLstN (r : MA) : ME := fun τ S => (r τ S).bind fun xs S1 => guardR (xs.length ≤ sizeLine) (.ok (.loc S1.length) (S1 ++ [.lst xs]))
theorem z_tup {x1} (ha : PA X es (Am X.K W mas)) : PE X (.Tuple es x1 pos) (Em X.K W (mTup mas)) := PE_imp (pe_tupN ha) fun σ H Q h => by
  obtain ⟨ρ, τ, S, s, e, p⟩ := h
  refine Am_bind s e p fun ρ1 H1 S1 vs ds s1 e1 x1 v1 p1 => ?_
  obtain ⟨hz, p2⟩ := guardR_post p1
  exact ⟨by rw [v1.length]; exact hz, p2.newTupB s1 v1⟩
theorem z_lst (ha : PA X es (Am X.K W mas)) : PE X (.List es pos) (Em X.K W (mLst mas)) := PE_imp (pe_lst ha) fun σ H Q h => by
  obtain ⟨ρ, τ, S, s, e, p⟩ := h
  refine Am_bind s e p fun ρ1 H1 S1 vs ds s1 e1 x1 v1 p1 => ?_
  obtain ⟨hz, p2⟩ := guardR_post p1
  exact ⟨by rw [v1.length]; exact hz, p2.newLst s1 v1⟩
theorem Post.newLoc {K : PySem.W.Frag} {Wk : XK} {ρ : Pl} {H : Hp} {S : Sto} {Q : VK} {ds : List D} (h : Post K Wk ρ H (.ok (.loc S.length) (S ++ [.lst ds])) (VR K) Q) (s : SR K ρ S H) {xs : List V} (r : VRs K ρ H xs ds) : ∀ p, H p = none → Q (.ref p) (upd H p (.lst xs)) := fun p hp =>
  h (ρ.push p) _ _ (Ext.push hp) (s.push hp ⟨xs, upd_same, r.mono (Ext.push hp)⟩) (.loc (Pl.push_get s))
theorem z_lstN (ha : PA X es (Am X.K W mas)) : PE X (.List es pos) (Em X.K W (mLstN mas)) := PE_imp (pe_lst ha) fun σ H Q h => by
  obtain ⟨ρ, τ, S, s, e, p⟩ := h
  refine Am_bind s e p fun ρ1 H1 S1 vs ds s1 e1 x1 v1 p1 => ?_
  obtain ⟨hz, p2⟩ := guardR_post p1
  exact ⟨by rw [v1.length]; exact hz, p2.newLoc s1 v1⟩

noncomputable def CallS (K : PySem.W.Frag) (f : List D → Sto → R D) (r : List V → Hp → VK → Prop) : Prop := ∀ (Wk : XK) (ρ : Pl) (S : Sto) (H : Hp) (vs : List V) (ds : List D) (Q : VK), SR K ρ S H → VRs K ρ H vs ds → Post K Wk ρ H (f ds S) (VR K) Q → r vs H Q
noncomputable def mCall (f : List D → Sto → R D) (r : MA) : ME := fun τ S => (r τ S).bind f
theorem Em_call {K : PySem.W.Frag} {f : List D → Sto → R D} {r : List V → Hp → VK → Prop} (hs : CallS K f r) {σ : St} {H : Hp} {Q : VK} (h : Em K W (mCall f mas) σ H Q) : tCB r (Am K W mas) σ H Q := by
  obtain ⟨ρ, τ, S, s, e, p⟩ := h
  exact Am_bind s e p fun ρ1 H1 S1 vs ds s1 e1 x1 v1 p1 => hs _ ρ1 S1 H1 vs ds Q s1 v1 p1
variable {x : Str} {p : Pos} {id T : String} {r : List V → Hp → VK → Prop} {f : List D → Sto → R D}
theorem z_blt (hm : X.mg x = none) (hc : CallR X (.builtin id) r) (hs : CallS X.K f r) (hv : bootBuiltins x = some (.builtin id)) (ha : PA X (e :: es) (Am X.K W mas)) (hg : Gl X x := by rfl) (hn : x ≠ "__name__" := by decide) (hdb : (x == ("__debug__" : Str)) = false := by decide)
    (he : starEach (e :: es) X.env = (false, eval e X.env) :: starEach es X.env := by rfl) (hpl : (backTo pos (starEach es X.env)).any (·.1) = false := by rfl) : PE X (.Call (.Name x p) (e :: es) [] pos) (Em X.K W (mCall f mas)) :=
  PE_imp (pe_callB hc hg hm hv ha hn hdb he hpl) fun σ H Q h => Em_call hs h
theorem z_typ (hm : X.mg x = none) (hc : CallR X (.type T) r) (hs : CallS X.K f r) (hv : bootBuiltins x = some (.type T)) (ha : PA X (e :: es) (Am X.K W mas)) (hg : Gl X x := by rfl) (hn : x ≠ "__name__" := by decide) (hdb : (x == ("__debug__" : Str)) = false := by decide)
    (he : starEach (e :: es) X.env = (false, eval e X.env) :: starEach es X.env := by rfl) (hpl : (backTo pos (starEach es X.env)).any (·.1) = false := by rfl) : PE X (.Call (.Name x p) (e :: es) [] pos) (Em X.K W (mCall f mas)) :=
  PE_imp (pe_callTy hc hg hm hv ha hn hdb he hpl) fun σ H Q h => Em_call hs h
noncomputable def Sf (K : PySem.W.Frag) (f : List D → Sto → R D) : Sp := fun vs H Q E => ∃ ρ S ds, SR K ρ S H ∧ VRs K ρ H vs ds ∧ Post K E ρ H (f ds S) (VR K) Q
structure FnG (P : Program) (w : World) (K : PySem.W.Frag) (mg : Str → Option Value) (base : Heap) (k : Nat) (g : Addr) (fd : FuncData) (ps : List Str) (f : List D → Sto → R D) : Prop where
  len : ∀ (ds : List D) (S : Sto), f ds S ≠ .bad → ds.length = ps.length
  run : ∀ (A : Around) (frs : List Env) (st : Shared) (H : Hp) (ar : Args) (us : List Value) (vs : List V) (Q : VK) (E : XK), Room k A → A.guards = some [] → Env0 P w K mg base A frs st H →
    BindsTo st fd ar (ps.zip us) → Vals vs us → Sf K f vs H Q E → codeAny (model P w) A (.call (.ref g) ar) (L2.CR (L2.CX P w) frs P w H st Q E) st
theorem Post.nbad {K : PySem.W.Frag} {Wk : XK} {ρ : Pl} {H : Hp} {A B : Type} {o : R A} {rel : Pl → Hp → B → A → Prop} {Q : B → Hp → Prop} (h : Post K Wk ρ H o rel Q) : o ≠ .bad := by
  rintro rfl; exact h.elim
theorem FnG.lenV {P : Program} {w : World} {K : PySem.W.Frag} {mg : Str → Option Value} {base : Heap} {k : Nat} {g : Addr} {fd : FuncData} {ps : List Str} (F : FnG P w K mg base k g fd ps f) {vs : List V} {H : Hp} {Q : VK} {E : XK} (h : Sf K f vs H Q E) : vs.length = ps.length := by
  obtain ⟨ρ, S, ds, s, v, p⟩ := h
  rw [v.length]; exact F.len ds S p.nbad
theorem run_G {pins : List (Addr × Obj)} {st : Shared} {σ : St} {H : Hp} {Q : VK} {us : List Value} {vs : List V} {k : Nat} {g : Addr} {fd : FuncData} {ps : List Str} (F : FnG X.prog X.w X.K X.mg X.base k g fd ps f) (hr : Room k X.A) (hgd : X.A.guards = some []) (hb : Binds X.K fd ps [])
    (hx : ∀ σ, PassesAt (L2.CX X.prog X.w) X σ (fun c d H => W c d σ H)) (I : Inv X pins σ H st) (r : Vals vs us) (h : Sf X.K f vs H Q (fun c d H => W c d σ H)) : wpAny (model X.prog X.w) X.A (call (.ref g) us) (EP X pins σ Q) X.xe st := by
  have hl : (us ++ []).length = ps.length := by rw [List.append_nil, ← r.length]; exact F.lenV h
  have hb' := hb st us I.kIn hl
  rw [List.append_nil] at hb'
  have main := F.run X.A X.stack st H _ us vs Q _ hr hgd I.env0 hb' r h
  refine wpAny_call (codeAny_mono main ?_)
  intro res st' q
  match res, q with
  | .error e, q => exact hx σ pins H st e st' I q
  | .ok (.ret u), q => exact I.after q
  | .ok .next, q => exact False.elim q
  | .ok .brk, q => exact False.elim q
  | .ok .cont, q => exact False.elim q
theorem z_call {k : Nat} {g : Addr} {fd : FuncData} {ps : List Str} (F : FnG X.prog X.w X.K X.mg X.base k g fd ps f) (hr : Room k X.A) (hgd : X.A.guards = some []) (hm : X.mg x = some (.ref g)) (hk : PySem.W.keepIn X.K (.ref g) = true) (hb : Binds X.K fd ps [])
    (hx : ∀ σ, PassesAt (L2.CX X.prog X.w) X σ (fun c d H => W c d σ H)) (ha : PA X (e :: es) (Am X.K W mas)) (hg : Gl X x := by rfl) (hdb : (x == ("__debug__" : Str)) = false := by decide)
    (he : starEach (e :: es) X.env = (false, eval e X.env) :: starEach es X.env := by rfl) (hpl : (backTo pos (starEach es X.env)).any (·.1) = false := by rfl) : PE X (.Call (.Name x p) (e :: es) [] pos) (Em X.K W (mCall f mas)) := by
  constructor
  intro pins st σ H Q I h
  obtain ⟨ρ, τ, S, s, er, po⟩ := h
  have args := ha.run pos pins st σ H (fun vs H1 => Sf X.K f vs H1 Q (fun c d H => W c d σ H)) I (Am_bind s er po fun ρ1 H1 S1 vs ds s1 e1 x1 v1 p1 => ⟨ρ1, S1, ds, s1, v1, p1⟩)
  apply wpAny_Call_Name_kw
  apply ld_glob I hg hm _ hdb
  apply PySem.W.callWith_K (h₀ := X.base) I.ok.mod.kin hk _ he hpl
  apply thn args
  rintro us s1 ⟨vs, H1, I1, r, q⟩
  exact ⟨I1.kIn, run_G F hr hgd hb hx I1 r q⟩
theorem no_out : ∀ σ, PassesAt (L2.CX X.prog X.w) X σ (fun _ _ _ => False) := fun σ _ _ _ _ _ _ h => by
  obtain ⟨_, _, _, _, _, _, _, _, _, _, _, _, z⟩ := h
  exact z.elim
end
inductive RS where
  | nx (τ : Tau) (S : Sto) | rt (d : D) (S : Sto) | bk (τ : Tau) (S : Sto) | ct (τ : Tau) (S : Sto) | ex (τ : Tau) (c : Str) (fs : List (Str × D)) (S : Sto) | bad
noncomputable abbrev MS := Tau → Sto → RS
noncomputable def PostS (K : PySem.W.Frag) (W : WX) (ρ : Pl) (H : Hp) (σ : St) (o : RS) (D : Ends) : Prop := match o with
  | .nx τ' S' => ∀ ρ' σ' H', Ext ρ H ρ' H' → SR K ρ' S' H' → ER K ρ' H' τ' σ' → D.nx σ' H'
  | .bk τ' S' => ∀ ρ' σ' H', Ext ρ H ρ' H' → SR K ρ' S' H' → ER K ρ' H' τ' σ' → D.bk σ' H'
  | .ct τ' S' => ∀ ρ' σ' H', Ext ρ H ρ' H' → SR K ρ' S' H' → ER K ρ' H' τ' σ' → D.ct σ' H'
  | .rt d S' => ∀ ρ' H' v, Ext ρ H ρ' H' → SR K ρ' S' H' → VR K ρ' H' v d → D.rt v H'
  | .ex τ' c fs S' => ∀ ρ' σ' H' dd, Ext ρ H ρ' H' → SR K ρ' S' H' → ER K ρ' H' τ' σ' → XD K ρ' H' dd fs → W (clsAt K c) dd σ' H'
  | .bad => False
noncomputable def Sm (K : PySem.W.Frag) (W : WX) (m : MS) : TS := fun D σ H => ∃ ρ τ S, SR K ρ S H ∧ ER K ρ H τ σ ∧ PostS K W ρ H σ (m τ S) D
end Z

namespace Z
open PySem L2

theorem PostS.ext {K : PySem.W.Frag} {W : WX} {ρ ρ1 : Pl} {H H1 : Hp} {σ σ1 : St} {o : RS} {D : Ends} (e : Ext ρ H ρ1 H1) (h : PostS K W ρ H σ o D) : PostS K W ρ1 H1 σ1 o D := by
  cases o with
  | nx τ S => exact fun r2 s2 H2 e2 => h r2 s2 H2 (e.trans e2)
  | bk τ S => exact fun r2 s2 H2 e2 => h r2 s2 H2 (e.trans e2)
  | ct τ S => exact fun r2 s2 H2 e2 => h r2 s2 H2 (e.trans e2)
  | rt d S => exact fun r2 H2 v e2 => h r2 H2 v (e.trans e2)
  | ex τ c fs S => exact fun r2 s2 H2 dd e2 => h r2 s2 H2 dd (e.trans e2)
  | bad => exact h
noncomputable def liftS {A : Type} (o : R A) (τ : Tau) (k : A → Sto → RS) : RS := match o with
  | .ok a S => k a S
  | .ex c fs S => .ex τ c fs S
  | .bad => .bad
@[simp] theorem liftS_ok {A : Type} (a : A) (S : Sto) (τ : Tau) (k : A → Sto → RS) : liftS (.ok a S) τ k = k a S := rfl
@[simp] theorem liftS_ex {A : Type} (c fs) (S : Sto) (τ : Tau) (k : A → Sto → RS) : liftS (.ex c fs S) τ k = .ex τ c fs S := rfl
@[simp] theorem liftS_bad {A : Type} (τ : Tau) (k : A → Sto → RS) : liftS (.bad) τ k = .bad := rfl
section
variable {K : PySem.W.Frag} {W : WX} {σ : St} {H : Hp} {ρ : Pl} {τ : Tau} {S : Sto} {D : Ends}
theorem liftS_post {A B : Type} {o : R A} {k : A → Sto → RS} {rel : Pl → Hp → B → A → Prop} {Q1 : B → Hp → Prop} (r : ER K ρ H τ σ) (h : PostS K W ρ H σ (liftS o τ k) D)
    (kk : ∀ ρ1 H1 S1 v d, SR K ρ1 S1 H1 → ER K ρ1 H1 τ σ → Ext ρ H ρ1 H1 → rel ρ1 H1 v d → PostS K W ρ1 H1 σ (k d S1) D → Q1 v H1) : Post K (fun c d H' => W c d σ H') ρ H o rel Q1 := by
  cases o with
  | ok d S' => exact fun r2 H2 v e2 s2 v2 => kk r2 H2 S' v d s2 (r.mono e2) e2 v2 (PostS.ext e2 h)
  | ex c fs S' => exact fun r2 H2 dd e2 s2 x2 => h r2 σ H2 dd e2 s2 (r.mono e2) x2
  | bad => exact h
theorem Em_S {m : ME} {k : V → Sto → RS} {kd : Z.D → Sto → RS} {Q1 : VK} (s : SR K ρ S H) (r : ER K ρ H τ σ) (h : PostS K W ρ H σ (liftS (m τ S) τ kd) D)
    (kk : ∀ ρ1 H1 S1 v d, SR K ρ1 S1 H1 → ER K ρ1 H1 τ σ → Ext ρ H ρ1 H1 → VR K ρ1 H1 v d → PostS K W ρ1 H1 σ (kd d S1) D → Q1 v H1) : Em K W m σ H Q1 := ⟨ρ, τ, S, s, r, liftS_post r h kk⟩
theorem Tm_S {m : MT} {kd : Bool → Sto → RS} {Q1 : Bool → Hp → Prop} (s : SR K ρ S H) (r : ER K ρ H τ σ) (h : PostS K W ρ H σ (liftS (m τ S) τ kd) D)
    (kk : ∀ ρ1 H1 S1 b, SR K ρ1 S1 H1 → ER K ρ1 H1 τ σ → Ext ρ H ρ1 H1 → PostS K W ρ1 H1 σ (kd b S1) D → Q1 b H1) : Tm K W m σ H Q1 := ⟨ρ, τ, S, s, r, liftS_post r h fun ρ1 H1 S1 v d s1 r1 e1 v1 p1 => by
      have v1' : v = d := v1
      subst v1'; exact kk ρ1 H1 S1 v s1 r1 e1 p1⟩
theorem Am_S {m : MA} {kd : List Z.D → Sto → RS} {Q1 : List V → Hp → Prop} (s : SR K ρ S H) (r : ER K ρ H τ σ) (h : PostS K W ρ H σ (liftS (m τ S) τ kd) D)
    (kk : ∀ ρ1 H1 S1 v d, SR K ρ1 S1 H1 → ER K ρ1 H1 τ σ → Ext ρ H ρ1 H1 → VRs K ρ1 H1 v d → PostS K W ρ1 H1 σ (kd d S1) D → Q1 v H1) : Am K W m σ H Q1 := ⟨ρ, τ, S, s, r, liftS_post r h kk⟩
theorem PostS.here (h : PostS K W ρ H σ (.nx τ S) D) (s : SR K ρ S H) {σ' : St} (r : ER K ρ H τ σ') : D.nx σ' H := h ρ σ' H Ext.refl s r
theorem ER.set {v : V} {d : Z.D} (r : ER K ρ H τ σ) (i : Nat) (h : VR K ρ H v d) : ER K ρ H (τ.set i (some d)) (σ.set i (some v)) := by
  refine ⟨by simp [r.1], fun j e hj => ?_⟩
  by_cases hi : j = i
  · subst hi
    have hl : j < τ.length := by
      have := (List.getElem?_eq_some_iff.mp hj).1
      simpa using this
    rw [List.getElem?_set_self hl] at hj
    cases hj
    refine ⟨v, ?_, h⟩
    rw [List.getElem?_set_self (by rw [← r.1]; exact hl)]
  · rw [List.getElem?_set_ne (Ne.symm hi)] at hj
    obtain ⟨w, h1, h2⟩ := r.2 j e hj
    exact ⟨w, by rw [List.getElem?_set_ne (Ne.symm hi)]; exact h1, h2⟩
end

noncomputable def sNil : MS := fun τ S => .nx τ S
noncomputable def sSeq (a b : MS) : MS := fun τ S => match a τ S with
  | .nx τ' S' => b τ' S'
  | o => o
noncomputable def sExpr (m : ME) : MS := fun τ S => liftS (m τ S) τ fun _ S1 => .nx τ S1
noncomputable def sRet (m : ME) : MS := fun τ S => liftS (m τ S) τ fun d S1 => .rt d S1
noncomputable def sRetN : MS := fun _ S => .rt .non S
noncomputable def sIf (t : MT) (a b : MS) : MS := fun τ S => liftS (t τ S) τ fun k S1 => if k = true then a τ S1 else b τ S1
noncomputable def sAsg (i : Nat) (m : ME) : MS := fun τ S => liftS (m τ S) τ fun d S1 => .nx (τ.set i (some d)) S1
noncomputable def sBad : MS := fun _ _ => .bad
noncomputable def sBk : MS := fun τ S => .bk τ S
section
variable {X : Cx} {W : WX} {st : Stmt} {rest body : List Stmt} {m n : MS} {e : Expr} {me : ME} {t : MT} {pos : Pos}
theorem ss_nil : PSs X [] (Sm X.K W sNil) := PSs_imp pss_nil fun D σ H ⟨ρ, τ, S, s, r, p⟩ => p.here s r
theorem ss_cons (h1 : PS X st (Sm X.K W m)) (h2 : PSs X rest (Sm X.K W n)) : PSs X (st :: rest) (Sm X.K W (sSeq m n)) := PSs_imp (pss_cons h1 h2) fun D σ H ⟨ρ, τ, S, s, r, p⟩ => by
  refine ⟨ρ, τ, S, s, r, ?_⟩
  unfold sSeq at p
  cases q : m τ S with
  | nx τ' S' =>
    rw [q] at p
    exact fun ρ' σ' H' e' s' r' => ⟨ρ', τ', S', s', r', PostS.ext e' p⟩
  | _ => rw [q] at p; exact p
theorem ss_one (h1 : PS X st (Sm X.K W m)) : PSs X [st] (Sm X.K W m) := pss_one h1
theorem s_bad : PS X st (Sm X.K W sBad) := PS_imp ps_never fun D σ H ⟨ρ, τ, S, s, r, p⟩ => p.elim
theorem s_expr (he : PE X e (Em X.K W me)) (hs : swapsWith e none pos.line X.env = pure false := by rfl) : PS X (.Expr e pos) (Sm X.K W (sExpr me)) := PS_imp (ps_expr he hs) fun D σ H ⟨ρ, τ, S, s, r, p⟩ =>
  Em_S (k := fun _ _ => .bad) s r p fun ρ1 H1 S1 v d s1 r1 e1 v1 p1 => p1.here s1 r1
theorem s_ret (he : PE X e (Em X.K W me)) : PS X (.Return (some e) pos) (Sm X.K W (sRet me)) := PS_imp (ps_ret he) fun D σ H ⟨ρ, τ, S, s, r, p⟩ =>
  Em_S (k := fun _ _ => .bad) s r p fun ρ1 H1 S1 v d s1 r1 e1 v1 p1 => p1 ρ1 H1 v Ext.refl s1 v1
theorem s_retN : PS X (.Return none pos) (Sm X.K W sRetN) := PS_imp ps_retN fun D σ H ⟨ρ, τ, S, s, r, p⟩ => p ρ H .non Ext.refl s .non
theorem s_if {c : Expr} {a b : List Stmt} (hc : PT X c (Tm X.K W t)) (ha : PSs X a (Sm X.K W m)) (hb : PSs X b (Sm X.K W n)) : PS X (.If c a b pos) (Sm X.K W (sIf t m n)) := PS_imp (ps_if hc ha hb) fun D σ H ⟨ρ, τ, S, s, r, p⟩ =>
  Tm_S s r p fun ρ1 H1 S1 k s1 r1 e1 p1 => by
    cases k with
    | true => exact iteT ⟨ρ1, τ, S1, s1, r1, p1⟩
    | false => exact iteF ⟨ρ1, τ, S1, s1, r1, p1⟩
theorem s_set0 {i : Nat} {x : Str} {pos' : Pos} (he : PE X e (Em X.K W me)) (h : PS X (.Assign [.Name x pos'] e pos) (tAsg (Em X.K W me) (gName i))) : PS X (.Assign [.Name x pos'] e pos) (Sm X.K W (sAsg i me)) := PS_imp h fun D σ H ⟨ρ, τ, S, s, r, p⟩ =>
  Em_S (k := fun _ _ => .bad) s r p fun ρ1 H1 S1 v d s1 r1 e1 v1 p1 => p1.here s1 (r1.set i v1)
end

inductive Tgt where | nm (i : Nat) | tp (is : List Nat)
noncomputable def setAll : List Nat → List D → Tau → Option Tau
  | [], [], τ => some τ
  | i :: is, d :: ds, τ => setAll is ds (τ.set i (some d))
  | _, _, _ => none
noncomputable def bindT : Tgt → D → Tau → Option Tau
  | .nm i, d, τ => some (τ.set i (some d))
  | .tp is, .tup ds, τ => setAll is ds τ
  | .tp _, _, _ => none
noncomputable def gNames : List Nat → TGs
  | [] => gNil
  | i :: is => gCons (gName i) (gNames is)
noncomputable def tgOf (K : PySem.W.Frag) : Tgt → TG
  | .nm i => gName i
  | .tp is => gTup K is.length (gNames is)
noncomputable def Tgt.ix : Tgt → List Nat
  | .nm i => [i]
  | .tp is => is
noncomputable def Diff (is : List Nat) (σ σ' : St) : Prop := σ'.length = σ.length ∧ ∀ j, j ∉ is → σ'[j]? = σ[j]?
theorem gNames_of {K : PySem.W.Frag} {ρ : Pl} {H : Hp} {Q : St → Hp → Prop} : ∀ (is : List Nat) (ds : List D) (vs : List V) (τ τ' : Tau) (σ : St), setAll is ds τ = some τ' → VRs K ρ H vs ds → ER K ρ H τ σ → (∀ σ', ER K ρ H τ' σ' → Diff is σ σ' → Q σ' H) → gNames is vs σ H Q
  | [], ds, vs, τ, τ', σ, h, r, e, k => by
    cases ds with
    | nil =>
      cases r
      simp only [setAll, Option.some.injEq] at h
      subst h
      exact ⟨rfl, k σ e ⟨rfl, fun _ _ => rfl⟩⟩
    | cons d ds => simp [setAll] at h
  | i :: is, ds, vs, τ, τ', σ, h, r, e, k => by
    cases r with
    | nil => simp [setAll] at h
    | cons r rs =>
      simp only [setAll] at h
      refine ⟨_, _, rfl, ?_⟩
      refine gNames_of is _ _ _ τ' _ h rs (e.set i r) fun σ' e' d' => k σ' e' ⟨d'.1.trans (by simp), fun j hj => ?_⟩
      have hj' : j ≠ i ∧ j ∉ is := by simpa using hj
      rw [d'.2 j hj'.2, List.getElem?_set_ne (Ne.symm hj'.1)]
theorem tgOf_of {K : PySem.W.Frag} {ρ : Pl} {H : Hp} {Q : St → Hp → Prop} {g : Tgt} {d : D} {v : V} {τ τ' : Tau} {σ : St} (h : bindT g d τ = some τ') (r : VR K ρ H v d) (e : ER K ρ H τ σ) (k : ∀ σ', ER K ρ H τ' σ' → Diff g.ix σ σ' → Q σ' H) : tgOf K g v σ H Q := by
  cases g with
  | nm i =>
    simp only [bindT, Option.some.injEq] at h
    subst h
    exact k _ (e.set i r) ⟨by simp, fun j hj => by
      have : j ≠ i := by simpa [Tgt.ix] using hj
      rw [List.getElem?_set_ne (Ne.symm this)]⟩
  | tp is =>
    cases d with
    | tup ds =>
      obtain ⟨a, xs, rfl, ht, hs⟩ := tup_of r
      refine ⟨a, xs, rfl, ht, ?_, gNames_of is ds xs τ τ' σ h hs e k⟩
      have : ∀ (is : List Nat) (ds : List D) (τ τ' : Tau), setAll is ds τ = some τ' → ds.length = is.length := by
        intro is
        induction is with
        | nil => intro ds τ τ' h; cases ds <;> simp [setAll] at h ⊢
        | cons i is ih => intro ds τ τ' h; cases ds with
          | nil => simp [setAll] at h
          | cons d ds => simp only [setAll] at h; simp [ih _ _ _ h]
      rw [hs.length]; exact this _ _ _ _ h
    | _ => simp [bindT] at h
noncomputable def sTup (is : List Nat) (m : ME) : MS := fun τ S => liftS (m τ S) τ fun d S1 => match bindT (.tp is) d τ with
  | some τ' => .nx τ' S1
  | none => .bad
section
variable {X : Cx} {W : WX} {e tg : Expr} {me : ME} {pos : Pos}
theorem s_tup {is : List Nat} (he : PE X e (Em X.K W me)) (hg : PG X tg (tgOf X.K (.tp is))) (hs : swapsWithSole [tg] e pos.line X.env = pure false := by rfl) (hw : swappedStores [tg] e X.env = pure none := by rfl)
    (h1 : (assignEach [tg] X.env).map (·.2) = [assign tg X.env] := by rfl) : PS X (.Assign [tg] e pos) (Sm X.K W (sTup is me)) := PS_imp (ps_asg he hg hs hw h1) fun D σ H ⟨ρ, τ, S, s, r, p⟩ =>
  Em_S (k := fun _ _ => .bad) s r p fun ρ1 H1 S1 v d s1 r1 e1 v1 p1 => by
    split at p1
    · rename_i τ' e
      exact tgOf_of e v1 r1 fun σ' r' _ => p1.here s1 r'
    · exact p1.elim
noncomputable def sPar (is : List Nat) (ms : MA) : MS := fun τ S => liftS (ms τ S) τ fun ds S1 => match setAll is ds τ with
  | some τ' => .nx τ' S1
  | none => .bad
end

noncomputable def keepOk (ks : List (Nat × C)) (S : Sto) : Prop := ∀ p ∈ ks, S[p.1]? = some p.2
structure Items where
  ds : List D
  keep : List (Nat × C)
noncomputable abbrev MI := Tau → Sto → R Items
noncomputable def IterOK (K : PySem.W.Frag) (ρ0 : Pl) (H0 : Hp) (J : It) (it : Items) : Prop := ∀ ρ H S, Ext ρ0 H0 ρ H → SR K ρ S H → keepOk it.keep S →
  (∀ i, i < it.ds.length → J.go i H) ∧ J.stop it.ds.length H ∧ ∀ i x H', i < it.ds.length → J.yld i H x H' → ∃ d, it.ds[i]? = some d ∧ Ext ρ H ρ H' ∧ SR K ρ S H' ∧ VR K ρ H' x d
noncomputable def Im (K : PySem.W.Frag) (W : WX) (m : MI) : TI := fun σ H R' => ∃ ρ τ S, SR K ρ S H ∧ ER K ρ H τ σ ∧ match m τ S with
  | .ok it S' => ∀ ρ' H' J, Ext ρ H ρ' H' → SR K ρ' S' H' → keepOk it.keep S' → IterOK K ρ' H' J it → R' J H'
  | .ex c fs S' => ∀ ρ' H' dd, Ext ρ H ρ' H' → SR K ρ' S' H' → XD K ρ' H' dd fs → W (clsAt K c) dd σ H'
  | .bad => False
theorem PI_imp {X : Cx} {tg e : Expr} {t t' : TI} (h : PI X tg e t) (k : ∀ σ H Q, t' σ H Q → t σ H Q) : PI X tg e t' := ⟨fun pins s σ H Q I w => h.run pins s σ H Q I (k σ H Q w)⟩

noncomputable def keepB (ks : List (Nat × C)) (S : Sto) : Bool := @decide (keepOk ks S) (Classical.propDecidable _)
theorem keepB_iff {ks : List (Nat × C)} {S : Sto} : keepB ks S = true ↔ keepOk ks S := by unfold keepB; exact @decide_eq_true_iff _ (Classical.propDecidable _)
@[simp] theorem keepB_nil (S : Sto) : keepB [] S = true := keepB_iff.mpr (fun _ h => nomatch h)
noncomputable def forL (ks : List (Nat × C)) (g : Tgt) (body : MS) : List D → Tau → Sto → RS
  | [], τ, S => if keepB ks S = true then .nx τ S else .bad
  | d :: ds, τ, S => if keepB ks S = true then (match bindT g d τ with
    | none => .bad
    | some τ1 => match body τ1 S with
      | .nx τ2 S2 => forL ks g body ds τ2 S2
      | .ct τ2 S2 => forL ks g body ds τ2 S2
      | .bk τ2 S2 => .nx τ2 S2
      | o => o) else .bad
noncomputable def sFor (it : MI) (g : Tgt) (body : MS) : MS := fun τ S => liftS (it τ S) τ fun i S1 => forL i.keep g body i.ds τ S1
section
variable {X : Cx} {W : WX} {iter tg : Expr} {body : List Stmt} {mi : MI} {g : Tgt} {mb : MS} {pos : Pos}
theorem drop_cons {α : Type} {l : List α} {i : Nat} {d : α} (h : l[i]? = some d) : l.drop i = d :: l.drop (i + 1) := by
  obtain ⟨hl, e⟩ := List.getElem?_eq_some_iff.mp h
  rw [List.drop_eq_getElem_cons hl, e]
theorem s_for (hp : PassesOwn (model X.prog X.w) X.A X.env X.xe) (hc : X.calm = true) (hi : PI X tg iter (Im X.K W mi)) (hg : PG X tg (tgOf X.K g)) (hb : PSs X body (Sm X.K W mb))
    (hs : ∀ x, foldedSetIterable iter X.env x = pure x := by intro _; rfl) : PS X (.For tg iter body [] pos) (Sm X.K W (sFor mi g mb)) := PS_imp (ps_for hp hc hi hg hb hs) fun D σ H ⟨ρ, τ, S, s, r, p⟩ => by
  refine ⟨ρ, τ, S, s, r, ?_⟩
  unfold sFor at p
  cases q : mi τ S with
  | bad => rw [q] at p; exact p
  | ex c fs S' =>
    rw [q] at p
    exact fun ρ' H' dd e' s' x' => p ρ' σ H' dd e' s' (r.mono e') x'
  | ok it S1 =>
    rw [q] at p
    intro ρ1 H1 J e1 s1 k1 ok
    refine ⟨fun i m σ H => m = it.ds.length - i ∧ i ≤ it.ds.length ∧ ∃ ρ τ S, SR X.K ρ S H ∧ ER X.K ρ H τ σ ∧ Ext ρ1 H1 ρ H ∧ PostS X.K W ρ H σ (forL it.keep g mb (it.ds.drop i) τ S) D, ⟨it.ds.length, by simp, Nat.zero_le _, ρ1, τ, S1, s1, r.mono e1, Ext.refl, PostS.ext e1 p⟩, ?_⟩
    rintro i m σ2 H2 ⟨rfl, hi, ρ2, τ2, S2, s2, r2, e2, p2⟩
    have kk : keepOk it.keep S2 := by
      cases q2 : it.ds.drop i with
      | nil =>
        rw [q2] at p2; unfold forL at p2; split at p2
        · exact keepB_iff.mp (by assumption)
        · exact p2.elim
      | cons d ds =>
        rw [q2] at p2; unfold forL at p2; split at p2
        · exact keepB_iff.mp (by assumption)
        · exact p2.elim
    obtain ⟨go, stop, yld⟩ := ok ρ2 H2 S2 e2 s2 kk
    by_cases hlt : i < it.ds.length
    · refine .inr ⟨go i hlt, fun σ H => ∃ ρ τ S, SR X.K ρ S H ∧ ER X.K ρ H τ σ ∧ Ext ρ1 H1 ρ H ∧ PostS X.K W ρ H σ (forL it.keep g mb (it.ds.drop (i + 1)) τ S) D, fun σ' H' h' => ⟨it.ds.length - (i + 1), by omega, rfl, hlt, h'⟩, fun x H3 y => ?_⟩
      obtain ⟨d, hd, e3, s3, v3⟩ := yld i x H3 hlt y
      rw [drop_cons hd] at p2
      unfold forL at p2
      rw [if_pos (keepB_iff.mpr kk)] at p2
      cases q2 : bindT g d τ2 with
      | none => rw [q2] at p2; exact p2.elim
      | some τ3 =>
        rw [q2] at p2
        simp only at p2
        refine tgOf_of q2 v3 (r2.mono e3) fun σ3 r3 _ => ⟨ρ2, τ3, S2, s3, r3, ?_⟩
        have p3 := PostS.ext (σ1 := σ3) e3 p2
        cases q3 : mb τ3 S2 with
        | nx τ4 S4 => rw [q3] at p3; exact fun ρ4 σ4 H4 e4 s4 r4 => ⟨ρ4, τ4, S4, s4, r4, (e2.trans e3).trans e4, PostS.ext e4 p3⟩
        | ct τ4 S4 => rw [q3] at p3; exact fun ρ4 σ4 H4 e4 s4 r4 => ⟨ρ4, τ4, S4, s4, r4, (e2.trans e3).trans e4, PostS.ext e4 p3⟩
        | bk τ4 S4 => rw [q3] at p3; exact fun ρ4 σ4 H4 e4 s4 r4 => p3 ρ4 σ4 H4 e4 s4 r4
        | rt d4 S4 => rw [q3] at p3; exact p3
        | ex τ4 c fs S4 => rw [q3] at p3; exact p3
        | bad => rw [q3] at p3; exact p3
    · have e : i = it.ds.length := by omega
      subst e
      rw [List.drop_length] at p2
      unfold forL at p2
      rw [if_pos (keepB_iff.mpr kk)] at p2
      exact .inl ⟨stop, p2.here s2 r2⟩
end
end Z

namespace Z
open PySem L2 RZ

noncomputable def noEx {A : Type} : R A → R A
  | .ok a S => .ok a S
  | _ => .bad
@[simp] theorem noEx_ok {A : Type} (a : A) (S : Sto) : noEx (.ok a S) = .ok a S := rfl
@[simp] theorem noEx_ex {A : Type} (c fs) (S : Sto) : noEx (.ex c fs S : R A) = .bad := rfl
@[simp] theorem noEx_bad {A : Type} : noEx (.bad : R A) = .bad := rfl
noncomputable def wipeT (τ : Tau) : List Nat → Tau
  | [] => τ
  | v :: vs => (wipeT τ vs).set v none
noncomputable def lcL (ks : List (Nat × C)) (g : Tgt) (vs : List Nat) (t : MT) (e : ME) : List D → Tau → Sto → R (List D)
  | [], τ, S => if keepB ks S = true then .ok [] S else .bad
  | d :: ds, τ, S => if keepB ks S = true then (match bindT g d (wipeT τ vs) with
    | none => .bad
    | some τ1 => (noEx (t τ1 S)).bind fun b S1 => if b = true then (noEx (e τ1 S1)).bind fun y S2 => (lcL ks g vs t e ds τ S2).bind fun ys S3 => .ok (y :: ys) S3 else lcL ks g vs t e ds τ S1) else .bad
noncomputable def mComp (it : MI) (g : Tgt) (vs : List Nat) (t : MT) (e : ME) : ME := fun τ S => (it τ S).bind fun i S1 => guardR (i.ds.length ≤ sizeLine) ((lcL i.keep g vs t e i.ds τ S1).bind fun ys S2 => .ok (.lst ys) S2)
noncomputable abbrev W0 : WX := fun _ _ _ _ => False
section
variable {K : PySem.W.Frag} {σ : St} {H : Hp} {ρ : Pl} {τ : Tau} {S : Sto}
theorem ER.wipe (r : ER K ρ H τ σ) : ∀ vs : List Nat, ER K ρ H (wipeT τ vs) (L2.wipe σ vs)
  | [] => r
  | v :: vs => by
    have ih := ER.wipe r vs
    refine ⟨by simp [wipeT, L2.wipe, ih.1], fun j d h => ?_⟩
    unfold wipeT at h
    by_cases hj : j = v
    · subst hj
      by_cases hl : j < (wipeT τ vs).length
      · rw [List.getElem?_set_self hl] at h; cases h
      · rw [List.getElem?_eq_none (by simpa using hl)] at h; cases h
    · rw [List.getElem?_set_ne (Ne.symm hj)] at h
      obtain ⟨x, h1, h2⟩ := ih.2 j d h
      exact ⟨x, by unfold L2.wipe; rw [List.getElem?_set_ne (Ne.symm hj)]; exact h1, h2⟩
theorem wipe_at {σ : St} {j : Nat} : ∀ {vs : List Nat}, j ∈ vs → j < σ.length → (L2.wipe σ vs)[j]? = some none
  | v :: vs, h, hl => by
    unfold L2.wipe
    by_cases hj : j = v
    · subst hj; rw [List.getElem?_set_self (by rw [wipe_length]; exact hl)]
    · rw [List.getElem?_set_ne (Ne.symm hj)]
      exact wipe_at ((List.mem_cons.mp h).resolve_left hj) hl
theorem wipe_diff {σ σ' : St} {is vs : List Nat} (h : Diff is (L2.wipe σ vs) σ') (hi : ∀ i ∈ is, i ∈ vs) : L2.wipe σ' vs = L2.wipe σ vs := by
  have hl : σ'.length = σ.length := h.1.trans (wipe_length σ vs)
  apply List.ext_getElem?
  intro j
  by_cases hj : j ∈ vs
  · by_cases hs : j < σ.length
    · rw [wipe_at hj (by omega), wipe_at hj hs]
    · rw [List.getElem?_eq_none (by rw [wipe_length]; omega), List.getElem?_eq_none (by rw [wipe_length]; omega)]
  · rw [wipe_out hj, h.2 j (fun z => hj (hi j z))]
theorem noEx_post {A B : Type} {Wk W' : XK} {o : R A} {rel : Pl → Hp → B → A → Prop} {Q : B → Hp → Prop} (h : Post K Wk ρ H (noEx o) rel Q) : Post K W' ρ H o rel Q := by
  cases o with
  | ok a S => exact h
  | ex c fs S => exact h.elim
  | bad => exact h.elim
end

section
variable {X : Cx} {W : WX} {iter tg elt : Expr} {ifs : List Expr} {scope : Scope} {own : List (Str × Nat)} {mi : MI} {g : Tgt} {t : MT} {me : ME} {pos : Pos}
theorem Em_comp {K : PySem.W.Frag} {vs : List Nat} (hi : ∀ i ∈ g.ix, i ∈ vs) {σ : St} {H : Hp} {Q : VK} (h : Em K W (mComp mi g vs t me) σ H Q) : tLc (Im K W mi) (tgOf K g) (Tm K W0 t) (Em K W0 me) vs σ H Q := by
  obtain ⟨ρ, τ, S, s, r, p⟩ := h
  refine ⟨ρ, τ, S, s, r, ?_⟩
  unfold mComp at p
  cases q : mi τ S with
  | bad => rw [q] at p; exact p
  | ex c fs S' => rw [q] at p; exact p
  | ok it S1 =>
    rw [q] at p
    intro ρ1 H1 J e1 s1 k1 ok D hD
    obtain ⟨hz, p⟩ := guardR_post p
    have D1 : D ∉ ρ1.hid := fun z => s1.fresh hD (.inr z)
    have p := Post.ext e1 p
    -- the invariant: what is done (acc) stands at D, hidden; what is left gives the rest
    refine ⟨fun i m H2 => m = it.ds.length - i ∧ i ≤ it.ds.length ∧ ∃ ρ2 S2 acc xs, SR K ρ2 S2 H2 ∧ D ∈ ρ2.hid ∧ Ext ρ1 H1 ρ2 H2 ∧ H2 D = some (.lst xs) ∧ VRs K ρ2 H2 xs acc ∧ acc.length ≤ i ∧
      Post K (fun c d H' => W c d σ H') ρ1 H1 ((lcL it.keep g vs t me (it.ds.drop i) τ S2).bind fun ys S3 => .ok (.lst (acc ++ ys)) S3) (VR K) Q,
      ⟨it.ds.length, by simp, Nat.zero_le _, ρ1.hide D, S1, [], [], s1.hide hD, List.mem_cons_self, Ext.hide hD, upd_same, .nil, Nat.le_refl _, by simpa using p⟩, ?_⟩
    rintro i m H2 ⟨rfl, hi2, ρ2, S2, acc, xs, s2, d2, e2, hD2, ha2, hl2, p2⟩
    have kk : keepOk it.keep S2 := by
      cases q2 : it.ds.drop i with
      | nil =>
        rw [q2] at p2; unfold lcL at p2; split at p2
        · exact keepB_iff.mp (by assumption)
        · exact p2.elim
      | cons d ds =>
        rw [q2] at p2; unfold lcL at p2; split at p2
        · exact keepB_iff.mp (by assumption)
        · exact p2.elim
    obtain ⟨go, stop, yld⟩ := ok ρ2 H2 S2 e2 s2 kk
    by_cases hlt : i < it.ds.length
    · refine .inr ⟨go i hlt, fun H2 => i + 1 ≤ it.ds.length ∧ ∃ ρ2 S2 acc xs, SR K ρ2 S2 H2 ∧ D ∈ ρ2.hid ∧ Ext ρ1 H1 ρ2 H2 ∧ H2 D = some (.lst xs) ∧ VRs K ρ2 H2 xs acc ∧ acc.length ≤ i + 1 ∧
        Post K (fun c d H' => W c d σ H') ρ1 H1 ((lcL it.keep g vs t me (it.ds.drop (i + 1)) τ S2).bind fun ys S3 => .ok (.lst (acc ++ ys)) S3) (VR K) Q, fun H' h' => ⟨it.ds.length - (i + 1), by omega, rfl, h'⟩, fun x H3 y => ?_⟩
      obtain ⟨d, hd, e3, s3, v3⟩ := yld i x H3 hlt y
      rw [drop_cons hd] at p2
      unfold lcL at p2
      rw [if_pos (keepB_iff.mpr kk)] at p2
      cases q2 : bindT g d (wipeT τ vs) with
      | none => rw [q2] at p2; exact p2.elim
      | some τ3 =>
        rw [q2] at p2
        simp only at p2
        have r3 : ER K ρ2 H3 (wipeT τ vs) (L2.wipe σ vs) := ((r.mono (e1.trans e2)).mono e3).wipe vs
        refine tgOf_of q2 v3 r3 fun σ3 r4 df => ⟨wipe_diff df hi, ρ2, τ3, S2, s3, r4, ?_⟩
        cases q3 : t τ3 S2 with
        | ex c fs S' => rw [q3] at p2; exact p2.elim
        | bad => rw [q3] at p2; exact p2.elim
        | ok b S4 =>
          rw [q3] at p2
          intro ρ4 H4 b' e4 s4 hb
          have hb' : b' = b := hb
          subst hb'
          simp only [noEx_ok, R.bind_ok] at p2
          have hD4 : H4 D = some (.lst xs) := e4.keep _ _ (e3.keep _ _ hD2 (by (intro ps z; cases z)) fun z => (s2.hd D d2).1 z) (by (intro ps z; cases z)) fun z => (s3.hd D d2).1 z
          have d4 : D ∈ ρ4.hid := e4.hid _ (e3.hid _ d2)
          have ha4 := (ha2.mono e3).mono e4
          have e14 : Ext ρ1 H1 ρ4 H4 := (e2.trans e3).trans e4
          cases b' with
          | false =>
            rw [if_neg (by decide)] at p2
            refine iteF ⟨hlt, ρ4, S4, acc, xs, s4, d4, e14, hD4, ha4, Nat.le_succ_of_le hl2, p2⟩
          | true =>
            rw [if_pos rfl] at p2
            refine iteT ⟨ρ4, τ3, S4, s4, r4.mono e4, ?_⟩
            cases q5 : me τ3 S4 with
            | ex c fs S' => rw [q5] at p2; exact p2.elim
            | bad => rw [q5] at p2; exact p2.elim
            | ok z S5 =>
              rw [q5] at p2
              intro ρ5 H5 yv e5 s5 v5
              simp only [noEx_ok, R.bind_ok] at p2
              have hD5 : H5 D = some (.lst xs) := e5.keep _ _ hD4 (by (intro ps z; cases z)) fun z => (s4.hd D d4).1 z
              have d5 : D ∈ ρ5.hid := e5.hid _ d4
              have hlen : xs.length ≤ i := by rw [ha2.length]; exact hl2
              refine ⟨xs, hD5, by omega, hlt, ρ5, S5, acc ++ [z], xs ++ [yv], s5.rehide d5, d5, (e14.trans e5).rehide hD, upd_same, (((ha4.mono e5).append (.cons v5 .nil))).rehide (.inr d5), by simpa using hl2, ?_⟩
              have : ((lcL it.keep g vs t me (it.ds.drop (i + 1)) τ S5).bind fun ys S3 => R.ok (Z.D.lst (acc ++ [z] ++ ys)) S3) = (((lcL it.keep g vs t me (it.ds.drop (i + 1)) τ S5).bind fun ys S3 => .ok (z :: ys) S3).bind fun ys S3 => .ok (Z.D.lst (acc ++ ys)) S3) := by
                cases lcL it.keep g vs t me (it.ds.drop (i + 1)) τ S5 with
                | ok ys S3 => simp
                | ex c fs S3 => rfl
                | bad => rfl
              rw [this]; exact p2
    · have e : i = it.ds.length := by omega
      subst e
      rw [List.drop_length] at p2
      unfold lcL at p2
      rw [if_pos (keepB_iff.mpr kk)] at p2
      simp only [R.bind_ok, List.append_nil] at p2
      refine .inl ⟨stop, p2 (ρ2.bare D) H2 _ (e2.bare D1) s2.unhide (.lst hD2 (fun z => ?_) ha2.unhide)⟩
      rcases z with z | z
      · exact (s2.hd D d2).1 z
      · exact of_decide_eq_true (List.mem_filter.mp z).2 rfl
theorem z_comp (hc : X.calm = true) (hN : X.N.Nodup) (hi : PI X tg iter (Im X.K W mi)) (ok : BlkOk X.N X.env.scope scope own)
    (hg : ∀ (s : Shared) (H : Hp) (C : Addr) (cl : List (Str × Addr)) (fp : List Addr), PG (X.blk s H scope (compEnvC scope cl C X.env) fp) tg (tgOf X.K g)) (ht : ∀ (s : Shared) (H : Hp) (C : Addr) (cl : List (Str × Addr)) (fp : List Addr), PTs (X.blk s H scope (compEnvC scope cl C X.env) fp) ifs (Tm X.K W0 t))
    (he : ∀ (s : Shared) (H : Hp) (C : Addr) (cl : List (Str × Addr)) (fp : List Addr), PE (X.blk s H scope (compEnvC scope cl C X.env) fp) elt (Em X.K W0 me)) (hin : ∀ i ∈ g.ix, i ∈ own.map (·.2)) (hs : ∀ x, foldedSetIterable iter X.env x = pure x := by intro _; rfl) :
    PE X (.ListComp elt [⟨tg, iter, ifs, 0⟩] scope pos) (Em X.K W (mComp mi g (own.map (·.2)) t me)) := PE_imp (pe_lc hc hN hi ok hg ht he hs) fun σ H Q h => Em_comp hin h
theorem s_setComp {i : Nat} {y : Str} {py spos : Pos} (hc : X.calm = true) (hN : X.N.Nodup) (hy : X.N[i]? = some y) (hyl : X.env.scope.names.lookup y = some .local)
    (hsw : swapsWith (.ListComp elt [⟨tg, iter, ifs, 0⟩] scope pos) (some (.Name y py)) spos.line X.env = pure true) (hi : PI X tg iter (Im X.K W mi)) (ok : BlkOk X.N X.env.scope scope own)
    (hg : ∀ (s : Shared) (H : Hp) (C : Addr) (cl : List (Str × Addr)) (fp : List Addr), PG (X.blk s H scope (compEnvC scope cl C X.env) fp) tg (tgOf X.K g)) (ht : ∀ (s : Shared) (H : Hp) (C : Addr) (cl : List (Str × Addr)) (fp : List Addr), PTs (X.blk s H scope (compEnvC scope cl C X.env) fp) ifs (Tm X.K W0 t))
    (he : ∀ (s : Shared) (H : Hp) (C : Addr) (cl : List (Str × Addr)) (fp : List Addr), PE (X.blk s H scope (compEnvC scope cl C X.env) fp) elt (Em X.K W0 me)) (hin : ∀ i ∈ g.ix, i ∈ own.map (·.2)) (hs : ∀ x, foldedSetIterable iter X.env x = pure x := by intro _; rfl) :
    PS X (.Assign [.Name y py] (.ListComp elt [⟨tg, iter, ifs, 0⟩] scope pos) spos) (Sm X.K W (sAsg i (mComp mi g (own.map (·.2)) t me))) := PS_imp (ps_setLc hc hN hy hyl hsw hi ok hg ht he hs) fun D σ H ⟨ρ, τ, S, s, r, p⟩ =>
  Em_comp hin (Em_S (k := fun _ _ => .bad) s r p fun ρ1 H1 S1 v d s1 r1 e1 v1 p1 => p1.here s1 (r1.set i v1))
noncomputable def tYesM : MT := fun _ S => .ok true S
theorem ts_nil : PTs X [] (Tm X.K W tYesM) := ⟨fun pins s σ H Q I ⟨ρ, τ, S, sr, r, p⟩ => pts_nil.run pins s σ H Q I (p.here sr rfl)⟩
theorem ts_one {c : Expr} (h : PT X c (Tm X.K W t)) : PTs X [c] (Tm X.K W t) := pts_one h
end

noncomputable def keepOf : D → Sto → List (Nat × C)
  | .loc l, S => match S[l]? with | some c => [(l, c)] | none => []
  | _, _ => []
noncomputable def signs (x : Str) : List D := x.cps.toList.map fun c => .str ⟨#[c]⟩
noncomputable def itemsOf : D → Sto → Option Items
  | .tup ds, _ => some ⟨ds, []⟩
  | .lst ds, _ => some ⟨ds, []⟩
  | .scr ds, _ => some ⟨ds, []⟩
  | .str x, _ => some ⟨signs x, []⟩
  | .loc l, S => match S[l]? with | some (.lst ds) => some ⟨ds, [(l, .lst ds)]⟩ | _ => none
  | _, _ => none
noncomputable def iSeq (m : ME) : MI := fun τ S => (m τ S).bind fun d S1 => ofO (itemsOf d S1) S1
section
variable {K : PySem.W.Frag} {ρ0 : Pl} {H0 : Hp}
theorem iter_list {a : Addr} {d : D} {it : Items} (r : VR K ρ0 H0 (.ref a) d) (hd : ∀ S, keepOk it.keep S → listR d S = some it.ds) : IterOK K ρ0 H0 (Itl K a) it := fun ρ H S e s k => by
  obtain ⟨b, xs, e1, h1, h2⟩ := listR_of s (r.mono e) (hd S k)
  cases e1
  have hl := h2.length
  refine ⟨fun i hi => ⟨xs, xs[i]'(by omega), h1, by simp⟩, ⟨xs, h1, by omega⟩, fun i x H' hi y => ?_⟩
  obtain ⟨rfl, y2⟩ := y
  obtain ⟨d2, g1, g2⟩ := h2.getV (y2 xs h1)
  exact ⟨d2, g1, Ext.refl, s, g2⟩
theorem iter_tup {a : Addr} {ds : List D} (r : VR K ρ0 H0 (.ref a) (.tup ds)) : IterOK K ρ0 H0 (Itt K a) ⟨ds, []⟩ := fun ρ H S e s k => by
  obtain ⟨b, xs, e1, h1, h2⟩ := tup_of (r.mono e)
  cases e1
  have hl := h2.length
  refine ⟨fun i hi => ⟨xs, xs[i]'(by have : i < ds.length := hi; omega), h1, by simp⟩, ⟨xs, h1, by show xs.length ≤ ds.length; omega⟩, fun i x H' hi y => ?_⟩
  obtain ⟨rfl, y2⟩ := y
  obtain ⟨d2, g1, g2⟩ := h2.getV (y2 xs h1)
  exact ⟨d2, g1, Ext.refl, s, g2⟩
theorem iter_str {x : Str} : IterOK K ρ0 H0 (Its x) ⟨signs x, []⟩ := fun ρ H S e s k => by
  have hn : (signs x).length = x.cps.size := by simp [signs]
  refine ⟨fun i hi => walk_str.goes i H (by rw [← hn]; exact hi) trivial, ?_, fun i v H' hi y => ?_⟩
  · show (Its x).stop (signs x).length H
    rw [hn]; exact walk_str.stops H trivial
  · obtain ⟨rfl, c, hc, rfl⟩ := walk_str.yields i H v H' (by rw [← hn]; exact hi) trivial y
    refine ⟨.str ⟨#[c]⟩, ?_, Ext.refl, s, .str _⟩
    show (signs x)[i]? = _
    unfold signs
    rw [List.getElem?_map, Array.getElem?_toList, hc]; rfl
theorem iter_range {lo : Int} {n : Nat} : IterOK K ρ0 H0 (Itr lo n) ⟨(List.range n).map fun (i : Nat) => .int (lo + (i : Int)), []⟩ := fun ρ H S e s k => by
  refine ⟨fun i hi => by show i < n; simpa using hi, by show n ≤ _; simp, fun i x H' hi y => ?_⟩
  obtain ⟨rfl, rfl⟩ := y
  have hi' : i < n := by simpa using hi
  exact ⟨.int (lo + i), by simp [hi'], Ext.refl, s, .int _⟩
noncomputable def rollAt (ds : List D) (i : Nat) : Bool := match ds[i]? with
  | some (.tup es) => rolly es
  | _ => false
theorem pair_turn {ρ : Pl} {H H' : Hp} {S : Sto} {v : V} {xs ys : List V} {ds es : List D} {i : Nat} (s : SR K ρ S H) (hx : VRs K ρ H xs ds) (hy : VRs K ρ H ys es)
    (y : ∃ T x y o, v = .ref T ∧ H T = none ∧ o.dict = none ∧ H' = upd H T (tupHO (rollAt (List.zipWith (fun a b => D.tup [a, b]) ds es) i) o [x, y]) ∧ xs[i]? = some x ∧ ys[i]? = some y) : ∃ d, (List.zipWith (fun a b => D.tup [a, b]) ds es)[i]? = some d ∧ Ext ρ H ρ H' ∧ SR K ρ S H' ∧ VR K ρ H' v d := by
  obtain ⟨T, x, y, o, rfl, hT, ho, rfl, h1, h2⟩ := y
  obtain ⟨dx, g1, g2⟩ := hx.getV h1
  obtain ⟨dy, k1, k2⟩ := hy.getV h2
  have e : (List.zipWith (fun a b => D.tup [a, b]) ds es)[i]? = some (.tup [dx, dy]) := by rw [List.getElem?_zipWith, g1, k1]
  have eb : rollAt (List.zipWith (fun a b => D.tup [a, b]) ds es) i = rolly [dx, dy] := by unfold rollAt; rw [e]
  rw [eb]
  exact ⟨_, e, Ext.fresh hT, s.laid hT, VR.newTupB s ho hT (.cons g2 (.cons k2 .nil))⟩
end
section
variable {X : Cx} {W : WX} {tg e : Expr} {m : ME} {pos : Pos}
theorem Im_of {K : PySem.W.Frag} {σ : St} {H : Hp} {Rr : It → Hp → Prop} (h : Im K W (iSeq m) σ H Rr) : iList K (Em K W m) σ H Rr ∨ iTup K (Em K W m) σ H Rr ∨ iStr (Em K W m) σ H Rr := by
  obtain ⟨ρ, τ, S, s, r, p⟩ := h
  unfold iSeq at p
  cases q : m τ S with
  | bad => rw [q] at p; exact p.elim
  | ex c fs S' =>
    rw [q] at p
    exact .inl ⟨ρ, τ, S, s, r, by rw [q]; exact p⟩
  | ok d S1 =>
    rw [q] at p
    simp only [R.bind_ok] at p
    cases q2 : itemsOf d S1 with
    | none => rw [q2] at p; exact p.elim
    | some it =>
      rw [q2] at p
      simp only [ofO_some] at p
      cases d with
      | tup ds =>
        cases q2
        refine .inr (.inl ⟨ρ, τ, S, s, r, ?_⟩)
        rw [q]
        intro ρ1 H1 v e1 s1 v1
        obtain ⟨a, xs, rfl, h1, h2⟩ := tup_of v1
        exact ⟨a, rfl, ⟨xs, h1⟩, p ρ1 H1 _ e1 s1 (fun _ h => nomatch h) (iter_tup v1)⟩
      | str x =>
        cases q2
        refine .inr (.inr ⟨ρ, τ, S, s, r, ?_⟩)
        rw [q]
        intro ρ1 H1 v e1 s1 v1
        cases v1
        exact ⟨x, rfl, p ρ1 H1 _ e1 s1 (fun _ h => nomatch h) iter_str⟩
      | lst ds =>
        cases q2
        refine .inl ⟨ρ, τ, S, s, r, ?_⟩
        rw [q]
        intro ρ1 H1 v e1 s1 v1
        obtain ⟨a, xs, rfl, h1, h2⟩ := listR_of s1 v1 rfl
        exact ⟨a, rfl, ⟨xs, h1⟩, p ρ1 H1 _ e1 s1 (fun _ h => nomatch h) (iter_list v1 fun _ _ => rfl)⟩
      | scr ds =>
        cases q2
        refine .inl ⟨ρ, τ, S, s, r, ?_⟩
        rw [q]
        intro ρ1 H1 v e1 s1 v1
        obtain ⟨a, xs, rfl, h1, h2⟩ := listR_of s1 v1 rfl
        exact ⟨a, rfl, ⟨xs, h1⟩, p ρ1 H1 _ e1 s1 (fun _ h => nomatch h) (iter_list v1 fun _ _ => rfl)⟩
      | loc l =>
        simp only [itemsOf] at q2
        split at q2
        · rename_i ds hl
          cases q2
          refine .inl ⟨ρ, τ, S, s, r, ?_⟩
          rw [q]
          intro ρ1 H1 v e1 s1 v1
          obtain ⟨a, xs, rfl, h1, h2⟩ := listR_of (ds := ds) s1 v1 (by simp [listR, hl])
          refine ⟨a, rfl, ⟨xs, h1⟩, p ρ1 H1 _ e1 s1 (fun q hq => ?_) (iter_list v1 fun S k => ?_)⟩
          · have : q = (l, .lst ds) := by simpa using hq
            subst this; exact hl
          · have := k (l, .lst ds) (by simp)
            simp [listR, this]
        · cases q2
      | _ => cases q2
theorem i_seq (he : PE X e (Em X.K W m)) : PI X tg e (Im X.K W (iSeq m)) := by
  constructor
  intro pins st σ H Rr I h
  rcases Im_of h with h | h | h
  · exact (pi_list he).run pins st σ H Rr I h
  · exact (pi_tup he).run pins st σ H Rr I h
  · exact (pi_str he).run pins st σ H Rr I h
noncomputable def range1 : List D → Sto → Option Items
  | [.int j], _ => if -(2 ^ 62) ≤ j ∧ j < 2 ^ 62 then some ⟨(List.range j.toNat).map fun (i : Nat) => .int (0 + (i : Int)), []⟩ else none
  | _, _ => none
noncomputable def range2 : List D → Sto → Option Items
  | [.int i, .int j], _ => if -(2 ^ 62) ≤ i ∧ i < 2 ^ 62 ∧ -(2 ^ 62) ≤ j ∧ j < 2 ^ 62 then some ⟨(List.range (j - i).toNat).map fun (k : Nat) => .int (i + (k : Int)), []⟩ else none
  | _, _ => none
noncomputable def iArgs (f : List D → Sto → Option Items) (ms : MA) : MI := fun τ S => (ms τ S).bind fun ds S1 => ofO (f ds S1) S1
theorem Im_args {K : PySem.W.Frag} {f : List D → Sto → Option Items} {ms : MA} {σ : St} {H : Hp} {Rr : It → Hp → Prop} {Q1 : List V → Hp → Prop} (h : Im K W (iArgs f ms) σ H Rr)
    (k : ∀ ρ1 H1 S1 vs ds it, SR K ρ1 S1 H1 → VRs K ρ1 H1 vs ds → f ds S1 = some it → (∀ J, keepOk it.keep S1 → IterOK K ρ1 H1 J it → Rr J H1) → Q1 vs H1) : Am K W ms σ H Q1 := by
  obtain ⟨ρ, τ, S, s, r, p⟩ := h
  refine ⟨ρ, τ, S, s, r, ?_⟩
  unfold iArgs at p
  cases q : ms τ S with
  | bad => rw [q] at p; exact p.elim
  | ex c fs S' => rw [q] at p; exact p
  | ok ds S1 =>
    rw [q] at p
    simp only [R.bind_ok] at p
    cases q2 : f ds S1 with
    | none => rw [q2] at p; exact p.elim
    | some it =>
      rw [q2] at p
      exact fun ρ1 H1 vs e1 s1 v1 => k ρ1 H1 S1 vs ds it s1 v1 q2 fun J kk ok => p ρ1 H1 J e1 s1 kk ok
variable {ms : MA} {a b : Expr} {p : Pos}
theorem i_range1 (hm : X.mg "range" = none) (ha : PA X [a] (Am X.K W ms)) (hg : Gl X "range" := by rfl) (hs : starEach [a] X.env = [(false, eval a X.env)] := by rfl) : PI X tg (.Call (.Name "range" p) [a] [] pos) (Im X.K W (iArgs range1 ms)) :=
  PI_imp (pi_range1 hg hm ha hs) fun σ H Q h => Im_args h fun ρ1 H1 S1 vs ds it s1 v1 q k => by
    unfold range1 at q
    split at q
    · cases v1 with
      | cons v1 v2 =>
        cases v2; cases v1
        split at q
        · rename_i hb
          cases q
          exact ⟨_, rfl, hb.1, hb.2, k _ (fun _ h => nomatch h) iter_range⟩
        · cases q
    · cases q
theorem i_range2 (hm : X.mg "range" = none) (ha : PA X [a, b] (Am X.K W ms)) (hg : Gl X "range" := by rfl) (hs : starEach [a, b] X.env = [(false, eval a X.env), (false, eval b X.env)] := by rfl) (hs2 : starEach [b] X.env = [(false, eval b X.env)] := by rfl) : PI X tg (.Call (.Name "range" p) [a, b] [] pos) (Im X.K W (iArgs range2 ms)) :=
  PI_imp (pi_range2 hg hm ha hs hs2) fun σ H Q h => Im_args h fun ρ1 H1 S1 vs ds it s1 v1 q k => by
    unfold range2 at q
    split at q
    · cases v1 with
      | cons v1 v2 =>
        cases v2 with
        | cons v2 v3 =>
          cases v3; cases v1; cases v2
          split at q
          · rename_i hb
            cases q
            exact ⟨_, _, rfl, hb, k _ (fun _ h => nomatch h) iter_range⟩
          · cases q
    · cases q
theorem listR_keep {d : D} {S S' : Sto} {ds : List D} (h : listR d S = some ds) (k : keepOk (keepOf d S) S') : listR d S' = some ds := by
  cases d with
  | loc l =>
    simp only [listR] at h
    split at h
    · rename_i es hl
      cases h
      have := k (l, .lst ds) (by simp [keepOf, hl])
      simp [listR, this]
    · cases h
  | _ => exact h
theorem keepOf_ok {d : D} {S : Sto} : keepOk (keepOf d S) S := fun p hp => by
  cases d with
  | loc l =>
    simp only [keepOf] at hp
    split at hp
    · rename_i c hl
      have : p = (l, c) := by simpa using hp
      subst this; exact hl
    · exact nomatch hp
  | _ => exact nomatch hp
theorem keepOk_app {a b : List (Nat × C)} {S : Sto} : keepOk (a ++ b) S ↔ keepOk a S ∧ keepOk b S := by
  constructor
  · intro h; exact ⟨fun p hp => h p (List.mem_append_left _ hp), fun p hp => h p (List.mem_append_right _ hp)⟩
  · rintro ⟨h1, h2⟩ p hp
    rcases List.mem_append.mp hp with z | z
    · exact h1 p z
    · exact h2 p z
noncomputable def enumFrom (n : Nat) : List D → List D
  | [] => []
  | d :: ds => .tup [.int (n : Int), d] :: enumFrom (n + 1) ds
theorem enumFrom_len : ∀ (n : Nat) (ds : List D), (enumFrom n ds).length = ds.length
  | _, [] => rfl
  | n, d :: ds => by simp [enumFrom, enumFrom_len (n + 1) ds]
theorem enumFrom_get : ∀ (n : Nat) (ds : List D) (i : Nat) (d : D), ds[i]? = some d → (enumFrom n ds)[i]? = some (.tup [.int ((n + i : Nat) : Int), d])
  | _, [], _, _, h => by simp at h
  | n, x :: ds, 0, d, h => by simp at h; subst h; simp [enumFrom]
  | n, x :: ds, i + 1, d, h => by
    have := enumFrom_get (n + 1) ds i d (by simpa using h)
    simp only [enumFrom, List.getElem?_cons_succ, this]
    congr 5; omega
end
end Z

namespace Z
open PySem L2

noncomputable def keyPy : Key → PyData
  | .inl i => .int i
  | .inr x => .str x
mutual
noncomputable def toPyD : D → Option PyData
  | .non => some .none
  | .bl b => some (.bool b)
  | .int i => some (.int i)
  | .str x => some (.str x)
  | .tup ds => (toPyDs ds).map .tuple
  | .lst ds => (toPyDs ds).map .list
  | .scr ds => (toPyDs ds).map .list
  | .dct ks ds => (toPyDs ds).map fun vs => .dict (List.zip (ks.map keyPy) vs)
  | .loc _ => none
  | .ktup _ => none
  | .ob _ => none
  | .fn _ => none
noncomputable def toPyDs : List D → Option (List PyData)
  | [] => some []
  | d :: ds => match toPyD d, toPyDs ds with
    | some p, some ps => some (p :: ps)
    | _, _ => none
end
noncomputable def toPy (d : D) (S : Sto) : Option PyData := match d with
  | .loc l => match S[l]? with
    | some (.lst ds) => (toPyDs ds).map .list
    | some (.dK false kvs) => (toPyDs (kvs.map (·.2))).map fun vs => .dict (List.zip (kvs.map fun p => keyPy p.1) vs)
    | _ => none
  | d => toPyD d
theorem toPyDs_len : ∀ {ds : List D} {ps : List PyData}, toPyDs ds = some ps → ps.length = ds.length
  | [], ps, h => by simp [toPyDs] at h; subst h; rfl
  | d :: ds, ps, h => by
    simp only [toPyDs] at h
    split at h
    · rename_i p qs h1 h2
      cases h
      simp [toPyDs_len h2]
    · cases h
section
variable {X : Cx} {pins : List (Addr × Obj)} {σ : St} {st : Shared} {ρ : Pl} {H : Hp} {S : Sto}
theorem reads_dict (I : Inv X pins σ H st) {a : Addr} {ws : List (Key × V)} (h : H a = some (.dK ws)) {ps : List PyData} (hl : ps.length = ws.length) {B : Prop} (hv : ∀ us, Vals (ws.map (·.2)) us → ∃ as, ReadsAll st.heap us ps as ∧ (B → sysModules ∉ as)) :
    ∃ as, Reads st.heap (.ref a) (.dict (List.zip (ws.map fun p => keyPy p.1) ps)) as ∧ (B → sysModules ∉ as) := by
  obtain ⟨_, hsys, vs, hkv, o, es, ep, ho, hex, hd, _, hp, _⟩ := I.hok a _ h
  have main : ∀ (es : List DictEntry) (ws : List (Key × V)) (vs : List (Key × Value)), KV ws vs → PySem.Pairs (mixKind X.prog X.w) es vs → ReadsAll st.heap (es.map (·.key)) (ws.map fun p => keyPy p.1) [] ∧ Vals (ws.map (·.2)) (es.map (·.val)) := by
    intro es
    induction es with
    | nil =>
      intro ws vs hk hp
      cases hp; cases hk
      exact ⟨.nil, .nil⟩
    | cons e es ih =>
      intro ws vs hk hp
      cases hp with
      | cons h1 h2 h3 =>
        cases hk with
        | cons k1 k2 =>
          obtain ⟨r, q⟩ := ih _ _ k2 h3
          obtain ⟨e1, e2⟩ := k1
          refine ⟨?_, .cons (by show RelV _ e.val; rw [h2]; exact e2) q⟩
          rename_i kv vs' pw ws'
          obtain ⟨k, v⟩ := pw
          simp only at e1
          have hk1 : keyIs kv.1 e.key = true := h1
          rw [← e1] at hk1
          rcases keyIs_shape hk1 with ⟨i, t, e3, e4⟩ | ⟨x, t, e3, e4⟩
          · refine ReadsAll.cons (as := []) (bs := []) ?_ r
            simp only [e4]; rw [show keyPy k = .int i from by rw [e3]; rfl]; exact .int i t
          · refine ReadsAll.cons (as := []) (bs := []) ?_ r
            simp only [e4]; rw [show keyPy k = .str x from by rw [e3]; rfl]; exact .str x t
  obtain ⟨r1, r2⟩ := main es.toList ws vs hkv hp
  obtain ⟨bs, r3, hb⟩ := hv _ r2
  refine ⟨_, Reads.dict (as := []) (bs := bs) ho hex.1 hd ?_ ?_, fun b z => ?_⟩
  · rw [show (List.zip (ws.map fun p => keyPy p.1) ps).map (·.1) = ws.map fun p => keyPy p.1 from by
      rw [List.map_fst_zip]; simp [hl]]
    exact r1
  · rw [show (List.zip (ws.map fun p => keyPy p.1) ps).map (·.2) = ps from by
      rw [List.map_snd_zip]; simp [hl]]
    exact r3
  · rcases List.mem_cons.mp (show sysModules ∈ a :: bs from by simpa using z) with z | z
    · exact absurd (beq_iff_eq.mpr z.symm) (by rw [hsys]; decide)
    · exact hb b z
mutual
noncomputable def noList : D → Bool
  | .tup ds => noLists ds
  | .dct _ ds => noLists ds
  | .lst _ => false
  | .scr _ => false
  | .loc _ => false
  | _ => true
noncomputable def noLists : List D → Bool
  | [] => true
  | d :: ds => noList d && noLists ds
end
mutual
theorem VR.reads (I : Inv X pins σ H st) : ∀ (d : D) (v : V) (u : Value) (p : PyData), VR X.K ρ H v d → RelV v u → toPyD d = some p → ∃ as, Reads st.heap u p as ∧ (noList d = true → sysModules ∉ as)
  | .non, _, _, _, r, q, h => by cases r; cases h; cases q; exact ⟨_, .none, fun _ z => nomatch z⟩
  | .bl b, _, _, _, r, q, h => by cases r; cases h; cases q; exact ⟨_, .bool b, fun _ z => nomatch z⟩
  | .int i, _, _, _, r, q, h => by cases r; cases h; obtain ⟨t, rfl⟩ := q; exact ⟨_, .int i t, fun _ z => nomatch z⟩
  | .str x, _, _, _, r, q, h => by cases r; cases h; obtain ⟨t, rfl⟩ := q; exact ⟨_, .str x t, fun _ z => nomatch z⟩
  | .tup ds, v, u, p, r, q, h => by
    simp only [toPyD, Option.map_eq_some_iff] at h
    obtain ⟨ps, h1, rfl⟩ := h
    obtain ⟨a, xs, rfl, ht, hs⟩ := tup_of r
    cases q
    obtain ⟨its, rv, ⟨o, ho, hc, n, hd⟩, _⟩ := I.tuple ht
    obtain ⟨as, hr, hb⟩ := VRs.reads I ds _ its ps hs rv h1
    exact ⟨_, .tuple ho hc hd hr, hb⟩
  | .lst ds, v, u, p, r, q, h => by
    simp only [toPyD, Option.map_eq_some_iff] at h
    obtain ⟨ps, h1, rfl⟩ := h
    cases r with
    | lst h2 h3 hs =>
      cases q
      obtain ⟨its, rv, ⟨o, n, ho, hc, _, hd⟩, _⟩ := I.list (SqL.of h2)
      obtain ⟨as, hr, hb⟩ := VRs.reads I ds _ its ps hs rv h1
      exact ⟨_, .list ho hc hd hr, fun z => nomatch z⟩
  | .scr ds, v, u, p, r, q, h => by
    simp only [toPyD, Option.map_eq_some_iff] at h
    obtain ⟨ps, h1, rfl⟩ := h
    cases r with
    | @scr a xs _ h2 hs =>
      cases q
      have hq : SqL X.K H a xs := by
        rcases h2 with ⟨o, h2, _⟩ | h2
        · exact .inl (.inr ⟨o, h2⟩)
        · exact h2 H
      obtain ⟨its, rv, ⟨o, n, ho, hc, _, hd⟩, _⟩ := I.list hq
      obtain ⟨as, hr, hb⟩ := VRs.reads I ds _ its ps hs rv h1
      exact ⟨_, .list ho hc hd hr, fun z => nomatch z⟩
  | .dct ks ds, v, u, p, r, q, h => by
    simp only [toPyD, Option.map_eq_some_iff] at h
    obtain ⟨ps, h1, rfl⟩ := h
    cases r with
    | dct h2 h3 hk hs =>
      cases q
      have := reads_dict I h2 (ps := ps) (B := noLists ds = true) (by rw [toPyDs_len h1, ← hs.length]; simp) fun us hu => VRs.reads I ds _ us ps hs hu h1
      rw [← hk]
      rw [List.map_map]
      exact this
  | .loc l, _, _, _, _, _, h => by simp [toPyD] at h
  | .ktup l, _, _, _, _, _, h => by simp [toPyD] at h
  | .ob v, _, _, _, _, _, h => by simp [toPyD] at h
  | .fn v, _, _, _, _, _, h => by simp [toPyD] at h
theorem VRs.reads (I : Inv X pins σ H st) : ∀ (ds : List D) (vs : List V) (us : List Value) (ps : List PyData), VRs X.K ρ H vs ds → Vals vs us → toPyDs ds = some ps → ∃ as, ReadsAll st.heap us ps as ∧ (noLists ds = true → sysModules ∉ as)
  | [], _, _, _, r, q, h => by cases r; cases q; simp [toPyDs] at h; subst h; exact ⟨_, .nil, fun _ z => nomatch z⟩
  | d :: ds, _, _, _, r, q, h => by
    simp only [toPyDs] at h
    split at h
    · rename_i p ps h1 h2
      cases h
      cases r with
      | cons r1 r2 =>
        cases q with
        | cons q1 q2 =>
          obtain ⟨as, k1, b1⟩ := VR.reads I d _ _ _ r1 q1 h1
          obtain ⟨bs, k2, b2⟩ := VRs.reads I ds _ _ _ r2 q2 h2
          refine ⟨_, .cons k1 k2, fun z => ?_⟩
          have z' : noList d = true ∧ noLists ds = true := by simpa [noLists] using z
          rw [List.mem_append]
          rintro (y | y)
          · exact b1 z'.1 y
          · exact b2 z'.2 y
    · cases h
end
noncomputable def RdP (X : Cx) (H : Hp) (v : V) (p : PyData) : Prop := ∀ (pins : List (Addr × Obj)) (σ : St) (st : Shared) (u : Value), Inv X pins σ H st → RelV v u → ∃ as, Reads st.heap u p as
theorem rdP_of (s : SR X.K ρ S H) {v : V} {d : D} {p : PyData} (r : VR X.K ρ H v d) (h : toPy d S = some p) : RdP X H v p := fun pins σ st u I q => by
  cases d with
  | loc l =>
    cases r with
    | loc hl =>
      cases q
      simp only [toPy] at h
      split at h
      · rename_i ds e
        simp only [Option.map_eq_some_iff] at h
        obtain ⟨ps, h1, rfl⟩ := h
        obtain ⟨xs, h2, h3⟩ := s.at hl e
        obtain ⟨its, rv, ⟨o, n, ho, hc, _, hd⟩, _⟩ := I.list (SqL.of h2)
        obtain ⟨as, hr, _⟩ := VRs.reads I ds _ its ps h3 rv h1
        exact ⟨_, .list ho hc hd hr⟩
      · rename_i kvs e
        simp only [Option.map_eq_some_iff] at h
        obtain ⟨ps, h1, rfl⟩ := h
        obtain ⟨ws, h2, h3⟩ := s.at hl e
        have hk : ws.map (·.1) = kvs.map (·.1) ∧ VRs X.K ρ H (ws.map (·.2)) (kvs.map (·.2)) := by
          clear h1 h2 e
          induction h3 with
          | nil => exact ⟨rfl, .nil⟩
          | cons q _ ih => exact ⟨by simp [ih.1], .cons q ih.2⟩
        obtain ⟨as, this, _⟩ := reads_dict I h2 (ps := ps) (B := False) (by rw [toPyDs_len h1, ← hk.2.length]; simp) fun us hu => let ⟨as, r, _⟩ := VRs.reads I _ _ us ps hk.2 hu h1; ⟨as, r, fun z => z.elim⟩
        have e2 : (ws.map fun p => keyPy p.1) = kvs.map fun p => keyPy p.1 := by
          have := congrArg (List.map keyPy) hk.1
          simpa [List.map_map, Function.comp_def] using this
        rw [e2] at this
        exact ⟨_, this⟩
      · cases h
  | _ => exact let ⟨as, r, _⟩ := VR.reads I _ _ _ _ r q h; ⟨as, r⟩
end

noncomputable def RdS (X : Cx) (H : Hp) (v : V) (p : PyData) : Prop := ∀ (pins : List (Addr × Obj)) (σ : St) (st : Shared) (u : Value), Inv X pins σ H st → RelV v u → ∃ as, Reads st.heap u p as ∧ sysModules ∉ as
theorem rdS_of {X : Cx} {ρ : Pl} {H : Hp} {v : V} {d : D} {p : PyData} (r : VR X.K ρ H v d) (h : toPyD d = some p) (hn : noList d = true) : RdS X H v p := fun pins σ st u I q =>
  let ⟨as, h1, h2⟩ := VR.reads I _ _ _ _ r q h
  ⟨as, h1, h2 hn⟩

noncomputable def rDat (X : Cx) (C : PyData → PyData → Prop) (f : PyData → PyData → Bool) : R2 := fun x y H Q => ∃ p q, RdP X H x p ∧ RdP X H y q ∧ C p q ∧ Q (.bl (f p q)) H
noncomputable def PlainC (p q : PyData) : Prop := p.plain = true ∧ q.plain = true ∧ p.depth ≤ 64
noncomputable def AlikeC (p q : PyData) : Prop := PySem.W.alike p q = true ∧ p ≠ .none ∧ p.depth ≤ 64
noncomputable def InC (p q : PyData) : Prop := p.plain = true ∧ p.depth ≤ 64 ∧ ((∃ xs, q = .list xs ∧ PyData.plainAll xs = true) ∨ ∃ xs, q = .tuple xs ∧ PyData.plainAll xs = true)
noncomputable def inPy (p q : PyData) : Bool := match q with
  | .list xs => xs.any fun y => PyData.eqv y p
  | .tuple xs => xs.any fun y => PyData.eqv y p
  | _ => false
section
variable {X : Cx} (hu : X.A.units + 100 < cLine)
include hu
theorem op_eqP : OpR X (compareOp .Eq) (rDat X PlainC PyData.eqv) := fun pins st σ H x y v u Q I rx ry ⟨p, q, hp, hq, ⟨c1, c2, c3⟩, h⟩ => by
  obtain ⟨as, r1⟩ := hp pins σ st v I rx
  obtain ⟨bs, r2⟩ := hq pins σ st u I ry
  exact SeqAt.eq_plain r1 r2 c1 c2 (by omega) ⟨.bl _, H, I, rfl, h⟩
theorem op_neP : OpR X (compareOp .NotEq) (rDat X PlainC fun p q => !PyData.eqv p q) := fun pins st σ H x y v u Q I rx ry ⟨p, q, hp, hq, ⟨c1, c2, c3⟩, h⟩ => by
  obtain ⟨as, r1⟩ := hp pins σ st v I rx
  obtain ⟨bs, r2⟩ := hq pins σ st u I ry
  exact SeqAt.ne_plain r1 r2 c1 c2 (by omega) ⟨.bl _, H, I, rfl, h⟩
theorem op_ltP : OpR X (compareOp .Lt) (rDat X AlikeC fun p q => PySem.W.dataLt p q) := fun pins st σ H x y v u Q I rx ry ⟨p, q, hp, hq, ⟨c1, c2, c3⟩, h⟩ => by
  obtain ⟨as, r1⟩ := hp pins σ st v I rx
  obtain ⟨bs, r2⟩ := hq pins σ st u I ry
  exact PySem.W.lt_data r1 r2 c1 c2 (by omega) ⟨.bl _, H, I, rfl, h⟩
theorem op_gtP : OpR X (compareOp .Gt) (rDat X AlikeC fun p q => PySem.W.dataLt q p) := fun pins st σ H x y v u Q I rx ry ⟨p, q, hp, hq, ⟨c1, c2, c3⟩, h⟩ => by
  obtain ⟨as, r1⟩ := hp pins σ st v I rx
  obtain ⟨bs, r2⟩ := hq pins σ st u I ry
  exact PySem.W.gt_data r1 r2 c1 c2 (by omega) ⟨.bl _, H, I, rfl, h⟩
theorem op_leP : OpR X (compareOp .LtE) (rDat X AlikeC fun p q => !PySem.W.dataLt q p) := fun pins st σ H x y v u Q I rx ry ⟨p, q, hp, hq, ⟨c1, c2, c3⟩, h⟩ => by
  obtain ⟨as, r1⟩ := hp pins σ st v I rx
  obtain ⟨bs, r2⟩ := hq pins σ st u I ry
  exact PySem.W.le_data r1 r2 c1 c2 (by omega) ⟨.bl _, H, I, rfl, h⟩
theorem op_geP : OpR X (compareOp .GtE) (rDat X AlikeC fun p q => !PySem.W.dataLt p q) := fun pins st σ H x y v u Q I rx ry ⟨p, q, hp, hq, ⟨c1, c2, c3⟩, h⟩ => by
  obtain ⟨as, r1⟩ := hp pins σ st v I rx
  obtain ⟨bs, r2⟩ := hq pins σ st u I ry
  exact PySem.W.ge_data r1 r2 c1 c2 (by omega) ⟨.bl _, H, I, rfl, h⟩
theorem op_inP : OpR X (compareOp .In) (rDat X InC inPy) := fun pins st σ H x y v u Q I rx ry ⟨p, q, hp, hq, ⟨c1, c2, c3⟩, h⟩ => by
  obtain ⟨as, r1⟩ := hp pins σ st v I rx
  obtain ⟨bs, r2⟩ := hq pins σ st u I ry
  rcases c3 with ⟨xs, rfl, hxs⟩ | ⟨xs, rfl, hxs⟩
  · exact SeqAt.in_list_data r2 r1 hxs c1 (by omega) ⟨.bl _, H, I, rfl, h⟩
  · exact SeqAt.in_tuple_data r2 r1 hxs c1 (by omega) ⟨.bl _, H, I, rfl, h⟩
theorem op_notInP : OpR X (compareOp .NotIn) (rDat X InC fun p q => !inPy p q) := fun pins st σ H x y v u Q I rx ry ⟨p, q, hp, hq, ⟨c1, c2, c3⟩, h⟩ => by
  obtain ⟨as, r1⟩ := hp pins σ st v I rx
  obtain ⟨bs, r2⟩ := hq pins σ st u I ry
  rcases c3 with ⟨xs, rfl, hxs⟩ | ⟨xs, rfl, hxs⟩
  · exact SeqAt.notIn_list_data r2 r1 hxs c1 (by omega) ⟨.bl _, H, I, rfl, h⟩
  · exact SeqAt.notIn_tuple_data r2 r1 hxs c1 (by omega) ⟨.bl _, H, I, rfl, h⟩
end
end Z

namespace Z
open PySem L2

noncomputable def dAdd : D → D → Sto → R D
  | .int i, .int j, S => .ok (.int (i + j)) S
  | .str x, .str y, S => guardR (x.length + y.length ≤ sizeLine) (.ok (.str (x ++ y)) S)
  | .tup xs, .tup ys, S => guardR (xs.length + ys.length ≤ sizeLine) (.ok (.tup (xs ++ ys)) S)
  | x, y, S => match listD x S, listD y S with
    | some xs, some ys => guardR (xs.length + ys.length ≤ sizeLine) (.ok (.lst (xs ++ ys)) S)
    | _, _ => .bad
noncomputable def dSub : D → D → Sto → R D
  | .int i, .int j, S => .ok (.int (i - j)) S
  | _, _, _ => .bad
noncomputable def dMul : D → D → Sto → R D
  | .int i, .int j, S => guardR ((-(2 ^ 64) < i ∧ i < 2 ^ 64) ∨ (-(2 ^ 64) < j ∧ j < 2 ^ 64)) (.ok (.int (i * j)) S)
  | .tup xs, .int k, S => guardR ((xs.isEmpty = false ∧ 2 ≤ k ∧ k ≤ 1000 ∧ xs.length ≤ 1000) ∧ rolly xs = false) (.ok (.tup (List.replicate k.toNat xs).flatten) S)
  | _, _, _ => .bad
noncomputable def dMod : D → D → Sto → R D
  | .int i, .int j, S => guardR (0 < j) (.ok (.int (i % j)) S)
  | _, _, _ => .bad
noncomputable def dFdiv : D → D → Sto → R D
  | .int i, .int j, S => guardR (0 < j ∧ j < 1073741824) (.ok (.int (i / j)) S)
  | _, _, _ => .bad
noncomputable def dPow : D → D → Sto → R D
  | .int i, .int j, S => guardR (0 ≤ j ∧ j ≤ 1000000 ∧ i.natAbs < 2 ^ 64) (.ok (.int (i ^ j.toNat)) S)
  | _, _, _ => .bad
theorem rolly_app {xs ys : List D} (h : rolly xs = false) (h0 : xs.isEmpty = false) : rolly (xs ++ ys) = false := by
  unfold rolly at h ⊢
  rw [h0] at h
  simp only [Bool.not_false, Bool.true_and] at h
  rw [List.all_append, h]
  simp
theorem rolly_rep {xs : List D} {k : Int} (hk : 2 ≤ k) (h : rolly xs = false) : rolly (List.replicate k.toNat xs).flatten = false := by
  obtain ⟨n, rfl⟩ : ∃ n : Nat, k = (n + 1 : Nat) := ⟨k.toNat - 1, by omega⟩
  cases xs with
  | nil => simp [rolly]
  | cons x xs =>
    rw [Int.toNat_natCast, List.replicate_succ, List.flatten_cons]
    exact rolly_app h rfl
theorem VRs.rep {K : PySem.W.Frag} {ρ : Pl} {H : Hp} {vs : List V} {ds : List D} (h : VRs K ρ H vs ds) : ∀ k : Nat, VRs K ρ H (List.replicate k vs).flatten (List.replicate k ds).flatten
  | 0 => .nil
  | k + 1 => by
    simp only [List.replicate_succ, List.flatten_cons]
    exact h.append (VRs.rep h k)
section
variable {K : PySem.W.Frag}
noncomputable def rCatN (K : PySem.W.Frag) : R2 := fun x y H Q => ∃ a b xs ys, x = .ref a ∧ y = .ref b ∧ SqT K H a xs ∧ SqT K H b ys ∧ xs.length + ys.length ≤ sizeLine ∧
  (xs = [] → Q (.ref b) H) ∧ (xs ≠ [] → ys = [] → Q (.ref a) H) ∧ (xs ≠ [] → ys ≠ [] → NewT Q H (xs ++ ys))
theorem op_catN {X : Cx} : OpR X (binaryOp .Add) (rCatN X.K) := by
  intro pins s σ H x y v u Q I rx ry h
  obtain ⟨a, b, xs, ys, rfl, rfl, ha, hb, hz, q0, q1, q2⟩ := h
  by_cases hx : xs = []
  · exact op_catA pins s σ H _ _ v u Q I rx ry ⟨a, b, xs, ys, rfl, rfl, ha, hb, hz, q0, fun z => absurd hx z, fun z => absurd hx z⟩
  · cases rx
    cases ry
    obtain ⟨its, r1, p1, _⟩ := I.tuple ha
    obtain ⟨its2, r2, p2, _⟩ := I.tuple hb
    refine HT.cat_tup p1 p2 (fun z => hx (r1.nil_iff.mp z)) (fun z => ⟨.ref a, H, I, rfl, q1 hx (r2.nil_iff.mp z)⟩) (fun z => ?_) (by rw [← r1.length, ← r2.length]; exact hz)
    obtain ⟨b, q⟩ := q2 hx fun w => z (r2.nil_iff.mpr w)
    refine ⟨.ref s.heap.objs.size, _, I.laid (t' := s.toks) (o := tupHO b { cls := .type "tuple", data := .seq (its ++ its2).toArray } (xs ++ ys)) (fun b ob q => Heap.get?_push_of_some _ q) (Nat.le_refl _) ?_, rfl, q _ _ (I.hok.fresh (Nat.le_refl _)) rfl⟩
    exact objOk_tup (by rw [List.length_append]; exact hz) (r1.append r2) (Heap.get?_push_size _ rfl) rfl rfl
noncomputable def rAddR (K : PySem.W.Frag) : R2 := fun x y H Q => rI0 (fun i j => .int (i + j)) x y H Q ∨ (∃ i j, x = .str i ∧ y = .str j ∧ i.length + j.length ≤ sizeLine ∧ Q (.str (i ++ j)) H) ∨ rCatN K x y H Q ∨ rCat x y H Q
theorem add_lists {Wk : XK} {ρ : Pl} {S : Sto} {H : Hp} {x y : V} {dx dy : D} {Q : VK} (s : SR K ρ S H) (rx : VR K ρ H x dx) (ry : VR K ρ H y dy)
    (h : Post K Wk ρ H (match listD dx S, listD dy S with
    | some xs, some ys => guardR (xs.length + ys.length ≤ sizeLine) (.ok (.lst (xs ++ ys)) S)
    | _, _ => .bad) (VR K) Q) : rCat x y H Q := by
  split at h
  · rename_i xs ys h1 h2
    obtain ⟨hz, h⟩ := guardR_post h
    obtain ⟨a, vs, rfl, ha, hs⟩ := listD_of s rx h1
    obtain ⟨b, ws, rfl, hb, gs⟩ := listD_of s ry h2
    exact ⟨a, b, vs, ws, rfl, rfl, ha, hb, by rw [hs.length, gs.length]; exact hz, h.newLst s (hs.append gs)⟩
  · exact h.elim
theorem dAdd_ok : OpS K dAdd (rAddR K) := fun Wk ρ S H x y dx dy Q s rx ry h => by
  unfold dAdd at h
  split at h
  · cases rx; cases ry
    exact .inl ⟨_, _, rfl, rfl, h.here s (.int _)⟩
  · cases rx; cases ry
    obtain ⟨hz, h⟩ := guardR_post h
    exact .inr (.inl ⟨_, _, rfl, rfl, hz, h.here s (.str _)⟩)
  · obtain ⟨hz, h⟩ := guardR_post h
    obtain ⟨a, vs, rfl, ha, hs⟩ := tup_of rx
    obtain ⟨b, ws, rfl, hb, gs⟩ := tup_of ry
    refine .inr (.inr (.inl ⟨a, b, vs, ws, rfl, rfl, ha, hb, by rw [hs.length, gs.length]; exact hz, fun e => ?_, fun e1 e2 => ?_, fun _ _ => h.newTupB s (hs.append gs)⟩))
    · subst e
      cases hs
      exact h.here s ry
    · subst e2
      cases gs
      exact h.here s (by simpa using rx)
  · exact .inr (.inr (.inr (add_lists s rx ry h)))
theorem dSub_ok : OpS K dSub (rI0 fun i j => .int (i - j)) := fun Wk ρ S H x y dx dy Q s rx ry h => by
  unfold dSub at h
  split at h
  · cases rx; cases ry
    exact ⟨_, _, rfl, rfl, h.here s (.int _)⟩
  · exact h.elim
noncomputable def rMulR (K : PySem.W.Frag) : R2 := fun x y H Q => rI CMul (fun i j => .int (i * j)) x y H Q ∨ rRepT K x y H Q
theorem dMul_ok : OpS K dMul (rMulR K) := fun Wk ρ S H x y dx dy Q s rx ry h => by
  unfold dMul at h
  split at h
  · cases rx; cases ry
    obtain ⟨hc, h⟩ := guardR_post h
    exact .inl ⟨_, _, rfl, rfl, hc, h.here s (.int _)⟩
  · obtain ⟨⟨⟨h1, h2, h3, h4⟩, hb⟩, h⟩ := guardR_post h
    cases ry
    obtain ⟨a, vs, rfl, ha, hs⟩ := tup_of rx
    refine .inr ⟨a, _, vs, rfl, rfl, ha, ?_, h2, h3, by rw [hs.length]; exact h4, h.newTup s (hs.rep _) (rolly_rep h2 hb)⟩
    rintro rfl; cases hs; cases h1
  · exact h.elim
theorem dMod_ok : OpS K dMod (rI (fun _ j => 0 < j) fun i j => .int (i % j)) := fun Wk ρ S H x y dx dy Q s rx ry h => by
  unfold dMod at h
  split at h
  · cases rx; cases ry
    obtain ⟨hc, h⟩ := guardR_post h
    exact ⟨_, _, rfl, rfl, hc, h.here s (.int _)⟩
  · exact h.elim
theorem dFdiv_ok : OpS K dFdiv (rI CDiv fun i j => .int (i / j)) := fun Wk ρ S H x y dx dy Q s rx ry h => by
  unfold dFdiv at h
  split at h
  · cases rx; cases ry
    obtain ⟨hc, h⟩ := guardR_post h
    exact ⟨_, _, rfl, rfl, hc, h.here s (.int _)⟩
  · exact h.elim
theorem dPow_ok : OpS K dPow (rI CPow fun i j => .int (i ^ j.toNat)) := fun Wk ρ S H x y dx dy Q s rx ry h => by
  unfold dPow at h
  split at h
  · cases rx; cases ry
    obtain ⟨hc, h⟩ := guardR_post h
    exact ⟨_, _, rfl, rfl, hc, h.here s (.int _)⟩
  · exact h.elim
noncomputable def dDat (c f : PyData → PyData → Bool) : D → D → Sto → R D := fun x y S => match toPy x S, toPy y S with
  | some p, some q => if c p q = true then .ok (.bl (f p q)) S else .bad
  | _, _ => .bad
noncomputable def notNone : PyData → Bool
  | .none => false
  | _ => true
noncomputable def plainB (p q : PyData) : Bool := p.plain && q.plain && decide (p.depth ≤ 64)
noncomputable def alikeB (p q : PyData) : Bool := PySem.W.alike p q && notNone p && decide (p.depth ≤ 64)
noncomputable def inB (p q : PyData) : Bool := p.plain && decide (p.depth ≤ 64) && match q with
  | .list xs => PyData.plainAll xs
  | .tuple xs => PyData.plainAll xs
  | _ => false
noncomputable abbrev dEq := dDat plainB PyData.eqv
noncomputable abbrev dNe := dDat plainB fun p q => !PyData.eqv p q
noncomputable abbrev dLt := dDat alikeB fun p q => PySem.W.dataLt p q
noncomputable abbrev dGt := dDat alikeB fun p q => PySem.W.dataLt q p
noncomputable abbrev dLe := dDat alikeB fun p q => !PySem.W.dataLt q p
noncomputable abbrev dGe := dDat alikeB fun p q => !PySem.W.dataLt p q
theorem dDat_ok {X : Cx} {C : PyData → PyData → Prop} {c f : PyData → PyData → Bool} (hc : ∀ p q, c p q = true → C p q) : OpS X.K (dDat c f) (rDat X C f) := fun Wk ρ S H x y dx dy Q s rx ry h => by
  unfold dDat at h
  split at h
  · rename_i p q h1 h2
    split at h
    · exact ⟨p, q, rdP_of s rx h1, rdP_of s ry h2, hc _ _ (by assumption), h.here s (.bl _)⟩
    · exact h.elim
  · exact h.elim
theorem plainB_C (p q : PyData) (h : plainB p q = true) : PlainC p q := by
  simp only [plainB, Bool.and_eq_true, decide_eq_true_eq] at h
  exact ⟨h.1.1, h.1.2, h.2⟩
theorem alikeB_C (p q : PyData) (h : alikeB p q = true) : AlikeC p q := by
  simp only [alikeB, Bool.and_eq_true, decide_eq_true_eq] at h
  exact ⟨h.1.1, by rintro rfl; simp [notNone] at h, h.2⟩
theorem inB_C (p q : PyData) (h : inB p q = true) : InC p q := by
  simp only [inB, Bool.and_eq_true, decide_eq_true_eq] at h
  refine ⟨h.1.1, h.1.2, ?_⟩
  cases q with
  | list xs => exact .inl ⟨xs, rfl, h.2⟩
  | tuple xs => exact .inr ⟨xs, rfl, h.2⟩
  | _ => exact absurd h.2 (by simp)
noncomputable def isNon : D → Option Bool
  | .non => some true
  | .ob _ => none
  | .fn _ => none
  | _ => some false
noncomputable def dIsN (neg : Bool) : D → D → Sto → R D := fun x y S => match y with
  | .non => ofO ((isNon x).map fun b => .bl (if neg then !b else b)) S
  | _ => .bad
theorem isNon_of {ρ : Pl} {H : Hp} {v : V} {d : D} {b : Bool} (r : VR K ρ H v d) (h : isNon d = some b) : decide (v = .non) = b := by
  cases r <;> simp only [isNon, Option.some.injEq] at h <;> first | (subst h; rfl) | (subst h; exact decide_eq_false (fun q => nomatch q)) | cases h
theorem dIs_ok : OpS K (dIsN false) (fun x y H Q => y = .non ∧ Q (.bl (decide (x = .non))) H) := fun Wk ρ S H x y dx dy Q s rx ry h => by
  unfold dIsN at h
  split at h
  · cases ry
    obtain ⟨z, e, p⟩ := ofO_post h
    simp only [Option.map_eq_some_iff] at e
    obtain ⟨b, e1, rfl⟩ := e
    refine ⟨rfl, ?_⟩
    rw [isNon_of rx e1]
    exact p.here s (.bl _)
  · exact h.elim
theorem dIsNot_ok : OpS K (dIsN true) (fun x y H Q => y = .non ∧ Q (.bl (!decide (x = .non))) H) := fun Wk ρ S H x y dx dy Q s rx ry h => by
  unfold dIsN at h
  split at h
  · cases ry
    obtain ⟨z, e, p⟩ := ofO_post h
    simp only [Option.map_eq_some_iff] at e
    obtain ⟨b, e1, rfl⟩ := e
    refine ⟨rfl, ?_⟩
    rw [isNon_of rx e1]
    exact p.here s (.bl _)
  · exact h.elim
noncomputable def seqR : D → Sto → Option (List D)
  | .tup ds, _ => some ds
  | .ktup ds, _ => some ds
  | d, S => listR d S
noncomputable def dIx : D → D → Sto → R D
  | .str x, .int i, S => guardR (x.length ≤ sizeLine) (ofO ((atI x.cps.toList i).map fun c => .str ⟨#[c]⟩) S)
  | d, .int i, S => match seqR d S with
    | some ds => ofO (atI ds i) S
    | none => .bad
  | _, _, _ => .bad
theorem atI_of {ρ : Pl} {H : Hp} {vs : List V} {ds : List D} {i : Int} {d : D} (h : VRs K ρ H vs ds) (e : atI ds i = some d) : ∃ v, atI vs i = some v ∧ VR K ρ H v d := by
  unfold atI at e ⊢
  rw [h.length]
  cases q : ixN ds.length i with
  | none => rw [q] at e; cases e
  | some j => rw [q] at e; exact h.get e
theorem seqR_of {ρ : Pl} {H : Hp} {S : Sto} {v : V} {d : D} {ds : List D} (s : SR K ρ S H) (r : VR K ρ H v d) (h : seqR d S = some ds) : ∃ a xs, v = .ref a ∧ (SqL K H a xs ∨ SqT K H a xs) ∧ VRs K ρ H xs ds := by
  cases d with
  | tup es =>
    simp only [seqR, Option.some.injEq] at h
    subst h
    obtain ⟨a, xs, e, h1, h2⟩ := tup_of r
    exact ⟨a, xs, e, .inr h1, h2⟩
  | ktup es =>
    simp only [seqR, Option.some.injEq] at h
    subst h
    obtain ⟨a, xs, e, h1, h2⟩ := ktup_of r
    exact ⟨a, xs, e, .inr h1, h2⟩
  | _ =>
    obtain ⟨a, xs, e, h1, h2⟩ := listR_of s r h
    exact ⟨a, xs, e, .inl h1, h2⟩
theorem dIx_ok : OpS K dIx (rIx K) := fun Wk ρ S H x y dx dy Q s rx ry h => by
  unfold dIx at h
  split at h
  · cases rx; cases ry
    obtain ⟨hz, h⟩ := guardR_post h
    obtain ⟨z, e, p⟩ := ofO_post h
    simp only [Option.map_eq_some_iff] at e
    obtain ⟨c, e1, rfl⟩ := e
    exact .inr (.inr ⟨_, _, c, rfl, rfl, hz, e1, p.here s (.str _)⟩)
  · cases ry
    split at h
    · rename_i ds e
      obtain ⟨z, e1, p⟩ := ofO_post h
      obtain ⟨a, xs, rfl, h1, h2⟩ := seqR_of s rx e
      obtain ⟨v, k1, k2⟩ := atI_of h2 e1
      rcases h1 with h1 | h1
      · exact .inl ⟨a, xs, _, v, rfl, rfl, h1, k1, p.here s k2⟩
      · exact .inr (.inl ⟨a, xs, _, v, rfl, rfl, h1, k1, p.here s k2⟩)
    · exact h.elim
  · exact h.elim
noncomputable def cutD (ds : List D) (lo hi : Option Int) : List D := (ds.drop (HT.sIx ds.length 0 lo)).take (HT.sIx ds.length ds.length hi - HT.sIx ds.length 0 lo)
theorem VRs.cut {ρ : Pl} {H : Hp} {vs : List V} {ds : List D} (h : VRs K ρ H vs ds) (lo hi : Option Int) : VRs K ρ H (cutV vs lo hi) (cutD ds lo hi) := by
  unfold cutV cutD
  rw [h.length]
  exact (h.drop _).take _
noncomputable def dSl (d : D) (lo hi : Option Int) (S : Sto) : R D := match d with
  | .tup ds => .ok (.tup (cutD ds lo hi)) S
  | .str x => guardR (x.length ≤ sizeLine) (.ok (.str (cutS x lo hi)) S)
  | d => match listR d S with
    | some ds => .ok (.lst (cutD ds lo hi)) S
    | none => .bad
end

section
variable {X : Cx} {W : WX} {e a b : Expr} {m ma mb : ME} {pos p2 : Pos}
end
end Z

namespace Z
open PySem L2

noncomputable def mPart : Option ME → Tau → Sto → R (Option Int)
  | none, _, S => .ok none S
  | some m, τ, S => (m τ S).bind fun d S1 => match d with
    | .int i => .ok (some i) S1
    | _ => .bad
noncomputable abbrev relO : Pl → Hp → Option Int → Option Int → Prop := fun _ _ b b' => b = b'
noncomputable def Om (K : PySem.W.Frag) (W : WX) (m : Option ME) : TO := fun σ H Q => ∃ ρ τ S, SR K ρ S H ∧ ER K ρ H τ σ ∧ Post K (fun c d H' => W c d σ H') ρ H (mPart m τ S) relO Q
noncomputable def mSl (m : ME) (lo hi : Option ME) : ME := fun τ S => (m τ S).bind fun d S1 => (mPart lo τ S1).bind fun l S2 => (mPart hi τ S2).bind fun h S3 => dSl d l h S3
section
variable {X : Cx} {W : WX} {e a b : Expr} {m ma mb : ME} {pos p2 : Pos}
theorem PO_imp {X : Cx} {e : Option Expr} {t t' : TO} (h : PO X e t) (k : ∀ σ H Q, t' σ H Q → t σ H Q) : PO X e t' := ⟨fun pins s σ H Q I w => h.run pins s σ H Q I (k σ H Q w)⟩
theorem o_none : PO X none (Om X.K W none) := PO_imp po_none fun σ H Q ⟨ρ, τ, S, s, r, p⟩ => p.here s rfl
theorem o_some (he : PE X e (Em X.K W m)) : PO X (some e) (Om X.K W (some m)) := PO_imp (po_some he) fun σ H Q ⟨ρ, τ, S, s, r, p⟩ => by
  refine Em_bind s r p fun ρ1 H1 S1 v d s1 r1 e1 v1 p1 => ?_
  split at p1
  · cases v1
    exact ⟨_, rfl, p1.here s1 rfl⟩
  · exact p1.elim
noncomputable def rSlN (K : PySem.W.Frag) : V → Option Int → Option Int → Hp → VK → Prop := fun x lo hi H Q => ∃ a xs, x = .ref a ∧ SqT K H a xs ∧
  (HT.sIx xs.length 0 lo = 0 ∧ HT.sIx xs.length xs.length hi = xs.length → Q (.ref a) H) ∧ (¬ (HT.sIx xs.length 0 lo = 0 ∧ HT.sIx xs.length xs.length hi = xs.length) → NewT Q H (cutV xs lo hi))
theorem sl_tupN : SlR X (rSlN X.K) := by
  intro pins s σ H x v vl vu lo hi sl Q I rx hs pl pu h
  obtain ⟨a, xs, rfl, hx, q1, q2⟩ := h
  by_cases hw : HT.sIx xs.length 0 lo = 0 ∧ HT.sIx xs.length xs.length hi = xs.length
  · exact sl_tupA pins s σ H _ v vl vu lo hi sl Q I rx hs pl pu ⟨a, xs, rfl, hx, q1, fun z => absurd hw z⟩
  · cases rx
    obtain ⟨its, r, ht, hz⟩ := I.tuple hx
    have hlen : its.toArray.size = xs.length := by rw [List.size_toArray]; exact r.length.symm
    obtain ⟨b, q⟩ := q2 hw
    refine ⟨"tuple", _, PyProof.Rows.slot_tuple_getitem.lookup, ht.typeIs, ?_⟩
    refine HT.getItem_tuple_cut ht hs pl pu (by rw [hlen]; exact hw) ?_ (by rw [hlen]; exact hz)
    rw [hlen]
    refine ⟨.ref s.heap.objs.size, _, I.laid (t' := s.toks) (o := tupHO b { cls := .type "tuple", data := .seq ((its.drop (HT.sIx xs.length 0 lo)).take (HT.sIx xs.length xs.length hi - HT.sIx xs.length 0 lo)).toArray } (cutV xs lo hi)) (fun b ob q => Heap.get?_push_of_some _ q) (Nat.le_refl _) ?_, rfl, q _ _ (I.hok.fresh (Nat.le_refl _)) rfl⟩
    exact objOk_tup (Nat.le_trans (cutV_length xs lo hi) hz) ((r.drop (HT.sIx xs.length 0 lo)).take (HT.sIx xs.length xs.length hi - HT.sIx xs.length 0 lo)) (Heap.get?_push_size _ rfl) rfl rfl
noncomputable def rSl (K : PySem.W.Frag) : V → Option Int → Option Int → Hp → VK → Prop := fun x lo hi H Q => rSlN K x lo hi H Q ∨ rSlL K x lo hi H Q ∨ rSlS x lo hi H Q
theorem dSl_ok {K : PySem.W.Frag} {Wk : XK} {ρ : Pl} {S : Sto} {H : Hp} {x : V} {d : D} {lo hi : Option Int} {Q : VK} (s : SR K ρ S H) (r : VR K ρ H x d) (h : Post K Wk ρ H (dSl d lo hi S) (VR K) Q) : rSl K x lo hi H Q := by
  unfold dSl at h
  split at h
  · rename_i ds
    obtain ⟨a, xs, rfl, h1, h2⟩ := tup_of r
    refine .inl ⟨a, xs, rfl, h1, fun w => ?_, fun _ => h.newTupB s (h2.cut lo hi)⟩
    have e : cutD ds lo hi = ds := by
      unfold cutD
      rw [h2.length] at w
      rw [w.1, w.2]; simp
    rw [e] at h
    exact h.here s r
  · cases r
    obtain ⟨hz, h⟩ := guardR_post h
    exact .inr (.inr ⟨_, rfl, hz, h.here s (.str _)⟩)
  · split at h
    · rename_i ds e
      obtain ⟨a, xs, rfl, h1, h2⟩ := listR_of s r e
      exact .inr (.inl ⟨a, xs, rfl, h1, h.newLst s (h2.cut lo hi)⟩)
    · exact h.elim
theorem z_sl {lo hi : Option Expr} {ml mh : Option ME} (he : PE X e (Em X.K W m)) (hl : PO X lo (Om X.K W ml)) (hh : PO X hi (Om X.K W mh)) : PE X (.Subscript e (.Slice lo hi none p2) pos) (Em X.K W (mSl m ml mh)) :=
  PE_imp (pe_slice (r := rSl X.K) (sl_tupN.or (sl_list.or sl_str)) he hl hh) fun σ H Q ⟨ρ, τ, S, s, r, p⟩ => by
    refine Em_bind s r p fun ρ1 H1 S1 v d s1 r1 e1 v1 p1 => ?_
    refine ⟨ρ1, τ, S1, s1, r1, Post.bind p1 fun ρ2 H2 S2 l l' e2 s2 q2 p2 => ?_⟩
    have q2' : l = l' := q2
    subst q2'
    refine ⟨ρ2, τ, S2, s2, r1.mono e2, Post.bind p2 fun ρ3 H3 S3 u u' e3 s3 q3 p3 => ?_⟩
    have q3' : u = u' := q3
    subst q3'
    exact dSl_ok s3 ((v1.mono e2).mono e3) p3
end

noncomputable def dLen : List D → Sto → R D
  | [.str x], S => guardR (x.length ≤ sizeLine) (.ok (.int x.length) S)
  | [d], S => match seqR d S with
    | some ds => .ok (.int ds.length) S
    | none => .bad
  | _, _ => .bad
section
variable {K : PySem.W.Frag}
theorem vrs1 {ρ : Pl} {H : Hp} {vs : List V} {d : D} (h : VRs K ρ H vs [d]) : ∃ v, vs = [v] ∧ VR K ρ H v d := by
  cases h with | cons h1 h2 => cases h2; exact ⟨_, rfl, h1⟩
theorem vrs2 {ρ : Pl} {H : Hp} {vs : List V} {d e : D} (h : VRs K ρ H vs [d, e]) : ∃ v w, vs = [v, w] ∧ VR K ρ H v d ∧ VR K ρ H w e := by
  cases h with | cons h1 h2 => cases h2 with | cons h2 h3 => cases h3; exact ⟨_, _, rfl, h1, h2⟩
theorem dLen_ok : CallS K dLen (fun xs H Q => ∃ x n, xs = [x] ∧ LenV K x H n ∧ Q (.int n) H) := fun Wk ρ S H vs ds Q s r h => by
  unfold dLen at h
  split at h
  · obtain ⟨v, rfl, r1⟩ := vrs1 r
    cases r1
    obtain ⟨hz, h⟩ := guardR_post h
    exact ⟨_, _, rfl, ⟨hz, rfl⟩, h.here s (.int _)⟩
  · obtain ⟨v, rfl, r1⟩ := vrs1 r
    split at h
    · rename_i es e
      obtain ⟨a, xs, rfl, h1, h2⟩ := seqR_of s r1 e
      refine ⟨.ref a, xs.length, rfl, ?_, h.here s (by rw [← h2.length]; exact .int _)⟩
      exact h1.imp (fun h => ⟨xs, h, rfl⟩) fun h => ⟨xs, h, rfl⟩
    · exact h.elim
  · exact h.elim
noncomputable def isaPy : String → PyData → Option Bool := fun T p =>
  if T = "int" then some p.isInt else if T = "bool" then some p.isBool else if T = "str" then some p.isStr else if T = "tuple" then some p.isTuple else if T = "list" then some p.isList else if T = "dict" then some p.isDict else none
noncomputable def dIsa : List D → Sto → R D
  | [d, .ob (.ty T)], S => match toPy d S with
    | some p => ofO ((isaPy T p).map .bl) S
    | none => .bad
  | _, _ => .bad
noncomputable def rIsaP (X : Cx) : List V → Hp → VK → Prop := fun vs H Q => ∃ x T p b, vs = [x, .ty T] ∧ RdP X H x p ∧ isaPy T p = some b ∧ Q (.bl b) H
theorem call_isaP {X : Cx} : CallR X (.builtin "isinstance") (rIsaP X) := by
  intro pins st σ H xs us Q I r ⟨x, T, p, b, e, hp, hb, h⟩
  subst e
  obtain ⟨u, w, rfl, r1, r2⟩ := vals2 r
  have r2' : w = .type T := r2
  subst r2'
  obtain ⟨as, hr⟩ := hp pins σ st u I r1
  have fin : ∀ tk, EP X pins σ Q (.bool b) { st with toks := tk } := fun tk => ⟨.bl b, H, I.tok tk, rfl, h⟩
  unfold isaPy at hb
  split at hb
  · rename_i e; subst e; cases hb; exact PySem.W.isinstance_int_data hr fun tk _ => fin tk
  · split at hb
    · rename_i e; subst e; cases hb; exact PySem.W.isinstance_bool_data hr fun tk _ => fin tk
    · split at hb
      · rename_i e; subst e; cases hb; exact PySem.W.isinstance_str_data hr fun tk _ => fin tk
      · split at hb
        · rename_i e; subst e; cases hb; exact PySem.W.isinstance_tuple_data hr fun tk _ => fin tk
        · split at hb
          · rename_i e; subst e; cases hb; exact PySem.W.isinstance_list_data hr fun tk _ => fin tk
          · split at hb
            · rename_i e; subst e; cases hb; exact PySem.W.isinstance_dict_data hr fun tk _ => fin tk
            · cases hb
theorem dIsa_ok {X : Cx} : CallS X.K dIsa (rIsaP X) := fun Wk ρ S H vs ds Q s r h => by
  unfold dIsa at h
  split at h
  · obtain ⟨v, w, rfl, r1, r2⟩ := vrs2 r
    cases r2
    split at h
    · rename_i p e
      obtain ⟨z, e1, p1⟩ := ofO_post h
      simp only [Option.map_eq_some_iff] at e1
      obtain ⟨b, e2, rfl⟩ := e1
      exact ⟨v, _, p, b, rfl, rdP_of s r1 e, e2, p1.here s (.bl _)⟩
    · exact h.elim
  · exact h.elim
noncomputable def boolsOf : List D → Option (List Bool)
  | [] => some []
  | .bl b :: ds => (boolsOf ds).map (b :: ·)
  | _ => none
noncomputable def dAll : List D → Sto → R D
  | [d], S => match listR d S with
    | some ds => ofO ((boolsOf ds).map fun bs => .bl (bs.all id)) S
    | none => .bad
  | _, _ => .bad
theorem bools_of {ρ : Pl} {H : Hp} : ∀ {vs : List V} {ds : List D} {bs : List Bool}, VRs K ρ H vs ds → boolsOf ds = some bs → vs = bs.map V.bl
  | _, _, bs, .nil, h => by simp [boolsOf] at h; subst h; rfl
  | _, _, bs, .cons r rs, h => by
    cases r with
    | bl b =>
      simp only [boolsOf, Option.map_eq_some_iff] at h
      obtain ⟨cs, h1, rfl⟩ := h
      rw [bools_of rs h1]; rfl
    | _ => simp [boolsOf] at h
theorem dAll_ok : CallS K dAll (rAll K) := fun Wk ρ S H vs ds Q s r h => by
  unfold dAll at h
  split at h
  · obtain ⟨v, rfl, r1⟩ := vrs1 r
    split at h
    · rename_i es e
      obtain ⟨z, e1, p1⟩ := ofO_post h
      simp only [Option.map_eq_some_iff] at e1
      obtain ⟨bs, e2, rfl⟩ := e1
      obtain ⟨a, xs, rfl, h1, h2⟩ := listR_of s r1 e
      have := bools_of h2 e2
      subst this
      exact ⟨a, bs, rfl, h1, p1.here s (.bl _)⟩
    · exact h.elim
  · exact h.elim
noncomputable def dInt : List D → Sto → R D
  | [.int i], S => .ok (.int i) S
  | [.bl b], S => .ok (.int (if b then 1 else 0)) S
  | _, _ => .bad
theorem dInt_ok : CallS K dInt (fun xs H Q => (∃ i, xs = [.int i] ∧ Q (.int i) H) ∨ ∃ k, xs = [.bl k] ∧ Q (.int (if k then 1 else 0)) H) := fun Wk ρ S H vs ds Q s r h => by
  unfold dInt at h
  split at h
  · obtain ⟨v, rfl, r1⟩ := vrs1 r
    cases r1
    exact .inl ⟨_, rfl, h.here s (.int _)⟩
  · obtain ⟨v, rfl, r1⟩ := vrs1 r
    cases r1
    exact .inr ⟨_, rfl, h.here s (.int _)⟩
  · exact h.elim
noncomputable def dMax2 : List D → Sto → R D
  | [.int i, .int j], S => .ok (.int (if j > i then j else i)) S
  | _, _ => .bad
noncomputable def dMin2 : List D → Sto → R D
  | [.int i, .int j], S => .ok (.int (if j < i then j else i)) S
  | _, _ => .bad
theorem dMax2_ok : CallS K dMax2 (fun xs H Q => ∃ i j, xs = [.int i, .int j] ∧ Q (.int (if j > i then j else i)) H) := fun Wk ρ S H vs ds Q s r h => by
  unfold dMax2 at h
  split at h
  · obtain ⟨v, w, rfl, r1, r2⟩ := vrs2 r
    cases r1; cases r2
    exact ⟨_, _, rfl, h.here s (.int _)⟩
  · exact h.elim
theorem dMin2_ok : CallS K dMin2 (fun xs H Q => ∃ i j, xs = [.int i, .int j] ∧ Q (.int (if j < i then j else i)) H) := fun Wk ρ S H vs ds Q s r h => by
  unfold dMin2 at h
  split at h
  · obtain ⟨v, w, rfl, r1, r2⟩ := vrs2 r
    cases r1; cases r2
    exact ⟨_, _, rfl, h.here s (.int _)⟩
  · exact h.elim
noncomputable def dDivmod : List D → Sto → R D
  | [.int i, .int j], S => guardR (0 < j ∧ j < 1073741824) (.ok (.tup [.int (i / j), .int (i % j)]) S)
  | _, _ => .bad
theorem dDivmod_ok : CallS K dDivmod (fun xs H Q => ∃ i j, xs = [.int i, .int j] ∧ CDiv i j ∧ ∀ p, H p = none → Q (.ref p) (upd H p (.tup [.int (i / j), .int (i % j)]))) := fun Wk ρ S H vs ds Q s r h => by
  unfold dDivmod at h
  split at h
  · obtain ⟨v, w, rfl, r1, r2⟩ := vrs2 r
    cases r1; cases r2
    obtain ⟨hc, h⟩ := guardR_post h
    exact ⟨_, _, rfl, hc, h.newTup s (.cons (.int _) (.cons (.int _) .nil))⟩
  · exact h.elim
noncomputable def dTuple : List D → Sto → R D
  | [.tup ds], S => .ok (.tup ds) S
  | [d], S => match listR d S with
    | some ds => .ok (.tup ds) S
    | none => .bad
  | _, _ => .bad
theorem call_tupleN {X : Cx} : CallR X (.type "tuple") (fun xs H Q => ∃ p ys, xs = [.ref p] ∧ ((SqL X.K H p ys ∧ NewT Q H ys) ∨ (SqT X.K H p ys ∧ Q (.ref p) H))) := by
  intro pins s σ H xs us Q I r h
  obtain ⟨p, ys, rfl, h⟩ := h
  rcases h with ⟨hq, b, q⟩ | ⟨hq, q⟩
  · obtain ⟨u, rfl, rx⟩ := vals1 r
    cases rx
    obtain ⟨its, r', pl, hz⟩ := I.list hq
    have hlen := r'.length
    refine call_tuple_list pl.isList (fun h' kp => ?_) (by simp only [List.size_toArray] <;> omega)
    have I1 : Inv X pins σ H { s with heap := h' } := I.kept (t' := s.toks) kp
    have I2 : Inv X pins σ (upd H h'.objs.size (tupHO b { cls := .type "tuple", data := .seq its.toArray } ys)) { s with heap := h'.push { cls := .type "tuple", data := .seq its.toArray } } :=
      I1.laid (t' := s.toks) (fun b o e => Heap.get?_push_of_some _ e) (Nat.le_refl _) (objOk_tup hz r' (Heap.get?_push_size _ rfl) rfl rfl)
    exact ⟨.ref h'.objs.size, _, I2, rfl, q _ _ (I1.hok.fresh (Nat.le_refl _)) rfl⟩
  · exact call_tuple_of pins s σ H _ us Q I r ⟨p, ys, rfl, .inr ⟨hq, q⟩⟩
theorem dTuple_ok : CallS K dTuple (fun xs H Q => ∃ p ys, xs = [.ref p] ∧ ((SqL K H p ys ∧ NewT Q H ys) ∨ (SqT K H p ys ∧ Q (.ref p) H))) := fun Wk ρ S H vs ds Q s r h => by
  unfold dTuple at h
  split at h
  · obtain ⟨v, rfl, r1⟩ := vrs1 r
    obtain ⟨a, xs, rfl, h1, h2⟩ := tup_of r1
    exact ⟨a, xs, rfl, .inr ⟨h1, h.here s r1⟩⟩
  · obtain ⟨v, rfl, r1⟩ := vrs1 r
    split at h
    · rename_i es e
      obtain ⟨a, xs, rfl, h1, h2⟩ := listR_of s r1 e
      exact ⟨a, xs, rfl, .inl ⟨h1, h.newTupB s h2⟩⟩
    · exact h.elim
  · exact h.elim
noncomputable def dList : List D → Sto → R D
  | [d], S => match seqR d S with
    | some ds => .ok (.lst ds) S
    | none => .bad
  | _, _ => .bad
noncomputable def reprOk (p : PyData) : Bool := p.showable && decide (p.depth ≤ 64) && decide (p.shown.length ≤ sizeLine)
noncomputable def dRepr : List D → Sto → R D
  | [d], S => match toPy d S with
    | some p => if (reprOk p && (!p.hasDict || noList d)) = true then .ok (.str p.shown) S else .bad
    | none => .bad
  | _, _ => .bad
noncomputable def rReprP (X : Cx) : List V → Hp → VK → Prop := fun vs H Q => ∃ x p, vs = [x] ∧ ((RdP X H x p ∧ p.hasDict = false) ∨ RdS X H x p) ∧ reprOk p = true ∧ Q (.str p.shown) H
theorem call_reprP {X : Cx} (hu : X.A.units + 100 < cLine) (hg : X.A.guards = some []) : CallR X (.builtin "repr") (rReprP X) := by
  intro pins st σ H xs us Q I r ⟨x, p, e, hp, hk, h⟩
  subst e
  obtain ⟨u, rfl, r1⟩ := vals1 r
  simp only [reprOk, Bool.and_eq_true, decide_eq_true_eq] at hk
  obtain ⟨⟨k1, k2⟩, k3⟩ := hk
  obtain ⟨as, hr, hs⟩ : ∃ as, Reads st.heap u p as ∧ (p.hasDict = true → sysModules ∉ as) := by
    rcases hp with ⟨hp, hd⟩ | hp
    · obtain ⟨as, hr⟩ := hp pins σ st u I r1
      exact ⟨as, hr, fun z => by rw [hd] at z; cases z⟩
    · obtain ⟨as, hr, hs⟩ := hp pins σ st u I r1
      exact ⟨as, hr, fun _ => hs⟩
  have fin : ∀ h' tk, (∀ b o, st.heap.get? b = some o → h'.get? b = some o) → ∀ t, EP X pins σ Q (.str p.shown t) { st with heap := h', toks := tk } := fun h' tk k t => ⟨.str p.shown, H, I.kept k, ⟨t, rfl⟩, h⟩
  cases hr with
  | none => exact P.repr_of_none (fin st.heap _ (fun _ _ e => e) _)
  | bool b => exact P.repr_of_bool (by
      have := fin st.heap (st.toks + 1) (fun _ _ e => e) st.toks
      simpa only [PyData.shown] using this)
  | int i t =>
    simp only [PyData.showable, decide_eq_true_eq] at k1
    exact P.repr_of_int k1 (by
      have := fin st.heap (st.toks + 1) (fun _ _ e => e) st.toks
      simpa only [PyData.shown] using this)
  | str z t =>
    refine P.repr_of_str (by
      have := fin st.heap (st.toks + 1) (fun _ _ e => e) st.toks
      simpa only [PyData.shown] using this) (by simpa only [PyData.shown] using k3)
  | list h1 h2 h3 h4 => exact repr_of_reads' (.list h1 h2 h3 h4) k1 hs hg (by omega) (fun _ _ e => e) (fun h' t tk k => fin h' tk k t) k3
  | tuple h1 h2 h3 h4 => exact repr_of_reads' (.tuple h1 h2 h3 h4) k1 hs hg (by omega) (fun _ _ e => e) (fun h' t tk k => fin h' tk k t) k3
  | dict h1 h2 h3 h4 h5 => exact repr_of_reads' (.dict h1 h2 h3 h4 h5) k1 hs hg (by omega) (fun _ _ e => e) (fun h' t tk k => fin h' tk k t) k3
theorem dRepr_ok {X : Cx} : CallS X.K dRepr (rReprP X) := fun Wk ρ S H vs ds Q s r h => by
  unfold dRepr at h
  split at h
  · obtain ⟨v, rfl, r1⟩ := vrs1 r
    split at h
    · rename_i p e
      split at h
      · rename_i c
        simp only [Bool.and_eq_true, Bool.or_eq_true, Bool.not_eq_true'] at c
        refine ⟨v, p, rfl, ?_, c.1, h.here s (.str _)⟩
        rcases c.2 with c | c
        · exact .inl ⟨rdP_of s r1 e, c⟩
        · refine .inr (rdS_of r1 ?_ c)
          rename_i d _ _
          cases d with
          | loc l => simp [noList] at c
          | _ => exact e
      · exact h.elim
    · exact h.elim
  · exact h.elim
end
end Z

namespace Z
open PySem L2

noncomputable def isTy (T : String) : D → Sto → Bool
  | .lst _, _ => T == "list"
  | .scr _, _ => T == "list"
  | .str _, _ => T == "str"
  | .dct _ _, _ => T == "dict"
  | .loc l, S => match S[l]? with
    | some (.lst _) => T == "list"
    | some (.dK false _) => T == "dict"
    | some (.dT false _) => T == "dict"
    | _ => false
  | _, _ => false
theorem isTy_of {K : PySem.W.Frag} {ρ : Pl} {H : Hp} {S : Sto} {v : V} {d : D} {T : String} (s : SR K ρ S H) (r : VR K ρ H v d) (h : isTy T d S = true) : tyV K T v H := by
  cases r with
  | lst h1 h2 hs => exact .inl ⟨by simpa [isTy] using h, _, SqL.of h1⟩
  | scr h1 hs =>
    obtain ⟨a, xs, e, k1, k2⟩ := listR_of s (VR.scr h1 hs) rfl
    cases e
    exact .inl ⟨by simpa [isTy] using h, _, k1⟩
  | str x => exact (by simpa [isTy] using h : T = "str")
  | dct h1 h2 hk hs => exact .inr (.inr (.inl ⟨by simpa [isTy] using h, .inl ⟨_, h1⟩⟩))
  | @loc a l hl =>
    simp only [isTy] at h
    split at h
    · rename_i ds e
      obtain ⟨xs, k1, k2⟩ := s.at hl e
      exact .inl ⟨by simpa using h, _, SqL.of k1⟩
    · rename_i kvs e
      obtain ⟨ws, k1, k2⟩ := s.at hl e
      exact .inr (.inr (.inl ⟨by simpa using h, .inl ⟨_, k1⟩⟩))
    · rename_i kvs e
      obtain ⟨ws, k1, k2⟩ := s.at hl e
      exact .inr (.inr (.inl ⟨by simpa using h, .inr ⟨_, k1⟩⟩))
    · cases h
  | _ => simp [isTy] at h
noncomputable def MethS (K : PySem.W.Frag) (f : D → List D → Sto → R D) (r : V → List V → Hp → VK → Prop) : Prop := ∀ (Wk : XK) (ρ : Pl) (S : Sto) (H : Hp) (v : V) (d : D) (vs : List V) (ds : List D) (Q : VK), SR K ρ S H → VR K ρ H v d → VRs K ρ H vs ds → Post K Wk ρ H (f d ds S) (VR K) Q → r v vs H Q
noncomputable def mMeth (T : String) (f : D → List D → Sto → R D) (m : ME) (ms : MA) : ME := fun τ S => (m τ S).bind fun o S1 => if isTy T o S1 = true then (ms τ S1).bind fun xs S2 => f o xs S2 else .bad
section
variable {X : Cx} {W : WX} {o e : Expr} {es : List Expr} {m : ME} {ms : MA} {name : Str} {apos cpos : Pos} {T id : String} {r : V → List V → Hp → VK → Prop} {f : D → List D → Sto → R D}
theorem z_meth (pa : PlainAttrs T) (slot : Slot T name id) (hty : typeOf (.builtin id) = pure (.type "method_descriptor")) (hm : MtR X id r) (hs : MethS X.K f r) (ho : PE X o (Em X.K W m)) (ha : PA X (e :: es) (Am X.K W ms))
    (h : PE X (.Call (.Attribute o name apos) (e :: es) [] cpos) (tBM X.K T r (Em X.K W m) (Am X.K W ms))) : PE X (.Call (.Attribute o name apos) (e :: es) [] cpos) (Em X.K W (mMeth T f m ms)) := PE_imp h fun σ H Q ⟨ρ, τ, S, s, er, p⟩ => by
  refine Em_bind s er p fun ρ1 H1 S1 v d s1 r1 e1 v1 p1 => ?_
  split at p1
  · rename_i c
    refine ⟨isTy_of s1 v1 c, Am_bind s1 r1 p1 fun ρ2 H2 S2 vs ds s2 r2 e2 v2 p2 => hs _ ρ2 S2 H2 v d vs ds Q s2 (v1.mono e2) v2 p2⟩
  · exact p1.elim
noncomputable def dAppend : D → List D → Sto → R D
  | .loc l, [y], S => match S[l]? with
    | some (.lst ds) => guardR (ds.length < sizeLine) (.ok .non (S.set l (.lst (ds ++ [y]))))
    | _ => .bad
  | _, _, _ => .bad
theorem setLst {K : PySem.W.Frag} {Wk : XK} {ρ : Pl} {S : Sto} {H : Hp} {l : Nat} {a : Addr} {d : D} {v : V} {xs ys : List V} {es : List D} {Q : VK} (s : SR K ρ S H) (hl : ρ.loc[l]? = some a) (k1 : H a = some (.lst xs)) (rs : VRs K ρ H ys es) (rv : VR K ρ H v d)
    (h : Post K Wk ρ H (.ok d (S.set l (.lst es))) (VR K) Q) : Q v (upd H a (.lst ys)) :=
  h ρ _ v (Ext.set hl (.of k1)) (s.set hl ⟨ys, upd_same, rs.mono (Ext.set hl (.of k1))⟩) (rv.mono (Ext.set hl (.of k1)))
theorem dAppend_ok {K : PySem.W.Frag} : MethS K dAppend rAppend := fun Wk ρ S H v d vs ds Q s r rs h => by
  unfold dAppend at h
  split at h
  · obtain ⟨y, rfl, ry⟩ := vrs1 rs
    split at h
    · rename_i es e
      obtain ⟨hz, h⟩ := guardR_post h
      cases r with
      | @loc a _ hl =>
        obtain ⟨xs, k1, k2⟩ := s.at hl e
        exact ⟨a, xs, y, rfl, rfl, k1, by rw [k2.length]; exact hz, setLst s hl k1 (k2.append (.cons ry .nil)) .non h⟩
    · exact h.elim
  · exact h.elim
theorem z_append (ho : PE X o (Em X.K W m)) (ha : PA X [e] (Am X.K W ms)) (h : PE X (.Call (.Attribute o "append" apos) [e] [] cpos) (tBM X.K "list" rAppend (Em X.K W m) (Am X.K W ms))) :
    PE X (.Call (.Attribute o "append" apos) [e] [] cpos) (Em X.K W (mMeth "list" dAppend m ms)) := z_meth PySem.F.plainAttrs_list PySem.F.slot_list_append PySem.F.type_list_append mt_append dAppend_ok ho ha h
noncomputable def sSub (o i v : ME) : MS := fun τ S => liftS (v τ S) τ fun y S1 => liftS (o τ S1) τ fun a S2 => liftS (i τ S2) τ fun k S3 => match a, k with
  | .loc l, .int n => match S3[l]? with
    | some (.lst ds) => match ixN ds.length n with
      | some j => .nx τ (S3.set l (.lst (ds.set j y)))
      | none => .bad
    | _ => .bad
  | _, _ => .bad
noncomputable def mDct0 : ME := fun _ S => .ok (.dct [] []) S
noncomputable def mDctN : ME := fun _ S => .ok (.loc S.length) (S ++ [.dK false []])
noncomputable def mDctT : ME := fun _ S => .ok (.loc S.length) (S ++ [.dT false []])
variable {pos : Pos}
end

noncomputable def runD (n N : Nat) (b : MS) : List D → Sto → R D := fun ds S => if ds.length = n then (match b (ds.map some ++ List.replicate (N - ds.length) none) S with
  | .rt d S' => .ok d S'
  | .nx _ S' => .ok .non S'
  | .ex _ c fs S' => .ex c fs S'
  | _ => .bad) else .bad
theorem er_start {K : PySem.W.Frag} {ρ : Pl} {H : Hp} {vs : List V} {ds : List D} {N : List Str} (r : VRs K ρ H vs ds) : ER K ρ H (ds.map some ++ List.replicate (N.length - ds.length) none) (L2.start N vs) := by
  unfold L2.start
  refine ⟨by simp [r.length], fun i d h => ?_⟩
  by_cases hi : i < ds.length
  · rw [List.getElem?_append_left (by simpa using hi), List.getElem?_map] at h
    cases q : ds[i]? with
    | none => rw [q] at h; cases h
    | some e =>
      rw [q] at h
      cases h
      obtain ⟨v, h1, h2⟩ := r.get q
      refine ⟨v, ?_, h2⟩
      rw [List.getElem?_append_left (by simp [r.length, hi]), List.getElem?_map, h1]; rfl
  · rw [List.getElem?_append_right (by simpa using hi)] at h
    rw [List.getElem?_replicate] at h
    split at h <;> cases h
section
variable {P : Program} {w : World} {K : PySem.W.Frag} {mg : Str → Option Value} {base : Heap}
noncomputable abbrev bodyCx (P : Program) (w : World) (K : PySem.W.Frag) (mg : Str → Option Value) (base : Heap) (N : List Str) (qual : Str) (st : Stmt) (g : Addr) (cdv : Value) (A : Around) (fs : List Env) (s : Shared) (H : Hp) (E : XK) : Cx := cxOf (L2.CX P w) P w K mg base N qual (defScope st) g cdv A fs s H E
theorem fnG_of {x qual : Str} {st : Stmt} {g : Addr} {fd : FuncData} {N ps : List Str} {k n : Nat} {b : MS} (F : Fun K x qual st g fd) (Sc : FnScope N ps (defScope st)) (hn : ps.length = n)
    (hb : ∀ (cdv : Value) (A : Around) (fs : List Env) (s : Shared) (H : Hp) (E : XK), Room k (bodyCx P w K mg base N qual st g cdv A fs s H E).A → (bodyCx P w K mg base N qual st g cdv A fs s H E).A.guards = some [] →
      PSs (bodyCx P w K mg base N qual st g cdv A fs s H E) (defBody st) (Sm K (fun c d _ H' => E c d H') b)) :
    FnG P w K mg base (k + 1) g fd ps (runD n N.length b) := by
  refine ⟨fun ds S h => ?_, ?_⟩
  · unfold runD at h
    split at h
    · omega
    · exact absurd rfl h
  intro A fs s H ar us vs Q E hr hg e0 hbd hv hsf
  obtain ⟨oc, od, kV, doc, pm, an, cdv, ct, osl, rfl, lk, hcd⟩ := F.ex
  obtain ⟨ρ, S, ds, sr, dv, po⟩ := hsf
  unfold runD at po
  split at po
  case isFalse => exact po.elim
  rename_i hlen
  have hlv : vs.length = ps.length := by rw [dv.length, hn]; exact hlen
  have KX : K.In s.heap := e0.mod.kin.keeps fun b o e => (e0.bs b o e).1
  have lim : s.heap.NoLimit := e0.mod.nolimit.keeps fun b o e => (e0.bs b o e).1
  have hkind : ∀ y ∈ ps.zip us, (defScope st).names.lookup y.1 = some .local ∨ ((defScope st).names.lookup y.1 = some .cell ∧ ((cellsFrom (s.heap.objs.size + 1) (defScope st).names []).lookup y.1).isSome = true) := by
    rintro ⟨nm, u⟩ hy
    rcases Sc.par nm (List.of_mem_zip hy).1 with q | q
    · exact .inl q
    · exact .inr ⟨q, PySem.W.cellsFrom_some _ _ _ (.inl q)⟩
  refine codeAny_call_function hr.depth (KX _ _ lk) rfl Sc.co Sc.gen rfl (PySem.W.codeRec_of KX hcd) (hbd _ _ _ _ ?_)
  refine wpAny_newFunctionEnv_cells Sc.kind hkind ?_
  intro env he s1 ic
  subst he
  refine ⟨lim.keeps ic.toInCall.keep, codeAny_func ?_⟩
  have body := hb cdv A fs s H E (hr.deeper _) hg
  have I := inv_start (CX := L2.CX P w) (E := E) Sc hr.hd e0 hlv hv ic
  refine wpAny_mono (body.run [] s1 (L2.start N vs) H { nx := fun _ H' => Q .non H', rt := Q } I ?_) ?_ fun _ _ z => z
  · refine ⟨ρ, _, S, sr, er_start dv, ?_⟩
    cases q : b (ds.map some ++ List.replicate (N.length - ds.length) none) S with
    | rt d S' => rw [q] at po; exact po
    | nx τ' S' => rw [q] at po; exact fun ρ' σ' H' e' s' _ => po ρ' H' .non e' s' .non
    | ex τ' c fs2 S' => rw [q] at po; exact fun ρ' σ' H' dd e' s' _ x' => po ρ' H' dd e' s' x'
    | bk τ' S' => rw [q] at po; exact po.elim
    | ct τ' S' => rw [q] at po; exact po.elim
    | bad => rw [q] at po; exact po.elim
  · intro fl s' hs
    have fin : ∀ {σ' : St} {H' : Hp} {v : V} {u : Value}, Inv (bodyCx P w K mg base N qual st g cdv A fs s H E) [] σ' H' s' → RelV v u → Q v H' → CE fs P w H s Q u s' :=
      fun {σ' H' v u} J rv q => ⟨v, H', J.os, J.bare, J.base, J.hok, rv, q⟩
    match fl, hs with
    | .ret u, ⟨v, σ', H', J, rv, q⟩ => exact fin J rv q
    | .next, ⟨σ', H', J, q⟩ => exact fin (v := .non) (u := .none) J rfl q
    | .brk, ⟨_, _, _, q⟩ => exact q.elim
    | .cont, ⟨_, _, _, q⟩ => exact q.elim
end

section
open PySem.Spec PyProof.Rows
noncomputable def seeOnly (a : Addr) (o : Option HO) : Hp := fun b => if b = a then o else none
theorem seeOnly_some {a b : Addr} {o : Option HO} {u : HO} (h : seeOnly a o b = some u) : b = a ∧ o = some u := by
  unfold seeOnly at h
  split at h
  · exact ⟨by assumption, h⟩
  · cases h
theorem sr_empty {K : PySem.W.Frag} {H : Hp} : SR K ⟨[], []⟩ [] H := ⟨rfl, List.nodup_nil, fun _ h => absurd h (by simp), fun l c h => absurd h (by simp)⟩
structure Script (P : Program) (w : World) (K : PySem.W.Frag) (h : Heap) (a : Addr) (ns : List Int) (o : Option HO) : Prop where
  ok : HOk P w (seeOnly a o) h
  vr : VR K ⟨[], []⟩ (seeOnly a o) (.ref a) (.scr (ns.map D.int))
  free : o ≠ none → K.lookup a = none
  frz : ∀ u, o = some u → ∃ ob xs, u = .frz ob (.lst xs) ∧ h.get? a = some ob
  seq : ∃ ob its n, h.get? a = some ob ∧ ob.data = .seq its n
theorem script_stands {P : Program} {w : World} {K : PySem.W.Frag} {h : Heap} {a : Addr} {vs : List Value} {ns : List Int} (KX : K.In h) (ha : h.get? a = some { cls := .type "list", data := .seq vs.toArray }) (hi : IntsAre vs ns) (hl : ns.length ≤ sizeLine) : ∃ o, Script P w K h a ns o := by
  have rv := vals_ints hi
  have hlen := hi.length
  cases q : K.lookup a with
  | some ob =>
    have e := KX a ob q
    rw [ha] at e
    cases e
    refine ⟨none, fun b u z => absurd (seeOnly_some z).2 (by simp), .scr (.inr fun H' => .inr ⟨_, vs.toArray, _, q, rfl, rfl, rfl, by rw [List.size_toArray]; omega, rv⟩) (VRs.map_int ns), fun z => absurd rfl z, fun u z => absurd z (by simp), ⟨_, _, _, ha, rfl⟩⟩
  | none =>
    refine ⟨some (.frz { cls := .type "list", data := .seq vs.toArray } (.lst (ns.map V.int))), fun b u z => ?_, .scr (.inl ⟨_, if_pos rfl, fun z => ?_⟩) (VRs.map_int ns), fun _ => q, fun u z => ?_, ⟨_, _, _, ha, rfl⟩⟩
    · obtain ⟨rfl, e⟩ := seeOnly_some z
      cases e
      refine ⟨ha, ?_, vs, _, rv, ha⟩
      rw [List.length_map]; exact hl
    · rcases z with z | z <;> exact nomatch z
    · cases z; exact ⟨_, _, rfl, ha⟩
theorem law_runs {P : Program} {w : World} {K : PySem.W.Frag} {mg mb : Str → Option Value} {k : Nat} {fa a : Addr} {fd : FuncData} {x : Str} {f : List D → Sto → R D} {st : Shared} {vs : List Value} {ns : List Int} {S' : Sto}
    (KX : K.In st.heap) (g1 : st.heap.Ns mainGlobals mg) (g2 : st.heap.Ns builtinsNs mb) (g3 : ∀ y : Str, y ≠ "__name__" → mb y = bootBuiltins y) (g4 : st.heap.NoLimit) (g5 : st.gens = #[])
    (ha : st.heap.get? a = some { cls := .type "list", data := .seq vs.toArray }) (hi : IntsAre vs ns) (hl : ns.length ≤ sizeLine) (hr : Room k callerA)
    (F : ∀ base : Heap, K.In base → base.Ns mainGlobals mg → FnG P w K mg base k fa fd [x] f) (hbd : ∀ (s : Shared) (u : Value), BindsTo s fd ⟨[u], []⟩ [(x, u)])
    (hf : f [.scr (ns.map D.int)] [] = .ok (.bl true) S') :
    codeAny (model P w) callerA (.call (.ref fa) ⟨[.ref a], []⟩) (fun r s' => r = .ok (.ret (.bool true)) ∧ OldK st.heap s'.heap ∧ s'.os = st.os ∧ AllBare s'.gens) st := by
  obtain ⟨o, sc⟩ := script_stands (P := P) (w := w) KX ha hi hl
  have untr : ∀ b ob es ep, st.heap.get? b = some ob → ob.data = .dict es ep → seeOnly a o b = none := fun b ob es ep e d => by
    cases q : seeOnly a o b with
    | none => rfl
    | some u =>
      obtain ⟨rfl, e2⟩ := seeOnly_some q
      obtain ⟨ob2, its, n, e3, e4⟩ := sc.seq
      rw [e] at e3; cases e3
      rw [d] at e4; cases e4
  have ns' : ∀ (b : Addr) (m : Str → Option Value), st.heap.Ns b m → (hidT st.heap (seeOnly a o)).Ns b m := fun b m ⟨ob, es, ep, e, d, r⟩ => ⟨ob, es, ep, hidT_get e (untr b ob es ep e d), d, r⟩
  have KB : K.In (hidT st.heap (seeOnly a o)) := fun b ob e => hidT_get (KX b ob e) (by
    cases q : seeOnly a o b with
    | none => rfl
    | some u =>
      obtain ⟨rfl, e2⟩ := seeOnly_some q
      rw [sc.free (by rw [e2]; exact fun z => nomatch z)] at e; cases e)
  have M : Mod K mg (hidT st.heap (seeOnly a o)) := by
    refine ⟨KB, ns' _ _ g1, ⟨mb, ns' _ _ g2, g3⟩, ?_⟩
    obtain ⟨mc, h1, h2⟩ := g4
    exact ⟨mc, ns' _ _ h1, h2⟩
  have env : Env0 P w K mg (hidT st.heap (seeOnly a o)) callerA [] st (seeOnly a o) := {
    frames := rfl
    mod := M
    bs := fun b ob e => of_hidT e
    bsz := Nat.le_of_eq (hidT_size _ _)
    funs := trivial
    frf := fun b z => absurd (show b ∈ ([] : List Addr) from z) (by simp)
    hok := sc.ok
    bare := .of_eq g5 }
  have go := (F _ KB (ns' _ _ g1)).run callerA [] st (seeOnly a o) ⟨[.ref a], []⟩ [.ref a] [.ref a] (fun v _ => v = .bl true) (fun _ _ _ => False) hr rfl env (hbd st (.ref a)) (.cons rfl .nil)
    ⟨⟨[], []⟩, [], _, sr_empty, .cons sc.vr .nil, by
      rw [hf]
      intro ρ' H' v _ _ r
      cases r; rfl⟩
  refine codeAny_mono go fun res s' h => ?_
  match res, h with
  | .error e, h =>
    obtain ⟨_, _, _, _, _, _, _, _, _, _, _, _, z⟩ := h
    exact z.elim
  | .ok .next, h => exact False.elim h
  | .ok .brk, h => exact False.elim h
  | .ok .cont, h => exact False.elim h
  | .ok (.ret u), ⟨v, H', os, bare, un, hok', rv, q⟩ =>
    have q' : v = .bl true := q
    subst q'
    have hu : u = .bool true := rv
    subst hu
    refine ⟨rfl, OldK.of_keep fun b ob e => ?_, os, bare⟩
    cases q : seeOnly a o b with
    | none => exact un.keep b ob e q (fun z => absurd (show b ∈ ([] : List Addr) from z) (by simp)) (by simp)
    | some u =>
      obtain ⟨rfl, e2⟩ := seeOnly_some q
      obtain ⟨ob2, xs, rfl, e3⟩ := sc.frz u e2
      obtain ⟨k1, _⟩ := hok' b _ (un.frzs b ob2 _ q)
      rw [e] at e3; cases e3
      exact k1
theorem walk_G {l : PySem.W.OpenLaw} {n k : Nat} {q : Program} {loose : List Str} {XP : (Str → Option Value) → Heap → Prop} {YP : World → Heap → Prop} {d : DefRec} {K : Params → PySem.W.Frag} {x : Str}
    (hn : l.most = some n) (hn2 : n ≤ sizeLine) (hdf : d.params.defaults = []) (hr : Room k callerA) (hY : ∀ (w : World) (h : Heap), YP w h → (K w.params).In h)
    (F : ∀ (w : World) (mg : Str → Option Value) (fa : Addr) (h : Heap), (K w.params).In h → h.Ns mainGlobals mg → mg d.name = some (.ref fa) →
      ∃ (fd : FuncData) (f : List D → Sto → R D), (∀ (s : Shared) (u : Value), BindsTo s fd ⟨[u], []⟩ [(x, u)]) ∧ (∀ base : Heap, (K w.params).In base → base.Ns mainGlobals mg → FnG l.prog w (K w.params) mg base k fa fd [x] f) ∧
        ∀ ns : List Int, ns.length ≤ n → ∃ S', f [.scr (ns.map D.int)] [] = .ok (.bl true) S') :
    PySem.W.WalkO q loose XP YP l.row.toRowW d [] (fun f vs => PySem.call f vs) := by
  refine Att.attach_call hn hdf ?_
  intro w s0 s1 mg mb fa o pm cd doc a vs ns G Y ho hd hcd hmg hobj hints hlen hg
  have KX := hY w _ Y
  obtain ⟨fd, f, hb, hF, hL⟩ := F w mg fa _ KX G.T.g hmg
  obtain ⟨S', hS⟩ := hL ns hlen
  exact law_runs KX G.T.g G.T.b G.T.builtins G.T.nolimit hg hobj hints (Nat.le_trans hlen hn2) hr hF hb hS
end
end Z

namespace Z
open PySem L2 PyProof.Rows
theorem un100 {k : Nat} {A : Around} (r : Room k A) : A.units + 100 < cLine := by have := r.un; omega
section
variable {X : Cx} {W : WX} {e a b c o i v : Expr} {es : List Expr} {m ma mb mc mo mi mv : ME} {ms : MA} {pos pos' apos cpos : Pos}
theorem op_addZ : OpR X (binaryOp .Add) (rAddR X.K) := op_add.or (op_add_str.or (op_catN.or op_cat))
theorem op_mulZ : OpR X (binaryOp .Mult) (rMulR X.K) := op_mul.or op_repT
theorem z_add (ha : PE X a (Em X.K W ma)) (hb : PE X b (Em X.K W mb)) : PE X (.BinOp a .Add b pos) (Em X.K W (mBin dAdd ma mb)) := z_bin op_addZ dAdd_ok ha hb
theorem z_sub (ha : PE X a (Em X.K W ma)) (hb : PE X b (Em X.K W mb)) : PE X (.BinOp a .Sub b pos) (Em X.K W (mBin dSub ma mb)) := z_bin op_sub dSub_ok ha hb
theorem z_mul (ha : PE X a (Em X.K W ma)) (hb : PE X b (Em X.K W mb)) : PE X (.BinOp a .Mult b pos) (Em X.K W (mBin dMul ma mb)) := z_bin op_mulZ dMul_ok ha hb
theorem z_mod (ha : PE X a (Em X.K W ma)) (hb : PE X b (Em X.K W mb)) : PE X (.BinOp a .Mod b pos) (Em X.K W (mBin dMod ma mb)) := z_bin op_mod dMod_ok ha hb
theorem z_fdiv (ha : PE X a (Em X.K W ma)) (hb : PE X b (Em X.K W mb)) : PE X (.BinOp a .FloorDiv b pos) (Em X.K W (mBin dFdiv ma mb)) := z_bin op_fdiv dFdiv_ok ha hb
theorem z_pow (ha : PE X a (Em X.K W ma)) (hb : PE X b (Em X.K W mb)) : PE X (.BinOp a .Pow b pos) (Em X.K W (mBin dPow ma mb)) := z_bin op_pow dPow_ok ha hb
structure CmpZ (X : Cx) (op : CmpOp) (f : D → D → Sto → R D) : Prop where
  ex : ∃ r, OpR X (compareOp op) r ∧ OpS X.K f r
theorem c_eq (hu : X.A.units + 100 < cLine) : CmpZ X .Eq dEq := ⟨_, op_eqP hu, dDat_ok plainB_C⟩
theorem c_ne (hu : X.A.units + 100 < cLine) : CmpZ X .NotEq dNe := ⟨_, op_neP hu, dDat_ok plainB_C⟩
theorem c_lt (hu : X.A.units + 100 < cLine) : CmpZ X .Lt dLt := ⟨_, op_ltP hu, dDat_ok alikeB_C⟩
theorem c_gt (hu : X.A.units + 100 < cLine) : CmpZ X .Gt dGt := ⟨_, op_gtP hu, dDat_ok alikeB_C⟩
theorem c_le (hu : X.A.units + 100 < cLine) : CmpZ X .LtE dLe := ⟨_, op_leP hu, dDat_ok alikeB_C⟩
theorem c_ge (hu : X.A.units + 100 < cLine) : CmpZ X .GtE dGe := ⟨_, op_geP hu, dDat_ok alikeB_C⟩
theorem c_is : CmpZ X .Is (dIsN false) := ⟨_, op_isN, dIs_ok⟩
theorem c_isn : CmpZ X .IsNot (dIsN true) := ⟨_, op_notN, dIsNot_ok⟩
theorem e_cmp {op : CmpOp} {f : D → D → Sto → R D} (hc : CmpZ X op f) (ha : PE X a (Em X.K W ma)) (hb : PE X b (Em X.K W mb)) (hm : behindInMarks op b = false := by first | exact nomark _ | rfl) : PE X (.Compare a [op] [b] pos) (Em X.K W (mBin f ma mb)) := by
  obtain ⟨r, h1, h2⟩ := hc
  exact z_cmp h1 h2 ha hb hm
theorem tt_cmp {op : CmpOp} {f : D → D → Sto → R D} (hc : CmpZ X op f) (ha : PE X a (Em X.K W ma)) (hb : PE X b (Em X.K W mb)) (hm : behindInMarks op b = false := by first | exact nomark _ | rfl) : PT X (.Compare a [op] [b] pos) (Tm X.K W (mB (mBin f ma mb))) := by
  obtain ⟨r, h1, h2⟩ := hc
  exact t_cmp h1 h2 ha hb hm
theorem e_chain {op op' : CmpOp} {f g : D → D → Sto → R D} (h1 : CmpZ X op f) (h2 : CmpZ X op' g) (ha : PE X a (Em X.K W ma)) (hb : PE X b (Em X.K W mb)) (hc : PE X c (Em X.K W mc)) (hm : lastMarks [op, op'] [b, c] = false := by with_unfolding_all rfl) :
    PE X (.Compare a [op, op'] [b, c] pos) (Em X.K W (mChain f g ma mb mc)) := by
  obtain ⟨r, k1, k2⟩ := h1
  obtain ⟨r', k3, k4⟩ := h2
  exact z_chain k1 k2 k3 k4 ha hb hc (pe_chain k1 k3 ha hb hc hm)
theorem tt_chain {op op' : CmpOp} {f g : D → D → Sto → R D} (h1 : CmpZ X op f) (h2 : CmpZ X op' g) (ha : PE X a (Em X.K W ma)) (hb : PE X b (Em X.K W mb)) (hc : PE X c (Em X.K W mc)) (hm : lastMarks [op, op'] [b, c] = false := by with_unfolding_all rfl) :
    PT X (.Compare a [op, op'] [b, c] pos) (Tm X.K W (mB (mChain f g ma mb mc))) := by
  obtain ⟨r, k1, k2⟩ := h1
  obtain ⟨r', k3, k4⟩ := h2
  refine PT_imp (pt_chain k1 k3 ha hb hc hm) fun σ H Q ⟨ρ, τ, S, s, e, p⟩ => ?_
  have p' : Post X.K (fun c d H' => W c d σ H') ρ H ((ma τ S).bind fun x S1 => (mb τ S1).bind fun y S2 => (f x y S2).bind fun k S3 => (asB k S3).bind fun k S3 => if k = true then (mc τ S3).bind fun z S4 => (g y z S4).bind asB else .ok false S3) relB Q := by
    have : (mB (mChain f g ma mb mc) τ S) = ((ma τ S).bind fun x S1 => (mb τ S1).bind fun y S2 => (f x y S2).bind fun k S3 => (asB k S3).bind fun k S3 => if k = true then (mc τ S3).bind fun z S4 => (g y z S4).bind asB else .ok false S3) := by
      unfold mB mChain
      cases ma τ S with
      | ok x S1 =>
        simp only [R.bind_ok]
        cases mb τ S1 with
        | ok y S2 =>
          simp only [R.bind_ok]
          cases f x y S2 with
          | ok k S3 =>
            simp only [R.bind_ok]
            cases asB k S3 with
            | ok k2 S4 =>
              simp only [R.bind_ok]
              cases k2 with
              | true =>
                simp only [if_true]
                cases mc τ S4 <;> rfl
              | false => rfl
            | _ => rfl
          | _ => rfl
        | _ => rfl
      | _ => rfl
    rw [← this]; exact p
  refine Em_bind s e p' fun ρ1 H1 S1 v d s1 e1 x1 v1 p1 => ?_
  refine Em_bind s1 e1 p1 fun ρ2 H2 S2 w d2 s2 e2 x2 v2 p2 => ?_
  refine k2 _ ρ2 S2 H2 v w d d2 _ s2 (v1.mono x2) v2 (Post.bind p2 fun ρ3 H3 S3 z dz x3 s3 v3 p3 => ?_)
  cases v3 with
  | bl k =>
    refine ⟨k, rfl, ?_⟩
    cases k with
    | true =>
      simp only [asB, R.bind_ok, if_true] at p3 ⊢
      refine Em_bind s3 (e2.mono x3) p3 fun ρ4 H4 S4 u d4 s4 e4 x4 v4 p4 => k4 _ ρ4 S4 H4 w u d2 d4 _ s4 ((v2.mono x3).mono x4) v4 (Post.bind p4 fun ρ5 H5 S5 z5 dz5 x5 s5 v5 p5 => asB_post s5 v5 p5)
    | false =>
      simp only [asB, R.bind_ok] at p3 ⊢
      rw [if_neg (by decide)] at p3 ⊢
      exact ⟨false, rfl, p3.here s3 rfl⟩
  | _ => exact (show False from p3).elim
theorem z_gint {x : Str} {n : Int} (hm : ∃ t, X.mg x = some (.int n t)) (hg : Gl X x := by rfl) (hd : (x == ("__debug__" : Str)) = false := by decide) : PE X (.Name x pos) (Em X.K W (mC (.int n))) :=
  let ⟨t, h⟩ := hm
  z_glob (v := .int n) h ⟨t, rfl⟩ (fun _ _ => .int n) hg hd
theorem z_ty {x : Str} {T : String} (hm : X.mg x = none) (hv : bootBuiltins x = some (.type T)) (hg : Gl X x := by rfl) (hn : x ≠ "__name__" := by decide) (hd : (x == ("__debug__" : Str)) = false := by decide) : PE X (.Name x pos) (Em X.K W (mC (.ob (.ty T)))) :=
  z_c (pe_bltn (v := .ty T) hg hm hv rfl hn hd) fun _ _ => .ob _
theorem s_set {i : Nat} {x : Str} (hN : X.N.Nodup) (hi : X.N[i]? = some x) (hx : Loc X.env.scope x) (he : PE X e (Em X.K W m)) (hs : swapsWith e (some (.Name x pos')) pos.line X.env = pure false := by rfl) (hf : X.fn x = true ∨ X.env.scope.names.lookup x = some .local := by first | exact .inl rfl | exact .inr rfl | assumption) :
    PS X (.Assign [.Name x pos'] e pos) (Sm X.K W (sAsg i m)) := Z.s_set0 he (ps_set hN hi hx he hs hf)
theorem s_parB {i j l : Nat} {x y z : Str} {px py pz pt : Pos} {kt k2 pt2} (hc : X.calm = true) (hN : X.N.Nodup) (hi : X.N[i]? = some x) (hj : X.N[j]? = some y) (hl : X.N[l]? = some z) (hij : i ≠ j) (hil : i ≠ l) (hjl : j ≠ l)
    (hx : X.env.scope.names.lookup x = some .local) (hy : X.env.scope.names.lookup y = some .local) (hz : X.env.scope.names.lookup z = some .local) (ha : PA X [a, b, c] (Am X.K W ms))
    (hw : swappedStores [.Tuple [.Name x px, .Name y py, .Name z pz] kt pt] (.Tuple [a, b, c] k2 pt2) X.env = pure (some [x, y, z]))
    (hs : swapsWithSole [.Tuple [.Name x px, .Name y py, .Name z pz] kt pt] (.Tuple [a, b, c] k2 pt2) pos.line X.env = pure false := by rfl) :
    PS X (.Assign [.Tuple [.Name x px, .Name y py, .Name z pz] kt pt] (.Tuple [a, b, c] k2 pt2) pos) (Sm X.K W (sPar [i, j, l] ms)) :=
  PS_imp (ps_par3 hc hN hi hj hl hij hil hjl hx hy hz ha hw hs) fun D σ H ⟨ρ, τ, S, s, r, p⟩ =>
    Am_S s r p fun ρ1 H1 S1 vs ds s1 r1 e1 v1 p1 => by
      cases v1 with
      | nil => exact p1.elim
      | cons a1 v2 => cases v2 with
        | nil => exact p1.elim
        | cons a2 v3 => cases v3 with
          | nil => exact p1.elim
          | cons a3 v4 => cases v4 with
            | nil => exact ⟨_, _, _, rfl, PostS.here p1 s1 (((r1.set i a1).set j a2).set l a3)⟩
            | cons a4 v5 => exact p1.elim
theorem z_app (ho : PE X o (Em X.K W m)) (ha : PA X [e] (Am X.K W ms)) (hbase : attributeBase o "append" X.env (eval o X.env) = eval o X.env := by rfl)
    (hfew : ((backTo cpos (starEach [e] X.env)).all (fun x => !x.1) && (backToKw cpos (keywordEach [] X.env)).all (fun x => x.1.isSome) && decide ([e].length + ([] : List Keyword).length + (if ([] : List Keyword).isEmpty then 0 else 1) < 30)) = true := by rfl)
    (hline : (apos.endLine == cpos.line) = true := by rfl) (hs : starEach [e] X.env = (false, eval e X.env) :: starEach [] X.env := by rfl) (hplain : (backTo cpos (starEach [] X.env)).any (·.1) = false := by rfl) :
    PE X (.Call (.Attribute o "append" apos) [e] [] cpos) (Em X.K W (mMeth "list" dAppend m ms)) :=
  z_append ho ha (pe_bm PySem.F.plainAttrs_list PySem.F.slot_list_append PySem.F.type_list_append mt_append ho ha hbase hfew hline hs hplain)
end
noncomputable def stepD {A : Type} (ds : List A) (k : Int) : List A :=
  (List.range (Builtin.Slice.slicePlaces (Builtin.Slice.sliceAdjust none none k ds.length).1 (Builtin.Slice.sliceAdjust none none k ds.length).2 k)).filterMap fun (j : Nat) => ds[((Builtin.Slice.sliceAdjust none none k ds.length).1 + (j : Int) * k).toNat]?
noncomputable def mStep (m : ME) (k : Int) : ME := fun τ S => (m τ S).bind fun d S1 => match d with
  | .tup ds => guardR ((stepD ds k).length ≤ sizeLine) (.ok (.tup (stepD ds k)) S1)
  | _ => .bad
theorem VRs.pick {K : PySem.W.Frag} {ρ : Pl} {H : Hp} {vs : List V} {ds : List D} (h : VRs K ρ H vs ds) (f : Nat → Nat) : ∀ l : List Nat, VRs K ρ H (l.filterMap fun j => vs[f j]?) (l.filterMap fun j => ds[f j]?)
  | [] => .nil
  | j :: l => by
    rw [List.filterMap_cons, List.filterMap_cons]
    cases q : ds[f j]? with
    | none =>
      have : vs[f j]? = none := by
        rw [List.getElem?_eq_none_iff] at q ⊢
        rw [h.length]; exact q
      rw [this]
      exact VRs.pick h f l
    | some d =>
      obtain ⟨v, h1, h2⟩ := h.get q
      rw [h1]
      exact .cons h2 (VRs.pick h f l)
theorem VRs.step {K : PySem.W.Frag} {ρ : Pl} {H : Hp} {vs : List V} {ds : List D} (h : VRs K ρ H vs ds) (k : Int) : VRs K ρ H (stepD vs k) (stepD ds k) := by
  unfold stepD
  rw [h.length]
  exact h.pick _ _
theorem Vals.pick {vs : List V} {us : List Value} (r : Vals vs us) (f : Nat → Nat) : ∀ l : List Nat, Vals (l.filterMap fun j => vs[f j]?) (l.filterMap fun j => us[f j]?)
  | [] => .nil
  | j :: l => by
    rw [List.filterMap_cons, List.filterMap_cons]
    cases q : vs[f j]? with
    | none => rw [r.none_of q]; exact Vals.pick r f l
    | some d =>
      obtain ⟨u, h1, h2⟩ := r.get q
      rw [h1]
      exact .cons h2 (Vals.pick r f l)
theorem Vals.step {vs : List V} {us : List Value} (r : Vals vs us) (k : Int) : Vals (stepD vs k) (stepD us k) := by
  unfold stepD
  rw [r.length]
  exact Vals.pick r _ _
section
variable {X : Cx} {W : WX} {e st : Expr} {m : ME} {pos p3 : Pos}
end
end Z

namespace Z
open PySem L2

noncomputable def Dum {α : Type} (_ : α) : Type := Unit
noncomputable def wpR {A : Type} (o : R A) (Q : A → Sto → Prop) (_u : Dum Q := ()) : Prop := match o with | .ok a S => Q a S | _ => False
@[simp] theorem wpR_ok {A : Type} (a : A) (S : Sto) (Q : A → Sto → Prop) : wpR (.ok a S) Q = Q a S := rfl
@[simp] theorem wpR_bad {A : Type} (Q : A → Sto → Prop) : wpR (.bad) Q = False := rfl
@[simp] theorem wpR_bind {A B : Type} (o : R A) (f : A → Sto → R B) (Q : B → Sto → Prop) : wpR (o.bind f) Q ↔ wpR o fun a S => wpR (f a S) Q := by cases o <;> exact Iff.rfl
@[simp] theorem wpR_guard {A : Type} (c : Prop) [Decidable c] (o : R A) (Q : A → Sto → Prop) : wpR (guardR c o) Q ↔ c ∧ wpR o Q := by
  unfold guardR
  split <;> simp_all [wpR]
@[simp] theorem wpR_ofO {A : Type} (o : Option A) (S : Sto) (Q : A → Sto → Prop) : wpR (ofO o S) Q ↔ ∃ a, o = some a ∧ Q a S := by cases o <;> simp [ofO, wpR]
theorem wpR_imp {A : Type} {o : R A} {Q Q' : A → Sto → Prop} (h : wpR o Q) (k : ∀ a S, Q a S → Q' a S) : wpR o Q' := by
  cases o <;> first | exact k _ _ h | exact h
theorem wpR_get {A : Type} {o : R A} {Q : A → Sto → Prop} (h : wpR o Q) : ∃ a S, o = .ok a S ∧ Q a S := by
  cases o <;> first | exact ⟨_, _, rfl, h⟩ | exact h.elim
noncomputable def wpS (o : RS) (N : Tau → Sto → Prop) (T : D → Sto → Prop) (_u : Dum N := ()) (_v : Dum T := ()) : Prop := match o with | .nx τ S => N τ S | .rt d S => T d S | _ => False
@[simp] theorem wpS_nx (τ : Tau) (S : Sto) (N : Tau → Sto → Prop) (T : D → Sto → Prop) : wpS (.nx τ S) N T = N τ S := rfl
@[simp] theorem wpS_rt (d : D) (S : Sto) (N : Tau → Sto → Prop) (T : D → Sto → Prop) : wpS (.rt d S) N T = T d S := rfl
@[simp] theorem wpS_bad (N : Tau → Sto → Prop) (T : D → Sto → Prop) : wpS .bad N T = False := rfl
@[simp] theorem wpS_lift {A : Type} (o : R A) (τ : Tau) (k : A → Sto → RS) (N : Tau → Sto → Prop) (T : D → Sto → Prop) : wpS (liftS o τ k) N T ↔ wpR o fun a S => wpS (k a S) N T := by cases o <;> exact Iff.rfl
@[simp] theorem wpS_seq (a b : MS) (τ : Tau) (S : Sto) (N : Tau → Sto → Prop) (T : D → Sto → Prop) : wpS (sSeq a b τ S) N T ↔ wpS (a τ S) (fun τ S => wpS (b τ S) N T) T := by
  unfold sSeq
  cases a τ S <;> exact Iff.rfl
@[simp] theorem x_ofO {A : Type} (a : A) (S : Sto) : ofO (some a) S = .ok a S := rfl
section
variable {τ : Tau} {S : Sto} {N : Tau → Sto → Prop} {T : D → Sto → Prop}
@[simp] theorem x_nil : sNil τ S = .nx τ S := rfl
@[simp] theorem x_expr (m : ME) : sExpr m τ S = liftS (m τ S) τ fun _ S1 => .nx τ S1 := rfl
@[simp] theorem x_ret (m : ME) : sRet m τ S = liftS (m τ S) τ fun d S1 => .rt d S1 := rfl
@[simp] theorem x_if (t : MT) (a b : MS) : sIf t a b τ S = liftS (t τ S) τ fun k S1 => if k = true then a τ S1 else b τ S1 := rfl
@[simp] theorem wpS_ite (c : Prop) [Decidable c] (a b : RS) : wpS (if c then a else b) N T ↔ (c → wpS a N T) ∧ (¬c → wpS b N T) := by split <;> simp_all
@[simp] theorem wpR_ite {A : Type} (c : Prop) [Decidable c] (a b : R A) (Q : A → Sto → Prop) : wpR (if c then a else b) Q ↔ (c → wpR a Q) ∧ (¬c → wpR b Q) := by split <;> simp_all
@[simp] theorem x_asg (i : Nat) (m : ME) : sAsg i m τ S = liftS (m τ S) τ fun d S1 => .nx (τ.set i (some d)) S1 := rfl
@[simp] theorem x_bk : sBk τ S = .bk τ S := rfl
@[simp] theorem x_tup (is : List Nat) (m : ME) : sTup is m τ S = liftS (m τ S) τ fun d S1 => match bindT (.tp is) d τ with
  | some τ' => .nx τ' S1
  | none => .bad := rfl
@[simp] theorem x_par (is : List Nat) (ms : MA) : sPar is ms τ S = liftS (ms τ S) τ fun ds S1 => match setAll is ds τ with
  | some τ' => .nx τ' S1
  | none => .bad := rfl
@[simp] theorem x_sub (o i v : ME) : sSub o i v τ S = liftS (v τ S) τ fun y S1 => liftS (o τ S1) τ fun a S2 => liftS (i τ S2) τ fun k S3 => match a, k with
  | .loc l, .int n => match S3[l]? with
    | some (.lst ds) => match ixN ds.length n with
      | some j => .nx τ (S3.set l (.lst (ds.set j y)))
      | none => .bad
    | _ => .bad
  | _, _ => .bad := rfl
@[simp] theorem x_for (it : MI) (g : Tgt) (body : MS) : sFor it g body τ S = liftS (it τ S) τ fun i S1 => forL i.keep g body i.ds τ S1 := rfl
@[simp] theorem x_var (i : Nat) : mVar i τ S = match τ[i]? with | some (some d) => .ok d S | _ => .bad := rfl
@[simp] theorem x_c (d : D) : mC d τ S = .ok d S := rfl
@[simp] theorem x_bin (f : D → D → Sto → R D) (a b : ME) : mBin f a b τ S = (a τ S).bind fun x S1 => (b τ S1).bind fun y S2 => f x y S2 := rfl
@[simp] theorem x_B (m : ME) : mB m τ S = (m τ S).bind asB := rfl
@[simp] theorem x_asB (b : Bool) : asB (.bl b) S = .ok b S := rfl
@[simp] theorem x_T (m : ME) : mT m τ S = (m τ S).bind tru := rfl
@[simp] theorem x_tru (b : Bool) : tru (.bl b) S = .ok b S := rfl
@[simp] theorem x_chain (f g : D → D → Sto → R D) (a b c : ME) : mChain f g a b c τ S = (a τ S).bind fun x S1 => (b τ S1).bind fun y S2 => (f x y S2).bind fun k S3 => (asB k S3).bind fun k S3 =>
    if k = true then (c τ S3).bind fun z S4 => g y z S4 else .ok (.bl false) S3 := rfl
@[simp] theorem x_and (a b : MT) : mAnd a b τ S = (a τ S).bind fun k S1 => if k = true then b τ S1 else .ok false S1 := rfl
@[simp] theorem x_or (a b : MT) : mOr a b τ S = (a τ S).bind fun k S1 => if k = true then .ok true S1 else b τ S1 := rfl
@[simp] theorem x_not (a : MT) : mNot a τ S = (a τ S).bind fun k S1 => .ok (!k) S1 := rfl
@[simp] theorem x_andV (a b : ME) : mAndV a b τ S = (a τ S).bind fun x S1 => (tru x S1).bind fun k S2 => if k = true then b τ S2 else .ok x S2 := rfl
@[simp] theorem x_orV (a b : ME) : mOrV a b τ S = (a τ S).bind fun x S1 => (tru x S1).bind fun k S2 => if k = true then .ok x S2 else b τ S2 := rfl
@[simp] theorem x_notV (a : ME) : mNotV a τ S = (a τ S).bind fun x S1 => (tru x S1).bind fun k S2 => .ok (.bl (!k)) S2 := rfl
@[simp] theorem x_ifV (t : MT) (a b : ME) : mIf t a b τ S = (t τ S).bind fun k S1 => if k = true then a τ S1 else b τ S1 := rfl
@[simp] theorem x_un (f : D → Sto → R D) (a : ME) : mUn f a τ S = (a τ S).bind f := rfl
@[simp] theorem x_aNil : aNil τ S = .ok [] S := rfl
@[simp] theorem x_aCons (a : ME) (r : MA) : aCons a r τ S = (a τ S).bind fun x S1 => (r τ S1).bind fun xs S2 => .ok (x :: xs) S2 := rfl
@[simp] theorem x_mTup (r : MA) : mTup r τ S = (r τ S).bind fun xs S1 => guardR (xs.length ≤ sizeLine) (.ok (.tup xs) S1) := rfl
@[simp] theorem x_mLst (r : MA) : mLst r τ S = (r τ S).bind fun xs S1 => guardR (xs.length ≤ sizeLine) (.ok (.lst xs) S1) := rfl
@[simp] theorem x_mLstN (r : MA) : mLstN r τ S = (r τ S).bind fun xs S1 => guardR (xs.length ≤ sizeLine) (.ok (.loc S1.length) (S1 ++ [.lst xs])) := rfl
@[simp] theorem x_dct0 : mDct0 τ S = .ok (.dct [] []) S := rfl
@[simp] theorem x_call (f : List D → Sto → R D) (r : MA) : mCall f r τ S = (r τ S).bind f := rfl
@[simp] theorem x_meth (T : String) (f : D → List D → Sto → R D) (m : ME) (ms : MA) : mMeth T f m ms τ S = (m τ S).bind fun o S1 => if isTy T o S1 = true then (ms τ S1).bind fun xs S2 => f o xs S2 else .bad := rfl
@[simp] theorem x_seq (m : ME) : iSeq m τ S = (m τ S).bind fun d S1 => ofO (itemsOf d S1) S1 := rfl
@[simp] theorem x_iArgs (f : List D → Sto → Option Items) (ms : MA) : iArgs f ms τ S = (ms τ S).bind fun ds S1 => ofO (f ds S1) S1 := rfl
@[simp] theorem x_step (m : ME) (k : Int) : mStep m k τ S = (m τ S).bind fun d S1 => match d with
  | .tup ds => guardR ((stepD ds k).length ≤ sizeLine) (.ok (.tup (stepD ds k)) S1)
  | _ => .bad := rfl
@[simp] theorem x_sl (m : ME) (lo hi : Option ME) : mSl m lo hi τ S = (m τ S).bind fun d S1 => (mPart lo τ S1).bind fun l S2 => (mPart hi τ S2).bind fun h S3 => dSl d l h S3 := rfl
@[simp] theorem x_part0 : mPart none τ S = .ok none S := rfl
@[simp] theorem x_part1 (m : ME) : mPart (some m) τ S = (m τ S).bind fun d S1 => match d with
    | .int i => .ok (some i) S1
    | _ => .bad := rfl
@[simp] theorem x_slT (ds : List D) (lo hi : Option Int) : dSl (.tup ds) lo hi S = .ok (.tup (cutD ds lo hi)) S := rfl
@[simp] theorem x_slS (ds : List D) (lo hi : Option Int) : dSl (.scr ds) lo hi S = .ok (.lst (cutD ds lo hi)) S := rfl
@[simp] theorem x_slL (ds : List D) (lo hi : Option Int) : dSl (.lst ds) lo hi S = .ok (.lst (cutD ds lo hi)) S := rfl
@[simp] theorem x_comp (it : MI) (g : Tgt) (vs : List Nat) (t : MT) (e : ME) : mComp it g vs t e τ S = (it τ S).bind fun i S1 => guardR (i.ds.length ≤ sizeLine) ((lcL i.keep g vs t e i.ds τ S1).bind fun ys S2 => .ok (.lst ys) S2) := rfl
@[simp] theorem x_run (n m : Nat) (b : MS) (ds : List D) (Q : D → Sto → Prop) : wpR (runD n m b ds S) Q ↔ ds.length = n ∧ wpS (b (ds.map some ++ List.replicate (m - ds.length) none) S) (fun _ S => Q .non S) Q := by
  unfold runD
  split
  · rename_i h
    simp only [h, true_and]
    cases b (List.map some ds ++ List.replicate (m - n) none) S <;> exact Iff.rfl
  · rename_i h
    simp [h]
@[simp] theorem x_addI (i j : Int) : dAdd (.int i) (.int j) S = .ok (.int (i + j)) S := rfl
@[simp] theorem x_addT (xs ys : List D) : dAdd (.tup xs) (.tup ys) S = guardR (xs.length + ys.length ≤ sizeLine) (.ok (.tup (xs ++ ys)) S) := rfl
@[simp] theorem x_addL (xs ys : List D) : dAdd (.lst xs) (.lst ys) S = guardR (xs.length + ys.length ≤ sizeLine) (.ok (.lst (xs ++ ys)) S) := rfl
@[simp] theorem x_addS (x y : Str) : dAdd (.str x) (.str y) S = guardR (x.length + y.length ≤ sizeLine) (.ok (.str (x ++ y)) S) := rfl
@[simp] theorem x_subI (i j : Int) : dSub (.int i) (.int j) S = .ok (.int (i - j)) S := rfl
@[simp] theorem x_mulI (i j : Int) : dMul (.int i) (.int j) S = guardR ((-(2 ^ 64) < i ∧ i < 2 ^ 64) ∨ (-(2 ^ 64) < j ∧ j < 2 ^ 64)) (.ok (.int (i * j)) S) := rfl
@[simp] theorem x_mulT (xs : List D) (k : Int) : dMul (.tup xs) (.int k) S = guardR ((xs.isEmpty = false ∧ 2 ≤ k ∧ k ≤ 1000 ∧ xs.length ≤ 1000) ∧ rolly xs = false) (.ok (.tup (List.replicate k.toNat xs).flatten) S) := rfl
@[simp] theorem x_modI (i j : Int) : dMod (.int i) (.int j) S = guardR (0 < j) (.ok (.int (i % j)) S) := rfl
@[simp] theorem x_fdivI (i j : Int) : dFdiv (.int i) (.int j) S = guardR (0 < j ∧ j < 1073741824) (.ok (.int (i / j)) S) := rfl
@[simp] theorem x_powI (i j : Int) : dPow (.int i) (.int j) S = guardR (0 ≤ j ∧ j ≤ 1000000 ∧ i.natAbs < 2 ^ 64) (.ok (.int (i ^ j.toNat)) S) := rfl
@[simp] theorem x_negI (i : Int) : dNeg (.int i) S = .ok (.int (-i)) S := rfl
@[simp] theorem x_lenT (ds : List D) : dLen [.tup ds] S = .ok (.int ds.length) S := rfl
@[simp] theorem x_lenL (ds : List D) : dLen [.lst ds] S = .ok (.int ds.length) S := rfl
@[simp] theorem x_lenC (ds : List D) : dLen [.scr ds] S = .ok (.int ds.length) S := rfl
@[simp] theorem x_listT (ds : List D) : dList [.tup ds] S = .ok (.lst ds) S := rfl
@[simp] theorem x_tupL (ds : List D) : dTuple [.lst ds] S = .ok (.tup ds) S := rfl
@[simp] theorem x_ixT (ds : List D) (i : Int) : dIx (.tup ds) (.int i) S = ofO (atI ds i) S := rfl
@[simp] theorem x_ixL (ds : List D) (i : Int) : dIx (.lst ds) (.int i) S = ofO (atI ds i) S := rfl
@[simp] theorem x_ixC (ds : List D) (i : Int) : dIx (.scr ds) (.int i) S = ofO (atI ds i) S := rfl
@[simp] theorem x_intI (i : Int) : dInt [.int i] S = .ok (.int i) S := rfl
@[simp] theorem x_intB (b : Bool) : dInt [.bl b] S = .ok (.int (if b then 1 else 0)) S := rfl
@[simp] theorem x_max (i j : Int) : dMax2 [.int i, .int j] S = .ok (.int (if j > i then j else i)) S := rfl
@[simp] theorem x_min (i j : Int) : dMin2 [.int i, .int j] S = .ok (.int (if j < i then j else i)) S := rfl
@[simp] theorem x_divmod (i j : Int) : dDivmod [.int i, .int j] S = guardR (0 < j ∧ j < 1073741824) (.ok (.tup [.int (i / j), .int (i % j)]) S) := rfl
@[simp] theorem x_itT (ds : List D) : itemsOf (.tup ds) S = some ⟨ds, []⟩ := rfl
@[simp] theorem x_itL (ds : List D) : itemsOf (.lst ds) S = some ⟨ds, []⟩ := rfl
@[simp] theorem x_itC (ds : List D) : itemsOf (.scr ds) S = some ⟨ds, []⟩ := rfl
@[simp] theorem x_pair {o : Option D} {P : D → Prop} : (∃ a, o = some a ∧ P a) ↔ ∃ a, o = some a ∧ P a := Iff.rfl
@[simp] theorem x_le (i j : Int) : dLe (.int i) (.int j) S = .ok (.bl (decide (i ≤ j))) S := by
  have : (!PySem.W.dataLt (.int j) (.int i)) = decide (i ≤ j) := by
    rw [PySem.W.dataLt_int]; by_cases h : i ≤ j
    · simp [h]
    · simp [h]; omega
  simp [dDat, toPy, toPyD, alikeB, PySem.W.alike, notNone, PyData.depth, this]
@[simp] theorem x_lt (i j : Int) : dLt (.int i) (.int j) S = .ok (.bl (decide (i < j))) S := by
  simp [dDat, toPy, toPyD, alikeB, PySem.W.alike, notNone, PyData.depth, PySem.W.dataLt_int]
@[simp] theorem x_gt (i j : Int) : dGt (.int i) (.int j) S = .ok (.bl (decide (j < i))) S := by
  simp [dDat, toPy, toPyD, alikeB, PySem.W.alike, notNone, PyData.depth, PySem.W.dataLt_int]
@[simp] theorem x_ge (i j : Int) : dGe (.int i) (.int j) S = .ok (.bl (decide (j ≤ i))) S := by
  have : (!PySem.W.dataLt (.int i) (.int j)) = decide (j ≤ i) := by
    rw [PySem.W.dataLt_int]; by_cases h : j ≤ i
    · simp [h]
    · simp [h]; omega
  simp [dDat, toPy, toPyD, alikeB, PySem.W.alike, notNone, PyData.depth, this]
@[simp] theorem x_eq (i j : Int) : dEq (.int i) (.int j) S = .ok (.bl (decide (i = j))) S := by
  simp [dDat, toPy, toPyD, plainB, PyData.plain, PyData.depth, PyData.eqv]
  rfl
@[simp] theorem x_ne (i j : Int) : dNe (.int i) (.int j) S = .ok (.bl (decide (i ≠ j))) S := by
  simp [dDat, toPy, toPyD, plainB, PyData.plain, PyData.depth, PyData.eqv]
  rfl
@[simp] theorem x_neS (x : Str) : dNe (.str x) (.str x) S = .ok (.bl false) S := by
  simp [dDat, toPy, toPyD, plainB, PyData.plain, PyData.depth, PyData.eqv]
@[simp] theorem x_neSS (x y : Str) : dNe (.str x) (.str y) S = .ok (.bl (!(x == y))) S := by
  simp [dDat, toPy, toPyD, plainB, PyData.plain, PyData.depth, PyData.eqv]
end
theorem atI_mem {ds : List D} {i : Int} (h0 : 0 ≤ i) (h : i < ds.length) : ∃ d, atI ds i = some d ∧ d ∈ ds ∧ ds[i.toNat]? = some d := by
  have hn : i.toNat < ds.length := by omega
  refine ⟨ds[i.toNat], ?_, List.getElem_mem hn, List.getElem?_eq_getElem hn⟩
  unfold atI ixN
  rw [if_pos h0, if_pos h]
  exact List.getElem?_eq_getElem hn
theorem cutD_mem {ds : List D} {lo hi : Option Int} {d : D} (h : d ∈ cutD ds lo hi) : d ∈ ds := List.mem_of_mem_drop (List.mem_of_mem_take h)
theorem wpR_noEx {A : Type} (o : R A) (Q : A → Sto → Prop) : wpR (noEx o) Q ↔ wpR o Q := by cases o <;> exact Iff.rfl
theorem for_wp {g : Tgt} {body : MS} {N : Tau → Sto → Prop} {T : D → Sto → Prop} (Inv : List D → Tau → Sto → Prop) (step : ∀ d ds τ S, Inv (d :: ds) τ S → ∃ τ1, bindT g d τ = some τ1 ∧ wpS (body τ1 S) (fun τ2 S2 => Inv ds τ2 S2) T)
    (fin : ∀ τ S, Inv [] τ S → N τ S) : ∀ ds τ S, Inv ds τ S → wpS (forL [] g body ds τ S) N T
  | [], τ, S, h => by
    unfold forL
    rw [keepB_nil, if_pos rfl]
    exact fin τ S h
  | d :: ds, τ, S, h => by
    unfold forL
    rw [keepB_nil, if_pos rfl]
    obtain ⟨τ1, e, w⟩ := step d ds τ S h
    rw [e]
    show wpS (match body τ1 S with | .nx τ2 S2 => forL [] g body ds τ2 S2 | .ct τ2 S2 => forL [] g body ds τ2 S2 | .bk τ2 S2 => .nx τ2 S2 | o => o) N T
    cases q : body τ1 S <;> rw [q] at w
    case nx τ2 S2 => exact for_wp Inv step fin ds τ2 S2 w
    all_goals first | exact False.elim w | exact w
theorem lc_wp {g : Tgt} {vs : List Nat} {t : MT} {e : ME} {τ : Tau} {I : Sto → Prop} {P : D → Prop} : ∀ (ds : List D), (∀ d ∈ ds, ∀ S, I S → ∃ τ1, bindT g d (wipeT τ vs) = some τ1 ∧ wpR (t τ1 S) fun b S1 => (b = true → wpR (e τ1 S1) fun y S2 => I S2 ∧ P y) ∧ (¬b = true → I S1)) →
    ∀ S, I S → wpR (lcL [] g vs t e ds τ S) fun ys S' => I S' ∧ ys.length ≤ ds.length ∧ ∀ y ∈ ys, P y
  | [], _, S, h => by
    unfold lcL
    rw [keepB_nil, if_pos rfl]
    exact ⟨h, by simp, by simp⟩
  | d :: ds, step, S, h => by
    unfold lcL
    rw [keepB_nil, if_pos rfl]
    obtain ⟨τ1, e1, w⟩ := step d (by simp) S h
    have rest := lc_wp (e := e) (t := t) (τ := τ) ds (fun d hd => step d (by simp [hd]))
    rw [e1]
    show wpR ((noEx (t τ1 S)).bind _) _
    rw [wpR_bind, wpR_noEx]
    refine wpR_imp w fun b S1 ⟨h1, h2⟩ => ?_
    cases b with
    | true =>
      rw [if_pos rfl, wpR_bind, wpR_noEx]
      refine wpR_imp (h1 rfl) fun y S2 ⟨h3, h4⟩ => ?_
      rw [wpR_bind]
      refine wpR_imp (rest S2 h3) fun ys S3 ⟨h5, h6, h7⟩ => ⟨h5, by simp; omega, fun z hz => ?_⟩
      rcases List.mem_cons.mp hz with rfl | hz
      · exact h4
      · exact h7 z hz
    | false =>
      rw [if_neg (by simp)]
      refine wpR_imp (rest S1 (h2 (by simp))) fun ys S3 ⟨h5, h6, h7⟩ => ⟨h5, by simp; omega, h7⟩
theorem lc_map {g : Tgt} {vs : List Nat} {e : ME} {τ : Tau} {S : Sto} (f : D → D) : ∀ (ds : List D), (∀ d ∈ ds, ∃ τ1, bindT g d (wipeT τ vs) = some τ1 ∧ e τ1 S = .ok (f d) S) → lcL [] g vs tYesM e ds τ S = .ok (ds.map f) S
  | [], _ => by
    unfold lcL
    rw [keepB_nil, if_pos rfl]
    rfl
  | d :: ds, step => by
    unfold lcL
    rw [keepB_nil, if_pos rfl]
    obtain ⟨τ1, e1, w⟩ := step d (by simp)
    have rest := lc_map f ds (fun d hd => step d (by simp [hd]))
    rw [e1]
    show (noEx (tYesM τ1 S)).bind _ = _
    simp only [tYesM, noEx_ok, R.bind_ok, if_true, w, rest, List.map_cons]

noncomputable def Gd : Nat → D → Bool
  | _, .non => true
  | _, .bl _ => true
  | _, .int i => decide (i.natAbs < 10 ^ 31)
  | _, .str x => decide (x.length ≤ 8) && x.cps.toList.all fun c => decide (c < 16 ^ 8)
  | k + 1, .tup ds => decide (ds.length ≤ 16) && ds.all (Gd k)
  | k + 1, .lst ds => decide (ds.length ≤ 16) && ds.all (Gd k)
  | _, _ => false
noncomputable def Wd : Nat → Nat
  | 0 => 82
  | k + 1 => 16 * (Wd k + 2) + 3
theorem Gd_tup {k : Nat} {ds : List D} (h : ds.length ≤ 16) (h2 : ∀ d ∈ ds, Gd k d = true) : Gd (k + 1) (.tup ds) = true := by
  simp only [Gd, Bool.and_eq_true, decide_eq_true_eq, List.all_eq_true]; exact ⟨h, h2⟩
theorem Gd_lst {k : Nat} {ds : List D} (h : ds.length ≤ 16) (h2 : ∀ d ∈ ds, Gd k d = true) : Gd (k + 1) (.lst ds) = true := by
  simp only [Gd, Bool.and_eq_true, decide_eq_true_eq, List.all_eq_true]; exact ⟨h, h2⟩
theorem Wd_pos : ∀ k, 82 ≤ Wd k
  | 0 => Nat.le_refl _
  | k + 1 => by have := Wd_pos k; unfold Wd; omega
structure PyG (k : Nat) (d : D) (p : PyData) : Prop where
  py : toPyD d = some p
  sh : p.showable = true
  nd : p.hasDict = false
  dp : p.depth ≤ k
  ln : p.shown.length ≤ Wd k
theorem Gd_all {k : Nat} : ∀ {ds : List D}, (∀ d ∈ ds, ∃ p, PyG k d p) → ∃ ps, toPyDs ds = some ps ∧ PyData.showableAll ps = true ∧ PyData.hasDictAll ps = false ∧ PyData.depthAll ps ≤ k ∧ ((PyData.shownAll ps).map (·.length)).sum + 2 * (PyData.shownAll ps).length ≤ ds.length * (Wd k + 2)
  | [], _ => ⟨[], rfl, rfl, rfl, Nat.zero_le _, by simp [PyData.shownAll]⟩
  | d :: ds, h => by
    obtain ⟨p, hp⟩ := h d (by simp)
    obtain ⟨ps, h1, h2, h3, h4, h6⟩ := Gd_all (k := k) (ds := ds) fun d hd => h d (by simp [hd])
    refine ⟨p :: ps, ?_, ?_, ?_, ?_, ?_⟩
    · simp only [toPyDs, hp.py, h1]
    · simp only [PyData.showableAll, hp.sh, h2, Bool.and_self]
    · simp only [PyData.hasDictAll, hp.nd, h3, Bool.or_self]
    · simp only [PyData.depthAll]; have := hp.dp; omega
    · simp only [PyData.shownAll, List.map_cons, List.sum_cons, List.length_cons]
      have := hp.ln
      rw [Nat.add_mul]
      omega
theorem Gd_py : ∀ (k : Nat) (d : D), Gd k d = true → ∃ p, PyG k d p := by
  have atom : ∀ (k : Nat) (d : D) (p : PyData), toPyD d = some p → p.showable = true → p.hasDict = false → p.depth = 0 → p.shown.length ≤ 82 → ∃ p, PyG k d p := fun k d p h1 h2 h3 h4 h6 => ⟨p, h1, h2, h3, by omega, by have := Wd_pos k; omega⟩
  have hInt : ∀ (k : Nat) (i : Int), i.natAbs < 10 ^ 31 → ∃ p, PyG k (.int i) p := fun k i h => by
    refine atom k _ (.int i) rfl ?_ rfl rfl ?_
    · simp only [PyData.showable, decide_eq_true_eq]
      by_cases z : i.natAbs = 0
      · rw [z]; decide
      · rw [Nat.log2_lt z]
        exact Nat.lt_of_lt_of_le h (by decide +kernel)
    · have e := int_text_length_le10 (k := 31) (by decide) h
      have e2 : (PyData.shown (.int i)).length = (toString i).length := ofString_length _
      omega
  have hStr : ∀ (k : Nat) (x : Str), x.length ≤ 8 → x.cps.toList.all (fun c => decide (c < 16 ^ 8)) = true → ∃ p, PyG k (.str x) p := fun k x h h2 => atom k _ (.str x) rfl rfl rfl rfl (by
    have e := StrLaws.reprText_len x (by simpa only [List.all_eq_true, decide_eq_true_eq] using h2)
    have e2 : x.length = x.cps.size := rfl
    show (reprText x).length ≤ 82
    omega)
  intro k
  induction k with
  | zero =>
    intro d h
    cases d with
    | non => exact atom 0 _ .none rfl rfl rfl rfl (by decide)
    | bl b => exact atom 0 _ (.bool b) rfl rfl rfl rfl (by cases b <;> decide)
    | int i => exact hInt 0 i (by simpa only [Gd, decide_eq_true_eq] using h)
    | str x =>
      simp only [Gd, Bool.and_eq_true, decide_eq_true_eq] at h
      exact hStr 0 x h.1 h.2
    | _ => simp [Gd] at h
  | succ k ih =>
    intro d h
    cases d with
    | non => exact atom _ _ .none rfl rfl rfl rfl (by decide)
    | bl b => exact atom _ _ (.bool b) rfl rfl rfl rfl (by cases b <;> decide)
    | int i => exact hInt _ i (by simpa only [Gd, decide_eq_true_eq] using h)
    | str x =>
      simp only [Gd, Bool.and_eq_true, decide_eq_true_eq] at h
      exact hStr _ x h.1 h.2
    | tup ds =>
      simp only [Gd, Bool.and_eq_true, decide_eq_true_eq, List.all_eq_true] at h
      obtain ⟨ps, h1, h2, h3, h4, h6⟩ := Gd_all (k := k) fun d hd => ih d (h.2 d hd)
      refine ⟨.tuple ps, by simp [toPyD, h1], by simpa [PyData.showable] using h2, by simpa [PyData.hasDict] using h3, by simp only [PyData.depth]; omega, ?_⟩
      have e := tupleText_len_le (PyData.shownAll ps)
      have e2 := Nat.mul_le_mul_right (Wd k + 2) h.1
      show (tupleText (PyData.shownAll ps)).length ≤ 16 * (Wd k + 2) + 3
      omega
    | lst ds =>
      simp only [Gd, Bool.and_eq_true, decide_eq_true_eq, List.all_eq_true] at h
      obtain ⟨ps, h1, h2, h3, h4, h6⟩ := Gd_all (k := k) fun d hd => ih d (h.2 d hd)
      refine ⟨.list ps, by simp [toPyD, h1], by simpa [PyData.showable] using h2, by simpa [PyData.hasDict] using h3, by simp only [PyData.depth]; omega, ?_⟩
      have e := listText_len_le (PyData.shownAll ps)
      have e2 := Nat.mul_le_mul_right (Wd k + 2) h.1
      show (listText (PyData.shownAll ps)).length ≤ 16 * (Wd k + 2) + 3
      omega
    | _ => simp [Gd] at h
theorem toPy_of {d : D} {S : Sto} {p : PyData} (h : toPyD d = some p) : toPy d S = some p := by
  cases d <;> first | exact h | simp [toPyD] at h
noncomputable def isTupD : D → Bool
  | .tup _ => true
  | _ => false
noncomputable def isIntD : D → Bool
  | .int _ => true
  | .bl _ => true
  | _ => false
noncomputable def isBlD : D → Bool
  | .bl _ => true
  | _ => false
theorem isa_tup {d : D} {p : PyData} {S : Sto} (h : toPyD d = some p) : dIsa [d, .ob (.ty "tuple")] S = .ok (.bl (isTupD d)) S := by
  show (match toPy d S with | some p => _ | none => _) = _
  rw [toPy_of h]
  cases d <;> simp only [toPyD, Option.some.injEq, Option.map_eq_some_iff, reduceCtorEq] at h <;> first | (subst h; rfl) | (obtain ⟨_, _, rfl⟩ := h; rfl)
theorem isa_int {d : D} {p : PyData} {S : Sto} (h : toPyD d = some p) : dIsa [d, .ob (.ty "int")] S = .ok (.bl (isIntD d)) S := by
  show (match toPy d S with | some p => _ | none => _) = _
  rw [toPy_of h]
  cases d <;> simp only [toPyD, Option.some.injEq, Option.map_eq_some_iff, reduceCtorEq] at h <;> first | (subst h; rfl) | (obtain ⟨_, _, rfl⟩ := h; rfl)
theorem isa_bool {d : D} {p : PyData} {S : Sto} (h : toPyD d = some p) : dIsa [d, .ob (.ty "bool")] S = .ok (.bl (isBlD d)) S := by
  show (match toPy d S with | some p => _ | none => _) = _
  rw [toPy_of h]
  cases d <;> simp only [toPyD, Option.some.injEq, Option.map_eq_some_iff, reduceCtorEq] at h <;> first | (subst h; rfl) | (obtain ⟨_, _, rfl⟩ := h; rfl)

noncomputable def Pen (l : Nat) (S : Sto) : Prop := ∃ a b : Int, S[l]? = some (.lst [.int a, .int b])
theorem Pen.set {l : Nat} {S : Sto} {c d : Int} (h : Pen l S) : Pen l (S.set l (.lst [.int c, .int d])) := by
  obtain ⟨a, b, h⟩ := h
  exact ⟨c, d, List.getElem?_set_self (List.getElem?_eq_some_iff.mp h).1⟩
theorem Pen.push {l : Nat} {S : Sto} {c : C} (h : Pen l S) : Pen l (S ++ [c]) := by
  obtain ⟨a, b, h⟩ := h
  exact ⟨a, b, by rw [List.getElem?_append_left (List.getElem?_eq_some_iff.mp h).1]; exact h⟩
theorem Pen.lt {l : Nat} {S : Sto} (h : Pen l S) : l < S.length := by
  obtain ⟨a, b, h⟩ := h
  exact (List.getElem?_eq_some_iff.mp h).1
structure Fr (l : Nat) (S S' : Sto) : Prop where
  len : S'.length = S.length
  eq : ∀ j, j ≠ l → S'[j]? = S[j]?
theorem Fr.refl (l : Nat) (S : Sto) : Fr l S S := ⟨rfl, fun _ _ => rfl⟩
theorem Fr.trans {l : Nat} {S S' S'' : Sto} (a : Fr l S S') (b : Fr l S' S'') : Fr l S S'' := ⟨b.len.trans a.len, fun j h => (b.eq j h).trans (a.eq j h)⟩
theorem Fr.set (l : Nat) (S : Sto) (c : C) : Fr l S (S.set l c) := ⟨by simp, fun j h => by rw [List.getElem?_set_ne (Ne.symm h)]⟩
theorem x_ixLoc {l : Nat} {S : Sto} {ds : List D} {i : Int} (h : S[l]? = some (.lst ds)) : dIx (.loc l) (.int i) S = ofO (atI ds i) S := by
  simp [dIx, seqR, listR, h]
end Z

namespace Z
open PySem PySem.Spec L2
section
variable {P : Program} {w : World} {A : Around} {E : Value → Shared → Prop} {s : Shared}
noncomputable abbrev newSet (w : World) : Obj := { cls := .type "set", dict := none, data := .set #[] 0 (.fresh 0 0 (!w.params.followText "set-order")) }
noncomputable abbrev afterSet (w : World) (s : Shared) (ns : List Int) (r : Value) (z : Shared) : Prop := r = .none ∧ ∃ h' tk c, z = { s with heap := h', toks := tk } ∧ SetR w h' s.heap.objs.size (fun j => decide (j ∈ ns)) c ∧ c ≤ ns.length ∧ ∀ b o, s.heap.get? b = some o → h'.get? b = some o
theorem set_of_list {l : Addr} {its : Array Value} (ns : List Int) {Q : Value → Shared → Prop} (hh : A.handled = none) (hl : s.heap.IsList l its) (hi : PyProof.Rows.IntsAre its.toList ns) (hb : ns.length + 1 < scanBound)
    (k : ∀ (h' : Heap) (tk c : Nat), SetR w h' s.heap.objs.size (fun j => decide (j ∈ ns)) c → c ≤ ns.length → (∀ b o, s.heap.get? b = some o → h'.get? b = some o) → Q (.ref s.heap.objs.size) { s with heap := h', toks := tk }) :
    wpAny (model P w) A (call (.type "set") [.ref l]) Q E s := by
  have len : its.size = ns.length := (Array.length_toList (xs := its)).symm.trans (PyProof.Rows.IntsAre.length hi)
  have big : (s.heap.push (newSet w)).objs.size = s.heap.objs.size + 1 := Heap.size_push ..
  have mk := F.called_set
  obtain ⟨_, _, mro⟩ := mk.mro
  have g1 := mk.made
  have g2 := mk.sub
  refine wpAny_call (codeAny_of_tree ?_)
  show wpAny _ _ (callAny (.type "set") _) _ _ _
  refine wpAny_pure ⟨Code.quiet_builtin _ (by decide +kernel), codeAny_builtin F.entry_type_call ?_⟩
  rw [Around.under_plain (weight_type_call_type "set" [.ref l] []) rfl]
  have g3 := mk.notType
  have g4 := mk.canCreate
  have g5 := F.typeCall_set_1 (.ref l)
  repeat (any_goals (first | assumption | wp_step))
  refine codeAny_mono (code_set_led1 (.ref l) (E := E) (Q₁ := fun v z => v = .ref s.heap.objs.size ∧ z = { s with heap := s.heap.push (newSet w) }) ⟨rfl, rfl⟩) fun r z hr => ?_
  match r, hr with
  | .ok (.ret _), hr =>
    obtain ⟨rfl, rfl⟩ := hr
    have at0 : (s.heap.push (newSet w)).get? s.heap.objs.size = some (newSet w) := Heap.get?_push_size _ rfl
    have ty : Shared.TypeIs { s with heap := s.heap.push (newSet w) } (.ref s.heap.objs.size) "set" := ⟨_, at0, rfl⟩
    have g6 := mk.init.lookup
    have g7 := mk.init.bind (.ref s.heap.objs.size)
    repeat (any_goals (first | assumption | wp_step))
    refine codeAny_mono (codeAny_call_builtin (R := wants (afterSet w s ns) E) mk.init.plain F.entry_set_init (check_set_init_1 ty ?_)) fun r2 z2 hr2 => ?_
    · obtain ⟨ol, hol, hcl, nl, hdl⟩ := hl
      obtain ⟨c0, d0, b0, t0⟩ := ol
      simp only at hcl hdl
      subst hcl; subst hdl
      have hol1 := Heap.get?_push_of_some (newSet w) hol
      have g8 := F.sub_list_set
      have g9 := F.sub_list_frozenset
      have g10 : (Value.type "list" == Value.type "dict") = false := by decide
      have il : (s.heap.push (newSet w)).IsList l its := ⟨_, hol1, rfl, nl, rfl⟩
      have lt := Heap.lt_size hol
      unfold Builtin.«set.__init__» noKeywords Builtin.Frozenset.updateFrom
      generalize hPI : pyIter = PI
      wp_walk
      subst hPI
      refine wpAny_pyIter_list il (wpAny_bind (wpAny_runValue ?_))
      have hh2 : A.in1.in1.in1.handled = none := by simp [hh]
      have ne1 : l ≠ (s.heap.push (newSet w)).objs.size := Nat.ne_of_lt (by rw [big]; exact Nat.lt_succ_of_lt lt)
      have ne2 : s.heap.objs.size ∉ [(s.heap.push (newSet w)).objs.size, l] := by
        simp only [List.mem_cons, List.not_mem_nil, or_false, not_or]
        exact ⟨Nat.ne_of_lt (by rw [big]; exact Nat.lt_succ_self _), Nat.ne_of_gt lt⟩
      have vals : ∀ (i : Nat) (v : Value), its[i]? = some v → ∃ k t, ns[i]? = some k ∧ v = .int k t := fun i v e => by
        have hlt : i < ns.length := by rw [← len]; exact (Array.getElem?_eq_some_iff.mp e).1
        obtain ⟨t, e2⟩ := PyProof.Rows.IntsAre.int_at hi i v (by rw [Array.getElem?_toList]; exact e)
        exact ⟨_, t, List.getElem?_eq_getElem hlt, by rw [e2, List.getD_eq_getElem?_getD, List.getElem?_eq_getElem hlt] <;> rfl⟩
      refine set_update_ints ((Walks.list hh2 _ l ne1 its).toS) s.heap.objs.size ne2 ns len hb vals (its.size - 0) 0 _ (by omega) (Nat.zero_le _) ⟨⟨_, Heap.get?_push_size _ rfl, rfl, rfl⟩, il.push _⟩ ⟨0, Nat.le_refl 0, setR_new_at (Heap.get?_push_of_some _ at0)⟩ fun z3 c3 hm hc3 hS3 => ?_
      obtain ⟨h3, q3, d3, t3, o3⟩ := z3
      have e1 : q3 = s.gens := hm.gens
      have e2 : d3 = s.drawn := hm.drawn
      have e3 : o3 = s.os := hm.os
      subst e1; subst e2; subst e3
      show wpAny _ _ _ _ _ _
      refine wpAny_pure ?_
      show wpAny _ _ (ret Value.none) _ _ _
      refine wpAny_pure ⟨rfl, h3, t3, c3, rfl, hS3, by omega, fun b o e => hm.heap b o ?_ (Heap.get?_push_of_some _ (Heap.get?_push_of_some _ e))⟩
      have lt2 := Heap.lt_size e
      simp only [List.mem_cons, List.not_mem_nil, or_false, not_or]
      exact ⟨Nat.ne_of_lt lt2, Nat.ne_of_lt (by rw [big]; exact Nat.lt_succ_of_lt lt2)⟩
    · match r2, hr2 with
      | .ok (.ret _), hr2 =>
        obtain ⟨rfl, h3, t3, c3, rfl, hS3, hc3, hk3⟩ := hr2
        repeat (any_goals (first | assumption | wp_step))
        exact k _ _ _ hS3 hc3 hk3
      | .error _, hr2 => exact hr2
  | .error _, hr => exact hr
end
end Z

namespace Z
open PySem PySem.Spec L2
section
variable {X : Cx}
noncomputable def rSetI (X : Cx) : List V → Hp → VK → Prop := fun vs H Q => ∃ (a : Addr) (ns : List Int), vs = [.ref a] ∧ (SqL X.K H a (ns.map V.int) ∨ SqT X.K H a (ns.map V.int)) ∧ ns.length < 64 ∧
  ∀ p c, H p = none → c ≤ ns.length → Q (.ref p) (upd H p (SetO X.w p (fun j => decide (j ∈ ns)) c))
theorem cr_setI (hc : X.calm = true) : CallR X (.type "set") (rSetI X) := by
  intro pins s σ H vs us Q I r ⟨a, ns, e, hq, h64, q⟩
  subst e
  rw [Vals.ref1 r]
  have room : ns.length + 1 < scanBound := by unfold scanBound; omega
  have fin : ∀ (h' : Heap) (tk c : Nat), SetR X.w h' s.heap.objs.size (fun j => decide (j ∈ ns)) c → c ≤ ns.length → (∀ b o, s.heap.get? b = some o → h'.get? b = some o) → EP X pins σ Q (.ref s.heap.objs.size) { s with heap := h', toks := tk } := fun h' tk c R hcn k =>
    ⟨.ref _, upd H s.heap.objs.size (SetO X.w s.heap.objs.size (fun j => decide (j ∈ ns)) c), I.laid (t' := tk) (fun b u e => k b u e) (Nat.le_refl _) (setO_new R), rfl, q _ c (I.hok.fresh (Nat.le_refl _)) hcn⟩
  rcases hq with hq | hq
  · obtain ⟨its, rv, pl, _⟩ := I.list hq
    exact set_of_list ns (I.ok.hd hc) pl.isList (by simpa using rv.ints) room fin
  · obtain ⟨its, rv, pt, _⟩ := I.tuple hq
    exact call_set_tupI ns (I.ok.hd hc) (show s.heap.IsTuple a its.toArray from pt) (by simpa using rv.ints) room fin
end
noncomputable def insU (x : Int) : List Int → List Int
  | [] => [x]
  | y :: ys => if x < y then x :: y :: ys else if x = y then y :: ys else y :: insU x ys
noncomputable def sortSet : List Int → List Int
  | [] => []
  | x :: xs => insU x (sortSet xs)
theorem insU_mem {x z : Int} : ∀ {l : List Int}, z ∈ insU x l ↔ z = x ∨ z ∈ l
  | [] => by simp [insU]
  | y :: ys => by
    unfold insU
    split
    · simp
    · split
      · rename_i h; subst h; simp
      · simp only [List.mem_cons, insU_mem (l := ys)]
        constructor
        · rintro (h | h | h) <;> simp [h]
        · rintro (h | h | h) <;> simp [h]
theorem insU_up {x : Int} : ∀ {l : List Int}, l.Pairwise (· < ·) → (insU x l).Pairwise (· < ·)
  | [], _ => by simp [insU]
  | y :: ys, h => by
    have hy := List.pairwise_cons.mp h
    unfold insU
    split
    · rename_i hx
      refine List.pairwise_cons.mpr ⟨fun z hz => ?_, h⟩
      rcases List.mem_cons.mp hz with rfl | hz
      · exact hx
      · have := hy.1 z hz; omega
    · split
      · exact h
      · refine List.pairwise_cons.mpr ⟨fun z hz => ?_, insU_up hy.2⟩
        rcases insU_mem.mp hz with rfl | hz
        · omega
        · exact hy.1 z hz
theorem sortSet_mem {z : Int} : ∀ {l : List Int}, z ∈ sortSet l ↔ z ∈ l
  | [] => by simp [sortSet]
  | x :: xs => by simp only [sortSet, insU_mem, sortSet_mem (l := xs), List.mem_cons]
theorem sortSet_up : ∀ {l : List Int}, (sortSet l).Pairwise (· < ·)
  | [] => by simp [sortSet]
  | x :: xs => insU_up (sortSet_up (l := xs))
theorem up_unique : ∀ {l m : List Int}, l.Pairwise (· < ·) → m.Pairwise (· < ·) → (∀ z, z ∈ l ↔ z ∈ m) → l = m
  | [], [], _, _, _ => rfl
  | [], y :: m, _, _, h => by have := (h y).mpr (by simp); simp at this
  | x :: l, [], _, _, h => by have := (h x).mp (by simp); simp at this
  | x :: l, y :: m, h1, h2, h => by
    have p1 := List.pairwise_cons.mp h1
    have p2 := List.pairwise_cons.mp h2
    have e : x = y := by
      have a := (h x).mp (by simp)
      have b := (h y).mpr (by simp)
      rcases List.mem_cons.mp a with a | a
      · exact a
      · rcases List.mem_cons.mp b with b | b
        · exact b.symm
        · have := p2.1 x a; have := p1.1 y b; omega
    subst e
    rw [up_unique p1.2 p2.2 fun z => ⟨fun hz => ?_, fun hz => ?_⟩]
    · rcases List.mem_cons.mp ((h z).mp (by simp [hz])) with e | hz'
      · subst e; have := p1.1 z hz; omega
      · exact hz'
    · rcases List.mem_cons.mp ((h z).mpr (by simp [hz])) with e | hz'
      · subst e; have := p2.1 z hz; omega
      · exact hz'
noncomputable def intsOf : List D → Option (List Int)
  | [] => some []
  | .int i :: ds => (intsOf ds).map (i :: ·)
  | _ :: _ => none
theorem ints_vrs {K : PySem.W.Frag} {ρ : Pl} {H : Hp} : ∀ {vs : List V} {ds : List D} {ns : List Int}, VRs K ρ H vs ds → intsOf ds = some ns → vs = ns.map V.int
  | _, _, ns, .nil, h => by simp [intsOf] at h; subst h; rfl
  | _, _, ns, .cons r rs, h => by
    cases r <;> simp only [intsOf, Option.map_eq_some_iff, reduceCtorEq] at h
    obtain ⟨ms, h1, rfl⟩ := h
    rw [ints_vrs rs h1]; rfl
theorem vrs_ints {K : PySem.W.Frag} {ρ : Pl} {H : Hp} : ∀ ns : List Int, VRs K ρ H (ns.map V.int) (ns.map D.int)
  | [] => .nil
  | n :: ns => .cons (.int n) (vrs_ints ns)
noncomputable def dSortSet : D → Sto → R D := fun d S => match seqR d S with
  | some ds => match intsOf ds with
    | some ns => guardR (ns.length < 64) (.ok (.lst ((sortSet ns).map D.int)) S)
    | none => .bad
  | none => .bad
section
variable {X : Cx} {W : WX} {e a b : Expr} {m ma mb : ME} {p p2 q pos : Pos}
theorem z_sortSet (hm : X.mg "sorted" = none) (hm2 : X.mg "set" = none) (he : PE X e (Em X.K W m)) (hc : X.calm = true := by rfl) (hg : Gl X "sorted" := by rfl) (hg2 : Gl X "set" := by rfl)
    (hs : starEach [e] X.env = (false, eval e X.env) :: starEach [] X.env := by rfl) (hs2 : starEach [.Call (.Name "set" p2) [e] [] q] X.env = (false, eval (.Call (.Name "set" p2) [e] [] q) X.env) :: starEach [] X.env := by rfl) (hpl : (backTo q (starEach [] X.env)).any (·.1) = false := by rfl) (hpl2 : (backTo pos (starEach [] X.env)).any (·.1) = false := by rfl) :
    PE X (.Call (.Name "sorted" p) [.Call (.Name "set" p2) [e] [] q] [] pos) (Em X.K W (mUn dSortSet m)) := by
  refine PE_imp (pe_callB (cr_sortedSet hc) hg hm PyProof.Rows.boot_sorted (pa_cons (pe_callTy (cr_setI hc) hg2 hm2 PyProof.Rows.boot_set (pa_cons he pa_nil hs) (he := hs) (hpl := hpl)) pa_nil hs2) (he := hs2) (hpl := hpl2)) fun σ H Q h => ?_
  obtain ⟨ρ, τ, S, s, r, p1⟩ := h
  refine Em_bind s r p1 fun ρ1 H1 S1 v d s1 r1 x1 v1 p1 => ?_
  unfold dSortSet at p1
  split at p1
  · rename_i ds e1
    obtain ⟨a, xs, rfl, h1, h2⟩ := seqR_of s1 v1 e1
    split at p1
    · rename_i ns e2
      obtain ⟨h64, p1⟩ := guardR_post p1
      have ex := ints_vrs h2 e2
      subst ex
      refine ⟨a, ns, rfl, h1, h64, fun q1 c hq1 hc1 => ⟨q1, _, c, rfl, upd_same, by omega, fun ns' q2 up mem len hq2 => ?_⟩⟩
      have en : ns' = sortSet ns := up_unique up sortSet_up fun z => by rw [mem z, sortSet_mem, decide_eq_true_eq]
      subst en
      exact p1 ρ1 _ _ ((Ext.fresh hq1).trans (Ext.fresh hq2)) ((s1.laid hq1).laid hq2) (.lst upd_same ((s1.laid hq1).fresh hq2) (vrs_ints _))
    · exact p1.elim
  · exact p1.elim
end
end Z

namespace Z
open PySem L2
theorem wp_eq {A : Type} {o : R A} {x : A} {S : Sto} (h : wpR o fun a S' => a = x ∧ S' = S) : o = .ok x S := by
  obtain ⟨a, S', e, rfl, rfl⟩ := wpR_get h
  exact e
noncomputable def Has (d : D) : Prop := ∃ p, toPyD d = some p
theorem has_all : ∀ {ds : List D} {ps : List PyData}, toPyDs ds = some ps → ∀ d ∈ ds, Has d
  | [], _, _, d, h => by cases h
  | e :: ds, ps, q, d, h => by
    simp only [toPyDs] at q
    split at q
    · rename_i p qs h1 h2
      rcases List.mem_cons.mp h with rfl | h
      · exact ⟨_, h1⟩
      · exact has_all h2 d h
    · cases q
theorem has_tup {ds : List D} (h : Has (.tup ds)) : ∀ d ∈ ds, Has d := by
  obtain ⟨p, h⟩ := h
  simp only [toPyD, Option.map_eq_some_iff] at h
  obtain ⟨ps, h, _⟩ := h
  exact has_all h
noncomputable def num (d : D) (lo hi : Int) : Bool := match d with | .int i => decide (lo ≤ i) && decide (i ≤ hi) | _ => false
theorem num_int {d : D} {lo hi : Int} (h : num d lo hi = true) : ∃ i, d = .int i ∧ lo ≤ i ∧ i ≤ hi := by
  cases d <;> simp [num] at h
  exact ⟨_, rfl, h.1, h.2⟩
noncomputable def iv : D → Int
  | .int i => i
  | _ => 0
theorem three {ds : List D} (h : ds.length = 3) : ∃ a b c, ds = [a, b, c] := by
  match ds, h with
  | [a, b, c], _ => exact ⟨a, b, c, rfl⟩
theorem at0 {a : D} {r : List D} : atI (a :: r) 0 = some a := by simp [atI, ixN]
theorem atI_nat {ds : List D} {n : Nat} (h : n < ds.length) : atI ds (n : Int) = ds[n]? := by
  unfold atI ixN
  rw [if_pos (by omega), if_pos (by omega)]
  rfl
theorem at1 {a b : D} {r : List D} : atI (a :: b :: r) 1 = some b := atI_nat (n := 1) (by simp)
theorem at2 {a b c : D} {r : List D} : atI (a :: b :: c :: r) 2 = some c := atI_nat (n := 2) (by simp)
theorem bools_map (f : D → Bool) : ∀ ds : List D, boolsOf (ds.map fun d => D.bl (f d)) = some (ds.map f)
  | [] => rfl
  | d :: ds => by simp [boolsOf, bools_map f ds]
theorem all_map (f : D → Bool) (ds : List D) (S : Sto) : dAll [.lst (ds.map fun d => D.bl (f d))] S = .ok (.bl (ds.all f)) S := by
  simp [dAll, listR, bools_map]
theorem zip_mem {ds es : List D} {x : D} : x ∈ List.zipWith (fun a b => D.tup [a, b]) ds es → ∃ a b, x = .tup [a, b] ∧ a ∈ ds ∧ b ∈ es := by
  induction ds generalizing es with
  | nil => intro h; simp at h
  | cons d ds ih =>
    intro h
    cases es with
    | nil => simp at h
    | cons e es =>
      rw [List.zipWith_cons_cons] at h
      rcases List.mem_cons.mp h with rfl | h
      · exact ⟨d, e, rfl, by simp, by simp⟩
      · obtain ⟨a, b, h1, h2, h3⟩ := ih h
        exact ⟨a, b, h1, by simp [h2], by simp [h3]⟩
theorem cutD1 (ds : List D) : cutD ds (some 1) none = ds.drop 1 := by
  unfold cutD
  have e1 : HT.sIx ds.length 0 (some 1) = min 1 ds.length := HT.sIx_nat _ _ 1
  have e2 : HT.sIx ds.length ds.length none = ds.length := rfl
  rw [e1, e2]
  cases ds with
  | nil => rfl
  | cons d r =>
    have : min 1 (d :: r).length = 1 := by simp
    rw [this]
    simp
theorem pick {ds : List D} {i : Int} {Q : D → Prop} (P : D → Prop) (h : ∀ d ∈ ds, P d) (h0 : 0 ≤ i) (h1 : i < ds.length) (k : ∀ d, P d → Q d) : ∃ a, atI ds i = some a ∧ Q a := by
  obtain ⟨d, e, m, _⟩ := atI_mem h0 h1
  exact ⟨d, e, k d (h d m)⟩
theorem hz : sizeLine = 16777216 := rfl
theorem Gd_mono : ∀ (k : Nat) (d : D), Gd k d = true → Gd (k + 1) d = true
  | 0, d, h => by cases d <;> simp_all [Gd]
  | k + 1, d, h => by
    cases d with
    | tup ds =>
      simp only [Gd, Bool.and_eq_true, decide_eq_true_eq, List.all_eq_true] at h
      exact Gd_tup h.1 fun d hd => Gd_mono k d (h.2 d hd)
    | lst ds =>
      simp only [Gd, Bool.and_eq_true, decide_eq_true_eq, List.all_eq_true] at h
      exact Gd_lst h.1 fun d hd => Gd_mono k d (h.2 d hd)
    | _ => simp_all [Gd]
theorem Gd_int {k : Nat} {i : Int} (h0 : -100000 < i) (h1 : i < 100000) : Gd k (.int i) = true := by
  have : i.natAbs < 10 ^ 31 := Nat.lt_trans (show i.natAbs < 100000 by omega) (by decide)
  cases k <;> simp only [Gd, decide_eq_true_eq] <;> exact this
noncomputable def GD (d : D) : Prop := Gd 4 d = true ∨ d = .dct [] []
theorem GD.has {d : D} (h : GD d) : Has d := by
  rcases h with h | rfl
  · obtain ⟨p, hp⟩ := Gd_py 4 d h
    exact ⟨p, hp.py⟩
  · exact ⟨_, rfl⟩
theorem up4 {k : Nat} {d : D} (h : Gd k d = true) (hk : k ≤ 4) : Gd 4 d = true := by
  match k, hk with
  | 0, _ => exact Gd_mono 3 d (Gd_mono 2 d (Gd_mono 1 d (Gd_mono 0 d h)))
  | 1, _ => exact Gd_mono 3 d (Gd_mono 2 d (Gd_mono 1 d h))
  | 2, _ => exact Gd_mono 3 d (Gd_mono 2 d h)
  | 3, _ => exact Gd_mono 3 d h
  | 4, _ => exact h
end Z

namespace Z
open PySem PySem.Spec L2

section
variable {P : Program} {w : World} {A : Around} {E : Value → Shared → Prop} {s : Shared}
noncomputable abbrev enumObj (it : Addr) : Obj := { cls := .type "enumerate", data := .fields #[.none, .bool false, .ref it, rawInt 0, .none, .none] }
theorem enum_one {v : Value} {o : Obj} {H : Heap → Prop} (B : Begins v o H) :
    Meets (Builtin.«enumerate.__new__» ⟨[.type "enumerate", v], []⟩) (fun _ R z => H z.heap ∧ R (.ok (.ret (.ref (z.heap.push o).objs.size))) { z with heap := (z.heap.push o).push (enumObj z.heap.objs.size) }) :=
  .of_wp fun P w A R z hz => by
    obtain ⟨h0, g0, d0, t0, o0⟩ := z
    obtain ⟨hH, hR⟩ := hz
    have hsub := sub_enumerate
    have begin_ : ∀ {A' : Around} {E : Value → Shared → Prop} {Q : Value → Shared → Prop}, Q (.ref h0.objs.size) ⟨h0.push o, g0, d0, t0, o0⟩ → wpAny (model P w) A' (pyIter v) Q E ⟨h0, g0, d0, t0, o0⟩ :=
      fun q => B.iter P w _ _ ⟨h0, g0, d0, t0, o0⟩ _ hH q
    wp_walk using begin_
    refine wpAny_stack_any fun z => wpAny_pure ?_
    split
    · rename_i c _ _ _ _ _
      cases (c == Value.type "enumerate") <;>
      · wp_walk using begin_
        exact ⟨_, rfl, hR⟩
    · wp_walk using begin_
      exact ⟨_, rfl, hR⟩
theorem enum_call {v : Value} {o : Obj} {H : Heap → Prop} {Q : Value → Shared → Prop} (B : Begins v o H) (h1 : H s.heap)
    (k : ∀ h', IsEnum h' (s.heap.objs.size + 1) s.heap.objs.size 0 .none → h'.get? s.heap.objs.size = some o → (∀ b u, s.heap.get? b = some u → h'.get? b = some u) → Q (.ref (s.heap.objs.size + 1)) { s with heap := h' }) :
    wpAny (model P w) A (call (.type "enumerate") [v]) Q E s := by
  refine callType_new F.called_enumerate (by decide) (F.typeCall_enumerate_1 _) (F.newCall_enumerate_1 _) (fun u => F.args_object_init_2 u _) F.entry_enumerate_new (enum_one B) ⟨h1, ?_⟩
  have sz : (s.heap.push o).objs.size = s.heap.objs.size + 1 := Heap.size_push ..
  have at1 := Heap.get?_push_size (s.heap.push o) (o := enumObj s.heap.objs.size) rfl
  show _ ∧ _
  rw [sz] at at1 ⊢
  exact ⟨⟨_, at1, rfl⟩, k _ at1 (Heap.get?_push_of_some _ (Heap.get?_push_size _ B.free)) fun b u e => Heap.get?_push_of_some _ (Heap.get?_push_of_some _ e)⟩
end
noncomputable def IteT (K : PySem.W.Frag) (a : Addr) : It :=
  ⟨fun i H => ∃ xs, SqT K H a xs ∧ i < xs.length, fun i H v H' => ∃ T x, v = .ref T ∧ H T = none ∧ H' = upd H T (.tup [.int (i : Nat), x]) ∧ ∀ xs, SqT K H a xs → xs[i]? = some x, fun i H => ∃ xs, SqT K H a xs ∧ i = xs.length⟩
theorem pair_cls {h : Heap} {a b : Addr} {o1 o2 : Obj} (h1 : h.get? a = some o1) (h2 : h.get? b = some o2) (hc : o1.cls ≠ o2.cls) : a ≠ b := fun e => by
  subst e
  rw [h1] at h2
  cases h2
  exact hc rfl
theorem turn_enumT {P : Program} {w : World} {K : PySem.W.Frag} {elts : List Expr} {kk : Nat} {tpos : Pos} (a e it : Addr) :
    Turn P w K (.Tuple elts kk tpos) (IteT K a) [e, it] e (fun i h => (∃ old, IsEnum h e it ((i : Nat) : Int) old) ∧ h.IsTupleIter it a i) where
  mem := by simp
  obj := fun i h st b hb => by
    obtain ⟨⟨old, he⟩, ⟨o, ho, hc, hd⟩⟩ := st
    rcases (show b = e ∨ b = it by simpa using hb) with rfl | rfl
    · exact ⟨_, he, fun v q => nomatch q⟩
    · exact ⟨o, ho, fun v q => by rw [hd] at q; cases q⟩
  keep := fun i h h' st k => ⟨let ⟨old, he⟩ := st.1; ⟨old, k e (by simp) _ he⟩, st.2.at fun o q => k it (by simp) o q⟩
  item := by
    intro X hP hw hK hc i pins s σ H E I hf st hg
    subst hP hw hK
    obtain ⟨⟨old, he⟩, hit⟩ := st
    obtain ⟨xs, hq, hi⟩ := hg
    obtain ⟨its, rv, p, hz⟩ := I.tuple hq
    obtain ⟨u, hu, ru⟩ := rv.get (List.getElem?_eq_getElem hi)
    have tup : s.heap.IsTuple a its.toArray := p
    have el := Heap.lt_size he
    have n1 : e ≠ it := let ⟨o, ho, c, _⟩ := hit; pair_cls he ho (by rw [c]; show Value.type "enumerate" ≠ Value.type "tuple_iterator"; decide)
    have n2 : e ≠ a := let ⟨o, ho, c, _⟩ := tup; pair_cls he ho (by rw [c]; show Value.type "enumerate" ≠ Value.type "tuple"; decide)
    have n3 : a ≠ it := let ⟨o, ho, c, _⟩ := tup; let ⟨o', ho', c', _⟩ := hit; pair_cls ho ho' (by rw [c, c']; decide)
    have il : it < s.heap.objs.size := let ⟨_, q, _⟩ := hit; Heap.lt_size q
    have lt : i < its.toArray.size := by rw [List.size_toArray, ← rv.length]; exact hi
    refine wpAny_pyNext_enum_itemD (Draws.tuple (A := X.A.in1) (by simp [I.ok.hd hc]) it a n3 its.toArray) he ⟨hit, tup⟩ lt n1 (by simp [n1, n2]) fun y h' tk hy ho hst hT hsz hk => ?_
    have ey : y = u := by
      have e1 : its.toArray[i]? = some u := by simpa using hu
      rw [e1] at hy
      exact (Option.some.inj hy).symm
    subst ey
    refine ⟨_, rfl, wpAny_letOwnedTupleGo_enum (s := { s with heap := h', toks := tk + 1 }) ho fun h2 he2 sb => ?_⟩
    have at2 : h2.get? s.heap.objs.size = some { cls := .type "tuple", data := .seq #[.int i tk, y] } := (sb.2 _ (Nat.ne_of_gt el)).trans hT
    have new : ObjOk X.prog X.w (upd H s.heap.objs.size (.tup [.int (i : Nat), xs[i]])) h2 s.heap.objs.size (.tup [.int (i : Nat), xs[i]]) :=
      ⟨by show 2 ≤ sizeLine; decide, [.int i tk, y], .cons ⟨_, rfl⟩ (.cons ru .nil), ⟨_, at2, rfl, _, rfl⟩⟩
    have I2 : Inv X pins σ (upd H s.heap.objs.size (.tup [.int (i : Nat), xs[i]])) { s with heap := h2, toks := tk + 1 } :=
      I.turnedNew (ch := [e, it]) (fun b ob hb q => (sb.2 b fun z => hb (by simp [z])).trans (hk b ob (fun z => hb (by simp [z])) (fun z => hb (by simp [z])) q)) hf (Nat.le_refl _) new
    refine ⟨.ref s.heap.objs.size, _, I2, rfl, ⟨_, xs[i], rfl, I.hok.fresh (Nat.le_refl _), rfl, fun zs hy => by rw [I.tuple_inj hy hq]; exact List.getElem?_eq_getElem hi⟩, ⟨⟨y, ?_⟩, hst.1.at fun o q => (sb.2 it (Ne.symm n1)).trans q⟩, fun b hb => ?_⟩
    · have e1 : ((i + 1 : Nat) : Int) = (i : Int) + 1 := by omega
      rw [e1]; exact he2
    · have lb : b < s.heap.objs.size := by
        rcases (show b = e ∨ b = it by simpa using hb) with rfl | rfl
        · exact el
        · exact il
      rw [upd_ne (Nat.ne_of_lt lb)]
      exact (hf b hb).1
  done := by
    intro X hP hw hK hc i pins s σ H E I hf st hg
    subst hP hw hK
    obtain ⟨⟨old, he⟩, hit⟩ := st
    obtain ⟨xs, hq, hx⟩ := hg
    obtain ⟨its, rv, p, hz⟩ := I.tuple hq
    have tup : s.heap.IsTuple a its.toArray := p
    have n3 : a ≠ it := let ⟨o, ho, c, _⟩ := tup; let ⟨o', ho', c', _⟩ := hit; pair_cls ho ho' (by rw [c, c']; decide)
    obtain ⟨f0, f1, f2, f3, f4, f5⟩ := hf it (by simp)
    have hl := rv.length
    subst hx
    have e : xs.length = its.toArray.size := by rw [List.size_toArray]; exact hl
    rw [e] at hit
    exact wpAny_pyNext_enum_endD (Draws.tuple (A := X.A.in1) (by simp [I.ok.hd hc]) it a n3 its.toArray) he ⟨hit, tup⟩ fun h' eb => ⟨rfl, I.turned (t' := s.toks) (fun b o hb q => eb b o hb q) f0 f1 f3 f4 f5⟩
  self := fun A i s Q E st h => let ⟨⟨_, he⟩, _⟩ := st; wpAny_pyIter_enum he h
noncomputable def iEnumT (K : PySem.W.Frag) (ta : TA) : TI := fun σ H R => ta σ H fun vs H1 => ∃ a xs, vs = [.ref a] ∧ SqT K H1 a xs ∧ R (IteT K a) H1
theorem pi_enumT {X : Cx} {e : Expr} {ta : TA} {p pos tpos : Pos} {elts : List Expr} {kk : Nat} (hg : Gl X "enumerate") (hm : X.mg "enumerate" = none) (ha : PA X [e] ta) (hs : starEach [e] X.env = [(false, eval e X.env)] := by rfl) :
    PI X (.Tuple elts kk tpos) (.Call (.Name "enumerate" p) [e] [] pos) (iEnumT X.K ta) := by
  constructor
  intro pins s σ H R I h
  refine PyProof.Rows.Call_ (ld_blt I hg hm PyProof.Rows.boot_enumerate ?_)
  refine PyProof.Rows.callWith_type1 (thn (ha.run pos pins s σ H _ I h) ?_) hs rfl
  rintro us s1 ⟨vs, H1, I1, r1, a, xs, ex, hq, q⟩
  subst ex
  cases r1 with
  | cons r rr =>
    cases rr
    cases r
    obtain ⟨its, rv, p', hz⟩ := I1.tuple hq
    refine enum_call (begins_tuple a its.toArray) p' fun h' he hit hk => wpAny_pyIter_enum he ?_
    refine ⟨s1.heap.objs.size + 1, [s1.heap.objs.size + 1, s1.heap.objs.size], _, _, H1, rfl, I1.kept (t' := s1.toks) hk, turn_enumT a (s1.heap.objs.size + 1) s1.heap.objs.size, ⟨⟨.none, he⟩, ⟨_, hit, rfl, rfl⟩⟩, fun b hb => ?_, q⟩
    have hle : s1.heap.objs.size ≤ b := by
      rcases (show b = s1.heap.objs.size + 1 ∨ b = s1.heap.objs.size by simpa using hb) with rfl | rfl
      · exact Nat.le_add_right _ _
      · exact Nat.le_refl _
    exact I1.fpOk hle (I1.hok.fresh hle)
section
variable {X : Cx} {W : WX} {a : Expr} {ms : MA} {p pos : Pos}
end
noncomputable def dExtend : D → List D → Sto → R D
  | .loc l, [y], S => match S[l]?, listD y S with
    | some (.lst ds), some es => guardR (ds.length + es.length ≤ sizeLine) (.ok .non (S.set l (.lst (ds ++ es))))
    | _, _ => .bad
  | _, _, _ => .bad
theorem dExtend_ok {K : PySem.W.Frag} : MethS K dExtend rExtend := fun Wk ρ S H v d vs ds Q s r rs h => by
  unfold dExtend at h
  split at h
  · obtain ⟨y, rfl, ry⟩ := vrs1 rs
    split at h
    · rename_i es fs e1 e2
      obtain ⟨hz, h⟩ := guardR_post h
      cases r with
      | @loc a _ hl =>
        obtain ⟨xs, k1, k2⟩ := s.at hl e1
        obtain ⟨b, zs, rfl, k3, k4⟩ := listD_of s ry e2
        exact ⟨a, b, xs, zs, rfl, rfl, k1, k3, by rw [k2.length, k4.length]; exact hz, setLst s hl k1 (k2.append k4) .non h⟩
    · exact h.elim
  · exact h.elim
section
variable {X : Cx} {W : WX} {o e : Expr} {m : ME} {ms : MA} {apos cpos : Pos}
theorem z_ext (ho : PE X o (Em X.K W m)) (ha : PA X [e] (Am X.K W ms)) (hbase : attributeBase o "extend" X.env (eval o X.env) = eval o X.env := by rfl)
    (hfew : ((backTo cpos (starEach [e] X.env)).all (fun x => !x.1) && (backToKw cpos (keywordEach [] X.env)).all (fun x => x.1.isSome) && decide ([e].length + ([] : List Keyword).length + (if ([] : List Keyword).isEmpty then 0 else 1) < 30)) = true := by rfl)
    (hline : (apos.endLine == cpos.line) = true := by rfl) (hs : starEach [e] X.env = (false, eval e X.env) :: starEach [] X.env := by rfl) (hplain : (backTo cpos (starEach [] X.env)).any (·.1) = false := by rfl) :
    PE X (.Call (.Attribute o "extend" apos) [e] [] cpos) (Em X.K W (mMeth "list" dExtend m ms)) :=
  z_meth PySem.F.plainAttrs_list PySem.F.slot_list_extend PySem.F.type_list_extend mt_extend dExtend_ok ho ha (pe_bm PySem.F.plainAttrs_list PySem.F.slot_list_extend PySem.F.type_list_extend mt_extend ho ha hbase hfew hline hs hplain)
end
end Z

namespace Z
open PySem L2
open L2H (RoomH PinOk cxH inv_startH)

section
variable {X : Cx} {W : WX} {c m : Str} {j : Nat} {p p2 pos pos' : Pos}
end

section
variable {X : Cx} {W : WX} {a C : Addr} {oe : Obj} {i : Nat} {x t : Str} {p p1 p2 pos : Pos}
end

section
variable {P : Program} {w : World} {K : PySem.W.Frag} {mg : Str → Option Value} {base : Heap}
end
section
variable {X : Cx} {W : WX} {a C : Addr} {oe : Obj} {f : List D → Sto → R D} {e : Expr} {es : List Expr} {mas : MA} {x : Str} {p pos : Pos}
end
end Z

namespace Z
open PySem L2
open L2H (RoomH PinOk cxH inv_startH roomH_of)

noncomputable def getTab : C → Option (Addr × Str)
  | .tab P q => some (P, q)
  | _ => none
noncomputable def tabsOf (S : Sto) : List (Addr × Str) := S.filterMap getTab
section
variable {K : PySem.W.Frag} {ρ : Pl} {S : Sto} {H H1 : Hp}
end

structure FnK (P : Program) (w : World) (K : PySem.W.Frag) (mg : Str → Option Value) (base : Heap) (k : Nat) (g : Addr) (fd : FuncData) (ps : List Str) (f : List D → Sto → R D) : Prop where
  len : ∀ (ds : List D) (S : Sto), f ds S ≠ .bad → ds.length = ps.length
  run : ∀ (A : Around) (frs : List Env) (st : Shared) (H : Hp) (ar : Args) (us : List Value) (vs : List V) (Q : VK) (E : XK), Room k A → Env0 P w K mg base A frs st H →
    BindsTo st fd ar (ps.zip us) → Vals vs us → Sf K f vs H Q E → codeAny (model P w) A (.call (.ref g) ar) (L2.CR (L2.CX P w) frs P w H st Q E) st
section
variable {P : Program} {w : World} {K : PySem.W.Frag} {mg : Str → Option Value} {base : Heap}
theorem FnK.toG {k : Nat} {g : Addr} {fd : FuncData} {ps : List Str} {f : List D → Sto → R D} (F : FnK P w K mg base k g fd ps f) : FnG P w K mg base k g fd ps f := ⟨F.len, fun A frs st H ar us vs Q E hr _ => F.run A frs st H ar us vs Q E hr⟩
theorem run_body {x qual : Str} {st : Stmt} {g : Addr} {fd : FuncData} {N ps : List Str} {k n : Nat} {b : MS} {gd : Around → Prop} (F : Fun K x qual st g fd) (Sc : FnScope N ps (defScope st)) (hn : ps.length = n)
    (hb : ∀ (cdv : Value) (A : Around) (fs : List Env) (s : Shared) (H : Hp) (E : XK), fd.code = cdv → Room k (bodyCx P w K mg base N qual st g cdv A fs s H E).A → gd A →
      PSs (bodyCx P w K mg base N qual st g cdv A fs s H E) (defBody st) (Sm K (fun c d _ H' => E c d H') b))
    (A : Around) (fs : List Env) (s : Shared) (H : Hp) (ar : Args) (us : List Value) (vs : List V) (Q : VK) (E : XK) (hr : Room (k + 1) A) (hg : gd A) (e0 : Env0 P w K mg base A fs s H)
    (hbd : BindsTo s fd ar (ps.zip us)) (hv : Vals vs us) (hsf : Sf K (runD n N.length b) vs H Q E) : codeAny (model P w) A (.call (.ref g) ar) (L2.CR (L2.CX P w) fs P w H s Q E) s := by
  obtain ⟨oc, od, kV, doc, pm, an, cdv, ct, osl, rfl, lk, hcd⟩ := F.ex
  obtain ⟨ρ, S, ds, sr, dv, po⟩ := hsf
  unfold runD at po
  split at po
  case isFalse => exact po.elim
  rename_i hlen
  have hlv : vs.length = ps.length := by rw [dv.length, hn]; exact hlen
  have KX : K.In s.heap := e0.mod.kin.keeps fun b o e => (e0.bs b o e).1
  have lim : s.heap.NoLimit := e0.mod.nolimit.keeps fun b o e => (e0.bs b o e).1
  have hkind : ∀ y ∈ ps.zip us, (defScope st).names.lookup y.1 = some .local ∨ ((defScope st).names.lookup y.1 = some .cell ∧ ((cellsFrom (s.heap.objs.size + 1) (defScope st).names []).lookup y.1).isSome = true) := by
    rintro ⟨nm, u⟩ hy
    rcases Sc.par nm (List.of_mem_zip hy).1 with q | q
    · exact .inl q
    · exact .inr ⟨q, PySem.W.cellsFrom_some _ _ _ (.inl q)⟩
  refine codeAny_call_function hr.depth (KX _ _ lk) rfl Sc.co Sc.gen rfl (PySem.W.codeRec_of KX hcd) (hbd _ _ _ _ ?_)
  refine wpAny_newFunctionEnv_cells Sc.kind hkind ?_
  intro env he s1 ic
  subst he
  refine ⟨lim.keeps ic.toInCall.keep, codeAny_func ?_⟩
  have body := hb cdv A fs s H E rfl (hr.deeper _) hg
  have I := inv_start (CX := L2.CX P w) (E := E) Sc hr.hd e0 hlv hv ic
  refine wpAny_mono (body.run [] s1 (L2.start N vs) H { nx := fun _ H' => Q .non H', rt := Q } I ?_) ?_ fun _ _ z => z
  · refine ⟨ρ, _, S, sr, er_start dv, ?_⟩
    cases q : b (ds.map some ++ List.replicate (N.length - ds.length) none) S with
    | rt d S' => rw [q] at po; exact po
    | nx τ' S' => rw [q] at po; exact fun ρ' σ' H' e' s' _ => po ρ' H' .non e' s' .non
    | ex τ' c fs2 S' => rw [q] at po; exact fun ρ' σ' H' dd e' s' _ x' => po ρ' H' dd e' s' x'
    | bk τ' S' => rw [q] at po; exact po.elim
    | ct τ' S' => rw [q] at po; exact po.elim
    | bad => rw [q] at po; exact po.elim
  · intro fl s' hs
    have fin : ∀ {σ' : St} {H' : Hp} {v : V} {u : Value}, Inv (bodyCx P w K mg base N qual st g cdv A fs s H E) [] σ' H' s' → RelV v u → Q v H' → CE fs P w H s Q u s' :=
      fun {σ' H' v u} J rv q => ⟨v, H', J.os, J.bare, J.base, J.hok, rv, q⟩
    match fl, hs with
    | .ret u, ⟨v, σ', H', J, rv, q⟩ => exact fin J rv q
    | .next, ⟨σ', H', J, q⟩ => exact fin (v := .non) (u := .none) J rfl q
    | .brk, ⟨_, _, _, q⟩ => exact q.elim
    | .cont, ⟨_, _, _, q⟩ => exact q.elim
theorem runD_len {n N : Nat} {b : MS} {ps : List Str} (hn : ps.length = n) (ds : List D) (S : Sto) (h : runD n N b ds S ≠ .bad) : ds.length = ps.length := by
  unfold runD at h
  split at h
  · omega
  · exact absurd rfl h
theorem fnK_of {x qual : Str} {st : Stmt} {g : Addr} {fd : FuncData} {N ps : List Str} {k n : Nat} {b : MS} (F : Fun K x qual st g fd) (Sc : FnScope N ps (defScope st)) (hn : ps.length = n)
    (hb : ∀ (cdv : Value) (A : Around) (fs : List Env) (s : Shared) (H : Hp) (E : XK), Room k (bodyCx P w K mg base N qual st g cdv A fs s H E).A →
      PSs (bodyCx P w K mg base N qual st g cdv A fs s H E) (defBody st) (Sm K (fun c d _ H' => E c d H') b)) :
    FnK P w K mg base (k + 1) g fd ps (runD n N.length b) :=
  ⟨runD_len hn, fun A fs s H ar us vs Q E hr e0 hbd hv hsf => run_body (gd := fun _ => True) F Sc hn (fun cdv A fs s H E _ hr _ => hb cdv A fs s H E hr) A fs s H ar us vs Q E hr trivial e0 hbd hv hsf⟩
end
section
variable {X : Cx} {W : WX} {f : List D → Sto → R D} {e : Expr} {es : List Expr} {mas : MA} {x : Str} {p pos : Pos}
theorem run_K {pins : List (Addr × Obj)} {st : Shared} {σ : St} {H : Hp} {Q : VK} {us : List Value} {vs : List V} {k : Nat} {g : Addr} {fd : FuncData} {ps : List Str} (F : FnK X.prog X.w X.K X.mg X.base k g fd ps f) (hr : Room k X.A) (hb : Binds X.K fd ps [])
    (hx : ∀ σ, PassesAt (L2.CX X.prog X.w) X σ (fun c d H => W c d σ H)) (I : Inv X pins σ H st) (r : Vals vs us) (h : Sf X.K f vs H Q (fun c d H => W c d σ H)) : wpAny (model X.prog X.w) X.A (call (.ref g) us) (EP X pins σ Q) X.xe st := by
  have hl : (us ++ []).length = ps.length := by
    obtain ⟨ρ, S, ds, s, v, q⟩ := h
    rw [List.append_nil, ← r.length, v.length]; exact F.len ds S q.nbad
  have hb' := hb st us I.kIn hl
  rw [List.append_nil] at hb'
  refine wpAny_call (codeAny_mono (F.run X.A X.stack st H _ us vs Q _ hr I.env0 hb' r h) ?_)
  intro res st' q
  match res, q with
  | .error e, q => exact hx σ pins H st e st' I q
  | .ok (.ret u), q => exact I.after q
  | .ok .next, q => exact False.elim q
  | .ok .brk, q => exact False.elim q
  | .ok .cont, q => exact False.elim q
theorem z_callK {k : Nat} {g : Addr} {fd : FuncData} {ps : List Str} (F : FnK X.prog X.w X.K X.mg X.base k g fd ps f) (hr : Room k X.A) (hm : X.mg x = some (.ref g)) (hk : PySem.W.keepIn X.K (.ref g) = true) (hb : Binds X.K fd ps [])
    (hx : ∀ σ, PassesAt (L2.CX X.prog X.w) X σ (fun c d H => W c d σ H)) (ha : PA X (e :: es) (Am X.K W mas)) (hg : Gl X x := by rfl) (hdb : (x == ("__debug__" : Str)) = false := by decide)
    (he : starEach (e :: es) X.env = (false, eval e X.env) :: starEach es X.env := by rfl) (hpl : (backTo pos (starEach es X.env)).any (·.1) = false := by rfl) : PE X (.Call (.Name x p) (e :: es) [] pos) (Em X.K W (mCall f mas)) := by
  constructor
  intro pins st σ H Q I h
  obtain ⟨ρ, τ, S, s, er, po⟩ := h
  have args := ha.run pos pins st σ H (fun vs H1 => Sf X.K f vs H1 Q (fun c d H => W c d σ H)) I (Am_bind s er po fun ρ1 H1 S1 vs ds s1 e1 x1 v1 p1 => ⟨ρ1, S1, ds, s1, v1, p1⟩)
  apply wpAny_Call_Name_kw
  apply ld_glob I hg hm _ hdb
  apply PySem.W.callWith_K (h₀ := X.base) I.ok.mod.kin hk _ he hpl
  apply thn args
  rintro us s1 ⟨vs, H1, I1, r, q⟩
  exact ⟨I1.kIn, run_K F hr hb hx I1 r q⟩
end

end Z

namespace Z
open PySem L2
open L2H (RoomH PinOk cxH inv_startH roomH_of)

section
variable {X : Cx} {W : WX}
end

section
open PySem.Spec PyProof.Rows
end
end Z

namespace Z
open PySem PySem.Spec L2

section
variable {X : Cx}
end

section
variable {X : Cx} {W : WX} {o e : Expr} {m : ME} {ms : MA} {apos cpos : Pos}
end
section
variable {X : Cx} {W : WX} {e : Expr} {m : ME} {p p2 q pos : Pos}
end

noncomputable def maxI : Int → List Int → Int
  | x, [] => x
  | x, y :: r => max x (maxI y r)
noncomputable def minI : Int → List Int → Int
  | x, [] => x
  | x, y :: r => min x (minI y r)
theorem maxI_is : ∀ {x : Int} {r : List Int} {m : Int}, m ∈ x :: r → (∀ y ∈ x :: r, y ≤ m) → m = maxI x r
  | x, [], m, h, _ => by simpa [maxI] using h
  | x, y :: r, m, h, k => by
    unfold maxI
    have hx := k x List.mem_cons_self
    rcases List.mem_cons.mp h with e | h
    · subst e
      have : maxI y r ≤ m := by
        have g : ∀ (y : Int) (r : List Int), maxI y r ∈ y :: r := by
          intro y r
          induction r generalizing y with
          | nil => simp [maxI]
          | cons z r ih =>
            unfold maxI
            rcases Int.le_total y (maxI z r) with q | q
            · rw [Int.max_eq_right q]; exact List.mem_cons_of_mem _ (ih z)
            · rw [Int.max_eq_left q]; exact List.mem_cons_self
        exact k _ (List.mem_cons_of_mem _ (g y r))
      omega
    · have := maxI_is h fun z hz => k z (List.mem_cons_of_mem _ hz)
      omega
theorem minI_is : ∀ {x : Int} {r : List Int} {m : Int}, m ∈ x :: r → (∀ y ∈ x :: r, m ≤ y) → m = minI x r
  | x, [], m, h, _ => by simpa [minI] using h
  | x, y :: r, m, h, k => by
    unfold minI
    have hx := k x List.mem_cons_self
    rcases List.mem_cons.mp h with e | h
    · subst e
      have : m ≤ minI y r := by
        have g : ∀ (y : Int) (r : List Int), minI y r ∈ y :: r := by
          intro y r
          induction r generalizing y with
          | nil => simp [minI]
          | cons z r ih =>
            unfold minI
            rcases Int.le_total y (minI z r) with q | q
            · rw [Int.min_eq_left q]; exact List.mem_cons_self
            · rw [Int.min_eq_right q]; exact List.mem_cons_of_mem _ (ih z)
        exact k _ (List.mem_cons_of_mem _ (g y r))
      omega
    · have := minI_is h fun z hz => k z (List.mem_cons_of_mem _ hz)
      omega
noncomputable def dMaxL : List D → Sto → R D
  | [d], S => (match listR d S with
    | some ds => (match intsOf ds with
      | some (x :: r) => .ok (.int (maxI x r)) S
      | _ => .bad)
    | none => .bad)
  | _, _ => .bad
noncomputable def dMinL : List D → Sto → R D
  | [d], S => (match listR d S with
    | some ds => (match intsOf ds with
      | some (x :: r) => .ok (.int (minI x r)) S
      | _ => .bad)
    | none => .bad)
  | _, _ => .bad
theorem dMaxL_ok {K : PySem.W.Frag} : CallS K dMaxL (rMax K) := fun Wk ρ S H vs ds Q s r h => by
  unfold dMaxL at h
  split at h
  · obtain ⟨v, rfl, rv⟩ := vrs1 r
    split at h
    · rename_i ds e
      obtain ⟨a, xs, rfl, h1, h2⟩ := listR_of s rv e
      split at h
      · rename_i x rr e2
        have ex := ints_vrs h2 e2
        subst ex
        exact ⟨a, x :: rr, rfl, h1, by simp, fun m hm hk => by rw [maxI_is hm hk]; exact h.here s (.int _)⟩
      · exact h.elim
    · exact h.elim
  · exact h.elim
theorem dMinL_ok {K : PySem.W.Frag} : CallS K dMinL (rMin K) := fun Wk ρ S H vs ds Q s r h => by
  unfold dMinL at h
  split at h
  · obtain ⟨v, rfl, rv⟩ := vrs1 r
    split at h
    · rename_i ds e
      obtain ⟨a, xs, rfl, h1, h2⟩ := listR_of s rv e
      split at h
      · rename_i x rr e2
        have ex := ints_vrs h2 e2
        subst ex
        exact ⟨a, x :: rr, rfl, h1, by simp, fun m hm hk => by rw [minI_is hm hk]; exact h.here s (.int _)⟩
      · exact h.elim
    · exact h.elim
  · exact h.elim

end Z

namespace Z
open PySem L2
end Z

namespace Z
open PySem L2
class TabsC where
  Ts : List (Addr × Str)
theorem tabs_app {S : Sto} {c : C} (h : getTab c = none := by rfl) : tabsOf (S ++ [c]) = tabsOf S := by
  unfold tabsOf
  rw [List.filterMap_append]
  simp [h]
theorem tabs_set : ∀ {S : Sto} {l : Nat} {c c0 : C}, S[l]? = some c0 → getTab c0 = none → getTab c = none → tabsOf (S.set l c) = tabsOf S
  | [], _, _, _, h, _, _ => by simp at h
  | d :: r, 0, c, c0, h, h0, h1 => by
    simp at h
    subst h
    simp [tabsOf, List.filterMap_cons, h0, h1]
  | d :: r, l + 1, c, c0, h, h0, h1 => by
    have ih := tabs_set (S := r) (l := l) (c := c) (c0 := c0) (by simpa using h) h0 h1
    simp only [tabsOf, List.set_cons_succ, List.filterMap_cons] at ih ⊢
    rw [ih]
section
variable [TabsC]
noncomputable def PenT (l : Nat) (S : Sto) : Prop := Pen l S ∧ tabsOf S = TabsC.Ts
theorem PenT.push {l : Nat} {S : Sto} {c : C} (h : PenT l S) (hc : getTab c = none := by rfl) : PenT l (S ++ [c]) := ⟨h.1.push, (tabs_app hc).trans h.2⟩
theorem PenT.lt {l : Nat} {S : Sto} (h : PenT l S) : l < S.length := h.1.lt
theorem PenT.put {l k : Nat} {S : Sto} {ds es : List D} (h : PenT l S) (hk : S[k]? = some (.lst ds)) (hn : k ≠ l) : PenT l (S.set k (.lst es)) := by
  refine ⟨?_, (tabs_set hk rfl rfl).trans h.2⟩
  obtain ⟨a, b, e⟩ := h.1
  exact ⟨a, b, by rw [List.getElem?_set_ne hn]; exact e⟩
end
end Z

namespace Z
open PySem L2

noncomputable def putD (f : Str) (d : D) : List (Str × D) → List (Str × D)
  | [] => [(f, d)]
  | (g, x) :: r => if g = f then (g, d) :: r else (g, x) :: putD f d r
section
variable {P : V → D → Prop}
theorem KR.look {f : Str} : ∀ {ws : List (Str × V)} {fs : List (Str × D)}, KR P ws fs → (fs.lookup f = none → ws.lookup f = none) ∧ ∀ d, fs.lookup f = some d → ∃ v, ws.lookup f = some v ∧ P v d
  | _, _, .nil => ⟨fun _ => rfl, fun d h => nomatch h⟩
  | _, _, .cons (k := k) h hs => by
    have ih := KR.look (f := f) hs
    simp only [List.lookup]
    cases q : f == k with
    | true => exact ⟨fun z => (nomatch z), fun d z => by cases z; exact ⟨_, rfl, h⟩⟩
    | false => exact ih
theorem KR.put {f : Str} {v : V} {d : D} (h0 : P v d) : ∀ {ws : List (Str × V)} {fs : List (Str × D)}, KR P ws fs → KR P (putF f v ws) (putD f d fs)
  | _, _, .nil => .cons h0 .nil
  | _, _, .cons (k := k) h hs => by
    unfold putF putD
    by_cases q : k = f
    · rw [if_pos q, if_pos q]; exact .cons h0 hs
    · rw [if_neg q, if_neg q]; exact .cons h (KR.put h0 hs)
end
structure FldC (K : PySem.W.Frag) (c f : Str) (C : Addr) : Prop where
  at_ : clsAt K c = .ref C
  cls : Cls K C
  no : NoAttr K C f
section
variable {X : Cx} {W : WX} {o e v : Expr} {es : List Expr} {mo mv : ME} {mas : MA} {c f m : Str} {C : Addr} {pos pos' apos : Pos}
noncomputable def mFld (c f : Str) (m : ME) : ME := fun τ S => (m τ S).bind fun d S1 => match d with
  | .loc l => (match S1[l]? with
    | some (.ins c' fs) => if c' = c then ofO (fs.lookup f) S1 else .bad
    | _ => .bad)
  | _ => .bad
theorem z_fld (F : FldC X.K c f C) (ho : PE X o (Em X.K W mo)) (hb : attributeBase o f X.env (eval o X.env) = eval o X.env := by rfl) : PE X (.Attribute o f pos) (Em X.K W (mFld c f mo)) := PE_imp (pe_fld ho hb) fun σ H Q ⟨ρ, τ, S, s, r, p⟩ => by
  refine Em_bind s r p fun ρ1 H1 S1 v d s1 r1 x1 v1 p1 => ?_
  split at p1
  · rename_i l
    split at p1
    · rename_i c' fs e
      split at p1
      · rename_i ec
        subst ec
        cases v1 with
        | @loc a _ hl =>
          obtain ⟨C', dx, ws, hc, ha, hk⟩ := s1.at hl e
          rw [F.at_] at hc; cases hc
          obtain ⟨d, hd, p2⟩ := ofO_post p1
          obtain ⟨y, hy, ry⟩ := (hk.look (f := f)).2 d hd
          exact ⟨a, C, dx, ws, y, rfl, ha, F.cls, F.no, hy, p2.here s1 ry⟩
      · exact p1.elim
    · exact p1.elim
  · exact p1.elim
noncomputable def sFldA (c f : Str) (o v : ME) : MS := fun τ S => liftS (v τ S) τ fun y S1 => liftS (o τ S1) τ fun d S2 => match d with
  | .loc l => (match S2[l]? with
    | some (.ins c' fs) => if c' = c ∧ fs.length < 1000 then .nx τ (S2.set l (.ins c (putD f y fs))) else .bad
    | _ => .bad)
  | _ => .bad
theorem s_fld (F : FldC X.K c f C) (ho : PE X o (Em X.K W mo)) (hv : PE X v (Em X.K W mv)) (hs : swapsWith v (some (.Attribute o f pos')) pos.line X.env = pure false := by rfl) : PS X (.Assign [.Attribute o f pos'] v pos) (Sm X.K W (sFldA c f mo mv)) := PS_imp (ps_fld ho hv hs) fun D σ H ⟨ρ, τ, S, s, r, p⟩ => by
  refine Em_S (k := fun _ _ => .bad) s r p fun ρ1 H1 S1 y dy s1 r1 e1 v1 p1 => ?_
  refine Em_S (k := fun _ _ => .bad) s1 r1 p1 fun ρ2 H2 S2 a da s2 r2 e2 v2 p2 => ?_
  split at p2
  · rename_i l
    split at p2
    · rename_i c' fs e
      split at p2
      · rename_i ec
        obtain ⟨ec, hl1⟩ := ec
        subst ec
        cases v2 with
        | @loc b _ hl =>
          obtain ⟨C', dx, ws, hc, ha, hk⟩ := s2.at hl e
          rw [F.at_] at hc; cases hc
          refine ⟨b, C, dx, ws, rfl, ha, F.cls, F.no, by rw [hk.length]; exact hl1, ?_⟩
          have x : Ext ρ2 H2 ρ2 (upd H2 b (.ins C dx (putF f y ws))) := Ext.set hl (.of ha)
          exact p2 ρ2 σ _ x (s2.set hl ⟨C, dx, _, F.at_, upd_same, ((hk.put (v1.mono e2)).mono fun _ _ h => VR.mono x h)⟩) (r2.mono x)
      · exact p2.elim
    · exact p2.elim
  · exact p2.elim
theorem FnK.ok {P : Program} {w : World} {K : PySem.W.Frag} {mg : Str → Option Value} {base : Heap} {k : Nat} {g : Addr} {fd : FuncData} {ps : List Str} {h : List D → Sto → R D} (F : FnK P w K mg base k g fd ps h) : FnOk P w K mg base (L2.CX P w) k g fd ps (Sf K h) :=
  ⟨fun vs H Q E ⟨ρ, S, ds, s, v, q⟩ => by rw [v.length]; exact F.len ds S q.nbad, F.run⟩
theorem pass_no : Passes (L2.CX X.prog X.w) X (fun _ _ _ => False) := fun _ _ _ _ _ _ _ h => by
  obtain ⟨_, _, _, _, _, _, _, _, _, _, _, _, z⟩ := h
  exact z.elim
noncomputable def mMethO (c m : Str) (h : List D → Sto → R D) (o : ME) (r : MA) : ME := fun τ S => (o τ S).bind fun d S1 => match d with
  | .loc l => (match S1[l]? with
    | some (.ins c' fs) => if c' = c ∧ fs.lookup m = none then (r τ S1).bind fun ds S2 => noEx (h (.loc l :: ds) S2) else .bad
    | _ => .bad)
  | _ => .bad
theorem z_methO {k : Nat} {g : Addr} {fd : FuncData} {ps : List Str} {h : List D → Sto → R D} {pl : Sem Bool} (hat : clsAt X.K c = .ref C) (hcl : Cls X.K C) (hm : Meth X.K C m g) (F : FnK X.prog X.w X.K X.mg X.base k g fd ps h) (hr : Room k X.A) (hb : Binds X.K fd ps [])
    (ho : PE X o (Em X.K W mo)) (ha : PA X (e :: es) (Am X.K W mas))
    (hst : starEach (e :: es) X.env = (false, eval e X.env) :: starEach es X.env := by rfl) (hpl : (backTo pos (starEach es X.env)).any (·.1) = false := by rfl)
    (ht : eval (.Call (.Attribute o m apos) (e :: es) [] pos) X.env = (do
      let ov ← eval o X.env
      standAt apos.atName
      let (f, first) ← holding [ov] (getMethod ov m pl)
      callWith pos f first (backTo pos (starEach (e :: es) X.env)) (backToKw pos (keywordEach [] X.env))) := by rfl) :
    PE X (.Call (.Attribute o m apos) (e :: es) [] pos) (Em X.K W (mMethO c m h mo mas)) :=
  PE_imp (pe_meth (pl := pl) ho hcl hm F.ok hr hb .nil pass_no ha hst hpl ht) fun σ H Q ⟨ρ, τ, S, s, r, p⟩ => by
    refine Em_bind s r p fun ρ1 H1 S1 v d s1 r1 x1 v1 p1 => ?_
    split at p1
    · rename_i l
      split at p1
      · rename_i c' fs e'
        split at p1
        · rename_i ec
          obtain ⟨ec, hn⟩ := ec
          subst ec
          cases v1 with
          | @loc a _ hl =>
            obtain ⟨C', dx, ws, hc, hH, hk⟩ := s1.at hl e'
            rw [hat] at hc; cases hc
            refine ⟨a, dx, ws, rfl, hH, (hk.look (f := m)).1 hn, ?_⟩
            refine Am_bind s1 r1 p1 fun ρ2 H2 S2 vs ds s2 r2 x2 v2 p2 => ?_
            exact ⟨ρ2, S2, .loc l :: ds, s2, .cons (.loc (x2.get hl)) (by rw [List.append_nil]; exact v2), noEx_post p2⟩
        · exact p1.elim
      · exact p1.elim
    · exact p1.elim
noncomputable def mMake (c : Str) (h : List D → Sto → R D) (r : MA) : ME := fun τ S => (r τ S).bind fun ds S1 => (noEx (h (.loc S1.length :: ds) (S1 ++ [.ins c []]))).bind fun d S2 => match d with
  | .non => .ok (.loc S1.length) S2
  | _ => .bad
theorem z_make {k : Nat} {g : Addr} {fd : FuncData} {ps : List Str} {h : List D → Sto → R D} {p : Pos} {x : Str} (hat : clsAt X.K c = .ref C) (M : Mk X.K C g) (F : FnK X.prog X.w X.K X.mg X.base k g fd ps h) (hr : Room (k + 1) X.A) (hm : X.mg x = some (.ref C)) (hb : Binds X.K fd ps []) (ha : PA X (e :: es) (Am X.K W mas)) (hg : Gl X x := by rfl)
    (hdb : (x == ("__debug__" : Str)) = false := by decide) (he : starEach (e :: es) X.env = (false, eval e X.env) :: starEach es X.env := by rfl) (hpl : (backTo pos (starEach es X.env)).any (·.1) = false := by rfl) :
    PE X (.Call (.Name x p) (e :: es) [] pos) (Em X.K W (mMake c h mas)) :=
  PE_imp (pe_make M F.ok hr hg hm hb .nil pass_no ha hdb he hpl) fun σ H Q ⟨ρ, τ, S, s, r, p⟩ => by
    refine Am_bind s r p fun ρ1 H1 S1 vs ds s1 r1 x1 v1 p1 => ?_
    intro y dx hy hdx hne
    have xa : Ext ρ1 H1 ρ1 (upd H1 dx (.own y)) := Ext.fresh hdx
    have sa : SR X.K ρ1 S1 (upd H1 dx (.own y)) := s1.laid hdx
    have hy' : upd H1 dx (.own y) y = none := by rw [upd_ne (Ne.symm hne)]; exact hy
    have xb : Ext ρ1 (upd H1 dx (.own y)) (ρ1.push y) (upd (upd H1 dx (.own y)) y (.ins C dx [])) := Ext.push hy'
    have sb : SR X.K (ρ1.push y) (S1 ++ [.ins c []]) (upd (upd H1 dx (.own y)) y (.ins C dx [])) := sa.push hy' ⟨C, dx, [], hat, upd_same, .nil⟩
    have xc := xa.trans xb
    refine ⟨ρ1.push y, S1 ++ [.ins c []], .loc S1.length :: ds, sb, .cons (.loc (Pl.push_get sa)) (by rw [List.append_nil]; exact v1.mono xc), ?_⟩
    have p2 := Post.ext xc p1
    cases q : h (.loc S1.length :: ds) (S1 ++ [.ins c []]) with
    | bad => rw [q] at p2; exact p2
    | ex c2 fs2 S2 => rw [q] at p2; exact p2.elim
    | ok d S2 =>
      rw [q] at p2
      intro ρ3 H3 v e3 s3 v3
      simp only [noEx_ok, R.bind_ok] at p2
      split at p2
      · cases v3
        refine ⟨rfl, ?_⟩
        exact p2 ρ3 H3 _ e3 s3 (.loc (e3.get (Pl.push_get sa)))
      · exact p2.elim
end
section
variable {P : Program} {w : World} {K : PySem.W.Frag} {mg : Str → Option Value} {base : Heap}
theorem fnK_zero {k : Nat} {g : Addr} {fd : FuncData} {ps : List Str} : FnK P w K mg base k g fd ps (fun _ _ => .bad) := ⟨fun ds S h => absurd rfl h, fun A frs st H ar us vs Q E _ _ _ _ ⟨ρ, S, ds, s, v, p⟩ => p.elim⟩
end
end Z

namespace Z
open PySem L2
noncomputable def dSum : List D → Sto → R D
  | [d], S => (match listR d S with
    | some ds => (match intsOf ds with
      | some ns => .ok (.int ns.sum) S
      | none => .bad)
    | none => .bad)
  | _, _ => .bad
theorem dSum_ok {K : PySem.W.Frag} : CallS K dSum (rSum K) := fun Wk ρ S H vs ds Q s r h => by
  unfold dSum at h
  split at h
  · obtain ⟨v, rfl, rv⟩ := vrs1 r
    split at h
    · rename_i ds e
      obtain ⟨a, xs, rfl, h1, h2⟩ := listR_of s rv e
      split at h
      · rename_i ns e2
        have ex := ints_vrs h2 e2
        subst ex
        exact ⟨a, ns, rfl, h1, h.here s (.int _)⟩
      · exact h.elim
    · exact h.elim
  · exact h.elim
noncomputable def rgI (i j : Int) : List Int := (List.range (j - i).toNat).map fun (k : Nat) => i + (k : Int)
section
variable {X : Cx} {W : WX} {a b : Expr} {ma mb : ME} {p p2 pos pos2 : Pos}
end
theorem clsAt_of {K : PySem.W.Frag} {c : Str} {v : Value} (e : PySem.W.nsIn K mainGlobals c = some (some v)) : clsAt K c = v := by
  unfold clsAt; rw [e]
end Z

namespace Z
open PySem L2 PySem.Spec PyProof.Rows
noncomputable def AtomV (v : Value) : Prop := (∃ i t, v = .int i t) ∨ ∃ x t, v = .str x t
section
variable {P : Program} {w : World} {A : Around} {E : Value → Shared → Prop} {s : Shared}
structure RowAt (P : Program) (w : World) (h : Heap) (k : NestedKey) (b : Addr) : Prop where
  key : (nestedKind P w).is h k b
  flat : ∃ (o : Obj) (vs : Array Value) (n : Nat), h.get? b = some o ∧ o.cls = .type "tuple" ∧ o.data = .seq vs n ∧ ∀ v ∈ vs.toList, AtomV v
noncomputable abbrev rh (w : World) (k : NestedKey) : Int := NestedKey.hash w k
end
end Z

namespace Z
open PySem L2 PySem.Spec PyProof.Rows
noncomputable abbrev Rw := Addr × NestedKey
noncomputable def entriesN (w : World) (L : List Rw) : List (Int × Value) := L.map fun p => (rh w p.2, Value.ref p.1)
noncomputable abbrev hashesN (w : World) (L : List Rw) : List Int := L.map fun p => rh w p.2
noncomputable abbrev keysN (L : List Rw) : List NestedKey := L.map fun p => p.2
structure RowSet (P : Program) (w : World) (h : Heap) (a : Addr) (L : List Rw) (es : Array (Int × Value)) (ep : Nat) (t : SetTable) : Prop where
  obj : ∃ o, h.get? a = some o ∧ o.ExactSet ∧ o.data = .set es ep t
  ents : es.toList = entriesN w L
  tabOk : TabOk t (hashesN w L)
  once : (keysN L).Nodup
  row : ∀ p ∈ L, RowAt P w h p.2 p.1
  ledOr : w.params.followText "set-order" = true ∨ t.led = true
  space : L.length * 5 < t.mask * 3
  below : L.length < 64
section
variable {P : Program} {w : World} {A : Around} {E : Value → Shared → Prop} {s : Shared} {a : Addr} {L : List Rw} {es : Array (Int × Value)} {ep : Nat} {t : SetTable}
theorem RowSet.stays (R : RowSet P w s.heap a L es ep t) : ¬ t.gaveWay = true := by
  simp [SetTable.gaveWay, mask_odd R.tabOk.mok]
end
end Z

namespace Z
open PySem L2 PySem.Spec PyProof.Rows
section
variable {P : Program} {w : World} {A : Around} {E : Value → Shared → Prop} {s : Shared} {a : Addr} {L : List Rw} {es : Array (Int × Value)} {ep : Nat} {t : SetTable}
theorem RowAt.keep {h h' : Heap} {k : NestedKey} {b : Addr} (x : RowAt P w h k b) (hk : ∀ c o, h.get? c = some o → h'.get? c = some o) : RowAt P w h' k b := by
  obtain ⟨o, vs, n, g1, g⟩ := x.flat
  exact ⟨nestedKind_stays.stays (fun c oc vs n hc _ => hk c oc hc) x.key, o, vs, n, hk b o g1, g⟩
end
end Z

namespace Z
open PySem L2 PySem.Spec PyProof.Rows
structure Held (ks : List Rw) (i : Nat) (L : List Rw) : Prop where
  sub : ∀ p ∈ L, p ∈ ks.take i
  all : ∀ p ∈ ks.take i, p.2 ∈ keysN L
  len : L.length ≤ i
theorem Held.start (ks : List Rw) : Held ks 0 [] := ⟨by simp, by simp, Nat.le_refl _⟩
theorem take_more {α : Type} {l : List α} {i : Nat} {x : α} (h : l[i]? = some x) : l.take (i + 1) = l.take i ++ [x] := by rw [List.take_add_one, h]; rfl
theorem Held.next {ks L L' : List Rw} {i : Nat} {x : Rw} (g : Held ks i L) (h : ks[i]? = some x) (h1 : x.2 ∈ keysN L → L' = L) (h2 : x.2 ∉ keysN L → L'.Perm (x :: L)) : Held ks (i + 1) L' := by
  have tk := take_more h
  by_cases hm : x.2 ∈ keysN L
  · rw [h1 hm]
    refine ⟨fun p hp => by rw [tk]; exact List.mem_append_left _ (g.sub p hp), fun p hp => ?_, Nat.le_succ_of_le g.len⟩
    rw [tk] at hp
    rcases List.mem_append.mp hp with z | z
    · exact g.all p z
    · rw [List.mem_singleton.mp z]; exact hm
  · have pm := h2 hm
    refine ⟨fun p hp => ?_, fun p hp => (pm.map _).mem_iff.mpr ?_, by rw [pm.length_eq]; exact Nat.succ_le_succ g.len⟩
    · rw [tk]
      rcases List.mem_cons.mp (pm.mem_iff.mp hp) with rfl | z
      · exact List.mem_append_right _ (by simp)
      · exact List.mem_append_left _ (g.sub p z)
    · rw [tk] at hp
      rcases List.mem_append.mp hp with z | z
      · exact List.mem_cons_of_mem _ (g.all p z)
      · rw [List.mem_singleton.mp z]; exact List.mem_cons_self
section
variable {P : Program} {w : World} {A : Around} {E : Value → Shared → Prop} {s : Shared}
theorem RowSet.keep {h h' : Heap} {a : Addr} {L : List Rw} {es : Array (Int × Value)} {ep : Nat} {t : SetTable} (R : RowSet P w h a L es ep t) (ha : ∀ o, h.get? a = some o → h'.get? a = some o) (hr : ∀ p ∈ L, RowAt P w h' p.2 p.1) : RowSet P w h' a L es ep t := by
  obtain ⟨o, ho, r⟩ := R.obj
  exact ⟨⟨o, ha o ho, r⟩, R.ents, R.tabOk, R.once, hr, R.ledOr, R.space, R.below⟩
end
end Z

namespace Z
open PySem L2 PySem.Spec PyProof.Rows
section
variable {P : Program} {w : World} {A : Around} {E : Value → Shared → Prop} {s : Shared}
end
end Z

namespace Z
open PySem L2 PySem.Spec PyProof.Rows
section
variable {P : Program} {w : World} {A : Around} {E : Value → Shared → Prop} {s : Shared}
end
end Z

namespace Z
open PySem L2 PySem.Spec PyProof.Rows
section
variable {P : Program} {w : World} {A : Around} {E : Value → Shared → Prop} {s : Shared}
end
end Z

namespace Z
open PySem L2 PySem.Spec PyProof.Rows
section
variable {X : Cx}
noncomputable def RowS0 (P : Program) (w : World) (h : Heap) (a : Addr) (L : List Rw) : Prop := ∃ (es : Array (Int × Value)) (ep : Nat) (t : SetTable), (∃ o, h.get? a = some o ∧ o.ExactSet ∧ o.data = .set es ep t) ∧ es.toList = entriesN w L ∧ TabOk t (hashesN w L) ∧ (keysN L).Nodup ∧
  (w.params.followText "set-order" = true ∨ t.led = true) ∧ L.length * 5 < t.mask * 3 ∧ L.length < 64
theorem RowSet.s0 {P : Program} {w : World} {h : Heap} {a : Addr} {L : List Rw} {es : Array (Int × Value)} {ep : Nat} {t : SetTable} (R : RowSet P w h a L es ep t) : RowS0 P w h a L := ⟨es, ep, t, R.obj, R.ents, R.tabOk, R.once, R.ledOr, R.space, R.below⟩
end
end Z

namespace Z
open PySem L2 PySem.Spec PyProof.Rows
noncomputable def keyD : Key → D
  | .inl i => .int i
  | .inr x => .str x
noncomputable def rowD (ks : List Key) : D := .tup (ks.map keyD)
noncomputable def atomsD : List D → Option (List Key)
  | [] => some []
  | .int i :: ds => (atomsD ds).map (.inl i :: ·)
  | .str x :: ds => (atomsD ds).map (.inr x :: ·)
  | _ :: _ => none
noncomputable def rowOfD : D → Option (List Key)
  | .tup ds => atomsD ds
  | _ => none
end Z

namespace Z
open PySem L2 PySem.Spec
theorem atomsD_of : ∀ {ds : List D} {ks : List Key}, atomsD ds = some ks → ds = ks.map keyD
  | [], ks, h => by cases h; rfl
  | d :: ds, ks, h => by
    cases d <;> simp only [atomsD, Option.map_eq_some_iff, reduceCtorEq] at h
    · obtain ⟨ms, h1, rfl⟩ := h
      rw [atomsD_of h1]; rfl
    · obtain ⟨ms, h1, rfl⟩ := h
      rw [atomsD_of h1]; rfl
theorem vrs_atoms {K : PySem.W.Frag} {ρ : Pl} {H : Hp} : ∀ {vs : List V} {ks : List Key}, VRs K ρ H vs (ks.map keyD) → vs = ks.map kV
  | _, [], h => by cases h; rfl
  | _, k :: ks, h => by
    cases h with
    | cons r rs =>
      rw [vrs_atoms rs]
      cases k <;> (cases r; rfl)
theorem rowOfD_of {d : D} {k : List Key} (h : rowOfD d = some k) : d = rowD k := by
  cases d <;> simp only [rowOfD, reduceCtorEq] at h
  rw [atomsD_of h]; rfl
section
variable {X : Cx} {W : WX} {e : Expr} {m : ME} {p p2 q pos : Pos}
end
end Z

namespace Z
open PySem L2

section
variable {κ α : Type} [DecidableEq κ]
noncomputable def valG (kvs : List (κ × α)) (k : κ) : Option α := (kvs.find? fun kv => decide (kv.1 = k)).map (·.2)
noncomputable def putG (kvs : List (κ × α)) (k : κ) (v : α) : List (κ × α) :=
  if (kvs.any fun kv => decide (kv.1 = k)) = true then kvs.map (fun kv => if kv.1 = k then (kv.1, v) else kv) else kvs ++ [(k, v)]
theorem valG_cons {p : κ × α} {r : List (κ × α)} {k : κ} : valG (p :: r) k = if p.1 = k then some p.2 else valG r k := by
  unfold valG
  rw [List.find?_cons]
  by_cases e : p.1 = k <;> simp [e]
end
section
variable {κ : Type} [DecidableEq κ] {P : V → D → Prop} {ws : List (κ × V)} {kvs : List (κ × D)} {k : κ}
noncomputable def RelOD (P : V → D → Prop) : Option V → Option D → Prop
  | none, none => True
  | some v, some d => P v d
  | _, _ => False
theorem KR.val (h : KR P ws kvs) : RelOD P (valV ws k) (valG kvs k) := by
  induction h with
  | nil => exact True.intro
  | @cons k' v d vs ds h hs ih =>
    show RelOD P (valG ((k', v) :: vs) k) _
    rw [valG_cons, valG_cons]
    by_cases e : k' = k
    · rw [if_pos e, if_pos e]; exact h
    · rw [if_neg e, if_neg e]; exact ih
theorem RelOD.isSome {o : Option V} {u : Option D} (h : RelOD P o u) : o.isSome = u.isSome := by
  cases o <;> cases u <;> first | rfl | exact h.elim
theorem RelOD.get {o : Option V} {d : D} (h : RelOD P o (some d)) : ∃ v, o = some v ∧ P v d := by
  cases o with
  | none => exact h.elim
  | some v => exact ⟨v, rfl, h⟩
theorem KR.any (h : KR P ws kvs) : (ws.any fun kv => decide (kv.1 = k)) = kvs.any fun kv => decide (kv.1 = k) := by
  induction h with
  | nil => rfl
  | cons h hs ih => rw [List.any_cons, List.any_cons, ih]
theorem KR.app {ws' : List (κ × V)} {kvs' : List (κ × D)} (h : KR P ws kvs) (h' : KR P ws' kvs') : KR P (ws ++ ws') (kvs ++ kvs') := by
  induction h with
  | nil => exact h'
  | cons h hs ih => exact .cons h ih
theorem KR.putK {v : V} {d : D} (h : KR P ws kvs) (r : P v d) : KR P (L2.putK ws k v) (putG kvs k d) := by
  unfold L2.putK putG
  rw [h.any]
  split
  · rename_i hh
    clear hh
    induction h with
    | nil => exact .nil
    | @cons k' v' d' vs ds h hs ih =>
      rw [List.map_cons, List.map_cons]
      by_cases e : k' = k
      · simp only [e, if_true]; exact .cons r ih
      · simp only [e, if_false]; exact .cons h ih
  · exact h.app (.cons r .nil)
end
theorem kr_zip {K : PySem.W.Frag} {ρ : Pl} {H : Hp} {κ : Type} : ∀ {ws : List (κ × V)} {ds : List D}, VRs K ρ H (ws.map (·.2)) ds → KR (VR K ρ H) ws (List.zip (ws.map (·.1)) ds)
  | [], ds, h => by cases h; exact .nil
  | p :: ws, ds, h => by
    cases h with
    | cons r rs => exact .cons r (kr_zip rs)

noncomputable def kOf : D → Option Key
  | .int i => some (.inl i)
  | .str x => some (.inr x)
  | _ => none
theorem kOf_of {K : PySem.W.Frag} {ρ : Pl} {H : Hp} {v : V} {d : D} {k : Key} (r : VR K ρ H v d) (h : kOf d = some k) : v = kV k := by
  cases r <;> simp only [kOf, reduceCtorEq, Option.some.injEq] at h <;> subst h <;> rfl
theorem rolly_keys : ∀ k : List Key, rolly (k.map keyD) = false
  | [] => rfl
  | .inl _ :: _ => rfl
  | .inr _ :: _ => rfl
theorem row_at {K : PySem.W.Frag} {ρ : Pl} {H : Hp} {v : V} {d : D} {k : List Key} (r : VR K ρ H v d) (h : rowOfD d = some k) : ∃ b, v = .ref b ∧ H b = some (.tup (k.map kV)) := by
  have e := rowOfD_of h
  subst e
  obtain ⟨a, xs, rfl, g1, g2⟩ := tup_at (show VR K ρ H v (.tup (k.map keyD)) from r) (rolly_keys k)
  rw [vrs_atoms g2] at g1
  exact ⟨a, rfl, g1⟩
noncomputable def dLook (x y : D) (S : Sto) : Option (Option D) := match x with
  | .loc l => (match S[l]? with
    | some (.dK _ kvs) => (kOf y).map fun k => valG kvs k
    | some (.dT _ kvs) => (rowOfD y).map fun k => valG kvs k
    | _ => none)
  | .dct ks ds => (kOf y).map fun k => valG (List.zip ks ds) k
  | _ => none
theorem dLook_of {K : PySem.W.Frag} {ρ : Pl} {H : Hp} {S : Sto} {x y : V} {dx dy : D} {o : Option D} (s : SR K ρ S H) (rx : VR K ρ H x dx) (ry : VR K ρ H y dy) (h : dLook dx dy S = some o) : ∃ a ov, x = .ref a ∧ DGet H a y ov ∧ RelOD (VR K ρ H) ov o := by
  cases rx with
  | dct h1 h2 hk hs =>
    simp only [dLook, Option.map_eq_some_iff] at h
    obtain ⟨k, e, rfl⟩ := h
    have := kOf_of ry e
    subst this
    exact ⟨_, _, rfl, DGet.k h1, by rw [← hk]; exact (kr_zip hs).val⟩
  | @loc a l hl =>
    simp only [dLook] at h
    split at h
    · rename_i lk kvs e
      simp only [Option.map_eq_some_iff] at h
      obtain ⟨k, ek, rfl⟩ := h
      have := kOf_of ry ek
      subst this
      have c := s.at hl e
      cases lk
      · obtain ⟨ws, h1, h2⟩ := c
        exact ⟨a, _, rfl, DGet.k h1, h2.val⟩
      · obtain ⟨o, ws, h1, h2⟩ := c
        exact ⟨a, valV ws k, rfl, .inl ⟨ws, k, .inr ⟨o, h1⟩, rfl, rfl⟩, h2.val⟩
    · rename_i lk kvs e
      simp only [Option.map_eq_some_iff] at h
      obtain ⟨k, ek, rfl⟩ := h
      obtain ⟨b, rfl, hb⟩ := row_at ry ek
      have c := s.at hl e
      cases lk
      · obtain ⟨ws, h1, h2⟩ := c
        exact ⟨a, _, rfl, DGet.t h1 hb, h2.val⟩
      · obtain ⟨o, ws, h1, h2⟩ := c
        exact ⟨a, valV ws k, rfl, .inr ⟨ws, k, b, .inr ⟨o, h1⟩, rfl, hb, rfl⟩, h2.val⟩
    · cases h
  | _ => simp [dLook] at h

noncomputable def dIxA (x y : D) (S : Sto) : R D := match dLook x y S with
  | some o => ofO o S
  | none => dIx x y S
noncomputable def rIxA (K : PySem.W.Frag) : R2 := fun x y H Q => rIx K x y H Q ∨ ∃ a v, x = .ref a ∧ DGet H a y (some v) ∧ Q v H
section
variable {X : Cx}
theorem ix_dict (hu : X.A.units + 100 < cLine) : IxR X (fun x y H Q => ∃ a v, x = .ref a ∧ DGet H a y (some v) ∧ Q v H) := by
  intro value slice pins s σ H x y v u Q I rx ry ⟨a, z, e, g, q⟩ hs
  subst e
  obtain rfl : v = Value.ref a := rx
  exact PyProof.Rows.tail_any (dict_typeIs I g) PySem.F.slot_dict_getitem.lookup (d_getItem (by omega) I g ry fun w' s' I' r => ⟨z, H, I', r, q⟩) hs
theorem ix_any (hu : X.A.units + 100 < cLine) : IxR X (rIxA X.K) := ix_seq.or (ix_dict hu)
theorem dIxA_ok {K : PySem.W.Frag} : OpS K dIxA (rIxA K) := fun Wk ρ S H x y dx dy Q s rx ry h => by
  unfold dIxA at h
  split at h
  · rename_i o e
    obtain ⟨d, e1, p⟩ := ofO_post h
    subst e1
    obtain ⟨a, ov, rfl, g, r⟩ := dLook_of s rx ry e
    obtain ⟨v, rfl, rv⟩ := r.get
    exact .inr ⟨a, v, rfl, g, p.here s rv⟩
  · exact .inl (dIx_ok Wk ρ S H x y dx dy Q s rx ry h)
variable {W : WX} {e a b : Expr} {ma mb : ME} {pos : Pos}
theorem z_ixA (hu : X.A.units + 100 < cLine) (ha : PE X a (Em X.K W ma)) (hb : PE X b (Em X.K W mb)) (hs : PlainIx b := by exact fun _ _ => rfl) : PE X (.Subscript a b pos) (Em X.K W (mBin dIxA ma mb)) :=
  PE_imp (pe_ix (ix_any hu) ha hb hs) fun σ H Q h => Em_op dIxA_ok h
end

noncomputable def flatD : D → Option V
  | .non => some .non
  | .bl b => some (.bl b)
  | .int i => some (.int i)
  | .str x => some (.str x)
  | _ => none
noncomputable def flatDs : List D → Option (List V)
  | [] => some []
  | d :: ds => match flatD d, flatDs ds with
    | some v, some vs => some (v :: vs)
    | _, _ => none
theorem flatD_of {K : PySem.W.Frag} {ρ : Pl} {H : Hp} {v w : V} {d : D} (r : VR K ρ H v d) (h : flatD d = some w) : v = w ∧ flatV w = true := by
  cases r <;> simp only [flatD, reduceCtorEq, Option.some.injEq] at h <;> subst h <;> exact ⟨rfl, rfl⟩
theorem flatDs_of {K : PySem.W.Frag} {ρ : Pl} {H : Hp} : ∀ {vs ws : List V} {ds : List D}, VRs K ρ H vs ds → flatDs ds = some ws → vs = ws ∧ ws.all flatV = true
  | _, _, _, .nil, h => by simp only [flatDs, Option.some.injEq] at h; subst h; exact ⟨rfl, rfl⟩
  | _, _, _, .cons r rs, h => by
    simp only [flatDs] at h
    split at h
    · rename_i w ws h1 h2
      cases h
      obtain ⟨rfl, f1⟩ := flatD_of r h1
      obtain ⟨rfl, f2⟩ := flatDs_of rs h2
      exact ⟨rfl, by simp [f1] at f2 ⊢; exact f2⟩
    · cases h
noncomputable def inP (x y : D) (S : Sto) : Option Bool := match dLook y x S with
  | some o => some o.isSome
  | none => (match x, y with
    | x, .ktup ds => (match flatD x, flatDs ds with
      | some v, some vs => some (inV v vs)
      | _, _ => none)
    | .str ⟨⟨[c]⟩⟩, .str z => some (decide (c ∈ z.cps.toList))
    | x, y => (match toPy x S, toPy y S with
      | some p, some q => if inB p q = true then some (inPy p q) else none
      | _, _ => none))
noncomputable def dInA (x y : D) (S : Sto) : R D := ofO ((inP x y S).map .bl) S
noncomputable def dNotInA (x y : D) (S : Sto) : R D := ofO ((inP x y S).map fun b => .bl (!b)) S
noncomputable def rInA (X : Cx) (neg : Bool) : R2 := fun x y H Q => (∃ a o, y = .ref a ∧ DGet H a x o ∧ Q (.bl (if neg then !o.isSome else o.isSome)) H) ∨ rIn X.K neg x y H Q ∨
  (∃ (c : Nat) (z : Str), x = .str ⟨#[c]⟩ ∧ y = .str z ∧ Q (.bl (if neg then !decide (c ∈ z.cps.toList) else decide (c ∈ z.cps.toList))) H) ∨ rDat X InC (fun p q => if neg then !inPy p q else inPy p q) x y H Q
section
variable {X : Cx} (hu : X.A.units + 100 < cLine)
include hu
theorem op_inA : OpR X (compareOp .In) (rInA X false) := by
  refine OpR.or (r := fun x y H Q => ∃ a o, y = .ref a ∧ DGet H a x o ∧ Q (.bl o.isSome) H) ?_ (OpR.or op_in_seq (OpR.or op_in_sign (op_inP hu)))
  intro pins s σ H x y v u Q I rx ry ⟨a, o, e, g, q⟩
  subst e
  obtain rfl : u = Value.ref a := ry
  exact d_in (by omega) I g rx fun s' I' => ⟨.bl o.isSome, H, I', rfl, q⟩
theorem op_notInA : OpR X (compareOp .NotIn) (rInA X true) := by
  refine OpR.or (r := fun x y H Q => ∃ a o, y = .ref a ∧ DGet H a x o ∧ Q (.bl (!o.isSome)) H) ?_ (OpR.or op_notIn_seq (OpR.or op_notIn_sign (op_notInP hu)))
  intro pins s σ H x y v u Q I rx ry ⟨a, o, e, g, q⟩
  subst e
  obtain rfl : u = Value.ref a := ry
  exact d_notIn (by omega) I g rx fun s' I' => ⟨.bl (!o.isSome), H, I', rfl, q⟩
end
theorem inP_of {X : Cx} {ρ : Pl} {H : Hp} {S : Sto} {x y : V} {dx dy : D} {b : Bool} {neg : Bool} {Q : VK} (s : SR X.K ρ S H) (rx : VR X.K ρ H x dx) (ry : VR X.K ρ H y dy) (h : inP dx dy S = some b) (q : Q (.bl (if neg then !b else b)) H) : rInA X neg x y H Q := by
  unfold inP at h
  split at h
  · rename_i o e
    obtain ⟨a, ov, rfl, g, r⟩ := dLook_of s ry rx e
    cases h
    exact .inl ⟨a, ov, rfl, g, by rw [r.isSome]; exact q⟩
  · split at h
    · split at h
      · rename_i v vs h1 h2
        cases h
        obtain ⟨p, xs, rfl, g1, g2⟩ := ktup_of ry
        obtain ⟨rfl, f1⟩ := flatD_of rx h1
        obtain ⟨rfl, f2⟩ := flatDs_of g2 h2
        exact .inr (.inl ⟨p, xs, rfl, .inr g1, f1, f2, q⟩)
      · cases h
    · cases h
      cases rx; cases ry
      exact .inr (.inr (.inl ⟨_, _, rfl, rfl, q⟩))
    · split at h
      · rename_i p r h1 h2
        split at h
        · rename_i c
          cases h
          exact .inr (.inr (.inr ⟨p, r, rdP_of s rx h1, rdP_of s ry h2, inB_C _ _ c, q⟩))
        · cases h
      · cases h
theorem c_inA {X : Cx} (hu : X.A.units + 100 < cLine) : CmpZ X .In dInA := ⟨_, op_inA hu, fun Wk ρ S H x y dx dy Q s rx ry h => by
  obtain ⟨z, e, p⟩ := ofO_post h
  simp only [Option.map_eq_some_iff] at e
  obtain ⟨b, e1, rfl⟩ := e
  exact inP_of s rx ry e1 (p.here s (.bl _))⟩
theorem c_ninA {X : Cx} (hu : X.A.units + 100 < cLine) : CmpZ X .NotIn dNotInA := ⟨_, op_notInA hu, fun Wk ρ S H x y dx dy Q s rx ry h => by
  obtain ⟨z, e, p⟩ := ofO_post h
  simp only [Option.map_eq_some_iff] at e
  obtain ⟨b, e1, rfl⟩ := e
  exact inP_of s rx ry e1 (p.here s (.bl _))⟩

noncomputable def dGet1 : D → List D → Sto → R D
  | d, [y], S => (match dLook d y S with
    | some o => .ok (o.getD .non) S
    | none => .bad)
  | _, _, _ => .bad
noncomputable def dGet2 : D → List D → Sto → R D
  | d, [y, z], S => (match dLook d y S with
    | some o => .ok (o.getD z) S
    | none => .bad)
  | _, _, _ => .bad
section
variable {X : Cx} {W : WX} {o e f : Expr} {m : ME} {ms : MA} {apos cpos : Pos}
end
end Z

namespace Z
open PySem L2 PySem.Spec

noncomputable def dPut (a k y : D) (S : Sto) : Option Sto := match a with
  | .loc l => (match S[l]? with
    | some (.lst ds) => (match k with
      | .int n => (ixN ds.length n).map fun j => S.set l (.lst (ds.set j y))
      | _ => none)
    | some (.dK false kvs) => if kvs.length < sizeLine then (kOf k).map fun kk => S.set l (.dK false (putG kvs kk y)) else none
    | some (.dT false kvs) => if kvs.length < sizeLine then (rowOfD k).map fun kk => S.set l (.dT false (putG kvs kk y)) else none
    | _ => none)
  | _ => none
noncomputable def rSetA : V → V → V → Hp → (Hp → Prop) → Prop := fun o i v H Q => rSetL o i v H Q ∨ ∃ a H', o = .ref a ∧ DPut H a i v H' ∧ Q H'
theorem set_any {X : Cx} (hu : X.A.units + 100 < cLine) : PSet X rSetA := by
  intro pins s σ H o i v ov iv u Q I ro ri rv h
  rcases h with h | ⟨a, H', e, g, q⟩
  · exact set_list pins s σ H o i v ov iv u Q I ro ri rv h
  · subst e
    obtain rfl : ov = Value.ref a := ro
    exact d_setItem (by omega) I g ri rv fun s' I' => ⟨H', I', q⟩
theorem dPut_of {K : PySem.W.Frag} {ρ : Pl} {H : Hp} {S S' : Sto} {a k y : V} {da dk dy : D} {Q : Hp → Prop} (s : SR K ρ S H) (ra : VR K ρ H a da) (rk : VR K ρ H k dk) (ry : VR K ρ H y dy) (h : dPut da dk dy S = some S')
    (q : ∀ H', Ext ρ H ρ H' → SR K ρ S' H' → Q H') : rSetA a k y H Q := by
  cases ra with
  | @loc p l hl =>
    simp only [dPut] at h
    split at h
    · rename_i ds e
      split at h
      · rename_i n
        simp only [Option.map_eq_some_iff] at h
        obtain ⟨j, ej, rfl⟩ := h
        cases rk
        obtain ⟨xs, k1, k2⟩ := s.at hl e
        exact .inl ⟨p, xs, _, j, rfl, rfl, k1, by rw [k2.length]; exact ej, q _ (Ext.set hl (.of k1)) (s.set hl ⟨_, upd_same, (k2.set ry j).mono (Ext.set hl (.of k1))⟩)⟩
      · cases h
    · rename_i kvs e
      split at h
      · rename_i hz
        simp only [Option.map_eq_some_iff] at h
        obtain ⟨kk, ek, rfl⟩ := h
        have := kOf_of rk ek
        subst this
        obtain ⟨ws, k1, k2⟩ := s.at hl e
        have x : Ext ρ H ρ (upd H p (.dK (putK ws kk y))) := Ext.set hl (.of k1)
        exact .inr ⟨p, _, rfl, DPut.k k1 (by rw [k2.length]; exact hz), q _ x (s.set hl ⟨_, upd_same, (k2.putK ry).mono fun _ _ r => VR.mono x r⟩)⟩
      · cases h
    · rename_i kvs e
      split at h
      · rename_i hz
        simp only [Option.map_eq_some_iff] at h
        obtain ⟨kk, ek, rfl⟩ := h
        obtain ⟨b, rfl, hb⟩ := row_at rk ek
        obtain ⟨ws, k1, k2⟩ := s.at hl e
        have x : Ext ρ H ρ (upd H p (.dT (putK ws kk y))) := Ext.set hl (.of k1)
        exact .inr ⟨p, _, rfl, DPut.t k1 hb (by rw [k2.length]; exact hz), q _ x (s.set hl ⟨_, upd_same, (k2.putK ry).mono fun _ _ r => VR.mono x r⟩)⟩
      · cases h
    · cases h
  | _ => simp [dPut] at h

inductive TgS where
  | nm (i : Nat) | sub (o i : ME)
noncomputable def asgS : TgS → D → Tau → Sto → (Tau → Sto → RS) → RS
  | .nm i, d, τ, S, k => k (τ.set i (some d)) S
  | .sub o i, d, τ, S, k => liftS (o τ S) τ fun a S2 => liftS (i τ S2) τ fun x S3 => match dPut a x d S3 with
    | some S4 => k τ S4
    | none => .bad
noncomputable def asgAll : List TgS → List D → MS
  | [], [], τ, S => .nx τ S
  | t :: ts, d :: ds, τ, S => asgS t d τ S fun τ' S' => asgAll ts ds τ' S'
  | _, _, _, _ => .bad
noncomputable def sSubA (o i v : ME) : MS := fun τ S => liftS (v τ S) τ fun y S1 => asgS (.sub o i) y τ S1 fun τ S => .nx τ S
noncomputable def sTupS (ts : List TgS) (m : ME) : MS := fun τ S => liftS (m τ S) τ fun d S1 => match d with
  | .tup ds => if ds.length = ts.length then asgAll ts ds τ S1 else .bad
  | _ => .bad
noncomputable def gS (K : PySem.W.Frag) (W : WX) : TgS → TG
  | .nm i => gName i
  | .sub o i => gSub (Em K W o) (Em K W i) rSetA
section
variable {K : PySem.W.Frag} {W : WX}
theorem asgS_of {t : TgS} {d : D} {v : V} {τ : Tau} {S : Sto} {σ : St} {H : Hp} {ρ : Pl} {k : Tau → Sto → RS} {D' : Ends} {Q : St → Hp → Prop} (s : SR K ρ S H) (r : ER K ρ H τ σ) (rv : VR K ρ H v d) (h : PostS K W ρ H σ (asgS t d τ S k) D')
    (q : ∀ ρ1 H1 τ1 S1 σ1, Ext ρ H ρ1 H1 → SR K ρ1 S1 H1 → ER K ρ1 H1 τ1 σ1 → PostS K W ρ1 H1 σ1 (k τ1 S1) D' → Q σ1 H1) : gS K W t v σ H Q := by
  cases t with
  | nm i => exact q ρ H _ S _ Ext.refl s (r.set i rv) h
  | sub o i =>
    refine Em_S (k := fun _ _ => .bad) s r h fun ρ1 H1 S1 a da s1 r1 e1 v1 p1 => ?_
    refine Em_S (k := fun _ _ => .bad) s1 r1 p1 fun ρ2 H2 S2 x dx s2 r2 e2 v2 p2 => ?_
    split at p2
    · rename_i S4 e
      exact dPut_of s2 (v1.mono e2) v2 ((rv.mono e1).mono e2) e fun H' e3 s3 => q ρ2 H' τ S4 σ ((e1.trans e2).trans e3) s3 (r2.mono e3) (PostS.ext e3 p2)
    · exact p2.elim
end
section
variable {X : Cx} {W : WX} {e tg o i v : Expr} {m mo mi mv : ME} {pos pos' : Pos}
theorem s_subA (hu : X.A.units + 100 < cLine) (ho : PE X o (Em X.K W mo)) (hi : PE X i (Em X.K W mi)) (hv : PE X v (Em X.K W mv)) (ha : ∀ z, assign (.Subscript o i pos') X.env z = (do
      let ov ← holding [z] (eval o X.env)
      let iv ← holding [z, ov] (eval i X.env)
      standAt pos'
      holding [z, ov, iv] (setItem ov iv z)
      release [z, ov, iv] []) := by intro _; rfl) (hs : swapsWithSole [.Subscript o i pos'] v pos.line X.env = pure false := by rfl) (hw : swappedStores [.Subscript o i pos'] v X.env = pure none := by rfl)
    (h1 : (assignEach [.Subscript o i pos'] X.env).map (·.2) = [assign (.Subscript o i pos') X.env] := by rfl) : PS X (.Assign [.Subscript o i pos'] v pos) (Sm X.K W (sSubA mo mi mv)) :=
  PS_imp (ps_asg hv (pg_sub ho hi (set_any hu) ha) hs hw h1) fun D σ H ⟨ρ, τ, S, s, r, p⟩ =>
    Em_S (k := fun _ _ => .bad) s r p fun ρ1 H1 S1 y dy s1 r1 e1 v1 p1 => asgS_of (t := .sub mo mi) s1 r1 v1 p1 fun ρ2 H2 τ2 S2 σ2 e2 s2 r2 p2 => PostS.here p2 s2 r2
end

section
variable {K : PySem.W.Frag} {ρ ρ' : Pl} {H : Hp} {S : Sto}
mutual
theorem VR.sub (hm : ∀ a, a ∈ ρ' → a ∈ ρ) (hl : ∀ (l : Nat) a, ρ.loc[l]? = some a → ρ'.loc[l]? = some a) : ∀ {v : V} {d : D}, VR K ρ H v d → VR K ρ' H v d
  | _, _, .non => .non
  | _, _, .bl b => .bl b
  | _, _, .int i => .int i
  | _, _, .str x => .str x
  | _, _, .tup h h2 hs => .tup h (fun z => h2 (hm _ z)) (VRs.sub hm hl hs)
  | _, _, .ktup h hs => .ktup h (VRs.sub hm hl hs)
  | _, _, .lst h h2 hs => .lst h (fun z => h2 (hm _ z)) (VRs.sub hm hl hs)
  | _, _, .dct h h2 hk hs => .dct h (fun z => h2 (hm _ z)) hk (VRs.sub hm hl hs)
  | _, _, .scr h hs => .scr (h.imp (fun ⟨o, h1, h2⟩ => ⟨o, h1, fun z => h2 (hm _ z)⟩) id) (VRs.sub hm hl hs)
  | _, _, .loc h => .loc (hl _ _ h)
  | _, _, .ob v => .ob v
  | _, _, .fn h => .fn h
theorem VRs.sub (hm : ∀ a, a ∈ ρ' → a ∈ ρ) (hl : ∀ (l : Nat) a, ρ.loc[l]? = some a → ρ'.loc[l]? = some a) : ∀ {vs : List V} {ds : List D}, VRs K ρ H vs ds → VRs K ρ' H vs ds
  | _, _, .nil => .nil
  | _, _, .cons h hs => .cons (VR.sub hm hl h) (VRs.sub hm hl hs)
end
noncomputable def Pl.show (ρ : Pl) (p : Addr) : Pl := (ρ.bare p).push p
theorem Pl.show_mem {p : Addr} (hp : p ∈ ρ.hid) : ∀ a, a ∈ ρ.show p → a ∈ ρ := fun a h => by
  rcases h with h | h
  · rcases List.mem_append.mp (show a ∈ ρ.loc ++ [p] from h) with z | z
    · exact .inl z
    · have : a = p := by simpa using z
      subst this; exact .inr hp
  · exact .inr (List.mem_filter.mp h).1
theorem Pl.show_loc {p : Addr} : ∀ (l : Nat) a, ρ.loc[l]? = some a → (ρ.show p).loc[l]? = some a := fun l a h => by
  show (ρ.loc ++ [p])[l]? = some a
  rw [List.getElem?_append_left (List.getElem?_eq_some_iff.mp h).1]; exact h
theorem SR.show (r : SR K ρ S H) {p : Addr} {c : C} (hp : p ∈ ρ.hid) (hc : CR K (ρ.show p) H p c) : SR K (ρ.show p) (S ++ [c]) H := by
  refine ⟨by simp [Pl.show, Pl.push, Pl.bare, r.len], ?_, fun a ha => ?_, fun l d e => ?_⟩
  · show (ρ.loc ++ [p]).Nodup
    rw [List.nodup_append]
    refine ⟨r.nd, by simp, fun a ha b hb => ?_⟩
    have : b = p := by simpa using hb
    subst this
    rintro rfl
    exact (r.hd _ hp).1 ha
  · obtain ⟨ha1, ha2⟩ := List.mem_filter.mp (show a ∈ ρ.hid.filter _ from ha)
    obtain ⟨h1, u, hu, n'⟩ := r.hd a ha1
    refine ⟨fun q => ?_, u, hu, n'⟩
    rcases List.mem_append.mp (show a ∈ ρ.loc ++ [p] from q) with z | z
    · exact h1 z
    · exact of_decide_eq_true ha2 (by simpa using z)
  · by_cases hl : l < S.length
    · rw [List.getElem?_append_left hl] at e
      obtain ⟨a, h1, h2⟩ := r.cell l d e
      refine ⟨a, Pl.show_loc _ _ h1, h2.map (fun _ _ => VR.sub (Pl.show_mem hp) Pl.show_loc) (fun _ _ => VRs.sub (Pl.show_mem hp) Pl.show_loc) (fun c o e _ z => ⟨e, fun y => z (Pl.show_mem hp _ y)⟩) rfl⟩
    · have e2 : l = S.length := by
        have := (List.getElem?_eq_some_iff.mp e).1
        simp at this; omega
      subst e2
      rw [List.getElem?_append_right (Nat.le_refl _)] at e
      simp at e
      subst e
      refine ⟨p, ?_, hc⟩
      show (ρ.loc ++ [p])[S.length]? = some p
      rw [← r.len, List.getElem?_append_right (Nat.le_refl _)]; simp
theorem Ext.show {ρ0 : Pl} {H0 : Hp} {p : Addr} (e : Ext ρ0 H0 ρ H) (h0 : H0 p = none) (hn : p ∉ ρ0.hid) : Ext ρ0 H0 (ρ.show p) H := ⟨by
  obtain ⟨r, h⟩ := e.pre
  exact ⟨r ++ [p], by show ρ.loc ++ [p] = _; rw [h]; simp⟩, fun a q => List.mem_filter.mpr ⟨e.hid a q, decide_eq_true (by rintro rfl; exact hn q)⟩, fun a q => by
  rcases List.mem_append.mp (show a ∈ ρ.loc ++ [p] from q) with z | z
  · exact e.newL a z
  · have : a = p := by simpa using z
    subst this; exact .inr (.none h0), fun a q => e.newH a (List.mem_filter.mp q).1, e.keep, e.live, e.frz⟩
end
noncomputable def pairsR : List (ME × ME) → Tau → Sto → R (List (Key × D))
  | [], _, S => .ok [] S
  | p :: r, τ, S => (p.1 τ S).bind fun x S1 => (p.2 τ S1).bind fun y S2 => (pairsR r τ S2).bind fun ps S3 => match kOf x with
    | some k => .ok ((k, y) :: ps) S3
    | none => .bad
noncomputable abbrev dispOk (kvs : List (Key × D)) : Prop := kvs.length ≤ 15 ∧ (kvs.map (·.1)).Nodup
noncomputable def mDisp (ps : List (ME × ME)) : ME := fun τ S => (pairsR ps τ S).bind fun kvs S1 => guardR (dispOk kvs) (.ok (.dct (kvs.map (·.1)) (kvs.map (·.2))) S1)
noncomputable def mDispN (ps : List (ME × ME)) : ME := fun τ S => (pairsR ps τ S).bind fun kvs S1 => guardR (dispOk kvs) (.ok (.loc S1.length) (S1 ++ [.dK false kvs]))
theorem KR.keys {κ : Type} {P : V → D → Prop} : ∀ {ws : List (κ × V)} {kvs : List (κ × D)}, KR P ws kvs → ws.map (·.1) = kvs.map (·.1)
  | _, _, .nil => rfl
  | _, _, .cons _ hs => by simp [KR.keys hs]
theorem KR.vals {K : PySem.W.Frag} {ρ : Pl} {H : Hp} {κ : Type} : ∀ {ws : List (κ × V)} {kvs : List (κ × D)}, KR (VR K ρ H) ws kvs → VRs K ρ H (ws.map (·.2)) (kvs.map (·.2))
  | _, _, .nil => .nil
  | _, _, .cons h hs => .cons h (KR.vals hs)
theorem pairs_of {K : PySem.W.Frag} {W : WX} {A' B' : Type} {rel' : Pl → Hp → B' → A' → Prop} {Q : B' → Hp → Prop} {τ : Tau} {σ : St} {ρ0 : Pl} {H0 : Hp} : ∀ {ps : List (ME × ME)} {f : List (Key × D) → Sto → R A'} {ρ : Pl} {S : Sto} {H : Hp} {Q1 : List (V × V) → Hp → Prop}, SR K ρ S H → ER K ρ H τ σ → Ext ρ0 H0 ρ H → Post K (fun c d H' => W c d σ H') ρ0 H0 ((pairsR ps τ S).bind f) rel' Q →
    (∀ ρ1 H1 S1 kvs ws, SR K ρ1 S1 H1 → Ext ρ H ρ1 H1 → KR (VR K ρ1 H1) ws kvs → Post K (fun c d H' => W c d σ H') ρ0 H0 (f kvs S1) rel' Q → Q1 (ws.map fun kv => (kV kv.1, kv.2)) H1) → tPairs (ps.map fun p => (Em K W p.1, Em K W p.2)) σ H Q1
  | [], f, ρ, S, H, Q1, s, r, e0, p, k => k ρ H S [] [] s Ext.refl .nil p
  | q :: ps, f, ρ, S, H, Q1, s, r, e0, p, k => by
    have bb : ∀ {A B C : Type} (o : R A) (g : A → Sto → R B) (h : B → Sto → R C), (o.bind g).bind h = o.bind fun a S => (g a S).bind h := by
      intro A B C o g h; cases o <;> rfl
    simp only [pairsR, bb] at p
    refine ⟨ρ, τ, S, s, r, ?_⟩
    cases q1 : q.1 τ S with
    | bad => rw [q1] at p; exact p.elim
    | ex c fs S' => rw [q1] at p; exact Post.ext e0 p
    | ok x S1 =>
      rw [q1] at p
      simp only [R.bind_ok] at p
      intro ρ1 H1 v e1 s1 v1
      refine ⟨ρ1, τ, S1, s1, r.mono e1, ?_⟩
      cases q2 : q.2 τ S1 with
      | bad => rw [q2] at p; exact p.elim
      | ex c fs S' => rw [q2] at p; exact Post.ext (e0.trans e1) p
      | ok y S2 =>
        rw [q2] at p
        simp only [R.bind_ok] at p
        intro ρ2 H2 w e2 s2 v2
        refine pairs_of (ps := ps) s2 ((r.mono e1).mono e2) ((e0.trans e1).trans e2) p fun ρ3 H3 S3 kvs ws s3 e3 k3 p3 => ?_
        cases q3 : kOf x with
        | none => rw [q3] at p3; exact p3.elim
        | some kk =>
          rw [q3] at p3
          have := kOf_of v1 q3
          subst this
          exact k ρ3 H3 S3 _ ((kk, w) :: ws) s3 ((e1.trans e2).trans e3) (.cons (v2.mono e3) k3) p3
section
variable {X : Cx} {W : WX} {pos : Pos} {keys : List (Option Expr)} {values : List Expr} {ps : List (ME × ME)}
end

end Z

namespace Z
open PySem L2 PySem.Spec

section
variable {K : PySem.W.Frag} {W : WX} {ρ ρ' : Pl} {H H' : Hp} {S S' : Sto} {τ : Tau} {σ : St}
end
section
variable {X : Cx} {W : WX} {st : Stmt} {e : Expr} {m me : ME} {ms : MS}
end

noncomputable def pairD (p : Key × D) : D := .tup [keyD p.1, p.2]
noncomputable def valsOf : D → Sto → Option Items
  | .loc l, S => (match S[l]? with
    | some (.dK true kvs) => some ⟨kvs.map (·.2), [(l, .dK true kvs)]⟩
    | _ => none)
  | _, _ => none
noncomputable def itemsOfD : D → Sto → Option Items
  | .loc l, S => (match S[l]? with
    | some (.dK true kvs) => some ⟨kvs.map pairD, [(l, .dK true kvs)]⟩
    | _ => none)
  | _, _ => none
noncomputable def iVal (m : ME) : MI := fun τ S => (m τ S).bind fun d S1 => ofO (valsOf d S1) S1
noncomputable def iItm (m : ME) : MI := fun τ S => (m τ S).bind fun d S1 => ofO (itemsOfD d S1) S1
section
variable {K : PySem.W.Frag} {ρ0 : Pl} {H0 : Hp}
theorem KR.getV {κ : Type} {P : V → D → Prop} : ∀ {ws : List (κ × V)} {kvs : List (κ × D)} {i : Nat} {k : κ} {v : V}, KR P ws kvs → ws[i]? = some (k, v) → ∃ d, kvs[i]? = some (k, d) ∧ P v d
  | _, _, _, _, _, .nil, h => by simp at h
  | _, _, 0, _, _, .cons r _, h => by simp at h; obtain ⟨rfl, rfl⟩ := h; exact ⟨_, rfl, r⟩
  | _, _, i + 1, k, v, .cons _ rs, h => by
    obtain ⟨d, h1, h2⟩ := KR.getV (i := i) rs (by simpa using h)
    exact ⟨d, by simpa using h1, h2⟩
theorem KR.get {κ : Type} {P : V → D → Prop} : ∀ {ws : List (κ × V)} {kvs : List (κ × D)} {i : Nat}, KR P ws kvs → i < kvs.length → ∃ p, ws[i]? = some p := fun h hi => ⟨_, List.getElem?_eq_getElem (by rw [h.length]; exact hi)⟩
end
section
variable {X : Cx} {W : WX} {tg e : Expr} {m : ME} {apos cpos : Pos}
end

open Classical in
section
variable {X : Cx} {W : WX} {c : Expr} {body : List Stmt} {t : MT} {mb : MS} {pos : Pos}
end
end Z

namespace Z
open PySem PySem.Spec L2
section
variable {P : Program} {w : World} {A : Around} {E : Value → Shared → Prop} {s : Shared}
noncomputable def zh2 (h : Heap) (o1 o2 : Obj) : Heap := (h.push o1).push o2
noncomputable def zh4 (h : Heap) (o1 o2 : Obj) : Heap := ((zh2 h o1 o2).push { cls := .type "tuple", data := .seq #[.ref h.objs.size, .ref (h.push o1).objs.size] }).push { cls := .type "tuple", data := .seq #[.none, .none] }
noncomputable def zh5 (h : Heap) (o1 o2 : Obj) : Heap := (zh4 h o1 o2).push { cls := .type "zip", data := .fields #[.none, .bool false, .bool false, .ref (zh2 h o1 o2).objs.size, .ref ((zh2 h o1 o2).push { cls := .type "tuple", data := .seq #[.ref h.objs.size, .ref (h.push o1).objs.size] }).objs.size] }
theorem zip_made {v1 v2 : Value} {o1 o2 : Obj} {H1 H2 : Heap → Prop} (B1 : Begins v1 o1 H1) (B2 : Begins v2 o2 H2) :
    Meets (Builtin.«zip.__new__» ⟨[.type "zip", v1, v2], []⟩) (fun _ R z => H1 z.heap ∧ H2 z.heap ∧ R (.ok (.ret (.ref (zh4 z.heap o1 o2).objs.size))) { z with heap := zh5 z.heap o1 o2 }) :=
  .of_wp fun P w A R z hz => by
    obtain ⟨h0, g0, d0, t0, q0⟩ := z
    obtain ⟨hA, hB, hR⟩ := hz
    have hsub := sub_zip
    have hB2 : H2 (h0.push o1) := B2.keeps _ _ hB fun b o e => Heap.get?_push_of_some _ e
    have first_ : ∀ {A' : Around} {E : Value → Shared → Prop} {Q : Value → Shared → Prop}, Q (.ref h0.objs.size) ⟨h0.push o1, g0, d0, t0, q0⟩ → wpAny (model P w) A' (pyIter v1) Q E ⟨h0, g0, d0, t0, q0⟩ :=
      fun q => B1.iter P w _ _ ⟨h0, g0, d0, t0, q0⟩ _ hA q
    have second_ : ∀ {A' : Around} {E : Value → Shared → Prop} {Q : Value → Shared → Prop}, Q (.ref (h0.push o1).objs.size) ⟨(h0.push o1).push o2, g0, d0, t0, q0⟩ → wpAny (model P w) A' (pyIter v2) Q E ⟨h0.push o1, g0, d0, t0, q0⟩ :=
      fun q => B2.iter P w _ _ ⟨h0.push o1, g0, d0, t0, q0⟩ _ hB2 q
    wp_walk using first_, second_
    exact ⟨_, rfl, hR⟩
theorem zip_called {v1 v2 : Value} {o1 o2 : Obj} {H1 H2 : Heap → Prop} {Q : Value → Shared → Prop} (B1 : Begins v1 o1 H1) (B2 : Begins v2 o2 H2) (h1 : H1 s.heap) (h2 : H2 s.heap)
    (k : ∀ h', IsZip h' (s.heap.objs.size + 4) (s.heap.objs.size + 2) (s.heap.objs.size + 3) .none → IsTupOf2 h' (s.heap.objs.size + 2) (.ref s.heap.objs.size) (.ref (s.heap.objs.size + 1)) → IsTupOf2 h' (s.heap.objs.size + 3) .none .none →
      h'.get? s.heap.objs.size = some o1 → h'.get? (s.heap.objs.size + 1) = some o2 → (∀ c o, s.heap.get? c = some o → h'.get? c = some o) → Q (.ref (s.heap.objs.size + 4)) { s with heap := h' }) :
    wpAny (model P w) A (call (.type "zip") [v1, v2]) Q E s := by
  refine callType_new F.called_zip (by decide) (F.typeCall_zip_2 _ _) (F.newCall_zip_2 _ _) (fun obj => F.args_object_init_3 obj _ _) F.entry_zip_new (zip_made B1 B2) ⟨h1, h2, ?_⟩
  have n1 : (s.heap.push o1).objs.size = s.heap.objs.size + 1 := Heap.size_push ..
  have n2 : (zh2 s.heap o1 o2).objs.size = s.heap.objs.size + 2 := by unfold zh2; rw [Heap.size_push, n1]
  have n3 : ((zh2 s.heap o1 o2).push { cls := .type "tuple", data := .seq #[.ref s.heap.objs.size, .ref (s.heap.push o1).objs.size] }).objs.size = s.heap.objs.size + 3 := by rw [Heap.size_push, n2]
  have n4 : (zh4 s.heap o1 o2).objs.size = s.heap.objs.size + 4 := by unfold zh4; rw [Heap.size_push, n3]
  have up : ∀ c o, (zh2 s.heap o1 o2).get? c = some o → (zh5 s.heap o1 o2).get? c = some o := fun c o e => Heap.get?_push_of_some _ (Heap.get?_push_of_some _ (Heap.get?_push_of_some _ e))
  have a1 : (zh5 s.heap o1 o2).get? s.heap.objs.size = some o1 := up _ _ (Heap.get?_push_of_some _ (Heap.get?_push_size _ B1.free))
  have a2 : (zh5 s.heap o1 o2).get? (s.heap.push o1).objs.size = some o2 := up _ _ (Heap.get?_push_size _ B2.free)
  have a3 : (zh5 s.heap o1 o2).get? (zh2 s.heap o1 o2).objs.size = some _ := Heap.get?_push_of_some _ (Heap.get?_push_of_some _ (Heap.get?_push_size _ rfl))
  have a4 : (zh5 s.heap o1 o2).get? ((zh2 s.heap o1 o2).push { cls := .type "tuple", data := .seq #[.ref s.heap.objs.size, .ref (s.heap.push o1).objs.size] }).objs.size = some _ := Heap.get?_push_of_some _ (Heap.get?_push_size _ rfl)
  have a5 : (zh5 s.heap o1 o2).get? (zh4 s.heap o1 o2).objs.size = some _ := Heap.get?_push_size _ rfl
  show _ ∧ _
  rw [n4, n2, n3] at a5
  rw [n2, n1] at a3
  rw [n3] at a4
  rw [n1] at a2
  rw [n4]
  exact ⟨⟨_, a5, rfl⟩, k _ a5 a3 a4 a1 a2 fun c o x => up _ _ (Heap.get?_push_of_some _ (Heap.get?_push_of_some _ x))⟩
end
noncomputable def ItzTL (bf : Nat → Bool) (K : PySem.W.Frag) (a b : Addr) : It :=
  ⟨fun i H => ∃ (xs ys : List V) (x y : V), SqT K H a xs ∧ SqL K H b ys ∧ xs[i]? = some x ∧ ys[i]? = some y,
    fun i H v H' => ∃ T x y o, v = .ref T ∧ H T = none ∧ o.dict = none ∧ H' = upd H T (tupHO (bf i) o [x, y]) ∧ (∀ xs, SqT K H a xs → xs[i]? = some x) ∧ ∀ ys, SqL K H b ys → ys[i]? = some y,
    fun i H => ∃ xs ys : List V, SqT K H a xs ∧ SqL K H b ys ∧ i ≤ xs.length ∧ i ≤ ys.length ∧ (i = xs.length ∨ i = ys.length)⟩
noncomputable def ItzTT (bf : Nat → Bool) (K : PySem.W.Frag) (a b : Addr) : It :=
  ⟨fun i H => ∃ (xs ys : List V) (x y : V), SqT K H a xs ∧ SqT K H b ys ∧ xs[i]? = some x ∧ ys[i]? = some y,
    fun i H v H' => ∃ T x y o, v = .ref T ∧ H T = none ∧ o.dict = none ∧ H' = upd H T (tupHO (bf i) o [x, y]) ∧ (∀ xs, SqT K H a xs → xs[i]? = some x) ∧ ∀ ys, SqT K H b ys → ys[i]? = some y,
    fun i H => ∃ xs ys : List V, SqT K H a xs ∧ SqT K H b ys ∧ i ≤ xs.length ∧ i ≤ ys.length ∧ (i = xs.length ∨ i = ys.length)⟩
noncomputable def ItzLL (bf : Nat → Bool) (K : PySem.W.Frag) (a b : Addr) : It :=
  ⟨fun i H => ∃ (xs ys : List V) (x y : V), SqL K H a xs ∧ SqL K H b ys ∧ xs[i]? = some x ∧ ys[i]? = some y,
    fun i H v H' => ∃ T x y o, v = .ref T ∧ H T = none ∧ o.dict = none ∧ H' = upd H T (tupHO (bf i) o [x, y]) ∧ (∀ xs, SqL K H a xs → xs[i]? = some x) ∧ ∀ ys, SqL K H b ys → ys[i]? = some y,
    fun i H => ∃ xs ys : List V, SqL K H a xs ∧ SqL K H b ys ∧ i ≤ xs.length ∧ i ≤ ys.length ∧ (i = xs.length ∨ i = ys.length)⟩
structure ZSep (z TI TO i1 i2 a b : Addr) : Prop extends ZipSep2 z TI TO i1 i2 [i1, a] [i2, b] where
  sepA : a ≠ i1
  sepB : b ≠ i2
theorem zsep {z TI TO i1 i2 a b : Addr} (c1 : a ∉ [z, TI, TO, i1, i2]) (c2 : b ∉ [z, TI, TO, i1, i2]) (nd : [z, TI, TO, i1, i2].Nodup) : ZSep z TI TO i1 i2 a b := by
  simp only [List.nodup_cons, List.mem_cons, List.not_mem_nil, or_false, not_or] at nd c1 c2
  obtain ⟨⟨n1, n2, n3, n4⟩, ⟨n5, n6, n7⟩, ⟨n8, n9⟩, n10, _⟩ := nd
  obtain ⟨a1, a2, a3, a4, a5⟩ := c1
  obtain ⟨b1, b2, b3, b4, b5⟩ := c2
  refine { TIz := Ne.symm n1, TOz := Ne.symm n2, TITO := n5, TIi1 := n6, mem1 := by simp, zf1 := ?_, Tf1 := ?_, TIi2 := n7, mem2 := by simp, zf2 := ?_, Tf2 := ?_, sep1_2 := ?_, sep2_1 := ?_, sepA := a4, sepB := b5 }
  all_goals simp only [List.mem_cons, List.not_mem_nil, or_false, not_or]
  · exact ⟨n3, Ne.symm a1⟩
  · exact ⟨n8, Ne.symm a3⟩
  · exact ⟨n4, Ne.symm b1⟩
  · exact ⟨n9, Ne.symm b3⟩
  · exact ⟨n10, Ne.symm b4⟩
  · exact ⟨Ne.symm n10, Ne.symm a5⟩
theorem turn_zipTL {bf : Nat → Bool} {P : Program} {w : World} {K : PySem.W.Frag} {elts : List Expr} {kk : Nat} {tpos : Pos} {a b z TI TO i1 i2 : Addr} (c1 : a ∉ [z, TI, TO, i1, i2]) (c2 : b ∉ [z, TI, TO, i1, i2]) (nd : [z, TI, TO, i1, i2].Nodup) :
    Turn P w K (.Tuple elts kk tpos) (ItzTL bf K a b) [z, TI, TO, i1, i2] z (fun i h => IsZip h z TI TO .none ∧ IsTupOf2 h TI (.ref i1) (.ref i2) ∧ (∃ x y, IsTupOf2 h TO x y) ∧ h.IsTupleIter i1 a i ∧ h.IsListIter i2 b i) where
  mem := by simp
  obj := fun i h st c hc => by
    obtain ⟨hz, hTI, ⟨x, y, hTO⟩, ⟨o1, e1, _, d1⟩, ⟨o2, e2, _, d2⟩⟩ := st
    rcases (show c = z ∨ c = TI ∨ c = TO ∨ c = i1 ∨ c = i2 by simpa using hc) with q | q | q | q | q
    · rw [q]; exact ⟨_, hz, fun v q => nomatch q⟩
    · rw [q]; exact ⟨_, hTI, fun v q => nomatch q⟩
    · rw [q]; exact ⟨_, hTO, fun v q => nomatch q⟩
    · rw [q]; exact ⟨o1, e1, fun v q => by rw [d1] at q; cases q⟩
    · rw [q]; exact ⟨o2, e2, fun v q => by rw [d2] at q; cases q⟩
  keep := fun i h h' st k => ⟨k z (by simp) _ st.1, k TI (by simp) _ st.2.1, let ⟨x, y, q⟩ := st.2.2.1; ⟨x, y, k TO (by simp) _ q⟩, st.2.2.2.1.at fun o q => k i1 (by simp) o q, st.2.2.2.2.at fun o q => k i2 (by simp) o q⟩
  item := by
    intro X hP hw hK hc i pins s σ H E I hf st hg
    subst hP hw hK
    obtain ⟨hz, hTI, ⟨x0, y0, hTO⟩, h1, h2⟩ := st
    obtain ⟨xs, ys, x, y, hqx, hqy, hx, hy⟩ := hg
    obtain ⟨its, rv, p, _⟩ := I.tuple hqx
    obtain ⟨its2, rv2, p2, _⟩ := I.list hqy
    obtain ⟨u, hu, ru⟩ := rv.get hx
    obtain ⟨u2, hu2, ru2⟩ := rv2.get hy
    have hzl := Heap.lt_size hz
    have S := zsep c1 c2 nd
    refine wpAny_pyNext_zipD2_item S.toZipSep2 (Draws.tuple (A := X.A.in1) (by simp [I.ok.hd hc]) i1 a S.sepA its.toArray) (Draws.list (A := X.A.in1) (by simp [I.ok.hd hc]) i2 b S.sepB its2.toArray) hz hTI hTO ⟨h1, p⟩ ⟨h2, p2.isList⟩ (by
      have := (List.getElem?_eq_some_iff.mp hu).1; simpa using this) (by
      have := (List.getElem?_eq_some_iff.mp hu2).1; simpa using this) fun x1 x2 h' tk e1 e2 hz' hTO' st1 st2 hT hsz hk => ?_
    have e1' : x1 = u := by
      have e1 : its.toArray[i]? = some x1 := e1
      have : its.toArray[i]? = some u := by simpa using hu
      rw [e1] at this; exact Option.some.inj this
    have e2' : x2 = u2 := by
      have e2 : its2.toArray[i]? = some x2 := e2
      have : its2.toArray[i]? = some u2 := by simpa using hu2
      rw [e2] at this; exact Option.some.inj this
    subst e1' e2'
    refine ⟨_, rfl, wpAny_letOwnedTupleGo_zip (s := { s with heap := h', toks := tk }) hz' fun h'' z'' sb => ?_⟩
    have hT2 : h''.get? s.heap.objs.size = some { cls := .type "tuple", data := .seq #[x1, x2] } := (sb.2 _ (Nat.ne_of_gt hzl)).trans hT
    have new : ObjOk X.prog X.w (upd H s.heap.objs.size (tupHO (bf i) { cls := .type "tuple", data := .seq #[x1, x2] } [x, y])) h'' s.heap.objs.size (tupHO (bf i) { cls := .type "tuple", data := .seq #[x1, x2] } [x, y]) :=
      objOk_tup (its := [x1, x2]) (by show 2 ≤ sizeLine; decide) (.cons ru (.cons ru2 .nil)) hT2 rfl rfl
    have I1 : Inv X pins σ (upd H s.heap.objs.size (tupHO (bf i) { cls := .type "tuple", data := .seq #[x1, x2] } [x, y])) { s with heap := h'', toks := tk } :=
      I.turnedNew (t' := tk) (ch := [z, TI, TO, i1, i2]) (fun c o hb q => (sb.2 c fun q' => hb (by simp [q'])).trans (hk c o (fun q' => hb (by simp [q'])) (fun q' => hb (by simp [q'])) (fun q' => hb (by simp [q'])) (fun q' => hb (by simp [q'])) q)) hf (Nat.le_refl _) new
    refine ⟨.ref s.heap.objs.size, _, I1, rfl, ⟨_, x, y, _, rfl, I.hok.fresh (Nat.le_refl _), rfl, rfl, fun l hl => by rw [I.tuple_inj hl hqx]; exact hx, fun l hl => by rw [I.list_inj hl hqy]; exact hy⟩, ⟨z'', ?_, ⟨x1, x2, ?_⟩, ?_, ?_⟩, fun c hcm => ?_⟩
    · exact (sb.2 _ S.TIz).trans (hk _ _ S.TIz S.TITO S.TIi1 S.TIi2 hTI)
    · exact (sb.2 _ S.TOz).trans hTO'
    · exact st1.1.at fun o q => (sb.2 _ S.zi1.symm).trans q
    · exact st2.1.at fun o q => (sb.2 _ S.zi2.symm).trans q
    · have hlt : c < s.heap.objs.size := by
        rcases (show c = z ∨ c = TI ∨ c = TO ∨ c = i1 ∨ c = i2 by simpa using hcm) with q | q | q | q | q
        · rw [q]; exact hzl
        · rw [q]; exact Heap.lt_size hTI
        · rw [q]; exact Heap.lt_size hTO
        · rw [q]; obtain ⟨_, e1, _⟩ := h1; exact Heap.lt_size e1
        · rw [q]; obtain ⟨_, e2, _⟩ := h2; exact Heap.lt_size e2
      rw [upd_ne (Nat.ne_of_lt hlt)]
      exact (hf c hcm).1
  done := by
    intro X hP hw hK hc i pins s σ H E I hf st hg
    subst hP hw hK
    obtain ⟨hz, hTI, ⟨x0, y0, hTO⟩, h1, h2⟩ := st
    obtain ⟨xs, ys, hqx, hqy, l1, l2, hend⟩ := hg
    obtain ⟨its, rv, p, _⟩ := I.tuple hqx
    obtain ⟨its2, rv2, p2, _⟩ := I.list hqy
    have S := zsep c1 c2 nd
    have e1 : its.toArray.size = xs.length := by rw [List.size_toArray, rv.length]
    have e2 : its2.toArray.size = ys.length := by rw [List.size_toArray, rv2.length]
    exact wpAny_pyNext_zipD2_end S.toZipSep2 (Draws.tuple (A := X.A.in1) (by simp [I.ok.hd hc]) i1 a S.sepA its.toArray) (Draws.list (A := X.A.in1) (by simp [I.ok.hd hc]) i2 b S.sepB its2.toArray) hz hTI hTO ⟨h1, p⟩ ⟨h2, p2.isList⟩ (by omega) (by omega) (by omega) fun h' tk hk => ⟨rfl, I.turnedL (t' := tk) (ch := [z, TI, TO, i1, i2]) (fun c o hb q =>
      hk c o (fun q' => hb (by simp [q'])) (fun q' => hb (by simp [q'])) (fun q' => hb (by simp [q'])) (fun q' => hb (by simp [q'])) q) hf⟩
  self := fun A i s Q E st h => wpAny_pyIter_zip st.1 h
theorem turn_zipTT {bf : Nat → Bool} {P : Program} {w : World} {K : PySem.W.Frag} {elts : List Expr} {kk : Nat} {tpos : Pos} {a b z TI TO i1 i2 : Addr} (c1 : a ∉ [z, TI, TO, i1, i2]) (c2 : b ∉ [z, TI, TO, i1, i2]) (nd : [z, TI, TO, i1, i2].Nodup) :
    Turn P w K (.Tuple elts kk tpos) (ItzTT bf K a b) [z, TI, TO, i1, i2] z (fun i h => IsZip h z TI TO .none ∧ IsTupOf2 h TI (.ref i1) (.ref i2) ∧ (∃ x y, IsTupOf2 h TO x y) ∧ h.IsTupleIter i1 a i ∧ h.IsTupleIter i2 b i) where
  mem := by simp
  obj := fun i h st c hc => by
    obtain ⟨hz, hTI, ⟨x, y, hTO⟩, ⟨o1, e1, _, d1⟩, ⟨o2, e2, _, d2⟩⟩ := st
    rcases (show c = z ∨ c = TI ∨ c = TO ∨ c = i1 ∨ c = i2 by simpa using hc) with q | q | q | q | q
    · rw [q]; exact ⟨_, hz, fun v q => nomatch q⟩
    · rw [q]; exact ⟨_, hTI, fun v q => nomatch q⟩
    · rw [q]; exact ⟨_, hTO, fun v q => nomatch q⟩
    · rw [q]; exact ⟨o1, e1, fun v q => by rw [d1] at q; cases q⟩
    · rw [q]; exact ⟨o2, e2, fun v q => by rw [d2] at q; cases q⟩
  keep := fun i h h' st k => ⟨k z (by simp) _ st.1, k TI (by simp) _ st.2.1, let ⟨x, y, q⟩ := st.2.2.1; ⟨x, y, k TO (by simp) _ q⟩, st.2.2.2.1.at fun o q => k i1 (by simp) o q, st.2.2.2.2.at fun o q => k i2 (by simp) o q⟩
  item := by
    intro X hP hw hK hc i pins s σ H E I hf st hg
    subst hP hw hK
    obtain ⟨hz, hTI, ⟨x0, y0, hTO⟩, h1, h2⟩ := st
    obtain ⟨xs, ys, x, y, hqx, hqy, hx, hy⟩ := hg
    obtain ⟨its, rv, p, _⟩ := I.tuple hqx
    obtain ⟨its2, rv2, p2, _⟩ := I.tuple hqy
    obtain ⟨u, hu, ru⟩ := rv.get hx
    obtain ⟨u2, hu2, ru2⟩ := rv2.get hy
    have hzl := Heap.lt_size hz
    have S := zsep c1 c2 nd
    refine wpAny_pyNext_zipD2_item S.toZipSep2 (Draws.tuple (A := X.A.in1) (by simp [I.ok.hd hc]) i1 a S.sepA its.toArray) (Draws.tuple (A := X.A.in1) (by simp [I.ok.hd hc]) i2 b S.sepB its2.toArray) hz hTI hTO ⟨h1, p⟩ ⟨h2, p2⟩ (by
      have := (List.getElem?_eq_some_iff.mp hu).1; simpa using this) (by
      have := (List.getElem?_eq_some_iff.mp hu2).1; simpa using this) fun x1 x2 h' tk e1 e2 hz' hTO' st1 st2 hT hsz hk => ?_
    have e1' : x1 = u := by
      have e1 : its.toArray[i]? = some x1 := e1
      have : its.toArray[i]? = some u := by simpa using hu
      rw [e1] at this; exact Option.some.inj this
    have e2' : x2 = u2 := by
      have e2 : its2.toArray[i]? = some x2 := e2
      have : its2.toArray[i]? = some u2 := by simpa using hu2
      rw [e2] at this; exact Option.some.inj this
    subst e1' e2'
    refine ⟨_, rfl, wpAny_letOwnedTupleGo_zip (s := { s with heap := h', toks := tk }) hz' fun h'' z'' sb => ?_⟩
    have hT2 : h''.get? s.heap.objs.size = some { cls := .type "tuple", data := .seq #[x1, x2] } := (sb.2 _ (Nat.ne_of_gt hzl)).trans hT
    have new : ObjOk X.prog X.w (upd H s.heap.objs.size (tupHO (bf i) { cls := .type "tuple", data := .seq #[x1, x2] } [x, y])) h'' s.heap.objs.size (tupHO (bf i) { cls := .type "tuple", data := .seq #[x1, x2] } [x, y]) :=
      objOk_tup (its := [x1, x2]) (by show 2 ≤ sizeLine; decide) (.cons ru (.cons ru2 .nil)) hT2 rfl rfl
    have I1 : Inv X pins σ (upd H s.heap.objs.size (tupHO (bf i) { cls := .type "tuple", data := .seq #[x1, x2] } [x, y])) { s with heap := h'', toks := tk } :=
      I.turnedNew (t' := tk) (ch := [z, TI, TO, i1, i2]) (fun c o hb q => (sb.2 c fun q' => hb (by simp [q'])).trans (hk c o (fun q' => hb (by simp [q'])) (fun q' => hb (by simp [q'])) (fun q' => hb (by simp [q'])) (fun q' => hb (by simp [q'])) q)) hf (Nat.le_refl _) new
    refine ⟨.ref s.heap.objs.size, _, I1, rfl, ⟨_, x, y, _, rfl, I.hok.fresh (Nat.le_refl _), rfl, rfl, fun l hl => by rw [I.tuple_inj hl hqx]; exact hx, fun l hl => by rw [I.tuple_inj hl hqy]; exact hy⟩, ⟨z'', ?_, ⟨x1, x2, ?_⟩, ?_, ?_⟩, fun c hcm => ?_⟩
    · exact (sb.2 _ S.TIz).trans (hk _ _ S.TIz S.TITO S.TIi1 S.TIi2 hTI)
    · exact (sb.2 _ S.TOz).trans hTO'
    · exact st1.1.at fun o q => (sb.2 _ S.zi1.symm).trans q
    · exact st2.1.at fun o q => (sb.2 _ S.zi2.symm).trans q
    · have hlt : c < s.heap.objs.size := by
        rcases (show c = z ∨ c = TI ∨ c = TO ∨ c = i1 ∨ c = i2 by simpa using hcm) with q | q | q | q | q
        · rw [q]; exact hzl
        · rw [q]; exact Heap.lt_size hTI
        · rw [q]; exact Heap.lt_size hTO
        · rw [q]; obtain ⟨_, e1, _⟩ := h1; exact Heap.lt_size e1
        · rw [q]; obtain ⟨_, e2, _⟩ := h2; exact Heap.lt_size e2
      rw [upd_ne (Nat.ne_of_lt hlt)]
      exact (hf c hcm).1
  done := by
    intro X hP hw hK hc i pins s σ H E I hf st hg
    subst hP hw hK
    obtain ⟨hz, hTI, ⟨x0, y0, hTO⟩, h1, h2⟩ := st
    obtain ⟨xs, ys, hqx, hqy, l1, l2, hend⟩ := hg
    obtain ⟨its, rv, p, _⟩ := I.tuple hqx
    obtain ⟨its2, rv2, p2, _⟩ := I.tuple hqy
    have S := zsep c1 c2 nd
    have e1 : its.toArray.size = xs.length := by rw [List.size_toArray, rv.length]
    have e2 : its2.toArray.size = ys.length := by rw [List.size_toArray, rv2.length]
    exact wpAny_pyNext_zipD2_end S.toZipSep2 (Draws.tuple (A := X.A.in1) (by simp [I.ok.hd hc]) i1 a S.sepA its.toArray) (Draws.tuple (A := X.A.in1) (by simp [I.ok.hd hc]) i2 b S.sepB its2.toArray) hz hTI hTO ⟨h1, p⟩ ⟨h2, p2⟩ (by omega) (by omega) (by omega) fun h' tk hk => ⟨rfl, I.turnedL (t' := tk) (ch := [z, TI, TO, i1, i2]) (fun c o hb q =>
      hk c o (fun q' => hb (by simp [q'])) (fun q' => hb (by simp [q'])) (fun q' => hb (by simp [q'])) (fun q' => hb (by simp [q'])) q) hf⟩
  self := fun A i s Q E st h => wpAny_pyIter_zip st.1 h
theorem turn_zipLL {bf : Nat → Bool} {P : Program} {w : World} {K : PySem.W.Frag} {elts : List Expr} {kk : Nat} {tpos : Pos} {a b z TI TO i1 i2 : Addr} (c1 : a ∉ [z, TI, TO, i1, i2]) (c2 : b ∉ [z, TI, TO, i1, i2]) (nd : [z, TI, TO, i1, i2].Nodup) :
    Turn P w K (.Tuple elts kk tpos) (ItzLL bf K a b) [z, TI, TO, i1, i2] z (fun i h => IsZip h z TI TO .none ∧ IsTupOf2 h TI (.ref i1) (.ref i2) ∧ (∃ x y, IsTupOf2 h TO x y) ∧ h.IsListIter i1 a i ∧ h.IsListIter i2 b i) where
  mem := by simp
  obj := fun i h st c hc => by
    obtain ⟨hz, hTI, ⟨x, y, hTO⟩, ⟨o1, e1, _, d1⟩, ⟨o2, e2, _, d2⟩⟩ := st
    rcases (show c = z ∨ c = TI ∨ c = TO ∨ c = i1 ∨ c = i2 by simpa using hc) with q | q | q | q | q
    · rw [q]; exact ⟨_, hz, fun v q => nomatch q⟩
    · rw [q]; exact ⟨_, hTI, fun v q => nomatch q⟩
    · rw [q]; exact ⟨_, hTO, fun v q => nomatch q⟩
    · rw [q]; exact ⟨o1, e1, fun v q => by rw [d1] at q; cases q⟩
    · rw [q]; exact ⟨o2, e2, fun v q => by rw [d2] at q; cases q⟩
  keep := fun i h h' st k => ⟨k z (by simp) _ st.1, k TI (by simp) _ st.2.1, let ⟨x, y, q⟩ := st.2.2.1; ⟨x, y, k TO (by simp) _ q⟩, st.2.2.2.1.at fun o q => k i1 (by simp) o q, st.2.2.2.2.at fun o q => k i2 (by simp) o q⟩
  item := by
    intro X hP hw hK hc i pins s σ H E I hf st hg
    subst hP hw hK
    obtain ⟨hz, hTI, ⟨x0, y0, hTO⟩, h1, h2⟩ := st
    obtain ⟨xs, ys, x, y, hqx, hqy, hx, hy⟩ := hg
    obtain ⟨its, rv, p, _⟩ := I.list hqx
    obtain ⟨its2, rv2, p2, _⟩ := I.list hqy
    obtain ⟨u, hu, ru⟩ := rv.get hx
    obtain ⟨u2, hu2, ru2⟩ := rv2.get hy
    have hzl := Heap.lt_size hz
    have S := zsep c1 c2 nd
    refine wpAny_pyNext_zipD2_item S.toZipSep2 (Draws.list (A := X.A.in1) (by simp [I.ok.hd hc]) i1 a S.sepA its.toArray) (Draws.list (A := X.A.in1) (by simp [I.ok.hd hc]) i2 b S.sepB its2.toArray) hz hTI hTO ⟨h1, p.isList⟩ ⟨h2, p2.isList⟩ (by
      have := (List.getElem?_eq_some_iff.mp hu).1; simpa using this) (by
      have := (List.getElem?_eq_some_iff.mp hu2).1; simpa using this) fun x1 x2 h' tk e1 e2 hz' hTO' st1 st2 hT hsz hk => ?_
    have e1' : x1 = u := by
      have e1 : its.toArray[i]? = some x1 := e1
      have : its.toArray[i]? = some u := by simpa using hu
      rw [e1] at this; exact Option.some.inj this
    have e2' : x2 = u2 := by
      have e2 : its2.toArray[i]? = some x2 := e2
      have : its2.toArray[i]? = some u2 := by simpa using hu2
      rw [e2] at this; exact Option.some.inj this
    subst e1' e2'
    refine ⟨_, rfl, wpAny_letOwnedTupleGo_zip (s := { s with heap := h', toks := tk }) hz' fun h'' z'' sb => ?_⟩
    have hT2 : h''.get? s.heap.objs.size = some { cls := .type "tuple", data := .seq #[x1, x2] } := (sb.2 _ (Nat.ne_of_gt hzl)).trans hT
    have new : ObjOk X.prog X.w (upd H s.heap.objs.size (tupHO (bf i) { cls := .type "tuple", data := .seq #[x1, x2] } [x, y])) h'' s.heap.objs.size (tupHO (bf i) { cls := .type "tuple", data := .seq #[x1, x2] } [x, y]) :=
      objOk_tup (its := [x1, x2]) (by show 2 ≤ sizeLine; decide) (.cons ru (.cons ru2 .nil)) hT2 rfl rfl
    have I1 : Inv X pins σ (upd H s.heap.objs.size (tupHO (bf i) { cls := .type "tuple", data := .seq #[x1, x2] } [x, y])) { s with heap := h'', toks := tk } :=
      I.turnedNew (t' := tk) (ch := [z, TI, TO, i1, i2]) (fun c o hb q => (sb.2 c fun q' => hb (by simp [q'])).trans (hk c o (fun q' => hb (by simp [q'])) (fun q' => hb (by simp [q'])) (fun q' => hb (by simp [q'])) (fun q' => hb (by simp [q'])) q)) hf (Nat.le_refl _) new
    refine ⟨.ref s.heap.objs.size, _, I1, rfl, ⟨_, x, y, _, rfl, I.hok.fresh (Nat.le_refl _), rfl, rfl, fun l hl => by rw [I.list_inj hl hqx]; exact hx, fun l hl => by rw [I.list_inj hl hqy]; exact hy⟩, ⟨z'', ?_, ⟨x1, x2, ?_⟩, ?_, ?_⟩, fun c hcm => ?_⟩
    · exact (sb.2 _ S.TIz).trans (hk _ _ S.TIz S.TITO S.TIi1 S.TIi2 hTI)
    · exact (sb.2 _ S.TOz).trans hTO'
    · exact st1.1.at fun o q => (sb.2 _ S.zi1.symm).trans q
    · exact st2.1.at fun o q => (sb.2 _ S.zi2.symm).trans q
    · have hlt : c < s.heap.objs.size := by
        rcases (show c = z ∨ c = TI ∨ c = TO ∨ c = i1 ∨ c = i2 by simpa using hcm) with q | q | q | q | q
        · rw [q]; exact hzl
        · rw [q]; exact Heap.lt_size hTI
        · rw [q]; exact Heap.lt_size hTO
        · rw [q]; obtain ⟨_, e1, _⟩ := h1; exact Heap.lt_size e1
        · rw [q]; obtain ⟨_, e2, _⟩ := h2; exact Heap.lt_size e2
      rw [upd_ne (Nat.ne_of_lt hlt)]
      exact (hf c hcm).1
  done := by
    intro X hP hw hK hc i pins s σ H E I hf st hg
    subst hP hw hK
    obtain ⟨hz, hTI, ⟨x0, y0, hTO⟩, h1, h2⟩ := st
    obtain ⟨xs, ys, hqx, hqy, l1, l2, hend⟩ := hg
    obtain ⟨its, rv, p, _⟩ := I.list hqx
    obtain ⟨its2, rv2, p2, _⟩ := I.list hqy
    have S := zsep c1 c2 nd
    have e1 : its.toArray.size = xs.length := by rw [List.size_toArray, rv.length]
    have e2 : its2.toArray.size = ys.length := by rw [List.size_toArray, rv2.length]
    exact wpAny_pyNext_zipD2_end S.toZipSep2 (Draws.list (A := X.A.in1) (by simp [I.ok.hd hc]) i1 a S.sepA its.toArray) (Draws.list (A := X.A.in1) (by simp [I.ok.hd hc]) i2 b S.sepB its2.toArray) hz hTI hTO ⟨h1, p.isList⟩ ⟨h2, p2.isList⟩ (by omega) (by omega) (by omega) fun h' tk hk => ⟨rfl, I.turnedL (t' := tk) (ch := [z, TI, TO, i1, i2]) (fun c o hb q =>
      hk c o (fun q' => hb (by simp [q'])) (fun q' => hb (by simp [q'])) (fun q' => hb (by simp [q'])) (fun q' => hb (by simp [q'])) q) hf⟩
  self := fun A i s Q E st h => wpAny_pyIter_zip st.1 h
theorem far5 (n a : Nat) (h : a < n) : a ∉ [n + 4, n + 2, n + 3, n, n + 1] := by
  simp; omega
theorem nd5 (n : Nat) : [n + 4, n + 2, n + 3, n, n + 1].Nodup := by simp
noncomputable def iZipTL (K : PySem.W.Frag) (ta : TA) : TI := fun σ H R => ta σ H fun vs H1 => ∃ a b xs ys bf, vs = [.ref a, .ref b] ∧ SqT K H1 a xs ∧ SqL K H1 b ys ∧ R (ItzTL bf K a b) H1
theorem pi_zipTL {X : Cx} {e e2 : Expr} {ta : TA} {p pos tpos : Pos} {elts : List Expr} {kk : Nat} (hg : Gl X "zip") (hm : X.mg "zip" = none) (ha : PA X [e, e2] ta)
    (hs : starEach [e, e2] X.env = (false, eval e X.env) :: starEach [e2] X.env := by rfl) (hpl : (backTo pos (starEach [e2] X.env)).any (·.1) = false := by rfl) :
    PI X (.Tuple elts kk tpos) (.Call (.Name "zip" p) [e, e2] [] pos) (iZipTL X.K ta) := by
  constructor
  intro pins s σ H R I h
  refine PyProof.Rows.Call_ (ld_blt I hg hm PyProof.Rows.boot_zip (PyProof.Rows.callWith_type1 (thn (ha.run pos pins s σ H _ I h) fun us s1 ⟨vs, H1, I1, r1, q1⟩ => ?_) hs hpl))
  obtain ⟨a, b, xs, ys, bf, ex, hqx, hqy, q⟩ := q1
  subst ex
  cases r1 with
  | cons r rr => cases rr with
    | cons r' rr =>
      cases rr; cases r; cases r'
      obtain ⟨its, rv, p1, _⟩ := I1.tuple hqx
      obtain ⟨its2, rv2, p2, _⟩ := I1.list hqy
      have la : a < s1.heap.objs.size := let ⟨o, ho, _⟩ := p1; Heap.lt_size ho
      have lb : b < s1.heap.objs.size := p2.lt
      refine zip_called (begins_tuple a its.toArray) (begins_list b its2.toArray) p1 p2.isList fun h' hz hTI hTO g1 g2 hk => wpAny_pyIter_zip hz ?_
      have I2 : Inv X pins σ H1 { s1 with heap := h' } := I1.kept (t' := s1.toks) hk
      refine ⟨s1.heap.objs.size + 4, [s1.heap.objs.size + 4, s1.heap.objs.size + 2, s1.heap.objs.size + 3, s1.heap.objs.size, s1.heap.objs.size + 1], _, _, H1, rfl, I2, turn_zipTL (a := a) (b := b) ?_ ?_ ?_, ⟨hz, hTI, ⟨_, _, hTO⟩, ⟨_, g1, rfl, rfl⟩, ⟨_, g2, rfl, rfl⟩⟩, fun c hcm => ?_, q⟩
      · exact far5 _ _ la
      · exact far5 _ _ lb
      · exact nd5 _
      · have hle : s1.heap.objs.size ≤ c := by
          rcases (show c = s1.heap.objs.size + 4 ∨ c = s1.heap.objs.size + 2 ∨ c = s1.heap.objs.size + 3 ∨ c = s1.heap.objs.size ∨ c = s1.heap.objs.size + 1 by simpa using hcm) with q | q | q | q | q
          · rw [q]; exact Nat.le_add_right _ _
          · rw [q]; exact Nat.le_add_right _ _
          · rw [q]; exact Nat.le_add_right _ _
          · rw [q]; exact Nat.le_refl _
          · rw [q]; exact Nat.le_add_right _ _
        exact I1.fpOk hle (I1.hok.fresh hle)
noncomputable def iZipTT (K : PySem.W.Frag) (ta : TA) : TI := fun σ H R => ta σ H fun vs H1 => ∃ a b xs ys bf, vs = [.ref a, .ref b] ∧ SqT K H1 a xs ∧ SqT K H1 b ys ∧ R (ItzTT bf K a b) H1
theorem pi_zipTT {X : Cx} {e e2 : Expr} {ta : TA} {p pos tpos : Pos} {elts : List Expr} {kk : Nat} (hg : Gl X "zip") (hm : X.mg "zip" = none) (ha : PA X [e, e2] ta)
    (hs : starEach [e, e2] X.env = (false, eval e X.env) :: starEach [e2] X.env := by rfl) (hpl : (backTo pos (starEach [e2] X.env)).any (·.1) = false := by rfl) :
    PI X (.Tuple elts kk tpos) (.Call (.Name "zip" p) [e, e2] [] pos) (iZipTT X.K ta) := by
  constructor
  intro pins s σ H R I h
  refine PyProof.Rows.Call_ (ld_blt I hg hm PyProof.Rows.boot_zip (PyProof.Rows.callWith_type1 (thn (ha.run pos pins s σ H _ I h) fun us s1 ⟨vs, H1, I1, r1, q1⟩ => ?_) hs hpl))
  obtain ⟨a, b, xs, ys, bf, ex, hqx, hqy, q⟩ := q1
  subst ex
  cases r1 with
  | cons r rr => cases rr with
    | cons r' rr =>
      cases rr; cases r; cases r'
      obtain ⟨its, rv, p1, _⟩ := I1.tuple hqx
      obtain ⟨its2, rv2, p2, _⟩ := I1.tuple hqy
      have la : a < s1.heap.objs.size := let ⟨o, ho, _⟩ := p1; Heap.lt_size ho
      have lb : b < s1.heap.objs.size := let ⟨o, ho, _⟩ := p2; Heap.lt_size ho
      refine zip_called (begins_tuple a its.toArray) (begins_tuple b its2.toArray) p1 p2 fun h' hz hTI hTO g1 g2 hk => wpAny_pyIter_zip hz ?_
      have I2 : Inv X pins σ H1 { s1 with heap := h' } := I1.kept (t' := s1.toks) hk
      refine ⟨s1.heap.objs.size + 4, [s1.heap.objs.size + 4, s1.heap.objs.size + 2, s1.heap.objs.size + 3, s1.heap.objs.size, s1.heap.objs.size + 1], _, _, H1, rfl, I2, turn_zipTT (a := a) (b := b) ?_ ?_ ?_, ⟨hz, hTI, ⟨_, _, hTO⟩, ⟨_, g1, rfl, rfl⟩, ⟨_, g2, rfl, rfl⟩⟩, fun c hcm => ?_, q⟩
      · exact far5 _ _ la
      · exact far5 _ _ lb
      · exact nd5 _
      · have hle : s1.heap.objs.size ≤ c := by
          rcases (show c = s1.heap.objs.size + 4 ∨ c = s1.heap.objs.size + 2 ∨ c = s1.heap.objs.size + 3 ∨ c = s1.heap.objs.size ∨ c = s1.heap.objs.size + 1 by simpa using hcm) with q | q | q | q | q
          · rw [q]; exact Nat.le_add_right _ _
          · rw [q]; exact Nat.le_add_right _ _
          · rw [q]; exact Nat.le_add_right _ _
          · rw [q]; exact Nat.le_refl _
          · rw [q]; exact Nat.le_add_right _ _
        exact I1.fpOk hle (I1.hok.fresh hle)
noncomputable def iZipLL (K : PySem.W.Frag) (ta : TA) : TI := fun σ H R => ta σ H fun vs H1 => ∃ a b xs ys bf, vs = [.ref a, .ref b] ∧ SqL K H1 a xs ∧ SqL K H1 b ys ∧ R (ItzLL bf K a b) H1
theorem pi_zipLL {X : Cx} {e e2 : Expr} {ta : TA} {p pos tpos : Pos} {elts : List Expr} {kk : Nat} (hg : Gl X "zip") (hm : X.mg "zip" = none) (ha : PA X [e, e2] ta)
    (hs : starEach [e, e2] X.env = (false, eval e X.env) :: starEach [e2] X.env := by rfl) (hpl : (backTo pos (starEach [e2] X.env)).any (·.1) = false := by rfl) :
    PI X (.Tuple elts kk tpos) (.Call (.Name "zip" p) [e, e2] [] pos) (iZipLL X.K ta) := by
  constructor
  intro pins s σ H R I h
  refine PyProof.Rows.Call_ (ld_blt I hg hm PyProof.Rows.boot_zip (PyProof.Rows.callWith_type1 (thn (ha.run pos pins s σ H _ I h) fun us s1 ⟨vs, H1, I1, r1, q1⟩ => ?_) hs hpl))
  obtain ⟨a, b, xs, ys, bf, ex, hqx, hqy, q⟩ := q1
  subst ex
  cases r1 with
  | cons r rr => cases rr with
    | cons r' rr =>
      cases rr; cases r; cases r'
      obtain ⟨its, rv, p1, _⟩ := I1.list hqx
      obtain ⟨its2, rv2, p2, _⟩ := I1.list hqy
      have la : a < s1.heap.objs.size := p1.lt
      have lb : b < s1.heap.objs.size := p2.lt
      refine zip_called (begins_list a its.toArray) (begins_list b its2.toArray) p1.isList p2.isList fun h' hz hTI hTO g1 g2 hk => wpAny_pyIter_zip hz ?_
      have I2 : Inv X pins σ H1 { s1 with heap := h' } := I1.kept (t' := s1.toks) hk
      refine ⟨s1.heap.objs.size + 4, [s1.heap.objs.size + 4, s1.heap.objs.size + 2, s1.heap.objs.size + 3, s1.heap.objs.size, s1.heap.objs.size + 1], _, _, H1, rfl, I2, turn_zipLL (a := a) (b := b) ?_ ?_ ?_, ⟨hz, hTI, ⟨_, _, hTO⟩, ⟨_, g1, rfl, rfl⟩, ⟨_, g2, rfl, rfl⟩⟩, fun c hcm => ?_, q⟩
      · exact far5 _ _ la
      · exact far5 _ _ lb
      · exact nd5 _
      · have hle : s1.heap.objs.size ≤ c := by
          rcases (show c = s1.heap.objs.size + 4 ∨ c = s1.heap.objs.size + 2 ∨ c = s1.heap.objs.size + 3 ∨ c = s1.heap.objs.size ∨ c = s1.heap.objs.size + 1 by simpa using hcm) with q | q | q | q | q
          · rw [q]; exact Nat.le_add_right _ _
          · rw [q]; exact Nat.le_add_right _ _
          · rw [q]; exact Nat.le_add_right _ _
          · rw [q]; exact Nat.le_refl _
          · rw [q]; exact Nat.le_add_right _ _
        exact I1.fpOk hle (I1.hok.fresh hle)
noncomputable def tupR : D → Option (List D)
  | .tup ds => some ds
  | .ktup ds => some ds
  | _ => none
noncomputable def zipA : List D → Sto → Option Items
  | [x, y], S => (match tupR x, tupR y with
    | some ds, some es => some ⟨List.zipWith (fun a b => .tup [a, b]) ds es, []⟩
    | some ds, none => (listR y S).map fun es => ⟨List.zipWith (fun a b => .tup [a, b]) ds es, keepOf y S⟩
    | none, _ => (match listR x S, listR y S with
      | some ds, some es => some ⟨List.zipWith (fun a b => .tup [a, b]) ds es, keepOf x S ++ keepOf y S⟩
      | _, _ => none))
  | _, _ => none
section
variable {K : PySem.W.Frag} {ρ0 : Pl} {H0 : Hp}
theorem tupR_of {ρ : Pl} {H : Hp} {v : V} {d : D} {ds : List D} (r : VR K ρ H v d) (h : tupR d = some ds) : ∃ a xs, v = .ref a ∧ SqT K H a xs ∧ VRs K ρ H xs ds := by
  cases d <;> simp only [tupR, reduceCtorEq, Option.some.injEq] at h
  · subst h; exact tup_of r
  · subst h; exact ktup_of r
theorem iter_zipT' {a b : Addr} {dx dy : D} {ds es : List D} (ra : VR K ρ0 H0 (.ref a) dx) (rb : VR K ρ0 H0 (.ref b) dy) (hx : tupR dx = some ds) (hy : tupR dy = some es) : IterOK K ρ0 H0 (ItzTT (rollAt (List.zipWith (fun a b => .tup [a, b]) ds es)) K a b) ⟨List.zipWith (fun a b => .tup [a, b]) ds es, []⟩ := fun ρ H S e s k => by
  obtain ⟨_, xs, e1, h1, h2⟩ := tupR_of (ra.mono e) hx
  cases e1
  obtain ⟨_, ys, e1, k1, k2⟩ := tupR_of (rb.mono e) hy
  cases e1
  have hl := h2.length
  have hl2 := k2.length
  refine ⟨fun i hi => ?_, ⟨xs, ys, h1, k1, by show (List.zipWith _ _ _).length ≤ _; rw [List.length_zipWith]; omega, by show (List.zipWith _ _ _).length ≤ _; rw [List.length_zipWith]; omega, by show (List.zipWith _ _ _).length = _ ∨ _; rw [List.length_zipWith]; omega⟩, fun i x H' hi y => ?_⟩
  · have hi' : i < (List.zipWith (fun a b => D.tup [a, b]) ds es).length := hi
    rw [List.length_zipWith] at hi'
    exact ⟨xs, ys, xs[i]'(by omega), ys[i]'(by omega), h1, k1, by simp, by simp⟩
  · obtain ⟨T, x, y, o, e1, e2, e0, e3, e4, e5⟩ := y
    exact pair_turn s h2 k2 ⟨T, x, y, o, e1, e2, e0, e3, e4 xs h1, e5 ys k1⟩
theorem iter_zipM {a b : Addr} {dx dy : D} {ds es : List D} {S0 : Sto} (ra : VR K ρ0 H0 (.ref a) dx) (rb : VR K ρ0 H0 (.ref b) dy) (hx : tupR dx = some ds) (hy : listR dy S0 = some es) : IterOK K ρ0 H0 (ItzTL (rollAt (List.zipWith (fun a b => .tup [a, b]) ds es)) K a b) ⟨List.zipWith (fun a b => .tup [a, b]) ds es, keepOf dy S0⟩ := fun ρ H S e s k => by
  obtain ⟨_, xs, e1, h1, h2⟩ := tupR_of (ra.mono e) hx
  cases e1
  obtain ⟨_, ys, e1, k1, k2⟩ := listR_of s (rb.mono e) (listR_keep hy k)
  cases e1
  have hl := h2.length
  have hl2 := k2.length
  refine ⟨fun i hi => ?_, ⟨xs, ys, h1, k1, ?_, ?_, ?_⟩, fun i x H' hi y => ?_⟩
  · have hi' : i < (List.zipWith (fun a b => D.tup [a, b]) ds es).length := hi
    rw [List.length_zipWith] at hi'
    exact ⟨xs, ys, xs[i]'(by omega), ys[i]'(by omega), h1, k1, by simp, by simp⟩
  all_goals first | (show (List.zipWith _ _ _).length ≤ _; rw [List.length_zipWith]; omega) | (show (List.zipWith _ _ _).length = _ ∨ _; rw [List.length_zipWith]; omega) | skip
  obtain ⟨T, x, y, o, e1, e2, e0, e3, e4, e5⟩ := y
  exact pair_turn s h2 k2 ⟨T, x, y, o, e1, e2, e0, e3, e4 xs h1, e5 ys k1⟩
theorem iter_zipLL {a b : Addr} {dx dy : D} {ds es : List D} {S0 : Sto} (ra : VR K ρ0 H0 (.ref a) dx) (rb : VR K ρ0 H0 (.ref b) dy) (hx : listR dx S0 = some ds) (hy : listR dy S0 = some es) : IterOK K ρ0 H0 (ItzLL (rollAt (List.zipWith (fun a b => .tup [a, b]) ds es)) K a b) ⟨List.zipWith (fun a b => .tup [a, b]) ds es, keepOf dx S0 ++ keepOf dy S0⟩   := fun ρ H S e s k0 => by
  obtain ⟨ka, k⟩ := keepOk_app.mp k0
  obtain ⟨_, xs, e1, h1, h2⟩ := listR_of s (ra.mono e) (listR_keep hx ka)
  cases e1
  obtain ⟨_, ys, e1, k1, k2⟩ := listR_of s (rb.mono e) (listR_keep hy k)
  cases e1
  have hl := h2.length
  have hl2 := k2.length
  refine ⟨fun i hi => ?_, ⟨xs, ys, h1, k1, ?_, ?_, ?_⟩, fun i x H' hi y => ?_⟩
  · have hi' : i < (List.zipWith (fun a b => D.tup [a, b]) ds es).length := hi
    rw [List.length_zipWith] at hi'
    exact ⟨xs, ys, xs[i]'(by omega), ys[i]'(by omega), h1, k1, by simp, by simp⟩
  all_goals first | (show (List.zipWith _ _ _).length ≤ _; rw [List.length_zipWith]; omega) | (show (List.zipWith _ _ _).length = _ ∨ _; rw [List.length_zipWith]; omega) | skip
  obtain ⟨T, x, y, o, e1, e2, e0, e3, e4, e5⟩ := y
  exact pair_turn s h2 k2 ⟨T, x, y, o, e1, e2, e0, e3, e4 xs h1, e5 ys k1⟩
end
section
variable {X : Cx} {W : WX} {tg a b : Expr} {ms : MA} {p pos : Pos}
theorem i_zipA {elts : List Expr} {kk : Nat} {tpos : Pos} (hm : X.mg "zip" = none) (ha : PA X [a, b] (Am X.K W ms)) (hg : Gl X "zip" := by rfl)
    (hs : starEach [a, b] X.env = (false, eval a X.env) :: starEach [b] X.env := by rfl) (hpl : (backTo pos (starEach [b] X.env)).any (·.1) = false := by rfl) : PI X (.Tuple elts kk tpos) (.Call (.Name "zip" p) [a, b] [] pos) (Im X.K W (iArgs zipA ms)) := by
  constructor
  intro pins st σ H Rr I h
  have main : (iZipTT X.K (Am X.K W ms)) σ H Rr ∨ (iZipTL X.K (Am X.K W ms)) σ H Rr ∨ (iZipLL X.K (Am X.K W ms)) σ H Rr := by
    obtain ⟨ρ, τ, S, s, r, q⟩ := h
    unfold iArgs at q
    cases q1 : ms τ S with
    | bad => rw [q1] at q; exact q.elim
    | ex c fs S' =>
      rw [q1] at q
      exact .inl ⟨ρ, τ, S, s, r, by rw [q1]; exact q⟩
    | ok ds S1 =>
      rw [q1] at q
      simp only [R.bind_ok] at q
      cases q2 : zipA ds S1 with
      | none => rw [q2] at q; exact q.elim
      | some it =>
        rw [q2] at q
        simp only [ofO_some] at q
        unfold zipA at q2
        split at q2
        · rename_i dx dy
          split at q2
          · rename_i ds es t1 t2
            cases q2
            refine .inl ⟨ρ, τ, S, s, r, ?_⟩
            rw [q1]
            intro ρ1 H1 vs e1 s1 v1
            obtain ⟨v, w, rfl, rv, rw'⟩ := vrs2 v1
            obtain ⟨x, xs, rfl, h1, h2⟩ := tupR_of rv t1
            obtain ⟨y, ys, rfl, k1, k2⟩ := tupR_of rw' t2
            exact ⟨x, y, xs, ys, _, rfl, h1, k1, q ρ1 H1 _ e1 s1 (fun _ h => nomatch h) (iter_zipT' rv rw' t1 t2)⟩
          · rename_i ds t1 t2
            simp only [Option.map_eq_some_iff] at q2
            obtain ⟨es, t3, rfl⟩ := q2
            refine .inr (.inl ⟨ρ, τ, S, s, r, ?_⟩)
            rw [q1]
            intro ρ1 H1 vs e1 s1 v1
            obtain ⟨v, w, rfl, rv, rw'⟩ := vrs2 v1
            obtain ⟨x, xs, rfl, h1, h2⟩ := tupR_of rv t1
            obtain ⟨y, ys, rfl, k1, k2⟩ := listR_of s1 rw' t3
            exact ⟨x, y, xs, ys, _, rfl, h1, k1, q ρ1 H1 _ e1 s1 keepOf_ok (iter_zipM rv rw' t1 t3)⟩
          · split at q2
            · rename_i ds es t1 t2
              cases q2
              refine .inr (.inr ⟨ρ, τ, S, s, r, ?_⟩)
              rw [q1]
              intro ρ1 H1 vs e1 s1 v1
              obtain ⟨v, w, rfl, rv, rw'⟩ := vrs2 v1
              obtain ⟨x, xs, rfl, h1, h2⟩ := listR_of s1 rv t1
              obtain ⟨y, ys, rfl, k1, k2⟩ := listR_of s1 rw' t2
              exact ⟨x, y, xs, ys, _, rfl, h1, k1, q ρ1 H1 _ e1 s1 (keepOk_app.mpr ⟨keepOf_ok, keepOf_ok⟩) (iter_zipLL rv rw' t1 t2)⟩
            · cases q2
        · cases q2
  rcases main with h | h | h
  · exact (pi_zipTT hg hm ha hs hpl).run pins st σ H Rr I h
  · exact (pi_zipTL hg hm ha hs hpl).run pins st σ H Rr I h
  · exact (pi_zipLL hg hm ha hs hpl).run pins st σ H Rr I h
end
end Z

namespace Z
open PySem PySem.Spec PyProof.Rows L2

mutual
inductive LitV (K : PySem.W.Frag) : Value → D → Prop
  | non : LitV K .none .non
  | int (i : Int) (t : Tok) : LitV K (.int i t) (.int i)
  | str (x : Str) (t : Tok) : LitV K (.str x t) (.str x)
  | tup {p : Addr} {vs : List Value} {ds : List D} {n : Nat} {dd : Option Addr} {sl : Array (Option Value)} : K.lookup p = some ⟨.type "tuple", dd, .seq vs.toArray n, sl⟩ → vs.length ≤ sizeLine → LitVs K vs ds → LitV K (.ref p) (.ktup ds)
inductive LitVs (K : PySem.W.Frag) : List Value → List D → Prop
  | nil : LitVs K [] []
  | cons {u : Value} {us : List Value} {d : D} {ds : List D} : LitV K u d → LitVs K us ds → LitVs K (u :: us) (d :: ds)
end
mutual
theorem LitV.vr {K : PySem.W.Frag} : ∀ {u : Value} {d : D}, LitV K u d → ∃ v, RelV v u ∧ ∀ ρ H, VR K ρ H v d
  | _, _, .non => ⟨.non, rfl, fun _ _ => .non⟩
  | _, _, .int i t => ⟨.int i, ⟨t, rfl⟩, fun _ _ => .int i⟩
  | _, _, .str x t => ⟨.str x, ⟨t, rfl⟩, fun _ _ => .str x⟩
  | _, _, .tup (p := p) (vs := vs) h hl hs => by
    obtain ⟨xs, h1, h2⟩ := LitVs.vr hs
    exact ⟨.ref p, rfl, fun ρ H => .ktup (fun H' => .inr ⟨_, vs.toArray, _, h, rfl, rfl, by simpa using hl, by simpa using h1⟩) (h2 ρ H)⟩
theorem LitVs.vr {K : PySem.W.Frag} : ∀ {us : List Value} {ds : List D}, LitVs K us ds → ∃ vs, Vals vs us ∧ ∀ ρ H, VRs K ρ H vs ds
  | _, _, .nil => ⟨[], .nil, fun _ _ => .nil⟩
  | _, _, .cons h hs => by
    obtain ⟨v, a1, a2⟩ := LitV.vr h
    obtain ⟨vs, b1, b2⟩ := LitVs.vr hs
    exact ⟨v :: vs, .cons a1 b1, fun ρ H => .cons (a2 ρ H) (b2 ρ H)⟩
end
inductive EntK (P : Params) (K : PySem.W.Frag) : List DictEntry → List (Str × D) → Prop
  | nil : EntK P K [] []
  | cons {x : Str} {t : Tok} {u : Value} {d : D} {es : List DictEntry} {kvs : List (Str × D)} : LitV K u d → EntK P K es kvs → EntK P K (⟨PyData.keyHash P x, .str x t, u⟩ :: es) ((x, d) :: kvs)
structure KDG (P : Params) (K : PySem.W.Frag) (d : Addr) (kvs : List (Str × D)) : Prop where
  at_ : ∃ (es : List DictEntry) (n : Nat), K.lookup d = some ⟨.type "dict", none, .dict es.toArray n, #[]⟩ ∧ EntK P K es kvs
  low : (d == sysModules) = false
theorem EntK.lit {P : Params} {K : PySem.W.Frag} {es : List DictEntry} {kvs : List (Str × D)} (h : EntK P K es kvs) : PySem.W.KeysLit P es := by
  induction h with
  | nil => exact True.intro
  | cons h hs ih => exact ⟨⟨_, _, rfl, rfl⟩, ih⟩
theorem EntK.find {P : Params} {K : PySem.W.Frag} {es : List DictEntry} {kvs : List (Str × D)} {z : Str} (h : EntK P K es kvs) : (valG kvs z = none ∧ findBy Value.isStrOf es.toArray z = none) ∨ ∃ d u, valG kvs z = some d ∧ findBy Value.isStrOf es.toArray z = some u ∧ LitV K u d := by
  unfold findBy
  rw [List.find?_toArray]
  induction h with
  | nil => exact .inl ⟨rfl, rfl⟩
  | @cons x t u d es kvs h hs ih =>
    rw [valG_cons, List.find?_cons]
    by_cases e : x = z
    · subst e
      refine .inr ⟨d, u, if_pos rfl, ?_, h⟩
      have : Value.isStrOf x (Value.str x t) = true := by simp [Value.isStrOf]
      simp [this]
    · have e2 : Value.isStrOf z (Value.str x t) = false := by
        simp [Value.isStrOf]
        first | exact e | exact fun q => e q.symm
      simp only [e2, if_neg e]
      exact ih
noncomputable def mKGet (kvs : List (Str × D)) (k : ME) : ME := fun τ S => (k τ S).bind fun y S1 => match y with
  | .str x => .ok ((valG kvs x).getD .non) S1
  | _ => .bad
noncomputable def dKIn (neg : Bool) (kvs : List (Str × D)) (k : ME) : ME := fun τ S => (k τ S).bind fun y S1 => match y with
  | .str x => .ok (.bl (if neg then !(valG kvs x).isSome else (valG kvs x).isSome)) S1
  | _ => .bad
section
variable {X : Cx} {W : WX} {x : Str} {d : Addr} {kvs : List (Str × D)} {e : Expr} {m : ME} {p apos cpos pos : Pos}
theorem KDG.map {pins : List (Addr × Obj)} {σ : L2.St} {H : Hp} {s : Shared} (D : KDG X.w.params X.K d kvs) (I : Inv X pins σ H s) : ∃ f, s.heap.MapOf (strKind X.prog X.w) d f ∧ ∀ z, (valG kvs z = none ∧ f z = none) ∨ ∃ q u, valG kvs z = some q ∧ f z = some u ∧ LitV X.K u q := by
  obtain ⟨es, n, h1, h2⟩ := D.at_
  exact ⟨_, PySem.W.mapOf_K (prog := X.prog) I.kIn h1 (by simpa using h2.lit), fun z => h2.find⟩
end
end Z

namespace Z
open PySem L2 PySem.Spec
noncomputable def mLstRg (a b : ME) : ME := fun τ S => (a τ S).bind fun x S1 => (b τ S1).bind fun y S2 => match x, y with
  | .int i, .int j => guardR (-(2 ^ 62) ≤ i ∧ i < 2 ^ 62 ∧ -(2 ^ 62) ≤ j ∧ j < 2 ^ 62 ∧ (j - i).toNat ≤ 2 ^ 24) (.ok (.lst ((rgI i j).map D.int)) S2)
  | _, _ => .bad
section
variable {X : Cx} {W : WX} {a b : Expr} {ma mb : ME} {p p2 pos pos2 : Pos}
end
section
variable {K : PySem.W.Frag}
end
section
variable {X : Cx} {W : WX} {o e : Expr} {m : ME} {ms : MA} {apos cpos : Pos}
end
end Z

namespace Z
open PySem L2
class Rz where
  rz : Str → MS
end Z

namespace Z
open PySem L2 PySem.Spec PyProof.Rows
section
variable {P : Program} {w : World} {A : Around} {E : Value → Shared → Prop} {s : Shared}
end
end Z

namespace Z
open PySem L2 PySem.Spec
noncomputable def revOf : D → Sto → Option Items
  | .tup ds, _ => some ⟨ds.reverse, []⟩
  | d, S => (listR d S).map fun ds => ⟨ds.reverse, keepOf d S⟩
noncomputable def iRev (m : ME) : MI := fun τ S => (m τ S).bind fun d S1 => ofO (revOf d S1) S1
section
variable {K : PySem.W.Frag} {ρ0 : Pl} {H0 : Hp}
end
section
variable {X : Cx} {W : WX} {tg e : Expr} {m : ME} {p pos : Pos}
end
end Z

namespace Z
open PySem L2
section
variable {S : Sto} {l : Nat} {ds : List D} {i : Int} {τ : Tau}
@[simp] theorem x_ixAT : dIxA (.tup ds) (.int i) S = ofO (atI ds i) S := rfl
@[simp] theorem x_ixAK : dIxA (.ktup ds) (.int i) S = ofO (atI ds i) S := rfl
@[simp] theorem x_ixAL : dIxA (.lst ds) (.int i) S = ofO (atI ds i) S := rfl
@[simp] theorem x_ixAC : dIxA (.scr ds) (.int i) S = ofO (atI ds i) S := rfl
@[simp] theorem x_ixAdS {ks : List Key} {x : Str} : dIxA (.dct ks ds) (.str x) S = ofO (valG (List.zip ks ds) (.inr x)) S := rfl
@[simp] theorem x_ixAdI {ks : List Key} : dIxA (.dct ks ds) (.int i) S = ofO (valG (List.zip ks ds) (.inl i)) S := rfl
theorem x_ixLl (h : S[l]? = some (.lst ds)) : dIxA (.loc l) (.int i) S = ofO (atI ds i) S := by
  have e : dLook (.loc l) (.int i) S = none := by simp [dLook, h]
  unfold dIxA
  rw [e]
  exact x_ixLoc h
@[simp] theorem look_dS {ks : List Key} {x : Str} : dLook (.dct ks ds) (.str x) S = some (valG (List.zip ks ds) (.inr x)) := rfl
@[simp] theorem look_dI {ks : List Key} : dLook (.dct ks ds) (.int i) S = some (valG (List.zip ks ds) (.inl i)) := rfl
@[simp] theorem x_subA (o i v : ME) : sSubA o i v τ S = liftS (v τ S) τ fun y S1 => liftS (o τ S1) τ fun a S2 => liftS (i τ S2) τ fun x S3 => match dPut a x y S3 with
    | some S4 => .nx τ S4
    | none => .bad := rfl
@[simp] theorem x_tupS (ts : List TgS) (m : ME) : sTupS ts m τ S = liftS (m τ S) τ fun d S1 => match d with
  | .tup ds => if ds.length = ts.length then asgAll ts ds τ S1 else .bad
  | _ => .bad := rfl
@[simp] theorem x_asg0 : asgAll [] [] τ S = .nx τ S := rfl
@[simp] theorem x_asg1 (t : TgS) (ts : List TgS) (d : D) : asgAll (t :: ts) (d :: ds) τ S = asgS t d τ S fun τ' S' => asgAll ts ds τ' S' := rfl
@[simp] theorem x_asgN (i : Nat) (d : D) (k : Tau → Sto → RS) : asgS (.nm i) d τ S k = k (τ.set i (some d)) S := rfl
@[simp] theorem x_asgS (o i : ME) (d : D) (k : Tau → Sto → RS) : asgS (.sub o i) d τ S k = liftS (o τ S) τ fun a S2 => liftS (i τ S2) τ fun x S3 => match dPut a x d S3 with
    | some S4 => k τ S4
    | none => .bad := rfl
theorem put_L {d : D} {j : Nat} (h : S[l]? = some (.lst ds)) (hj : ixN ds.length i = some j) : dPut (.loc l) (.int i) d S = some (S.set l (.lst (ds.set j d))) := by
  simp [dPut, h, hj]
@[simp] theorem x_disp (ps : List (ME × ME)) : mDisp ps τ S = (pairsR ps τ S).bind fun kvs S1 => guardR (dispOk kvs) (.ok (.dct (kvs.map (·.1)) (kvs.map (·.2))) S1) := rfl
@[simp] theorem x_dispN (ps : List (ME × ME)) : mDispN ps τ S = (pairsR ps τ S).bind fun kvs S1 => guardR (dispOk kvs) (.ok (.loc S1.length) (S1 ++ [.dK false kvs])) := rfl
@[simp] theorem x_pairs0 : pairsR [] τ S = .ok [] S := rfl
@[simp] theorem x_pairs1 (p : ME × ME) (r : List (ME × ME)) : pairsR (p :: r) τ S = (p.1 τ S).bind fun x S1 => (p.2 τ S1).bind fun y S2 => (pairsR r τ S2).bind fun ps S3 => match kOf x with
    | some k => .ok ((k, y) :: ps) S3
    | none => .bad := rfl
@[simp] theorem x_kOfS {x : Str} : kOf (.str x) = some (.inr x) := rfl
@[simp] theorem x_kOfI : kOf (.int i) = some (.inl i) := rfl
@[simp] theorem x_dctN : mDctN τ S = .ok (.loc S.length) (S ++ [.dK false []]) := rfl
@[simp] theorem x_dctT : mDctT τ S = .ok (.loc S.length) (S ++ [.dT false []]) := rfl
@[simp] theorem x_get1 (d y : D) : dGet1 d [y] S = match dLook d y S with
    | some o => .ok (o.getD .non) S
    | none => .bad := rfl
@[simp] theorem x_get2 (d y z : D) : dGet2 d [y, z] S = match dLook d y S with
    | some o => .ok (o.getD z) S
    | none => .bad := rfl
@[simp] theorem x_kget (kvs : List (Str × D)) (k : ME) : mKGet kvs k τ S = (k τ S).bind fun y S1 => match y with
  | .str x => .ok ((valG kvs x).getD .non) S1
  | _ => .bad := rfl
@[simp] theorem x_kin (b : Bool) (kvs : List (Str × D)) (k : ME) : dKIn b kvs k τ S = (k τ S).bind fun y S1 => match y with
  | .str x => .ok (.bl (if b then !(valG kvs x).isSome else (valG kvs x).isSome)) S1
  | _ => .bad := rfl
@[simp] theorem x_inA (x y : D) : dInA x y S = ofO ((inP x y S).map .bl) S := rfl
@[simp] theorem x_notInA (x y : D) : dNotInA x y S = ofO ((inP x y S).map fun b => .bl (!b)) S := rfl
@[simp] theorem x_lstRg (a b : ME) : mLstRg a b τ S = (a τ S).bind fun x S1 => (b τ S1).bind fun y S2 => match x, y with
  | .int i, .int j => guardR (-(2 ^ 62) ≤ i ∧ i < 2 ^ 62 ∧ -(2 ^ 62) ≤ j ∧ j < 2 ^ 62 ∧ (j - i).toNat ≤ 2 ^ 24) (.ok (.lst ((rgI i j).map D.int)) S2)
  | _, _ => .bad := rfl
@[simp] theorem x_iItm (m : ME) : iItm m τ S = (m τ S).bind fun d S1 => ofO (itemsOfD d S1) S1 := rfl
@[simp] theorem x_iVal (m : ME) : iVal m τ S = (m τ S).bind fun d S1 => ofO (valsOf d S1) S1 := rfl
@[simp] theorem x_iRev (m : ME) : iRev m τ S = (m τ S).bind fun d S1 => ofO (revOf d S1) S1 := rfl
@[simp] theorem x_fld (c f : Str) (m : ME) : mFld c f m τ S = (m τ S).bind fun d S1 => match d with
  | .loc l => (match S1[l]? with
    | some (.ins c' fs) => if c' = c then ofO (fs.lookup f) S1 else .bad
    | _ => .bad)
  | _ => .bad := rfl
@[simp] theorem x_fldA (c f : Str) (o v : ME) : sFldA c f o v τ S = liftS (v τ S) τ fun y S1 => liftS (o τ S1) τ fun d S2 => match d with
  | .loc l => (match S2[l]? with
    | some (.ins c' fs) => if c' = c ∧ fs.length < 1000 then .nx τ (S2.set l (.ins c (putD f y fs))) else .bad
    | _ => .bad)
  | _ => .bad := rfl
@[simp] theorem x_methO (c m : Str) (h : List D → Sto → R D) (o : ME) (r : MA) : mMethO c m h o r τ S = (o τ S).bind fun d S1 => match d with
  | .loc l => (match S1[l]? with
    | some (.ins c' fs) => if c' = c ∧ fs.lookup m = none then (r τ S1).bind fun ds S2 => noEx (h (.loc l :: ds) S2) else .bad
    | _ => .bad)
  | _ => .bad := rfl
@[simp] theorem x_make (c : Str) (h : List D → Sto → R D) (r : MA) : mMake c h r τ S = (r τ S).bind fun ds S1 => (noEx (h (.loc S1.length :: ds) (S1 ++ [.ins c []]))).bind fun d S2 => match d with
  | .non => .ok (.loc S1.length) S2
  | _ => .bad := rfl
end
section
variable {S : Sto} {l : Nat} {τ : Tau} {N : Tau → Sto → Prop} {T : D → Sto → Prop}
theorem for_wpK {ks : List (Nat × C)} {g : Tgt} {body : MS} (Inv : List D → Tau → Sto → Prop) (hk : ∀ es τ S, Inv es τ S → keepOk ks S) (step : ∀ d ds τ S, Inv (d :: ds) τ S → ∃ τ1, bindT g d τ = some τ1 ∧ wpS (body τ1 S) (fun τ2 S2 => Inv ds τ2 S2) T)
    (fin : ∀ τ S, Inv [] τ S → N τ S) : ∀ ds τ S, Inv ds τ S → wpS (forL ks g body ds τ S) N T
  | [], τ, S, h => by
    unfold forL
    rw [if_pos (keepB_iff.mpr (hk _ _ _ h))]
    exact fin τ S h
  | d :: ds, τ, S, h => by
    unfold forL
    rw [if_pos (keepB_iff.mpr (hk _ _ _ h))]
    obtain ⟨τ1, e, w⟩ := step d ds τ S h
    rw [e]
    show wpS (match body τ1 S with | .nx τ2 S2 => forL ks g body ds τ2 S2 | .ct τ2 S2 => forL ks g body ds τ2 S2 | .bk τ2 S2 => .nx τ2 S2 | o => o) N T
    cases q : body τ1 S <;> rw [q] at w
    case nx τ2 S2 => exact for_wpK Inv hk step fin ds τ2 S2 w
    all_goals first | exact False.elim w | exact w
end
theorem repr_of {d : D} {S : Sto} {p : PyData} (h : toPy d S = some p) (h1 : p.showable = true) (h2 : p.hasDict = false) (h3 : p.depth ≤ 64) (h4 : p.shown.length ≤ 16777216) : dRepr [d] S = .ok (.str p.shown) S := by
  show (match toPy d S with | some p => _ | none => _) = _
  rw [h]
  simp [reprOk, h1, h2, h3, show p.shown.length ≤ sizeLine from h4]
end Z

namespace Z
open PySem L2
theorem vrs1' {K : PySem.W.Frag} {ρ : Pl} {H : Hp} {vs : List V} {d : D} (r : VRs K ρ H vs [d]) : ∃ v, vs = [v] ∧ VR K ρ H v d := by
  cases r with
  | cons a b => cases b; exact ⟨_, rfl, a⟩
noncomputable def enumA : List D → Sto → Option Items
  | [x], S => (match tupR x with
    | some ds => some ⟨enumFrom 0 ds, []⟩
    | none => (listR x S).map fun ds => ⟨enumFrom 0 ds, keepOf x S⟩)
  | _, _ => none
section
variable {X : Cx} {W : WX} {a : Expr} {ms : MA} {p pos : Pos}
theorem i_enumA {elts : List Expr} {kk : Nat} {tpos : Pos} (hm : X.mg "enumerate" = none) (ha : PA X [a] (Am X.K W ms)) (hg : Gl X "enumerate" := by rfl) (hs : starEach [a] X.env = [(false, eval a X.env)] := by rfl) :
    PI X (.Tuple elts kk tpos) (.Call (.Name "enumerate" p) [a] [] pos) (Im X.K W (iArgs enumA ms)) := by
  constructor
  intro pins st σ H Rr I h
  have main : (iEnumT X.K (Am X.K W ms)) σ H Rr ∨ (iEnum X.K (Am X.K W ms)) σ H Rr := by
    obtain ⟨ρ, τ, S, s, r, q⟩ := h
    unfold iArgs at q
    cases q1 : ms τ S with
    | bad => rw [q1] at q; exact q.elim
    | ex c fs S' =>
      rw [q1] at q
      exact .inl ⟨ρ, τ, S, s, r, by rw [q1]; exact q⟩
    | ok ds S1 =>
      rw [q1] at q
      simp only [R.bind_ok] at q
      cases q2 : enumA ds S1 with
      | none => rw [q2] at q; exact q.elim
      | some it =>
        rw [q2] at q
        simp only [ofO_some] at q
        unfold enumA at q2
        split at q2
        · rename_i dx
          split at q2
          · rename_i ds t1
            cases q2
            refine .inl ⟨ρ, τ, S, s, r, ?_⟩
            rw [q1]
            intro ρ1 H1 vs e1 s1 v1
            obtain ⟨v, rfl, rv⟩ := vrs1' v1
            obtain ⟨x, xs, rfl, h1, h2⟩ := tupR_of rv t1
            refine ⟨x, xs, rfl, h1, q ρ1 H1 _ e1 s1 (fun _ h => nomatch h) fun ρ H S e s kk => ?_⟩
            obtain ⟨_, ys, e1, k1, k2⟩ := tupR_of (rv.mono e) t1
            cases e1
            have hl := k2.length
            refine ⟨fun i hi => ?_, ⟨ys, k1, by show (enumFrom 0 ds).length = _; rw [enumFrom_len]; omega⟩, fun i v H' hi y => ?_⟩
            · have hi' : i < (enumFrom 0 ds).length := hi
              rw [enumFrom_len] at hi'
              exact ⟨ys, k1, by omega⟩
            · obtain ⟨T, x2, rfl, e2, rfl, e4⟩ := y
              obtain ⟨d2, g1, g2⟩ := k2.getV (e4 ys k1)
              refine ⟨_, by simpa using enumFrom_get 0 ds i d2 g1, Ext.fresh e2, s.laid e2, VR.newTup s e2 (.cons (.int _) (.cons g2 .nil))⟩
          · rename_i t1
            simp only [Option.map_eq_some_iff] at q2
            obtain ⟨ds, t2, rfl⟩ := q2
            refine .inr ⟨ρ, τ, S, s, r, ?_⟩
            rw [q1]
            intro ρ1 H1 vs e1 s1 v1
            obtain ⟨v, rfl, rv⟩ := vrs1' v1
            obtain ⟨x, xs, rfl, h1, h2⟩ := listR_of s1 rv t2
            refine ⟨x, xs, rfl, h1, q ρ1 H1 _ e1 s1 keepOf_ok fun ρ H S e s kk => ?_⟩
            obtain ⟨_, ys, e1, k1, k2⟩ := listR_of s (rv.mono e) (listR_keep t2 kk)
            cases e1
            have hl := k2.length
            refine ⟨fun i hi => ?_, ?_, fun i v H' hi y => ?_⟩
            · have hi' : i < (enumFrom 0 ds).length := hi
              rw [enumFrom_len] at hi'
              exact ⟨ys, ys[i]'(by omega), k1, by simp⟩
            · refine ⟨ys, k1, ?_⟩
              show ys.length ≤ (enumFrom 0 ds).length
              rw [enumFrom_len]; omega
            · obtain ⟨T, x2, rfl, e2, rfl, e4⟩ := y
              obtain ⟨d2, g1, g2⟩ := k2.getV (e4 ys k1)
              refine ⟨_, by simpa using enumFrom_get 0 ds i d2 g1, Ext.fresh e2, s.laid e2, VR.newTup s e2 (.cons (.int _) (.cons g2 .nil))⟩
        · cases q2
  rcases main with h | h
  · exact (pi_enumT hg hm ha hs).run pins st σ H Rr I h
  · exact (pi_enum hg hm ha hs).run pins st σ H Rr I h
end
end Z

namespace Z
open PySem L2
end Z

namespace Z
open PySem L2 PySem.Spec PyProof.Rows
section
variable {K : PySem.W.Frag} {ρ0 : Pl} {H0 : Hp}
end
section
variable {X : Cx} {W : WX} {tg a b c e : Expr} {m : ME} {ms : MA} {p p2 pos pos2 : Pos}
end
section
variable {K : PySem.W.Frag}
end
open Classical in
theorem KR.at {P : V → D → Prop} : ∀ {ws : List (Key × V)} {kvs : List (Key × D)}, KR P ws kvs → ∀ p ∈ ws, ∃ d, (p.1, d) ∈ kvs ∧ P p.2 d
  | _, _, .nil, p, hp => by cases hp
  | _, _, .cons (v := v) (d := d) r rs, p, hp => by
    rcases List.mem_cons.mp hp with rfl | hp
    · exact ⟨_, by simp, r⟩
    · obtain ⟨d, h1, h2⟩ := KR.at rs p hp
      exact ⟨d, by simp [h1], h2⟩
end Z

namespace Z
open PySem L2
theorem vals_getV : ∀ {xs : List V} {us : List Value} {i : Nat} {u : Value}, Vals xs us → us[i]? = some u → ∃ x, xs[i]? = some x ∧ RelV x u
  | _, _, i, u, .nil, h => by simp at h
  | _, _, 0, u, .cons r rs, h => by simp only [List.getElem?_cons_zero, Option.some.injEq] at h; subst h; exact ⟨_, rfl, r⟩
  | _, _, i + 1, u, .cons r rs, h => by
    simp only [List.getElem?_cons_succ] at h ⊢
    exact vals_getV rs h
noncomputable def rMinT (X : Cx) : List V → Hp → VK → Prop := fun vs H Q => ∃ (a : Addr) (xs : List V) (p : PyData) (ps : List PyData), vs = [V.ref a] ∧ SqL X.K H a xs ∧ (∀ (pins : List (Addr × Obj)) (σ : St) (st : Shared) (us : List Value), Inv X pins σ H st → Vals xs us → ∃ as, ReadsAll st.heap us (p :: ps) as) ∧ W.AlikeAll (p :: ps) ∧ PyData.depthAll (p :: ps) ≤ 60 ∧ ∀ (i : Nat) (x : V), xs[i]? = some x → (p :: ps).getD i .none = W.minD p ps → Q x H
theorem call_minT {X : Cx} (hu : X.A.units + 100 < cLine) (hc : X.calm = true) : CallR X (.builtin "min") (rMinT X) := by
  intro pins s σ H vs us Q I r ⟨a, xs, p, ps, e, hs, hrd, ha, hd, q⟩
  subst e
  obtain ⟨its, rv, hl, _⟩ := I.list hs
  rw [Vals.ref1 r]
  obtain ⟨as, hr⟩ := hrd pins σ s its I rv
  refine W.min_list_data (I.ok.hd hc) hl.isList (by simpa using hr) ha (by omega) fun i v h' tk bs hi hrr hk => ?_
  have hi2 : its[i]? = some v := by simpa using hi
  obtain ⟨x, hx, rx⟩ := vals_getV rv hi2
  obtain ⟨bs2, r2, _⟩ := W.readsAll_atA (vs := its.toArray) (by simpa using hr) i v hi
  have := (Reads.unique (W.reads_keeps hk r2) _ _ hrr).1
  exact ⟨x, H, I.kept hk, rx, q i x hx this⟩
noncomputable def pairOfT : D → Option (Int × List Int)
  | .tup [.int k, .tup ds] => (intsOf ds).map fun ns => (k, ns)
  | _ => none
noncomputable def pairsOfT : List D → Option (List (Int × List Int))
  | [] => some []
  | d :: ds => match pairOfT d, pairsOfT ds with
    | some x, some xs => some (x :: xs)
    | _, _ => none
noncomputable def pairTD (x : Int × List Int) : D := .tup [.int x.1, .tup (x.2.map D.int)]
noncomputable def pairPy (x : Int × List Int) : PyData := .tuple [.int x.1, .tuple (x.2.map PyData.int)]
noncomputable def ltT (x y : Int × List Int) : Bool := if x.1 = y.1 then decide (x.2 < y.2) else decide (x.1 < y.1)
noncomputable def minT (x : Int × List Int) (r : List (Int × List Int)) : Int × List Int := r.foldl (fun a y => if ltT y a = true then y else a) x
noncomputable def dMinT : List D → Sto → R D
  | [d], S => (match listR d S with
    | some ds => (match pairsOfT ds with
      | some (x :: r) => .ok (pairTD (minT x r)) S
      | _ => .bad)
    | none => .bad)
  | _, _ => .bad
theorem intsOf_eqT : ∀ {ds : List D} {ns : List Int}, intsOf ds = some ns → ds = ns.map D.int
  | [], ns, h => by simp [intsOf] at h; subst h; rfl
  | d :: ds, ns, h => by
    cases d with
    | int i =>
      cases e : intsOf ds with
      | none => simp [intsOf, e] at h
      | some ms =>
        simp [intsOf, e] at h
        subst h
        rw [intsOf_eqT e]; rfl
    | _ => simp [intsOf] at h
theorem pairOfT_eq {d : D} {x : Int × List Int} (h : pairOfT d = some x) : d = pairTD x := by
  unfold pairOfT at h
  split at h
  · rename_i k ds
    rw [Option.map_eq_some_iff] at h
    obtain ⟨ns, e, rfl⟩ := h
    rw [intsOf_eqT e]; rfl
  · cases h
theorem pairsOfT_eq : ∀ {ds : List D} {xs : List (Int × List Int)}, pairsOfT ds = some xs → ds = xs.map pairTD
  | [], xs, h => by simp [pairsOfT] at h; subst h; rfl
  | d :: ds, xs, h => by
    unfold pairsOfT at h
    split at h
    · rename_i x ys e1 e2
      cases h
      rw [pairOfT_eq e1, pairsOfT_eq e2]; rfl
    · cases h
theorem py_intsT : ∀ ns : List Int, toPyDs (ns.map D.int) = some (ns.map PyData.int)
  | [] => rfl
  | n :: ns => by simp [toPyDs, toPyD, py_intsT ns]
theorem depth_intsT : ∀ ns : List Int, PyData.depthAll (ns.map PyData.int) = 0
  | [] => rfl
  | n :: ns => by simp [PyData.depthAll, PyData.depth, depth_intsT ns]
theorem py_pairT (x : Int × List Int) (S : Sto) : toPy (pairTD x) S = some (pairPy x) := by
  simp [pairTD, pairPy, toPy, toPyD, toPyDs, py_intsT]
theorem alike_intsT : ∀ a b : List Int, PySem.W.alikeAll (a.map PyData.int) (b.map PyData.int) = true
  | [], _ => by simp [PySem.W.alikeAll]
  | _ :: _, [] => by simp [PySem.W.alikeAll]
  | a :: r, b :: s => by simp [PySem.W.alikeAll, PySem.W.alike, alike_intsT r s]
theorem alike_pair (x y : Int × List Int) : PySem.W.alike (pairPy x) (pairPy y) = true := by
  simp [pairPy, PySem.W.alike, PySem.W.alikeAll, alike_intsT]
theorem eqv_intsT : ∀ ns ms : List Int, PyData.eqvAll (ns.map PyData.int) (ms.map PyData.int) = decide (ns = ms)
  | [], [] => by simp [PyData.eqvAll]
  | [], _ :: _ => by simp [PyData.eqvAll]
  | _ :: _, [] => by simp [PyData.eqvAll]
  | a :: r, b :: s => by
    simp only [List.map_cons, PyData.eqvAll, PyData.eqv, eqv_intsT r s]
    by_cases h1 : a = b <;> by_cases h2 : r = s <;> simp [h1, h2]
theorem lt_pairT (x y : Int × List Int) : PySem.W.dataLt (pairPy x) (pairPy y) = ltT x y := by
  obtain ⟨k, ns⟩ := x
  obtain ⟨m, o⟩ := y
  have e2 : PySem.W.alike (.tuple (ns.map PyData.int)) (.tuple (o.map PyData.int)) = true := by
    rw [PySem.W.alike]; exact alike_intsT ns o
  have e4 : PyData.eqv (.tuple (ns.map PyData.int)) (.tuple (o.map PyData.int)) = decide (ns = o) := by
    simp only [PyData.eqv, eqv_intsT]
  have e5 : PySem.W.dataLt (.tuple (ns.map PyData.int)) (.tuple (o.map PyData.int)) = decide (ns < o) := by
    rw [PySem.W.dataLt_tuple]; exact PySem.W.dataLt_ints ns o
  unfold pairPy ltT
  simp only
  rw [PySem.W.dataLt_pair (by simp [PySem.W.alike]) e2, e4, e5, PySem.W.dataLt_int]
  simp only [PyData.eqv, beq_iff_eq, decide_eq_true_eq]
  split
  · split
    · rename_i q; rw [q]; simp
    · rfl
  · rfl
theorem minD_pairs (r : List (Int × List Int)) : ∀ x, W.minD (pairPy x) (r.map pairPy) = pairPy (minT x r) := by
  unfold W.minD minT
  induction r with
  | nil => intro x; rfl
  | cons y r ih =>
    intro x
    rw [List.map_cons, List.foldl_cons, List.foldl_cons, ← ih]
    congr 1
    rw [lt_pairT]
    split <;> rfl
theorem pairPy_inj {x y : Int × List Int} (h : pairPy x = pairPy y) : x = y := by
  obtain ⟨k, ns⟩ := x
  obtain ⟨m, o⟩ := y
  simp only [pairPy, PyData.tuple.injEq, List.cons.injEq, PyData.int.injEq, and_true] at h
  obtain ⟨rfl, h2⟩ := h
  congr 1
  exact (List.map_inj_right (fun a b h => by cases h; rfl)).mp h2
theorem depth_pairs : ∀ xs : List (Int × List Int), PyData.depthAll (xs.map pairPy) ≤ 2
  | [] => by simp [PyData.depthAll]
  | x :: xs => by
    have := depth_pairs xs
    simp only [List.map_cons, PyData.depthAll]
    have h2 : (pairPy x).depth ≤ 2 := by simp [pairPy, PyData.depth, PyData.depthAll, depth_intsT]
    omega
theorem reads_pairs {X : Cx} {ρ : Pl} {H : Hp} {S : Sto} (s : SR X.K ρ S H) {pins : List (Addr × Obj)} {σ : St} {st : Shared} (I : Inv X pins σ H st) : ∀ (ys : List (Int × List Int)) (xs : List V) (us : List Value), VRs X.K ρ H xs (ys.map pairTD) → Vals xs us → ∃ as, ReadsAll st.heap us (ys.map pairPy) as
  | [], _, _, r, q => by cases r; cases q; exact ⟨_, .nil⟩
  | y :: ys, _, _, .cons r rs, .cons q qs => by
    obtain ⟨as, h1⟩ := rdP_of s r (py_pairT y S) pins σ st _ I q
    obtain ⟨bs, h2⟩ := reads_pairs s I ys _ _ rs qs
    exact ⟨_, .cons h1 h2⟩
theorem dMinT_ok {X : Cx} : CallS X.K dMinT (rMinT X) := fun Wk ρ S H vs ds Q s r h => by
  unfold dMinT at h
  split at h
  · obtain ⟨v, rfl, rv⟩ := vrs1 r
    split at h
    · rename_i ds e
      obtain ⟨a, xs, rfl, h1, h2⟩ := listR_of s rv e
      split at h
      · rename_i x rr e2
        have ex := pairsOfT_eq e2
        subst ex
        refine ⟨a, xs, pairPy x, rr.map pairPy, rfl, h1, fun pins σ st us I q => reads_pairs s I (x :: rr) xs us h2 q, ?_, ?_, fun i v hv hm => ?_⟩
        · rw [← List.map_cons]
          refine ⟨fun p hp q hq => ?_, fun p hp => ?_⟩
          · obtain ⟨y, _, rfl⟩ := List.mem_map.mp hp
            obtain ⟨z, _, rfl⟩ := List.mem_map.mp hq
            exact alike_pair y z
          · obtain ⟨y, _, rfl⟩ := List.mem_map.mp hp
            intro hc
            cases hc
        · rw [← List.map_cons]
          have := depth_pairs (x :: rr)
          omega
        · obtain ⟨d, hd, rvd⟩ := h2.getV hv
          rw [List.getElem?_map, Option.map_eq_some_iff] at hd
          obtain ⟨y, hy, rfl⟩ := hd
          rw [← List.map_cons, List.getD_eq_getElem?_getD, List.getElem?_map, hy, minD_pairs] at hm
          have := pairPy_inj hm
          subst this
          exact h.here s rvd
      · exact h.elim
    · exact h.elim
  · exact h.elim
end Z

namespace Hall
noncomputable abbrev Sp := Int × Int
noncomputable def inB (f l : Int) (h : Sp) : Bool := decide (f ≤ h.1) && decide (h.2 ≤ l)
theorem inB_iff {f l : Int} {h : Sp} : inB f l h = true ↔ f ≤ h.1 ∧ h.2 ≤ l := by simp [inB]
noncomputable def cnt (hs : List Sp) (f l : Int) : Nat := (hs.filter (inB f l)).length
inductive Fit : List Sp → List Int → Prop
  | nil : Fit [] []
  | cons {h : Sp} {d : Int} {hs : List Sp} {ds : List Int} : h.1 ≤ d → d ≤ h.2 → Fit hs ds → Fit (h :: hs) (d :: ds)
theorem Fit.split : ∀ {as bs : List Sp} {ds : List Int}, Fit (as ++ bs) ds → ∃ d1 d2, ds = d1 ++ d2 ∧ Fit as d1 ∧ Fit bs d2
  | [], bs, ds, h => ⟨[], ds, rfl, .nil, h⟩
  | a :: as, bs, _, .cons h1 h2 h3 => by
    obtain ⟨d1, d2, rfl, f1, f2⟩ := Fit.split h3
    exact ⟨_ :: d1, d2, rfl, .cons h1 h2 f1, f2⟩
theorem Fit.append : ∀ {as bs : List Sp} {d1 d2 : List Int}, Fit as d1 → Fit bs d2 → Fit (as ++ bs) (d1 ++ d2)
  | _, _, _, _, .nil, h => h
  | _, _, _, _, .cons h1 h2 h3, h => .cons h1 h2 (Fit.append h3 h)
theorem cnt_cons (h : Sp) (hs : List Sp) (f l : Int) : cnt (h :: hs) f l = (if inB f l h = true then 1 else 0) + cnt hs f l := by
  unfold cnt
  rw [List.filter_cons]
  split <;> simp <;> omega
theorem cnt_append (as bs : List Sp) (f l : Int) : cnt (as ++ bs) f l = cnt as f l + cnt bs f l := by
  unfold cnt
  rw [List.filter_append, List.length_append]
theorem few : ∀ (n : Nat) (ds : List Int) (f : Int), ds.Nodup → (∀ d ∈ ds, f ≤ d ∧ d < f + n) → ds.length ≤ n
  | 0, ds, f, _, h => by
    cases ds with
    | nil => simp
    | cons d r => have := h d (by simp); omega
  | n + 1, ds, f, hn, h => by
    have e := few n (ds.filter (fun d => decide (d ≠ f))) (f + 1) (hn.filter _) fun d hd => by
      have := List.mem_filter.mp hd
      have h1 := h d this.1
      have h2 : d ≠ f := by simpa using this.2
      omega
    have e2 : ds.length ≤ (ds.filter (fun d => decide (d ≠ f))).length + 1 := by
      clear e h
      induction ds with
      | nil => simp
      | cons d r ih =>
        have hc := List.nodup_cons.mp hn
        by_cases q : d = f
        · subst q
          have : r.filter (fun x => decide (x ≠ d)) = r := List.filter_eq_self.mpr fun x hx => by
            have : x ≠ d := fun e => hc.1 (e ▸ hx)
            simpa using this
          rw [List.filter_cons, this]
          simp
        · have := ih hc.2
          rw [List.filter_cons]
          simp [q]
          simp at this
          omega
    omega
theorem pick_days : ∀ {hs : List Sp} {ds : List Int} (f l : Int), Fit hs ds → ds.Nodup → ∃ es : List Int, es.Nodup ∧ es.length = cnt hs f l ∧ (∀ e ∈ es, e ∈ ds ∧ f ≤ e ∧ e ≤ l)
  | _, _, f, l, .nil, _ => ⟨[], List.nodup_nil, rfl, by simp⟩
  | _, _, f, l, .cons (h := h) (d := d) h1 h2 h3, hn => by
    have hc := List.nodup_cons.mp hn
    obtain ⟨es, e1, e2, e3⟩ := pick_days f l h3 hc.2
    rw [cnt_cons]
    by_cases q : inB f l h = true
    · refine ⟨d :: es, List.nodup_cons.mpr ⟨fun hd => hc.1 (e3 d hd).1, e1⟩, by simp [q, e2]; omega, fun e he => ?_⟩
      simp only [inB, Bool.and_eq_true, decide_eq_true_eq] at q
      rcases List.mem_cons.mp he with rfl | he
      · exact ⟨by simp, by omega, by omega⟩
      · exact ⟨by simp [(e3 e he).1], (e3 e he).2⟩
    · refine ⟨es, e1, by simp [q, e2], fun e he => ⟨by simp [(e3 e he).1], (e3 e he).2⟩⟩
theorem no_crowd_of_fit {hs : List Sp} {ds : List Int} (h : Fit hs ds) (hn : ds.Nodup) {f l : Int} (hl : f ≤ l) : (cnt hs f l : Int) ≤ l - f + 1 := by
  obtain ⟨es, e1, e2, e3⟩ := pick_days f l h hn
  have := few (l - f + 1).toNat es f e1 fun d hd => by have := e3 d hd; omega
  omega
theorem first_of : ∀ (hs : List Sp), hs ≠ [] → ∃ as c bs, hs = as ++ c :: bs ∧ ∀ h ∈ hs, c.1 < h.1 ∨ (c.1 = h.1 ∧ c.2 ≤ h.2)
  | [], h => absurd rfl h
  | [a], _ => ⟨[], a, [], rfl, fun h hh => by rw [List.mem_singleton.mp hh]; omega⟩
  | a :: b :: r, _ => by
    obtain ⟨as, c, bs, e, hc⟩ := first_of (b :: r) (by simp)
    by_cases q : c.1 < a.1 ∨ (c.1 = a.1 ∧ c.2 ≤ a.2)
    · refine ⟨a :: as, c, bs, by rw [e]; rfl, fun h hh => ?_⟩
      rcases List.mem_cons.mp hh with rfl | hh
      · exact q
      · exact hc h hh
    · refine ⟨[], a, b :: r, rfl, fun h hh => ?_⟩
      rcases List.mem_cons.mp hh with rfl | hh
      · omega
      · have := hc h hh; omega
noncomputable def bump (f : Int) (h : Sp) : Sp := (max h.1 f, h.2)
theorem cnt_le {hs : List Sp} {g : Sp → Sp} {f l f' l' : Int} (h : ∀ x ∈ hs, inB f l (g x) = true → inB f' l' x = true) : cnt (hs.map g) f l ≤ cnt hs f' l' := by
  induction hs with
  | nil => simp [cnt]
  | cons x r ih =>
    rw [List.map_cons, cnt_cons, cnt_cons]
    have h1 := ih fun y hy => h y (by simp [hy])
    have h2 := h x (by simp)
    by_cases q : inB f l (g x) = true
    · simp [q, h2 q]; omega
    · simp [q]; omega
theorem hall : ∀ (n : Nat) (hs : List Sp), hs.length = n → (∀ h ∈ hs, h.1 ≤ h.2) → (∀ f l, f ≤ l → (cnt hs f l : Int) ≤ l - f + 1) → ∃ ds, Fit hs ds ∧ ds.Nodup
  | 0, hs, hn, _, _ => by
    cases hs with
    | nil => exact ⟨[], .nil, List.nodup_nil⟩
    | cons _ _ => simp at hn
  | n + 1, hs, hn, ho, hc => by
    obtain ⟨as, c, bs, rfl, hm⟩ := first_of hs (by rintro rfl; simp at hn)
    have hoc := ho c (by simp)
    have sub : ∀ x ∈ as ++ bs, x ∈ as ++ c :: bs := fun x hx => by
      rcases List.mem_append.mp hx with h | h <;> simp [h]
    have total : ∀ f l, cnt (as ++ c :: bs) f l = (if inB f l c = true then 1 else 0) + cnt (as ++ bs) f l := fun f l => by
      rw [cnt_append, cnt_append, cnt_cons]; omega
    have late : ∀ x ∈ as ++ bs, c.1 < x.2 := fun x hx => by
      have h1 := ho x (sub x hx)
      have h2 := hm x (sub x hx)
      by_cases q2 : c.1 < x.2
      · exact q2
      · exfalso
        have e1 : x.1 = c.1 := by omega
        have e2 : x.2 = c.1 := by omega
        have e3 : c.2 = c.1 := by omega
        have k := hc c.1 c.1 (by omega)
        rw [total] at k
        have ic : inB c.1 c.1 c = true := by simp [inB, e3]
        have ix : inB c.1 c.1 x = true := by simp [inB, e1, e2]
        have pos : 1 ≤ cnt (as ++ bs) c.1 c.1 := by
          unfold cnt
          exact List.length_pos_of_mem (List.mem_filter.mpr ⟨hx, ix⟩)
        simp [ic] at k
        omega
    obtain ⟨ds, hf, hnd⟩ := hall n ((as ++ bs).map (bump (c.1 + 1))) (by simp at hn ⊢; omega)
      (fun h hh => by
        obtain ⟨x, hx, rfl⟩ := List.mem_map.mp hh
        have h1 := ho x (sub x hx)
        have h2 := hm x (sub x hx)
        show max x.1 (c.1 + 1) ≤ x.2
        have := late x hx
        omega)
      (fun f l hl => by
        by_cases q : c.1 + 1 < f
        · have k := hc f l hl
          rw [total] at k
          have := cnt_le (hs := as ++ bs) (g := bump (c.1 + 1)) (f := f) (l := l) (f' := f) (l' := l) fun x hx hi => by
            rw [inB_iff] at hi ⊢
            have hi1 : f ≤ max x.1 (c.1 + 1) := hi.1
            have hi2 : x.2 ≤ l := hi.2
            omega
          omega
        · by_cases ql : c.1 + 1 ≤ l
          · by_cases qc : c.2 ≤ l
            · have k := hc c.1 l (by omega)
              rw [total] at k
              have ic : inB c.1 l c = true := by simp [inB, qc]
              have := cnt_le (hs := as ++ bs) (g := bump (c.1 + 1)) (f := f) (l := l) (f' := c.1) (l' := l) fun x hx hi => by
                have := hm x (sub x hx)
                rw [inB_iff] at hi ⊢
                have hi1 : f ≤ max x.1 (c.1 + 1) := hi.1
                have hi2 : x.2 ≤ l := hi.2
                omega
              simp [ic] at k
              omega
            · have k := hc (c.1 + 1) l ql
              rw [total] at k
              have := cnt_le (hs := as ++ bs) (g := bump (c.1 + 1)) (f := f) (l := l) (f' := c.1 + 1) (l' := l) fun x hx hi => by
                have := hm x (sub x hx)
                rw [inB_iff] at hi ⊢
                have hi1 : f ≤ max x.1 (c.1 + 1) := hi.1
                have hi2 : x.2 ≤ l := hi.2
                omega
              omega
          · have : cnt ((as ++ bs).map (bump (c.1 + 1))) f l ≤ cnt ([] : List Sp) f l := by
              unfold cnt
              rw [List.filter_eq_nil_iff.mpr]
              · simp
              · intro y hy
                obtain ⟨x, hx, rfl⟩ := List.mem_map.mp hy
                have h1 := ho x (sub x hx)
                have h2 := late x hx
                intro hi
                rw [inB_iff] at hi
                have hi1 : f ≤ max x.1 (c.1 + 1) := hi.1
                have hi2 : x.2 ≤ l := hi.2
                omega
            have z : cnt ([] : List Sp) f l = 0 := rfl
            omega)
    obtain ⟨d1, d2, e, f1, f2⟩ := Fit.split (as := as.map (bump (c.1 + 1))) (by rw [List.map_append] at hf; exact hf)
    subst e
    have un : ∀ {xs : List Sp} {ys : List Int}, Fit (xs.map (bump (c.1 + 1))) ys → Fit xs ys ∧ ∀ y ∈ ys, c.1 < y := by
      intro xs
      induction xs with
      | nil => intro ys h; cases h; exact ⟨.nil, by simp⟩
      | cons x r ih =>
        intro ys h
        cases h with
        | cons h1 h2 h3 =>
          obtain ⟨i1, i2⟩ := ih h3
          simp only [bump] at h1 h2
          refine ⟨.cons (by omega) h2 i1, fun y hy => ?_⟩
          rcases List.mem_cons.mp hy with rfl | hy
          · omega
          · exact i2 y hy
    obtain ⟨g1, g2⟩ := un f1
    obtain ⟨g3, g4⟩ := un f2
    refine ⟨d1 ++ c.1 :: d2, g1.append (.cons (Int.le_refl _) hoc g3), ?_⟩
    rw [List.nodup_append] at hnd ⊢
    refine ⟨hnd.1, List.nodup_cons.mpr ⟨fun h => by have := g4 _ h; omega, hnd.2.1⟩, fun a ha b hb => ?_⟩
    rcases List.mem_cons.mp hb with rfl | hb
    · have := g2 a ha; omega
    · exact hnd.2.2 a ha b hb
noncomputable def irng (f l : Int) : List Int := (List.range (l + 1 - f).toNat).map fun (k : Nat) => f + (k : Int)
theorem irng_mem {f l d : Int} : d ∈ irng f l ↔ f ≤ d ∧ d ≤ l := by
  unfold irng
  rw [List.mem_map]
  constructor
  · rintro ⟨k, hk, rfl⟩
    have := List.mem_range.mp hk
    omega
  · intro h
    exact ⟨(d - f).toNat, List.mem_range.mpr (by omega), by omega⟩
noncomputable def ext (h : Sp) (r : List Int) : List (List Int) := ((irng h.1 h.2).filter fun d => !(r.contains d)).map fun d => r ++ [d]
noncomputable def step (R : List (List Int)) (h : Sp) : List (List Int) := R.flatMap (ext h)
noncomputable def ords (hs : List Sp) : List (List Int) := hs.foldl step [[]]
theorem ext_mem {h : Sp} {r x : List Int} : x ∈ ext h r ↔ ∃ d, x = r ++ [d] ∧ h.1 ≤ d ∧ d ≤ h.2 ∧ d ∉ r := by
  unfold ext
  rw [List.mem_map]
  constructor
  · rintro ⟨d, hd, rfl⟩
    have h1 := List.mem_filter.mp hd
    have h2 := irng_mem.mp h1.1
    exact ⟨d, rfl, h2.1, h2.2, by simpa using h1.2⟩
  · rintro ⟨d, rfl, h1, h2, h3⟩
    exact ⟨d, List.mem_filter.mpr ⟨irng_mem.mpr ⟨h1, h2⟩, by simpa using h3⟩, rfl⟩
theorem mem_fold : ∀ (hs : List Sp) (R : List (List Int)) (x : List Int), x ∈ hs.foldl step R ↔ ∃ r ∈ R, ∃ ds, x = r ++ ds ∧ Fit hs ds ∧ ds.Nodup ∧ ∀ d ∈ ds, d ∉ r
  | [], R, x => by
    constructor
    · intro h
      exact ⟨x, h, [], by simp, .nil, List.nodup_nil, by simp⟩
    · rintro ⟨r, hr, ds, rfl, h, _⟩
      cases h
      simpa using hr
  | h :: hs, R, x => by
    rw [List.foldl_cons, mem_fold hs]
    constructor
    · rintro ⟨r1, hr1, ds, rfl, f, nd, ap⟩
      obtain ⟨r, hr, he⟩ := List.mem_flatMap.mp hr1
      obtain ⟨d, rfl, h1, h2, h3⟩ := ext_mem.mp he
      refine ⟨r, hr, d :: ds, by simp, .cons h1 h2 f, List.nodup_cons.mpr ⟨fun q => ap d q (by simp), nd⟩, fun e he => ?_⟩
      rcases List.mem_cons.mp he with rfl | he
      · exact h3
      · exact fun q => ap e he (by simp [q])
    · rintro ⟨r, hr, ds, rfl, f, nd, ap⟩
      cases f with
      | @cons _ d _ ds h1 h2 f =>
        have hc := List.nodup_cons.mp nd
        refine ⟨r ++ [d], List.mem_flatMap.mpr ⟨r, hr, ext_mem.mpr ⟨d, rfl, h1, h2, ap d (by simp)⟩⟩, ds, by simp, f, hc.2, fun e he => ?_⟩
        simp only [List.mem_append, List.mem_singleton, not_or]
        exact ⟨ap e (by simp [he]), fun q => hc.1 (q ▸ he)⟩
theorem ords_some {hs : List Sp} : ords hs ≠ [] ↔ ∃ ds, Fit hs ds ∧ ds.Nodup := by
  constructor
  · intro h
    obtain ⟨x, hx⟩ := List.exists_mem_of_ne_nil _ h
    obtain ⟨r, hr, ds, _, f, nd, _⟩ := (mem_fold hs [[]] x).mp hx
    exact ⟨ds, f, nd⟩
  · rintro ⟨ds, f, nd⟩ e
    have := (mem_fold hs [[]] ds).mpr ⟨[], by simp, ds, rfl, f, nd, by simp⟩
    unfold ords at e
    rw [e] at this
    cases this
theorem ext_len {h : Sp} {r : List Int} (hw : h.2 < h.1 + 5) : (ext h r).length ≤ 5 := by
  unfold ext
  rw [List.length_map]
  refine Nat.le_trans (List.length_filter_le _ _) ?_
  unfold irng
  rw [List.length_map, List.length_range]
  omega
theorem step_len {h : Sp} (hw : h.2 < h.1 + 5) : ∀ R : List (List Int), (step R h).length ≤ 5 * R.length
  | [] => by simp [step]
  | r :: R => by
    have h1 := step_len hw R
    have h2 := ext_len (r := r) hw
    unfold step at h1 ⊢
    rw [List.flatMap_cons, List.length_append, List.length_cons]
    omega
theorem crowd_iff {hs : List Sp} (ho : ∀ h ∈ hs, 0 ≤ h.1 ∧ h.1 ≤ h.2 ∧ h.2 ≤ 60) : (∀ f l : Int, 0 ≤ f → f ≤ l → l ≤ 60 → (cnt hs f l : Int) ≤ l - f + 1) ↔ ords hs ≠ [] := by
  rw [ords_some]
  constructor
  · intro h
    refine hall _ hs rfl (fun x hx => (ho x hx).2.1) fun f l hl => ?_
    have le : cnt hs f l ≤ cnt hs (max f 0) (min l 60) := by
      have := cnt_le (hs := hs) (g := id) (f := f) (l := l) (f' := max f 0) (l' := min l 60) fun x hx hi => by
        have := ho x hx
        rw [inB_iff] at hi ⊢
        have h1 : f ≤ x.1 := hi.1
        have h2 : x.2 ≤ l := hi.2
        omega
      simpa using this
    by_cases q : max f 0 ≤ min l 60
    · have := h (max f 0) (min l 60) (by omega) q (by omega)
      omega
    · have z : cnt hs f l = 0 := by
        unfold cnt
        rw [List.filter_eq_nil_iff.mpr]
        · rfl
        · intro x hx hi
          have := ho x hx
          rw [inB_iff] at hi
          omega
      rw [z]; omega
  · rintro ⟨ds, f, nd⟩ a b _ hab _
    exact no_crowd_of_fit f nd hab
end Hall

namespace Srch
open Hall Z
noncomputable abbrev Hr := Int × Int × List Int
noncomputable abbrev spH (h : Hr) : Sp := (h.1, h.2.1)
noncomputable def has (p : Int) (h : Hr) : Bool := h.2.2.contains p
noncomputable def sel (p : Int) : List Hr → List Int → List Int
  | h :: r, d :: ds => if has p h = true then d :: sel p r ds else sel p r ds
  | _, _ => []
noncomputable def mx : List Int → Int
  | [] => 0
  | x :: r => maxI x r
noncomputable def mn : List Int → Int
  | [] => 0
  | x :: r => minI x r
noncomputable def spanOf : List Int → Int
  | [] => 0
  | x :: r => maxI x r - minI x r + 1
noncomputable def spanLB (g : List Int) (l : List Hr) : Int := if g = [] ∧ l = [] then 0 else max (mx (g ++ l.map fun h => h.1) - mn (g ++ l.map fun h => h.2.1) + 1) ((g.length : Int) + l.length)
noncomputable def prs : List Int := [0, 1, 2, 3, 4, 5]
noncomputable def bound (hs rem : List Hr) (days : List Int) : Int := (prs.map fun p => spanLB (sel p hs days) (rem.filter (has p))).sum
noncomputable def kept (hs : List Hr) (x : List Int) : Int := (prs.map fun p => spanOf (sel p hs x)).sum
noncomputable abbrev Best := Option (Int × List Int)
noncomputable def beats (b : Best) (m : Int) : Bool := match b with
  | some (k, _) => decide (k ≤ m)
  | none => false
noncomputable def srch (hs : List Hr) : List Hr → List Int → Best → Best
  | [], days, b => if beats b (bound hs [] days) = true then b else some (bound hs [] days, days)
  | h :: r, days, b => if beats b (bound hs (h :: r) days) = true then b else (irng h.1 h.2.1).foldl (fun b d => if d ∈ days then b else srch hs r (days ++ [d]) b) b
noncomputable def upd (hs : List Hr) (b : Best) (x : List Int) : Best := if beats b (kept hs x) = true then b else some (kept hs x, x)
noncomputable abbrev comps (rem : List Hr) (days : List Int) : List (List Int) := (rem.map spH).foldl step [days]
theorem maxI_mem : ∀ (y : Int) (r : List Int), maxI y r ∈ y :: r
  | y, [] => by simp [maxI]
  | y, z :: r => by
    unfold maxI
    rcases Int.le_total y (maxI z r) with q | q
    · rw [Int.max_eq_right q]; exact List.mem_cons_of_mem _ (maxI_mem z r)
    · rw [Int.max_eq_left q]; exact List.mem_cons_self
theorem minI_mem : ∀ (y : Int) (r : List Int), minI y r ∈ y :: r
  | y, [] => by simp [minI]
  | y, z :: r => by
    unfold minI
    rcases Int.le_total y (minI z r) with q | q
    · rw [Int.min_eq_left q]; exact List.mem_cons_self
    · rw [Int.min_eq_right q]; exact List.mem_cons_of_mem _ (minI_mem z r)
theorem maxI_ge : ∀ (y : Int) (r : List Int), ∀ z ∈ y :: r, z ≤ maxI y r
  | y, [], z, h => by simp at h; simp [maxI, h]
  | y, x :: r, z, h => by
    unfold maxI
    rcases List.mem_cons.mp h with rfl | h
    · exact Int.le_max_left _ _
    · exact Int.le_trans (maxI_ge x r z h) (Int.le_max_right _ _)
theorem minI_le : ∀ (y : Int) (r : List Int), ∀ z ∈ y :: r, minI y r ≤ z
  | y, [], z, h => by simp at h; simp [minI, h]
  | y, x :: r, z, h => by
    unfold minI
    rcases List.mem_cons.mp h with rfl | h
    · exact Int.min_le_left _ _
    · exact Int.le_trans (Int.min_le_right _ _) (minI_le x r z h)
theorem mx_mem {L : List Int} (h : L ≠ []) : mx L ∈ L := by
  cases L with
  | nil => exact absurd rfl h
  | cons x r => exact maxI_mem x r
theorem mn_mem {L : List Int} (h : L ≠ []) : mn L ∈ L := by
  cases L with
  | nil => exact absurd rfl h
  | cons x r => exact minI_mem x r
theorem mx_ge {L : List Int} {z : Int} (h : z ∈ L) : z ≤ mx L := by
  cases L with
  | nil => cases h
  | cons x r => exact maxI_ge x r z h
theorem mn_le {L : List Int} {z : Int} (h : z ∈ L) : mn L ≤ z := by
  cases L with
  | nil => cases h
  | cons x r => exact minI_le x r z h
theorem span_eq {L : List Int} (h : L ≠ []) : spanOf L = mx L - mn L + 1 := by
  cases L with
  | nil => exact absurd rfl h
  | cons x r => rfl
theorem len_span {L : List Int} (hn : L.Nodup) : (L.length : Int) ≤ spanOf L := by
  cases L with
  | nil => simp [spanOf]
  | cons x r =>
    have hne : x :: r ≠ [] := by simp
    rw [span_eq hne]
    have h1 := mn_le (mx_mem hne)
    have := few (mx (x :: r) - mn (x :: r) + 1).toNat (x :: r) (mn (x :: r)) hn fun d hd => ⟨mn_le hd, by have := mx_ge hd; omega⟩
    omega
theorem sel_append (p : Int) : ∀ {a b : List Hr} {x y : List Int}, a.length = x.length → sel p (a ++ b) (x ++ y) = sel p a x ++ sel p b y
  | [], b, [], y, _ => by cases b <;> cases y <;> simp [sel]
  | h :: r, b, d :: ds, y, e => by
    have ih := sel_append p (a := r) (b := b) (x := ds) (y := y) (by simpa using e)
    simp only [List.cons_append, sel, ih]
    split <;> simp
theorem sel_sub (p : Int) : ∀ (a : List Hr) (x : List Int), (sel p a x).Sublist x
  | [], x => by simp [sel]
  | h :: r, [] => by simp [sel]
  | h :: r, d :: ds => by
    simp only [sel]
    split
    · exact (sel_sub p r ds).cons₂ d
    · exact (sel_sub p r ds).cons d
theorem sel_stop (p : Int) : ∀ {a : List Hr} (b : List Hr) {x : List Int}, a.length = x.length → sel p (a ++ b) x = sel p a x
  | [], b, [], _ => by cases b <;> simp [sel]
  | h :: r, b, d :: ds, e => by
    have ih := sel_stop p (a := r) b (x := ds) (by simpa using e)
    simp only [List.cons_append, sel, ih]
theorem sel_fit (p : Int) : ∀ {rem : List Hr} {ds : List Int}, Fit (rem.map spH) ds → (sel p rem ds).length = (rem.filter (has p)).length ∧ (∀ h ∈ rem.filter (has p), ∃ d ∈ sel p rem ds, h.1 ≤ d ∧ d ≤ h.2.1)
  | [], ds, f => by cases f; simp [sel]
  | h :: r, [], f => nomatch f
  | h :: r, d :: ds, .cons g1 g2 f2 => by
    have ih := sel_fit p (rem := r) f2
    simp only [sel, List.filter_cons]
    split
    · refine ⟨by simp [ih.1], fun k hk => ?_⟩
      rcases List.mem_cons.mp hk with rfl | hk
      · exact ⟨d, by simp, g1, g2⟩
      · obtain ⟨e, he, q⟩ := ih.2 k hk
        exact ⟨e, List.mem_cons_of_mem _ he, q⟩
    · exact ih
theorem fit_len : ∀ {hs : List Sp} {ds : List Int}, Fit hs ds → hs.length = ds.length
  | _, _, .nil => rfl
  | _, _, .cons _ _ f => by simp [fit_len f]
theorem lb_one {pre rem : List Hr} {days ds : List Int} (p : Int) (hl : pre.length = days.length) (hf : Fit (rem.map spH) ds) (hn : (days ++ ds).Nodup) : spanLB (sel p (pre ++ rem) days) (rem.filter (has p)) ≤ spanOf (sel p (pre ++ rem) (days ++ ds)) := by
  rw [sel_stop p rem hl, sel_append p hl]
  obtain ⟨f1, f2⟩ := sel_fit p hf
  have hnd : (sel p pre days ++ sel p rem ds).Nodup := by
    have := (sel_append (b := rem) (y := ds) p hl) ▸ (sel_sub p (pre ++ rem) (days ++ ds))
    exact hn.sublist this
  unfold spanLB
  split
  · rename_i e
    have : sel p rem ds = [] := List.eq_nil_of_length_eq_zero (by rw [f1, e.2]; rfl)
    rw [e.1, this]; exact Int.le_refl _
  · rename_i e
    have hne : sel p pre days ++ sel p rem ds ≠ [] := fun q => by
      obtain ⟨q1, q2⟩ := List.append_eq_nil_iff.mp q
      exact e ⟨q1, List.eq_nil_of_length_eq_zero (by rw [← f1, q2]; rfl)⟩
    have hlen := len_span hnd
    rw [List.length_append, f1] at hlen
    refine Int.max_le.mpr ⟨?_, by push_cast at hlen; omega⟩
    rw [span_eq hne]
    have g0 : ∀ f : Hr → Int, sel p pre days ++ (rem.filter (has p)).map f ≠ [] := fun f q => by
      obtain ⟨q1, q2⟩ := List.append_eq_nil_iff.mp q
      exact e ⟨q1, List.map_eq_nil_iff.mp q2⟩
    have a1 : mx (sel p pre days ++ (rem.filter (has p)).map fun h => h.1) ≤ mx (sel p pre days ++ sel p rem ds) := by
      rcases List.mem_append.mp (mx_mem (g0 fun h => h.1)) with m | m
      · exact mx_ge (List.mem_append_left _ m)
      · obtain ⟨h, hh, e1⟩ := List.mem_map.mp m
        obtain ⟨d, hd, h1, _⟩ := f2 h hh
        rw [← e1]
        exact Int.le_trans h1 (mx_ge (List.mem_append_right _ hd))
    have a2 : mn (sel p pre days ++ sel p rem ds) ≤ mn (sel p pre days ++ (rem.filter (has p)).map fun h => h.2.1) := by
      rcases List.mem_append.mp (mn_mem (g0 fun h => h.2.1)) with m | m
      · exact mn_le (List.mem_append_left _ m)
      · obtain ⟨h, hh, e1⟩ := List.mem_map.mp m
        obtain ⟨d, hd, _, h2⟩ := f2 h hh
        rw [← e1]
        exact Int.le_trans (mn_le (List.mem_append_right _ hd)) h2
    omega
theorem sum_le {α : Type} {f g : α → Int} : ∀ {l : List α}, (∀ x ∈ l, f x ≤ g x) → (l.map f).sum ≤ (l.map g).sum
  | [], _ => Int.le_refl _
  | x :: r, h => by
    have h1 := h x (by simp)
    have ih := sum_le (l := r) fun y hy => h y (by simp [hy])
    simp only [List.map_cons, List.sum_cons]
    omega
theorem lb {pre rem : List Hr} {days ds : List Int} (hl : pre.length = days.length) (hf : Fit (rem.map spH) ds) (hn : (days ++ ds).Nodup) : bound (pre ++ rem) rem days ≤ kept (pre ++ rem) (days ++ ds) := sum_le fun p _ => lb_one p hl hf hn
theorem leaf {pre : List Hr} {days : List Int} (hl : pre.length = days.length) (hn : days.Nodup) : bound pre [] days = kept pre days := by
  unfold bound kept
  congr 1
  refine List.map_congr_left fun p _ => ?_
  have hnd : (sel p pre days).Nodup := hn.sublist (sel_sub p pre days)
  have h1 := len_span hnd
  simp only [spanLB, List.filter_nil, List.map_nil, List.append_nil, and_true, List.length_nil]
  split
  · rename_i e; rw [e]; rfl
  · rename_i e
    rw [span_eq e] at h1 ⊢
    simp
    omega
theorem fold_flat : ∀ (hs : List Sp) (R : List (List Int)), hs.foldl step R = R.flatMap fun x => hs.foldl step [x]
  | [], R => by simp
  | h :: hs, R => by
    rw [List.foldl_cons, fold_flat hs (step R h)]
    show (R.flatMap (Hall.ext h)).flatMap (fun x => hs.foldl step [x]) = _
    rw [List.flatMap_assoc]
    congr 1
    funext x
    rw [List.foldl_cons, fold_flat hs (step [x] h)]
    show _ = ([x].flatMap (Hall.ext h)).flatMap (fun x => hs.foldl step [x])
    simp
theorem upd_none {hs : List Hr} {b : Best} {R : List (List Int)} (h : ∀ x ∈ R, beats b (kept hs x) = true) : R.foldl (upd hs) b = b := by
  induction R with
  | nil => rfl
  | cons x r ih =>
    have : upd hs b x = b := by unfold upd; rw [if_pos (h x (by simp))]
    rw [List.foldl_cons, this]
    exact ih fun y hy => h y (by simp [hy])
theorem beats_le {b : Best} {m k : Int} (h : beats b m = true) (hk : m ≤ k) : beats b k = true := by
  cases b with
  | none => cases h
  | some x => simp only [beats, decide_eq_true_eq] at h ⊢; omega
theorem fold_filter {α β : Type} {f : β → α → β} {q : α → Bool} : ∀ {l : List α} {b : β}, (l.filter q).foldl f b = l.foldl (fun b x => if q x = true then f b x else b) b
  | [], b => rfl
  | x :: r, b => by
    rw [List.filter_cons]
    cases e : q x <;> simp [e, fold_filter (l := r)]
theorem srch_eq {hs : List Hr} : ∀ (rem : List Hr) {pre : List Hr} {days : List Int} (b : Best), hs = pre ++ rem → pre.length = days.length → days.Nodup → srch hs rem days b = (comps rem days).foldl (upd hs) b
  | [], pre, days, b, e, hl, hn => by
    rw [List.append_nil] at e
    subst e
    unfold srch
    rw [leaf hl hn]
    rfl
  | h :: r, pre, days, b, e, hl, hn => by
    have memc : ∀ x ∈ comps (h :: r) days, bound hs (h :: r) days ≤ kept hs x := fun x hx => by
      obtain ⟨r0, hr0, ds, rfl, f, nd, ni⟩ := (mem_fold _ _ _).mp hx
      rw [List.mem_singleton.mp hr0] at ni ⊢
      rw [e]
      refine lb hl f ?_
      rw [List.nodup_append]
      exact ⟨hn, nd, fun a ha c hc q => ni c hc (q ▸ ha)⟩
    unfold srch
    split
    · rename_i hb
      exact (upd_none fun x hx => beats_le hb (memc x hx)).symm
    · have ec : comps (h :: r) days = (ext (spH h) days).flatMap fun x => comps r x := by
        show ((h :: r).map spH).foldl step [days] = _
        rw [List.map_cons, List.foldl_cons, fold_flat]
        simp [step]
      rw [ec, List.foldl_flatMap]
      unfold Hall.ext
      rw [List.foldl_map, fold_filter]
      congr 1
      funext b d
      by_cases q : d ∈ days
      · simp [q]
      · have q2 : (!(days.contains d)) = true := by simpa using q
        rw [if_neg q, if_pos q2]
        exact srch_eq r (pre := pre ++ [h]) (days := days ++ [d]) b (by rw [e]; simp) (by simp [hl]) (by
          rw [List.nodup_append]
          exact ⟨hn, by simp, fun a ha c hc e2 => by rw [List.mem_singleton.mp hc] at e2; exact q (e2 ▸ ha)⟩)
noncomputable def ltL : List Int → List Int → Bool
  | [], _ :: _ => true
  | _, [] => false
  | a :: r, b :: s => decide (a < b) || (decide (a = b) && ltL r s)
theorem found {hs : List Hr} : ∀ {R : List (List Int)} {b : Best} {m : Int} {o : List Int}, R.foldl (upd hs) b = some (m, o) → (b = some (m, o) ∨ (o ∈ R ∧ m = kept hs o)) ∧ (∀ x ∈ R, m ≤ kept hs x) ∧ (∀ k y, b = some (k, y) → m ≤ k)
  | [], b, m, o, h => ⟨.inl h, fun x hx => (nomatch hx), fun k y e => by rw [List.foldl_nil, e] at h; cases h; exact Int.le_refl _⟩
  | x :: R, b, m, o, h => by
    rw [List.foldl_cons] at h
    obtain ⟨h1, h2, h3⟩ := found h
    unfold upd at h1 h3
    split at h3
    · rename_i hb
      rw [if_pos hb] at h1
      refine ⟨h1.imp id fun q => ⟨List.mem_cons_of_mem _ q.1, q.2⟩, fun z hz => ?_, h3⟩
      rcases List.mem_cons.mp hz with rfl | hz
      · cases b with
        | none => cases hb
        | some kb =>
          have := h3 kb.1 kb.2 rfl
          simp only [beats, decide_eq_true_eq] at hb
          omega
      · exact h2 z hz
    · rename_i hb
      rw [if_neg hb] at h1
      have hx := h3 _ _ rfl
      refine ⟨.inr ?_, fun z hz => ?_, fun k y e => ?_⟩
      · rcases h1 with e | e
        · cases e; exact ⟨List.mem_cons_self, rfl⟩
        · exact ⟨List.mem_cons_of_mem _ e.1, e.2⟩
      · rcases List.mem_cons.mp hz with rfl | hz
        · exact hx
        · exact h2 z hz
      · subst e
        simp only [beats, decide_eq_true_eq] at hb
        omega
theorem stay {hs : List Hr} {R : List (List Int)} {m : Int} {y o : List Int} (h : R.foldl (upd hs) (some (m, y)) = some (m, o)) : o = y := by
  have h2 := (found h).2.1
  rw [upd_none fun x hx => by simp only [beats, decide_eq_true_eq]; exact h2 x hx] at h
  cases h; rfl
theorem first {hs : List Hr} : ∀ {R : List (List Int)} {b : Best} {m : Int} {o : List Int}, R.foldl (upd hs) b = some (m, o) → R.Pairwise (fun x y => ltL x y = true) → ∀ x ∈ R, kept hs x = m → o = x ∨ ltL o x = true ∨ b = some (m, o)
  | [], _, _, _, _, _, x, hx, _ => nomatch hx
  | x0 :: R, b, m, o, h, hp, x, hx, hk => by
    have hp' := List.pairwise_cons.mp hp
    rw [List.foldl_cons] at h
    have h3 := (found h).2.2
    rcases List.mem_cons.mp hx with rfl | hx
    · unfold upd at h h3
      split at h
      · rename_i hb
        rw [if_pos hb] at h3
        cases b with
        | none => cases hb
        | some kb =>
          obtain ⟨k, y⟩ := kb
          have h4 := h3 k y rfl
          simp only [beats, decide_eq_true_eq] at hb
          have ek : k = m := by omega
          subst ek
          rw [stay h]; exact .inr (.inr rfl)
      · rw [hk] at h
        exact .inl (stay h)
    · rcases first h hp'.2 x hx hk with e | e | e
      · exact .inl e
      · exact .inr (.inl e)
      · unfold upd at e
        split at e
        · exact .inr (.inr e)
        · cases e
          exact .inr (.inl (hp'.1 x hx))
theorem ltL_irr : ∀ a : List Int, ltL a a = false
  | [] => rfl
  | a :: r => by simp [ltL, ltL_irr r]
theorem ltL_asym : ∀ {a b : List Int}, ltL a b = true → ltL b a = false
  | [], _ :: _, _ => rfl
  | a :: r, b :: s, h => by
    simp only [ltL, Bool.or_eq_true, Bool.and_eq_true, decide_eq_true_eq, Bool.or_eq_false_iff, Bool.and_eq_false_iff, decide_eq_false_iff_not] at h ⊢
    rcases h with h | ⟨rfl, h⟩
    · exact ⟨by omega, .inl (by omega)⟩
    · exact ⟨by omega, .inr (ltL_asym h)⟩
theorem ltL_app : ∀ {a b : List Int} (x y : List Int), a.length = b.length → ltL a b = true → ltL (a ++ x) (b ++ y) = true
  | [], [], _, _, _, h => by cases h
  | a :: r, b :: s, x, y, e, h => by
    simp only [ltL, Bool.or_eq_true, Bool.and_eq_true, decide_eq_true_eq, List.cons_append] at h ⊢
    rcases h with h | ⟨h1, h2⟩
    · exact .inl h
    · exact .inr ⟨h1, ltL_app x y (by simpa using e) h2⟩
theorem ltL_last : ∀ (r : List Int) {d e : Int}, d < e → ltL (r ++ [d]) (r ++ [e]) = true
  | [], d, e, h => by simp [ltL, h]
  | a :: r, d, e, h => by simp [ltL, ltL_last r h]
theorem irng_up (f l : Int) : (irng f l).Pairwise (· < ·) := by
  unfold irng
  rw [List.pairwise_map]
  exact List.pairwise_lt_range.imp fun h => by omega
theorem ext_up (h : Sp) (r : List Int) : (Hall.ext h r).Pairwise fun x y => ltL x y = true := by
  unfold Hall.ext
  rw [List.pairwise_map]
  exact ((irng_up h.1 h.2).filter _).imp fun q => ltL_last r q
theorem fold_up : ∀ (hs : List Sp) {R : List (List Int)} {n : Nat}, (∀ r ∈ R, r.length = n) → (R.Pairwise fun x y => ltL x y = true) → ((hs.foldl step R).Pairwise fun x y => ltL x y = true)
  | [], R, n, _, h => h
  | h :: hs, R, n, hl, hp => by
    rw [List.foldl_cons]
    refine fold_up hs (n := n + 1) (fun x hx => ?_) ?_
    · obtain ⟨r, hr, hx⟩ := List.mem_flatMap.mp hx
      obtain ⟨d, rfl, _⟩ := ext_mem.mp hx
      simp [hl r hr]
    · show (R.flatMap (Hall.ext h)).Pairwise _
      rw [List.pairwise_flatMap]
      refine ⟨fun r _ => ext_up h r, ?_⟩
      refine List.Pairwise.imp_of_mem (fun {a b} ha hb q x hx y hy => ?_) hp
      obtain ⟨d, rfl, _⟩ := ext_mem.mp hx
      obtain ⟨e, rfl, _⟩ := ext_mem.mp hy
      exact ltL_app [d] [e] ((hl a ha).trans (hl b hb).symm) q
noncomputable abbrev all (hs : List Hr) : List (List Int) := ords (hs.map spH)
theorem srch_all {hs : List Hr} : srch hs hs [] none = (all hs).foldl (upd hs) none := srch_eq hs (pre := []) none rfl rfl .nil
theorem srch_some {hs : List Hr} {m : Int} {o : List Int} (h : srch hs hs [] none = some (m, o)) : o ∈ all hs ∧ m = kept hs o ∧ ∀ x ∈ all hs, m ≤ kept hs x ∧ (kept hs x = m → ltL x o = false) := by
  rw [srch_all] at h
  obtain ⟨h1, h2, _⟩ := found h
  rcases h1 with h1 | h1
  · cases h1
  refine ⟨h1.1, h1.2, fun x hx => ⟨h2 x hx, fun hk => ?_⟩⟩
  rcases first h (fold_up _ (n := 0) (by simp) (by simp)) x hx hk with e | e | e
  · rw [e]; exact ltL_irr x
  · exact ltL_asym e
  · cases e
end Srch

namespace Lk73
open PySem L2 Z 
noncomputable instance : Rz := ⟨fun _ => sBad⟩
noncomputable def m_is_within : List D → Sto → R D := runD 3 3 (sRet (mAndV (mCall dIsa (aCons (mVar 0) (aCons (mC (.ob (.ty "int"))) aNil))) (mAndV (mNotV (mCall dIsa (aCons (mVar 0) (aCons (mC (.ob (.ty "bool"))) aNil)))) (mChain dLe dLe (mVar 1) (mVar 0) (mVar 2)))))
noncomputable def m_is_upto : List D → Sto → R D := runD 2 2 (sRet (mCall m_is_within (aCons (mVar 0) (aCons (mC (.int 0)) (aCons (mBin dSub (mVar 1) (mC (.int 1))) aNil)))))
noncomputable def m_are_persons : List D → Sto → R D := runD 1 3 (sSeq (sIf (mOr (mNot (mT (mCall dIsa (aCons (mVar 0) (aCons (mC (.ob (.ty "tuple"))) aNil))))) (mNot (mT (mCall dAll (aCons (mComp (iSeq (mVar 0)) (.nm 1) [1] tYesM (mCall m_is_upto (aCons (mVar 1) (aCons (mC (.int 6)) aNil)))) aNil))))) (sRet (mC (.bl false))) sNil)
  (sRet (mCall dAll (aCons (mComp (iArgs zipA (aCons (mVar 0) (aCons (mSl (mVar 0) (some (mC (.int 1))) none) aNil))) (.tp [1, 2]) [1, 2] tYesM (mBin dLt (mVar 1) (mVar 2))) aNil))))
noncomputable def m_is_hearing : List D → Sto → R D := runD 1 1 (sSeq (sIf (mOr (mNot (mT (mCall dIsa (aCons (mVar 0) (aCons (mC (.ob (.ty "tuple"))) aNil))))) (mOr (mB (mBin dNe (mCall dLen (aCons (mVar 0) aNil)) (mC (.int 3)))) (mOr (mNot (mT (mCall m_is_upto (aCons (mBin dIxA (mVar 0) (mC (.int 0))) (aCons (mC (.int 61)) aNil))))) (mNot (mT (mCall m_is_upto (aCons (mBin dIxA (mVar 0) (mC (.int 1))) (aCons (mC (.int 61)) aNil)))))))) (sRet (mC (.bl false))) sNil)
  (sRet (mAndV (mChain dLe dLe (mBin dIxA (mVar 0) (mC (.int 0))) (mBin dIxA (mVar 0) (mC (.int 1))) (mBin dAdd (mBin dIxA (mVar 0) (mC (.int 0))) (mC (.int 9)))) (mCall m_are_persons (aCons (mBin dIxA (mVar 0) (mC (.int 2))) aNil)))))
noncomputable def m_is_docket : List D → Sto → R D := runD 1 2 (sSeq (sIf (mOr (mNot (mT (mCall dIsa (aCons (mVar 0) (aCons (mC (.ob (.ty "tuple"))) aNil))))) (mNot (mB (mChain dLe dLe (mC (.int 1)) (mCall dLen (aCons (mVar 0) aNil)) (mC (.int 6)))))) (sRet (mC (.bl false))) sNil)
  (sRet (mCall dAll (aCons (mComp (iSeq (mVar 0)) (.nm 1) [1] tYesM (mCall m_is_hearing (aCons (mVar 1) aNil))) aNil))))
noncomputable def m_need_docket : List D → Sto → R D := runD 1 1 (sIf (mNot (mT (mCall m_is_docket (aCons (mVar 0) aNil)))) (Rz.rz "NoDocket") sNil)
noncomputable def m_least_span : List D → Sto → R D := runD 3 9 (sSeq (sAsg 3 (mComp (iArgs zipA (aCons (mVar 0) (aCons (mVar 1) aNil))) (.tp [7, 8]) [7, 8] (mB (mBin dInA (mVar 2) (mBin dIxA (mVar 7) (mC (.int 2))))) (mVar 8)))
  (sSeq (sAsg 4 (mComp (iSeq (mSl (mVar 0) (some (mCall dLen (aCons (mVar 1) aNil))) none)) (.nm 7) [7] (mB (mBin dInA (mVar 2) (mBin dIxA (mVar 7) (mC (.int 2))))) (mVar 7)))
  (sSeq (sIf (mAnd (mB (mBin dEq (mVar 3) (mLst aNil))) (mB (mBin dEq (mVar 4) (mLst aNil)))) (sRet (mC (.int 0))) sNil)
  (sSeq (sAsg 5 (mCall dMaxL (aCons (mBin dAdd (mVar 3) (mComp (iSeq (mVar 4)) (.nm 7) [7] tYesM (mBin dIxA (mVar 7) (mC (.int 0))))) aNil)))
  (sSeq (sAsg 6 (mCall dMinL (aCons (mBin dAdd (mVar 3) (mComp (iSeq (mVar 4)) (.nm 7) [7] tYesM (mBin dIxA (mVar 7) (mC (.int 1))))) aNil)))
  (sRet (mCall dMax2 (aCons (mBin dAdd (mBin dSub (mVar 5) (mVar 6)) (mC (.int 1))) (aCons (mBin dAdd (mCall dLen (aCons (mVar 3) aNil)) (mCall dLen (aCons (mVar 4) aNil))) aNil)))))))))
noncomputable def m_Search_init : List D → Sto → R D := runD 2 2 (sSeq (sFldA "Search" "docket" (mVar 0) (mVar 1))
  (sFldA "Search" "best" (mVar 0) (mC .non)))
noncomputable def m_Search_go_on : Nat → List D → Sto → R D
  | 0 => fun _ _ => .bad
  | n + 1 => runD 2 8 (sSeq (sAsg 2 (mCall dSum (aCons (mComp (iArgs range1 (aCons (mC (.int 6)) aNil)) (.nm 7) [7] tYesM (mCall m_least_span (aCons (mFld "Search" "docket" (mVar 0)) (aCons (mVar 1) (aCons (mVar 7) aNil))))) aNil)))
  (sSeq (sIf (mAnd (mB (mBin (dIsN true) (mFld "Search" "best" (mVar 0)) (mC .non))) (mB (mBin dGe (mVar 2) (mBin dIxA (mFld "Search" "best" (mVar 0)) (mC (.int 0)))))) sRetN sNil)
  (sSeq (sIf (mB (mBin dEq (mCall dLen (aCons (mVar 1) aNil)) (mCall dLen (aCons (mFld "Search" "docket" (mVar 0)) aNil)))) (sSeq (sFldA "Search" "best" (mVar 0) (mTup (aCons (mVar 2) (aCons (mVar 1) aNil))))
  sRetN) sNil)
  (sSeq (sTup [4, 5, 6] (mBin dIxA (mFld "Search" "docket" (mVar 0)) (mCall dLen (aCons (mVar 1) aNil))))
  (sFor (iArgs range2 (aCons (mVar 4) (aCons (mBin dAdd (mVar 5) (mC (.int 1))) aNil))) (.nm 3) (sIf (mB (mBin dNotInA (mVar 3) (mVar 1))) (sExpr (mMethO "Search" "go_on" (m_Search_go_on n) (mVar 0) (aCons (mBin dAdd (mVar 1) (mTup (aCons (mVar 3) aNil))) aNil))) sNil))))))
noncomputable def m_within : List D → Sto → R D := runD 3 5 (sRet (mCall dTuple (aCons (mComp (iArgs enumA (aCons (mVar 0) aNil)) (.tp [3, 4]) [3, 4] (mAnd (mB (mBin dGe (mBin dIxA (mVar 4) (mC (.int 0))) (mVar 1))) (mB (mBin dLe (mBin dIxA (mVar 4) (mC (.int 1))) (mVar 2)))) (mVar 3)) aNil)))
noncomputable def m_least_crowd : List D → Sto → R D := runD 1 4 (sSeq (sFor (iArgs range1 (aCons (mC (.int 61)) aNil)) (.nm 1) (sFor (iArgs range2 (aCons (mVar 1) (aCons (mC (.int 61)) aNil))) (.nm 2) (sSeq (sAsg 3 (mCall m_within (aCons (mVar 0) (aCons (mVar 1) (aCons (mVar 2) aNil)))))
  (sIf (mB (mBin dGt (mCall dLen (aCons (mVar 3) aNil)) (mBin dAdd (mBin dSub (mVar 2) (mVar 1)) (mC (.int 1))))) (sRet (mTup (aCons (mVar 1) (aCons (mVar 2) (aCons (mVar 3) aNil))))) sNil))))
  (sRet (mC .non)))
noncomputable def m_best_of : List D → Sto → R D := runD 1 2 (sSeq (sIf (mB (mBin (dIsN true) (mCall m_least_crowd (aCons (mVar 0) aNil)) (mC .non))) (sRet (mC .non)) sNil)
  (sSeq (sAsg 1 (mMake "Search" m_Search_init (aCons (mVar 0) aNil)))
  (sSeq (sExpr (mMethO "Search" "go_on" (m_Search_go_on 8) (mVar 1) (aCons (mTup aNil) aNil)))
  (sRet (mFld "Search" "best" (mVar 1))))))
noncomputable def m_best_order : List D → Sto → R D := runD 1 2 (sSeq (sExpr (mCall m_need_docket (aCons (mVar 0) aNil)))
  (sSeq (sAsg 1 (mCall m_best_of (aCons (mVar 0) aNil)))
  (sRet (mIf (mB (mBin (dIsN false) (mVar 1) (mC .non))) (mC .non) (mBin dIxA (mVar 1) (mC (.int 1)))))))
noncomputable def m_fewest_kept : List D → Sto → R D := runD 1 2 (sSeq (sExpr (mCall m_need_docket (aCons (mVar 0) aNil)))
  (sSeq (sAsg 1 (mCall m_best_of (aCons (mVar 0) aNil)))
  (sRet (mIf (mB (mBin (dIsN false) (mVar 1) (mC .non))) (mC .non) (mBin dIxA (mVar 1) (mC (.int 0)))))))
noncomputable def m_law_cell : List D → Sto → R D := runD 2 2 (sSeq (sIf (mB (mBin dLt (mVar 1) (mCall dLen (aCons (mVar 0) aNil)))) (sRet (mBin dIxA (mVar 0) (mVar 1))) sNil)
  (sRet (mC (.int 0))))
noncomputable def m_law_pen : List D → Sto → R D := runD 1 2 (sSeq (sAsg 1 (mCall dMax2 (aCons (mVar 0) (aCons (mBin dSub (mC (.int 0)) (mVar 0)) aNil))))
  (sRet (mLstN (aCons (mVar 1) (aCons (mCall dInt (aCons (mBin dGe (mVar 1) (mBin dPow (mC (.int 10)) (mC (.int 18)))) aNil)) aNil)))))
noncomputable def m_law_draw : List D → Sto → R D := runD 2 5 (sSeq (sIf (mB (mBin dEq (mBin dIxA (mVar 0) (mC (.int 1))) (mC (.int 1)))) (sSeq (sTup [3, 4] (mCall dDivmod (aCons (mBin dIxA (mVar 0) (mC (.int 0))) (aCons (mVar 1) aNil))))
  (sSeq (sSubA (mVar 0) (mC (.int 0)) (mVar 3))
  (sRet (mVar 4)))) sNil)
  (sSeq (sAsg 2 (mBin dMod (mBin dMul (mBin dAdd (mBin dMod (mBin dIxA (mVar 0) (mC (.int 0))) (mC (.int 2147483647))) (mC (.int 40503))) (mC (.int 69621))) (mC (.int 2147483629))))
  (sSeq (sAsg 2 (mBin dMod (mBin dAdd (mBin dMul (mVar 2) (mVar 2)) (mC (.int 7817))) (mC (.int 2147483587))))
  (sSeq (sSubA (mVar 0) (mC (.int 0)) (mBin dMod (mBin dAdd (mBin dMul (mVar 2) (mC (.int 48271))) (mC (.int 11))) (mC (.int 2147483629))))
  (sRet (mBin dMod (mBin dFdiv (mBin dIxA (mVar 0) (mC (.int 0))) (mC (.int 32))) (mVar 1)))))))
noncomputable def m_law_persons : List D → Sto → R D := runD 1 2 (sRet (mCall dTuple (aCons (mUn dSortSet (mComp (iArgs range1 (aCons (mCall m_law_draw (aCons (mVar 0) (aCons (mC (.int 4)) aNil))) aNil)) (.nm 1) [1] tYesM (mCall m_law_draw (aCons (mVar 0) (aCons (mBin dIxA (mLst (aCons (mC (.int 3)) (aCons (mC (.int 6)) aNil))) (mCall m_law_draw (aCons (mVar 0) (aCons (mC (.int 2)) aNil)))) aNil))))) aNil)))
noncomputable def m_law_docket : List D → Sto → R D := runD 3 8 (sSeq (sPar [4, 5, 6] (aCons (mCall m_law_draw (aCons (mVar 0) (aCons (mC (.int 50)) aNil))) (aCons (mBin dAdd (mC (.int 1)) (mCall m_law_draw (aCons (mVar 0) (aCons (mC (.int 5)) aNil)))) (aCons (mLstN aNil) aNil))))
  (sSeq (sFor (iArgs range1 (aCons (mVar 1) aNil)) (.nm 3) (sSeq (sAsg 7 (mBin dAdd (mVar 4) (mCall m_law_draw (aCons (mVar 0) (aCons (mVar 5) aNil)))))
  (sExpr (mMeth "list" dAppend (mVar 6) (aCons (mTup (aCons (mVar 7) (aCons (mCall dMin2 (aCons (mC (.int 60)) (aCons (mBin dAdd (mVar 7) (mCall m_law_draw (aCons (mVar 0) (aCons (mVar 2) aNil)))) aNil))) (aCons (mCall m_law_persons (aCons (mVar 0) aNil)) aNil)))) aNil)))))
  (sRet (mCall dTuple (aCons (mVar 6) aNil)))))
noncomputable def m_law_orders : List D → Sto → R D := runD 1 8 (sSeq (sAsg 1 (mLst (aCons (mTup aNil) aNil)))
  (sSeq (sFor (iSeq (mVar 0)) (.tp [2, 3, 4]) (sSeq (sAsg 5 (mLstN aNil))
  (sSeq (sFor (iSeq (mVar 1)) (.nm 6) (sExpr (mMeth "list" dExtend (mVar 5) (aCons (mComp (iArgs range2 (aCons (mVar 2) (aCons (mBin dAdd (mVar 3) (mC (.int 1))) aNil))) (.nm 7) [7] (mB (mBin dNotInA (mVar 7) (mVar 6))) (mBin dAdd (mVar 6) (mTup (aCons (mVar 7) aNil)))) aNil))))
  (sAsg 1 (mVar 5)))))
  (sRet (mVar 1))))
noncomputable def m_law_kept : List D → Sto → R D := runD 2 7 (sSeq (sAsg 2 (mC (.int 0)))
  (sSeq (sFor (iArgs range1 (aCons (mC (.int 6)) aNil)) (.nm 3) (sSeq (sAsg 4 (mComp (iArgs zipA (aCons (mVar 0) (aCons (mVar 1) aNil))) (.tp [5, 6]) [5, 6] (mB (mBin dInA (mVar 3) (mBin dIxA (mVar 5) (mC (.int 2))))) (mVar 6)))
  (sAsg 2 (mBin dAdd (mVar 2) (mIf (mB (mBin dNe (mVar 4) (mLst aNil))) (mBin dAdd (mBin dSub (mCall dMaxL (aCons (mVar 4) aNil)) (mCall dMinL (aCons (mVar 4) aNil))) (mC (.int 1))) (mC (.int 0)))))))
  (sRet (mVar 2))))
noncomputable def m_law : List D → Sto → R D := runD 1 9 (sSeq (sFor (iSeq (mBin dAdd (mLst (aCons (mCall m_law_cell (aCons (mVar 0) (aCons (mC (.int 0)) aNil))) aNil)) (mSl (mVar 0) (some (mC (.int 1))) (some (mC (.int 2)))))) (.nm 1) (sSeq (sAsg 2 (mCall m_law_pen (aCons (mVar 1) aNil)))
  (sFor (iArgs range1 (aCons (mC (.int 6)) aNil)) (.nm 3) (sSeq (sAsg 4 (mCall m_law_docket (aCons (mVar 2) (aCons (mBin dAdd (mC (.int 1)) (mBin dMod (mVar 3) (mC (.int 4)))) (aCons (mC (.int 5)) aNil)))))
  (sSeq (sAsg 5 (mComp (iSeq (mCall m_law_orders (aCons (mVar 4) aNil))) (.nm 8) [8] tYesM (mTup (aCons (mCall m_law_kept (aCons (mVar 4) (aCons (mVar 8) aNil))) (aCons (mVar 8) aNil)))))
  (sSeq (sAsg 6 (mIf (mB (mBin dNe (mVar 5) (mLst aNil))) (mCall dMinT (aCons (mVar 5) aNil)) (mTup (aCons (mC .non) (aCons (mC .non) aNil)))))
  (sFor (iArgs range1 (aCons (mC (.int 2)) aNil)) (.nm 7) (sIf (mB (mBin dNe (mCall dRepr (aCons (mTup (aCons (mCall m_fewest_kept (aCons (mVar 4) aNil)) (aCons (mCall m_best_order (aCons (mVar 4) aNil)) aNil))) aNil)) (mCall dRepr (aCons (mVar 6) aNil)))) (sRet (mC (.bl false))) sNil))))))))
  (sRet (mC (.bl true))))
end Lk73

namespace Lk73
open PySem L2 Z 
set_option genInjectivity false in
set_option genSizeOf false in
structure Tx (K : PySem.W.Frag) (mg : Str → Option Value) where
  a_is_within : Addr
  fd_is_within : FuncData
  F_is_within : Fun K "is_within" "is_within" (top 6) a_is_within fd_is_within
  g_is_within : mg "is_within" = some (.ref a_is_within)
  b_is_within : Binds K fd_is_within ["thing", "least", "most"] []
  a_is_upto : Addr
  fd_is_upto : FuncData
  F_is_upto : Fun K "is_upto" "is_upto" (top 7) a_is_upto fd_is_upto
  g_is_upto : mg "is_upto" = some (.ref a_is_upto)
  b_is_upto : Binds K fd_is_upto ["thing", "many"] []
  a_are_persons : Addr
  fd_are_persons : FuncData
  F_are_persons : Fun K "are_persons" "are_persons" (top 11) a_are_persons fd_are_persons
  g_are_persons : mg "are_persons" = some (.ref a_are_persons)
  b_are_persons : Binds K fd_are_persons ["thing"] []
  a_is_hearing : Addr
  fd_is_hearing : FuncData
  F_is_hearing : Fun K "is_hearing" "is_hearing" (top 12) a_is_hearing fd_is_hearing
  g_is_hearing : mg "is_hearing" = some (.ref a_is_hearing)
  b_is_hearing : Binds K fd_is_hearing ["thing"] []
  a_is_docket : Addr
  fd_is_docket : FuncData
  F_is_docket : Fun K "is_docket" "is_docket" (top 13) a_is_docket fd_is_docket
  g_is_docket : mg "is_docket" = some (.ref a_is_docket)
  b_is_docket : Binds K fd_is_docket ["thing"] []
  a_need_docket : Addr
  fd_need_docket : FuncData
  F_need_docket : Fun K "need_docket" "need_docket" (top 14) a_need_docket fd_need_docket
  g_need_docket : mg "need_docket" = some (.ref a_need_docket)
  b_need_docket : Binds K fd_need_docket ["thing"] []
  a_least_span : Addr
  fd_least_span : FuncData
  F_least_span : Fun K "least_span" "least_span" (top 15) a_least_span fd_least_span
  g_least_span : mg "least_span" = some (.ref a_least_span)
  b_least_span : Binds K fd_least_span ["docket", "days", "person"] []
  a_Search_init : Addr
  fd_Search_init : FuncData
  F_Search_init : Fun K "__init__" "Search.__init__" (clsDef (top 16) 0) a_Search_init fd_Search_init
  b_Search_init : Binds K fd_Search_init ["self", "docket"] []
  a_Search_go_on : Addr
  fd_Search_go_on : FuncData
  F_Search_go_on : Fun K "go_on" "Search.go_on" (clsDef (top 16) 1) a_Search_go_on fd_Search_go_on
  b_Search_go_on : Binds K fd_Search_go_on ["self", "days"] []
  a_within : Addr
  fd_within : FuncData
  F_within : Fun K "within" "within" (top 20) a_within fd_within
  g_within : mg "within" = some (.ref a_within)
  b_within : Binds K fd_within ["docket", "first", "last"] []
  a_least_crowd : Addr
  fd_least_crowd : FuncData
  F_least_crowd : Fun K "least_crowd" "least_crowd" (top 21) a_least_crowd fd_least_crowd
  g_least_crowd : mg "least_crowd" = some (.ref a_least_crowd)
  b_least_crowd : Binds K fd_least_crowd ["docket"] []
  a_best_of : Addr
  fd_best_of : FuncData
  F_best_of : Fun K "best_of" "best_of" (top 17) a_best_of fd_best_of
  g_best_of : mg "best_of" = some (.ref a_best_of)
  b_best_of : Binds K fd_best_of ["docket"] []
  a_best_order : Addr
  fd_best_order : FuncData
  F_best_order : Fun K "best_order" "best_order" (top 18) a_best_order fd_best_order
  g_best_order : mg "best_order" = some (.ref a_best_order)
  b_best_order : Binds K fd_best_order ["docket"] []
  a_fewest_kept : Addr
  fd_fewest_kept : FuncData
  F_fewest_kept : Fun K "fewest_kept" "fewest_kept" (top 19) a_fewest_kept fd_fewest_kept
  g_fewest_kept : mg "fewest_kept" = some (.ref a_fewest_kept)
  b_fewest_kept : Binds K fd_fewest_kept ["docket"] []
  a_law_cell : Addr
  fd_law_cell : FuncData
  F_law_cell : Fun K "_law_cell" "_law_cell" (top 23) a_law_cell fd_law_cell
  g_law_cell : mg "_law_cell" = some (.ref a_law_cell)
  b_law_cell : Binds K fd_law_cell ["_law_script", "_law_k"] []
  a_law_pen : Addr
  fd_law_pen : FuncData
  F_law_pen : Fun K "_law_pen" "_law_pen" (top 24) a_law_pen fd_law_pen
  g_law_pen : mg "_law_pen" = some (.ref a_law_pen)
  b_law_pen : Binds K fd_law_pen ["_law_cell_here"] []
  a_law_draw : Addr
  fd_law_draw : FuncData
  F_law_draw : Fun K "_law_draw" "_law_draw" (top 25) a_law_draw fd_law_draw
  g_law_draw : mg "_law_draw" = some (.ref a_law_draw)
  b_law_draw : Binds K fd_law_draw ["_law_pen_here", "_law_many"] []
  a_law_persons : Addr
  fd_law_persons : FuncData
  F_law_persons : Fun K "_law_persons" "_law_persons" (top 26) a_law_persons fd_law_persons
  g_law_persons : mg "_law_persons" = some (.ref a_law_persons)
  b_law_persons : Binds K fd_law_persons ["_law_pen_here"] []
  a_law_docket : Addr
  fd_law_docket : FuncData
  F_law_docket : Fun K "_law_docket" "_law_docket" (top 27) a_law_docket fd_law_docket
  g_law_docket : mg "_law_docket" = some (.ref a_law_docket)
  b_law_docket : Binds K fd_law_docket ["_law_pen_here", "_law_many", "_law_wide"] []
  a_law_orders : Addr
  fd_law_orders : FuncData
  F_law_orders : Fun K "_law_orders" "_law_orders" (top 28) a_law_orders fd_law_orders
  g_law_orders : mg "_law_orders" = some (.ref a_law_orders)
  b_law_orders : Binds K fd_law_orders ["_law_docket_here"] []
  a_law_kept : Addr
  fd_law_kept : FuncData
  F_law_kept : Fun K "_law_kept" "_law_kept" (top 29) a_law_kept fd_law_kept
  g_law_kept : mg "_law_kept" = some (.ref a_law_kept)
  b_law_kept : Binds K fd_law_kept ["_law_docket_here", "_law_order"] []
  a_law : Addr
  fd_law : FuncData
  F_law : Fun K "law" "law" (top 30) a_law fd_law
  g_law : mg "law" = some (.ref a_law)
  b_law : Binds K fd_law ["_law_script"] []
  e_Search : Addr
  at_Search : clsAt K "Search" = .ref e_Search
  gm_Search : mg "Search" = some (.ref e_Search)
  cl_Search : Cls K e_Search
  f_Search : ∀ f ∈ (["docket", "best"] : List Str), FldC K "Search" f e_Search
  mk_Search : Mk K e_Search a_Search_init
  me_Search_go_on : Meth K e_Search "go_on" a_Search_go_on
  n_all : mg "all" = none
  n_bool : mg "bool" = none
  n_divmod : mg "divmod" = none
  n_enumerate : mg "enumerate" = none
  n_int : mg "int" = none
  n_isinstance : mg "isinstance" = none
  n_len : mg "len" = none
  n_max : mg "max" = none
  n_min : mg "min" = none
  n_range : mg "range" = none
  n_repr : mg "repr" = none
  n_set : mg "set" = none
  n_sorted : mg "sorted" = none
  n_sum : mg "sum" = none
  n_tuple : mg "tuple" = none
  n_zip : mg "zip" = none
  c_DAYS : ∃ t, mg "DAYS" = some (.int 61 t)
  c_MOST_BEHIND : ∃ t, mg "MOST_BEHIND" = some (.int 9 t)
  c_MOST_HEARINGS : ∃ t, mg "MOST_HEARINGS" = some (.int 6 t)
  c_PERSONS : ∃ t, mg "PERSONS" = some (.int 6 t)
section
variable {P : Program} {w : World} {K : PySem.W.Frag} {mg : Str → Option Value} {base : Heap}
noncomputable abbrev N_is_within : List Str := ["thing", "least", "most"]
theorem sc_is_within : FnScope N_is_within ["thing", "least", "most"] (defScope (top 6)) := ⟨rfl, rfl, rfl, by decide +kernel, rfl, by decide +kernel, by decide +kernel⟩
theorem okK_is_within (T : Tx K mg) : FnK P w K mg base 1 T.a_is_within T.fd_is_within ["thing", "least", "most"] m_is_within := by
  refine fnK_of (N := N_is_within) (k := 0) T.F_is_within sc_is_within rfl fun cdv A fs s H E hr => ?_
  have hu := un100 hr
  have sc := sc_is_within
  exact (ss_one (s_ret (v_and (z_blt T.n_isinstance call_isaP dIsa_ok PyProof.Rows.boot_isinstance (a_cons (z_var 0 (pv 0)) (a_cons (z_ty T.n_int PyProof.Rows.boot_int) a_nil))) (v_and (v_not (z_blt T.n_isinstance call_isaP dIsa_ok PyProof.Rows.boot_isinstance (a_cons (z_var 0 (pv 0)) (a_cons (z_ty T.n_bool PyProof.Rows.boot_bool) a_nil)))) (v_and1 (e_chain (c_le hu) (c_le hu) (z_var 1 (pv 1)) (z_var 0 (pv 0)) (z_var 2 (pv 2))))))))
noncomputable abbrev N_is_upto : List Str := ["thing", "many"]
theorem sc_is_upto : FnScope N_is_upto ["thing", "many"] (defScope (top 7)) := ⟨rfl, rfl, rfl, by decide +kernel, rfl, by decide +kernel, by decide +kernel⟩
theorem okK_is_upto (T : Tx K mg) : FnK P w K mg base 2 T.a_is_upto T.fd_is_upto ["thing", "many"] m_is_upto := by
  refine fnK_of (N := N_is_upto) (k := 1) T.F_is_upto sc_is_upto rfl fun cdv A fs s H E hr => ?_
  have hu := un100 hr
  have sc := sc_is_upto
  exact (ss_one (s_ret (z_callK (okK_is_within T) (hr.mono (by decide)) T.g_is_within T.F_is_within.kp T.b_is_within (passAt (takes_of rfl rfl rfl rfl)) (a_cons (z_var 0 (pv 0)) (a_cons z_int (a_cons (z_sub (z_var 1 (pv 1)) z_int) a_nil))))))
noncomputable abbrev N_are_persons : List Str := ["thing", "one", "other"]
theorem sc_are_persons : FnScope N_are_persons ["thing"] (defScope (top 11)) := ⟨rfl, rfl, rfl, by decide +kernel, rfl, by decide +kernel, by decide +kernel⟩
theorem okK_are_persons (T : Tx K mg) : FnK P w K mg base 3 T.a_are_persons T.fd_are_persons ["thing"] m_are_persons := by
  refine fnK_of (N := N_are_persons) (k := 2) T.F_are_persons sc_are_persons rfl fun cdv A fs s H E hr => ?_
  have hu := un100 hr
  have sc := sc_are_persons
  exact (ss_cons (s_if (PW.pt (w_or (t_not (t_tru (z_blt T.n_isinstance call_isaP dIsa_ok PyProof.Rows.boot_isinstance (a_cons (z_var 0 (pv 0)) (a_cons (z_ty T.n_tuple PyProof.Rows.boot_tuple) a_nil))))) (w_or1 (t_not (t_tru (z_blt T.n_all (cr_all rfl) dAll_ok PyProof.Rows.boot_all (a_cons (z_comp (own := [("one", 1)]) (g := (.nm 1)) rfl sc.nd (i_seq (z_var 0 (pv 0))) (blkOk_by (sc := defScope (top 11)) (N := N_are_persons) (by first | decide +kernel | rfl)) (fun _ _ _ _ _ => (pg_name (i := 1) sc.nd rfl (by first | exact Or.inl rfl | exact Or.inr rfl))) (fun _ _ _ _ _ => ts_nil) (fun _ _ _ _ _ => (z_callK (okK_is_upto T) (hr.mono (by decide)) T.g_is_upto T.F_is_upto.kp T.b_is_upto no_out (a_cons (z_var 1 (pv 1)) (a_cons (z_gint T.c_PERSONS) a_nil)))) (by decide)) a_nil))))))) (ss_one (s_ret z_bl)) ss_nil)
  (ss_one (s_ret (z_blt T.n_all (cr_all rfl) dAll_ok PyProof.Rows.boot_all (a_cons (z_comp (own := [("one", 1), ("other", 2)]) (g := (.tp [1, 2])) rfl sc.nd (i_zipA T.n_zip (a_cons (z_var 0 (pv 0)) (a_cons (z_sl (z_var 0 (pv 0)) (o_some z_int) o_none) a_nil))) (blkOk_by (sc := defScope (top 11)) (N := N_are_persons) (by first | decide +kernel | rfl)) (fun _ _ _ _ _ => (pg_tup rfl (pgs_cons (pg_name (i := 1) sc.nd rfl (by first | exact Or.inl rfl | exact Or.inr rfl)) (pgs_cons (pg_name (i := 2) sc.nd rfl (by first | exact Or.inl rfl | exact Or.inr rfl)) pgs_nil)))) (fun _ _ _ _ _ => ts_nil) (fun _ _ _ _ _ => (e_cmp (c_lt hu) (z_var 1 (pv 1)) (z_var 2 (pv 2)))) (by decide)) a_nil)))))
noncomputable abbrev N_is_hearing : List Str := ["thing"]
theorem sc_is_hearing : FnScope N_is_hearing ["thing"] (defScope (top 12)) := ⟨rfl, rfl, rfl, by decide +kernel, rfl, by decide +kernel, by decide +kernel⟩
theorem okK_is_hearing (T : Tx K mg) : FnK P w K mg base 4 T.a_is_hearing T.fd_is_hearing ["thing"] m_is_hearing := by
  refine fnK_of (N := N_is_hearing) (k := 3) T.F_is_hearing sc_is_hearing rfl fun cdv A fs s H E hr => ?_
  have hu := un100 hr
  have sc := sc_is_hearing
  exact (ss_cons (s_if (PW.pt (w_or (t_not (t_tru (z_blt T.n_isinstance call_isaP dIsa_ok PyProof.Rows.boot_isinstance (a_cons (z_var 0 (pv 0)) (a_cons (z_ty T.n_tuple PyProof.Rows.boot_tuple) a_nil))))) (w_or (tt_cmp (c_ne hu) (z_blt T.n_len call_len dLen_ok PySem.boot_len (a_cons (z_var 0 (pv 0)) a_nil)) z_int) (w_or (t_not (t_tru (z_callK (okK_is_upto T) (hr.mono (by decide)) T.g_is_upto T.F_is_upto.kp T.b_is_upto (passAt (takes_of rfl rfl rfl rfl)) (a_cons (z_ixA hu (z_var 0 (pv 0)) z_int) (a_cons (z_gint T.c_DAYS) a_nil))))) (w_or1 (t_not (t_tru (z_callK (okK_is_upto T) (hr.mono (by decide)) T.g_is_upto T.F_is_upto.kp T.b_is_upto (passAt (takes_of rfl rfl rfl rfl)) (a_cons (z_ixA hu (z_var 0 (pv 0)) z_int) (a_cons (z_gint T.c_DAYS) a_nil)))))))))) (ss_one (s_ret z_bl)) ss_nil)
  (ss_one (s_ret (v_and (e_chain (c_le hu) (c_le hu) (z_ixA hu (z_var 0 (pv 0)) z_int) (z_ixA hu (z_var 0 (pv 0)) z_int) (z_add (z_ixA hu (z_var 0 (pv 0)) z_int) (z_gint T.c_MOST_BEHIND))) (v_and1 (z_callK (okK_are_persons T) (hr.mono (by decide)) T.g_are_persons T.F_are_persons.kp T.b_are_persons (passAt (takes_of rfl rfl rfl rfl)) (a_cons (z_ixA hu (z_var 0 (pv 0)) z_int) a_nil)))))))
noncomputable abbrev N_is_docket : List Str := ["thing", "one"]
theorem sc_is_docket : FnScope N_is_docket ["thing"] (defScope (top 13)) := ⟨rfl, rfl, rfl, by decide +kernel, rfl, by decide +kernel, by decide +kernel⟩
theorem okK_is_docket (T : Tx K mg) : FnK P w K mg base 5 T.a_is_docket T.fd_is_docket ["thing"] m_is_docket := by
  refine fnK_of (N := N_is_docket) (k := 4) T.F_is_docket sc_is_docket rfl fun cdv A fs s H E hr => ?_
  have hu := un100 hr
  have sc := sc_is_docket
  exact (ss_cons (s_if (PW.pt (w_or (t_not (t_tru (z_blt T.n_isinstance call_isaP dIsa_ok PyProof.Rows.boot_isinstance (a_cons (z_var 0 (pv 0)) (a_cons (z_ty T.n_tuple PyProof.Rows.boot_tuple) a_nil))))) (w_or1 (t_not (tt_chain (c_le hu) (c_le hu) z_int (z_blt T.n_len call_len dLen_ok PySem.boot_len (a_cons (z_var 0 (pv 0)) a_nil)) (z_gint T.c_MOST_HEARINGS)))))) (ss_one (s_ret z_bl)) ss_nil)
  (ss_one (s_ret (z_blt T.n_all (cr_all rfl) dAll_ok PyProof.Rows.boot_all (a_cons (z_comp (own := [("one", 1)]) (g := (.nm 1)) rfl sc.nd (i_seq (z_var 0 (pv 0))) (blkOk_by (sc := defScope (top 13)) (N := N_is_docket) (by first | decide +kernel | rfl)) (fun _ _ _ _ _ => (pg_name (i := 1) sc.nd rfl (by first | exact Or.inl rfl | exact Or.inr rfl))) (fun _ _ _ _ _ => ts_nil) (fun _ _ _ _ _ => (z_callK (okK_is_hearing T) (hr.mono (by decide)) T.g_is_hearing T.F_is_hearing.kp T.b_is_hearing no_out (a_cons (z_var 1 (pv 1)) a_nil))) (by decide)) a_nil)))))
noncomputable abbrev N_need_docket : List Str := ["thing"]
theorem sc_need_docket : FnScope N_need_docket ["thing"] (defScope (top 14)) := ⟨rfl, rfl, rfl, by decide +kernel, rfl, by decide +kernel, by decide +kernel⟩
theorem okK_need_docket (T : Tx K mg) : FnK P w K mg base 6 T.a_need_docket T.fd_need_docket ["thing"] m_need_docket := by
  refine fnK_of (N := N_need_docket) (k := 5) T.F_need_docket sc_need_docket rfl fun cdv A fs s H E hr => ?_
  have hu := un100 hr
  have sc := sc_need_docket
  exact (ss_one (s_if (t_not (t_tru (z_callK (okK_is_docket T) (hr.mono (by decide)) T.g_is_docket T.F_is_docket.kp T.b_is_docket (passAt (takes_of rfl rfl rfl rfl)) (a_cons (z_var 0 (pv 0)) a_nil)))) (ss_one s_bad) ss_nil))
noncomputable abbrev N_least_span : List Str := ["docket", "days", "person", "given", "later", "latest", "earliest", "hearing", "day"]
theorem sc_least_span : FnScope N_least_span ["docket", "days", "person"] (defScope (top 15)) := ⟨rfl, rfl, rfl, by decide +kernel, rfl, by decide +kernel, by decide +kernel⟩
theorem okK_least_span (T : Tx K mg) : FnK P w K mg base 1 T.a_least_span T.fd_least_span ["docket", "days", "person"] m_least_span := by
  refine fnK_of (N := N_least_span) (k := 0) T.F_least_span sc_least_span rfl fun cdv A fs s H E hr => ?_
  have hu := un100 hr
  have sc := sc_least_span
  exact (ss_cons (s_setComp (i := 3) (own := [("hearing", 7), ("day", 8)]) (g := (.tp [7, 8])) rfl sc.nd rfl rfl (sw_true rfl rfl rfl (by decide +kernel)) (i_zipA T.n_zip (a_cons (z_var 0 (pv 0)) (a_cons (z_var 1 (pv 1)) a_nil))) (blkOk_by (sc := defScope (top 15)) (N := N_least_span) (by first | decide +kernel | rfl)) (fun _ _ _ _ _ => (pg_tup rfl (pgs_cons (pg_name (i := 7) sc.nd rfl (by first | exact Or.inl rfl | exact Or.inr rfl)) (pgs_cons (pg_name (i := 8) sc.nd rfl (by first | exact Or.inl rfl | exact Or.inr rfl)) pgs_nil)))) (fun _ _ _ _ _ => (ts_one (tt_cmp (c_inA (by exact hu)) (z_var 2 (pv 2)) (z_ixA hu (z_var 7 (pv 7)) z_int)))) (fun _ _ _ _ _ => (z_var 8 (pv 8))) (by decide))
  (ss_cons (s_setComp (i := 4) (own := [("hearing", 7)]) (g := (.nm 7)) rfl sc.nd rfl rfl (sw_true rfl rfl rfl (by decide +kernel)) (i_seq (z_sl (z_var 0 (pv 0)) (o_some (z_blt T.n_len call_len dLen_ok PySem.boot_len (a_cons (z_var 1 (pv 1)) a_nil))) o_none)) (blkOk_by (sc := defScope (top 15)) (N := N_least_span) (by first | decide +kernel | rfl)) (fun _ _ _ _ _ => (pg_name (i := 7) sc.nd rfl (by first | exact Or.inl rfl | exact Or.inr rfl))) (fun _ _ _ _ _ => (ts_one (tt_cmp (c_inA (by exact hu)) (z_var 2 (pv 2)) (z_ixA hu (z_var 7 (pv 7)) z_int)))) (fun _ _ _ _ _ => (z_var 7 (pv 7))) (by decide))
  (ss_cons (s_if (PW.pt (w_and (tt_cmp (c_eq hu) (z_var 3 (pv 3)) (z_lst a_nil)) (w_and1 (tt_cmp (c_eq hu) (z_var 4 (pv 4)) (z_lst a_nil))))) (ss_one (s_ret z_int)) ss_nil)
  (ss_cons (s_set (i := 5) sc.nd rfl (by first | exact Or.inl rfl | exact Or.inr rfl) (z_blt T.n_max (cr_max rfl) dMaxL_ok PyProof.Rows.boot_max (a_cons (z_add (z_var 3 (pv 3)) (z_comp (own := [("hearing", 7)]) (g := (.nm 7)) rfl sc.nd (i_seq (z_var 4 (pv 4))) (blkOk_by (sc := defScope (top 15)) (N := N_least_span) (by first | decide +kernel | rfl)) (fun _ _ _ _ _ => (pg_name (i := 7) sc.nd rfl (by first | exact Or.inl rfl | exact Or.inr rfl))) (fun _ _ _ _ _ => ts_nil) (fun _ _ _ _ _ => (z_ixA hu (z_var 7 (pv 7)) z_int)) (by decide))) a_nil)))
  (ss_cons (s_set (i := 6) sc.nd rfl (by first | exact Or.inl rfl | exact Or.inr rfl) (z_blt T.n_min (cr_min rfl) dMinL_ok PyProof.Rows.boot_min (a_cons (z_add (z_var 3 (pv 3)) (z_comp (own := [("hearing", 7)]) (g := (.nm 7)) rfl sc.nd (i_seq (z_var 4 (pv 4))) (blkOk_by (sc := defScope (top 15)) (N := N_least_span) (by first | decide +kernel | rfl)) (fun _ _ _ _ _ => (pg_name (i := 7) sc.nd rfl (by first | exact Or.inl rfl | exact Or.inr rfl))) (fun _ _ _ _ _ => ts_nil) (fun _ _ _ _ _ => (z_ixA hu (z_var 7 (pv 7)) z_int)) (by decide))) a_nil)))
  (ss_one (s_ret (z_blt T.n_max (call_max2 rfl) dMax2_ok PyProof.Rows.boot_max (a_cons (z_add (z_sub (z_var 5 (pv 5)) (z_var 6 (pv 6))) z_int) (a_cons (z_add (z_blt T.n_len call_len dLen_ok PySem.boot_len (a_cons (z_var 3 (pv 3)) a_nil)) (z_blt T.n_len call_len dLen_ok PySem.boot_len (a_cons (z_var 4 (pv 4)) a_nil))) a_nil))))))))))
noncomputable abbrev N_Search_init : List Str := ["self", "docket"]
theorem sc_Search_init : FnScope N_Search_init ["self", "docket"] (defScope (clsDef (top 16) 0)) := ⟨rfl, rfl, rfl, by decide +kernel, rfl, by decide +kernel, by decide +kernel⟩
theorem okK_Search_init (T : Tx K mg) : FnK P w K mg base 1 T.a_Search_init T.fd_Search_init ["self", "docket"] m_Search_init := by
  refine fnK_of (N := N_Search_init) (k := 0) T.F_Search_init sc_Search_init rfl fun cdv A fs s H E hr => ?_
  have hu := un100 hr
  have sc := sc_Search_init
  exact (ss_cons (s_fld (T.f_Search "docket" (by decide +kernel)) (z_var 0 (pv 0)) (z_var 1 (pv 1)))
  (ss_one (s_fld (T.f_Search "best" (by decide +kernel)) (z_var 0 (pv 0)) z_non)))
noncomputable abbrev N_Search_go_on : List Str := ["self", "days", "many", "day", "first", "last", "persons", "person"]
theorem sc_Search_go_on : FnScope N_Search_go_on ["self", "days"] (defScope (clsDef (top 16) 1)) := ⟨rfl, rfl, rfl, by decide +kernel, rfl, by decide +kernel, by decide +kernel⟩
theorem okK_Search_go_on (T : Tx K mg) : ∀ n : Nat, FnK P w K mg base (1 + n) T.a_Search_go_on T.fd_Search_go_on ["self", "days"] (m_Search_go_on n)
  | 0 => fnK_zero
  | n + 1 => by
    refine fnK_of (N := N_Search_go_on) (k := 1 + n) T.F_Search_go_on sc_Search_go_on rfl fun cdv A fs s H E hr => ?_
    have hu := un100 hr
    have sc := sc_Search_go_on
    exact (ss_cons (s_set (i := 2) sc.nd rfl (by first | exact Or.inl rfl | exact Or.inr rfl) (z_blt T.n_sum (cr_sum rfl) dSum_ok PyProof.Rows.boot_sum (a_cons (z_comp (own := [("person", 7)]) (g := (.nm 7)) rfl sc.nd (i_range1 T.n_range (a_cons (z_gint T.c_PERSONS) a_nil)) (blkOk_by (sc := defScope (clsDef (top 16) 1)) (N := N_Search_go_on) (by first | decide +kernel | rfl)) (fun _ _ _ _ _ => (pg_name (i := 7) sc.nd rfl (by first | exact Or.inl rfl | exact Or.inr rfl))) (fun _ _ _ _ _ => ts_nil) (fun _ _ _ _ _ => (z_callK (okK_least_span T) (hr.mono (by omega)) T.g_least_span T.F_least_span.kp T.b_least_span no_out (a_cons (z_fld (T.f_Search "docket" (by decide +kernel)) (z_var 0 (pv 0))) (a_cons (z_var 1 (pv 1)) (a_cons (z_var 7 (pv 7)) a_nil))))) (by decide)) a_nil)))
  (ss_cons (s_if (PW.pt (w_and (tt_cmp c_isn (z_fld (T.f_Search "best" (by decide +kernel)) (z_var 0 (pv 0))) z_non) (w_and1 (tt_cmp (c_ge hu) (z_var 2 (pv 2)) (z_ixA hu (z_fld (T.f_Search "best" (by decide +kernel)) (z_var 0 (pv 0))) z_int))))) (ss_one s_retN) ss_nil)
  (ss_cons (s_if (tt_cmp (c_eq hu) (z_blt T.n_len call_len dLen_ok PySem.boot_len (a_cons (z_var 1 (pv 1)) a_nil)) (z_blt T.n_len call_len dLen_ok PySem.boot_len (a_cons (z_fld (T.f_Search "docket" (by decide +kernel)) (z_var 0 (pv 0))) a_nil))) (ss_cons (s_fld (T.f_Search "best" (by decide +kernel)) (z_var 0 (pv 0)) (z_tup (a_cons (z_var 2 (pv 2)) (a_cons (z_var 1 (pv 1)) a_nil))))
  (ss_one s_retN)) ss_nil)
  (ss_cons (s_tup (is := [4, 5, 6]) (z_ixA hu (z_fld (T.f_Search "docket" (by decide +kernel)) (z_var 0 (pv 0))) (z_blt T.n_len call_len dLen_ok PySem.boot_len (a_cons (z_var 1 (pv 1)) a_nil))) (pg_tup rfl (pgs_cons (pg_name (i := 4) sc.nd rfl (by first | exact Or.inl rfl | exact Or.inr rfl)) (pgs_cons (pg_name (i := 5) sc.nd rfl (by first | exact Or.inl rfl | exact Or.inr rfl)) (pgs_cons (pg_name (i := 6) sc.nd rfl (by first | exact Or.inl rfl | exact Or.inr rfl)) pgs_nil)))))
  (ss_one (s_for (g := (.nm 3)) (passes_of rfl) rfl (i_range2 T.n_range (a_cons (z_var 4 (pv 4)) (a_cons (z_add (z_var 5 (pv 5)) z_int) a_nil))) (pg_name (i := 3) sc.nd rfl (by first | exact Or.inl rfl | exact Or.inr rfl)) (ss_one (s_if (tt_cmp (c_ninA (by exact hu)) (z_var 3 (pv 3)) (z_var 1 (pv 1))) (ss_one (s_expr (z_methO T.at_Search T.cl_Search T.me_Search_go_on (okK_Search_go_on T n) (hr.mono (by omega)) T.b_Search_go_on (z_var 0 (pv 0)) (a_cons (z_add (z_var 1 (pv 1)) (z_tup (a_cons (z_var 3 (pv 3)) a_nil))) a_nil)))) ss_nil))))))))
noncomputable abbrev N_within : List Str := ["docket", "first", "last", "at", "hearing"]
theorem sc_within : FnScope N_within ["docket", "first", "last"] (defScope (top 20)) := ⟨rfl, rfl, rfl, by decide +kernel, rfl, by decide +kernel, by decide +kernel⟩
theorem okK_within (T : Tx K mg) : FnK P w K mg base 1 T.a_within T.fd_within ["docket", "first", "last"] m_within := by
  refine fnK_of (N := N_within) (k := 0) T.F_within sc_within rfl fun cdv A fs s H E hr => ?_
  have hu := un100 hr
  have sc := sc_within
  exact (ss_one (s_ret (z_typ T.n_tuple call_tupleN dTuple_ok PyProof.Rows.boot_tuple (a_cons (z_comp (own := [("at", 3), ("hearing", 4)]) (g := (.tp [3, 4])) rfl sc.nd (i_enumA T.n_enumerate (a_cons (z_var 0 (pv 0)) a_nil)) (blkOk_by (sc := defScope (top 20)) (N := N_within) (by first | decide +kernel | rfl)) (fun _ _ _ _ _ => (pg_tup rfl (pgs_cons (pg_name (i := 3) sc.nd rfl (by first | exact Or.inl rfl | exact Or.inr rfl)) (pgs_cons (pg_name (i := 4) sc.nd rfl (by first | exact Or.inl rfl | exact Or.inr rfl)) pgs_nil)))) (fun _ _ _ _ _ => (ts_one (PW.pt (w_and (tt_cmp (c_ge hu) (z_ixA hu (z_var 4 (pv 4)) z_int) (z_var 1 (pv 1))) (w_and1 (tt_cmp (c_le hu) (z_ixA hu (z_var 4 (pv 4)) z_int) (z_var 2 (pv 2)))))))) (fun _ _ _ _ _ => (z_var 3 (pv 3))) (by decide)) a_nil))))
noncomputable abbrev N_least_crowd : List Str := ["docket", "first", "last", "places"]
theorem sc_least_crowd : FnScope N_least_crowd ["docket"] (defScope (top 21)) := ⟨rfl, rfl, rfl, by decide +kernel, rfl, by decide +kernel, by decide +kernel⟩
theorem okK_least_crowd (T : Tx K mg) : FnK P w K mg base 2 T.a_least_crowd T.fd_least_crowd ["docket"] m_least_crowd := by
  refine fnK_of (N := N_least_crowd) (k := 1) T.F_least_crowd sc_least_crowd rfl fun cdv A fs s H E hr => ?_
  have hu := un100 hr
  have sc := sc_least_crowd
  exact (ss_cons (s_for (g := (.nm 1)) (passes_of rfl) rfl (i_range1 T.n_range (a_cons (z_gint T.c_DAYS) a_nil)) (pg_name (i := 1) sc.nd rfl (by first | exact Or.inl rfl | exact Or.inr rfl)) (ss_one (s_for (g := (.nm 2)) (passes_of rfl) rfl (i_range2 T.n_range (a_cons (z_var 1 (pv 1)) (a_cons (z_gint T.c_DAYS) a_nil))) (pg_name (i := 2) sc.nd rfl (by first | exact Or.inl rfl | exact Or.inr rfl)) (ss_cons (s_set (i := 3) sc.nd rfl (by first | exact Or.inl rfl | exact Or.inr rfl) (z_callK (okK_within T) (hr.mono (by decide)) T.g_within T.F_within.kp T.b_within (passAt (takes_of rfl rfl rfl rfl)) (a_cons (z_var 0 (pv 0)) (a_cons (z_var 1 (pv 1)) (a_cons (z_var 2 (pv 2)) a_nil)))))
  (ss_one (s_if (tt_cmp (c_gt hu) (z_blt T.n_len call_len dLen_ok PySem.boot_len (a_cons (z_var 3 (pv 3)) a_nil)) (z_add (z_sub (z_var 2 (pv 2)) (z_var 1 (pv 1))) z_int)) (ss_one (s_ret (z_tup (a_cons (z_var 1 (pv 1)) (a_cons (z_var 2 (pv 2)) (a_cons (z_var 3 (pv 3)) a_nil)))))) ss_nil))))))
  (ss_one (s_ret z_non)))
noncomputable abbrev N_best_of : List Str := ["docket", "search"]
theorem sc_best_of : FnScope N_best_of ["docket"] (defScope (top 17)) := ⟨rfl, rfl, rfl, by decide +kernel, rfl, by decide +kernel, by decide +kernel⟩
theorem okK_best_of (T : Tx K mg) : FnK P w K mg base 10 T.a_best_of T.fd_best_of ["docket"] m_best_of := by
  refine fnK_of (N := N_best_of) (k := 9) T.F_best_of sc_best_of rfl fun cdv A fs s H E hr => ?_
  have hu := un100 hr
  have sc := sc_best_of
  exact (ss_cons (s_if (tt_cmp c_isn (z_callK (okK_least_crowd T) (hr.mono (by decide)) T.g_least_crowd T.F_least_crowd.kp T.b_least_crowd (passAt (takes_of rfl rfl rfl rfl)) (a_cons (z_var 0 (pv 0)) a_nil)) z_non) (ss_one (s_ret z_non)) ss_nil)
  (ss_cons (s_set (i := 1) sc.nd rfl (by first | exact Or.inl rfl | exact Or.inr rfl) (z_make T.at_Search T.mk_Search (okK_Search_init T) (hr.mono (by decide)) T.gm_Search T.b_Search_init (a_cons (z_var 0 (pv 0)) a_nil)))
  (ss_cons (s_expr (z_methO T.at_Search T.cl_Search T.me_Search_go_on (okK_Search_go_on T 8) (hr.mono (by decide)) T.b_Search_go_on (z_var 1 (pv 1)) (a_cons (z_tup a_nil) a_nil)))
  (ss_one (s_ret (z_fld (T.f_Search "best" (by decide +kernel)) (z_var 1 (pv 1))))))))
noncomputable abbrev N_best_order : List Str := ["docket", "best"]
theorem sc_best_order : FnScope N_best_order ["docket"] (defScope (top 18)) := ⟨rfl, rfl, rfl, by decide +kernel, rfl, by decide +kernel, by decide +kernel⟩
theorem okK_best_order (T : Tx K mg) : FnK P w K mg base 11 T.a_best_order T.fd_best_order ["docket"] m_best_order := by
  refine fnK_of (N := N_best_order) (k := 10) T.F_best_order sc_best_order rfl fun cdv A fs s H E hr => ?_
  have hu := un100 hr
  have sc := sc_best_order
  exact (ss_cons (s_expr (z_callK (okK_need_docket T) (hr.mono (by decide)) T.g_need_docket T.F_need_docket.kp T.b_need_docket (passAt (takes_of rfl rfl rfl rfl)) (a_cons (z_var 0 (pv 0)) a_nil)))
  (ss_cons (s_set (i := 1) sc.nd rfl (by first | exact Or.inl rfl | exact Or.inr rfl) (z_callK (okK_best_of T) (hr.mono (by decide)) T.g_best_of T.F_best_of.kp T.b_best_of (passAt (takes_of rfl rfl rfl rfl)) (a_cons (z_var 0 (pv 0)) a_nil)))
  (ss_one (s_ret (z_if (tt_cmp c_is (z_var 1 (pv 1)) z_non) z_non (z_ixA hu (z_var 1 (pv 1)) z_int))))))
theorem ok_best_order (T : Tx K mg) : FnG P w K mg base 11 T.a_best_order T.fd_best_order ["docket"] m_best_order := (okK_best_order T).toG
noncomputable abbrev N_fewest_kept : List Str := ["docket", "best"]
theorem sc_fewest_kept : FnScope N_fewest_kept ["docket"] (defScope (top 19)) := ⟨rfl, rfl, rfl, by decide +kernel, rfl, by decide +kernel, by decide +kernel⟩
theorem okK_fewest_kept (T : Tx K mg) : FnK P w K mg base 11 T.a_fewest_kept T.fd_fewest_kept ["docket"] m_fewest_kept := by
  refine fnK_of (N := N_fewest_kept) (k := 10) T.F_fewest_kept sc_fewest_kept rfl fun cdv A fs s H E hr => ?_
  have hu := un100 hr
  have sc := sc_fewest_kept
  exact (ss_cons (s_expr (z_callK (okK_need_docket T) (hr.mono (by decide)) T.g_need_docket T.F_need_docket.kp T.b_need_docket (passAt (takes_of rfl rfl rfl rfl)) (a_cons (z_var 0 (pv 0)) a_nil)))
  (ss_cons (s_set (i := 1) sc.nd rfl (by first | exact Or.inl rfl | exact Or.inr rfl) (z_callK (okK_best_of T) (hr.mono (by decide)) T.g_best_of T.F_best_of.kp T.b_best_of (passAt (takes_of rfl rfl rfl rfl)) (a_cons (z_var 0 (pv 0)) a_nil)))
  (ss_one (s_ret (z_if (tt_cmp c_is (z_var 1 (pv 1)) z_non) z_non (z_ixA hu (z_var 1 (pv 1)) z_int))))))
theorem ok_fewest_kept (T : Tx K mg) : FnG P w K mg base 11 T.a_fewest_kept T.fd_fewest_kept ["docket"] m_fewest_kept := (okK_fewest_kept T).toG
noncomputable abbrev N_law_cell : List Str := ["_law_script", "_law_k"]
theorem sc_law_cell : FnScope N_law_cell ["_law_script", "_law_k"] (defScope (top 23)) := ⟨rfl, rfl, rfl, by decide +kernel, rfl, by decide +kernel, by decide +kernel⟩
theorem okK_law_cell (T : Tx K mg) : FnK P w K mg base 1 T.a_law_cell T.fd_law_cell ["_law_script", "_law_k"] m_law_cell := by
  refine fnK_of (N := N_law_cell) (k := 0) T.F_law_cell sc_law_cell rfl fun cdv A fs s H E hr => ?_
  have hu := un100 hr
  have sc := sc_law_cell
  exact (ss_cons (s_if (tt_cmp (c_lt hu) (z_var 1 (pv 1)) (z_blt T.n_len call_len dLen_ok PySem.boot_len (a_cons (z_var 0 (pv 0)) a_nil))) (ss_one (s_ret (z_ixA hu (z_var 0 (pv 0)) (z_var 1 (pv 1))))) ss_nil)
  (ss_one (s_ret z_int)))
theorem ok_law_cell (T : Tx K mg) : FnG P w K mg base 1 T.a_law_cell T.fd_law_cell ["_law_script", "_law_k"] m_law_cell := (okK_law_cell T).toG
noncomputable abbrev N_law_pen : List Str := ["_law_cell_here", "_law_more"]
theorem sc_law_pen : FnScope N_law_pen ["_law_cell_here"] (defScope (top 24)) := ⟨rfl, rfl, rfl, by decide +kernel, rfl, by decide +kernel, by decide +kernel⟩
theorem okK_law_pen (T : Tx K mg) : FnK P w K mg base 1 T.a_law_pen T.fd_law_pen ["_law_cell_here"] m_law_pen := by
  refine fnK_of (N := N_law_pen) (k := 0) T.F_law_pen sc_law_pen rfl fun cdv A fs s H E hr => ?_
  have hu := un100 hr
  have sc := sc_law_pen
  exact (ss_cons (s_set (i := 1) sc.nd rfl (by first | exact Or.inl rfl | exact Or.inr rfl) (z_blt T.n_max (call_max2 rfl) dMax2_ok PyProof.Rows.boot_max (a_cons (z_var 0 (pv 0)) (a_cons (z_sub z_int (z_var 0 (pv 0))) a_nil))))
  (ss_one (s_ret (z_lstN (a_cons (z_var 1 (pv 1)) (a_cons (z_typ T.n_int call_int1 dInt_ok PyProof.Rows.boot_int (a_cons (e_cmp (c_ge hu) (z_var 1 (pv 1)) (z_pow z_int z_int)) a_nil)) a_nil))))))
theorem ok_law_pen (T : Tx K mg) : FnG P w K mg base 1 T.a_law_pen T.fd_law_pen ["_law_cell_here"] m_law_pen := (okK_law_pen T).toG
noncomputable abbrev N_law_draw : List Str := ["_law_pen_here", "_law_many", "_law_stir", "_law_rest", "_law_drawn"]
theorem sc_law_draw : FnScope N_law_draw ["_law_pen_here", "_law_many"] (defScope (top 25)) := ⟨rfl, rfl, rfl, by decide +kernel, rfl, by decide +kernel, by decide +kernel⟩
theorem okK_law_draw (T : Tx K mg) : FnK P w K mg base 1 T.a_law_draw T.fd_law_draw ["_law_pen_here", "_law_many"] m_law_draw := by
  refine fnK_of (N := N_law_draw) (k := 0) T.F_law_draw sc_law_draw rfl fun cdv A fs s H E hr => ?_
  have hu := un100 hr
  have sc := sc_law_draw
  exact (ss_cons (s_if (tt_cmp (c_eq hu) (z_ixA hu (z_var 0 (pv 0)) z_int) z_int) (ss_cons (s_tup (is := [3, 4]) (z_blt T.n_divmod call_divmod dDivmod_ok PyProof.Rows.boot_divmod (a_cons (z_ixA hu (z_var 0 (pv 0)) z_int) (a_cons (z_var 1 (pv 1)) a_nil))) (pg_tup rfl (pgs_cons (pg_name (i := 3) sc.nd rfl (by first | exact Or.inl rfl | exact Or.inr rfl)) (pgs_cons (pg_name (i := 4) sc.nd rfl (by first | exact Or.inl rfl | exact Or.inr rfl)) pgs_nil))))
  (ss_cons (s_subA hu (z_var 0 (pv 0)) z_int (z_var 3 (pv 3)))
  (ss_one (s_ret (z_var 4 (pv 4)))))) ss_nil)
  (ss_cons (s_set (i := 2) sc.nd rfl (by first | exact Or.inl rfl | exact Or.inr rfl) (z_mod (z_mul (z_add (z_mod (z_ixA hu (z_var 0 (pv 0)) z_int) z_int) z_int) z_int) z_int))
  (ss_cons (s_set (i := 2) sc.nd rfl (by first | exact Or.inl rfl | exact Or.inr rfl) (z_mod (z_add (z_mul (z_var 2 (pv 2)) (z_var 2 (pv 2))) z_int) z_int))
  (ss_cons (s_subA hu (z_var 0 (pv 0)) z_int (z_mod (z_add (z_mul (z_var 2 (pv 2)) z_int) z_int) z_int))
  (ss_one (s_ret (z_mod (z_fdiv (z_ixA hu (z_var 0 (pv 0)) z_int) z_int) (z_var 1 (pv 1)))))))))
noncomputable abbrev N_law_persons : List Str := ["_law_pen_here", "_law_turn"]
theorem sc_law_persons : FnScope N_law_persons ["_law_pen_here"] (defScope (top 26)) := ⟨rfl, rfl, rfl, by decide +kernel, rfl, by decide +kernel, by decide +kernel⟩
theorem okK_law_persons (T : Tx K mg) : FnK P w K mg base 2 T.a_law_persons T.fd_law_persons ["_law_pen_here"] m_law_persons := by
  refine fnK_of (N := N_law_persons) (k := 1) T.F_law_persons sc_law_persons rfl fun cdv A fs s H E hr => ?_
  have hu := un100 hr
  have sc := sc_law_persons
  exact (ss_one (s_ret (z_typ T.n_tuple call_tupleN dTuple_ok PyProof.Rows.boot_tuple (a_cons (z_sortSet T.n_sorted T.n_set (z_comp (own := [("_law_turn", 1)]) (g := (.nm 1)) rfl sc.nd (i_range1 T.n_range (a_cons (z_callK (okK_law_draw T) (hr.mono (by decide)) T.g_law_draw T.F_law_draw.kp T.b_law_draw (passAt (takes_of rfl rfl rfl rfl)) (a_cons (z_var 0 (pv 0)) (a_cons z_int a_nil))) a_nil)) (blkOk_by (sc := defScope (top 26)) (N := N_law_persons) (by first | decide +kernel | rfl)) (fun _ _ _ _ _ => (pg_name (i := 1) sc.nd rfl (by first | exact Or.inl rfl | exact Or.inr rfl))) (fun _ _ _ _ _ => ts_nil) (fun _ _ _ _ _ => (z_callK (okK_law_draw T) (hr.mono (by decide)) T.g_law_draw T.F_law_draw.kp T.b_law_draw no_out (a_cons (z_var 0 (pv 0)) (a_cons (z_ixA hu (z_lst (a_cons z_int (a_cons z_int a_nil))) (z_callK (okK_law_draw T) (hr.mono (by decide)) T.g_law_draw T.F_law_draw.kp T.b_law_draw no_out (a_cons (z_var 0 (pv 0)) (a_cons z_int a_nil)))) a_nil)))) (by decide))) a_nil))))
noncomputable abbrev N_law_docket : List Str := ["_law_pen_here", "_law_many", "_law_wide", "_law_turn", "_law_base", "_law_close", "_law_got", "_law_first"]
theorem sc_law_docket : FnScope N_law_docket ["_law_pen_here", "_law_many", "_law_wide"] (defScope (top 27)) := ⟨rfl, rfl, rfl, by decide +kernel, rfl, by decide +kernel, by decide +kernel⟩
theorem okK_law_docket (T : Tx K mg) : FnK P w K mg base 3 T.a_law_docket T.fd_law_docket ["_law_pen_here", "_law_many", "_law_wide"] m_law_docket := by
  refine fnK_of (N := N_law_docket) (k := 2) T.F_law_docket sc_law_docket rfl fun cdv A fs s H E hr => ?_
  have hu := un100 hr
  have sc := sc_law_docket
  exact (ss_cons (s_parB (i := 4) (j := 5) (l := 6) rfl sc.nd rfl rfl rfl (by decide) (by decide) (by decide) rfl rfl rfl (a_cons (z_callK (okK_law_draw T) (hr.mono (by decide)) T.g_law_draw T.F_law_draw.kp T.b_law_draw (passAt (takes_of rfl rfl rfl rfl)) (a_cons (z_var 0 (pv 0)) (a_cons z_int a_nil))) (a_cons (z_add z_int (z_callK (okK_law_draw T) (hr.mono (by decide)) T.g_law_draw T.F_law_draw.kp T.b_law_draw (passAt (takes_of rfl rfl rfl rfl)) (a_cons (z_var 0 (pv 0)) (a_cons z_int a_nil)))) (a_cons (z_lstN a_nil) a_nil))) (by rfl))
  (ss_cons (s_for (g := (.nm 3)) (passes_of rfl) rfl (i_range1 T.n_range (a_cons (z_var 1 (pv 1)) a_nil)) (pg_name (i := 3) sc.nd rfl (by first | exact Or.inl rfl | exact Or.inr rfl)) (ss_cons (s_set (i := 7) sc.nd rfl (by first | exact Or.inl rfl | exact Or.inr rfl) (z_add (z_var 4 (pv 4)) (z_callK (okK_law_draw T) (hr.mono (by decide)) T.g_law_draw T.F_law_draw.kp T.b_law_draw (passAt (takes_of rfl rfl rfl rfl)) (a_cons (z_var 0 (pv 0)) (a_cons (z_var 5 (pv 5)) a_nil)))))
  (ss_one (s_expr (z_app (z_var 6 (pv 6)) (a_cons (z_tup (a_cons (z_var 7 (pv 7)) (a_cons (z_blt T.n_min (call_min2 rfl) dMin2_ok PyProof.Rows.boot_min (a_cons z_int (a_cons (z_add (z_var 7 (pv 7)) (z_callK (okK_law_draw T) (hr.mono (by decide)) T.g_law_draw T.F_law_draw.kp T.b_law_draw (passAt (takes_of rfl rfl rfl rfl)) (a_cons (z_var 0 (pv 0)) (a_cons (z_var 2 (pv 2)) a_nil)))) a_nil))) (a_cons (z_callK (okK_law_persons T) (hr.mono (by decide)) T.g_law_persons T.F_law_persons.kp T.b_law_persons (passAt (takes_of rfl rfl rfl rfl)) (a_cons (z_var 0 (pv 0)) a_nil)) a_nil)))) a_nil))))))
  (ss_one (s_ret (z_typ T.n_tuple call_tupleN dTuple_ok PyProof.Rows.boot_tuple (a_cons (z_var 6 (pv 6)) a_nil))))))
theorem ok_law_docket (T : Tx K mg) : FnG P w K mg base 3 T.a_law_docket T.fd_law_docket ["_law_pen_here", "_law_many", "_law_wide"] m_law_docket := (okK_law_docket T).toG
noncomputable abbrev N_law_orders : List Str := ["_law_docket_here", "_law_rows", "_law_first", "_law_last", "_law_persons_here", "_law_longer", "_law_row", "_law_day"]
theorem sc_law_orders : FnScope N_law_orders ["_law_docket_here"] (defScope (top 28)) := ⟨rfl, rfl, rfl, by decide +kernel, rfl, by decide +kernel, by decide +kernel⟩
theorem okK_law_orders (T : Tx K mg) : FnK P w K mg base 1 T.a_law_orders T.fd_law_orders ["_law_docket_here"] m_law_orders := by
  refine fnK_of (N := N_law_orders) (k := 0) T.F_law_orders sc_law_orders rfl fun cdv A fs s H E hr => ?_
  have hu := un100 hr
  have sc := sc_law_orders
  exact (ss_cons (s_set (i := 1) sc.nd rfl (by first | exact Or.inl rfl | exact Or.inr rfl) (z_lst (a_cons (z_tup a_nil) a_nil)))
  (ss_cons (s_for (g := (.tp [2, 3, 4])) (passes_of rfl) rfl (i_seq (z_var 0 (pv 0))) (pg_tup rfl (pgs_cons (pg_name (i := 2) sc.nd rfl (by first | exact Or.inl rfl | exact Or.inr rfl)) (pgs_cons (pg_name (i := 3) sc.nd rfl (by first | exact Or.inl rfl | exact Or.inr rfl)) (pgs_cons (pg_name (i := 4) sc.nd rfl (by first | exact Or.inl rfl | exact Or.inr rfl)) pgs_nil)))) (ss_cons (s_set (i := 5) sc.nd rfl (by first | exact Or.inl rfl | exact Or.inr rfl) (z_lstN a_nil))
  (ss_cons (s_for (g := (.nm 6)) (passes_of rfl) rfl (i_seq (z_var 1 (pv 1))) (pg_name (i := 6) sc.nd rfl (by first | exact Or.inl rfl | exact Or.inr rfl)) (ss_one (s_expr (z_ext (z_var 5 (pv 5)) (a_cons (z_comp (own := [("_law_day", 7)]) (g := (.nm 7)) rfl sc.nd (i_range2 T.n_range (a_cons (z_var 2 (pv 2)) (a_cons (z_add (z_var 3 (pv 3)) z_int) a_nil))) (blkOk_by (sc := defScope (top 28)) (N := N_law_orders) (by first | decide +kernel | rfl)) (fun _ _ _ _ _ => (pg_name (i := 7) sc.nd rfl (by first | exact Or.inl rfl | exact Or.inr rfl))) (fun _ _ _ _ _ => (ts_one (tt_cmp (c_ninA (by exact hu)) (z_var 7 (pv 7)) (z_var 6 (pv 6))))) (fun _ _ _ _ _ => (z_add (z_var 6 (pv 6)) (z_tup (a_cons (z_var 7 (pv 7)) a_nil)))) (by decide)) a_nil)))))
  (ss_one (s_set (i := 1) sc.nd rfl (by first | exact Or.inl rfl | exact Or.inr rfl) (z_var 5 (pv 5)))))))
  (ss_one (s_ret (z_var 1 (pv 1))))))
theorem ok_law_orders (T : Tx K mg) : FnG P w K mg base 1 T.a_law_orders T.fd_law_orders ["_law_docket_here"] m_law_orders := (okK_law_orders T).toG
noncomputable abbrev N_law_kept : List Str := ["_law_docket_here", "_law_order", "_law_total", "_law_person", "_law_days", "_law_hearing", "_law_day"]
theorem sc_law_kept : FnScope N_law_kept ["_law_docket_here", "_law_order"] (defScope (top 29)) := ⟨rfl, rfl, rfl, by decide +kernel, rfl, by decide +kernel, by decide +kernel⟩
theorem okK_law_kept (T : Tx K mg) : FnK P w K mg base 1 T.a_law_kept T.fd_law_kept ["_law_docket_here", "_law_order"] m_law_kept := by
  refine fnK_of (N := N_law_kept) (k := 0) T.F_law_kept sc_law_kept rfl fun cdv A fs s H E hr => ?_
  have hu := un100 hr
  have sc := sc_law_kept
  exact (ss_cons (s_set (i := 2) sc.nd rfl (by first | exact Or.inl rfl | exact Or.inr rfl) z_int)
  (ss_cons (s_for (g := (.nm 3)) (passes_of rfl) rfl (i_range1 T.n_range (a_cons z_int a_nil)) (pg_name (i := 3) sc.nd rfl (by first | exact Or.inl rfl | exact Or.inr rfl)) (ss_cons (s_setComp (i := 4) (own := [("_law_hearing", 5), ("_law_day", 6)]) (g := (.tp [5, 6])) rfl sc.nd rfl rfl (sw_true rfl rfl rfl (by decide +kernel)) (i_zipA T.n_zip (a_cons (z_var 0 (pv 0)) (a_cons (z_var 1 (pv 1)) a_nil))) (blkOk_by (sc := defScope (top 29)) (N := N_law_kept) (by first | decide +kernel | rfl)) (fun _ _ _ _ _ => (pg_tup rfl (pgs_cons (pg_name (i := 5) sc.nd rfl (by first | exact Or.inl rfl | exact Or.inr rfl)) (pgs_cons (pg_name (i := 6) sc.nd rfl (by first | exact Or.inl rfl | exact Or.inr rfl)) pgs_nil)))) (fun _ _ _ _ _ => (ts_one (tt_cmp (c_inA (by exact hu)) (z_var 3 (pv 3)) (z_ixA hu (z_var 5 (pv 5)) z_int)))) (fun _ _ _ _ _ => (z_var 6 (pv 6))) (by decide))
  (ss_one (s_set (i := 2) sc.nd rfl (by first | exact Or.inl rfl | exact Or.inr rfl) (z_add (z_var 2 (pv 2)) (z_if (tt_cmp (c_ne hu) (z_var 4 (pv 4)) (z_lst a_nil)) (z_add (z_sub (z_blt T.n_max (cr_max rfl) dMaxL_ok PyProof.Rows.boot_max (a_cons (z_var 4 (pv 4)) a_nil)) (z_blt T.n_min (cr_min rfl) dMinL_ok PyProof.Rows.boot_min (a_cons (z_var 4 (pv 4)) a_nil))) z_int) z_int))))))
  (ss_one (s_ret (z_var 2 (pv 2))))))
theorem ok_law_kept (T : Tx K mg) : FnG P w K mg base 1 T.a_law_kept T.fd_law_kept ["_law_docket_here", "_law_order"] m_law_kept := (okK_law_kept T).toG
noncomputable abbrev N_law : List Str := ["_law_script", "_law_cell_here", "_law_pen_here", "_law_turn", "_law_docket_here", "_law_some", "_law_due", "_law_again", "_law_order"]
theorem sc_law : FnScope N_law ["_law_script"] (defScope (top 30)) := ⟨rfl, rfl, rfl, by decide +kernel, rfl, by decide +kernel, by decide +kernel⟩
theorem ok_law (T : Tx K mg) : FnG P w K mg base 12 T.a_law T.fd_law ["_law_script"] m_law := by
  refine fnG_of (N := N_law) (k := 11) T.F_law sc_law rfl fun cdv A fs s H E hr hgd => ?_
  have hu := un100 hr
  have sc := sc_law
  exact (ss_cons (s_for (g := (.nm 1)) (passes_of rfl) rfl (i_seq (z_add (z_lst (a_cons (z_call (ok_law_cell T) (hr.mono (by decide)) hgd T.g_law_cell T.F_law_cell.kp T.b_law_cell (passAt (takes_of rfl rfl rfl rfl)) (a_cons (z_var 0 (pv 0)) (a_cons z_int a_nil))) a_nil)) (z_sl (z_var 0 (pv 0)) (o_some z_int) (o_some z_int)))) (pg_name (i := 1) sc.nd rfl (by first | exact Or.inl rfl | exact Or.inr rfl)) (ss_cons (s_set (i := 2) sc.nd rfl (by first | exact Or.inl rfl | exact Or.inr rfl) (z_call (ok_law_pen T) (hr.mono (by decide)) hgd T.g_law_pen T.F_law_pen.kp T.b_law_pen (passAt (takes_of rfl rfl rfl rfl)) (a_cons (z_var 1 (pv 1)) a_nil)))
  (ss_one (s_for (g := (.nm 3)) (passes_of rfl) rfl (i_range1 T.n_range (a_cons z_int a_nil)) (pg_name (i := 3) sc.nd rfl (by first | exact Or.inl rfl | exact Or.inr rfl)) (ss_cons (s_set (i := 4) sc.nd rfl (by first | exact Or.inl rfl | exact Or.inr rfl) (z_call (ok_law_docket T) (hr.mono (by decide)) hgd T.g_law_docket T.F_law_docket.kp T.b_law_docket (passAt (takes_of rfl rfl rfl rfl)) (a_cons (z_var 2 (pv 2)) (a_cons (z_add z_int (z_mod (z_var 3 (pv 3)) z_int)) (a_cons z_int a_nil)))))
  (ss_cons (s_setComp (i := 5) (own := [("_law_order", 8)]) (g := (.nm 8)) rfl sc.nd rfl rfl (sw_true rfl rfl rfl (by decide +kernel)) (i_seq (z_call (ok_law_orders T) (hr.mono (by decide)) hgd T.g_law_orders T.F_law_orders.kp T.b_law_orders (passAt (takes_of rfl rfl rfl rfl)) (a_cons (z_var 4 (pv 4)) a_nil))) (blkOk_by (sc := defScope (top 30)) (N := N_law) (by first | decide +kernel | rfl)) (fun _ _ _ _ _ => (pg_name (i := 8) sc.nd rfl (by first | exact Or.inl rfl | exact Or.inr rfl))) (fun _ _ _ _ _ => ts_nil) (fun _ _ _ _ _ => (z_tup (a_cons (z_call (ok_law_kept T) (hr.mono (by decide)) hgd T.g_law_kept T.F_law_kept.kp T.b_law_kept no_out (a_cons (z_var 4 (pv 4)) (a_cons (z_var 8 (pv 8)) a_nil))) (a_cons (z_var 8 (pv 8)) a_nil)))) (by decide))
  (ss_cons (s_set (i := 6) sc.nd rfl (by first | exact Or.inl rfl | exact Or.inr rfl) (z_if (tt_cmp (c_ne hu) (z_var 5 (pv 5)) (z_lst a_nil)) (z_blt T.n_min (call_minT hu rfl) dMinT_ok PyProof.Rows.boot_min (a_cons (z_var 5 (pv 5)) a_nil)) (z_tup (a_cons z_non (a_cons z_non a_nil)))))
  (ss_one (s_for (g := (.nm 7)) (passes_of rfl) rfl (i_range1 T.n_range (a_cons z_int a_nil)) (pg_name (i := 7) sc.nd rfl (by first | exact Or.inl rfl | exact Or.inr rfl)) (ss_one (s_if (tt_cmp (c_ne hu) (z_blt T.n_repr (call_reprP hu hgd) dRepr_ok PyProof.Rows.boot_repr (a_cons (z_tup (a_cons (z_call (ok_fewest_kept T) (hr.mono (by decide)) hgd T.g_fewest_kept T.F_fewest_kept.kp T.b_fewest_kept (passAt (takes_of rfl rfl rfl rfl)) (a_cons (z_var 4 (pv 4)) a_nil)) (a_cons (z_call (ok_best_order T) (hr.mono (by decide)) hgd T.g_best_order T.F_best_order.kp T.b_best_order (passAt (takes_of rfl rfl rfl rfl)) (a_cons (z_var 4 (pv 4)) a_nil)) a_nil))) a_nil)) (z_blt T.n_repr (call_reprP hu hgd) dRepr_ok PyProof.Rows.boot_repr (a_cons (z_var 6 (pv 6)) a_nil))) (ss_one (s_ret z_bl)) ss_nil)))))))))))
  (ss_one (s_ret z_bl)))
end
end Lk73



namespace Lk73
open PySem L2 Z
theorem draw_wpL {l : Nat} {n : Int} {S : Sto} {Q : D → Sto → Prop} (hp : Pen l S) (h0 : 0 < n) (h1 : n < 1073741824) (k : ∀ r S', 0 ≤ r → r < n → Pen l S' → Fr l S S' → Q (.int r) S') : wpR (m_law_draw [.loc l, .int n] S) Q := by
  obtain ⟨a, b, h⟩ := hp
  have hl := (List.getElem?_eq_some_iff.mp h).1
  have i0 : ∀ x y : Int, atI [D.int x, D.int y] 0 = some (.int x) := fun _ _ => rfl
  have i1 : ∀ x y : Int, atI [D.int x, D.int y] 1 = some (.int y) := fun _ _ => rfl
  have gs : ∀ c, (S.set l c)[l]? = some c := fun c => List.getElem?_set_self hl
  have p0 : ∀ x : Int, dPut (.loc l) (.int 0) (.int x) S = some (S.set l (.lst [.int x, .int b])) := fun x => put_L (j := 0) h rfl
  unfold m_law_draw
  simp [x_ixLl h, i0, i1, h0, h1, h, setAll, bindT, p0, x_ixLl (gs _)]
  refine ⟨fun _ => ?_, fun _ => ?_⟩
  · exact k _ _ (Int.emod_nonneg _ (by omega)) (Int.emod_lt_of_pos _ h0) ⟨_, _, gs _⟩ (Fr.set _ _ _)
  · refine ⟨?_, ?_⟩
    · have := Int.emod_nonneg ((a % 2147483647 + 40503) * 69621) (b := 2147483629) (by omega)
      have := Int.emod_lt_of_pos ((a % 2147483647 + 40503) * 69621) (b := 2147483629) (by omega)
      omega
    · exact k _ _ (Int.emod_nonneg _ (by omega)) (Int.emod_lt_of_pos _ h0) ⟨_, _, gs _⟩ (Fr.set _ _ _)
theorem within_ok {d : D} (h : Has d) (lo hi : Int) (S : Sto) : m_is_within [d, .int lo, .int hi] S = .ok (.bl (num d lo hi)) S := by
  obtain ⟨p, h⟩ := h
  refine wp_eq ?_
  unfold m_is_within
  simp [isa_int h, isa_bool h]
  cases d <;> simp [isIntD, isBlD, num]
  rename_i i
  by_cases q : lo ≤ i <;> simp [q] <;> omega
theorem upto_ok {d : D} (h : Has d) (n : Int) (S : Sto) : m_is_upto [d, .int n] S = .ok (.bl (num d 0 (n - 1))) S := by
  refine wp_eq ?_
  unfold m_is_upto
  simp [within_ok h]
noncomputable def upB (ns : List Int) : Bool := decide (ns.Pairwise (· < ·))
noncomputable def prs : D → Bool
  | .tup ds => ds.all (fun d => num d 0 5) && upB (ds.map iv)
  | _ => false
theorem ints_all {ds : List D} (h : ds.all (fun d => num d 0 5) = true) : ds = (ds.map iv).map D.int := by
  induction ds with
  | nil => rfl
  | cons d r ih =>
    simp only [List.all_cons, Bool.and_eq_true] at h
    obtain ⟨i, rfl, _⟩ := num_int h.1
    simp only [List.map_cons, iv]
    rw [← ih h.2]
noncomputable def cmp1 (x : D) : Bool := match x with | .tup [a, b] => decide (iv a < iv b) | _ => false
theorem cmp_up : ∀ ns : List Int, (List.zipWith (fun a b => D.tup [a, b]) (ns.map D.int) ((ns.map D.int).drop 1)).all cmp1 = upB ns
  | [] => rfl
  | [a] => by simp [upB]
  | a :: b :: r => by
    have ih := cmp_up (b :: r)
    have e : (List.zipWith (fun a b => D.tup [a, b]) ((a :: b :: r).map D.int) (((a :: b :: r).map D.int).drop 1)).all cmp1 = (decide (a < b) && (List.zipWith (fun a b => D.tup [a, b]) ((b :: r).map D.int) (((b :: r).map D.int).drop 1)).all cmp1) := rfl
    rw [e, ih]
    unfold upB
    rw [← Bool.decide_and]
    apply decide_eq_decide.mpr
    rw [List.pairwise_cons (l := b :: r)]
    constructor
    · rintro ⟨h1, h2⟩
      refine ⟨fun z hz => ?_, h2⟩
      rcases List.mem_cons.mp hz with rfl | hz
      · exact h1
      · have := (List.pairwise_cons.mp h2).1 z hz; omega
    · rintro ⟨h1, h2⟩
      exact ⟨h1 b (by simp), h2⟩
theorem persons_ok {d : D} (h : Has d) (hl : ∀ ds, d = .tup ds → ds.length ≤ 16) (S : Sto) : m_are_persons [d] S = .ok (.bl (prs d)) S := by
  obtain ⟨p, hp⟩ := h
  refine wp_eq ?_
  unfold m_are_persons
  simp [isa_tup hp]
  cases d
  case tup ds =>
    have hlen := hl ds rfl
    have hz1 : ds.length ≤ sizeLine := by rw [hz]; omega
    have hh := has_tup ⟨p, hp⟩
    have e1 : lcL [] (Tgt.nm 1) [1] tYesM (mCall m_is_upto (aCons (mVar 1) (aCons (mC (D.int 6)) aNil))) ds [some (D.tup ds), none, none] S = .ok (ds.map fun d => D.bl (num d 0 5)) S := lc_map (fun d => .bl (num d 0 5)) ds fun d hd => ⟨_, rfl, by simp [wipeT, upto_ok (hh d hd)]⟩
    cases q : ds.all (fun d => num d 0 5) with
    | false =>
      have e : prs (.tup ds) = false := by simp only [prs, q, Bool.false_and]
      simp [isTupD, hz1, e1, all_map, q, e]
    | true =>
      have ei := ints_all q
      have e : prs (.tup ds) = (List.zipWith (fun a b => D.tup [a, b]) ds (cutD ds (some 1) none)).all cmp1 := by
        simp only [prs, q, Bool.true_and, cutD1]
        rw [← cmp_up, ← ei]
      have ezip : zipA [D.tup ds, D.tup (cutD ds (some 1) none)] S = some ⟨List.zipWith (fun a b => .tup [a, b]) ds (cutD ds (some 1) none), []⟩ := rfl
      have el : lcL [] (Tgt.tp [1, 2]) [1, 2] tYesM (mBin dLt (mVar 1) (mVar 2)) (List.zipWith (fun a b => D.tup [a, b]) ds (cutD ds (some 1) none)) [some (D.tup ds), none, none] S = .ok (_) S := lc_map (fun x => .bl (cmp1 x)) _ fun x hx => by
        obtain ⟨a, b, rfl, ha, hb⟩ := zip_mem hx
        obtain ⟨i, rfl, _⟩ := num_int (List.all_eq_true.mp q a ha)
        obtain ⟨j, rfl, _⟩ := num_int (List.all_eq_true.mp q b (cutD_mem hb))
        exact ⟨[some (D.tup ds), some (.int i), some (.int j)], rfl, by simp [cmp1, iv]; rfl⟩
      have hl : (List.zipWith (fun a b => D.tup [a, b]) ds (cutD ds (some 1) none)).length ≤ sizeLine := by rw [List.length_zipWith]; omega
      generalize List.zipWith (fun a b => D.tup [a, b]) ds (cutD ds (some 1) none) = zs at *
      simp [isTupD, hz1, e1, all_map, q, e, ezip, el, hl]
  all_goals simp [isTupD, prs]
theorem intsOf_map : ∀ ns : List Int, intsOf (ns.map D.int) = some ns
  | [] => rfl
  | n :: ns => by simp [intsOf, intsOf_map ns]
theorem toPy_ints : ∀ ns : List Int, toPyDs (ns.map D.int) = some (ns.map PyData.int)
  | [] => rfl
  | n :: ns => by simp [toPyDs, toPyD, toPy_ints ns]
theorem plain_ints : ∀ ns : List Int, PyData.plainAll (ns.map PyData.int) = true
  | [] => rfl
  | n :: ns => by simp [PyData.plainAll, PyData.plain, plain_ints ns]
theorem depth_ints : ∀ ns : List Int, PyData.depthAll (ns.map PyData.int) = 0
  | [] => rfl
  | n :: ns => by simp [PyData.depthAll, PyData.depth, depth_ints ns]
noncomputable def her : D → Bool
  | .tup [a, b, c] => num a 0 60 && num b 0 60 && (decide (iv a ≤ iv b) && decide (iv b ≤ iv a + 9)) && prs c
  | _ => false
theorem her_no {ds : List D} (h : ds.length ≠ 3) : her (.tup ds) = false := by
  unfold her
  split
  · rename_i e; cases e; exact absurd rfl h
  · rfl
noncomputable def Short (d : D) : Prop := ∀ ds, d = .tup ds → ds.length ≤ 16
theorem hearing_ok {d : D} (h : Has d) (hs : ∀ ds, d = .tup ds → ∀ e ∈ ds, Short e) (S : Sto) : m_is_hearing [d] S = .ok (.bl (her d)) S := by
  obtain ⟨p, hp⟩ := h
  refine wp_eq ?_
  unfold m_is_hearing
  simp [isa_tup hp]
  cases d
  case tup ds =>
    simp [isTupD]
    by_cases q : ds.length = 3
    · obtain ⟨a, b, c, rfl⟩ := three q
      have hh := has_tup ⟨p, hp⟩
      have ha := hh a (by simp)
      have hb := hh b (by simp)
      have hc := hh c (by simp)
      have sc : Short c := hs _ rfl c (by simp)
      simp [at0, at1, at2, upto_ok ha, upto_ok hb, persons_ok hc sc, her]
      cases na : num a 0 60 <;> simp
      cases nb : num b 0 60 <;> simp
      obtain ⟨i, rfl, _, _⟩ := num_int na
      obtain ⟨j, rfl, _, _⟩ := num_int nb
      by_cases g : i ≤ j <;> by_cases g2 : j ≤ i + 9 <;> simp [iv, g, g2]
    · have q2 : (ds.length : Int) ≠ 3 := by omega
      simp [q2, her_no q]
  all_goals simp [isTupD, her]
noncomputable def dck : D → Bool
  | .tup ds => decide (1 ≤ ds.length) && decide (ds.length ≤ 6) && ds.all her
  | _ => false
noncomputable def Short2 (d : D) : Prop := ∀ ds, d = .tup ds → ∀ e ∈ ds, ∀ es, e = .tup es → ∀ f ∈ es, Short f
theorem docket_ok {d : D} (h : Has d) (hs : Short2 d) (S : Sto) : m_is_docket [d] S = .ok (.bl (dck d)) S := by
  obtain ⟨p, hp⟩ := h
  refine wp_eq ?_
  unfold m_is_docket
  simp [isa_tup hp]
  cases d
  case tup ds =>
    have hh := has_tup ⟨p, hp⟩
    have e1 : lcL [] (Tgt.nm 1) [1] tYesM (mCall m_is_hearing (aCons (mVar 1) aNil)) ds [some (D.tup ds), none] S = .ok (ds.map fun d => D.bl (her d)) S := lc_map (fun d => .bl (her d)) ds fun d hd => ⟨_, rfl, by simp [wipeT, hearing_ok (hh d hd) (hs ds rfl d hd)]⟩
    by_cases q1 : 1 ≤ ds.length
    · have z1 : (1 : Int) ≤ ds.length := by omega
      by_cases q2 : ds.length ≤ 6
      · have z2 : (ds.length : Int) ≤ 6 := by omega
        have z3 : ds.length ≤ sizeLine := by rw [hz]; omega
        simp [isTupD, z1, z2, z3, e1, all_map, dck, q1, q2]
      · have z2 : ¬ (ds.length : Int) ≤ 6 := by omega
        simp [isTupD, z1, z2, dck, q2]
    · have z1 : ¬ (1 : Int) ≤ ds.length := by omega
      simp [isTupD, z1, dck, q1]
  all_goals simp [isTupD, dck]
theorem pen_wp {c : Int} {S : Sto} {Q : D → Sto → Prop} (k : ∀ S', Pen S.length S' → Q (.loc S.length) S') : wpR (m_law_pen [.int c] S) Q := by
  unfold m_law_pen
  simp
  exact ⟨by decide, k _ ⟨_, _, by simp; exact ⟨rfl, rfl⟩⟩⟩
theorem cell_wp {cs : List Int} {n : Int} {S : Sto} (h0 : 0 ≤ n) {Q : D → Sto → Prop} (k : ∀ c : Int, Q (.int c) S) : wpR (m_law_cell [.scr (cs.map D.int), .int n] S) Q := by
  unfold m_law_cell
  simp
  refine ⟨fun h => ?_, fun _ => k 0⟩
  obtain ⟨d, h1, h2, _⟩ := atI_mem (ds := cs.map D.int) h0 (by simpa using h)
  obtain ⟨c, _, rfl⟩ := List.mem_map.mp h2
  exact ⟨_, h1, k c⟩
theorem insU_len {x : Int} : ∀ {l : List Int}, (insU x l).length ≤ l.length + 1
  | [] => by simp [insU]
  | y :: ys => by
    unfold insU
    split
    · simp
    · split
      · simp
      · have := insU_len (x := x) (l := ys); simp; omega
theorem sortSet_len : ∀ {l : List Int}, (sortSet l).length ≤ l.length
  | [] => Nat.le_refl _
  | x :: xs => by
    have h1 := insU_len (x := x) (l := sortSet xs)
    have h2 := sortSet_len (l := xs)
    simp only [sortSet, List.length_cons]
    omega

noncomputable def Prs (ps : List Int) : Prop := ps.length ≤ 3 ∧ ps.Pairwise (· < ·) ∧ ∀ i ∈ ps, 0 ≤ i ∧ i < 6
noncomputable def Hear (d : D) : Prop := ∃ (i j : Int) (ps : List Int), d = .tup [.int i, .int j, .tup (ps.map D.int)] ∧ 0 ≤ i ∧ i ≤ j ∧ j ≤ 60 ∧ j < i + 5 ∧ Prs ps
theorem ints_ex : ∀ {ys : List D}, (∀ d ∈ ys, ∃ i : Int, d = .int i ∧ 0 ≤ i ∧ i < 6) → ∃ ns : List Int, intsOf ys = some ns ∧ ns.length = ys.length ∧ ∀ z ∈ ns, 0 ≤ z ∧ z < 6
  | [], _ => ⟨[], rfl, rfl, by simp⟩
  | y :: ys, h => by
    obtain ⟨i, rfl, h1, h2⟩ := h y (by simp)
    obtain ⟨ns, e1, e2, e3⟩ := ints_ex (ys := ys) fun d hd => h d (by simp [hd])
    refine ⟨i :: ns, by simp [intsOf, e1], by simp [e2], fun z hz => ?_⟩
    rcases List.mem_cons.mp hz with rfl | hz
    · exact ⟨h1, h2⟩
    · exact e3 z hz
theorem persons_wp {l : Nat} {S : Sto} {Q : D → Sto → Prop} (hp : Pen l S) (k : ∀ ps S', Prs ps → Pen l S' → Fr l S S' → Q (.tup (ps.map D.int)) S') : wpR (m_law_persons [.loc l] S) Q := by
  unfold m_law_persons
  simp [hz]
  refine draw_wpL hp (by omega) (by omega) fun r1 S1 a1 b1 p1 f1 => ?_
  simp [range1]
  refine ⟨_, ⟨by omega, rfl⟩, (wpR_guard _ _ _).mpr ⟨by simp; omega, ?_⟩⟩
  rw [wpR_bind]
  refine wpR_imp (lc_wp (I := fun S' => Pen l S' ∧ Fr l S S') (P := fun d => ∃ i : Int, d = .int i ∧ 0 ≤ i ∧ i < 6) _ ?_ S1 ⟨p1, f1⟩) fun ys S2 ⟨⟨p2, f2⟩, hl, hy⟩ => ?_
  · rintro d hd S3 ⟨p3, f3⟩
    refine ⟨_, rfl, ?_⟩
    simp [tYesM, wipeT, hz]
    refine draw_wpL p3 (by omega) (by omega) fun r4 S4 a4 b4 p4 f4 => ?_
    simp only [x_ixAL, wpR_ofO]
    refine pick (fun d => ∃ w : Int, d = .int w ∧ 0 < w ∧ w ≤ 6) (by simp) a4 (by simpa using b4) ?_
    rintro _ ⟨w, rfl, w0, w1⟩
    exact draw_wpL p4 (by omega) (by omega) fun r5 S5 a5 b5 p5 f5 => ⟨⟨p5, (f3.trans f4).trans f5⟩, r5, rfl, a5, by omega⟩
  · obtain ⟨ns, e1, e2, e3⟩ := ints_ex hy
    have hl' : ys.length ≤ 3 := by simp at hl; omega
    have h64 : ns.length < 64 := by omega
    simp [dSortSet, seqR, listR, e1, h64]
    refine k _ _ ⟨?_, sortSet_up, ?_⟩ p2 f2
    · have := sortSet_len (l := ns); omega
    · intro z hz'
      exact e3 z (sortSet_mem.mp hz')
noncomputable def DInv (l kk : Nat) (many wide base close : Int) (es : List D) (τ : Tau) (S' : Sto) : Prop := ∃ (x y : Option D) (rows : List D), τ = [some (.loc l), some (.int many), some (.int wide), x, some (.int base), some (.int close), some (.loc kk), y] ∧ Pen l S' ∧ S'[kk]? = some (.lst rows) ∧ (∀ d ∈ rows, Hear d) ∧ rows.length + es.length = many.toNat
theorem docket_wp {l : Nat} {S : Sto} {many wide : Int} {Q : D → Sto → Prop} (hp : Pen l S) (m0 : 1 ≤ many) (m1 : many ≤ 6) (w0 : 0 < wide) (w1 : wide ≤ 5) (k : ∀ rows S', rows.length = many.toNat → (∀ d ∈ rows, Hear d) → Pen l S' → Q (.tup rows) S') : wpR (m_law_docket [.loc l, .int many, .int wide] S) Q := by
  unfold m_law_docket
  simp only [x_run, List.length_cons, List.length_nil, true_and, wpS_seq]
  simp [hz]
  refine draw_wpL hp (by omega) (by omega) fun base S1 a1 b1 p1 f1 => ?_
  simp
  refine draw_wpL p1 (by omega) (by omega) fun r2 S2 a2 b2 p2 f2 => ?_
  simp [setAll, range1]
  refine ⟨_, ⟨by omega, rfl⟩, ?_⟩
  have hk : S2.length ≠ l := fun e => by have := p2.lt; omega
  have hs : (S2 ++ [C.lst []])[S2.length]? = some (.lst []) := by simp
  have p3 : Pen l (S2 ++ [C.lst []]) := p2.push
  generalize S2 ++ [C.lst []] = S3 at hs p3
  generalize S2.length = kk at hk hs
  refine for_wp (DInv l kk many wide base (1 + r2)) ?_ ?_ _ _ _ ⟨_, _, [], rfl, p3, hs, by simp, by simp⟩
  · rintro d es τ S5 ⟨x, y, rows, rfl, p5, hs5, hr, hn⟩
    refine ⟨_, rfl, ?_⟩
    simp
    refine draw_wpL p5 (by omega) (by omega) fun r6 S6 a6 b6 p6 f6 => ?_
    have hs6 : S6[kk]? = some (.lst rows) := by rw [f6.eq _ hk]; exact hs5
    simp [isTy, hs6]
    refine draw_wpL p6 (by omega) (by omega) fun r7 S7 a7 b7 p7 f7 => ?_
    have hs7 : S7[kk]? = some (.lst rows) := by rw [f7.eq _ hk]; exact hs6
    simp
    refine persons_wp p7 fun ps S8 hps p8 f8 => ?_
    have hs8 : S8[kk]? = some (.lst rows) := by rw [f8.eq _ hk]; exact hs7
    have hl8 := (List.getElem?_eq_some_iff.mp hs8).1
    have hn' : rows.length < 16777216 := by simp at hn; omega
    simp [hz, dAppend, hs8, hn']
    refine ⟨_, _, _, rfl, ?_, List.getElem?_set_self hl8, ?_, by simp at hn ⊢; omega⟩
    · obtain ⟨c, d, e⟩ := p8
      exact ⟨c, d, by rw [List.getElem?_set_ne hk]; exact e⟩
    · intro d hd
      rcases List.mem_append.mp hd with hd | hd
      · exact hr d hd
      · rw [List.mem_singleton.mp hd]
        refine ⟨_, _, ps, rfl, by omega, ?_, ?_, ?_, hps⟩ <;> split <;> omega
  · rintro τ S5 ⟨x, y, rows, rfl, p5, hs5, hr, hn⟩
    simp [dTuple, listR, hs5]
    simp at hn
    exact k rows _ hn hr p5
end Lk73

namespace Lk73
open PySem L2 Z
open Hall (cnt)
theorem lc_fm {g : Tgt} {vs : List Nat} {tm : MT} {e : ME} {τ : Tau} {S : Sto} (t : D → Bool) (f : D → D) : ∀ (ds : List D), (∀ d ∈ ds, ∃ τ1, bindT g d (wipeT τ vs) = some τ1 ∧ tm τ1 S = .ok (t d) S ∧ e τ1 S = .ok (f d) S) → lcL [] g vs tm e ds τ S = .ok ((ds.filter t).map f) S
  | [], _ => by
    unfold lcL
    rw [keepB_nil, if_pos rfl]
    rfl
  | d :: ds, step => by
    unfold lcL
    rw [keepB_nil, if_pos rfl]
    obtain ⟨τ1, e1, w1, w2⟩ := step d (by simp)
    have rest := lc_fm t f ds (fun d hd => step d (by simp [hd]))
    rw [e1]
    show (noEx (tm τ1 S)).bind _ = _
    rw [w1, List.filter_cons]
    cases q : t d
    · simp [rest]
    · simp [w2, rest]
noncomputable def spn : D → Hall.Sp
  | .tup [.int i, .int j, _] => (i, j)
  | _ => (0, 0)
noncomputable def tst (f l : Int) : D → Bool
  | .tup [_, d] => Hall.inB f l (spn d)
  | _ => false
noncomputable def idx : D → Int
  | .tup [.int k, _] => k
  | _ => 0
noncomputable def insI (rows : List D) (f l : Int) : List Int := ((enumFrom 0 rows).filter (tst f l)).map idx
theorem enum_mem : ∀ {n : Nat} {ds : List D} {x : D}, x ∈ enumFrom n ds → ∃ (k : Nat) (d : D), x = .tup [.int (k : Int), d] ∧ d ∈ ds ∧ n ≤ k ∧ k < n + ds.length
  | n, [], x, h => by simp [enumFrom] at h
  | n, d :: ds, x, h => by
    simp only [enumFrom] at h
    rcases List.mem_cons.mp h with rfl | h
    · exact ⟨n, d, rfl, by simp, Nat.le_refl _, by simp⟩
    · obtain ⟨k, e, h1, h2, h3, h4⟩ := enum_mem h
      exact ⟨k, e, h1, by simp [h2], by omega, by simp; omega⟩
theorem ins_cnt {rows : List D} {f l : Int} : (insI rows f l).length = cnt (rows.map spn) f l := by
  unfold insI cnt
  rw [List.length_map]
  generalize 0 = n
  induction rows generalizing n with
  | nil => rfl
  | cons d r ih =>
    simp only [enumFrom, List.map_cons, List.filter_cons]
    have := ih (n + 1)
    show (if Hall.inB f l (spn d) = true then _ else _ : List D).length = _
    by_cases q : Hall.inB f l (spn d) = true <;> simp [q, this]
theorem hear_at {d : D} (h : Hear d) : ∃ i j c, d = .tup [.int i, .int j, c] ∧ spn d = (i, j) := by
  obtain ⟨i, j, ps, rfl, _⟩ := h
  exact ⟨i, j, _, rfl, rfl⟩
theorem within_in {rows : List D} (hr : ∀ d ∈ rows, Hear d) (hl : rows.length ≤ 6) (f l : Int) (S : Sto) : m_within [.tup rows, .int f, .int l] S = .ok (.tup ((insI rows f l).map D.int)) S := by
  refine wp_eq ?_
  unfold m_within
  have e : lcL [] (.tp [3, 4]) [3, 4] (mAnd (mB (mBin dGe (mBin dIxA (mVar 4) (mC (.int 0))) (mVar 1))) (mB (mBin dLe (mBin dIxA (mVar 4) (mC (.int 1))) (mVar 2)))) (mVar 3) (enumFrom 0 rows) [some (.tup rows), some (.int f), some (.int l), none, none] S = .ok (((enumFrom 0 rows).filter (tst f l)).map fun x => .int (idx x)) S := lc_fm (tst f l) (fun x => .int (idx x)) _ fun x hx => by
    obtain ⟨k, d, rfl, hd, _⟩ := enum_mem hx
    obtain ⟨i, j, c, rfl, es⟩ := hear_at (hr d hd)
    refine ⟨_, rfl, ?_, ?_⟩
    · refine wp_eq ?_
      simp [at0, at1, tst, es, Hall.inB, wipeT]
      by_cases q : f ≤ i <;> simp [q] <;> omega
    · simp [idx, wipeT]
  have hz1 : (enumFrom 0 rows).length ≤ sizeLine := by rw [enumFrom_len, hz]; omega
  have hen : ∀ S, enumA [.tup rows] S = some ⟨enumFrom 0 rows, []⟩ := fun _ => rfl
  simp [hen, hz1, e, insI]
noncomputable def fcI (rows : List D) (f : Int) (ls : List D) : Option D := ls.findSome? fun x => match x with
  | .int l => if l - f + 1 < (insI rows f l).length then some (.tup [.int f, .int l, .tup ((insI rows f l).map D.int)]) else none
  | _ => none
noncomputable def r2 (f : Int) : List D := (List.range (61 - f).toNat).map fun (k : Nat) => .int (f + (k : Int))
noncomputable def fcO (rows : List D) (fs : List D) : Option D := fs.findSome? fun x => match x with
  | .int f => fcI rows f (r2 f)
  | _ => none
noncomputable def r1 : List D := (List.range 61).map fun (k : Nat) => .int (0 + (k : Int))
noncomputable def fc (rows : List D) : D := (fcO rows r1).getD .non
theorem fcO_cons {rows es : List D} {f : Int} : fcO rows (.int f :: es) = match fcI rows f (r2 f) with | some x => some x | none => fcO rows es := by
  unfold fcO
  rw [List.findSome?_cons]
  dsimp only
  cases fcI rows f (r2 f) <;> rfl
theorem fcI_cons {rows ls : List D} {f l : Int} : fcI rows f (.int l :: ls) = match (if l - f + 1 < (insI rows f l).length then some (D.tup [.int f, .int l, .tup ((insI rows f l).map D.int)]) else none) with | some x => some x | none => fcI rows f ls := by
  unfold fcI
  rw [List.findSome?_cons]
  dsimp only
  by_cases h : l - f + 1 < (insI rows f l).length <;> simp only [h, if_true, if_false]
theorem range61 (S : Sto) : range1 [.int 61] S = some ⟨r1, []⟩ := by
  show (if -(2 ^ 62) ≤ (61 : Int) ∧ (61 : Int) < 2 ^ 62 then some _ else none) = _
  rw [if_pos (by decide)]
  unfold r1
  rw [show Int.toNat 61 = 61 from rfl]
theorem r1_mem {d : D} (h : d ∈ r1) : ∃ k : Int, d = .int k ∧ 0 ≤ k ∧ k < 61 := by
  unfold r1 at h
  obtain ⟨k, hk, rfl⟩ := List.mem_map.mp h
  have := List.mem_range.mp hk
  exact ⟨(k : Int), by rw [Int.zero_add], by omega, by omega⟩
theorem range2_pos {i j : Int} {S : Sto} (h : -(2 ^ 62) ≤ i ∧ i < 2 ^ 62 ∧ -(2 ^ 62) ≤ j ∧ j < 2 ^ 62) : range2 [.int i, .int j] S = some ⟨(List.range (j - i).toNat).map fun (k : Nat) => .int (i + (k : Int)), []⟩ := if_pos h
theorem range2_61 {f : Int} (h : 0 ≤ f ∧ f < 61) (S : Sto) : range2 [.int f, .int 61] S = some ⟨r2 f, []⟩ := by
  exact range2_pos ⟨by omega, by omega, by omega, by omega⟩
theorem fcO_nil {rows : List D} : fcO rows [] = none := rfl
theorem fc_some {rows : List D} {x : D} (h : fcO rows r1 = some x) : x = fc rows := by
  unfold fc
  rw [h]
  rfl
theorem fc_none {rows : List D} (h : fcO rows r1 = none) : D.non = fc rows := by
  unfold fc
  rw [h]
  rfl
noncomputable def IInv (rows : List D) (f : Int) (r : Option D) (S : Sto) (P : Tau → Prop) (ls : List D) (τ : Tau) (S' : Sto) : Prop := S' = S ∧ (∀ d ∈ ls, ∃ l : Int, d = .int l) ∧ P τ ∧ fcI rows f ls = r
noncomputable def OInv (rows : List D) (r : Option D) (S : Sto) (P : Tau → Prop) (es : List D) (τ : Tau) (S' : Sto) : Prop := S' = S ∧ (∀ d ∈ es, ∃ k : Int, d = .int k ∧ 0 ≤ k ∧ k < 61) ∧ P τ ∧ fcO rows es = r
theorem fcI_some {rows ls : List D} {f l : Int} {r : Option D} (h : fcI rows f (.int l :: ls) = r) (g : l - f + 1 < (insI rows f l).length) : r = some (.tup [.int f, .int l, .tup ((insI rows f l).map D.int)]) := by
  rw [fcI_cons, if_pos g] at h
  exact h.symm
theorem fcI_none {rows ls : List D} {f l : Int} {r : Option D} (h : fcI rows f (.int l :: ls) = r) (g : ¬ l - f + 1 < (insI rows f l).length) : fcI rows f ls = r := by
  rw [fcI_cons, if_neg g] at h
  exact h
theorem fcO_some {rows es : List D} {f : Int} {r : Option D} {x : D} (h : fcO rows (.int f :: es) = r) (g : fcI rows f (r2 f) = some x) : r = some x := by
  rw [fcO_cons, g] at h
  exact h.symm
theorem fcO_none {rows es : List D} {f : Int} {r : Option D} (h : fcO rows (.int f :: es) = r) (g : fcI rows f (r2 f) = none) : fcO rows es = r := by
  rw [fcO_cons, g] at h
  exact h
theorem r2_mem {f : Int} {d : D} (h : d ∈ r2 f) : ∃ l : Int, d = .int l := by
  unfold r2 at h
  obtain ⟨k, _, rfl⟩ := List.mem_map.mp h
  exact ⟨_, rfl⟩
theorem least_in {rows : List D} (hr : ∀ d ∈ rows, Hear d) (hl : rows.length ≤ 6) (S : Sto) : m_least_crowd [.tup rows] S = .ok (fc rows) S := by
  refine wp_eq ?_
  unfold m_least_crowd
  simp only [x_run, List.length_cons, List.length_nil, true_and, wpS_seq]
  simp [range61]
  have hm : ∀ d ∈ r1, ∃ k : Int, d = .int k ∧ 0 ≤ k ∧ k < 61 := fun d hd => r1_mem hd
  have hfs : ∀ x, fcO rows r1 = some x → x = fc rows := fun x h => fc_some h
  have hfn : fcO rows r1 = none → D.non = fc rows := fc_none
  generalize r1 = R1 at hm hfs hfn ⊢
  refine for_wp (OInv rows (fcO rows R1) S fun τ => ∃ a b c : Option D, τ = [some (.tup rows), a, b, c]) ?_ ?_ _ _ _ ⟨rfl, hm, ⟨_, _, _, rfl⟩, rfl⟩
  · rintro d es τ S' ⟨e1, hd, ⟨a, b, c, e2⟩, hf⟩
    subst e1; subst e2
    obtain ⟨f, e3, hf61⟩ := hd d (by simp)
    subst e3
    refine ⟨[some (.tup rows), some (.int f), b, c], rfl, ?_⟩
    simp only [x_for, wpS_lift, x_iArgs, wpR_bind, x_aCons, x_aNil, x_var, x_c, List.getElem?_cons_succ, List.getElem?_cons_zero, wpR_ok, R.bind_ok, wpR_ofO, range2_61 hf61]
    refine ⟨_, rfl, ?_⟩
    refine for_wp (IInv rows f (fcI rows f (r2 f)) S' fun τ => ∃ b c : Option D, τ = [some (.tup rows), some (.int f), b, c]) ?_ ?_ _ _ _ ⟨rfl, fun d hd => r2_mem hd, ⟨_, _, rfl⟩, rfl⟩
    · rintro d ls τ S'' ⟨e1, hd2, ⟨b, c, e2⟩, hi⟩
      subst e1; subst e2
      obtain ⟨l, e3⟩ := hd2 d (by simp)
      subst e3
      refine ⟨_, rfl, ?_⟩
      simp [within_in hr hl, hz]
      refine ⟨fun g => ?_, fun g => ⟨rfl, fun d hd => hd2 d (by simp [hd]), ⟨_, _, rfl⟩, fcI_none hi (by omega)⟩⟩
      exact hfs _ (fcO_some hf (fcI_some hi g))
    · rintro τ S'' ⟨e1, _, ⟨b, c, e2⟩, hi⟩
      subst e1; subst e2
      exact ⟨rfl, fun d hd' => hd d (by simp [hd']), ⟨_, _, _, rfl⟩, fcO_none hf hi.symm⟩
  · rintro τ S' ⟨e1, _, ⟨a, b, c, e2⟩, hf⟩
    subst e1; subst e2
    simp only [x_ret, x_c, wpS_lift, wpR_ok, wpS_rt]
    exact ⟨hfn (hf.symm.trans fcO_nil), trivial⟩
theorem fc_is (rows : List D) : (fc rows = .non ∧ ∀ f l : Int, 0 ≤ f → f ≤ l → l ≤ 60 → ((insI rows f l).length : Int) ≤ l - f + 1) ∨ ∃ f l : Int, 0 ≤ f ∧ f ≤ l ∧ l ≤ 60 ∧ l - f + 1 < (insI rows f l).length ∧ fc rows = .tup [.int f, .int l, .tup ((insI rows f l).map D.int)] := by
  unfold fc
  cases q : fcO rows r1 with
  | none =>
    refine .inl ⟨rfl, fun f l h0 h1 h2 => ?_⟩
    unfold fcO at q
    rw [List.findSome?_eq_none_iff] at q
    have q1 := q (.int f) (List.mem_map.mpr ⟨f.toNat, List.mem_range.mpr (by omega), by congr 1; omega⟩)
    have q2 : fcI rows f (r2 f) = none := q1
    unfold fcI at q2
    rw [List.findSome?_eq_none_iff] at q2
    have q3 := q2 (.int l) (List.mem_map.mpr ⟨(l - f).toNat, List.mem_range.mpr (by omega), by congr 1; omega⟩)
    dsimp only at q3
    by_cases g : l - f + 1 < (insI rows f l).length
    · rw [if_pos g] at q3; cases q3
    · omega
  | some d =>
    refine .inr ?_
    unfold fcO at q
    obtain ⟨x, hx, e⟩ := List.exists_of_findSome?_eq_some q
    obtain ⟨k, hk, rfl⟩ := List.mem_map.mp hx
    have hk' := List.mem_range.mp hk
    dsimp only at e
    unfold fcI at e
    obtain ⟨y, hy, e2⟩ := List.exists_of_findSome?_eq_some e
    obtain ⟨j, hj, rfl⟩ := List.mem_map.mp hy
    have hj' := List.mem_range.mp hj
    dsimp only at e2
    split at e2
    · rename_i g
      cases e2
      exact ⟨_, _, by omega, by omega, by omega, g, rfl⟩
    · cases e2
end Lk73

namespace Lk73
open PySem L2 Z
open Hall (cnt)
theorem gi {k : Nat} {i : Int} (h0 : -1000 < i) (h1 : i < 1000) : Gd k (.int i) = true := Gd_int (by omega) (by omega)
theorem tri {k : Nat} {a b c : D} (ha : Gd k a = true) (hb : Gd k b = true) (hc : Gd k c = true) : Gd (k + 1) (.tup [a, b, c]) = true := by
  refine Gd_tup (by simp) fun d hd => ?_
  simp only [List.mem_cons, List.not_mem_nil, or_false] at hd
  rcases hd with rfl | rfl | rfl <;> assumption
theorem Gints {ns : List Int} (hl : ns.length ≤ 16) (h : ∀ z ∈ ns, -1000 < z ∧ z < 1000) : Gd 1 (.tup (ns.map D.int)) = true := Gd_tup (by simpa using hl) fun d hd => by
  obtain ⟨z, hz', rfl⟩ := List.mem_map.mp hd
  exact gi (h z hz').1 (h z hz').2
theorem num_ok {i lo hi : Int} (h0 : lo ≤ i) (h1 : i ≤ hi) : num (.int i) lo hi = true := by simp [num, h0, h1]
theorem Hear.her {d : D} (h : Hear d) : her d = true := by
  obtain ⟨i, j, ps, rfl, i0, ij, j60, w, hp⟩ := h
  have e : prs (.tup (ps.map D.int)) = true := by
    have e1 : (ps.map D.int).all (fun d => num d 0 5) = true := List.all_eq_true.mpr fun d hd => by
      obtain ⟨z, hz', rfl⟩ := List.mem_map.mp hd
      have := hp.2.2 z hz'
      exact num_ok (by omega) (by omega)
    have e2 : (ps.map D.int).map iv = ps := by rw [List.map_map]; exact List.map_id _
    simp only [prs, e1, e2, Bool.true_and]
    exact decide_eq_true hp.2.1
  have w9 : j ≤ i + 9 := by omega
  simp only [Lk73.her, e, num_ok i0 (show i ≤ 60 by omega), num_ok (show 0 ≤ j by omega) j60, iv, ij, w9, decide_true, Bool.and_self]
theorem spn_ok {rows : List D} (hr : ∀ d ∈ rows, Hear d) : ∀ h ∈ rows.map spn, 0 ≤ h.1 ∧ h.1 ≤ h.2 ∧ h.2 ≤ 60 := fun h hh => by
  obtain ⟨d, hd, rfl⟩ := List.mem_map.mp hh
  obtain ⟨i, j, ps, rfl, i0, ij, j60, w, hp⟩ := hr d hd
  exact ⟨i0, ij, j60⟩
theorem fc_ords {rows : List D} (hr : ∀ d ∈ rows, Hear d) : Z.isNon (fc rows) = some (decide (Hall.ords (rows.map spn) ≠ [])) := by
  have c := Hall.crowd_iff (spn_ok hr)
  rcases fc_is rows with ⟨e, h⟩ | ⟨f, l, f0, fl, l60, h, e⟩
  · rw [e]
    have : Hall.ords (rows.map spn) ≠ [] := c.mp fun f l h0 h1 h2 => by rw [← ins_cnt]; exact h f l h0 h1 h2
    simp [Z.isNon, this]
  · rw [e]
    have : ¬ Hall.ords (rows.map spn) ≠ [] := fun q => by
      have := c.mpr q f l f0 fl l60
      rw [← ins_cnt] at this
      omega
    simp only [Z.isNon, Option.some.injEq]
    exact (decide_eq_false this).symm
theorem Hear.gd {d : D} (h : Hear d) : Gd 2 d = true := by
  obtain ⟨i, j, ps, rfl, h1, h2, h3, h4, hp⟩ := h
  exact tri (gi (by omega) (by omega)) (gi (by omega) (by omega)) (Gints (by have := hp.1; omega) fun z hz' => by have := hp.2.2 z hz'; omega)
theorem Gd_short {k : Nat} {d : D} (h : Gd k d = true) : Short d := by
  intro ds e
  subst e
  cases k with
  | zero => simp [Gd] at h
  | succ k =>
    simp only [Gd, Bool.and_eq_true, decide_eq_true_eq] at h
    exact h.1
theorem Gd_in {k : Nat} {ds : List D} {d : D} (h : Gd (k + 1) (.tup ds) = true) (hd : d ∈ ds) : Gd k d = true := by
  simp only [Gd, Bool.and_eq_true, List.all_eq_true] at h
  exact h.2 d hd
theorem GD_short2 {d : D} (h : GD d) : Short2 d := by
  intro ds e d2 h2 es e2 d3 h3
  subst e; subst e2
  rcases h with h | h
  · exact Gd_short (Gd_in (Gd_in h h2) h3)
  · cases h
theorem need_wp {rows : List D} (hk : dck (.tup rows) = true) (h : Has (.tup rows)) (hs : Short2 (.tup rows)) (S : Sto) : m_need_docket [.tup rows] S = .ok .non S := by
  refine wp_eq ?_
  unfold m_need_docket
  simp [docket_ok h hs, hk]
theorem for_wpK {ks : List (Nat × C)} {g : Tgt} {body : MS} {N : Tau → Sto → Prop} {T : D → Sto → Prop} (Inv : List D → Tau → Sto → Prop) (hk : ∀ es τ S, Inv es τ S → keepOk ks S) (step : ∀ d ds τ S, Inv (d :: ds) τ S → ∃ τ1, bindT g d τ = some τ1 ∧ wpS (body τ1 S) (fun τ2 S2 => Inv ds τ2 S2) T)
    (fin : ∀ τ S, Inv [] τ S → N τ S) : ∀ ds τ S, Inv ds τ S → wpS (forL ks g body ds τ S) N T
  | [], τ, S, h => by
    unfold forL
    rw [if_pos (keepB_iff.mpr (hk _ _ _ h))]
    exact fin τ S h
  | d :: ds, τ, S, h => by
    unfold forL
    rw [if_pos (keepB_iff.mpr (hk _ _ _ h))]
    obtain ⟨τ1, e, w⟩ := step d ds τ S h
    rw [e]
    show wpS (match body τ1 S with | .nx τ2 S2 => forL ks g body ds τ2 S2 | .ct τ2 S2 => forL ks g body ds τ2 S2 | .bk τ2 S2 => .nx τ2 S2 | o => o) N T
    cases q : body τ1 S <;> rw [q] at w
    case nx τ2 S2 => exact for_wpK Inv hk step fin ds τ2 S2 w
    all_goals first | exact False.elim w | exact w
noncomputable abbrev zipD (rows ds : List D) : List D := List.zipWith (fun a b => D.tup [a, b]) rows ds
theorem zip_in {rows ds : List D} (hr : ∀ d ∈ rows, Hear d) (hd : ds.all (fun e => num e 0 60) = true) {x : D} (hx : x ∈ zipD rows ds) : ∃ (i j k : Int) (ps : List Int), x = .tup [.tup [.int i, .int j, .tup (ps.map D.int)], .int k] := by
  obtain ⟨a, b, rfl, ha, hb⟩ := zip_mem hx
  obtain ⟨i, j, ps, rfl, _⟩ := hr a ha
  obtain ⟨k, rfl, _⟩ := num_int (List.all_eq_true.mp hd b hb)
  exact ⟨i, j, k, ps, rfl⟩
noncomputable def has3 (p : Int) (x : D) : Bool := match x with
  | .tup [.tup [_, _, .tup ps], _] => (ps.map iv).contains p
  | _ => false
noncomputable def snd2 (x : D) : D := match x with
  | .tup [_, d] => d
  | _ => .non
noncomputable def daysOf (rows ds : List D) (p : Int) : List Int := (((zipD rows ds).filter (has3 p)).map snd2).map iv
noncomputable def spanOf : List Int → Int
  | [] => 0
  | x :: r => maxI x r - minI x r + 1
theorem map_iv (ns : List Int) : (ns.map D.int).map iv = ns := by rw [List.map_map]; exact List.map_id _
theorem days_ints {rows ds : List D} (hr : ∀ d ∈ rows, Hear d) (hd : ds.all (fun e => num e 0 60) = true) (p : Int) : ((zipD rows ds).filter (has3 p)).map snd2 = (daysOf rows ds p).map D.int := by
  unfold daysOf
  rw [List.map_map]
  conv => lhs; rw [← List.map_id (((zipD rows ds).filter (has3 p)).map snd2)]
  refine List.map_congr_left fun d hx => ?_
  obtain ⟨x, hx2, rfl⟩ := List.mem_map.mp hx
  obtain ⟨i, j, k, ps, rfl⟩ := zip_in hr hd (List.mem_filter.mp hx2).1
  rfl
theorem inP3 {z : Int} {r : List Int} {S : Sto} : inP (.int z) (.tup (r.map D.int)) S = some (r.contains z) := by
  have e : (r.map PyData.int).any (fun y => PyData.eqv y (.int z)) = r.contains z := by
    rw [Bool.eq_iff_iff, List.any_eq_true, List.contains_iff_mem]
    constructor
    · rintro ⟨y, hy, e⟩
      obtain ⟨a, ha, rfl⟩ := List.mem_map.mp hy
      have : a = z := by simpa [PyData.eqv] using e
      exact this ▸ ha
    · intro h
      exact ⟨.int z, List.mem_map.mpr ⟨z, h, rfl⟩, by simp [PyData.eqv]⟩
  have e1 : toPy (.tup (r.map D.int)) S = some (.tuple (r.map PyData.int)) := by simp [toPy, toPyD, toPy_ints]
  have e2 : toPy (.int z) S = some (.int z) := rfl
  have e3 : inB (.int z) (.tuple (r.map PyData.int)) = true := by simp [inB, PyData.plain, plain_ints, PyData.depth]
  have e4 : inPy (.int z) (.tuple (r.map PyData.int)) = r.contains z := e
  unfold inP
  simp only [dLook, e1, e2, e3, if_true, e4]
theorem in3 {z : Int} {r : List Int} {S : Sto} : dInA (.int z) (.tup (r.map D.int)) S = .ok (.bl (r.contains z)) S := by
  rw [x_inA, inP3]; rfl
theorem days_lc {rows ds : List D} (hr : ∀ d ∈ rows, Hear d) (hd : ds.all (fun e => num e 0 60) = true) {p : Int} {a b c : Option D} {S : Sto} :
    lcL [] (.tp [5, 6]) [5, 6] (mB (mBin dInA (mVar 3) (mBin dIxA (mVar 5) (mC (.int 2))))) (mVar 6) (zipD rows ds) [some (.tup rows), some (.tup ds), a, some (.int p), b, c, none] S = .ok ((daysOf rows ds p).map D.int) S := by
  rw [← days_ints hr hd]
  refine lc_fm (has3 p) snd2 _ fun x hx => ?_
  obtain ⟨i, j, k, ps, rfl⟩ := zip_in hr hd hx
  refine ⟨[some (.tup rows), some (.tup ds), a, some (.int p), b, some (.tup [.int i, .int j, .tup (ps.map D.int)]), some (.int k)], rfl, ?_, rfl⟩
  simp only [x_B, x_bin, x_var, x_c, x_ixAT, at2, List.getElem?_cons_succ, List.getElem?_cons_zero, R.bind_ok, ofO, in3, x_asB, has3, map_iv]
noncomputable def r6 : List Int := (List.range 6).map fun (k : Nat) => (k : Int)
noncomputable def keptI (rows ds : List D) : Int := (r6.map fun p => spanOf (daysOf rows ds p)).sum
theorem r6_items {S : Sto} : range1 [.int 6] S = some ⟨r6.map D.int, []⟩ := by
  simp [range1, r6]
theorem maxL_ok {x : Int} {r : List Int} {S : Sto} : dMaxL [.lst ((x :: r).map D.int)] S = .ok (.int (maxI x r)) S := by
  have : intsOf ((x :: r).map D.int) = some (x :: r) := intsOf_map _
  simp only [dMaxL, listR, this]
theorem minL_ok {x : Int} {r : List Int} {S : Sto} : dMinL [.lst ((x :: r).map D.int)] S = .ok (.int (minI x r)) S := by
  have : intsOf ((x :: r).map D.int) = some (x :: r) := intsOf_map _
  simp only [dMinL, listR, this]
noncomputable def KInv (rows ds : List D) (S0 : Sto) (es : List D) (τ : Tau) (S : Sto) : Prop := ∃ (t : Int) (ps : List Int) (a b : Option D), τ = [some (.tup rows), some (.tup ds), some (.int t), a, b, none, none] ∧ es = ps.map D.int ∧ t + (ps.map fun p => spanOf (daysOf rows ds p)).sum = keptI rows ds ∧ S = S0
theorem days_len {rows ds : List D} {p : Int} (h : ds.length ≤ 16) : (daysOf rows ds p).length ≤ 16 := by
  unfold daysOf
  rw [List.length_map, List.length_map]
  have := List.length_filter_le (has3 p) (zipD rows ds)
  have h2 : (zipD rows ds).length ≤ ds.length := by rw [List.length_zipWith]; omega
  omega
theorem kept_law {rows ds : List D} (hr : ∀ d ∈ rows, Hear d) (hl : rows.length ≤ 6) (hd : ds.all (fun e => num e 0 60) = true) (hlen : ds.length ≤ 16) (S : Sto) : m_law_kept [.tup rows, .tup ds] S = .ok (.int (keptI rows ds)) S := by
  refine wp_eq ?_
  unfold m_law_kept
  have ezip : ∀ S, zipA [D.tup rows, D.tup ds] S = some ⟨zipD rows ds, []⟩ := fun _ => rfl
  have hl3 : (zipD rows ds).length ≤ sizeLine := by rw [List.length_zipWith, hz]; omega
  simp [r6_items]
  refine for_wp (KInv rows ds S) ?_ ?_ _ _ _ ⟨0, r6, _, _, rfl, rfl, by simp [keptI], rfl⟩
  · rintro d es τ S1 ⟨t, ps, a, b, rfl, e, hs, rfl⟩
    cases ps with
    | nil => simp at e
    | cons p ps =>
      simp only [List.map_cons, List.cons.injEq] at e
      obtain ⟨rfl, rfl⟩ := e
      refine ⟨_, rfl, ?_⟩
      have hz3 : min rows.length ds.length ≤ sizeLine := by rw [hz]; omega
      have dl := days_len (rows := rows) (p := p) hlen
      simp only [List.map_cons, List.sum_cons] at hs
      cases q : daysOf rows ds p with
      | nil =>
        rw [q] at hs
        have e0 : dNe (.lst []) (.lst []) S1 = .ok (.bl false) S1 := rfl
        simp [ezip, hl3, days_lc hr hd, q, hz3, e0]
        exact ⟨t, ps, _, _, rfl, rfl, by simpa [spanOf] using hs, rfl⟩
      | cons x r =>
        rw [q] at hs
        have em := maxL_ok (x := x) (r := r) (S := S1)
        have en := minL_ok (x := x) (r := r) (S := S1)
        have e0 : dNe (.lst ((x :: r).map D.int)) (.lst []) S1 = .ok (.bl true) S1 := by
          have e1 : toPy (.lst ((x :: r).map D.int)) S1 = some (.list ((x :: r).map PyData.int)) := by
            have := toPy_ints (x :: r)
            simp only [toPy, toPyD, this, Option.map_some]
          have e2 : toPy (.lst []) S1 = some (.list []) := rfl
          have e3 : plainB (.list ((x :: r).map PyData.int)) (.list []) = true := by
            have := plain_ints (x :: r)
            have := depth_ints (x :: r)
            simp only [plainB, PyData.plain, PyData.depth, PyData.plainAll, PyData.depthAll, *]; rfl
          simp only [dDat, e1, e2, e3, if_true]
          rfl
        rw [List.map_cons] at em en e0
        simp [ezip, hl3, days_lc hr hd, q, hz3, em, en, e0]
        exact ⟨_, ps, _, _, rfl, rfl, by rw [show spanOf (x :: r) = maxI x r - minI x r + 1 from rfl] at hs; omega, rfl⟩
  · rintro τ S1 ⟨t, ps, a, b, rfl, e, hs, rfl⟩
    have : ps = [] := by cases ps with | nil => rfl | cons _ _ => simp at e
    subst this
    simp at hs
    simp [hs]
end Lk73

namespace Lk73
open PySem L2 Z
open Hall (cnt)
open Srch (Hr sel has spanLB mx mn bound srch Best beats)
noncomputable def hrD (h : Hr) : D := .tup [.int h.1, .int h.2.1, .tup (h.2.2.map D.int)]
noncomputable abbrev rowsD (hs : List Hr) : List D := hs.map hrD
theorem hear_hr : ∀ {rows : List D}, (∀ d ∈ rows, Hear d) → ∃ hs : List Hr, rows = rowsD hs
  | [], _ => ⟨[], rfl⟩
  | d :: r, h => by
    obtain ⟨i, j, ps, rfl, _⟩ := h d (by simp)
    obtain ⟨hs, rfl⟩ := hear_hr (rows := r) fun e he => h e (by simp [he])
    exact ⟨(i, j, ps) :: hs, rfl⟩
theorem sel_zip (p : Int) : ∀ (hs : List Hr) (x : List Int), ((zipD (rowsD hs) (x.map D.int)).filter (has3 p)).map snd2 = (sel p hs x).map D.int
  | [], x => by simp [sel]
  | h :: r, [] => by simp [sel]
  | h :: r, d :: ds => by
    have ih := sel_zip p r ds
    have e : has3 p (.tup [hrD h, .int d]) = has p h := by simp only [has3, hrD, map_iv, has]
    simp only [rowsD, List.map_cons, List.zipWith_cons_cons, List.filter_cons, e, sel] at ih ⊢
    split
    · simp only [List.map_cons, ih, snd2]
    · exact ih
theorem cut_drop {ds : List D} {n : Nat} (h : n ≤ ds.length) : cutD ds (some (n : Int)) none = ds.drop n := by
  unfold cutD
  have e1 : HT.sIx ds.length 0 (some (n : Int)) = min n ds.length := HT.sIx_nat _ _ n
  have e2 : HT.sIx ds.length ds.length none = ds.length := rfl
  rw [e1, e2, Nat.min_eq_left h]
  exact List.take_of_length_le (by simp)
theorem nil_eq {ds : List D} {ps : List PyData} {S : Sto} (h1 : toPyDs ds = some ps) (h2 : PyData.plainAll ps = true) (h3 : PyData.depthAll ps ≤ 10) : dEq (.lst ds) (.lst []) S = .ok (.bl (decide (ds = []))) S := by
  have e1 : toPy (.lst ds) S = some (.list ps) := by simp only [toPy, toPyD, h1, Option.map_some]
  have e2 : toPy (.lst []) S = some (.list []) := rfl
  have e3 : plainB (.list ps) (.list []) = true := by simp [plainB, PyData.plain, PyData.plainAll, h2, PyData.depth, PyData.depthAll]; omega
  have e4 : PyData.eqv (.list ps) (.list []) = decide (ds = []) := by
    cases ds with
    | nil => simp only [toPyDs, Option.some.injEq] at h1; subst h1; simp [PyData.eqv, PyData.eqvAll]
    | cons d r =>
      cases ps with
      | nil => simp only [toPyDs] at h1; split at h1 <;> cases h1
      | cons a b => simp [PyData.eqv, PyData.eqvAll]
  simp only [dDat, e1, e2, e3, if_true, e4]
theorem nil_ints (ns : List Int) (S : Sto) : dEq (.lst (ns.map D.int)) (.lst []) S = .ok (.bl (decide (ns = []))) S := by
  rw [nil_eq (toPy_ints ns) (plain_ints ns) (by rw [depth_ints]; omega)]
  simp
theorem py_rows : ∀ hs : List Hr, ∃ ps, toPyDs (rowsD hs) = some ps ∧ PyData.plainAll ps = true ∧ PyData.depthAll ps ≤ 2
  | [] => ⟨[], rfl, rfl, by simp [PyData.depthAll]⟩
  | h :: r => by
    obtain ⟨ps, h1, h2, h3⟩ := py_rows r
    refine ⟨.tuple [.int h.1, .int h.2.1, .tuple (h.2.2.map PyData.int)] :: ps, ?_, ?_, ?_⟩
    · simp only [rowsD] at h1
      simp [toPyDs, hrD, toPyD, toPy_ints, h1]
    · simp [PyData.plainAll, PyData.plain, plain_ints, h2]
    · simp only [PyData.depthAll, PyData.depth, depth_ints]; omega
theorem nil_rows (hs : List Hr) (S : Sto) : dEq (.lst (rowsD hs)) (.lst []) S = .ok (.bl (decide (hs = []))) S := by
  obtain ⟨ps, h1, h2, h3⟩ := py_rows hs
  rw [nil_eq h1 h2 (by omega)]
  simp
theorem mx_ok {L : List Int} {S : Sto} (h : L ≠ []) : dMaxL [.lst (L.map D.int)] S = .ok (.int (mx L)) S := by
  cases L with
  | nil => exact absurd rfl h
  | cons x r => exact maxL_ok
theorem mn_ok {L : List Int} {S : Sto} (h : L ≠ []) : dMinL [.lst (L.map D.int)] S = .ok (.int (mn L)) S := by
  cases L with
  | nil => exact absurd rfl h
  | cons x r => exact minL_ok
noncomputable def fst3 : D → D
  | .tup (d :: _) => d
  | d => d
noncomputable def snd3 : D → D
  | .tup (_ :: d :: _) => d
  | d => d
theorem span_ok {hs : List Hr} {days : List Int} {p : Int} (hl : hs.length ≤ 6) (hd : days.length ≤ hs.length) (S : Sto) : m_least_span [.tup (rowsD hs), .tup (days.map D.int), .int p] S = .ok (.int (spanLB (sel p hs days) ((hs.drop days.length).filter (has p)))) S := by
  refine wp_eq ?_
  unfold m_least_span
  have ezip : ∀ S, zipA [D.tup (rowsD hs), D.tup (days.map D.int)] S = some ⟨zipD (rowsD hs) (days.map D.int), []⟩ := fun _ => rfl
  have hl3 : (zipD (rowsD hs) (days.map D.int)).length ≤ sizeLine := by rw [List.length_zipWith, hz]; simp; omega
  have l1 : ∀ (a b c d : Option D), lcL [] (.tp [7, 8]) [7, 8] (mB (mBin dInA (mVar 2) (mBin dIxA (mVar 7) (mC (.int 2))))) (mVar 8) (zipD (rowsD hs) (days.map D.int)) [some (.tup (rowsD hs)), some (.tup (days.map D.int)), some (.int p), a, b, c, d, none, none] S = .ok ((sel p hs days).map D.int) S := fun a b c d => by
    rw [← sel_zip]
    refine lc_fm (has3 p) snd2 _ fun x hx => ?_
    obtain ⟨u, v, rfl, hu, hv⟩ := zip_mem hx
    obtain ⟨h, _, rfl⟩ := List.mem_map.mp hu
    obtain ⟨k, _, rfl⟩ := List.mem_map.mp hv
    refine ⟨[some (.tup (rowsD hs)), some (.tup (days.map D.int)), some (.int p), a, b, c, d, some (hrD h), some (.int k)], rfl, ?_, rfl⟩
    simp only [x_B, x_bin, x_var, x_c, hrD, x_ixAT, at2, List.getElem?_cons_succ, List.getElem?_cons_zero, R.bind_ok, ofO, in3, x_asB, has3, map_iv]
  have l2 : ∀ (a b c d : Option D), lcL [] (.nm 7) [7] (mB (mBin dInA (mVar 2) (mBin dIxA (mVar 7) (mC (.int 2))))) (mVar 7) (rowsD (hs.drop days.length)) [some (.tup (rowsD hs)), some (.tup (days.map D.int)), some (.int p), a, b, c, d, none, none] S = .ok (rowsD ((hs.drop days.length).filter (has p))) S := fun a b c d => by
    rw [lc_fm (fun x => has3 p (.tup [x, .non])) id _ fun x hx => ?_]
    · unfold rowsD
      rw [List.filter_map, List.map_id]
      have ef : ((fun x => has3 p (.tup [x, .non])) ∘ hrD) = has p := by
        funext h
        simp only [Function.comp, has3, hrD, map_iv, has]
      rw [ef]
    · obtain ⟨h, _, rfl⟩ := List.mem_map.mp hx
      refine ⟨[some (.tup (rowsD hs)), some (.tup (days.map D.int)), some (.int p), a, b, c, d, some (hrD h), none], rfl, ?_, rfl⟩
      simp only [x_B, x_bin, x_var, x_c, hrD, x_ixAT, at2, List.getElem?_cons_succ, List.getElem?_cons_zero, R.bind_ok, ofO, in3, x_asB, has3, map_iv]
  have hcut : cutD (rowsD hs) (some ((days.map D.int).length : Int)) none = rowsD (hs.drop days.length) := by
    rw [cut_drop (by simpa using hd)]; simp [rowsD]
  have hl4 : (rowsD (hs.drop days.length)).length ≤ sizeLine := by rw [hz]; simp; omega
  have hl5 : (rowsD hs).length ≤ sizeLine := by rw [hz]; simp; omega
  have hl6 : (days.map D.int).length ≤ sizeLine := by rw [hz]; simp; omega
  have gl : (sel p hs days).length ≤ 6 := by have := (Srch.sel_sub p hs days).length_le; omega
  have ll : ((hs.drop days.length).filter (has p)).length ≤ 6 := Nat.le_trans (List.length_filter_le _ _) (by simp; omega)
  generalize hg : sel p hs days = g at *
  generalize hm : (hs.drop days.length).filter (has p) = L at *
  generalize zipD (rowsD hs) (days.map D.int) = zs at *
  generalize rowsD (hs.drop days.length) = ws at *
  generalize rowsD hs = rs at *
  generalize days.map D.int = ds at *
  simp only [hz] at hl3 hl4 hl5 hl6
  have n1 := nil_ints g S
  have n2 := nil_rows L S
  have lz1 : ∀ (a b c d : Option D), lcL [] (.nm 7) [7] tYesM (mBin dIxA (mVar 7) (mC (.int 0))) (rowsD L) [some (.tup rs), some (.tup ds), some (.int p), a, b, c, d, none, none] S = .ok ((L.map fun h => h.1).map D.int) S := fun a b c d => by
    rw [lc_map fst3 (rowsD L) fun x hx => ?_]
    · simp [rowsD, hrD, fst3]
    · obtain ⟨h, _, rfl⟩ := List.mem_map.mp hx
      exact ⟨[some (.tup rs), some (.tup ds), some (.int p), a, b, c, d, some (hrD h), none], rfl, by simp [hrD, at0, fst3]⟩
  have lz2 : ∀ (a b c d : Option D), lcL [] (.nm 7) [7] tYesM (mBin dIxA (mVar 7) (mC (.int 1))) (rowsD L) [some (.tup rs), some (.tup ds), some (.int p), a, b, c, d, none, none] S = .ok ((L.map fun h => h.2.1).map D.int) S := fun a b c d => by
    rw [lc_map snd3 (rowsD L) fun x hx => ?_]
    · simp [rowsD, hrD, snd3]
    · obtain ⟨h, _, rfl⟩ := List.mem_map.mp hx
      exact ⟨[some (.tup rs), some (.tup ds), some (.int p), a, b, c, d, some (hrD h), none], rfl, by simp [hrD, at1, snd3]⟩
  have hs1 : spanLB g L = if g = [] ∧ L = [] then 0 else max (mx (g ++ L.map fun h => h.1) - mn (g ++ L.map fun h => h.2.1) + 1) ((g.length : Int) + L.length) := rfl
  have g0 : ∀ f : Hr → Int, (g = [] → L = [] → False) → g ++ L.map f ≠ [] := fun f h q => by
    obtain ⟨q1, q2⟩ := List.append_eq_nil_iff.mp q
    exact h q1 (List.map_eq_nil_iff.mp q2)
  have m1 : (g = [] → L = [] → False) → dMaxL [.lst (g.map D.int ++ (L.map fun h => h.1).map D.int)] S = .ok (.int (mx (g ++ L.map fun h => h.1))) S := fun h => by
    rw [← List.map_append]; exact mx_ok (g0 _ h)
  have m2 : (g = [] → L = [] → False) → dMinL [.lst (g.map D.int ++ (L.map fun h => h.2.1).map D.int)] S = .ok (.int (mn (g ++ L.map fun h => h.2.1))) S := fun h => by
    rw [← List.map_append]; exact mn_ok (g0 _ h)
  have rl : (rowsD L).length = L.length := by simp [rowsD]
  have g6 : g.length + L.length ≤ 16777216 := by omega
  have l7 : L.length ≤ 16777216 := by omega
  generalize rowsD L = ls at *
  have gm : (g.map D.int).length = g.length := by simp
  have lm1 : ((L.map fun h => h.1).map D.int).length = L.length := by simp
  have lm2 : ((L.map fun h => h.2.1).map D.int).length = L.length := by simp
  generalize (L.map fun h => h.1).map D.int = y1 at *
  generalize (L.map fun h => h.2.1).map D.int = y2 at *
  have gi : g.map D.int = [] ↔ g = [] := List.map_eq_nil_iff
  generalize g.map D.int = gs at *
  by_cases qq : g = [] ∧ L = []
  · rw [decide_eq_true qq.1] at n1
    rw [decide_eq_true qq.2] at n2
    rw [if_pos qq] at hs1
    rw [hs1]
    simp [ezip, hl3, hl4, hl5, hl6, hz, l1, hcut, l2, n1, n2]
  · have nn : g = [] → L = [] → False := fun a b => qq ⟨a, b⟩
    rw [if_neg qq] at hs1
    rw [hs1]
    have m1 := m1 nn
    have m2 := m2 nn
    generalize mx (g ++ L.map fun h => h.1) = u at *
    generalize mn (g ++ L.map fun h => h.2.1) = v at *
    by_cases q1 : g = []
    · have q2 := nn q1
      rw [decide_eq_true q1] at n1
      rw [decide_eq_false q2] at n2
      simp [ezip, hl3, hl4, hl5, hl6, hz, l1, hcut, l2, n1, n2, lz1, lz2, rl, l7, gm, lm1, lm2, g6, m1, m2]
      split <;> omega
    · rw [decide_eq_false q1] at n1
      simp [ezip, hl3, hl4, hl5, hl6, hz, l1, hcut, l2, n1, n2, lz1, lz2, rl, l7, gm, lm1, lm2, g6, m1, m2]
      split <;> omega
end Lk73

namespace Lk73
open PySem L2 Z
open Hall (cnt irng)
open Srch (Hr sel has spanLB mx mn bound srch Best beats)
theorem wpS_impQ {o : RS} {N N' : Tau → Sto → Prop} {T T' : D → Sto → Prop} (h : wpS o N T) (hn : ∀ τ S, N τ S → N' τ S) (ht : ∀ d S, T d S → T' d S) : wpS o N' T' := by
  cases o <;> first | exact hn _ _ h | exact ht _ _ h | exact h
theorem range2_irng {i j : Int} {S : Sto} (i0 : 0 ≤ i) (ij : i ≤ j) (j1 : j ≤ 60) : range2 [.int i, .int (j + 1)] S = some ⟨(Hall.irng i j).map D.int, []⟩ := by
  rw [range2_pos ⟨by omega, by omega, by omega, by omega⟩]
  unfold Hall.irng
  rw [List.map_map]
  rfl
theorem notin {z : Int} {r : List Int} {S : Sto} : dNotInA (.int z) (.tup (r.map D.int)) S = .ok (.bl (!r.contains z)) S := by
  unfold dNotInA
  rw [inP3]
  rfl
noncomputable def bD : Best → D
  | none => .non
  | some (m, o) => .tup [.int m, .tup (o.map D.int)]
noncomputable def cell (hs : List Hr) (b : Best) : C := .ins "Search" [("docket", .tup (rowsD hs)), ("best", bD b)]
theorem fld_docket {hs : List Hr} {b : Best} {S : Sto} {l : Nat} {τ : Tau} {i : Nat} (ht : τ[i]? = some (some (.loc l))) (h : S[l]? = some (cell hs b)) : mFld "Search" "docket" (mVar i) τ S = .ok (.tup (rowsD hs)) S := by
  have e : mVar i τ S = .ok (.loc l) S := by rw [x_var, ht]
  unfold mFld
  rw [e]
  show (match S[l]? with | some (.ins c' fs) => if c' = ("Search" : Str) then ofO (fs.lookup ("docket" : Str)) S else .bad | _ => .bad) = _
  rw [h]
  rfl
theorem fld_best {hs : List Hr} {b : Best} {S : Sto} {l : Nat} {τ : Tau} {i : Nat} (ht : τ[i]? = some (some (.loc l))) (h : S[l]? = some (cell hs b)) : mFld "Search" "best" (mVar i) τ S = .ok (bD b) S := by
  have e : mVar i τ S = .ok (.loc l) S := by rw [x_var, ht]
  unfold mFld
  rw [e]
  show (match S[l]? with | some (.ins c' fs) => if c' = ("Search" : Str) then ofO (fs.lookup ("best" : Str)) S else .bad | _ => .bad) = _
  rw [h]
  rfl
theorem fldA_best {hs : List Hr} {b b2 : Best} {S : Sto} {l : Nat} {τ : Tau} {v : ME} (hv : v τ S = .ok (bD b2) S) (ht : τ[0]? = some (some (.loc l))) (h : S[l]? = some (cell hs b)) : sFldA "Search" "best" (mVar 0) v τ S = .nx τ (S.set l (cell hs b2)) := by
  have e : mVar 0 τ S = .ok (.loc l) S := by rw [x_var, ht]
  unfold sFldA
  rw [hv]
  show liftS (mVar 0 τ S) τ _ = _
  rw [e]
  show (match S[l]? with | some (.ins c' fs) => if c' = ("Search" : Str) ∧ fs.length < 1000 then RS.nx τ (S.set l (.ins "Search" (putD "best" (bD b2) fs))) else .bad | _ => .bad) = _
  rw [h]
  rfl
theorem set_self {S : Sto} {l : Nat} {c : C} (h : S[l]? = some c) : S.set l c = S := by
  obtain ⟨hl, e⟩ := List.getElem?_eq_some_iff.mp h
  rw [← e]; exact List.set_getElem_self hl
noncomputable def Ok (h : Hr) : Prop := 0 ≤ h.1 ∧ h.1 ≤ h.2.1 ∧ h.2.1 ≤ 60
noncomputable def goInv (hs : List Hr) (r : List Hr) (days : List Int) (l : Nat) (S0 : Sto) (ps : D) (x4 x5 lb : D) (b1 : Best) : List D → Tau → Sto → Prop := fun ds τ S => ∃ (todo : List Int) (b : Best) (x3 : Option D), ds = todo.map D.int ∧ τ = [some (.loc l), some (.tup (days.map D.int)), some lb, x3, some x4, some x5, some ps, none] ∧ S = S0.set l (cell hs b) ∧ (todo.foldl (fun b d => if d ∈ days then b else srch hs r (days ++ [d]) b) b) = b1
noncomputable def goBody (n : Nat) : MS := sIf (mB (mBin dNotInA (mVar 3) (mVar 1))) (sExpr (mMethO "Search" "go_on" (m_Search_go_on n) (mVar 0) (aCons (mBin dAdd (mVar 1) (mTup (aCons (mVar 3) aNil))) aNil))) sNil
noncomputable def goRest (n : Nat) : MS := sSeq (sIf (mB (mBin dEq (mCall dLen (aCons (mVar 1) aNil)) (mCall dLen (aCons (mFld "Search" "docket" (mVar 0)) aNil)))) (sSeq (sFldA "Search" "best" (mVar 0) (mTup (aCons (mVar 2) (aCons (mVar 1) aNil))))
  sRetN) sNil)
  (sSeq (sTup [4, 5, 6] (mBin dIxA (mFld "Search" "docket" (mVar 0)) (mCall dLen (aCons (mVar 1) aNil))))
  (sFor (iArgs range2 (aCons (mVar 4) (aCons (mBin dAdd (mVar 5) (mC (.int 1))) aNil))) (.nm 3) (goBody n)))
theorem ret_n {τ : Tau} {S : Sto} {N : Tau → Sto → Prop} {T : D → Sto → Prop} : wpS (sRetN τ S) N T ↔ T .non S := Iff.rfl
theorem rest_ok {hs : List Hr} (hk : ∀ h ∈ hs, Ok h) (hl : hs.length ≤ 6) (l : Nat) (n : Nat) (rem pre : List Hr) (days : List Int) (b : Best) (S : Sto) (he : hs = pre ++ rem) (hp : pre.length = days.length) (hS : S[l]? = some (cell hs b)) (B : Int) (hB : bound hs rem days = B) (hb : beats b B = false)
    (ih : ∀ (h : Hr) (r : List Hr) (d : Int) (b : Best) (S : Sto), rem = h :: r → S[l]? = some (cell hs b) → m_Search_go_on n [.loc l, .tup ((days ++ [d]).map D.int)] S = .ok .non (S.set l (cell hs (srch hs r (days ++ [d]) b)))) :
    wpS (goRest n [some (.loc l), some (.tup (days.map D.int)), some (.int B), none, none, none, none, none] S) (fun _ S' => S' = S.set l (cell hs (srch hs rem days b))) (fun d S' => d = D.non ∧ S' = S.set l (cell hs (srch hs rem days b))) := by
  have t1 : ∀ (x2 x3 x4 x5 x6 x7 : Option D), mFld "Search" "docket" (mVar 0) [some (.loc l), some (.tup (days.map D.int)), x2, x3, x4, x5, x6, x7] S = .ok (.tup (rowsD hs)) S := fun _ _ _ _ _ _ => fld_docket rfl hS
  have hle : (days.length : Int) = (hs.length : Int) ↔ rem = [] := by
    have : hs.length = pre.length + rem.length := by rw [he, List.length_append]
    rw [← List.length_eq_zero_iff]; omega
  unfold goRest
  cases rem with
  | nil =>
    have e1 : (days.length : Int) = (hs.length : Int) := hle.mpr rfl
    have e2 : srch hs [] days b = some (B, days) := by unfold srch; rw [hB, if_neg (by rw [hb]; decide)]
    have e3 : ∀ (x3 x4 x5 x6 x7 : Option D), sFldA "Search" "best" (mVar 0) (mTup (aCons (mVar 2) (aCons (mVar 1) aNil))) [some (.loc l), some (.tup (days.map D.int)), some (.int B), x3, x4, x5, x6, x7] S = .nx [some (.loc l), some (.tup (days.map D.int)), some (.int B), x3, x4, x5, x6, x7] (S.set l (cell hs (some (B, days)))) := fun _ _ _ _ _ => fldA_best (b := b) (by simp [-x_fld, -x_fldA, -x_methO, guardR, hz, bD]) rfl hS
    rw [e2]
    generalize (sSeq (sTup [4, 5, 6] (mBin dIxA (mFld "Search" "docket" (mVar 0)) (mCall dLen (aCons (mVar 1) aNil)))) _) = rest
    simp [-x_fld, -x_fldA, -x_methO, t1, e1, e3, ret_n]
  | cons h r =>
    have e1 : ¬ (days.length : Int) = (hs.length : Int) := fun q => nomatch hle.mp q
    have e4 : dIxA (.tup (rowsD hs)) (.int days.length) S = .ok (hrD h) S := by
      rw [x_ixAT]
      have : atI (rowsD hs) (days.length : Int) = some (hrD h) := by
        unfold atI ixN
        rw [if_pos (by omega), if_pos (by rw [he]; simp [-x_fld, -x_fldA, -x_methO]; omega)]
        show (rowsD hs)[days.length]? = _
        rw [he, ← hp]
        simp [-x_fld, -x_fldA, -x_methO, rowsD]
      rw [this]; rfl
    have hif : ∀ st, sIf (mB (mBin dEq (mCall dLen (aCons (mVar 1) aNil)) (mCall dLen (aCons (mFld "Search" "docket" (mVar 0)) aNil)))) st sNil [some (.loc l), some (.tup (days.map D.int)), some (.int B), none, none, none, none, none] S = .nx [some (.loc l), some (.tup (days.map D.int)), some (.int B), none, none, none, none, none] S := fun st => by
      simp [-x_fld, -x_fldA, -x_methO, t1, liftS, e1]
    have hh := hk h (by rw [he]; simp [-x_fld, -x_fldA, -x_methO])
    have er : ∀ S, range2 [.int h.1, .int (h.2.1 + 1)] S = some ⟨(irng h.1 h.2.1).map D.int, []⟩ := fun S => range2_irng hh.1 hh.2.1 hh.2.2
    have bt : bindT (.tp [4, 5, 6]) (hrD h) [some (.loc l), some (.tup (days.map D.int)), some (.int B), none, none, none, none, none] = some [some (.loc l), some (.tup (days.map D.int)), some (.int B), none, some (.int h.1), some (.int h.2.1), some (.tup (h.2.2.map D.int)), none] := rfl
    have hd5 : days.length ≤ 6 := by have := congrArg List.length he; simp [-x_fld, -x_fldA, -x_methO] at this; omega
    rw [wpS_seq, hif]
    simp [-x_fld, -x_fldA, -x_methO, t1, e4, bt, er]
    have es : srch hs (h :: r) days b = (irng h.1 h.2.1).foldl (fun b d => if d ∈ days then b else srch hs r (days ++ [d]) b) b := by
      rw [Srch.srch.eq_2, hB, if_neg (by rw [hb]; decide)]
    rw [es]
    refine for_wp (goInv hs r days l S (.tup (h.2.2.map D.int)) (.int h.1) (.int h.2.1) (.int B) ((irng h.1 h.2.1).foldl (fun b d => if d ∈ days then b else srch hs r (days ++ [d]) b) b)) ?_ ?_ _ _ _ ⟨irng h.1 h.2.1, b, none, rfl, rfl, (set_self hS).symm, rfl⟩
    · rintro d ds τ S1 ⟨todo, b1, x3, e1, rfl, rfl, hf⟩
      cases todo with
      | nil => cases e1
      | cons z todo =>
        cases e1
        refine ⟨[some (.loc l), some (.tup (days.map D.int)), some (.int B), some (.int z), some (.int h.1), some (.int h.2.1), some (.tup (h.2.2.map D.int)), none], rfl, ?_⟩
        have hS1 : (S.set l (cell hs b1))[l]? = some (cell hs b1) := by
          rw [List.getElem?_set_self (List.getElem?_eq_some_iff.mp hS).1]
        have ih2 := ih h r z b1 _ rfl hS1
        rw [List.map_append] at ih2
        have hmeth : ∀ x2 x4 x5 x6 x7 : Option D, mMethO "Search" "go_on" (m_Search_go_on n) (mVar 0) (aCons (mBin dAdd (mVar 1) (mTup (aCons (mVar 3) aNil))) aNil) [some (.loc l), some (.tup (days.map D.int)), x2, some (.int z), x4, x5, x6, x7] (S.set l (cell hs b1)) = .ok .non (S.set l (cell hs (srch hs r (days ++ [z]) b1))) := fun x2 x4 x5 x6 x7 => by
          unfold mMethO
          rw [x_var]
          show (match (S.set l (cell hs b1))[l]? with | some (.ins c' fs) => if c' = ("Search" : Str) ∧ fs.lookup ("go_on" : Str) = none then _ else R.bad | _ => .bad) = _
          rw [hS1]
          show (if ("Search" : Str) = ("Search" : Str) ∧ _ = none then _ else R.bad) = _
          rw [if_pos ⟨rfl, rfl⟩]
          have hz6 : days.length + 1 ≤ sizeLine := by rw [hz]; omega
          have hz7 : 1 ≤ sizeLine := by rw [hz]; omega
          simp [-x_fld, -x_fldA, -x_methO, guardR, hz6, hz7]
          rw [List.map_singleton] at ih2
          rw [ih2]
          simp [-x_fld, -x_fldA, -x_methO, noEx]
        unfold goBody
        by_cases q : z ∈ days
        · simp [-x_fld, -x_fldA, -x_methO, -x_notInA, notin, q, -x_expr]
          exact ⟨todo, b1, _, rfl, rfl, rfl, by rw [List.foldl_cons, if_pos q] at hf; exact hf⟩
        · simp [-x_fld, -x_fldA, -x_methO, -x_notInA, notin, q, hmeth]
          exact ⟨todo, _, _, rfl, rfl, rfl, by rw [List.foldl_cons, if_neg q] at hf; exact hf⟩
    · rintro τ S1 ⟨todo, b1, x3, e1, rfl, rfl, hf⟩
      cases todo with
      | nil => rw [← hf]; rfl
      | cons z todo => cases e1
theorem go_on_ok {hs : List Hr} (hk : ∀ h ∈ hs, Ok h) (hl : hs.length ≤ 6) (l : Nat) : ∀ (n : Nat) (rem pre : List Hr) (days : List Int) (b : Best) (S : Sto), rem.length < n → hs = pre ++ rem → pre.length = days.length → S[l]? = some (cell hs b) → m_Search_go_on n [.loc l, .tup (days.map D.int)] S = .ok .non (S.set l (cell hs (srch hs rem days b)))
  | 0, rem, _, _, _, _, hn, _, _, _ => absurd hn (Nat.not_lt_zero _)
  | n + 1, rem, pre, days, b, S, hn, he, hp, hS => by
    have hd : days.length ≤ hs.length := by rw [he, List.length_append]; omega
    have hdrop : hs.drop days.length = rem := by rw [he, ← hp, List.drop_left]
    have hlb : ∀ (x2 x3 x4 x5 x6 : Option D), lcL [] (.nm 7) [7] tYesM (mCall m_least_span (aCons (mFld "Search" "docket" (mVar 0)) (aCons (mVar 1) (aCons (mVar 7) aNil)))) (r6.map D.int) [some (.loc l), some (.tup (days.map D.int)), x2, x3, x4, x5, x6, none] S = .ok ((r6.map fun p => spanLB (sel p hs days) (rem.filter (has p))).map D.int) S := fun x2 x3 x4 x5 x6 => by
      rw [lc_map (fun x => .int (spanLB (sel (iv x) hs days) (rem.filter (has (iv x))))) (r6.map D.int) fun x hx => ?_]
      · simp [-x_fld, -x_fldA, -x_methO, iv]
      · obtain ⟨p, _, rfl⟩ := List.mem_map.mp hx
        refine ⟨[some (.loc l), some (.tup (days.map D.int)), x2, x3, x4, x5, x6, some (.int p)], rfl, ?_⟩
        rw [x_call]
        simp only [x_aCons, fld_docket (τ := [some (.loc l), some (.tup (days.map D.int)), x2, x3, x4, x5, x6, some (.int p)]) (i := 0) rfl hS, R.bind_ok, x_var, List.getElem?_cons_succ, List.getElem?_cons_zero, x_aNil, span_ok hl hd, hdrop, iv]
    have esum : dSum [.lst ((r6.map fun p => spanLB (sel p hs days) (rem.filter (has p))).map D.int)] S = .ok (.int (bound hs rem days)) S := by
      simp only [dSum, listR, intsOf_map]
      rfl
    have hz1 : (r6.map D.int).length ≤ sizeLine := by rw [hz]; decide
    refine wp_eq ?_
    unfold m_Search_go_on
    rw [x_run]
    refine ⟨rfl, ?_⟩
    change wpS (sSeq _ (sSeq _ (goRest n)) _ _) _ _
    have t2 : ∀ (x2 x3 x4 x5 x6 x7 : Option D), mFld "Search" "best" (mVar 0) [some (.loc l), some (.tup (days.map D.int)), x2, x3, x4, x5, x6, x7] S = .ok (bD b) S := fun _ _ _ _ _ _ => fld_best rfl hS
    have hstop : beats b (bound hs rem days) = true → srch hs rem days b = b := fun h => by
      cases rem <;> (unfold srch; rw [if_pos h])
    generalize hB : bound hs rem days = B at *
    have hgo := fun hb => rest_ok hk hl l n rem pre days b S he hp hS B hB hb fun h r d b2 S2 er hS2 => by
      have := go_on_ok hk hl l n r (pre ++ [h]) (days ++ [d]) b2 S2 (by subst er; simp [-x_fld, -x_fldA, -x_methO] at hn; omega) (by rw [he, er]; simp [-x_fld, -x_fldA, -x_methO]) (by simp [-x_fld, -x_fldA, -x_methO, hp]) hS2
      exact this
    cases b with
    | none =>
      have := hgo rfl
      simp [-x_fld, -x_fldA, -x_methO, r6_items, hz1, hlb, esum, t2, bD, Z.dIsN, Z.isNon, -List.map_map, -List.length_map]
      exact wpS_impQ this (fun _ _ h => ⟨rfl, h⟩) (fun _ _ h => h)
    | some mo =>
      obtain ⟨m, o⟩ := mo
      simp [-x_fld, -x_fldA, -x_methO, r6_items, hz1, hlb, esum, t2, bD, Z.dIsN, Z.isNon, at0, ret_n, -List.map_map, -List.length_map]
      refine ⟨fun h => ?_, fun h => ?_⟩
      · rw [hstop (decide_eq_true h)]
        exact (set_self hS).symm
      · have := hgo (decide_eq_false (by omega))
        exact wpS_impQ this (fun _ _ h => ⟨rfl, h⟩) (fun _ _ h => h)
end Lk73

namespace Lk73
open PySem L2 Z
open Hall (cnt irng)
open Srch (Hr sel has spanLB mx mn bound srch Best beats)
theorem spn_hr (hs : List Hr) : (rowsD hs).map spn = hs.map Srch.spH := by
  rw [rowsD, List.map_map]; exact List.map_congr_left fun h _ => rfl
theorem hear_ok {hs : List Hr} (h : ∀ d ∈ rowsD hs, Hear d) : ∀ x ∈ hs, Ok x := fun x hx => by
  obtain ⟨i, j, ps, e, h1, h2, h3, _⟩ := h (hrD x) (List.mem_map.mpr ⟨x, hx, rfl⟩)
  have e2 : hrD x = .tup [.int x.1, .int x.2.1, .tup (x.2.2.map D.int)] := rfl
  rw [e2] at e
  injection e with e
  injection e with a1 e
  injection e with a2 e
  injection a1 with a1
  injection a2 with a2
  exact ⟨by omega, by omega, by omega⟩
theorem init_ok (hs : List Hr) (S : Sto) : m_Search_init [.loc S.length, .tup (rowsD hs)] (S ++ [.ins "Search" []]) = .ok .non (S ++ [cell hs none]) := by
  have h0 : ∀ c : C, (S ++ [c])[S.length]? = some c := fun c => by rw [List.getElem?_append_right (Nat.le_refl _), Nat.sub_self]; rfl
  have e1 : ∀ (c : C) (d : C), (S ++ [c]).set S.length d = S ++ [d] := fun c d => by rw [List.set_append_right _ _ (Nat.le_refl _), Nat.sub_self]; rfl
  have a1 : sFldA "Search" "docket" (mVar 0) (mVar 1) [some (.loc S.length), some (.tup (rowsD hs))] (S ++ [.ins "Search" []]) = .nx [some (.loc S.length), some (.tup (rowsD hs))] (S ++ [.ins "Search" [("docket", .tup (rowsD hs))]]) := by
    unfold sFldA
    simp only [x_var, List.getElem?_cons_succ, List.getElem?_cons_zero, liftS, h0, e1]
    rfl
  have a2 : sFldA "Search" "best" (mVar 0) (mC .non) [some (.loc S.length), some (.tup (rowsD hs))] (S ++ [.ins "Search" [("docket", .tup (rowsD hs))]]) = .nx [some (.loc S.length), some (.tup (rowsD hs))] (S ++ [cell hs none]) := by
    unfold sFldA
    simp only [x_var, x_c, List.getElem?_cons_succ, List.getElem?_cons_zero, liftS, h0, e1]
    rfl
  refine wp_eq ?_
  unfold m_Search_init
  rw [x_run]
  refine ⟨rfl, ?_⟩
  show wpS (sSeq _ _ [some (.loc S.length), some (.tup (rowsD hs))] _) _ _
  rw [wpS_seq, a1, wpS_nx, a2]
  exact ⟨rfl, rfl⟩
theorem best_wp {hs : List Hr} (hr : ∀ d ∈ rowsD hs, Hear d) (hl : hs.length ≤ 6) {S : Sto} {Q : D → Sto → Prop} (k : ∀ S', (S' = S ∨ ∃ c, S' = S ++ [c]) → Q (bD (srch hs hs [] none)) S') : wpR (m_best_of [.tup (rowsD hs)] S) Q := by
  unfold m_best_of
  have hl2 : (rowsD hs).length ≤ 6 := by simpa using hl
  have en : dIsN true (fc (rowsD hs)) .non S = .ok (.bl (!(decide (Srch.all hs ≠ [])))) S := by
    simp only [dIsN, fc_ords hr, spn_hr]
    rfl
  rw [x_run]
  refine ⟨rfl, ?_⟩
  show wpS (sSeq _ _ [some (.tup (rowsD hs)), none] S) _ _
  have mk : mMake "Search" m_Search_init (aCons (mVar 0) aNil) [some (.tup (rowsD hs)), none] S = .ok (.loc S.length) (S ++ [cell hs none]) := by
    unfold mMake
    simp only [x_aCons, x_var, x_aNil, List.getElem?_cons_zero, R.bind_ok, init_ok, noEx]
  have h0 : ∀ c : C, (S ++ [c])[S.length]? = some c := fun c => by rw [List.getElem?_append_right (Nat.le_refl _), Nat.sub_self]; rfl
  have go := go_on_ok (hear_ok hr) hl S.length 8 hs [] [] none (S ++ [cell hs none]) (by omega) rfl rfl (h0 _)
  have e1 : ∀ (c : C) (d : C), (S ++ [c]).set S.length d = S ++ [d] := fun c d => by rw [List.set_append_right _ _ (Nat.le_refl _), Nat.sub_self]; rfl
  rw [e1] at go
  have me : mMethO "Search" "go_on" (m_Search_go_on 8) (mVar 1) (aCons (mTup aNil) aNil) [some (.tup (rowsD hs)), some (.loc S.length)] (S ++ [cell hs none]) = .ok .non (S ++ [cell hs (srch hs hs [] none)]) := by
    unfold mMethO
    rw [x_var]
    show (match (S ++ [cell hs none])[S.length]? with | some (.ins c' fs) => if c' = ("Search" : Str) ∧ fs.lookup ("go_on" : Str) = none then _ else R.bad | _ => .bad) = _
    rw [h0]
    show (if ("Search" : Str) = ("Search" : Str) ∧ _ = none then _ else R.bad) = _
    rw [if_pos ⟨rfl, rfl⟩]
    have hz7 : 0 ≤ sizeLine := by rw [hz]; omega
    simp only [x_aCons, x_mTup, x_aNil, R.bind_ok, List.length_nil, guardR_pos hz7]
    rw [List.map_nil] at go
    rw [go]
    rfl
  have mf : mFld "Search" "best" (mVar 1) [some (.tup (rowsD hs)), some (.loc S.length)] (S ++ [cell hs (srch hs hs [] none)]) = .ok (bD (srch hs hs [] none)) (S ++ [cell hs (srch hs hs [] none)]) := fld_best rfl (h0 _)
  by_cases q : Srch.all hs = []
  · have e2 : srch hs hs [] none = none := by rw [Srch.srch_all, q]; rfl
    rw [e2] at k
    have := k S (.inl rfl)
    generalize mMake "Search" m_Search_init (aCons (mVar 0) aNil) = mk1 at *
    generalize mMethO "Search" "go_on" (m_Search_go_on 8) (mVar 1) (aCons (mTup aNil) aNil) = mk2 at *
    simp [-x_fld, -x_fldA, -x_methO, -x_make, least_in hr hl2, en, q]
    exact this
  · simp [-x_fld, -x_fldA, -x_methO, -x_make, least_in hr hl2, en, q, mk, me, mf]
    exact k _ (.inr ⟨_, rfl⟩)
end Lk73

namespace Lk73
open PySem L2 Z
open Hall (cnt irng)
open Srch (Hr sel has spanLB mx mn bound srch Best beats)
noncomputable def bO : Best → D
  | none => .non
  | some (_, o) => .tup (o.map D.int)
noncomputable def bK : Best → D
  | none => .non
  | some (m, _) => .int m
noncomputable def Dk (hs : List Hr) : Prop := (∀ d ∈ rowsD hs, Hear d) ∧ 1 ≤ hs.length ∧ hs.length ≤ 6
theorem Dk.GD {hs : List Hr} (h : Dk hs) : GD (.tup (rowsD hs)) := .inl (up4 (Gd_tup (k := 2) (by have := h.2.2; simp; omega) fun d hd => (h.1 d hd).gd) (by decide))
theorem Dk.need {hs : List Hr} (h : Dk hs) (S : Sto) : m_need_docket [.tup (rowsD hs)] S = .ok .non S := by
  have hk : dck (.tup (rowsD hs)) = true := by
    have e1 : (rowsD hs).all her = true := List.all_eq_true.mpr fun d hd => (h.1 d hd).her
    have e2 := h.2.1
    have e3 := h.2.2
    have e4 : (rowsD hs).length = hs.length := by simp
    simp only [dck, e1, e4, e2, e3, decide_true, Bool.and_self]
  exact need_wp hk h.GD.has (GD_short2 h.GD) S
noncomputable def Ap (S S' : Sto) : Prop := S' = S ∨ ∃ c, S' = S ++ [c]
theorem Ap.pen {l : Nat} {S S' : Sto} (h : Ap S S') (p : Pen l S) : Pen l S' := by
  rcases h with rfl | ⟨c, rfl⟩
  · exact p
  · exact p.push
theorem order_wp {hs : List Hr} (h : Dk hs) {S : Sto} {Q : D → Sto → Prop} (k : ∀ S', Ap S S' → Q (bO (srch hs hs [] none)) S') : wpR (m_best_order [.tup (rowsD hs)] S) Q := by
  unfold m_best_order
  simp [h.need]
  refine best_wp h.1 h.2.2 fun S' ha => ?_
  have := k S' ha
  generalize srch hs hs [] none = b at *
  cases b with
  | none => simp [bD, dIsN, Z.isNon]; exact this
  | some mo => obtain ⟨m, o⟩ := mo; simp [bD, dIsN, Z.isNon, at1]; exact this
theorem kept_wp {hs : List Hr} (h : Dk hs) {S : Sto} {Q : D → Sto → Prop} (k : ∀ S', Ap S S' → Q (bK (srch hs hs [] none)) S') : wpR (m_fewest_kept [.tup (rowsD hs)] S) Q := by
  unfold m_fewest_kept
  simp [h.need]
  refine best_wp h.1 h.2.2 fun S' ha => ?_
  have := k S' ha
  generalize srch hs hs [] none = b at *
  cases b with
  | none => simp [bD, dIsN, Z.isNon]; exact this
  | some mo => obtain ⟨m, o⟩ := mo; simp [bD, dIsN, Z.isNon, at0]; exact this
end Lk73

namespace Lk73
open PySem L2 Z
open Hall (cnt irng Fit)
open Srch (Hr sel has spanLB mx mn bound srch Best beats)
theorem all_mem {hs : List Hr} {ns : List Int} : ns ∈ Srch.all hs ↔ Fit (hs.map Srch.spH) ns ∧ ns.Nodup := by
  show ns ∈ (hs.map Srch.spH).foldl Hall.step [[]] ↔ _
  rw [Hall.mem_fold]
  constructor
  · rintro ⟨r, hr, ds, rfl, f, nd, _⟩
    rw [List.mem_singleton.mp hr]
    exact ⟨f, nd⟩
  · rintro ⟨f, nd⟩
    exact ⟨[], by simp, ns, rfl, f, nd, by simp⟩
theorem fit_b : ∀ {hs : List Hr} {ns : List Int}, (∀ h ∈ hs, Ok h) → Fit (hs.map Srch.spH) ns → ∀ z ∈ ns, 0 ≤ z ∧ z ≤ 60
  | [], ns, _, f, z, hz' => by cases f; cases hz'
  | h :: r, d :: ds, ho, .cons h1 h2 f, z, hz' => by
    rcases List.mem_cons.mp hz' with rfl | hz'
    · have := ho h (by simp)
      exact ⟨Int.le_trans this.1 h1, Int.le_trans h2 this.2.2⟩
    · exact fit_b (fun x hx => ho x (by simp [hx])) f z hz'
theorem days_sel (hs : List Hr) (p : Int) (ns : List Int) : daysOf (rowsD hs) (ns.map D.int) p = sel p hs ns := by
  unfold daysOf
  rw [sel_zip, map_iv]
theorem span_same (L : List Int) : spanOf L = Srch.spanOf L := by cases L <;> rfl
theorem kept_eq (hs : List Hr) (ns : List Int) : keptI (rowsD hs) (ns.map D.int) = Srch.kept hs ns := by
  unfold keptI Srch.kept
  have e : (fun p => spanOf (daysOf (rowsD hs) (ns.map D.int) p)) = fun p => Srch.spanOf (sel p hs ns) := by
    funext p; rw [days_sel, span_same]
  rw [e]; rfl
theorem ltL_lt : ∀ a b : List Int, Srch.ltL a b = decide (a < b)
  | [], [] => by simp [Srch.ltL]
  | [], _ :: _ => by simp [Srch.ltL]
  | _ :: _, [] => by simp [Srch.ltL]
  | a :: r, b :: s => by
    rw [Bool.eq_iff_iff]
    simp only [Srch.ltL, ltL_lt r s, Bool.or_eq_true, Bool.and_eq_true, decide_eq_true_eq, List.cons_lt_cons_iff]
end Lk73

namespace Lk73
open PySem L2 Z
open Hall (cnt irng Fit)
open Srch (Hr sel has spanLB mx mn bound srch Best beats)
noncomputable def rowT (r : List Int) : D := .tup (r.map D.int)
theorem ext_lc {τ : Tau} {S : Sto} {i j : Int} {r : List Int} (h6 : (wipeT τ [7])[6]? = some (some (rowT r))) (h7 : τ.length = 8) (hr : r.length ≤ 10) :
    lcL [] (.nm 7) [7] (mB (mBin dNotInA (mVar 7) (mVar 6))) (mBin dAdd (mVar 6) (mTup (aCons (mVar 7) aNil))) ((Hall.irng i j).map D.int) τ S = .ok ((Hall.ext (i, j) r).map rowT) S := by
  have e := lc_fm (g := .nm 7) (vs := [7]) (tm := mB (mBin dNotInA (mVar 7) (mVar 6))) (e := mBin dAdd (mVar 6) (mTup (aCons (mVar 7) aNil))) (τ := τ) (S := S) (fun d => !r.contains (iv d)) (fun d => .tup (r.map D.int ++ [d])) ((Hall.irng i j).map D.int) fun d hd => by
    obtain ⟨z, _, rfl⟩ := List.mem_map.mp hd
    have l7 : (wipeT τ [7]).length = 8 := by simp [wipeT, h7]
    have e7 : ((wipeT τ [7]).set 7 (some (D.int z)))[7]? = some (some (.int z)) := List.getElem?_set_self (by omega)
    have e6 : ((wipeT τ [7]).set 7 (some (D.int z)))[6]? = some (some (rowT r)) := by rw [List.getElem?_set_ne (by decide)]; exact h6
    refine ⟨_, rfl, ?_, ?_⟩
    · simp only [x_B, x_bin, x_var, e7, e6, R.bind_ok, rowT, notin, x_asB, iv]
    · refine wp_eq ?_
      simp [e7, e6, rowT, hz]
      omega
  rw [e]
  congr 1
  unfold Hall.ext
  simp [List.filter_map, List.map_map, rowT, Function.comp_def, iv]
noncomputable def At (x : D) (S : Sto) (ds : List D) : Prop := x = .lst ds ∨ ∃ m, x = .loc m ∧ S[m]? = some (.lst ds)
theorem items_at {x : D} {S : Sto} {ds : List D} (n : Nat) (h : At x S ds) (hn : ∀ m, x = .loc m → m < n) : ∃ ks, itemsOf x S = some ⟨ds, ks⟩ ∧ ∀ S' : Sto, (∀ m, m < n → S'[m]? = S[m]?) → keepOk ks S' := by
  rcases h with rfl | ⟨m, rfl, hm⟩
  · exact ⟨[], rfl, fun _ _ _ h => nomatch h⟩
  · refine ⟨[(m, .lst ds)], by simp [itemsOf, hm], fun S' h p hp => ?_⟩
    rw [List.mem_singleton.mp hp]
    rw [h m (hn m rfl)]
    exact hm
theorem extend_wp {l : Nat} {S : Sto} {ds es : List D} {Q : D → Sto → Prop} (h : S[l]? = some (.lst ds)) (hn : ds.length + es.length ≤ 16777216) (k : Q .non (S.set l (.lst (ds ++ es)))) : wpR (dExtend (.loc l) [.lst es] S) Q := by
  simp [dExtend, listD, h, hz, hn]
  exact k
noncomputable def ORow (rows : List D) (n : Nat) (l : Nat) (total : List (List Int)) (es : List D) (τ : Tau) (S : Sto) : Prop :=
  ∃ (R : List (List Int)) (x : D) (a b c d e f : Option D), τ = [some (.tup rows), some x, a, b, c, d, e, f] ∧ At x S (R.map rowT) ∧ R.length * 5 ^ es.length ≤ 625 ∧ (∀ r ∈ R, r.length ≤ 10 - es.length) ∧ es.length ≤ 4 ∧ (es.map spn).foldl Hall.step R = total ∧ (∀ d ∈ es, Hear d) ∧ Pen l S ∧ n ≤ S.length
noncomputable def IRow (rows : List D) (x : D) (i j : Int) (kk : Nat) (S0 : Sto) (R : List (List Int)) (es : List D) (τ : Tau) (S : Sto) : Prop :=
  ∃ (R1 R2 : List (List Int)) (c f g : Option D), τ = [some (.tup rows), some x, some (.int i), some (.int j), c, some (.loc kk), f, g] ∧ R = R1 ++ R2 ∧ es = R2.map rowT ∧ S[kk]? = some (.lst ((Hall.step R1 (i, j)).map rowT)) ∧ S.length = kk + 1 ∧ ∀ m, m < kk → S[m]? = S0[m]?
theorem orders_wp {l : Nat} {S : Sto} {rows : List D} {Q : D → Sto → Prop} (hp : Pen l S) (hr : ∀ d ∈ rows, Hear d) (hl : rows.length ≤ 4) (k : ∀ x S', At x S' ((Hall.ords (rows.map spn)).map rowT) → (Hall.ords (rows.map spn)).length ≤ 625 → (∀ r ∈ Hall.ords (rows.map spn), r.length ≤ 10) → Pen l S' → Q x S') : wpR (m_law_orders [.tup rows] S) Q := by
  unfold m_law_orders
  simp only [x_run, List.length_cons, List.length_nil, true_and, wpS_seq]
  simp [hz]
  refine for_wp (ORow rows 0 l (Hall.ords (rows.map spn))) ?_ ?_ _ _ _ ⟨[[]], _, _, _, _, _, _, _, rfl, .inl rfl, ?_, by simp, hl, rfl, hr, hp, Nat.zero_le _⟩
  · rintro d es τ S1 ⟨R, x, a, b, c, d2, e, f, rfl, hx, hR, hR2, hes, ht, hh, p1, _⟩
    obtain ⟨i, j, ps, rfl, i0, ij, j60, w, _⟩ := hh d (by simp)
    refine ⟨_, rfl, ?_⟩
    simp [hz]
    have hx1 : At x (S1 ++ [C.lst []]) (R.map rowT) := by
      rcases hx with h | ⟨m, rfl, hm⟩
      · exact .inl h
      · exact .inr ⟨m, rfl, by rw [List.getElem?_append_left (List.getElem?_eq_some_iff.mp hm).1]; exact hm⟩
    have hloc : ∀ m, x = .loc m → m < S1.length := fun m e => by
      rcases hx with h | ⟨m', h, hm⟩
      · rw [h] at e; cases e
      · rw [h] at e; cases e
        exact (List.getElem?_eq_some_iff.mp hm).1
    obtain ⟨ks', k1', k2'⟩ := items_at S1.length hx1 hloc
    refine ⟨_, k1', ?_⟩
    have hlen5 : R.length ≤ 125 := by
      have : 5 ≤ 5 ^ (es.length + 1) := by rw [Nat.pow_succ]; have := Nat.pos_of_ne_zero (by simp : 5 ^ es.length ≠ 0); omega
      simp only [List.length_cons] at hR
      have := Nat.mul_le_mul_left R.length this
      omega
    refine for_wpK (IRow rows x i j S1.length S1 R) ?_ ?_ ?_ _ _ _ ⟨[], R, _, _, _, rfl, rfl, rfl, by simp [Hall.step], by simp, fun m hm => List.getElem?_append_left hm⟩
    · rintro es2 τ S2 ⟨R1, R2, c, f, g, _, _, _, _, _, hk2⟩
      exact k2' S2 fun m hm => by rw [hk2 m hm, List.getElem?_append_left hm]
    · rintro d es2 τ S2 ⟨R1, R2, c, f, g, rfl, eR, e2, hs2, hl2, hk2⟩
      cases R2 with
      | nil => simp at e2
      | cons r R2 =>
        simp only [List.map_cons, List.cons.injEq] at e2
        obtain ⟨rfl, rfl⟩ := e2
        refine ⟨_, rfl, ?_⟩
        have hrl : r.length ≤ 10 := by have := hR2 r (by rw [eR]; simp); omega
        have eL := ext_lc (τ := [some (.tup rows), some x, some (.int i), some (.int j), c, some (.loc S1.length), some (rowT r), g]) (S := S2) (i := i) (j := j) (r := r) rfl rfl hrl
        have h1 : R1.length ≤ 125 := by rw [eR] at hlen5; simp at hlen5; omega
        have w' : (i, j).2 < (i, j).1 + 5 := w
        have h2 := Hall.step_len (h := (i, j)) w' R1
        have h3 := Hall.ext_len (r := r) w'
        have hirl : (Hall.irng i j).length ≤ 16777216 := by
          unfold Hall.irng
          rw [List.length_map, List.length_range]
          omega
        simp [isTy, hs2, range2_irng i0 ij j60, hz, eL, hirl]
        refine extend_wp hs2 (by simp; omega) ⟨R1 ++ [r], R2, _, _, _, rfl, by simp [eR], rfl, ?_, by simpa using hl2, fun m hm => ?_⟩
        · rw [List.getElem?_set_self (by omega)]
          simp [Hall.step]
        · rw [List.getElem?_set_ne (by omega)]
          exact hk2 m hm
    · rintro τ S2 ⟨R1, R2, c, f, g, rfl, eR, e2, hs2, hl2, hk2⟩
      have : R2 = [] := by cases R2 with | nil => rfl | cons _ _ => simp at e2
      subst this
      rw [List.append_nil] at eR
      subst eR
      have w' : (i, j).2 < (i, j).1 + 5 := w
      have h2 := Hall.step_len (h := (i, j)) w' R
      refine ⟨Hall.step R (i, j), _, _, _, _, _, _, _, rfl, .inr ⟨_, rfl, hs2⟩, ?_, fun r hr' => ?_, by simp at hes; omega, ?_, fun d hd => hh d (by simp [hd]), ?_, Nat.zero_le _⟩
      · simp only [List.length_cons, Nat.pow_succ] at hR
        have := Nat.mul_le_mul_right (5 ^ es.length) h2
        rw [Nat.mul_comm (5 ^ es.length) 5, ← Nat.mul_assoc, Nat.mul_comm R.length 5] at hR
        omega
      · obtain ⟨r0, hr0, he⟩ := List.mem_flatMap.mp hr'
        obtain ⟨z, rfl, _⟩ := Hall.ext_mem.mp he
        have := hR2 r0 hr0
        simp at this hes ⊢
        omega
      · simpa [spn] using ht
      · obtain ⟨a1, b1, e1⟩ := p1
        exact ⟨a1, b1, (hk2 l (List.getElem?_eq_some_iff.mp e1).1).trans e1⟩
  · rintro τ S1 ⟨R, x, a, b, c, d2, e, f, rfl, hx, hR, hR2, hes, ht, hh, p1, _⟩
    simp
    have e : R = Hall.ords (rows.map spn) := ht
    rw [e] at hx hR hR2
    exact k x S1 hx (by simpa using hR) (fun r hr' => by have := hR2 r hr'; simpa using this) p1
  · have := Nat.pow_le_pow_right (show 0 < 5 by decide) hl
    simp
    omega
theorem lc_mapK {ks : List (Nat × C)} {g : Tgt} {vs : List Nat} {e : ME} {τ : Tau} {S : Sto} (hk : keepOk ks S) (f : D → D) : ∀ (ds : List D), (∀ d ∈ ds, ∃ τ1, bindT g d (wipeT τ vs) = some τ1 ∧ e τ1 S = .ok (f d) S) → lcL ks g vs tYesM e ds τ S = .ok (ds.map f) S
  | [], _ => by
    unfold lcL
    rw [if_pos (keepB_iff.mpr hk)]
    rfl
  | d :: ds, step => by
    unfold lcL
    rw [if_pos (keepB_iff.mpr hk)]
    obtain ⟨τ1, e1, w⟩ := step d (by simp)
    have rest := lc_mapK hk f ds (fun d hd => step d (by simp [hd]))
    rw [e1]
    show (noEx (tYesM τ1 S)).bind _ = _
    simp only [tYesM, noEx_ok, R.bind_ok, if_true, w, rest, List.map_cons]
end Lk73

namespace Lk73
open PySem L2 Z
open Hall (cnt irng Fit)
open Srch (Hr sel has spanLB mx mn bound srch Best beats)
noncomputable def kp (hs : List Hr) (x : List Int) : Int × List Int := (Srch.kept hs x, x)
theorem ltT_kp (hs : List Hr) (x y : List Int) : ltT (kp hs x) (kp hs y) = (if Srch.kept hs x = Srch.kept hs y then Srch.ltL x y else decide (Srch.kept hs x < Srch.kept hs y)) := by
  unfold ltT kp
  simp only [ltL_lt]
theorem fold_min (hs : List Hr) : ∀ (R : List (List Int)) (o : List Int), (∀ y ∈ R, Srch.ltL o y = true) → (R.Pairwise fun x y => Srch.ltL x y = true) → R.foldl (Srch.upd hs) (some (Srch.kept hs o, o)) = some (minT (kp hs o) (R.map (kp hs)))
  | [], o, _, _ => rfl
  | y :: R, o, h1, h2 => by
    rw [List.pairwise_cons] at h2
    have hy := Srch.ltL_asym (h1 y (by simp))
    have e : ltT (kp hs y) (kp hs o) = decide (Srch.kept hs y < Srch.kept hs o) := by
      rw [ltT_kp]
      split
      · rename_i q; rw [hy, q]; simp
      · rfl
    rw [List.foldl_cons]
    have m1 : minT (kp hs o) ((y :: R).map (kp hs)) = minT (if ltT (kp hs y) (kp hs o) = true then kp hs y else kp hs o) (R.map (kp hs)) := rfl
    rw [m1, e]
    by_cases q : Srch.kept hs o ≤ Srch.kept hs y
    · have u : Srch.upd hs (some (Srch.kept hs o, o)) y = some (Srch.kept hs o, o) := by
        unfold Srch.upd beats
        simp [q]
      rw [u, if_neg (by simp; omega)]
      exact fold_min hs R o (fun z hz => h1 z (by simp [hz])) h2.2
    · have u : Srch.upd hs (some (Srch.kept hs o, o)) y = some (Srch.kept hs y, y) := by
        unfold Srch.upd beats
        simp [q]
      rw [u, if_pos (by simp; omega)]
      exact fold_min hs R y h2.1 h2.2
theorem all_min {hs : List Hr} {o : List Int} {R : List (List Int)} (h : Srch.all hs = o :: R) : srch hs hs [] none = some (minT (kp hs o) (R.map (kp hs))) := by
  have hp := Srch.fold_up (hs.map Srch.spH) (R := [[]]) (n := 0) (by simp) (by simp)
  rw [show (hs.map Srch.spH).foldl Hall.step [[]] = o :: R from h, List.pairwise_cons] at hp
  rw [Srch.srch_all, h, List.foldl_cons]
  exact fold_min hs R o hp.1 hp.2
theorem pairs_of : ∀ xs : List (Int × List Int), pairsOfT (xs.map pairTD) = some xs
  | [] => rfl
  | x :: xs => by
    have e : pairOfT (pairTD x) = some x := by
      simp [pairOfT, pairTD, intsOf_map]
    simp only [List.map_cons, pairsOfT, e, pairs_of xs]
theorem min_ok (x : Int × List Int) (r : List (Int × List Int)) (S : Sto) : dMinT [.lst ((x :: r).map pairTD)] S = .ok (pairTD (minT x r)) S := by
  unfold dMinT
  simp only [listR, pairs_of]
theorem py_pairs : ∀ xs : List (Int × List Int), toPyDs (xs.map pairTD) = some (xs.map pairPy)
  | [] => rfl
  | x :: xs => by
    have e : toPyD (pairTD x) = some (pairPy x) := by simp [pairTD, pairPy, toPyD, toPyDs, py_intsT]
    simp only [List.map_cons, toPyDs, e, py_pairs xs]
theorem plain_pairs : ∀ xs : List (Int × List Int), PyData.plainAll (xs.map pairPy) = true
  | [] => rfl
  | x :: xs => by
    have e : (pairPy x).plain = true := by simp [pairPy, PyData.plain, PyData.plainAll, plain_ints]
    simp only [List.map_cons, PyData.plainAll, e, plain_pairs xs, Bool.and_self]
theorem ne_pairs (xs : List (Int × List Int)) (S : Sto) : dNe (.lst (xs.map pairTD)) (.lst []) S = .ok (.bl (!xs.isEmpty)) S := by
  have e : toPy (.lst (xs.map pairTD)) S = some (.list (xs.map pairPy)) := by simp [toPy, toPyD, py_pairs]
  have e2 : toPy (.lst []) S = some (.list []) := rfl
  have hd := depth_pairs xs
  have e3 : plainB (.list (xs.map pairPy)) (.list []) = true := by
    simp [plainB, PyData.plain, PyData.plainAll, plain_pairs, PyData.depth, PyData.depthAll]
    omega
  unfold dNe dDat
  rw [e, e2]
  simp only [e3, if_true]
  cases xs <;> simp [PyData.eqv, PyData.eqvAll]
theorem span_b {L : List Int} (h : ∀ z ∈ L, 0 ≤ z ∧ z ≤ 60) : -61 ≤ Srch.spanOf L ∧ Srch.spanOf L ≤ 61 := by
  by_cases q : L = []
  · subst q; decide
  · rw [Srch.span_eq q]
    have := h _ (Srch.mx_mem q)
    have := h _ (Srch.mn_mem q)
    omega
theorem kept_b {hs : List Hr} (ho : ∀ h ∈ hs, Ok h) {x : List Int} (hx : x ∈ Srch.all hs) : -400 ≤ Srch.kept hs x ∧ Srch.kept hs x ≤ 400 := by
  have hb := fit_b ho (all_mem.mp hx).1
  have hs1 : ∀ p, -61 ≤ Srch.spanOf (sel p hs x) ∧ Srch.spanOf (sel p hs x) ≤ 61 := fun p => span_b fun z hz => hb z ((Srch.sel_sub p hs x).subset hz)
  unfold Srch.kept
  have a := Srch.sum_le (l := Srch.prs) (f := fun p => Srch.spanOf (sel p hs x)) (g := fun _ => 61) fun p _ => (hs1 p).2
  have b := Srch.sum_le (l := Srch.prs) (f := fun _ => -61) (g := fun p => Srch.spanOf (sel p hs x)) fun p _ => (hs1 p).1
  have c1 : (Srch.prs.map fun _ => (61 : Int)).sum = 366 := by decide
  have c2 : (Srch.prs.map fun _ => (-61 : Int)).sum = -366 := by decide
  omega
noncomputable def bE (b : Best) : D := .tup [bK b, bO b]
theorem dk_rows {rows : List D} (h : ∀ d ∈ rows, Hear d) (l1 : 1 ≤ rows.length) (l6 : rows.length ≤ 6) : ∃ hs, rows = rowsD hs ∧ Dk hs := by
  obtain ⟨hs, rfl⟩ := hear_hr h
  exact ⟨hs, rfl, h, by simpa using l1, by simpa using l6⟩
theorem repr_bE {hs : List Hr} (hd : Dk hs) (S : Sto) : ∃ x, ∀ S, dRepr [bE (srch hs hs [] none)] S = .ok (.str x) S := by
  have ho := hear_ok hd.1
  have hG : Gd 2 (bE (srch hs hs [] none)) = true := by
    cases hb : srch hs hs [] none with
    | none => rfl
    | some mo =>
      obtain ⟨m, o⟩ := mo
      obtain ⟨h1, h2, _⟩ := Srch.srch_some hb
      have hk := kept_b ho h1
      have hf := fit_b ho (all_mem.mp h1).1
      have hl : o.length ≤ 16 := by
        have := Srch.fit_len (all_mem.mp h1).1
        have := hd.2.2
        simp at *
        omega
      refine Gd_tup (by simp) fun d hdd => ?_
      simp only [List.mem_cons, List.not_mem_nil, or_false] at hdd
      rcases hdd with rfl | rfl
      · exact gi (by omega) (by omega)
      · exact Gints hl fun z hz => by have := hf z hz; omega
  obtain ⟨p, hp⟩ := Gd_py 2 _ hG
  refine ⟨p.shown, fun S => repr_of (toPy_of hp.py) hp.sh hp.nd (by have := hp.dp; omega) ?_⟩
  have h1 := hp.ln
  have h2 : Wd 2 ≤ 16777216 := by decide
  omega
noncomputable def kpD (hs : List Hr) (d : D) : D := match d with
  | .tup ds => .tup [.int (keptI (rowsD hs) ds), .tup ds]
  | d => d
theorem some_ok {hs : List Hr} (hd : Dk hs) {S : Sto} {ks : List (Nat × C)} (hk : keepOk ks S) (a b c e a5 a6 a7 a8 : Option D) : lcL ks (.nm 8) [8] tYesM (mTup (aCons (mCall m_law_kept (aCons (mVar 4) (aCons (mVar 8) aNil))) (aCons (mVar 8) aNil))) ((Srch.all hs).map rowT) [a, b, c, e, some (.tup (rowsD hs)), a5, a6, a7, a8] S = .ok (((Srch.all hs).map (kp hs)).map pairTD) S := by
  have ho := hear_ok hd.1
  have hl2 : (rowsD hs).length ≤ 6 := by have := hd.2.2; simpa using this
  have hnum : ∀ x ∈ Srch.all hs, (x.map D.int).all (fun e => num e 0 60) = true ∧ (x.map D.int).length ≤ 16 := fun x hx => by
    have f := (all_mem.mp hx).1
    have e := Srch.fit_len f
    refine ⟨List.all_eq_true.mpr fun d hd => ?_, by have := hd.2.2; simp at e ⊢; omega⟩
    obtain ⟨z, hz', rfl⟩ := List.mem_map.mp hd
    have := fit_b ho f z hz'
    exact num_ok this.1 this.2
  rw [lc_mapK hk (kpD hs) _ fun d hd2 => ?_]
  · congr 1
    rw [List.map_map, List.map_map]
    refine List.map_congr_left fun x hx => ?_
    simp only [Function.comp_def, rowT, kpD, kept_eq, kp, pairTD]
  · obtain ⟨x, hx, rfl⟩ := List.mem_map.mp hd2
    have q := fun S => kept_law hd.1 hl2 (hnum x hx).1 (hnum x hx).2 S
    refine ⟨_, rfl, ?_⟩
    refine wp_eq ?_
    simp [wipeT, rowT, q, hz, kpD]
noncomputable def LI (ns : D) (c : D) (l : Nat) (k : Nat) (τ : Tau) (S : Sto) : Prop := Pen l S ∧ ∃ a3 a4 a5 a6 a7 a8 : Option D, τ = [some ns, some c, some (.loc l), a3, a4, a5, a6, a7, a8]
noncomputable def CI (ns : D) (es : List D) (τ : Tau) (S : Sto) : Prop := (∀ d ∈ es, ∃ c : Int, d = .int c) ∧ ∃ a1 a2 a3 a4 a5 a6 a7 a8 : Option D, τ = [some ns, a1, a2, a3, a4, a5, a6, a7, a8]
theorem for_rngK {g : Nat} {body : MS} {N : Tau → Sto → Prop} {T : D → Sto → Prop} (n : Nat) (Inv : Tau → Sto → Prop) (step : ∀ k τ S, k < n → Inv τ S → ∃ τ1, bindT (.nm g) (.int ((k : Nat) : Int)) τ = some τ1 ∧ wpS (body τ1 S) (fun τ2 S2 => Inv τ2 S2) T) (fin : ∀ τ S, Inv τ S → N τ S) (τ : Tau) (S : Sto) (h : Inv τ S) : wpS (forL [] (.nm g) body ((List.range n).map fun (k : Nat) => D.int ((k : Nat) : Int)) τ S) N T := by
  refine for_wp (fun es τ S => (∀ d ∈ es, ∃ k : Nat, k < n ∧ d = .int (k : Int)) ∧ Inv τ S) (fun d es τ S hh => ?_) (fun τ S hh => fin τ S hh.2) _ _ _ ⟨fun d hd => ?_, h⟩
  · obtain ⟨h1, h2⟩ := hh
    obtain ⟨k, hk, rfl⟩ := h1 d (by simp)
    obtain ⟨τ1, e, w⟩ := step k τ S hk h2
    exact ⟨τ1, e, wpS_impQ w (fun τ S hi => ⟨fun d hd => h1 d (by simp [hd]), hi⟩) (fun _ _ hi => hi)⟩
  · obtain ⟨k, hk, rfl⟩ := List.mem_map.mp hd
    exact ⟨k, List.mem_range.mp hk, rfl⟩
theorem rngN (n : Nat) (h : n ≤ 1000) (S : Sto) : range1 [.int (n : Int)] S = some ⟨(List.range n).map fun (k : Nat) => D.int ((k : Nat) : Int), []⟩ := by
  unfold range1
  simp
  omega
theorem cut_lenQ (ds : List D) (a b : Option Int) : (cutD ds a b).length ≤ ds.length := by
  unfold cutD
  rw [List.length_take, List.length_drop]
  omega
theorem law_wp (ns : List Int) (h : ns.length ≤ 63) : wpR (m_law [.scr (ns.map D.int)] []) fun d _ => d = .bl true := by
  have hcut := cut_lenQ (ns.map D.int) (some 1) (some 2)
  rw [List.length_map] at hcut
  have r6 : ∀ S, range1 [.int 6] S = some ⟨(List.range 6).map fun (k : Nat) => D.int ((k : Nat) : Int), []⟩ := rngN 6 (by decide)
  have r2 : ∀ S, range1 [.int 2] S = some ⟨(List.range 2).map fun (k : Nat) => D.int ((k : Nat) : Int), []⟩ := rngN 2 (by decide)
  unfold m_law
  simp [hz]
  refine cell_wp (by decide) fun c => ?_
  simp [hz]
  refine ⟨by omega, ?_⟩
  refine for_wp (CI (.scr (ns.map D.int))) ?_ (fun _ _ _ => rfl) _ _ _ ⟨?_, _, _, _, _, _, _, _, _, rfl⟩
  · rintro e es τ S1 ⟨hd, a1, a2, a3, a4, a5, a6, a7, a8, rfl⟩
    obtain ⟨c, rfl⟩ := hd e (by simp)
    have hd2 : ∀ d ∈ es, ∃ c : Int, d = .int c := fun d h => hd d (by simp [h])
    refine ⟨_, rfl, ?_⟩
    generalize D.scr (ns.map D.int) = nsd
    simp
    refine pen_wp fun S2 p2 => ?_
    simp [r6]
    generalize S1.length = l at p2
    refine for_rngK 6 (LI nsd (.int c) l 0) ?_ ?_ _ _ ⟨p2, _, _, _, _, _, _, rfl⟩
    · rintro k τ S3 hk ⟨p3, b3, b4, b5, b6, b7, b8, rfl⟩
      refine ⟨_, rfl, ?_⟩
      simp
      have hm := Int.emod_nonneg (k : Int) (show (4 : Int) ≠ 0 by decide)
      have hm2 := Int.emod_lt_of_pos (k : Int) (show (0 : Int) < 4 by decide)
      refine docket_wp p3 (by omega) (by omega) (by omega) (by omega) fun rows S4 hl hr p4 => ?_
      have hl4 : rows.length ≤ 4 := by omega
      obtain ⟨hs, rfl, hdk⟩ := dk_rows hr (by omega) (by omega)
      simp
      refine orders_wp p4 hr hl4 fun x S5 hat hln _ p5 => ?_
      rw [spn_hr] at hat hln
      have hloc : ∀ m, x = .loc m → m < S5.length := fun m e => by
        rcases hat with h | ⟨m', h, hm⟩
        · rw [h] at e; cases e
        · rw [h] at e; cases e
          exact (List.getElem?_eq_some_iff.mp hm).1
      obtain ⟨ks', k1', k2'⟩ := items_at S5.length hat hloc
      have hso := some_ok hdk (k2' S5 fun _ _ => rfl)
      have hln2 : ((Hall.ords (hs.map Srch.spH)).map rowT).length ≤ 16777216 := by rw [List.length_map]; omega
      have hne := fun S => ne_pairs ((Srch.all hs).map (kp hs)) S
      have hme : ∀ S, (((Srch.all hs).map (kp hs)).isEmpty = true → bE (srch hs hs [] none) = .tup [.non, .non]) ∧ (((Srch.all hs).map (kp hs)).isEmpty = false → dMinT [.lst (((Srch.all hs).map (kp hs)).map pairTD)] S = .ok (bE (srch hs hs [] none)) S) := fun S => by
        cases ha : Srch.all hs with
        | nil =>
          refine ⟨fun _ => ?_, (fun h => by cases h)⟩
          rw [Srch.srch_all, ha]; rfl
        | cons o R =>
          refine ⟨(fun h => by cases h), fun _ => ?_⟩
          rw [List.map_cons, min_ok, all_min ha]
          rfl
      obtain ⟨tx, hrp⟩ := repr_bE hdk S5
      have kw := fun (S : Sto) (Q : D → Sto → Prop) => kept_wp hdk (S := S) (Q := Q)
      have ow := fun (S : Sto) (Q : D → Sto → Prop) => order_wp hdk (S := S) (Q := Q)
      simp only [show Hall.ords (hs.map Srch.spH) = Srch.all hs from rfl] at k1' hln2
      generalize hE : bE (srch hs hs [] none) = E at *
      unfold bE at hE
      generalize bK (srch hs hs [] none) = bk at *
      generalize bO (srch hs hs [] none) = bo at *
      generalize hpk : ((Srch.all hs).map (kp hs)).map pairTD = pks at *
      generalize (Srch.all hs).map (kp hs) = prs0 at *
      generalize (Srch.all hs).map rowT = rts at *
      generalize rowsD hs = rd at *
      simp [hz, k1', hln2, hso]
      have go : ∀ (x5 : D) (S : Sto), Pen l S → wpS (sFor (iArgs range1 (aCons (mC (.int 2)) aNil)) (.nm 7) (sIf (mB (mBin dNe (mCall dRepr (aCons (mTup (aCons (mCall m_fewest_kept (aCons (mVar 4) aNil)) (aCons (mCall m_best_order (aCons (mVar 4) aNil)) aNil))) aNil)) (mCall dRepr (aCons (mVar 6) aNil)))) (sRet (mC (.bl false))) sNil) [some nsd, some (.int c), some (.loc l), some (.int (k : Int)), some (.tup rd), some x5, some E, b7, b8] S) (fun τ S => LI nsd (.int c) l 0 τ S) (fun d _ => d = .bl true) := fun x5 S pS => by
        simp [r2]
        refine for_rngK 2 (fun τ S => Pen l S ∧ ∃ b7 b8 : Option D, τ = [some nsd, some (.int c), some (.loc l), some (.int (k : Int)), some (.tup rd), some x5, some E, b7, b8]) ?_ ?_ _ _ ⟨pS, _, _, rfl⟩
        · rintro j τ T hj ⟨pT, c7, c8, rfl⟩
          refine ⟨_, rfl, ?_⟩
          simp
          refine kw _ _ fun T1 a1 => ?_
          simp
          refine ow _ _ fun T2 a2 => ?_
          simp [hz, hE, hrp, x_neSS]
          exact a2.pen (a1.pen pT)
        · rintro τ T ⟨pT, c7, c8, rfl⟩
          exact ⟨pT, _, _, _, _, _, _, rfl⟩
      have fin := go (.lst pks) S5 p5
      rw [hne, wpR_ok]
      cases he : prs0.isEmpty with
      | true =>
        rw [show asB (D.bl (!true)) S5 = .ok false S5 from rfl, wpR_ok, if_neg (by decide), wpR_ok, ← (hme S5).1 he]
        exact fin
      | false =>
        rw [show asB (D.bl (!false)) S5 = .ok true S5 from rfl, wpR_ok, if_pos rfl, (hme S5).2 he, wpR_ok]
        exact fin
    · rintro τ S3 ⟨p3, b3, b4, b5, b6, b7, b8, rfl⟩
      exact ⟨hd2, _, _, _, _, _, _, _, _, rfl⟩
  · intro d hd
    rcases List.mem_cons.mp hd with rfl | hd
    · exact ⟨_, rfl⟩
    · obtain ⟨x, _, rfl⟩ := List.mem_map.mp (cutD_mem hd)
      exact ⟨_, rfl⟩
theorem law_true : ∀ ns : List Int, ns.length ≤ 63 → ∃ S', m_law [.scr (ns.map D.int)] [] = .ok (.bl true) S' := fun ns h => by
  obtain ⟨a, S, e, rfl⟩ := wpR_get (law_wp ns h)
  exact ⟨S, e⟩
end Lk73

namespace Lk73
open PySem L2 Z PyProof.Rows 
theorem binds1 {K : PySem.W.Frag} {x qual : Str} {st : Stmt} {f : Addr} {fd : FuncData} {p0 : Str} (F : Fun K x qual st f fd) (h : ∀ (kV doc pm : Value) (an : Option Addr) (cdv ct : Value) (x0 : Value), bindArgs (PySem.W.fnOf x qual (defArgs st) (defBody st) (defScope st) .none kV doc pm an cdv ct) ⟨[x0], []⟩ = pure ([p0].zip [x0])) : Binds K fd [p0] [] :=
  F.binds (ps := [p0]) fun kV doc pm an cdv ct us hl => match us, hl with
    | [x0], _ => h kV doc pm an cdv ct x0
theorem binds2 {K : PySem.W.Frag} {x qual : Str} {st : Stmt} {f : Addr} {fd : FuncData} {p0 p1 : Str} (F : Fun K x qual st f fd) (h : ∀ (kV doc pm : Value) (an : Option Addr) (cdv ct : Value) (x0 x1 : Value), bindArgs (PySem.W.fnOf x qual (defArgs st) (defBody st) (defScope st) .none kV doc pm an cdv ct) ⟨[x0, x1], []⟩ = pure ([p0, p1].zip [x0, x1])) : Binds K fd [p0, p1] [] :=
  F.binds (ps := [p0, p1]) fun kV doc pm an cdv ct us hl => match us, hl with
    | [x0, x1], _ => h kV doc pm an cdv ct x0 x1
theorem binds3 {K : PySem.W.Frag} {x qual : Str} {st : Stmt} {f : Addr} {fd : FuncData} {p0 p1 p2 : Str} (F : Fun K x qual st f fd) (h : ∀ (kV doc pm : Value) (an : Option Addr) (cdv ct : Value) (x0 x1 x2 : Value), bindArgs (PySem.W.fnOf x qual (defArgs st) (defBody st) (defScope st) .none kV doc pm an cdv ct) ⟨[x0, x1, x2], []⟩ = pure ([p0, p1, p2].zip [x0, x1, x2])) : Binds K fd [p0, p1, p2] [] :=
  F.binds (ps := [p0, p1, p2]) fun kV doc pm an cdv ct us hl => match us, hl with
    | [x0, x1, x2], _ => h kV doc pm an cdv ct x0 x1 x2
theorem binds4 {K : PySem.W.Frag} {x qual : Str} {st : Stmt} {f : Addr} {fd : FuncData} {p0 p1 p2 p3 : Str} (F : Fun K x qual st f fd) (h : ∀ (kV doc pm : Value) (an : Option Addr) (cdv ct : Value) (x0 x1 x2 x3 : Value), bindArgs (PySem.W.fnOf x qual (defArgs st) (defBody st) (defScope st) .none kV doc pm an cdv ct) ⟨[x0, x1, x2, x3], []⟩ = pure ([p0, p1, p2, p3].zip [x0, x1, x2, x3])) : Binds K fd [p0, p1, p2, p3] [] :=
  F.binds (ps := [p0, p1, p2, p3]) fun kV doc pm an cdv ct us hl => match us, hl with
    | [x0, x1, x2, x3], _ => h kV doc pm an cdv ct x0 x1 x2 x3
theorem binds5 {K : PySem.W.Frag} {x qual : Str} {st : Stmt} {f : Addr} {fd : FuncData} {p0 p1 p2 p3 p4 : Str} (F : Fun K x qual st f fd) (h : ∀ (kV doc pm : Value) (an : Option Addr) (cdv ct : Value) (x0 x1 x2 x3 x4 : Value), bindArgs (PySem.W.fnOf x qual (defArgs st) (defBody st) (defScope st) .none kV doc pm an cdv ct) ⟨[x0, x1, x2, x3, x4], []⟩ = pure ([p0, p1, p2, p3, p4].zip [x0, x1, x2, x3, x4])) : Binds K fd [p0, p1, p2, p3, p4] [] :=
  F.binds (ps := [p0, p1, p2, p3, p4]) fun kV doc pm an cdv ct us hl => match us, hl with
    | [x0, x1, x2, x3, x4], _ => h kV doc pm an cdv ct x0 x1 x2 x3 x4
theorem binds6 {K : PySem.W.Frag} {x qual : Str} {st : Stmt} {f : Addr} {fd : FuncData} {p0 p1 p2 p3 p4 p5 : Str} (F : Fun K x qual st f fd) (h : ∀ (kV doc pm : Value) (an : Option Addr) (cdv ct : Value) (x0 x1 x2 x3 x4 x5 : Value), bindArgs (PySem.W.fnOf x qual (defArgs st) (defBody st) (defScope st) .none kV doc pm an cdv ct) ⟨[x0, x1, x2, x3, x4, x5], []⟩ = pure ([p0, p1, p2, p3, p4, p5].zip [x0, x1, x2, x3, x4, x5])) : Binds K fd [p0, p1, p2, p3, p4, p5] [] :=
  F.binds (ps := [p0, p1, p2, p3, p4, p5]) fun kV doc pm an cdv ct us hl => match us, hl with
    | [x0, x1, x2, x3, x4, x5], _ => h kV doc pm an cdv ct x0 x1 x2 x3 x4 x5
theorem binds7 {K : PySem.W.Frag} {x qual : Str} {st : Stmt} {f : Addr} {fd : FuncData} {p0 p1 p2 p3 p4 p5 p6 : Str} (F : Fun K x qual st f fd) (h : ∀ (kV doc pm : Value) (an : Option Addr) (cdv ct : Value) (x0 x1 x2 x3 x4 x5 x6 : Value), bindArgs (PySem.W.fnOf x qual (defArgs st) (defBody st) (defScope st) .none kV doc pm an cdv ct) ⟨[x0, x1, x2, x3, x4, x5, x6], []⟩ = pure ([p0, p1, p2, p3, p4, p5, p6].zip [x0, x1, x2, x3, x4, x5, x6])) : Binds K fd [p0, p1, p2, p3, p4, p5, p6] [] :=
  F.binds (ps := [p0, p1, p2, p3, p4, p5, p6]) fun kV doc pm an cdv ct us hl => match us, hl with
    | [x0, x1, x2, x3, x4, x5, x6], _ => h kV doc pm an cdv ct x0 x1 x2 x3 x4 x5 x6
theorem all_mk {l : PySem.W.OpenLaw} {w : World} {K : PySem.W.Frag} {h : Heap} {mg : Str → Option Value} {fa : Addr} (X : K.In h) (G : h.Ns mainGlobals mg) (hfa : mg "law" = some (.ref fa))
    {f0 : Addr} {oc0 kV0 dc0 pm0 cd0 ct0 : Value} {od0 an0 : Option Addr} {sl0 : Array (Option Value)} (a0 : PySem.W.nsIn K mainGlobals "is_within" = some (some (.ref f0))) (l0 : K.lookup f0 = some ⟨oc0, od0, .func (PySem.W.fnOf "is_within" "is_within" (defArgs (top 6)) (defBody (top 6)) (defScope (top 6)) .none kV0 dc0 pm0 an0 cd0 ct0), sl0⟩) (c0 : PySem.W.codeIn K cd0 "is_within" = true) (k0 : PySem.W.keepIn K (.ref f0) = true)
    {f1 : Addr} {oc1 kV1 dc1 pm1 cd1 ct1 : Value} {od1 an1 : Option Addr} {sl1 : Array (Option Value)} (a1 : PySem.W.nsIn K mainGlobals "is_upto" = some (some (.ref f1))) (l1 : K.lookup f1 = some ⟨oc1, od1, .func (PySem.W.fnOf "is_upto" "is_upto" (defArgs (top 7)) (defBody (top 7)) (defScope (top 7)) .none kV1 dc1 pm1 an1 cd1 ct1), sl1⟩) (c1 : PySem.W.codeIn K cd1 "is_upto" = true) (k1 : PySem.W.keepIn K (.ref f1) = true)
    {f2 : Addr} {oc2 kV2 dc2 pm2 cd2 ct2 : Value} {od2 an2 : Option Addr} {sl2 : Array (Option Value)} (a2 : PySem.W.nsIn K mainGlobals "are_persons" = some (some (.ref f2))) (l2 : K.lookup f2 = some ⟨oc2, od2, .func (PySem.W.fnOf "are_persons" "are_persons" (defArgs (top 11)) (defBody (top 11)) (defScope (top 11)) .none kV2 dc2 pm2 an2 cd2 ct2), sl2⟩) (c2 : PySem.W.codeIn K cd2 "are_persons" = true) (k2 : PySem.W.keepIn K (.ref f2) = true)
    {f3 : Addr} {oc3 kV3 dc3 pm3 cd3 ct3 : Value} {od3 an3 : Option Addr} {sl3 : Array (Option Value)} (a3 : PySem.W.nsIn K mainGlobals "is_hearing" = some (some (.ref f3))) (l3 : K.lookup f3 = some ⟨oc3, od3, .func (PySem.W.fnOf "is_hearing" "is_hearing" (defArgs (top 12)) (defBody (top 12)) (defScope (top 12)) .none kV3 dc3 pm3 an3 cd3 ct3), sl3⟩) (c3 : PySem.W.codeIn K cd3 "is_hearing" = true) (k3 : PySem.W.keepIn K (.ref f3) = true)
    {f4 : Addr} {oc4 kV4 dc4 pm4 cd4 ct4 : Value} {od4 an4 : Option Addr} {sl4 : Array (Option Value)} (a4 : PySem.W.nsIn K mainGlobals "is_docket" = some (some (.ref f4))) (l4 : K.lookup f4 = some ⟨oc4, od4, .func (PySem.W.fnOf "is_docket" "is_docket" (defArgs (top 13)) (defBody (top 13)) (defScope (top 13)) .none kV4 dc4 pm4 an4 cd4 ct4), sl4⟩) (c4 : PySem.W.codeIn K cd4 "is_docket" = true) (k4 : PySem.W.keepIn K (.ref f4) = true)
    {f5 : Addr} {oc5 kV5 dc5 pm5 cd5 ct5 : Value} {od5 an5 : Option Addr} {sl5 : Array (Option Value)} (a5 : PySem.W.nsIn K mainGlobals "need_docket" = some (some (.ref f5))) (l5 : K.lookup f5 = some ⟨oc5, od5, .func (PySem.W.fnOf "need_docket" "need_docket" (defArgs (top 14)) (defBody (top 14)) (defScope (top 14)) .none kV5 dc5 pm5 an5 cd5 ct5), sl5⟩) (c5 : PySem.W.codeIn K cd5 "need_docket" = true) (k5 : PySem.W.keepIn K (.ref f5) = true)
    {f6 : Addr} {oc6 kV6 dc6 pm6 cd6 ct6 : Value} {od6 an6 : Option Addr} {sl6 : Array (Option Value)} (a6 : PySem.W.nsIn K mainGlobals "least_span" = some (some (.ref f6))) (l6 : K.lookup f6 = some ⟨oc6, od6, .func (PySem.W.fnOf "least_span" "least_span" (defArgs (top 15)) (defBody (top 15)) (defScope (top 15)) .none kV6 dc6 pm6 an6 cd6 ct6), sl6⟩) (c6 : PySem.W.codeIn K cd6 "least_span" = true) (k6 : PySem.W.keepIn K (.ref f6) = true)
    {cS_Search : Addr} (zc_Search : PySem.W.nsIn K mainGlobals "Search" = some (some (.ref cS_Search))) (zk_Search : PySem.W.keepIn K (.ref cS_Search) = true) (zp_Search : PySem.W.plainGet K cS_Search Str.empty = true) (zh_Search : PySem.W.hasDictIn K cS_Search = true) (zo_Search : PySem.W.plainOver K cS_Search = true) (zs_Search : PySem.W.findIn K (.ref cS_Search) "__setattr__" = some (some (.builtin "object.__setattr__"))) (zm_Search : PySem.W.makesIn K cS_Search = true)
    (zn_Search_docket : PySem.W.findIn K (.ref cS_Search) "docket" = some none)
    (zn_Search_best : PySem.W.findIn K (.ref cS_Search) "best" = some none)
    {f7 : Addr} {oc7 kV7 dc7 pm7 cd7 ct7 : Value} {od7 an7 : Option Addr} {sl7 : Array (Option Value)} (a7 : PySem.W.findIn K (.ref cS_Search) "__init__" = some (some (.ref f7))) (l7 : K.lookup f7 = some ⟨oc7, od7, .func (PySem.W.fnOf "__init__" "Search.__init__" (defArgs (clsDef (top 16) 0)) (defBody (clsDef (top 16) 0)) (defScope (clsDef (top 16) 0)) .none kV7 dc7 pm7 an7 cd7 ct7), sl7⟩) (c7 : PySem.W.codeIn K cd7 "Search.__init__" = true) (k7 : PySem.W.keepIn K (.ref f7) = true) (i7 : PySem.W.isFn K (.ref f7) = true)
    {f8 : Addr} {oc8 kV8 dc8 pm8 cd8 ct8 : Value} {od8 an8 : Option Addr} {sl8 : Array (Option Value)} (a8 : PySem.W.findIn K (.ref cS_Search) "go_on" = some (some (.ref f8))) (l8 : K.lookup f8 = some ⟨oc8, od8, .func (PySem.W.fnOf "go_on" "Search.go_on" (defArgs (clsDef (top 16) 1)) (defBody (clsDef (top 16) 1)) (defScope (clsDef (top 16) 1)) .none kV8 dc8 pm8 an8 cd8 ct8), sl8⟩) (c8 : PySem.W.codeIn K cd8 "Search.go_on" = true) (k8 : PySem.W.keepIn K (.ref f8) = true) (i8 : PySem.W.isFn K (.ref f8) = true)
    {f9 : Addr} {oc9 kV9 dc9 pm9 cd9 ct9 : Value} {od9 an9 : Option Addr} {sl9 : Array (Option Value)} (a9 : PySem.W.nsIn K mainGlobals "within" = some (some (.ref f9))) (l9 : K.lookup f9 = some ⟨oc9, od9, .func (PySem.W.fnOf "within" "within" (defArgs (top 20)) (defBody (top 20)) (defScope (top 20)) .none kV9 dc9 pm9 an9 cd9 ct9), sl9⟩) (c9 : PySem.W.codeIn K cd9 "within" = true) (k9 : PySem.W.keepIn K (.ref f9) = true)
    {f10 : Addr} {oc10 kV10 dc10 pm10 cd10 ct10 : Value} {od10 an10 : Option Addr} {sl10 : Array (Option Value)} (a10 : PySem.W.nsIn K mainGlobals "least_crowd" = some (some (.ref f10))) (l10 : K.lookup f10 = some ⟨oc10, od10, .func (PySem.W.fnOf "least_crowd" "least_crowd" (defArgs (top 21)) (defBody (top 21)) (defScope (top 21)) .none kV10 dc10 pm10 an10 cd10 ct10), sl10⟩) (c10 : PySem.W.codeIn K cd10 "least_crowd" = true) (k10 : PySem.W.keepIn K (.ref f10) = true)
    {f11 : Addr} {oc11 kV11 dc11 pm11 cd11 ct11 : Value} {od11 an11 : Option Addr} {sl11 : Array (Option Value)} (a11 : PySem.W.nsIn K mainGlobals "best_of" = some (some (.ref f11))) (l11 : K.lookup f11 = some ⟨oc11, od11, .func (PySem.W.fnOf "best_of" "best_of" (defArgs (top 17)) (defBody (top 17)) (defScope (top 17)) .none kV11 dc11 pm11 an11 cd11 ct11), sl11⟩) (c11 : PySem.W.codeIn K cd11 "best_of" = true) (k11 : PySem.W.keepIn K (.ref f11) = true)
    {f12 : Addr} {oc12 kV12 dc12 pm12 cd12 ct12 : Value} {od12 an12 : Option Addr} {sl12 : Array (Option Value)} (a12 : PySem.W.nsIn K mainGlobals "best_order" = some (some (.ref f12))) (l12 : K.lookup f12 = some ⟨oc12, od12, .func (PySem.W.fnOf "best_order" "best_order" (defArgs (top 18)) (defBody (top 18)) (defScope (top 18)) .none kV12 dc12 pm12 an12 cd12 ct12), sl12⟩) (c12 : PySem.W.codeIn K cd12 "best_order" = true) (k12 : PySem.W.keepIn K (.ref f12) = true)
    {f13 : Addr} {oc13 kV13 dc13 pm13 cd13 ct13 : Value} {od13 an13 : Option Addr} {sl13 : Array (Option Value)} (a13 : PySem.W.nsIn K mainGlobals "fewest_kept" = some (some (.ref f13))) (l13 : K.lookup f13 = some ⟨oc13, od13, .func (PySem.W.fnOf "fewest_kept" "fewest_kept" (defArgs (top 19)) (defBody (top 19)) (defScope (top 19)) .none kV13 dc13 pm13 an13 cd13 ct13), sl13⟩) (c13 : PySem.W.codeIn K cd13 "fewest_kept" = true) (k13 : PySem.W.keepIn K (.ref f13) = true)
    {f14 : Addr} {oc14 kV14 dc14 pm14 cd14 ct14 : Value} {od14 an14 : Option Addr} {sl14 : Array (Option Value)} (a14 : PySem.W.nsIn K mainGlobals "_law_cell" = some (some (.ref f14))) (l14 : K.lookup f14 = some ⟨oc14, od14, .func (PySem.W.fnOf "_law_cell" "_law_cell" (defArgs (top 23)) (defBody (top 23)) (defScope (top 23)) .none kV14 dc14 pm14 an14 cd14 ct14), sl14⟩) (c14 : PySem.W.codeIn K cd14 "_law_cell" = true) (k14 : PySem.W.keepIn K (.ref f14) = true)
    {f15 : Addr} {oc15 kV15 dc15 pm15 cd15 ct15 : Value} {od15 an15 : Option Addr} {sl15 : Array (Option Value)} (a15 : PySem.W.nsIn K mainGlobals "_law_pen" = some (some (.ref f15))) (l15 : K.lookup f15 = some ⟨oc15, od15, .func (PySem.W.fnOf "_law_pen" "_law_pen" (defArgs (top 24)) (defBody (top 24)) (defScope (top 24)) .none kV15 dc15 pm15 an15 cd15 ct15), sl15⟩) (c15 : PySem.W.codeIn K cd15 "_law_pen" = true) (k15 : PySem.W.keepIn K (.ref f15) = true)
    {f16 : Addr} {oc16 kV16 dc16 pm16 cd16 ct16 : Value} {od16 an16 : Option Addr} {sl16 : Array (Option Value)} (a16 : PySem.W.nsIn K mainGlobals "_law_draw" = some (some (.ref f16))) (l16 : K.lookup f16 = some ⟨oc16, od16, .func (PySem.W.fnOf "_law_draw" "_law_draw" (defArgs (top 25)) (defBody (top 25)) (defScope (top 25)) .none kV16 dc16 pm16 an16 cd16 ct16), sl16⟩) (c16 : PySem.W.codeIn K cd16 "_law_draw" = true) (k16 : PySem.W.keepIn K (.ref f16) = true)
    {f17 : Addr} {oc17 kV17 dc17 pm17 cd17 ct17 : Value} {od17 an17 : Option Addr} {sl17 : Array (Option Value)} (a17 : PySem.W.nsIn K mainGlobals "_law_persons" = some (some (.ref f17))) (l17 : K.lookup f17 = some ⟨oc17, od17, .func (PySem.W.fnOf "_law_persons" "_law_persons" (defArgs (top 26)) (defBody (top 26)) (defScope (top 26)) .none kV17 dc17 pm17 an17 cd17 ct17), sl17⟩) (c17 : PySem.W.codeIn K cd17 "_law_persons" = true) (k17 : PySem.W.keepIn K (.ref f17) = true)
    {f18 : Addr} {oc18 kV18 dc18 pm18 cd18 ct18 : Value} {od18 an18 : Option Addr} {sl18 : Array (Option Value)} (a18 : PySem.W.nsIn K mainGlobals "_law_docket" = some (some (.ref f18))) (l18 : K.lookup f18 = some ⟨oc18, od18, .func (PySem.W.fnOf "_law_docket" "_law_docket" (defArgs (top 27)) (defBody (top 27)) (defScope (top 27)) .none kV18 dc18 pm18 an18 cd18 ct18), sl18⟩) (c18 : PySem.W.codeIn K cd18 "_law_docket" = true) (k18 : PySem.W.keepIn K (.ref f18) = true)
    {f19 : Addr} {oc19 kV19 dc19 pm19 cd19 ct19 : Value} {od19 an19 : Option Addr} {sl19 : Array (Option Value)} (a19 : PySem.W.nsIn K mainGlobals "_law_orders" = some (some (.ref f19))) (l19 : K.lookup f19 = some ⟨oc19, od19, .func (PySem.W.fnOf "_law_orders" "_law_orders" (defArgs (top 28)) (defBody (top 28)) (defScope (top 28)) .none kV19 dc19 pm19 an19 cd19 ct19), sl19⟩) (c19 : PySem.W.codeIn K cd19 "_law_orders" = true) (k19 : PySem.W.keepIn K (.ref f19) = true)
    {f20 : Addr} {oc20 kV20 dc20 pm20 cd20 ct20 : Value} {od20 an20 : Option Addr} {sl20 : Array (Option Value)} (a20 : PySem.W.nsIn K mainGlobals "_law_kept" = some (some (.ref f20))) (l20 : K.lookup f20 = some ⟨oc20, od20, .func (PySem.W.fnOf "_law_kept" "_law_kept" (defArgs (top 29)) (defBody (top 29)) (defScope (top 29)) .none kV20 dc20 pm20 an20 cd20 ct20), sl20⟩) (c20 : PySem.W.codeIn K cd20 "_law_kept" = true) (k20 : PySem.W.keepIn K (.ref f20) = true)
    {f21 : Addr} {oc21 kV21 dc21 pm21 cd21 ct21 : Value} {od21 an21 : Option Addr} {sl21 : Array (Option Value)} (a21 : PySem.W.nsIn K mainGlobals "law" = some (some (.ref f21))) (l21 : K.lookup f21 = some ⟨oc21, od21, .func (PySem.W.fnOf "law" "law" (defArgs (top 30)) (defBody (top 30)) (defScope (top 30)) .none kV21 dc21 pm21 an21 cd21 ct21), sl21⟩) (c21 : PySem.W.codeIn K cd21 "law" = true) (k21 : PySem.W.keepIn K (.ref f21) = true)
    (z_all : PySem.W.nsIn K mainGlobals "all" = some none)
    (z_bool : PySem.W.nsIn K mainGlobals "bool" = some none)
    (z_divmod : PySem.W.nsIn K mainGlobals "divmod" = some none)
    (z_enumerate : PySem.W.nsIn K mainGlobals "enumerate" = some none)
    (z_int : PySem.W.nsIn K mainGlobals "int" = some none)
    (z_isinstance : PySem.W.nsIn K mainGlobals "isinstance" = some none)
    (z_len : PySem.W.nsIn K mainGlobals "len" = some none)
    (z_max : PySem.W.nsIn K mainGlobals "max" = some none)
    (z_min : PySem.W.nsIn K mainGlobals "min" = some none)
    (z_range : PySem.W.nsIn K mainGlobals "range" = some none)
    (z_repr : PySem.W.nsIn K mainGlobals "repr" = some none)
    (z_set : PySem.W.nsIn K mainGlobals "set" = some none)
    (z_sorted : PySem.W.nsIn K mainGlobals "sorted" = some none)
    (z_sum : PySem.W.nsIn K mainGlobals "sum" = some none)
    (z_tuple : PySem.W.nsIn K mainGlobals "tuple" = some none)
    (z_zip : PySem.W.nsIn K mainGlobals "zip" = some none)
    {t_DAYS : Tok} (z_DAYS : PySem.W.nsIn K mainGlobals "DAYS" = some (some (.int 61 t_DAYS)))
    {t_MOST_BEHIND : Tok} (z_MOST_BEHIND : PySem.W.nsIn K mainGlobals "MOST_BEHIND" = some (some (.int 9 t_MOST_BEHIND)))
    {t_MOST_HEARINGS : Tok} (z_MOST_HEARINGS : PySem.W.nsIn K mainGlobals "MOST_HEARINGS" = some (some (.int 6 t_MOST_HEARINGS)))
    {t_PERSONS : Tok} (z_PERSONS : PySem.W.nsIn K mainGlobals "PERSONS" = some (some (.int 6 t_PERSONS)))
    : ∃ (fd : FuncData) (f : List D → Sto → R D), (∀ (s : Shared) (u : Value), BindsTo s fd ⟨[u], []⟩ [("_law_script", u)]) ∧ (∀ base : Heap, K.In base → base.Ns mainGlobals mg → FnG l.prog w K mg base 12 fa fd ["_law_script"] f) ∧ ∀ ns : List Int, ns.length ≤ 63 → ∃ S', f [.scr (ns.map D.int)] [] = .ok (.bl true) S' := by
  have e := hfa.symm.trans (PySem.W.mg_of X G a21)
  cases e
  let T : Tx K mg := {
    a_is_within := f0
    fd_is_within := _
    F_is_within := fun_mk (st := top 6) l0 c0 k0
    g_is_within := PySem.W.mg_of X G a0
    b_is_within := binds3 (fun_mk (st := top 6) l0 c0 k0) fun _ _ _ _ _ _ _ _ _ => rfl
    a_is_upto := f1
    fd_is_upto := _
    F_is_upto := fun_mk (st := top 7) l1 c1 k1
    g_is_upto := PySem.W.mg_of X G a1
    b_is_upto := binds2 (fun_mk (st := top 7) l1 c1 k1) fun _ _ _ _ _ _ _ _ => rfl
    a_are_persons := f2
    fd_are_persons := _
    F_are_persons := fun_mk (st := top 11) l2 c2 k2
    g_are_persons := PySem.W.mg_of X G a2
    b_are_persons := binds1 (fun_mk (st := top 11) l2 c2 k2) fun _ _ _ _ _ _ _ => rfl
    a_is_hearing := f3
    fd_is_hearing := _
    F_is_hearing := fun_mk (st := top 12) l3 c3 k3
    g_is_hearing := PySem.W.mg_of X G a3
    b_is_hearing := binds1 (fun_mk (st := top 12) l3 c3 k3) fun _ _ _ _ _ _ _ => rfl
    a_is_docket := f4
    fd_is_docket := _
    F_is_docket := fun_mk (st := top 13) l4 c4 k4
    g_is_docket := PySem.W.mg_of X G a4
    b_is_docket := binds1 (fun_mk (st := top 13) l4 c4 k4) fun _ _ _ _ _ _ _ => rfl
    a_need_docket := f5
    fd_need_docket := _
    F_need_docket := fun_mk (st := top 14) l5 c5 k5
    g_need_docket := PySem.W.mg_of X G a5
    b_need_docket := binds1 (fun_mk (st := top 14) l5 c5 k5) fun _ _ _ _ _ _ _ => rfl
    a_least_span := f6
    fd_least_span := _
    F_least_span := fun_mk (st := top 15) l6 c6 k6
    g_least_span := PySem.W.mg_of X G a6
    b_least_span := binds3 (fun_mk (st := top 15) l6 c6 k6) fun _ _ _ _ _ _ _ _ _ => rfl
    e_Search := cS_Search
    at_Search := clsAt_of zc_Search
    gm_Search := PySem.W.mg_of X G zc_Search
    cl_Search := ⟨zp_Search, zh_Search, zo_Search, zs_Search⟩
    f_Search := fun f hf => ⟨clsAt_of zc_Search, ⟨zp_Search, zh_Search, zo_Search, zs_Search⟩, by
      simp only [List.mem_cons, List.not_mem_nil, or_false] at hf
      rcases hf with rfl | rfl
      · exact zn_Search_docket
      · exact zn_Search_best⟩
    a_Search_init := f7
    fd_Search_init := _
    F_Search_init := fun_mk (st := clsDef (top 16) 0) l7 c7 k7
    mk_Search := ⟨zm_Search, a7, i7, zk_Search⟩
    b_Search_init := binds2 (fun_mk (st := clsDef (top 16) 0) l7 c7 k7) fun _ _ _ _ _ _ _ _ => rfl
    a_Search_go_on := f8
    fd_Search_go_on := _
    F_Search_go_on := fun_mk (st := clsDef (top 16) 1) l8 c8 k8
    me_Search_go_on := ⟨a8, i8, k8⟩
    b_Search_go_on := binds2 (fun_mk (st := clsDef (top 16) 1) l8 c8 k8) fun _ _ _ _ _ _ _ _ => rfl
    a_within := f9
    fd_within := _
    F_within := fun_mk (st := top 20) l9 c9 k9
    g_within := PySem.W.mg_of X G a9
    b_within := binds3 (fun_mk (st := top 20) l9 c9 k9) fun _ _ _ _ _ _ _ _ _ => rfl
    a_least_crowd := f10
    fd_least_crowd := _
    F_least_crowd := fun_mk (st := top 21) l10 c10 k10
    g_least_crowd := PySem.W.mg_of X G a10
    b_least_crowd := binds1 (fun_mk (st := top 21) l10 c10 k10) fun _ _ _ _ _ _ _ => rfl
    a_best_of := f11
    fd_best_of := _
    F_best_of := fun_mk (st := top 17) l11 c11 k11
    g_best_of := PySem.W.mg_of X G a11
    b_best_of := binds1 (fun_mk (st := top 17) l11 c11 k11) fun _ _ _ _ _ _ _ => rfl
    a_best_order := f12
    fd_best_order := _
    F_best_order := fun_mk (st := top 18) l12 c12 k12
    g_best_order := PySem.W.mg_of X G a12
    b_best_order := binds1 (fun_mk (st := top 18) l12 c12 k12) fun _ _ _ _ _ _ _ => rfl
    a_fewest_kept := f13
    fd_fewest_kept := _
    F_fewest_kept := fun_mk (st := top 19) l13 c13 k13
    g_fewest_kept := PySem.W.mg_of X G a13
    b_fewest_kept := binds1 (fun_mk (st := top 19) l13 c13 k13) fun _ _ _ _ _ _ _ => rfl
    a_law_cell := f14
    fd_law_cell := _
    F_law_cell := fun_mk (st := top 23) l14 c14 k14
    g_law_cell := PySem.W.mg_of X G a14
    b_law_cell := binds2 (fun_mk (st := top 23) l14 c14 k14) fun _ _ _ _ _ _ _ _ => rfl
    a_law_pen := f15
    fd_law_pen := _
    F_law_pen := fun_mk (st := top 24) l15 c15 k15
    g_law_pen := PySem.W.mg_of X G a15
    b_law_pen := binds1 (fun_mk (st := top 24) l15 c15 k15) fun _ _ _ _ _ _ _ => rfl
    a_law_draw := f16
    fd_law_draw := _
    F_law_draw := fun_mk (st := top 25) l16 c16 k16
    g_law_draw := PySem.W.mg_of X G a16
    b_law_draw := binds2 (fun_mk (st := top 25) l16 c16 k16) fun _ _ _ _ _ _ _ _ => rfl
    a_law_persons := f17
    fd_law_persons := _
    F_law_persons := fun_mk (st := top 26) l17 c17 k17
    g_law_persons := PySem.W.mg_of X G a17
    b_law_persons := binds1 (fun_mk (st := top 26) l17 c17 k17) fun _ _ _ _ _ _ _ => rfl
    a_law_docket := f18
    fd_law_docket := _
    F_law_docket := fun_mk (st := top 27) l18 c18 k18
    g_law_docket := PySem.W.mg_of X G a18
    b_law_docket := binds3 (fun_mk (st := top 27) l18 c18 k18) fun _ _ _ _ _ _ _ _ _ => rfl
    a_law_orders := f19
    fd_law_orders := _
    F_law_orders := fun_mk (st := top 28) l19 c19 k19
    g_law_orders := PySem.W.mg_of X G a19
    b_law_orders := binds1 (fun_mk (st := top 28) l19 c19 k19) fun _ _ _ _ _ _ _ => rfl
    a_law_kept := f20
    fd_law_kept := _
    F_law_kept := fun_mk (st := top 29) l20 c20 k20
    g_law_kept := PySem.W.mg_of X G a20
    b_law_kept := binds2 (fun_mk (st := top 29) l20 c20 k20) fun _ _ _ _ _ _ _ _ => rfl
    a_law := fa
    fd_law := _
    F_law := fun_mk (st := top 30) l21 c21 k21
    g_law := PySem.W.mg_of X G a21
    b_law := binds1 (fun_mk (st := top 30) l21 c21 k21) fun _ _ _ _ _ _ _ => rfl
    n_all := PySem.W.mg_none_of X G z_all
    n_bool := PySem.W.mg_none_of X G z_bool
    n_divmod := PySem.W.mg_none_of X G z_divmod
    n_enumerate := PySem.W.mg_none_of X G z_enumerate
    n_int := PySem.W.mg_none_of X G z_int
    n_isinstance := PySem.W.mg_none_of X G z_isinstance
    n_len := PySem.W.mg_none_of X G z_len
    n_max := PySem.W.mg_none_of X G z_max
    n_min := PySem.W.mg_none_of X G z_min
    n_range := PySem.W.mg_none_of X G z_range
    n_repr := PySem.W.mg_none_of X G z_repr
    n_set := PySem.W.mg_none_of X G z_set
    n_sorted := PySem.W.mg_none_of X G z_sorted
    n_sum := PySem.W.mg_none_of X G z_sum
    n_tuple := PySem.W.mg_none_of X G z_tuple
    n_zip := PySem.W.mg_none_of X G z_zip
    c_DAYS := ⟨_, PySem.W.mg_of X G z_DAYS⟩
    c_MOST_BEHIND := ⟨_, PySem.W.mg_of X G z_MOST_BEHIND⟩
    c_MOST_HEARINGS := ⟨_, PySem.W.mg_of X G z_MOST_HEARINGS⟩
    c_PERSONS := ⟨_, PySem.W.mg_of X G z_PERSONS⟩ }
  exact ⟨T.fd_law, m_law, fun s v => .of_eq rfl, fun base _ _ => ok_law T, law_true⟩
end Lk73
open PySem PySem.W PyProof.Rows
set_option maxRecDepth 100000 in
set_option maxHeartbeats 0 in
theorem PySem.Challenge.cw_ridingbench_k73_orders_that_keep_witness_holds : PySem.Challenge.rw_ridingbench_k73_orders_that_keep_witness.Holds := by
  w_on; o_law
  refine holds_open (q := Lk73.q0) (loose := Lk73.loose0) (Xt := fun s => xlAt Lk73.q0 [] s && recOk (RowW.records Lk73.R0.toRowW) s) (XP := XL Lk73.q0 []) (Yf := Hook.obs (kHook Lk73.K0 Lk73.as0 Lk73.as0_eq)) (Ya := Hook.val (kHook Lk73.K0 Lk73.as0 Lk73.as0_eq)) (YP := Hook.says (kHook Lk73.K0 Lk73.as0 Lk73.as0_eq)) (N := 3426) Lk73.left0 (Hook.of (kHook Lk73.K0 Lk73.as0 Lk73.as0_eq)) (Hook.keeps (kHook Lk73.K0 Lk73.as0 Lk73.as0_eq)) (fun s e => xl_of s (Bool.and_eq_true_iff.mp e).1) XL.keeps (by rfl) (by rfl) (by rfl) (fun s e => recFacts_of (Bool.and_eq_true_iff.mp e).2) (by rfl) (by first | assumption | decide +kernel) (by decide +kernel) ⟨rfl, rfl, rfl, rfl, rfl, by decide +kernel⟩ ?hw ?hc
  (case hw => w_witness2)
  k_fill
  refine Z.walk_G (l := PySem.Challenge.rw_ridingbench_k73_orders_that_keep_witness) (n := 63) (k := 12) (x := "_law_script") rfl (by decide) rfl ⟨rfl, by decide, by decide⟩ (fun w h Y => PySem.W.kIn_of Y) ?F
  intro w mg fa h KX G hmg
  refine' Lk73.all_mk KX G hmg ?a0 ?l0 ?c0 ?k0 ?a1 ?l1 ?c1 ?k1 ?a2 ?l2 ?c2 ?k2 ?a3 ?l3 ?c3 ?k3 ?a4 ?l4 ?c4 ?k4 ?a5 ?l5 ?c5 ?k5 ?a6 ?l6 ?c6 ?k6 ?zc_Search ?zk_Search ?zp_Search ?zh_Search ?zo_Search ?zs_Search ?zm_Search ?zn_Search_docket ?zn_Search_best ?a7 ?l7 ?c7 ?k7 ?i7 ?a8 ?l8 ?c8 ?k8 ?i8 ?a9 ?l9 ?c9 ?k9 ?a10 ?l10 ?c10 ?k10 ?a11 ?l11 ?c11 ?k11 ?a12 ?l12 ?c12 ?k12 ?a13 ?l13 ?c13 ?k13 ?a14 ?l14 ?c14 ?k14 ?a15 ?l15 ?c15 ?k15 ?a16 ?l16 ?c16 ?k16 ?a17 ?l17 ?c17 ?k17 ?a18 ?l18 ?c18 ?k18 ?a19 ?l19 ?c19 ?k19 ?a20 ?l20 ?c20 ?k20 ?a21 ?l21 ?c21 ?k21 ?z_all ?z_bool ?z_divmod ?z_enumerate ?z_int ?z_isinstance ?z_len ?z_max ?z_min ?z_range ?z_repr ?z_set ?z_sorted ?z_sum ?z_tuple ?z_zip ?z_DAYS ?z_MOST_BEHIND ?z_MOST_HEARINGS ?z_PERSONS
  (case a0 => k_is)
  (case l0 => k_is)
  (case c0 => k_is)
  (case k0 => k_is)
  (case a1 => k_is)
  (case l1 => k_is)
  (case c1 => k_is)
  (case k1 => k_is)
  (case a2 => k_is)
  (case l2 => k_is)
  (case c2 => k_is)
  (case k2 => k_is)
  (case a3 => k_is)
  (case l3 => k_is)
  (case c3 => k_is)
  (case k3 => k_is)
  (case a4 => k_is)
  (case l4 => k_is)
  (case c4 => k_is)
  (case k4 => k_is)
  (case a5 => k_is)
  (case l5 => k_is)
  (case c5 => k_is)
  (case k5 => k_is)
  (case a6 => k_is)
  (case l6 => k_is)
  (case c6 => k_is)
  (case k6 => k_is)
  (case zc_Search => k_is)
  (case zk_Search => k_is)
  (case zp_Search => k_is)
  (case zh_Search => k_is)
  (case zo_Search => k_is)
  (case zs_Search => k_is)
  (case zm_Search => k_is)
  (case zn_Search_docket => k_is)
  (case zn_Search_best => k_is)
  (case a7 => k_is)
  (case l7 => k_is)
  (case c7 => k_is)
  (case k7 => k_is)
  (case i7 => k_is)
  (case a8 => k_is)
  (case l8 => k_is)
  (case c8 => k_is)
  (case k8 => k_is)
  (case i8 => k_is)
  (case a9 => k_is)
  (case l9 => k_is)
  (case c9 => k_is)
  (case k9 => k_is)
  (case a10 => k_is)
  (case l10 => k_is)
  (case c10 => k_is)
  (case k10 => k_is)
  (case a11 => k_is)
  (case l11 => k_is)
  (case c11 => k_is)
  (case k11 => k_is)
  (case a12 => k_is)
  (case l12 => k_is)
  (case c12 => k_is)
  (case k12 => k_is)
  (case a13 => k_is)
  (case l13 => k_is)
  (case c13 => k_is)
  (case k13 => k_is)
  (case a14 => k_is)
  (case l14 => k_is)
  (case c14 => k_is)
  (case k14 => k_is)
  (case a15 => k_is)
  (case l15 => k_is)
  (case c15 => k_is)
  (case k15 => k_is)
  (case a16 => k_is)
  (case l16 => k_is)
  (case c16 => k_is)
  (case k16 => k_is)
  (case a17 => k_is)
  (case l17 => k_is)
  (case c17 => k_is)
  (case k17 => k_is)
  (case a18 => k_is)
  (case l18 => k_is)
  (case c18 => k_is)
  (case k18 => k_is)
  (case a19 => k_is)
  (case l19 => k_is)
  (case c19 => k_is)
  (case k19 => k_is)
  (case a20 => k_is)
  (case l20 => k_is)
  (case c20 => k_is)
  (case k20 => k_is)
  (case a21 => k_is)
  (case l21 => k_is)
  (case c21 => k_is)
  (case k21 => k_is)
  (case z_all => k_is)
  (case z_bool => k_is)
  (case z_divmod => k_is)
  (case z_enumerate => k_is)
  (case z_int => k_is)
  (case z_isinstance => k_is)
  (case z_len => k_is)
  (case z_max => k_is)
  (case z_min => k_is)
  (case z_range => k_is)
  (case z_repr => k_is)
  (case z_set => k_is)
  (case z_sorted => k_is)
  (case z_sum => k_is)
  (case z_tuple => k_is)
  (case z_zip => k_is)
  (case z_DAYS => k_is)
  (case z_MOST_BEHIND => k_is)
  (case z_MOST_HEARINGS => k_is)
  (case z_PERSONS => k_is)
