import PyProof.Rows.All
import Wide.All
import OpenK.AllK
import Wide.FinOn
import PySem.Challenge.RW_pc0033_01
set_option Elab.async false
set_option linter.all false
set_option genSizeOf false
set_option genSizeOfSpec false
set_option bootstrap.genMatcherCode false
set_option compiler.extract_closed false
set_option maxRecDepth 100000
set_option maxHeartbeats 8000000
set_option synthInstance.maxHeartbeats 200000
set_option synthInstance.maxSize 2000
namespace Mine
open PySem PySem.Calls PyProof.Rows PySem.W
section
-- HeadP
noncomputable abbrev pw := PySem.Challenge.pw_pc0033_01
noncomputable abbrev rw0 := PySem.Challenge.rw_pc0033_01
/-- the law alone -/
noncomputable def qv : Program := { pw with main := { pw.main with body := pw.main.body.drop 25 } }
noncomputable def loose : List Str := ["_wall", "least", "greatest", "next_from", "has", "has_domains", "up_to", "from_on", "without", "meet", "negation", "struck", "said_of", "Store", "Propagator", "Inverse", "_law_pick", "_law_spans", "_law_lot", "_law_turned", "_law_pairs"]
theorem left_of {p q : Program} {loose : List Str} {Xt : Shared → Bool} {α : Type} {Yf : Shared → α} {Ya : World → α} {N : Nat} {g0 : Bool} {H₀ : Params → Heap} {gs₀ : Array GenState} {d₀ : Drawn} {k₀ : Nat} {m₀ : Nat} {ann : Option Value}
    (open_ : ∀ w : World, (fencedOpening treeTable p w N).map (fun s => (s.heap, s.gens, s.drawn, s.toks)) = some (H₀ w.params, gs₀, d₀, k₀))
    (size : ∀ w : World, ((H₀ w.params).isNs mainGlobals && gs₀.size == 0, (H₀ w.params).objs.size, (H₀ w.params).nsMap mainGlobals "__annotations__") = (true, m₀, ann))
    (run : ∀ w : World, (fun os => (topRun treeTable p w m₀ ann N ⟨H₀ w.params, gs₀, d₀, k₀, os⟩ (topStub p)).map fun s => ((staticsOk (importedModules p.main.body) (H₀ w.params) s.heap && namesBound p s.heap && gensDone s && laidKept (H₀ w.params) s.heap),
        openSeen q loose (importedModules p.main.body) Xt g0 s, Yf s)) = fun _ => some (true, openGood q loose, Ya w)) : LeftO p q loose Xt Yf Ya N g0 := fun w => by
  obtain ⟨⟨h, gs, d, k, os⟩, e, e'⟩ := Option.map_eq_some_iff.mp (open_ w)
  obtain ⟨rfl, rfl, rfl, rfl⟩ : h = H₀ w.params ∧ gs = gs₀ ∧ d = d₀ ∧ k = k₀ := by simpa using e'
  obtain ⟨z1, z2, z3⟩ : _ ∧ _ ∧ _ := by simpa only [Prod.mk.injEq] using size w
  obtain ⟨s₁, r, l⟩ := Option.map_eq_some_iff.mp (congrFun (run w) os)
  obtain ⟨l1, l2, l3⟩ : _ ∧ _ ∧ _ := by simpa only [Prod.mk.injEq] using l
  have t : topFrom treeTable p w N ⟨H₀ w.params, gs, d, k, os⟩ = some s₁ := by
    unfold topFrom
    dsimp only
    rw [z1, z2, z3, r]
    show (match staticsOk (importedModules p.main.body) (H₀ w.params) s₁.heap && namesBound p s₁.heap && gensDone s₁ && laidKept (H₀ w.params) s₁.heap with | true => _ | false => _) = _
    rw [l1]
  unfold openEnds
  rw [e]
  show (topFrom treeTable p w N _).map _ = _
  rw [t]
  exact congrArg some (Prod.ext l2 l3)
noncomputable def topS (i : Nat) : Option Stmt := pw.main.body[i]?
noncomputable def inCls (i j : Nat) : Option Stmt := match topS i with
  | some (.ClassDef _ _ _ b _ _ _ _ _ _ _) => b[j]?
  | _ => none
noncomputable def fdOf : Option Stmt → Option (Arguments × List Stmt × Scope)
  | some (.FunctionDef _ a b _ _ _ s _ _ _) => some (a, b, s)
  | _ => none
noncomputable def KF (P : Params) : Frag :=  (fun (a42 : Arguments) (b42 : List Stmt) (s42 : Scope) (_ : fdOf (topS 4) = some (a42, b42, s42)) (a49 : Arguments) (b49 : List Stmt) (s49 : Scope) (_ : fdOf (topS 5) = some (a49, b49, s49)) (a54 : Arguments) (b54 : List Stmt) (s54 : Scope) (_ : fdOf (topS 7) = some (a54, b54, s54)) (a59 : Arguments) (b59 : List Stmt) (s59 : Scope) (_ : fdOf (topS 8) = some (a59, b59, s59)) (a66 : Arguments) (b66 : List Stmt) (s66 : Scope) (_ : fdOf (topS 9) = some (a66, b66, s66)) (a73 : Arguments) (b73 : List Stmt) (s73 : Scope) (_ : fdOf (topS 10) = some (a73, b73, s73)) (a80 : Arguments) (b80 : List Stmt) (s80 : Scope) (_ : fdOf (topS 11) = some (a80, b80, s80)) (a87 : Arguments) (b87 : List Stmt) (s87 : Scope) (_ : fdOf (topS 12) = some (a87, b87, s87)) (a108 : Arguments) (b108 : List Stmt) (s108 : Scope) (_ : fdOf (inCls 15 0) = some (a108, b108, s108)) (a115 : Arguments) (b115 : List Stmt) (s115 : Scope) (_ : fdOf (inCls 15 1) = some (a115, b115, s115)) (a129 : Arguments) (b129 : List Stmt) (s129 : Scope) (_ : fdOf (inCls 15 3) = some (a129, b129, s129)) (a157 : Arguments) (b157 : List Stmt) (s157 : Scope) (_ : fdOf (inCls 15 7) = some (a157, b157, s157)) (a164 : Arguments) (b164 : List Stmt) (s164 : Scope) (_ : fdOf (inCls 15 8) = some (a164, b164, s164)) (a171 : Arguments) (b171 : List Stmt) (s171 : Scope) (_ : fdOf (inCls 15 9) = some (a171, b171, s171)) (a192 : Arguments) (b192 : List Stmt) (s192 : Scope) (_ : fdOf (inCls 15 12) = some (a192, b192, s192)) (a199 : Arguments) (b199 : List Stmt) (s199 : Scope) (_ : fdOf (inCls 15 13) = some (a199, b199, s199)) (a213 : Arguments) (b213 : List Stmt) (s213 : Scope) (_ : fdOf (inCls 15 15) = some (a213, b213, s213)) (a220 : Arguments) (b220 : List Stmt) (s220 : Scope) (_ : fdOf (inCls 15 16) = some (a220, b220, s220)) (a227 : Arguments) (b227 : List Stmt) (s227 : Scope) (_ : fdOf (inCls 15 17) = some (a227, b227, s227)) (a262 : Arguments) (b262 : List Stmt) (s262 : Scope) (_ : fdOf (inCls 16 0) = some (a262, b262, s262)) (a306 : Arguments) (b306 : List Stmt) (s306 : Scope) (_ : fdOf (inCls 18 0) = some (a306, b306, s306)) (a320 : Arguments) (b320 : List Stmt) (s320 : Scope) (_ : fdOf (inCls 18 2) = some (a320, b320, s320)) (a346 : Arguments) (b346 : List Stmt) (s346 : Scope) (_ : fdOf (topS 20) = some (a346, b346, s346)) (a353 : Arguments) (b353 : List Stmt) (s353 : Scope) (_ : fdOf (topS 21) = some (a353, b353, s353)) (a358 : Arguments) (b358 : List Stmt) (s358 : Scope) (_ : fdOf (topS 22) = some (a358, b358, s358)) (a363 : Arguments) (b363 : List Stmt) (s363 : Scope) (_ : fdOf (topS 23) = some (a363, b363, s363)) (a370 : Arguments) (b370 : List Stmt) (s370 : Scope) (_ : fdOf (topS 24) = some (a370, b370, s370)) (a375 : Arguments) (b375 : List Stmt) (s375 : Scope) (_ : fdOf (topS 25) = some (a375, b375, s375)) => ([  (2, { cls := Value.none, data := Data.dict #[] }),
    (3, { cls := Value.type "dict", data := Data.dict #[{ hash := PyData.keyHash P (Str.ofString "__name__"), key := Value.str (Str.ofString "__name__") 165, val := Value.str (Str.ofString "law_pc0033_01") 610 }, { hash := PyData.keyHash P (Str.ofString "__doc__"), key := Value.str (Str.ofString "__doc__") 166, val := Value.none }, { hash := PyData.keyHash P (Str.ofString "__package__"), key := Value.str (Str.ofString "__package__") 167, val := Value.none }, { hash := PyData.keyHash P (Str.ofString "__loader__"), key := Value.str (Str.ofString "__loader__") 168, val := Value.builtin "__main__.__loader__#opaque" }, { hash := PyData.keyHash P (Str.ofString "__spec__"), key := Value.str (Str.ofString "__spec__") 169, val := Value.none }, { hash := PyData.keyHash P (Str.ofString "__annotations__"), key := Value.str (Str.ofString "__annotations__") 170, val := Value.ref 6 }, { hash := PyData.keyHash P (Str.ofString "__builtins__"), key := Value.str (Str.ofString "__builtins__") 171, val := Value.ref 4 }, { hash := PyData.keyHash P (Str.ofString "__file__"), key := Value.str (Str.ofString "__file__") 173, val := Value.str (Str.ofString "/claim/cut.py") 172 }, { hash := PyData.keyHash P (Str.ofString "__cached__"), key := Value.str (Str.ofString "__cached__") 174, val := Value.none }, { hash := PyData.keyHash P (Str.ofString "_wall"), key := Value.str (Str.ofString "_wall") 193, val := Value.ref 21 }, { hash := PyData.keyHash P (Str.ofString "least"), key := Value.str (Str.ofString "least") 202, val := Value.ref 28 }, { hash := PyData.keyHash P (Str.ofString "greatest"), key := Value.str (Str.ofString "greatest") 209, val := Value.ref 35 }, { hash := PyData.keyHash P (Str.ofString "next_from"), key := Value.str (Str.ofString "next_from") 219, val := Value.ref 42 }, { hash := PyData.keyHash P (Str.ofString "has"), key := Value.str (Str.ofString "has") 227, val := Value.ref 49 }, { hash := PyData.keyHash P (Str.ofString "has_domains"), key := Value.str (Str.ofString "has_domains") 228, val := Value.ref 49 }, { hash := PyData.keyHash P (Str.ofString "up_to"), key := Value.str (Str.ofString "up_to") 234, val := Value.ref 54 }, { hash := PyData.keyHash P (Str.ofString "from_on"), key := Value.str (Str.ofString "from_on") 240, val := Value.ref 59 }, { hash := PyData.keyHash P (Str.ofString "without"), key := Value.str (Str.ofString "without") 248, val := Value.ref 66 }, { hash := PyData.keyHash P (Str.ofString "meet"), key := Value.str (Str.ofString "meet") 261, val := Value.ref 73 }, { hash := PyData.keyHash P (Str.ofString "negation"), key := Value.str (Str.ofString "negation") 271, val := Value.ref 80 }, { hash := PyData.keyHash P (Str.ofString "struck"), key := Value.str (Str.ofString "struck") 281, val := Value.ref 87 }, { hash := PyData.keyHash P (Str.ofString "said_of"), key := Value.str (Str.ofString "said_of") 290, val := Value.ref 94 }, { hash := PyData.keyHash P (Str.ofString "Store"), key := Value.str (Str.ofString "Store") 485, val := Value.ref 244 }, { hash := PyData.keyHash P (Str.ofString "Propagator"), key := Value.str (Str.ofString "Propagator") 540, val := Value.ref 286 }, { hash := PyData.keyHash P (Str.ofString "Inverse"), key := Value.str (Str.ofString "Inverse") 609, val := Value.ref 337 }, { hash := PyData.keyHash P (Str.ofString "_law_pick"), key := Value.str (Str.ofString "_law_pick") 619, val := Value.ref 346 }, { hash := PyData.keyHash P (Str.ofString "_law_spans"), key := Value.str (Str.ofString "_law_spans") 628, val := Value.ref 353 }, { hash := PyData.keyHash P (Str.ofString "_law_lot"), key := Value.str (Str.ofString "_law_lot") 634, val := Value.ref 358 }, { hash := PyData.keyHash P (Str.ofString "_law_turned"), key := Value.str (Str.ofString "_law_turned") 640, val := Value.ref 363 }, { hash := PyData.keyHash P (Str.ofString "_law_pairs"), key := Value.str (Str.ofString "_law_pairs") 651, val := Value.ref 370 }, { hash := PyData.keyHash P (Str.ofString "law"), key := Value.str (Str.ofString "law") 657, val := Value.ref 375 }] 31 }),  (41, { cls := Value.type "code", data := Data.fields #[Value.str (Str.ofString "next_from") 210, Value.str (Str.ofString "next_from") 211, Value.str (Str.ofString "/claim/cut.py") 212, Value.int 9 0, Value.int 2 0, Value.int 0 0, Value.int 0 0, Value.int 3 0, Value.ref 36, Value.bool true, Value.int 181 0, Value.ref 37, Value.none, Value.ref 38, Value.ref 39, Value.ref 40, Value.int 217 0, Value.int 9 0, Value.str (Str.ofString "/claim/cut.py") 218] }),  (42, { cls := Value.type "function", data := Data.func { name := Str.ofString "next_from", qualname := Str.ofString "next_from", params := a42, body := FuncBody.stmts b42, scope := s42, globals := 3, closure := [], defaults := Value.none, kwdefaults := Value.none, pyModule := Value.str (Str.ofString "fdsolve.domains") 194, code := Value.ref 41 } }),  (48, { cls := Value.type "code", data := Data.fields #[Value.str (Str.ofString "has") 220, Value.str (Str.ofString "has") 221, Value.str (Str.ofString "/claim/cut.py") 222, Value.int 14 0, Value.int 2 0, Value.int 0 0, Value.int 0 0, Value.int 3 0, Value.ref 43, Value.bool true, Value.int 181 0, Value.ref 44, Value.none, Value.ref 45, Value.ref 46, Value.ref 47, Value.int 225 0, Value.int 14 0, Value.str (Str.ofString "/claim/cut.py") 226] }),  (49, { cls := Value.type "function", data := Data.func { name := Str.ofString "has", qualname := Str.ofString "has", params := a49, body := FuncBody.stmts b49, scope := s49, globals := 3, closure := [], defaults := Value.none, kwdefaults := Value.none, pyModule := Value.str (Str.ofString "fdsolve.domains") 194, code := Value.ref 48 } }),  (53, { cls := Value.type "code", data := Data.fields #[Value.str (Str.ofString "up_to") 229, Value.str (Str.ofString "up_to") 230, Value.str (Str.ofString "/claim/cut.py") 231, Value.int 17 0, Value.int 2 0, Value.int 0 0, Value.int 0 0, Value.int 3 0, Value.ref 50, Value.bool true, Value.int 181 0, Value.ref 51, Value.none, Value.none, Value.none, Value.ref 52, Value.int 232 0, Value.int 17 0, Value.str (Str.ofString "/claim/cut.py") 233] }),  (54, { cls := Value.type "function", data := Data.func { name := Str.ofString "up_to", qualname := Str.ofString "up_to", params := a54, body := FuncBody.stmts b54, scope := s54, globals := 3, closure := [], defaults := Value.none, kwdefaults := Value.none, pyModule := Value.str (Str.ofString "fdsolve.domains") 194, code := Value.ref 53 } }),  (58, { cls := Value.type "code", data := Data.fields #[Value.str (Str.ofString "from_on") 235, Value.str (Str.ofString "from_on") 236, Value.str (Str.ofString "/claim/cut.py") 237, Value.int 19 0, Value.int 2 0, Value.int 0 0, Value.int 0 0, Value.int 3 0, Value.ref 55, Value.bool true, Value.int 181 0, Value.ref 56, Value.none, Value.none, Value.none, Value.ref 57, Value.int 238 0, Value.int 19 0, Value.str (Str.ofString "/claim/cut.py") 239] }),  (59, { cls := Value.type "function", data := Data.func { name := Str.ofString "from_on", qualname := Str.ofString "from_on", params := a59, body := FuncBody.stmts b59, scope := s59, globals := 3, closure := [], defaults := Value.none, kwdefaults := Value.none, pyModule := Value.str (Str.ofString "fdsolve.domains") 194, code := Value.ref 58 } }),  (65, { cls := Value.type "code", data := Data.fields #[Value.str (Str.ofString "without") 241, Value.str (Str.ofString "without") 242, Value.str (Str.ofString "/claim/cut.py") 243, Value.int 21 0, Value.int 2 0, Value.int 0 0, Value.int 0 0, Value.int 3 0, Value.ref 60, Value.bool true, Value.int 181 0, Value.ref 61, Value.none, Value.ref 62, Value.ref 63, Value.ref 64, Value.int 246 0, Value.int 21 0, Value.str (Str.ofString "/claim/cut.py") 247] }),  (66, { cls := Value.type "function", data := Data.func { name := Str.ofString "without", qualname := Str.ofString "without", params := a66, body := FuncBody.stmts b66, scope := s66, globals := 3, closure := [], defaults := Value.none, kwdefaults := Value.none, pyModule := Value.str (Str.ofString "fdsolve.domains") 194, code := Value.ref 65 } }),  (72, { cls := Value.type "code", data := Data.fields #[Value.str (Str.ofString "meet") 249, Value.str (Str.ofString "meet") 250, Value.str (Str.ofString "/claim/cut.py") 251, Value.int 23 0, Value.int 2 0, Value.int 0 0, Value.int 0 0, Value.int 3 0, Value.ref 67, Value.bool true, Value.int 181 0, Value.ref 68, Value.none, Value.ref 69, Value.ref 70, Value.ref 71, Value.int 259 0, Value.int 23 0, Value.str (Str.ofString "/claim/cut.py") 260] }),  (73, { cls := Value.type "function", data := Data.func { name := Str.ofString "meet", qualname := Str.ofString "meet", params := a73, body := FuncBody.stmts b73, scope := s73, globals := 3, closure := [], defaults := Value.none, kwdefaults := Value.none, pyModule := Value.str (Str.ofString "fdsolve.domains") 194, code := Value.ref 72 } }),  (79, { cls := Value.type "code", data := Data.fields #[Value.str (Str.ofString "negation") 262, Value.str (Str.ofString "negation") 263, Value.str (Str.ofString "/claim/cut.py") 264, Value.int 34 0, Value.int 1 0, Value.int 0 0, Value.int 0 0, Value.int 3 0, Value.ref 74, Value.bool true, Value.int 181 0, Value.ref 75, Value.none, Value.ref 76, Value.ref 77, Value.ref 78, Value.int 269 0, Value.int 34 0, Value.str (Str.ofString "/claim/cut.py") 270] }),  (80, { cls := Value.type "function", data := Data.func { name := Str.ofString "negation", qualname := Str.ofString "negation", params := a80, body := FuncBody.stmts b80, scope := s80, globals := 3, closure := [], defaults := Value.none, kwdefaults := Value.none, pyModule := Value.str (Str.ofString "fdsolve.domains") 194, code := Value.ref 79 } }),  (86, { cls := Value.type "code", data := Data.fields #[Value.str (Str.ofString "struck") 272, Value.str (Str.ofString "struck") 273, Value.str (Str.ofString "/claim/cut.py") 274, Value.int 41 0, Value.int 2 0, Value.int 0 0, Value.int 0 0, Value.int 3 0, Value.ref 81, Value.bool true, Value.int 181 0, Value.ref 82, Value.none, Value.ref 83, Value.ref 84, Value.ref 85, Value.int 279 0, Value.int 41 0, Value.str (Str.ofString "/claim/cut.py") 280] }),  (87, { cls := Value.type "function", data := Data.func { name := Str.ofString "struck", qualname := Str.ofString "struck", params := a87, body := FuncBody.stmts b87, scope := s87, globals := 3, closure := [], defaults := Value.none, kwdefaults := Value.none, pyModule := Value.str (Str.ofString "fdsolve.domains") 194, code := Value.ref 86 } }),  (107, { cls := Value.type "code", data := Data.fields #[Value.str (Str.ofString "__init__") 305, Value.str (Str.ofString "Store.__init__") 306, Value.str (Str.ofString "/claim/cut.py") 307, Value.int 56 0, Value.int 1 0, Value.int 0 0, Value.int 0 0, Value.int 3 0, Value.ref 102, Value.bool true, Value.int 181 0, Value.ref 103, Value.none, Value.ref 104, Value.ref 105, Value.ref 106, Value.int 309 0, Value.int 56 0, Value.str (Str.ofString "/claim/cut.py") 310] }),  (108, { cls := Value.type "function", data := Data.func { name := Str.ofString "__init__", qualname := Str.ofString "Store.__init__", params := a108, body := FuncBody.stmts b108, scope := s108, globals := 3, closure := [], defaults := Value.none, kwdefaults := Value.none, pyModule := Value.str (Str.ofString "fdsolve.store") 291, code := Value.ref 107 } }),  (114, { cls := Value.type "code", data := Data.fields #[Value.str (Str.ofString "new_var") 312, Value.str (Str.ofString "Store.new_var") 313, Value.str (Str.ofString "/claim/cut.py") 314, Value.int 66 0, Value.int 2 0, Value.int 0 0, Value.int 0 0, Value.int 3 0, Value.ref 109, Value.bool true, Value.int 181 0, Value.ref 110, Value.none, Value.ref 111, Value.ref 112, Value.ref 113, Value.int 317 0, Value.int 66 0, Value.str (Str.ofString "/claim/cut.py") 318] }),  (115, { cls := Value.type "function", data := Data.func { name := Str.ofString "new_var", qualname := Str.ofString "Store.new_var", params := a115, body := FuncBody.stmts b115, scope := s115, globals := 3, closure := [], defaults := Value.none, kwdefaults := Value.none, pyModule := Value.str (Str.ofString "fdsolve.store") 291, code := Value.ref 114 } }),  (128, { cls := Value.type "code", data := Data.fields #[Value.str (Str.ofString "dom") 327, Value.str (Str.ofString "Store.dom") 328, Value.str (Str.ofString "/claim/cut.py") 329, Value.int 76 0, Value.int 2 0, Value.int 0 0, Value.int 0 0, Value.int 3 0, Value.ref 123, Value.bool true, Value.int 181 0, Value.ref 124, Value.none, Value.ref 125, Value.ref 126, Value.ref 127, Value.int 332 0, Value.int 76 0, Value.str (Str.ofString "/claim/cut.py") 333] }),  (129, { cls := Value.type "function", data := Data.func { name := Str.ofString "dom", qualname := Str.ofString "Store.dom", params := a129, body := FuncBody.stmts b129, scope := s129, globals := 3, closure := [], defaults := Value.none, kwdefaults := Value.none, pyModule := Value.str (Str.ofString "fdsolve.store") 291, code := Value.ref 128 } }),  (156, { cls := Value.type "code", data := Data.fields #[Value.str (Str.ofString "has") 359, Value.str (Str.ofString "Store.has") 360, Value.str (Str.ofString "/claim/cut.py") 361, Value.int 88 0, Value.int 3 0, Value.int 0 0, Value.int 0 0, Value.int 3 0, Value.ref 151, Value.bool true, Value.int 181 0, Value.ref 152, Value.none, Value.ref 153, Value.ref 154, Value.ref 155, Value.int 365 0, Value.int 88 0, Value.str (Str.ofString "/claim/cut.py") 366] }),  (157, { cls := Value.type "function", data := Data.func { name := Str.ofString "has", qualname := Str.ofString "Store.has", params := a157, body := FuncBody.stmts b157, scope := s157, globals := 3, closure := [], defaults := Value.none, kwdefaults := Value.none, pyModule := Value.str (Str.ofString "fdsolve.store") 291, code := Value.ref 156 } }),  (163, { cls := Value.type "code", data := Data.fields #[Value.str (Str.ofString "is_fixed") 368, Value.str (Str.ofString "Store.is_fixed") 369, Value.str (Str.ofString "/claim/cut.py") 370, Value.int 91 0, Value.int 2 0, Value.int 0 0, Value.int 0 0, Value.int 3 0, Value.ref 158, Value.bool true, Value.int 181 0, Value.ref 159, Value.none, Value.ref 160, Value.ref 161, Value.ref 162, Value.int 374 0, Value.int 91 0, Value.str (Str.ofString "/claim/cut.py") 375] }),  (164, { cls := Value.type "function", data := Data.func { name := Str.ofString "is_fixed", qualname := Str.ofString "Store.is_fixed", params := a164, body := FuncBody.stmts b164, scope := s164, globals := 3, closure := [], defaults := Value.none, kwdefaults := Value.none, pyModule := Value.str (Str.ofString "fdsolve.store") 291, code := Value.ref 163 } }),  (170, { cls := Value.type "code", data := Data.fields #[Value.str (Str.ofString "value") 377, Value.str (Str.ofString "Store.value") 378, Value.str (Str.ofString "/claim/cut.py") 379, Value.int 95 0, Value.int 2 0, Value.int 0 0, Value.int 0 0, Value.int 3 0, Value.ref 165, Value.bool true, Value.int 181 0, Value.ref 166, Value.none, Value.ref 167, Value.ref 168, Value.ref 169, Value.int 382 0, Value.int 95 0, Value.str (Str.ofString "/claim/cut.py") 383] }),  (171, { cls := Value.type "function", data := Data.func { name := Str.ofString "value", qualname := Str.ofString "Store.value", params := a171, body := FuncBody.stmts b171, scope := s171, globals := 3, closure := [], defaults := Value.none, kwdefaults := Value.none, pyModule := Value.str (Str.ofString "fdsolve.store") 291, code := Value.ref 170 } }),  (191, { cls := Value.type "code", data := Data.fields #[Value.str (Str.ofString "enter") 401, Value.str (Str.ofString "Store.enter") 402, Value.str (Str.ofString "/claim/cut.py") 403, Value.int 104 0, Value.int 4 0, Value.int 0 0, Value.int 0 0, Value.int 3 0, Value.ref 186, Value.bool true, Value.int 181 0, Value.ref 187, Value.none, Value.ref 188, Value.ref 189, Value.ref 190, Value.int 411 0, Value.int 104 0, Value.str (Str.ofString "/claim/cut.py") 412] }),  (192, { cls := Value.type "function", data := Data.func { name := Str.ofString "enter", qualname := Str.ofString "Store.enter", params := a192, body := FuncBody.stmts b192, scope := s192, globals := 3, closure := [], defaults := Value.none, kwdefaults := Value.none, pyModule := Value.str (Str.ofString "fdsolve.store") 291, code := Value.ref 191 } }),  (198, { cls := Value.type "code", data := Data.fields #[Value.str (Str.ofString "strike") 414, Value.str (Str.ofString "Store.strike") 415, Value.str (Str.ofString "/claim/cut.py") 416, Value.int 117 0, Value.int 3 0, Value.int 0 0, Value.int 0 0, Value.int 3 0, Value.ref 193, Value.bool true, Value.int 181 0, Value.ref 194, Value.none, Value.ref 195, Value.ref 196, Value.ref 197, Value.int 420 0, Value.int 117 0, Value.str (Str.ofString "/claim/cut.py") 421] }),  (199, { cls := Value.type "function", data := Data.func { name := Str.ofString "strike", qualname := Str.ofString "Store.strike", params := a199, body := FuncBody.stmts b199, scope := s199, globals := 3, closure := [], defaults := Value.none, kwdefaults := Value.none, pyModule := Value.str (Str.ofString "fdsolve.store") 291, code := Value.ref 198 } }),  (212, { cls := Value.type "code", data := Data.fields #[Value.str (Str.ofString "fail") 431, Value.str (Str.ofString "Store.fail") 432, Value.str (Str.ofString "/claim/cut.py") 433, Value.int 123 0, Value.int 2 0, Value.int 0 0, Value.int 0 0, Value.int 3 0, Value.ref 207, Value.bool true, Value.int 181 0, Value.ref 208, Value.none, Value.ref 209, Value.ref 210, Value.ref 211, Value.int 436 0, Value.int 123 0, Value.str (Str.ofString "/claim/cut.py") 437] }),  (213, { cls := Value.type "function", data := Data.func { name := Str.ofString "fail", qualname := Str.ofString "Store.fail", params := a213, body := FuncBody.stmts b213, scope := s213, globals := 3, closure := [], defaults := Value.none, kwdefaults := Value.none, pyModule := Value.str (Str.ofString "fdsolve.store") 291, code := Value.ref 212 } }),  (219, { cls := Value.type "code", data := Data.fields #[Value.str (Str.ofString "push") 439, Value.str (Str.ofString "Store.push") 440, Value.str (Str.ofString "/claim/cut.py") 441, Value.int 128 0, Value.int 1 0, Value.int 0 0, Value.int 0 0, Value.int 3 0, Value.ref 214, Value.bool true, Value.int 181 0, Value.ref 215, Value.none, Value.ref 216, Value.ref 217, Value.ref 218, Value.int 443 0, Value.int 128 0, Value.str (Str.ofString "/claim/cut.py") 444] }),  (220, { cls := Value.type "function", data := Data.func { name := Str.ofString "push", qualname := Str.ofString "Store.push", params := a220, body := FuncBody.stmts b220, scope := s220, globals := 3, closure := [], defaults := Value.none, kwdefaults := Value.none, pyModule := Value.str (Str.ofString "fdsolve.store") 291, code := Value.ref 219 } }),  (226, { cls := Value.type "code", data := Data.fields #[Value.str (Str.ofString "pop") 446, Value.str (Str.ofString "Store.pop") 447, Value.str (Str.ofString "/claim/cut.py") 448, Value.int 131 0, Value.int 2 0, Value.int 0 0, Value.int 0 0, Value.int 3 0, Value.ref 221, Value.bool true, Value.int 181 0, Value.ref 222, Value.none, Value.ref 223, Value.ref 224, Value.ref 225, Value.int 453 0, Value.int 131 0, Value.str (Str.ofString "/claim/cut.py") 454] }),  (227, { cls := Value.type "function", data := Data.func { name := Str.ofString "pop", qualname := Str.ofString "Store.pop", params := a227, body := FuncBody.stmts b227, scope := s227, globals := 3, closure := [], defaults := Value.none, kwdefaults := Value.none, pyModule := Value.str (Str.ofString "fdsolve.store") 291, code := Value.ref 226 } }),  (243, { cls := Value.type "dict", data := Data.dict #[{ hash := PyData.keyHash P (Str.ofString "__module__"), key := Value.str (Str.ofString "__module__") 300, val := Value.str (Str.ofString "fdsolve.store") 291 }, { hash := PyData.keyHash P (Str.ofString "__firstlineno__"), key := Value.str (Str.ofString "__firstlineno__") 304, val := Value.int 54 303 }, { hash := PyData.keyHash P (Str.ofString "__init__"), key := Value.str (Str.ofString "__init__") 311, val := Value.ref 108 }, { hash := PyData.keyHash P (Str.ofString "new_var"), key := Value.str (Str.ofString "new_var") 319, val := Value.ref 115 }, { hash := PyData.keyHash P (Str.ofString "size"), key := Value.str (Str.ofString "size") 326, val := Value.ref 122 }, { hash := PyData.keyHash P (Str.ofString "dom"), key := Value.str (Str.ofString "dom") 334, val := Value.ref 129 }, { hash := PyData.keyHash P (Str.ofString "initial"), key := Value.str (Str.ofString "initial") 342, val := Value.ref 136 }, { hash := PyData.keyHash P (Str.ofString "low"), key := Value.str (Str.ofString "low") 350, val := Value.ref 143 }, { hash := PyData.keyHash P (Str.ofString "high"), key := Value.str (Str.ofString "high") 358, val := Value.ref 150 }, { hash := PyData.keyHash P (Str.ofString "has"), key := Value.str (Str.ofString "has") 367, val := Value.ref 157 }, { hash := PyData.keyHash P (Str.ofString "is_fixed"), key := Value.str (Str.ofString "is_fixed") 376, val := Value.ref 164 }, { hash := PyData.keyHash P (Str.ofString "value"), key := Value.str (Str.ofString "value") 384, val := Value.ref 171 }, { hash := PyData.keyHash P (Str.ofString "width"), key := Value.str (Str.ofString "width") 392, val := Value.ref 178 }, { hash := PyData.keyHash P (Str.ofString "holds"), key := Value.str (Str.ofString "holds") 400, val := Value.ref 185 }, { hash := PyData.keyHash P (Str.ofString "enter"), key := Value.str (Str.ofString "enter") 413, val := Value.ref 192 }, { hash := PyData.keyHash P (Str.ofString "strike"), key := Value.str (Str.ofString "strike") 422, val := Value.ref 199 }, { hash := PyData.keyHash P (Str.ofString "decide"), key := Value.str (Str.ofString "decide") 430, val := Value.ref 206 }, { hash := PyData.keyHash P (Str.ofString "fail"), key := Value.str (Str.ofString "fail") 438, val := Value.ref 213 }, { hash := PyData.keyHash P (Str.ofString "push"), key := Value.str (Str.ofString "push") 445, val := Value.ref 220 }, { hash := PyData.keyHash P (Str.ofString "pop"), key := Value.str (Str.ofString "pop") 455, val := Value.ref 227 }, { hash := PyData.keyHash P (Str.ofString "depth"), key := Value.str (Str.ofString "depth") 462, val := Value.ref 234 }, { hash := PyData.keyHash P (Str.ofString "changed"), key := Value.str (Str.ofString "changed") 469, val := Value.ref 241 }, { hash := PyData.keyHash P (Str.ofString "__static_attributes__"), key := Value.str (Str.ofString "__static_attributes__") 478, val := Value.ref 242 }, { hash := PyData.keyHash P (Str.ofString "__dict__"), key := Value.str (Str.ofString "__dict__") 480, val := Value.ref 245 }, { hash := PyData.keyHash P (Str.ofString "__weakref__"), key := Value.str (Str.ofString "__weakref__") 482, val := Value.ref 246 }, { hash := PyData.keyHash P (Str.ofString "__doc__"), key := Value.str (Str.ofString "__doc__") 483, val := Value.none }] 4 }),  (244, { cls := Value.type "type", data := Data.cls { name := Str.ofString "Store", bases := [Value.type "object"], mro := [Value.ref 244, Value.type "object"], ns := 243, qualname := Str.ofString "Store" }, slots := #[none, none, some (Value.str (Str.ofString "Store") 293), some (Value.str (Str.ofString "Store") 301), some (Value.builtin "object.__new__"), some (Value.bool true)] }),  (261, { cls := Value.type "code", data := Data.fields #[Value.str (Str.ofString "__init__") 498, Value.str (Str.ofString "Propagator.__init__") 499, Value.str (Str.ofString "/claim/cut.py") 500, Value.int 150 0, Value.int 3 0, Value.int 0 0, Value.int 0 0, Value.int 3 0, Value.ref 256, Value.bool true, Value.int 181 0, Value.ref 257, Value.none, Value.ref 258, Value.ref 259, Value.ref 260, Value.int 504 0, Value.int 150 0, Value.str (Str.ofString "/claim/cut.py") 505] }),  (262, { cls := Value.type "function", data := Data.func { name := Str.ofString "__init__", qualname := Str.ofString "Propagator.__init__", params := a262, body := FuncBody.stmts b262, scope := s262, globals := 3, closure := [], defaults := Value.none, kwdefaults := Value.none, pyModule := Value.str (Str.ofString "fdsolve.store") 291, code := Value.ref 261 } }),  (285, { cls := Value.type "dict", data := Data.dict #[{ hash := PyData.keyHash P (Str.ofString "__module__"), key := Value.str (Str.ofString "__module__") 493, val := Value.str (Str.ofString "fdsolve.store") 291 }, { hash := PyData.keyHash P (Str.ofString "__firstlineno__"), key := Value.str (Str.ofString "__firstlineno__") 497, val := Value.int 148 496 }, { hash := PyData.keyHash P (Str.ofString "__init__"), key := Value.str (Str.ofString "__init__") 506, val := Value.ref 262 }, { hash := PyData.keyHash P (Str.ofString "propagate"), key := Value.str (Str.ofString "propagate") 514, val := Value.ref 269 }, { hash := PyData.keyHash P (Str.ofString "check"), key := Value.str (Str.ofString "check") 522, val := Value.ref 276 }, { hash := PyData.keyHash P (Str.ofString "told"), key := Value.str (Str.ofString "told") 529, val := Value.ref 283 }, { hash := PyData.keyHash P (Str.ofString "__static_attributes__"), key := Value.str (Str.ofString "__static_attributes__") 533, val := Value.ref 284 }, { hash := PyData.keyHash P (Str.ofString "__dict__"), key := Value.str (Str.ofString "__dict__") 535, val := Value.ref 287 }, { hash := PyData.keyHash P (Str.ofString "__weakref__"), key := Value.str (Str.ofString "__weakref__") 537, val := Value.ref 288 }, { hash := PyData.keyHash P (Str.ofString "__doc__"), key := Value.str (Str.ofString "__doc__") 538, val := Value.none }] 4 }),  (286, { cls := Value.type "type", data := Data.cls { name := Str.ofString "Propagator", bases := [Value.type "object"], mro := [Value.ref 286, Value.type "object"], ns := 285, qualname := Str.ofString "Propagator", subclasses := [Value.ref 337] }, slots := #[none, none, some (Value.str (Str.ofString "Propagator") 486), some (Value.str (Str.ofString "Propagator") 494), some (Value.builtin "object.__new__"), some (Value.bool true)] }),  (294, { cls := Value.type "cell", data := Data.cell (some (Value.ref 337)) }),  (299, { cls := Value.type "tuple", data := Data.seq #[Value.ref 294] }),  (305, { cls := Value.type "code", data := Data.fields #[Value.str (Str.ofString "__init__") 555, Value.str (Str.ofString "Inverse.__init__") 556, Value.str (Str.ofString "/claim/cut.py") 557, Value.int 166 0, Value.int 3 0, Value.int 0 0, Value.int 0 0, Value.int 3 0, Value.ref 300, Value.bool true, Value.int 181 0, Value.ref 301, Value.none, Value.ref 302, Value.ref 303, Value.ref 304, Value.int 562 0, Value.int 166 0, Value.str (Str.ofString "/claim/cut.py") 563] }),  (306, { cls := Value.type "function", data := Data.func { name := Str.ofString "__init__", qualname := Str.ofString "Inverse.__init__", params := a306, body := FuncBody.stmts b306, scope := s306, globals := 3, closure := [(Str.ofString "__class__", 294)], defaults := Value.none, kwdefaults := Value.none, pyModule := Value.str (Str.ofString "fdsolve.order") 541, code := Value.ref 305, closureTuple := Value.ref 299 } }),  (319, { cls := Value.type "code", data := Data.fields #[Value.str (Str.ofString "turn") 573, Value.str (Str.ofString "Inverse.turn") 574, Value.str (Str.ofString "/claim/cut.py") 575, Value.int 174 0, Value.int 4 0, Value.int 0 0, Value.int 0 0, Value.int 3 0, Value.ref 314, Value.bool true, Value.int 181 0, Value.ref 315, Value.none, Value.ref 316, Value.ref 317, Value.ref 318, Value.int 585 0, Value.int 174 0, Value.str (Str.ofString "/claim/cut.py") 586] }),  (320, { cls := Value.type "function", data := Data.func { name := Str.ofString "turn", qualname := Str.ofString "Inverse.turn", params := a320, body := FuncBody.stmts b320, scope := s320, globals := 3, closure := [], defaults := Value.none, kwdefaults := Value.none, pyModule := Value.str (Str.ofString "fdsolve.order") 541, code := Value.ref 319 } }),  (336, { cls := Value.type "dict", data := Data.dict #[{ hash := PyData.keyHash P (Str.ofString "__module__"), key := Value.str (Str.ofString "__module__") 550, val := Value.str (Str.ofString "fdsolve.order") 541 }, { hash := PyData.keyHash P (Str.ofString "__firstlineno__"), key := Value.str (Str.ofString "__firstlineno__") 554, val := Value.int 164 553 }, { hash := PyData.keyHash P (Str.ofString "__init__"), key := Value.str (Str.ofString "__init__") 564, val := Value.ref 306 }, { hash := PyData.keyHash P (Str.ofString "propagate"), key := Value.str (Str.ofString "propagate") 572, val := Value.ref 313 }, { hash := PyData.keyHash P (Str.ofString "turn"), key := Value.str (Str.ofString "turn") 587, val := Value.ref 320 }, { hash := PyData.keyHash P (Str.ofString "check"), key := Value.str (Str.ofString "check") 595, val := Value.ref 327 }, { hash := PyData.keyHash P (Str.ofString "told"), key := Value.str (Str.ofString "told") 602, val := Value.ref 334 }, { hash := PyData.keyHash P (Str.ofString "__static_attributes__"), key := Value.str (Str.ofString "__static_attributes__") 605, val := Value.ref 335 }, { hash := PyData.keyHash P (Str.ofString "__doc__"), key := Value.str (Str.ofString "__doc__") 607, val := Value.none }] 3 }),  (337, { cls := Value.type "type", data := Data.cls { name := Str.ofString "Inverse", bases := [Value.ref 286], mro := [Value.ref 337, Value.ref 286, Value.type "object"], ns := 336, qualname := Str.ofString "Inverse" }, slots := #[some (Value.ref 291), none, some (Value.str (Str.ofString "Inverse") 543), some (Value.str (Str.ofString "Inverse") 551), some (Value.builtin "object.__new__"), some (Value.bool true)] }),  (345, { cls := Value.type "code", data := Data.fields #[Value.str (Str.ofString "_law_pick") 612, Value.str (Str.ofString "_law_pick") 613, Value.str (Str.ofString "/claim/cut.py") 614, Value.int 192 0, Value.int 2 0, Value.int 0 0, Value.int 0 0, Value.int 3 0, Value.ref 340, Value.bool true, Value.int 181 0, Value.ref 341, Value.none, Value.ref 342, Value.ref 343, Value.ref 344, Value.int 617 0, Value.int 192 0, Value.str (Str.ofString "/claim/cut.py") 618] }),  (346, { cls := Value.type "function", data := Data.func { name := Str.ofString "_law_pick", qualname := Str.ofString "_law_pick", params := a346, body := FuncBody.stmts b346, scope := s346, globals := 3, closure := [], defaults := Value.none, kwdefaults := Value.none, pyModule := Value.str (Str.ofString "law_pc0033_01") 610, code := Value.ref 345 } }),  (352, { cls := Value.type "code", data := Data.fields #[Value.str (Str.ofString "_law_spans") 620, Value.str (Str.ofString "_law_spans") 621, Value.str (Str.ofString "/claim/cut.py") 622, Value.int 198 0, Value.int 1 0, Value.int 0 0, Value.int 0 0, Value.int 3 0, Value.ref 347, Value.bool true, Value.int 181 0, Value.ref 348, Value.none, Value.ref 349, Value.ref 350, Value.ref 351, Value.int 626 0, Value.int 198 0, Value.str (Str.ofString "/claim/cut.py") 627] }),  (353, { cls := Value.type "function", data := Data.func { name := Str.ofString "_law_spans", qualname := Str.ofString "_law_spans", params := a353, body := FuncBody.stmts b353, scope := s353, globals := 3, closure := [], defaults := Value.none, kwdefaults := Value.none, pyModule := Value.str (Str.ofString "law_pc0033_01") 610, code := Value.ref 352 } }),  (357, { cls := Value.type "code", data := Data.fields #[Value.str (Str.ofString "_law_lot") 629, Value.str (Str.ofString "_law_lot") 630, Value.str (Str.ofString "/claim/cut.py") 631, Value.int 206 0, Value.int 2 0, Value.int 0 0, Value.int 0 0, Value.int 3 0, Value.ref 354, Value.bool true, Value.int 181 0, Value.ref 355, Value.none, Value.none, Value.none, Value.ref 356, Value.int 632 0, Value.int 206 0, Value.str (Str.ofString "/claim/cut.py") 633] }),  (358, { cls := Value.type "function", data := Data.func { name := Str.ofString "_law_lot", qualname := Str.ofString "_law_lot", params := a358, body := FuncBody.stmts b358, scope := s358, globals := 3, closure := [], defaults := Value.none, kwdefaults := Value.none, pyModule := Value.str (Str.ofString "law_pc0033_01") 610, code := Value.ref 357 } }),  (362, { cls := Value.type "code", data := Data.fields #[Value.str (Str.ofString "_law_turned") 635, Value.str (Str.ofString "_law_turned") 636, Value.str (Str.ofString "/claim/cut.py") 637, Value.int 208 0, Value.int 3 0, Value.int 0 0, Value.int 0 0, Value.int 3 0, Value.ref 359, Value.bool true, Value.int 181 0, Value.ref 360, Value.none, Value.none, Value.none, Value.ref 361, Value.int 638 0, Value.int 208 0, Value.str (Str.ofString "/claim/cut.py") 639] }),  (363, { cls := Value.type "function", data := Data.func { name := Str.ofString "_law_turned", qualname := Str.ofString "_law_turned", params := a363, body := FuncBody.stmts b363, scope := s363, globals := 3, closure := [], defaults := Value.none, kwdefaults := Value.none, pyModule := Value.str (Str.ofString "law_pc0033_01") 610, code := Value.ref 362 } }),  (369, { cls := Value.type "code", data := Data.fields #[Value.str (Str.ofString "_law_pairs") 641, Value.str (Str.ofString "_law_pairs") 642, Value.str (Str.ofString "/claim/cut.py") 643, Value.int 225 0, Value.int 2 0, Value.int 0 0, Value.int 0 0, Value.int 3 0, Value.ref 364, Value.bool true, Value.int 181 0, Value.ref 365, Value.none, Value.ref 366, Value.ref 367, Value.ref 368, Value.int 649 0, Value.int 225 0, Value.str (Str.ofString "/claim/cut.py") 650] }),  (370, { cls := Value.type "function", data := Data.func { name := Str.ofString "_law_pairs", qualname := Str.ofString "_law_pairs", params := a370, body := FuncBody.stmts b370, scope := s370, globals := 3, closure := [], defaults := Value.none, kwdefaults := Value.none, pyModule := Value.str (Str.ofString "law_pc0033_01") 610, code := Value.ref 369 } }),  (374, { cls := Value.type "code", data := Data.fields #[Value.str (Str.ofString "law") 652, Value.str (Str.ofString "law") 653, Value.str (Str.ofString "/claim/cut.py") 654, Value.int 234 0, Value.int 1 0, Value.int 0 0, Value.int 0 0, Value.int 3 0, Value.ref 371, Value.bool true, Value.int 181 0, Value.ref 372, Value.none, Value.none, Value.none, Value.ref 373, Value.int 655 0, Value.int 234 0, Value.str (Str.ofString "/claim/cut.py") 656] }),  (375, { cls := Value.type "function", data := Data.func { name := Str.ofString "law", qualname := Str.ofString "law", params := a375, body := FuncBody.stmts b375, scope := s375, globals := 3, closure := [], defaults := Value.none, kwdefaults := Value.none, pyModule := Value.str (Str.ofString "law_pc0033_01") 610, code := Value.ref 374 } })] : Frag)) _ _ _ rfl _ _ _ rfl _ _ _ rfl _ _ _ rfl _ _ _ rfl _ _ _ rfl _ _ _ rfl _ _ _ rfl _ _ _ rfl _ _ _ rfl _ _ _ rfl _ _ _ rfl _ _ _ rfl _ _ _ rfl _ _ _ rfl _ _ _ rfl _ _ _ rfl _ _ _ rfl _ _ _ rfl _ _ _ rfl _ _ _ rfl _ _ _ rfl _ _ _ rfl _ _ _ rfl _ _ _ rfl _ _ _ rfl _ _ _ rfl _ _ _ rfl

theorem t_run : @topRun = @Fast.tw14082659384304107361 := Fast.te14082659384304107361
theorem t_tab : treeTable = Fast.tw14364793385576792824 := Fast.te14364793385576792824
theorem t_seen : @openSeen = @Fast.tw4187177175401517315 := Fast.te4187177175401517315
noncomputable def Xt (s : Shared) : Bool := xlAt qv [] s && recOk (RowW.records rw0.row.toRowW) s
noncomputable def KAs : List Addr := [2, 3, 41, 42, 48, 49, 53, 54, 58, 59, 65, 66, 72, 73, 79, 80, 86, 87, 107, 108, 114, 115, 128, 129, 156, 157, 163, 164, 170, 171, 191, 192, 198, 199, 212, 213, 219, 220, 226, 227, 243, 244, 261, 262, 285, 286, 294, 299, 305, 306, 319, 320, 336, 337, 345, 346, 352, 353, 357, 358, 362, 363, 369, 370, 374, 375]
theorem KAs_eq (P : Params) : KAs = (KF P).map (·.1) := by kernel_rfl
noncomputable def hook : Hook := kHook KF KAs KAs_eq
noncomputable def fA (s : Option Stmt) : Arguments := match fdOf s with
  | some (a, _, _) => a
  | none => { posonlyargs := [], args := [], vararg := none, kwonlyargs := [], kw_defaults := [], kwarg := none, defaults := [] }
noncomputable def fB (s : Option Stmt) : List Stmt := match fdOf s with
  | some (_, b, _) => b
  | none => []
noncomputable def fS (s : Option Stmt) : Scope := match fdOf s with
  | some (_, _, c) => c
  | none => { kind := .function, names := [], isGenerator := false, isCoroutine := false }
noncomputable def kf (P : Params) (a : Nat) : Obj := ((KF P).lookup a).getD default
noncomputable def full (P : Params) : List Obj := [
 boot_o_0 P,
 boot_o_1 P,
 kf P 2,
 kf P 3,
 boot_o_4 P,
 boot_o_5 P,
 boot_o_6 P,
 boot_o_7 P,
 boot_o_8 P,
 boot_o_9 P,
 boot_o_10 P,
 { cls := Value.type "tuple", data := Data.seq #[] },
 { cls := Value.none, data := Data.fields #[Value.int 1 0, Value.int 0 0, Value.ref 20, Value.int 5 0, Value.int 0 0, Value.ref 27, Value.int 7 0, Value.int 0 0, Value.ref 34, Value.int 9 0, Value.int 0 0, Value.ref 41, Value.int 14 0, Value.int 0 0, Value.ref 48, Value.int 17 0, Value.int 0 0, Value.ref 53, Value.int 19 0, Value.int 0 0, Value.ref 58, Value.int 21 0, Value.int 0 0, Value.ref 65, Value.int 23 0, Value.int 0 0, Value.ref 72, Value.int 34 0, Value.int 0 0, Value.ref 79, Value.int 41 0, Value.int 0 0, Value.ref 86, Value.int 48 0, Value.int 0 0, Value.ref 93, Value.int 54 0, Value.int 0 0, Value.ref 100, Value.int 148 0, Value.int 0 0, Value.ref 254, Value.int 164 0, Value.int 0 0, Value.ref 297, Value.int 192 0, Value.int 0 0, Value.ref 345, Value.int 198 0, Value.int 0 0, Value.ref 352, Value.int 206 0, Value.int 0 0, Value.ref 357, Value.int 208 0, Value.int 0 0, Value.ref 362, Value.int 225 0, Value.int 0 0, Value.ref 369, Value.int 234 0, Value.int 0 0, Value.ref 374] },
 { cls := Value.type "code", data := Data.fields #[Value.str (Str.ofString "<module>") 182, Value.str (Str.ofString "<module>") 183, Value.str (Str.ofString "/claim/cut.py") 184, Value.int 1 0, Value.int 0 0, Value.int 0 0, Value.int 0 0, Value.int 0 0, Value.ref 11, Value.bool false, Value.int 181 0, Value.ref 12, Value.none, Value.none, Value.none, Value.none, Value.int 185 0, Value.int 1 0, Value.str (Str.ofString "/claim/cut.py") 186] },
 { cls := Value.type "frame", slots := #[some (Value.ref 13), some (Value.ref 3), some (Value.ref 3), none, some (Value.str (Str.ofString "__main__") 164), none, some (Value.ref 0)] },
 { cls := Value.type "tuple", data := Data.seq #[] },
 { cls := Value.none, data := Data.fields #[] },
 { cls := Value.type "tuple", data := Data.seq #[Value.str (Str.ofString "k") 190] },
 { cls := Value.type "tuple", data := Data.seq #[] },
 { cls := Value.none, data := Data.func { name := Str.ofString "_wall", qualname := Str.ofString "_wall", params := fA (topS 0), body := FuncBody.stmts (fB (topS 0)), scope := fS (topS 0), globals := 0, closure := [], defaults := Value.none, kwdefaults := Value.none } },
 { cls := Value.type "code", data := Data.fields #[Value.str (Str.ofString "_wall") 187, Value.str (Str.ofString "_wall") 188, Value.str (Str.ofString "/claim/cut.py") 189, Value.int 1 0, Value.int 1 0, Value.int 0 0, Value.int 0 0, Value.int 3 0, Value.ref 15, Value.bool true, Value.int 181 0, Value.ref 16, Value.none, Value.ref 17, Value.ref 18, Value.ref 19, Value.int 191 0, Value.int 1 0, Value.str (Str.ofString "/claim/cut.py") 192] },
 { cls := Value.type "function", data := Data.func { name := Str.ofString "_wall", qualname := Str.ofString "_wall", params := fA (topS 0), body := FuncBody.stmts (fB (topS 0)), scope := fS (topS 0), globals := 3, closure := [], defaults := Value.none, kwdefaults := Value.none, pyModule := Value.str (Str.ofString "__main__") 164, code := Value.ref 20 } },
 { cls := Value.type "tuple", data := Data.seq #[] },
 { cls := Value.none, data := Data.fields #[] },
 { cls := Value.type "tuple", data := Data.seq #[Value.str (Str.ofString "d") 199] },
 { cls := Value.type "tuple", data := Data.seq #[] },
 { cls := Value.none, data := Data.func { name := Str.ofString "least", qualname := Str.ofString "least", params := fA (topS 2), body := FuncBody.stmts (fB (topS 2)), scope := fS (topS 2), globals := 0, closure := [], defaults := Value.none, kwdefaults := Value.none } },
 { cls := Value.type "code", data := Data.fields #[Value.str (Str.ofString "least") 196, Value.str (Str.ofString "least") 197, Value.str (Str.ofString "/claim/cut.py") 198, Value.int 5 0, Value.int 1 0, Value.int 0 0, Value.int 0 0, Value.int 3 0, Value.ref 22, Value.bool true, Value.int 181 0, Value.ref 23, Value.none, Value.ref 24, Value.ref 25, Value.ref 26, Value.int 200 0, Value.int 5 0, Value.str (Str.ofString "/claim/cut.py") 201] },
 { cls := Value.type "function", data := Data.func { name := Str.ofString "least", qualname := Str.ofString "least", params := fA (topS 2), body := FuncBody.stmts (fB (topS 2)), scope := fS (topS 2), globals := 3, closure := [], defaults := Value.none, kwdefaults := Value.none, pyModule := Value.str (Str.ofString "fdsolve.domains") 194, code := Value.ref 27 } },
 { cls := Value.type "tuple", data := Data.seq #[] },
 { cls := Value.none, data := Data.fields #[] },
 { cls := Value.type "tuple", data := Data.seq #[Value.str (Str.ofString "d") 206] },
 { cls := Value.type "tuple", data := Data.seq #[] },
 { cls := Value.none, data := Data.func { name := Str.ofString "greatest", qualname := Str.ofString "greatest", params := fA (topS 3), body := FuncBody.stmts (fB (topS 3)), scope := fS (topS 3), globals := 0, closure := [], defaults := Value.none, kwdefaults := Value.none } },
 { cls := Value.type "code", data := Data.fields #[Value.str (Str.ofString "greatest") 203, Value.str (Str.ofString "greatest") 204, Value.str (Str.ofString "/claim/cut.py") 205, Value.int 7 0, Value.int 1 0, Value.int 0 0, Value.int 0 0, Value.int 3 0, Value.ref 29, Value.bool true, Value.int 181 0, Value.ref 30, Value.none, Value.ref 31, Value.ref 32, Value.ref 33, Value.int 207 0, Value.int 7 0, Value.str (Str.ofString "/claim/cut.py") 208] },
 { cls := Value.type "function", data := Data.func { name := Str.ofString "greatest", qualname := Str.ofString "greatest", params := fA (topS 3), body := FuncBody.stmts (fB (topS 3)), scope := fS (topS 3), globals := 3, closure := [], defaults := Value.none, kwdefaults := Value.none, pyModule := Value.str (Str.ofString "fdsolve.domains") 194, code := Value.ref 34 } },
 { cls := Value.type "tuple", data := Data.seq #[] },
 { cls := Value.none, data := Data.fields #[] },
 { cls := Value.type "tuple", data := Data.seq #[Value.str (Str.ofString "d") 213, Value.str (Str.ofString "v") 214, Value.str (Str.ofString "low") 215, Value.str (Str.ofString "high") 216] },
 { cls := Value.type "tuple", data := Data.seq #[] },
 { cls := Value.none, data := Data.func { name := Str.ofString "next_from", qualname := Str.ofString "next_from", params := fA (topS 4), body := FuncBody.stmts (fB (topS 4)), scope := fS (topS 4), globals := 0, closure := [], defaults := Value.none, kwdefaults := Value.none } },
 kf P 41,
 kf P 42,
 { cls := Value.type "tuple", data := Data.seq #[] },
 { cls := Value.none, data := Data.fields #[] },
 { cls := Value.type "tuple", data := Data.seq #[Value.str (Str.ofString "d") 223, Value.str (Str.ofString "v") 224] },
 { cls := Value.type "tuple", data := Data.seq #[] },
 { cls := Value.none, data := Data.func { name := Str.ofString "has", qualname := Str.ofString "has", params := fA (topS 5), body := FuncBody.stmts (fB (topS 5)), scope := fS (topS 5), globals := 0, closure := [], defaults := Value.none, kwdefaults := Value.none } },
 kf P 48,
 kf P 49,
 { cls := Value.type "tuple", data := Data.seq #[] },
 { cls := Value.none, data := Data.fields #[] },
 { cls := Value.none, data := Data.func { name := Str.ofString "up_to", qualname := Str.ofString "up_to", params := fA (topS 7), body := FuncBody.stmts (fB (topS 7)), scope := fS (topS 7), globals := 0, closure := [], defaults := Value.none, kwdefaults := Value.none } },
 kf P 53,
 kf P 54,
 { cls := Value.type "tuple", data := Data.seq #[] },
 { cls := Value.none, data := Data.fields #[] },
 { cls := Value.none, data := Data.func { name := Str.ofString "from_on", qualname := Str.ofString "from_on", params := fA (topS 8), body := FuncBody.stmts (fB (topS 8)), scope := fS (topS 8), globals := 0, closure := [], defaults := Value.none, kwdefaults := Value.none } },
 kf P 58,
 kf P 59,
 { cls := Value.type "tuple", data := Data.seq #[] },
 { cls := Value.none, data := Data.fields #[] },
 { cls := Value.type "tuple", data := Data.seq #[Value.str (Str.ofString "d") 244, Value.str (Str.ofString "v") 245] },
 { cls := Value.type "tuple", data := Data.seq #[] },
 { cls := Value.none, data := Data.func { name := Str.ofString "without", qualname := Str.ofString "without", params := fA (topS 9), body := FuncBody.stmts (fB (topS 9)), scope := fS (topS 9), globals := 0, closure := [], defaults := Value.none, kwdefaults := Value.none } },
 kf P 65,
 kf P 66,
 { cls := Value.type "tuple", data := Data.seq #[] },
 { cls := Value.none, data := Data.fields #[] },
 { cls := Value.type "tuple", data := Data.seq #[Value.str (Str.ofString "d") 252, Value.str (Str.ofString "e") 253, Value.str (Str.ofString "found") 254, Value.str (Str.ofString "i") 255, Value.str (Str.ofString "j") 256, Value.str (Str.ofString "low") 257, Value.str (Str.ofString "high") 258] },
 { cls := Value.type "tuple", data := Data.seq #[] },
 { cls := Value.none, data := Data.func { name := Str.ofString "meet", qualname := Str.ofString "meet", params := fA (topS 10), body := FuncBody.stmts (fB (topS 10)), scope := fS (topS 10), globals := 0, closure := [], defaults := Value.none, kwdefaults := Value.none } },
 kf P 72,
 kf P 73,
 { cls := Value.type "tuple", data := Data.seq #[] },
 { cls := Value.none, data := Data.fields #[] },
 { cls := Value.type "tuple", data := Data.seq #[Value.str (Str.ofString "literal") 265, Value.str (Str.ofString "x") 266, Value.str (Str.ofString "sign") 267, Value.str (Str.ofString "k") 268] },
 { cls := Value.type "tuple", data := Data.seq #[] },
 { cls := Value.none, data := Data.func { name := Str.ofString "negation", qualname := Str.ofString "negation", params := fA (topS 11), body := FuncBody.stmts (fB (topS 11)), scope := fS (topS 11), globals := 0, closure := [], defaults := Value.none, kwdefaults := Value.none } },
 kf P 79,
 kf P 80,
 { cls := Value.type "tuple", data := Data.seq #[] },
 { cls := Value.none, data := Data.fields #[] },
 { cls := Value.type "tuple", data := Data.seq #[Value.str (Str.ofString "literal") 275, Value.str (Str.ofString "d") 276, Value.str (Str.ofString "sign") 277, Value.str (Str.ofString "k") 278] },
 { cls := Value.type "tuple", data := Data.seq #[] },
 { cls := Value.none, data := Data.func { name := Str.ofString "struck", qualname := Str.ofString "struck", params := fA (topS 12), body := FuncBody.stmts (fB (topS 12)), scope := fS (topS 12), globals := 0, closure := [], defaults := Value.none, kwdefaults := Value.none } },
 kf P 86,
 kf P 87,
 { cls := Value.type "tuple", data := Data.seq #[] },
 { cls := Value.none, data := Data.fields #[] },
 { cls := Value.type "tuple", data := Data.seq #[Value.str (Str.ofString "literal") 285, Value.str (Str.ofString "d") 286, Value.str (Str.ofString "kept") 287] },
 { cls := Value.type "tuple", data := Data.seq #[] },
 { cls := Value.none, data := Data.func { name := Str.ofString "said_of", qualname := Str.ofString "said_of", params := fA (topS 13), body := FuncBody.stmts (fB (topS 13)), scope := fS (topS 13), globals := 0, closure := [], defaults := Value.none, kwdefaults := Value.none } },
 { cls := Value.type "code", data := Data.fields #[Value.str (Str.ofString "said_of") 282, Value.str (Str.ofString "said_of") 283, Value.str (Str.ofString "/claim/cut.py") 284, Value.int 48 0, Value.int 2 0, Value.int 0 0, Value.int 0 0, Value.int 3 0, Value.ref 88, Value.bool true, Value.int 181 0, Value.ref 89, Value.none, Value.ref 90, Value.ref 91, Value.ref 92, Value.int 288 0, Value.int 48 0, Value.str (Str.ofString "/claim/cut.py") 289] },
 { cls := Value.type "function", data := Data.func { name := Str.ofString "said_of", qualname := Str.ofString "said_of", params := fA (topS 13), body := FuncBody.stmts (fB (topS 13)), scope := fS (topS 13), globals := 3, closure := [], defaults := Value.none, kwdefaults := Value.none, pyModule := Value.str (Str.ofString "fdsolve.domains") 194, code := Value.ref 93 } },
 { cls := Value.type "tuple", data := Data.seq #[] },
 { cls := Value.type "builtin_function_or_method", data := Data.fields #[Value.builtin "type.__prepare__", Value.type "type"] },
 { cls := Value.type "dict", data := Data.dict #[{ hash := PyData.keyHash P (Str.ofString "__module__"), key := Value.str (Str.ofString "__module__") 300, val := Value.str (Str.ofString "fdsolve.store") 291 }, { hash := PyData.keyHash P (Str.ofString "__qualname__"), key := Value.str (Str.ofString "__qualname__") 302, val := Value.str (Str.ofString "Store") 301 }, { hash := PyData.keyHash P (Str.ofString "__firstlineno__"), key := Value.str (Str.ofString "__firstlineno__") 304, val := Value.int 54 303 }, { hash := PyData.keyHash P (Str.ofString "__init__"), key := Value.str (Str.ofString "__init__") 311, val := Value.ref 108 }, { hash := PyData.keyHash P (Str.ofString "new_var"), key := Value.str (Str.ofString "new_var") 319, val := Value.ref 115 }, { hash := PyData.keyHash P (Str.ofString "size"), key := Value.str (Str.ofString "size") 326, val := Value.ref 122 }, { hash := PyData.keyHash P (Str.ofString "dom"), key := Value.str (Str.ofString "dom") 334, val := Value.ref 129 }, { hash := PyData.keyHash P (Str.ofString "initial"), key := Value.str (Str.ofString "initial") 342, val := Value.ref 136 }, { hash := PyData.keyHash P (Str.ofString "low"), key := Value.str (Str.ofString "low") 350, val := Value.ref 143 }, { hash := PyData.keyHash P (Str.ofString "high"), key := Value.str (Str.ofString "high") 358, val := Value.ref 150 }, { hash := PyData.keyHash P (Str.ofString "has"), key := Value.str (Str.ofString "has") 367, val := Value.ref 157 }, { hash := PyData.keyHash P (Str.ofString "is_fixed"), key := Value.str (Str.ofString "is_fixed") 376, val := Value.ref 164 }, { hash := PyData.keyHash P (Str.ofString "value"), key := Value.str (Str.ofString "value") 384, val := Value.ref 171 }, { hash := PyData.keyHash P (Str.ofString "width"), key := Value.str (Str.ofString "width") 392, val := Value.ref 178 }, { hash := PyData.keyHash P (Str.ofString "holds"), key := Value.str (Str.ofString "holds") 400, val := Value.ref 185 }, { hash := PyData.keyHash P (Str.ofString "enter"), key := Value.str (Str.ofString "enter") 413, val := Value.ref 192 }, { hash := PyData.keyHash P (Str.ofString "strike"), key := Value.str (Str.ofString "strike") 422, val := Value.ref 199 }, { hash := PyData.keyHash P (Str.ofString "decide"), key := Value.str (Str.ofString "decide") 430, val := Value.ref 206 }, { hash := PyData.keyHash P (Str.ofString "fail"), key := Value.str (Str.ofString "fail") 438, val := Value.ref 213 }, { hash := PyData.keyHash P (Str.ofString "push"), key := Value.str (Str.ofString "push") 445, val := Value.ref 220 }, { hash := PyData.keyHash P (Str.ofString "pop"), key := Value.str (Str.ofString "pop") 455, val := Value.ref 227 }, { hash := PyData.keyHash P (Str.ofString "depth"), key := Value.str (Str.ofString "depth") 462, val := Value.ref 234 }, { hash := PyData.keyHash P (Str.ofString "changed"), key := Value.str (Str.ofString "changed") 469, val := Value.ref 241 }, { hash := PyData.keyHash P (Str.ofString "__static_attributes__"), key := Value.str (Str.ofString "__static_attributes__") 478, val := Value.ref 242 }] 24 },
 { cls := Value.type "tuple", data := Data.seq #[] },
 { cls := Value.none, data := Data.fields #[Value.int 56 0, Value.int 4 0, Value.ref 107, Value.int 66 0, Value.int 4 0, Value.ref 114, Value.int 73 0, Value.int 4 0, Value.ref 121, Value.int 76 0, Value.int 4 0, Value.ref 128, Value.int 79 0, Value.int 4 0, Value.ref 135, Value.int 82 0, Value.int 4 0, Value.ref 142, Value.int 85 0, Value.int 4 0, Value.ref 149, Value.int 88 0, Value.int 4 0, Value.ref 156, Value.int 91 0, Value.int 4 0, Value.ref 163, Value.int 95 0, Value.int 4 0, Value.ref 170, Value.int 98 0, Value.int 4 0, Value.ref 177, Value.int 101 0, Value.int 4 0, Value.ref 184, Value.int 104 0, Value.int 4 0, Value.ref 191, Value.int 117 0, Value.int 4 0, Value.ref 198, Value.int 120 0, Value.int 4 0, Value.ref 205, Value.int 123 0, Value.int 4 0, Value.ref 212, Value.int 128 0, Value.int 4 0, Value.ref 219, Value.int 131 0, Value.int 4 0, Value.ref 226, Value.int 143 0, Value.int 4 0, Value.ref 233, Value.int 146 0, Value.int 4 0, Value.ref 240] },
 { cls := Value.type "code", data := Data.fields #[Value.str (Str.ofString "Store") 295, Value.str (Str.ofString "Store") 296, Value.str (Str.ofString "/claim/cut.py") 297, Value.int 54 0, Value.int 0 0, Value.int 0 0, Value.int 0 0, Value.int 0 0, Value.ref 98, Value.bool false, Value.int 181 0, Value.ref 99, Value.none, Value.none, Value.none, Value.none, Value.int 298 0, Value.int 54 0, Value.str (Str.ofString "/claim/cut.py") 299] },
 { cls := Value.type "frame", slots := #[some (Value.ref 100), some (Value.ref 3), some (Value.ref 97), none, some (Value.str (Str.ofString "fdsolve.store") 291), none, some (Value.ref 0)] },
 { cls := Value.type "tuple", data := Data.seq #[] },
 { cls := Value.none, data := Data.fields #[] },
 { cls := Value.type "tuple", data := Data.seq #[Value.str (Str.ofString "self") 308] },
 { cls := Value.type "tuple", data := Data.seq #[] },
 { cls := Value.none, data := Data.func { name := Str.ofString "__init__", qualname := Str.ofString "Store.__init__", params := fA (inCls 15 0), body := FuncBody.stmts (fB (inCls 15 0)), scope := fS (inCls 15 0), globals := 0, closure := [], defaults := Value.none, kwdefaults := Value.none } },
 kf P 107,
 kf P 108,
 { cls := Value.type "tuple", data := Data.seq #[] },
 { cls := Value.none, data := Data.fields #[] },
 { cls := Value.type "tuple", data := Data.seq #[Value.str (Str.ofString "self") 315, Value.str (Str.ofString "domain") 316] },
 { cls := Value.type "tuple", data := Data.seq #[] },
 { cls := Value.none, data := Data.func { name := Str.ofString "new_var", qualname := Str.ofString "Store.new_var", params := fA (inCls 15 1), body := FuncBody.stmts (fB (inCls 15 1)), scope := fS (inCls 15 1), globals := 0, closure := [], defaults := Value.none, kwdefaults := Value.none } },
 kf P 114,
 kf P 115,
 { cls := Value.type "tuple", data := Data.seq #[] },
 { cls := Value.none, data := Data.fields #[] },
 { cls := Value.type "tuple", data := Data.seq #[Value.str (Str.ofString "self") 323] },
 { cls := Value.type "tuple", data := Data.seq #[] },
 { cls := Value.none, data := Data.func { name := Str.ofString "size", qualname := Str.ofString "Store.size", params := fA (inCls 15 2), body := FuncBody.stmts (fB (inCls 15 2)), scope := fS (inCls 15 2), globals := 0, closure := [], defaults := Value.none, kwdefaults := Value.none } },
 { cls := Value.type "code", data := Data.fields #[Value.str (Str.ofString "size") 320, Value.str (Str.ofString "Store.size") 321, Value.str (Str.ofString "/claim/cut.py") 322, Value.int 73 0, Value.int 1 0, Value.int 0 0, Value.int 0 0, Value.int 3 0, Value.ref 116, Value.bool true, Value.int 181 0, Value.ref 117, Value.none, Value.ref 118, Value.ref 119, Value.ref 120, Value.int 324 0, Value.int 73 0, Value.str (Str.ofString "/claim/cut.py") 325] },
 { cls := Value.type "function", data := Data.func { name := Str.ofString "size", qualname := Str.ofString "Store.size", params := fA (inCls 15 2), body := FuncBody.stmts (fB (inCls 15 2)), scope := fS (inCls 15 2), globals := 3, closure := [], defaults := Value.none, kwdefaults := Value.none, pyModule := Value.str (Str.ofString "fdsolve.store") 291, code := Value.ref 121 } },
 { cls := Value.type "tuple", data := Data.seq #[] },
 { cls := Value.none, data := Data.fields #[] },
 { cls := Value.type "tuple", data := Data.seq #[Value.str (Str.ofString "self") 330, Value.str (Str.ofString "x") 331] },
 { cls := Value.type "tuple", data := Data.seq #[] },
 { cls := Value.none, data := Data.func { name := Str.ofString "dom", qualname := Str.ofString "Store.dom", params := fA (inCls 15 3), body := FuncBody.stmts (fB (inCls 15 3)), scope := fS (inCls 15 3), globals := 0, closure := [], defaults := Value.none, kwdefaults := Value.none } },
 kf P 128,
 kf P 129,
 { cls := Value.type "tuple", data := Data.seq #[] },
 { cls := Value.none, data := Data.fields #[] },
 { cls := Value.type "tuple", data := Data.seq #[Value.str (Str.ofString "self") 338, Value.str (Str.ofString "x") 339] },
 { cls := Value.type "tuple", data := Data.seq #[] },
 { cls := Value.none, data := Data.func { name := Str.ofString "initial", qualname := Str.ofString "Store.initial", params := fA (inCls 15 4), body := FuncBody.stmts (fB (inCls 15 4)), scope := fS (inCls 15 4), globals := 0, closure := [], defaults := Value.none, kwdefaults := Value.none } },
 { cls := Value.type "code", data := Data.fields #[Value.str (Str.ofString "initial") 335, Value.str (Str.ofString "Store.initial") 336, Value.str (Str.ofString "/claim/cut.py") 337, Value.int 79 0, Value.int 2 0, Value.int 0 0, Value.int 0 0, Value.int 3 0, Value.ref 130, Value.bool true, Value.int 181 0, Value.ref 131, Value.none, Value.ref 132, Value.ref 133, Value.ref 134, Value.int 340 0, Value.int 79 0, Value.str (Str.ofString "/claim/cut.py") 341] },
 { cls := Value.type "function", data := Data.func { name := Str.ofString "initial", qualname := Str.ofString "Store.initial", params := fA (inCls 15 4), body := FuncBody.stmts (fB (inCls 15 4)), scope := fS (inCls 15 4), globals := 3, closure := [], defaults := Value.none, kwdefaults := Value.none, pyModule := Value.str (Str.ofString "fdsolve.store") 291, code := Value.ref 135 } },
 { cls := Value.type "tuple", data := Data.seq #[] },
 { cls := Value.none, data := Data.fields #[] },
 { cls := Value.type "tuple", data := Data.seq #[Value.str (Str.ofString "self") 346, Value.str (Str.ofString "x") 347] },
 { cls := Value.type "tuple", data := Data.seq #[] },
 { cls := Value.none, data := Data.func { name := Str.ofString "low", qualname := Str.ofString "Store.low", params := fA (inCls 15 5), body := FuncBody.stmts (fB (inCls 15 5)), scope := fS (inCls 15 5), globals := 0, closure := [], defaults := Value.none, kwdefaults := Value.none } },
 { cls := Value.type "code", data := Data.fields #[Value.str (Str.ofString "low") 343, Value.str (Str.ofString "Store.low") 344, Value.str (Str.ofString "/claim/cut.py") 345, Value.int 82 0, Value.int 2 0, Value.int 0 0, Value.int 0 0, Value.int 3 0, Value.ref 137, Value.bool true, Value.int 181 0, Value.ref 138, Value.none, Value.ref 139, Value.ref 140, Value.ref 141, Value.int 348 0, Value.int 82 0, Value.str (Str.ofString "/claim/cut.py") 349] },
 { cls := Value.type "function", data := Data.func { name := Str.ofString "low", qualname := Str.ofString "Store.low", params := fA (inCls 15 5), body := FuncBody.stmts (fB (inCls 15 5)), scope := fS (inCls 15 5), globals := 3, closure := [], defaults := Value.none, kwdefaults := Value.none, pyModule := Value.str (Str.ofString "fdsolve.store") 291, code := Value.ref 142 } },
 { cls := Value.type "tuple", data := Data.seq #[] },
 { cls := Value.none, data := Data.fields #[] },
 { cls := Value.type "tuple", data := Data.seq #[Value.str (Str.ofString "self") 354, Value.str (Str.ofString "x") 355] },
 { cls := Value.type "tuple", data := Data.seq #[] },
 { cls := Value.none, data := Data.func { name := Str.ofString "high", qualname := Str.ofString "Store.high", params := fA (inCls 15 6), body := FuncBody.stmts (fB (inCls 15 6)), scope := fS (inCls 15 6), globals := 0, closure := [], defaults := Value.none, kwdefaults := Value.none } },
 { cls := Value.type "code", data := Data.fields #[Value.str (Str.ofString "high") 351, Value.str (Str.ofString "Store.high") 352, Value.str (Str.ofString "/claim/cut.py") 353, Value.int 85 0, Value.int 2 0, Value.int 0 0, Value.int 0 0, Value.int 3 0, Value.ref 144, Value.bool true, Value.int 181 0, Value.ref 145, Value.none, Value.ref 146, Value.ref 147, Value.ref 148, Value.int 356 0, Value.int 85 0, Value.str (Str.ofString "/claim/cut.py") 357] },
 { cls := Value.type "function", data := Data.func { name := Str.ofString "high", qualname := Str.ofString "Store.high", params := fA (inCls 15 6), body := FuncBody.stmts (fB (inCls 15 6)), scope := fS (inCls 15 6), globals := 3, closure := [], defaults := Value.none, kwdefaults := Value.none, pyModule := Value.str (Str.ofString "fdsolve.store") 291, code := Value.ref 149 } },
 { cls := Value.type "tuple", data := Data.seq #[] },
 { cls := Value.none, data := Data.fields #[] },
 { cls := Value.type "tuple", data := Data.seq #[Value.str (Str.ofString "self") 362, Value.str (Str.ofString "x") 363, Value.str (Str.ofString "v") 364] },
 { cls := Value.type "tuple", data := Data.seq #[] },
 { cls := Value.none, data := Data.func { name := Str.ofString "has", qualname := Str.ofString "Store.has", params := fA (inCls 15 7), body := FuncBody.stmts (fB (inCls 15 7)), scope := fS (inCls 15 7), globals := 0, closure := [], defaults := Value.none, kwdefaults := Value.none } },
 kf P 156,
 kf P 157,
 { cls := Value.type "tuple", data := Data.seq #[] },
 { cls := Value.none, data := Data.fields #[] },
 { cls := Value.type "tuple", data := Data.seq #[Value.str (Str.ofString "self") 371, Value.str (Str.ofString "x") 372, Value.str (Str.ofString "domain") 373] },
 { cls := Value.type "tuple", data := Data.seq #[] },
 { cls := Value.none, data := Data.func { name := Str.ofString "is_fixed", qualname := Str.ofString "Store.is_fixed", params := fA (inCls 15 8), body := FuncBody.stmts (fB (inCls 15 8)), scope := fS (inCls 15 8), globals := 0, closure := [], defaults := Value.none, kwdefaults := Value.none } },
 kf P 163,
 kf P 164,
 { cls := Value.type "tuple", data := Data.seq #[] },
 { cls := Value.none, data := Data.fields #[] },
 { cls := Value.type "tuple", data := Data.seq #[Value.str (Str.ofString "self") 380, Value.str (Str.ofString "x") 381] },
 { cls := Value.type "tuple", data := Data.seq #[] },
 { cls := Value.none, data := Data.func { name := Str.ofString "value", qualname := Str.ofString "Store.value", params := fA (inCls 15 9), body := FuncBody.stmts (fB (inCls 15 9)), scope := fS (inCls 15 9), globals := 0, closure := [], defaults := Value.none, kwdefaults := Value.none } },
 kf P 170,
 kf P 171,
 { cls := Value.type "tuple", data := Data.seq #[] },
 { cls := Value.none, data := Data.fields #[] },
 { cls := Value.type "tuple", data := Data.seq #[Value.str (Str.ofString "self") 388, Value.str (Str.ofString "x") 389] },
 { cls := Value.type "tuple", data := Data.seq #[] },
 { cls := Value.none, data := Data.func { name := Str.ofString "width", qualname := Str.ofString "Store.width", params := fA (inCls 15 10), body := FuncBody.stmts (fB (inCls 15 10)), scope := fS (inCls 15 10), globals := 0, closure := [], defaults := Value.none, kwdefaults := Value.none } },
 { cls := Value.type "code", data := Data.fields #[Value.str (Str.ofString "width") 385, Value.str (Str.ofString "Store.width") 386, Value.str (Str.ofString "/claim/cut.py") 387, Value.int 98 0, Value.int 2 0, Value.int 0 0, Value.int 0 0, Value.int 3 0, Value.ref 172, Value.bool true, Value.int 181 0, Value.ref 173, Value.none, Value.ref 174, Value.ref 175, Value.ref 176, Value.int 390 0, Value.int 98 0, Value.str (Str.ofString "/claim/cut.py") 391] },
 { cls := Value.type "function", data := Data.func { name := Str.ofString "width", qualname := Str.ofString "Store.width", params := fA (inCls 15 10), body := FuncBody.stmts (fB (inCls 15 10)), scope := fS (inCls 15 10), globals := 3, closure := [], defaults := Value.none, kwdefaults := Value.none, pyModule := Value.str (Str.ofString "fdsolve.store") 291, code := Value.ref 177 } },
 { cls := Value.type "tuple", data := Data.seq #[] },
 { cls := Value.none, data := Data.fields #[] },
 { cls := Value.type "tuple", data := Data.seq #[Value.str (Str.ofString "self") 396, Value.str (Str.ofString "literal") 397] },
 { cls := Value.type "tuple", data := Data.seq #[] },
 { cls := Value.none, data := Data.func { name := Str.ofString "holds", qualname := Str.ofString "Store.holds", params := fA (inCls 15 11), body := FuncBody.stmts (fB (inCls 15 11)), scope := fS (inCls 15 11), globals := 0, closure := [], defaults := Value.none, kwdefaults := Value.none } },
 { cls := Value.type "code", data := Data.fields #[Value.str (Str.ofString "holds") 393, Value.str (Str.ofString "Store.holds") 394, Value.str (Str.ofString "/claim/cut.py") 395, Value.int 101 0, Value.int 2 0, Value.int 0 0, Value.int 0 0, Value.int 3 0, Value.ref 179, Value.bool true, Value.int 181 0, Value.ref 180, Value.none, Value.ref 181, Value.ref 182, Value.ref 183, Value.int 398 0, Value.int 101 0, Value.str (Str.ofString "/claim/cut.py") 399] },
 { cls := Value.type "function", data := Data.func { name := Str.ofString "holds", qualname := Str.ofString "Store.holds", params := fA (inCls 15 11), body := FuncBody.stmts (fB (inCls 15 11)), scope := fS (inCls 15 11), globals := 3, closure := [], defaults := Value.none, kwdefaults := Value.none, pyModule := Value.str (Str.ofString "fdsolve.store") 291, code := Value.ref 184 } },
 { cls := Value.type "tuple", data := Data.seq #[] },
 { cls := Value.none, data := Data.fields #[] },
 { cls := Value.type "tuple", data := Data.seq #[Value.str (Str.ofString "self") 404, Value.str (Str.ofString "literal") 405, Value.str (Str.ofString "reasons") 406, Value.str (Str.ofString "speaker") 407, Value.str (Str.ofString "x") 408, Value.str (Str.ofString "old") 409, Value.str (Str.ofString "fresh") 410] },
 { cls := Value.type "tuple", data := Data.seq #[] },
 { cls := Value.none, data := Data.func { name := Str.ofString "enter", qualname := Str.ofString "Store.enter", params := fA (inCls 15 12), body := FuncBody.stmts (fB (inCls 15 12)), scope := fS (inCls 15 12), globals := 0, closure := [], defaults := Value.none, kwdefaults := Value.none } },
 kf P 191,
 kf P 192,
 { cls := Value.type "tuple", data := Data.seq #[] },
 { cls := Value.none, data := Data.fields #[] },
 { cls := Value.type "tuple", data := Data.seq #[Value.str (Str.ofString "self") 417, Value.str (Str.ofString "literal") 418, Value.str (Str.ofString "reasons") 419] },
 { cls := Value.type "tuple", data := Data.seq #[] },
 { cls := Value.none, data := Data.func { name := Str.ofString "strike", qualname := Str.ofString "Store.strike", params := fA (inCls 15 13), body := FuncBody.stmts (fB (inCls 15 13)), scope := fS (inCls 15 13), globals := 0, closure := [], defaults := Value.none, kwdefaults := Value.none } },
 kf P 198,
 kf P 199,
 { cls := Value.type "tuple", data := Data.seq #[] },
 { cls := Value.none, data := Data.fields #[] },
 { cls := Value.type "tuple", data := Data.seq #[Value.str (Str.ofString "self") 426, Value.str (Str.ofString "literal") 427] },
 { cls := Value.type "tuple", data := Data.seq #[] },
 { cls := Value.none, data := Data.func { name := Str.ofString "decide", qualname := Str.ofString "Store.decide", params := fA (inCls 15 14), body := FuncBody.stmts (fB (inCls 15 14)), scope := fS (inCls 15 14), globals := 0, closure := [], defaults := Value.none, kwdefaults := Value.none } },
 { cls := Value.type "code", data := Data.fields #[Value.str (Str.ofString "decide") 423, Value.str (Str.ofString "Store.decide") 424, Value.str (Str.ofString "/claim/cut.py") 425, Value.int 120 0, Value.int 2 0, Value.int 0 0, Value.int 0 0, Value.int 3 0, Value.ref 200, Value.bool true, Value.int 181 0, Value.ref 201, Value.none, Value.ref 202, Value.ref 203, Value.ref 204, Value.int 428 0, Value.int 120 0, Value.str (Str.ofString "/claim/cut.py") 429] },
 { cls := Value.type "function", data := Data.func { name := Str.ofString "decide", qualname := Str.ofString "Store.decide", params := fA (inCls 15 14), body := FuncBody.stmts (fB (inCls 15 14)), scope := fS (inCls 15 14), globals := 3, closure := [], defaults := Value.none, kwdefaults := Value.none, pyModule := Value.str (Str.ofString "fdsolve.store") 291, code := Value.ref 205 } },
 { cls := Value.type "tuple", data := Data.seq #[] },
 { cls := Value.none, data := Data.fields #[] },
 { cls := Value.type "tuple", data := Data.seq #[Value.str (Str.ofString "self") 434, Value.str (Str.ofString "reasons") 435] },
 { cls := Value.type "tuple", data := Data.seq #[] },
 { cls := Value.none, data := Data.func { name := Str.ofString "fail", qualname := Str.ofString "Store.fail", params := fA (inCls 15 15), body := FuncBody.stmts (fB (inCls 15 15)), scope := fS (inCls 15 15), globals := 0, closure := [], defaults := Value.none, kwdefaults := Value.none } },
 kf P 212,
 kf P 213,
 { cls := Value.type "tuple", data := Data.seq #[] },
 { cls := Value.none, data := Data.fields #[] },
 { cls := Value.type "tuple", data := Data.seq #[Value.str (Str.ofString "self") 442] },
 { cls := Value.type "tuple", data := Data.seq #[] },
 { cls := Value.none, data := Data.func { name := Str.ofString "push", qualname := Str.ofString "Store.push", params := fA (inCls 15 16), body := FuncBody.stmts (fB (inCls 15 16)), scope := fS (inCls 15 16), globals := 0, closure := [], defaults := Value.none, kwdefaults := Value.none } },
 kf P 219,
 kf P 220,
 { cls := Value.type "tuple", data := Data.seq #[] },
 { cls := Value.none, data := Data.fields #[] },
 { cls := Value.type "tuple", data := Data.seq #[Value.str (Str.ofString "self") 449, Value.str (Str.ofString "n") 450, Value.str (Str.ofString "mark") 451, Value.str (Str.ofString "entry") 452] },
 { cls := Value.type "tuple", data := Data.seq #[] },
 { cls := Value.none, data := Data.func { name := Str.ofString "pop", qualname := Str.ofString "Store.pop", params := fA (inCls 15 17), body := FuncBody.stmts (fB (inCls 15 17)), scope := fS (inCls 15 17), globals := 0, closure := [], defaults := Value.none, kwdefaults := Value.none } },
 kf P 226,
 kf P 227,
 { cls := Value.type "tuple", data := Data.seq #[] },
 { cls := Value.none, data := Data.fields #[] },
 { cls := Value.type "tuple", data := Data.seq #[Value.str (Str.ofString "self") 459] },
 { cls := Value.type "tuple", data := Data.seq #[] },
 { cls := Value.none, data := Data.func { name := Str.ofString "depth", qualname := Str.ofString "Store.depth", params := fA (inCls 15 18), body := FuncBody.stmts (fB (inCls 15 18)), scope := fS (inCls 15 18), globals := 0, closure := [], defaults := Value.none, kwdefaults := Value.none } },
 { cls := Value.type "code", data := Data.fields #[Value.str (Str.ofString "depth") 456, Value.str (Str.ofString "Store.depth") 457, Value.str (Str.ofString "/claim/cut.py") 458, Value.int 143 0, Value.int 1 0, Value.int 0 0, Value.int 0 0, Value.int 3 0, Value.ref 228, Value.bool true, Value.int 181 0, Value.ref 229, Value.none, Value.ref 230, Value.ref 231, Value.ref 232, Value.int 460 0, Value.int 143 0, Value.str (Str.ofString "/claim/cut.py") 461] },
 { cls := Value.type "function", data := Data.func { name := Str.ofString "depth", qualname := Str.ofString "Store.depth", params := fA (inCls 15 18), body := FuncBody.stmts (fB (inCls 15 18)), scope := fS (inCls 15 18), globals := 3, closure := [], defaults := Value.none, kwdefaults := Value.none, pyModule := Value.str (Str.ofString "fdsolve.store") 291, code := Value.ref 233 } },
 { cls := Value.type "tuple", data := Data.seq #[] },
 { cls := Value.none, data := Data.fields #[] },
 { cls := Value.type "tuple", data := Data.seq #[Value.str (Str.ofString "self") 466] },
 { cls := Value.type "tuple", data := Data.seq #[] },
 { cls := Value.none, data := Data.func { name := Str.ofString "changed", qualname := Str.ofString "Store.changed", params := fA (inCls 15 19), body := FuncBody.stmts (fB (inCls 15 19)), scope := fS (inCls 15 19), globals := 0, closure := [], defaults := Value.none, kwdefaults := Value.none } },
 { cls := Value.type "code", data := Data.fields #[Value.str (Str.ofString "changed") 463, Value.str (Str.ofString "Store.changed") 464, Value.str (Str.ofString "/claim/cut.py") 465, Value.int 146 0, Value.int 1 0, Value.int 0 0, Value.int 0 0, Value.int 3 0, Value.ref 235, Value.bool true, Value.int 181 0, Value.ref 236, Value.none, Value.ref 237, Value.ref 238, Value.ref 239, Value.int 467 0, Value.int 146 0, Value.str (Str.ofString "/claim/cut.py") 468] },
 { cls := Value.type "function", data := Data.func { name := Str.ofString "changed", qualname := Str.ofString "Store.changed", params := fA (inCls 15 19), body := FuncBody.stmts (fB (inCls 15 19)), scope := fS (inCls 15 19), globals := 3, closure := [], defaults := Value.none, kwdefaults := Value.none, pyModule := Value.str (Str.ofString "fdsolve.store") 291, code := Value.ref 240 } },
 { cls := Value.type "tuple", data := Data.seq #[Value.str (Str.ofString "clash") 470, Value.str (Str.ofString "domains") 471, Value.str (Str.ofString "firsts") 472, Value.str (Str.ofString "is_failed") 473, Value.str (Str.ofString "marks") 474, Value.str (Str.ofString "news") 475, Value.str (Str.ofString "speaker") 476, Value.str (Str.ofString "trail") 477] },
 kf P 243,
 kf P 244,
 { cls := Value.type "getset_descriptor", data := Data.fields #[Value.str (Str.ofString "__dict__") 479, Value.ref 244, Value.builtin "function.__dict__", Value.builtin "function.__dict__#set"] },
 { cls := Value.type "getset_descriptor", data := Data.fields #[Value.str (Str.ofString "__weakref__") 481, Value.ref 244, Value.builtin "ExceptionGroup.__weakref__", Value.none] },
 { cls := Value.type "super", data := Data.fields #[Value.ref 244, Value.ref 244, Value.ref 244] },
 { cls := Value.type "builtin_function_or_method", data := Data.fields #[Value.builtin "object.__init_subclass__", Value.ref 244] },
 { cls := Value.type "tuple", data := Data.seq #[] },
 { cls := Value.type "builtin_function_or_method", data := Data.fields #[Value.builtin "type.__prepare__", Value.type "type"] },
 { cls := Value.type "dict", data := Data.dict #[{ hash := PyData.keyHash P (Str.ofString "__module__"), key := Value.str (Str.ofString "__module__") 493, val := Value.str (Str.ofString "fdsolve.store") 291 }, { hash := PyData.keyHash P (Str.ofString "__qualname__"), key := Value.str (Str.ofString "__qualname__") 495, val := Value.str (Str.ofString "Propagator") 494 }, { hash := PyData.keyHash P (Str.ofString "__firstlineno__"), key := Value.str (Str.ofString "__firstlineno__") 497, val := Value.int 148 496 }, { hash := PyData.keyHash P (Str.ofString "__init__"), key := Value.str (Str.ofString "__init__") 506, val := Value.ref 262 }, { hash := PyData.keyHash P (Str.ofString "propagate"), key := Value.str (Str.ofString "propagate") 514, val := Value.ref 269 }, { hash := PyData.keyHash P (Str.ofString "check"), key := Value.str (Str.ofString "check") 522, val := Value.ref 276 }, { hash := PyData.keyHash P (Str.ofString "told"), key := Value.str (Str.ofString "told") 529, val := Value.ref 283 }, { hash := PyData.keyHash P (Str.ofString "__static_attributes__"), key := Value.str (Str.ofString "__static_attributes__") 533, val := Value.ref 284 }] 8 },
 { cls := Value.type "tuple", data := Data.seq #[] },
 { cls := Value.none, data := Data.fields #[Value.int 150 0, Value.int 4 0, Value.ref 261, Value.int 155 0, Value.int 4 0, Value.ref 268, Value.int 158 0, Value.int 4 0, Value.ref 275, Value.int 161 0, Value.int 4 0, Value.ref 282] },
 { cls := Value.type "code", data := Data.fields #[Value.str (Str.ofString "Propagator") 488, Value.str (Str.ofString "Propagator") 489, Value.str (Str.ofString "/claim/cut.py") 490, Value.int 148 0, Value.int 0 0, Value.int 0 0, Value.int 0 0, Value.int 0 0, Value.ref 252, Value.bool false, Value.int 181 0, Value.ref 253, Value.none, Value.none, Value.none, Value.none, Value.int 491 0, Value.int 148 0, Value.str (Str.ofString "/claim/cut.py") 492] },
 { cls := Value.type "frame", slots := #[some (Value.ref 254), some (Value.ref 3), some (Value.ref 251), none, some (Value.str (Str.ofString "fdsolve.store") 291), none, some (Value.ref 0)] },
 { cls := Value.type "tuple", data := Data.seq #[] },
 { cls := Value.none, data := Data.fields #[] },
 { cls := Value.type "tuple", data := Data.seq #[Value.str (Str.ofString "self") 501, Value.str (Str.ofString "scope") 502, Value.str (Str.ofString "strength") 503] },
 { cls := Value.type "tuple", data := Data.seq #[] },
 { cls := Value.none, data := Data.func { name := Str.ofString "__init__", qualname := Str.ofString "Propagator.__init__", params := fA (inCls 16 0), body := FuncBody.stmts (fB (inCls 16 0)), scope := fS (inCls 16 0), globals := 0, closure := [], defaults := Value.none, kwdefaults := Value.none } },
 kf P 261,
 kf P 262,
 { cls := Value.type "tuple", data := Data.seq #[] },
 { cls := Value.none, data := Data.fields #[] },
 { cls := Value.type "tuple", data := Data.seq #[Value.str (Str.ofString "self") 510, Value.str (Str.ofString "store") 511] },
 { cls := Value.type "tuple", data := Data.seq #[] },
 { cls := Value.none, data := Data.func { name := Str.ofString "propagate", qualname := Str.ofString "Propagator.propagate", params := fA (inCls 16 1), body := FuncBody.stmts (fB (inCls 16 1)), scope := fS (inCls 16 1), globals := 0, closure := [], defaults := Value.none, kwdefaults := Value.none } },
 { cls := Value.type "code", data := Data.fields #[Value.str (Str.ofString "propagate") 507, Value.str (Str.ofString "Propagator.propagate") 508, Value.str (Str.ofString "/claim/cut.py") 509, Value.int 155 0, Value.int 2 0, Value.int 0 0, Value.int 0 0, Value.int 3 0, Value.ref 263, Value.bool true, Value.int 181 0, Value.ref 264, Value.none, Value.ref 265, Value.ref 266, Value.ref 267, Value.int 512 0, Value.int 155 0, Value.str (Str.ofString "/claim/cut.py") 513] },
 { cls := Value.type "function", data := Data.func { name := Str.ofString "propagate", qualname := Str.ofString "Propagator.propagate", params := fA (inCls 16 1), body := FuncBody.stmts (fB (inCls 16 1)), scope := fS (inCls 16 1), globals := 3, closure := [], defaults := Value.none, kwdefaults := Value.none, pyModule := Value.str (Str.ofString "fdsolve.store") 291, code := Value.ref 268 } },
 { cls := Value.type "tuple", data := Data.seq #[] },
 { cls := Value.none, data := Data.fields #[] },
 { cls := Value.type "tuple", data := Data.seq #[Value.str (Str.ofString "self") 518, Value.str (Str.ofString "values") 519] },
 { cls := Value.type "tuple", data := Data.seq #[] },
 { cls := Value.none, data := Data.func { name := Str.ofString "check", qualname := Str.ofString "Propagator.check", params := fA (inCls 16 2), body := FuncBody.stmts (fB (inCls 16 2)), scope := fS (inCls 16 2), globals := 0, closure := [], defaults := Value.none, kwdefaults := Value.none } },
 { cls := Value.type "code", data := Data.fields #[Value.str (Str.ofString "check") 515, Value.str (Str.ofString "Propagator.check") 516, Value.str (Str.ofString "/claim/cut.py") 517, Value.int 158 0, Value.int 2 0, Value.int 0 0, Value.int 0 0, Value.int 3 0, Value.ref 270, Value.bool true, Value.int 181 0, Value.ref 271, Value.none, Value.ref 272, Value.ref 273, Value.ref 274, Value.int 520 0, Value.int 158 0, Value.str (Str.ofString "/claim/cut.py") 521] },
 { cls := Value.type "function", data := Data.func { name := Str.ofString "check", qualname := Str.ofString "Propagator.check", params := fA (inCls 16 2), body := FuncBody.stmts (fB (inCls 16 2)), scope := fS (inCls 16 2), globals := 3, closure := [], defaults := Value.none, kwdefaults := Value.none, pyModule := Value.str (Str.ofString "fdsolve.store") 291, code := Value.ref 275 } },
 { cls := Value.type "tuple", data := Data.seq #[] },
 { cls := Value.none, data := Data.fields #[] },
 { cls := Value.type "tuple", data := Data.seq #[Value.str (Str.ofString "self") 526] },
 { cls := Value.type "tuple", data := Data.seq #[] },
 { cls := Value.none, data := Data.func { name := Str.ofString "told", qualname := Str.ofString "Propagator.told", params := fA (inCls 16 3), body := FuncBody.stmts (fB (inCls 16 3)), scope := fS (inCls 16 3), globals := 0, closure := [], defaults := Value.none, kwdefaults := Value.none } },
 { cls := Value.type "code", data := Data.fields #[Value.str (Str.ofString "told") 523, Value.str (Str.ofString "Propagator.told") 524, Value.str (Str.ofString "/claim/cut.py") 525, Value.int 161 0, Value.int 1 0, Value.int 0 0, Value.int 0 0, Value.int 3 0, Value.ref 277, Value.bool true, Value.int 181 0, Value.ref 278, Value.none, Value.ref 279, Value.ref 280, Value.ref 281, Value.int 527 0, Value.int 161 0, Value.str (Str.ofString "/claim/cut.py") 528] },
 { cls := Value.type "function", data := Data.func { name := Str.ofString "told", qualname := Str.ofString "Propagator.told", params := fA (inCls 16 3), body := FuncBody.stmts (fB (inCls 16 3)), scope := fS (inCls 16 3), globals := 3, closure := [], defaults := Value.none, kwdefaults := Value.none, pyModule := Value.str (Str.ofString "fdsolve.store") 291, code := Value.ref 282 } },
 { cls := Value.type "tuple", data := Data.seq #[Value.str (Str.ofString "number") 530, Value.str (Str.ofString "scope") 531, Value.str (Str.ofString "strength") 532] },
 kf P 285,
 kf P 286,
 { cls := Value.type "getset_descriptor", data := Data.fields #[Value.str (Str.ofString "__dict__") 534, Value.ref 286, Value.builtin "function.__dict__", Value.builtin "function.__dict__#set"] },
 { cls := Value.type "getset_descriptor", data := Data.fields #[Value.str (Str.ofString "__weakref__") 536, Value.ref 286, Value.builtin "ExceptionGroup.__weakref__", Value.none] },
 { cls := Value.type "super", data := Data.fields #[Value.ref 286, Value.ref 286, Value.ref 286] },
 { cls := Value.type "builtin_function_or_method", data := Data.fields #[Value.builtin "object.__init_subclass__", Value.ref 286] },
 { cls := Value.type "tuple", data := Data.seq #[Value.ref 286] },
 { cls := Value.type "builtin_function_or_method", data := Data.fields #[Value.builtin "type.__prepare__", Value.type "type"] },
 { cls := Value.type "dict", data := Data.dict #[{ hash := PyData.keyHash P (Str.ofString "__module__"), key := Value.str (Str.ofString "__module__") 550, val := Value.str (Str.ofString "fdsolve.order") 541 }, { hash := PyData.keyHash P (Str.ofString "__qualname__"), key := Value.str (Str.ofString "__qualname__") 552, val := Value.str (Str.ofString "Inverse") 551 }, { hash := PyData.keyHash P (Str.ofString "__firstlineno__"), key := Value.str (Str.ofString "__firstlineno__") 554, val := Value.int 164 553 }, { hash := PyData.keyHash P (Str.ofString "__init__"), key := Value.str (Str.ofString "__init__") 564, val := Value.ref 306 }, { hash := PyData.keyHash P (Str.ofString "propagate"), key := Value.str (Str.ofString "propagate") 572, val := Value.ref 313 }, { hash := PyData.keyHash P (Str.ofString "turn"), key := Value.str (Str.ofString "turn") 587, val := Value.ref 320 }, { hash := PyData.keyHash P (Str.ofString "check"), key := Value.str (Str.ofString "check") 595, val := Value.ref 327 }, { hash := PyData.keyHash P (Str.ofString "told"), key := Value.str (Str.ofString "told") 602, val := Value.ref 334 }, { hash := PyData.keyHash P (Str.ofString "__static_attributes__"), key := Value.str (Str.ofString "__static_attributes__") 605, val := Value.ref 335 }, { hash := PyData.keyHash P (Str.ofString "__classcell__"), key := Value.str (Str.ofString "__classcell__") 606, val := Value.ref 294 }] 10 },
 kf P 294,
 { cls := Value.type "tuple", data := Data.seq #[] },
 { cls := Value.none, data := Data.fields #[Value.int 166 0, Value.int 4 0, Value.ref 305, Value.int 171 0, Value.int 4 0, Value.ref 312, Value.int 174 0, Value.int 4 0, Value.ref 319, Value.int 186 0, Value.int 4 0, Value.ref 326, Value.int 189 0, Value.int 4 0, Value.ref 333] },
 { cls := Value.type "code", data := Data.fields #[Value.str (Str.ofString "Inverse") 545, Value.str (Str.ofString "Inverse") 546, Value.str (Str.ofString "/claim/cut.py") 547, Value.int 164 0, Value.int 0 0, Value.int 0 0, Value.int 0 0, Value.int 0 0, Value.ref 295, Value.bool false, Value.int 181 0, Value.ref 296, Value.none, Value.none, Value.none, Value.none, Value.int 548 0, Value.int 164 0, Value.str (Str.ofString "/claim/cut.py") 549] },
 { cls := Value.type "frame", slots := #[some (Value.ref 297), some (Value.ref 3), some (Value.ref 293), none, some (Value.str (Str.ofString "fdsolve.order") 541), none, some (Value.ref 0)] },
 kf P 299,
 { cls := Value.type "tuple", data := Data.seq #[Value.str (Str.ofString "__class__") 558] },
 { cls := Value.none, data := Data.fields #[] },
 { cls := Value.type "tuple", data := Data.seq #[Value.str (Str.ofString "self") 559, Value.str (Str.ofString "fs") 560, Value.str (Str.ofString "gs") 561] },
 { cls := Value.type "tuple", data := Data.seq #[] },
 { cls := Value.none, data := Data.func { name := Str.ofString "__init__", qualname := Str.ofString "Inverse.__init__", params := fA (inCls 18 0), body := FuncBody.stmts (fB (inCls 18 0)), scope := fS (inCls 18 0), globals := 0, closure := [], defaults := Value.none, kwdefaults := Value.none } },
 kf P 305,
 kf P 306,
 { cls := Value.type "tuple", data := Data.seq #[] },
 { cls := Value.none, data := Data.fields #[] },
 { cls := Value.type "tuple", data := Data.seq #[Value.str (Str.ofString "self") 568, Value.str (Str.ofString "store") 569] },
 { cls := Value.type "tuple", data := Data.seq #[] },
 { cls := Value.none, data := Data.func { name := Str.ofString "propagate", qualname := Str.ofString "Inverse.propagate", params := fA (inCls 18 1), body := FuncBody.stmts (fB (inCls 18 1)), scope := fS (inCls 18 1), globals := 0, closure := [], defaults := Value.none, kwdefaults := Value.none } },
 { cls := Value.type "code", data := Data.fields #[Value.str (Str.ofString "propagate") 565, Value.str (Str.ofString "Inverse.propagate") 566, Value.str (Str.ofString "/claim/cut.py") 567, Value.int 171 0, Value.int 2 0, Value.int 0 0, Value.int 0 0, Value.int 3 0, Value.ref 307, Value.bool true, Value.int 181 0, Value.ref 308, Value.none, Value.ref 309, Value.ref 310, Value.ref 311, Value.int 570 0, Value.int 171 0, Value.str (Str.ofString "/claim/cut.py") 571] },
 { cls := Value.type "function", data := Data.func { name := Str.ofString "propagate", qualname := Str.ofString "Inverse.propagate", params := fA (inCls 18 1), body := FuncBody.stmts (fB (inCls 18 1)), scope := fS (inCls 18 1), globals := 3, closure := [], defaults := Value.none, kwdefaults := Value.none, pyModule := Value.str (Str.ofString "fdsolve.order") 541, code := Value.ref 312 } },
 { cls := Value.type "tuple", data := Data.seq #[] },
 { cls := Value.none, data := Data.fields #[] },
 { cls := Value.type "tuple", data := Data.seq #[Value.str (Str.ofString "self") 576, Value.str (Str.ofString "store") 577, Value.str (Str.ofString "row") 578, Value.str (Str.ofString "back") 579, Value.str (Str.ofString "i") 580, Value.str (Str.ofString "x") 581, Value.str (Str.ofString "j") 582, Value.str (Str.ofString "y") 583, Value.str (Str.ofString "v") 584] },
 { cls := Value.type "tuple", data := Data.seq #[] },
 { cls := Value.none, data := Data.func { name := Str.ofString "turn", qualname := Str.ofString "Inverse.turn", params := fA (inCls 18 2), body := FuncBody.stmts (fB (inCls 18 2)), scope := fS (inCls 18 2), globals := 0, closure := [], defaults := Value.none, kwdefaults := Value.none } },
 kf P 319,
 kf P 320,
 { cls := Value.type "tuple", data := Data.seq #[] },
 { cls := Value.none, data := Data.fields #[] },
 { cls := Value.type "tuple", data := Data.seq #[Value.str (Str.ofString "self") 591, Value.str (Str.ofString "values") 592] },
 { cls := Value.type "tuple", data := Data.seq #[] },
 { cls := Value.none, data := Data.func { name := Str.ofString "check", qualname := Str.ofString "Inverse.check", params := fA (inCls 18 3), body := FuncBody.stmts (fB (inCls 18 3)), scope := fS (inCls 18 3), globals := 0, closure := [], defaults := Value.none, kwdefaults := Value.none } },
 { cls := Value.type "code", data := Data.fields #[Value.str (Str.ofString "check") 588, Value.str (Str.ofString "Inverse.check") 589, Value.str (Str.ofString "/claim/cut.py") 590, Value.int 186 0, Value.int 2 0, Value.int 0 0, Value.int 0 0, Value.int 3 0, Value.ref 321, Value.bool true, Value.int 181 0, Value.ref 322, Value.none, Value.ref 323, Value.ref 324, Value.ref 325, Value.int 593 0, Value.int 186 0, Value.str (Str.ofString "/claim/cut.py") 594] },
 { cls := Value.type "function", data := Data.func { name := Str.ofString "check", qualname := Str.ofString "Inverse.check", params := fA (inCls 18 3), body := FuncBody.stmts (fB (inCls 18 3)), scope := fS (inCls 18 3), globals := 3, closure := [], defaults := Value.none, kwdefaults := Value.none, pyModule := Value.str (Str.ofString "fdsolve.order") 541, code := Value.ref 326 } },
 { cls := Value.type "tuple", data := Data.seq #[] },
 { cls := Value.none, data := Data.fields #[] },
 { cls := Value.type "tuple", data := Data.seq #[Value.str (Str.ofString "self") 599] },
 { cls := Value.type "tuple", data := Data.seq #[] },
 { cls := Value.none, data := Data.func { name := Str.ofString "told", qualname := Str.ofString "Inverse.told", params := fA (inCls 18 4), body := FuncBody.stmts (fB (inCls 18 4)), scope := fS (inCls 18 4), globals := 0, closure := [], defaults := Value.none, kwdefaults := Value.none } },
 { cls := Value.type "code", data := Data.fields #[Value.str (Str.ofString "told") 596, Value.str (Str.ofString "Inverse.told") 597, Value.str (Str.ofString "/claim/cut.py") 598, Value.int 189 0, Value.int 1 0, Value.int 0 0, Value.int 0 0, Value.int 3 0, Value.ref 328, Value.bool true, Value.int 181 0, Value.ref 329, Value.none, Value.ref 330, Value.ref 331, Value.ref 332, Value.int 600 0, Value.int 189 0, Value.str (Str.ofString "/claim/cut.py") 601] },
 { cls := Value.type "function", data := Data.func { name := Str.ofString "told", qualname := Str.ofString "Inverse.told", params := fA (inCls 18 4), body := FuncBody.stmts (fB (inCls 18 4)), scope := fS (inCls 18 4), globals := 3, closure := [], defaults := Value.none, kwdefaults := Value.none, pyModule := Value.str (Str.ofString "fdsolve.order") 541, code := Value.ref 333 } },
 { cls := Value.type "tuple", data := Data.seq #[Value.str (Str.ofString "fs") 603, Value.str (Str.ofString "gs") 604] },
 kf P 336,
 kf P 337,
 { cls := Value.type "super", data := Data.fields #[Value.ref 337, Value.ref 337, Value.ref 337] },
 { cls := Value.type "builtin_function_or_method", data := Data.fields #[Value.builtin "object.__init_subclass__", Value.ref 337] },
 { cls := Value.type "tuple", data := Data.seq #[] },
 { cls := Value.none, data := Data.fields #[] },
 { cls := Value.type "tuple", data := Data.seq #[Value.str (Str.ofString "hand") 615, Value.str (Str.ofString "many") 616] },
 { cls := Value.type "tuple", data := Data.seq #[] },
 { cls := Value.none, data := Data.func { name := Str.ofString "_law_pick", qualname := Str.ofString "_law_pick", params := fA (topS 20), body := FuncBody.stmts (fB (topS 20)), scope := fS (topS 20), globals := 0, closure := [], defaults := Value.none, kwdefaults := Value.none } },
 kf P 345,
 kf P 346,
 { cls := Value.type "tuple", data := Data.seq #[] },
 { cls := Value.none, data := Data.fields #[] },
 { cls := Value.type "tuple", data := Data.seq #[Value.str (Str.ofString "lot") 623, Value.str (Str.ofString "found") 624, Value.str (Str.ofString "v") 625] },
 { cls := Value.type "tuple", data := Data.seq #[] },
 { cls := Value.none, data := Data.func { name := Str.ofString "_law_spans", qualname := Str.ofString "_law_spans", params := fA (topS 21), body := FuncBody.stmts (fB (topS 21)), scope := fS (topS 21), globals := 0, closure := [], defaults := Value.none, kwdefaults := Value.none } },
 kf P 352,
 kf P 353,
 { cls := Value.type "tuple", data := Data.seq #[] },
 { cls := Value.none, data := Data.fields #[] },
 { cls := Value.none, data := Data.func { name := Str.ofString "_law_lot", qualname := Str.ofString "_law_lot", params := fA (topS 22), body := FuncBody.stmts (fB (topS 22)), scope := fS (topS 22), globals := 0, closure := [], defaults := Value.none, kwdefaults := Value.none } },
 kf P 357,
 kf P 358,
 { cls := Value.type "tuple", data := Data.seq #[] },
 { cls := Value.none, data := Data.fields #[] },
 { cls := Value.none, data := Data.func { name := Str.ofString "_law_turned", qualname := Str.ofString "_law_turned", params := fA (topS 23), body := FuncBody.stmts (fB (topS 23)), scope := fS (topS 23), globals := 0, closure := [], defaults := Value.none, kwdefaults := Value.none } },
 kf P 362,
 kf P 363,
 { cls := Value.type "tuple", data := Data.seq #[] },
 { cls := Value.none, data := Data.fields #[] },
 { cls := Value.type "tuple", data := Data.seq #[Value.str (Str.ofString "rows") 644, Value.str (Str.ofString "row") 645, Value.str (Str.ofString "i") 646, Value.str (Str.ofString "found") 647, Value.str (Str.ofString "v") 648] },
 { cls := Value.type "tuple", data := Data.seq #[] },
 { cls := Value.none, data := Data.func { name := Str.ofString "_law_pairs", qualname := Str.ofString "_law_pairs", params := fA (topS 24), body := FuncBody.stmts (fB (topS 24)), scope := fS (topS 24), globals := 0, closure := [], defaults := Value.none, kwdefaults := Value.none } },
 kf P 369,
 kf P 370,
 { cls := Value.type "tuple", data := Data.seq #[] },
 { cls := Value.none, data := Data.fields #[] },
 { cls := Value.none, data := Data.func { name := Str.ofString "law", qualname := Str.ofString "law", params := fA (topS 25), body := FuncBody.stmts (fB (topS 25)), scope := fS (topS 25), globals := 0, closure := [], defaults := Value.none, kwdefaults := Value.none } },
 kf P 374,
 kf P 375]

noncomputable def mainAt (P : Params) (k : Nat) (nm : Str) (tok : Nat) : Obj := match (kf P 3).data with
  | .dict es _ => { cls := .type "dict", data := .dict ((⟨PyData.keyHash P "__name__", .str "__name__" 165, .str nm tok⟩ : DictEntry) :: (es.toList.take k).drop 1).toArray k }
  | _ => default
noncomputable def linesAt (P : Params) (k : Nat) : Obj := match ((full P).getD 12 default).data with
  | .fields vs => { cls := .none, data := .fields (vs.toList.take k).toArray }
  | _ => default
noncomputable def propAt (P : Params) : Obj := match kf P 286 with
  | ⟨c, d, .cls x, s⟩ => ⟨c, d, .cls { x with subclasses := [] }, s⟩
  | o => o
noncomputable def cut (P : Params) (n k l : Nat) (nm : Str) (tok : Nat) : List Obj := (((full P).take n).set 3 (mainAt P k nm tok)).set 12 (linesAt P l)
noncomputable def O0 (P : Params) : List Obj := (((full P).take 15).set 3 (boot_o_3 P)).set 12 { cls := .none, data := .fields #[] }
noncomputable def O1 (P : Params) : List Obj := cut P 95 22 36 "fdsolve.store" 291
noncomputable def O2 (P : Params) : List Obj := cut P 249 23 39 "fdsolve.store" 291
noncomputable def O3 (P : Params) : List Obj := (cut P 291 24 42 "fdsolve.order" 541).set 286 (propAt P)
noncomputable def O4 (P : Params) : List Obj := cut P 340 25 45 "fdsolve.order" 541
noncomputable def alt {α : Type} : List α → List α × List α
  | [] => ([], [])
  | a :: r => (a :: (alt r).2, (alt r).1)
noncomputable def treeL : Nat → List Obj → BT
  | 0, _ => .nil
  | _ + 1, [] => .nil
  | f + 1, o :: r => .node o (treeL f (alt r).1) (treeL f (alt r).2)
noncomputable def env0 : Env := { scope := pw.main.scope, locals := mainNs, globals := mainNs, cells := [], code := .ref 13, frame := some 14 }
noncomputable def bd : List Stmt := behindTheImports pw
noncomputable def cE : Code := .body bd env0
noncomputable def ST (t : BT) (n tk : Nat) (os : OsState) : SharedT := ⟨t, n, {}, #[], {}, tk, os⟩
noncomputable def ps (a b c d : Nat) : Pos := ⟨a, b, c, d⟩
theorem t_segT : @segRunT = @Fast.tw10110043849684766642 := Fast.te10110043849684766642
theorem pc1 : ∀ w : World, (fun os => segRunT treeTable pw w 11 (some (.ref 6)) 1 390 (ST (treeL 12 (O0 w.params)) 15 187 os) (piecesOf (bd.take 15) env0 cE (ps 0 0 0 0) [topFrame (ps 0 0 0 0)])) =
    fun os => some (.next, ST (treeL 12 (O1 w.params)) 95 293 os, cE, ps 53 0 53 8) := fun w => by
  rw [t_segT, t_tab]
  kernel_rfl
theorem pc2 : ∀ w : World, (fun os => segRunT treeTable pw w 11 (some (.ref 6)) 1 843 (ST (treeL 12 (O1 w.params)) 95 293 os) (piecesOf ((bd.drop 15).take 1) env0 cE (ps 53 0 53 8) [topFrame (ps 0 0 0 0)])) =
    fun os => some (.next, ST (treeL 12 (O2 w.params)) 249 486 os, cE, ps 54 0 147 16) := fun w => by
  rw [t_segT, t_tab]
  kernel_rfl
theorem pc3 : ∀ w : World, (fun os => segRunT treeTable pw w 11 (some (.ref 6)) 1 330 (ST (treeL 12 (O2 w.params)) 249 486 os) (piecesOf ((bd.drop 16).take 2) env0 cE (ps 54 0 147 16) [topFrame (ps 0 0 0 0)])) =
    fun os => some (.next, ST (treeL 12 (O3 w.params)) 291 543 os, cE, ps 163 0 163 8) := fun w => by
  rw [t_segT, t_tab]
  kernel_rfl
theorem pc4 : ∀ w : World, (fun os => segRunT treeTable pw w 11 (some (.ref 6)) 1 398 (ST (treeL 12 (O3 w.params)) 291 543 os) (piecesOf ((bd.drop 18).take 1) env0 cE (ps 163 0 163 8) [topFrame (ps 0 0 0 0)])) =
    fun os => some (.next, ST (treeL 12 (O4 w.params)) 340 610 os, cE, ps 164 0 190 17) := fun w => by
  rw [t_segT, t_tab]
  kernel_rfl
theorem pc5 : ∀ w : World, (fun os => segRunT treeTable pw w 11 (some (.ref 6)) 1 182 (ST (treeL 12 (O4 w.params)) 340 610 os) (piecesOf (bd.drop 19) env0 cE (ps 164 0 190 17) [topFrame (ps 0 0 0 0)])) =
    fun os => some (.next, ST (treeL 12 (full w.params)) 376 658 os, cE, ps 234 0 272 109) := fun w => by
  rw [t_segT, t_tab]
  kernel_rfl
theorem t_go : @topGo = @Fast.tw15667345088766844465 := Fast.te15667345088766844465
theorem t_den : @denote = @Fast.tw11892475500146522536 := Fast.te11892475500146522536
theorem pc_pre : ∀ w : World, (fun os => topGo treeTable pw w 11 (some (.ref 6)) 12 ⟨boot_heap w.params, #[], boot_drawn, boot_toks, os⟩ (topStub pw)) =
    fun os => some (⟨⟨(O0 w.params).toArray, {}⟩, #[], {}, 187, os⟩, ⟨denote treeTable cE, cE, ps 0 0 0 0, [topFrame (ps 0 0 0 0)]⟩) := fun w => by
  rw [t_go, t_den, t_tab]
  kernel_rfl
theorem t_seg : @segRun = @Fast.tw14374325043358763698 := Fast.te14374325043358763698
theorem pc_block : ∀ w : World, (fun os => segRun treeTable pw w 11 (some (.ref 6)) 1 1 ⟨⟨(O0 w.params).toArray, {}⟩, #[], {}, 187, os⟩ (blockOf bd env0 cE (ps 0 0 0 0) [topFrame (ps 0 0 0 0)])) =
    fun os => some (.next, (ST (treeL 12 (O0 w.params)) 15 187 os).abs, cE, ps 0 0 0 0) := fun w => by
  rw [t_seg, t_tab]
  kernel_rfl
theorem pc_fin : ∀ w : World, (fun os => topRun treeTable pw w 11 (some (.ref 6)) 2 (ST (treeL 12 (full w.params)) 376 658 os).abs ⟨doneF .next, cE, ps 234 0 272 109, [topFrame (ps 0 0 0 0)]⟩) =
    fun os => some ⟨⟨(full w.params).toArray, {}⟩, #[], {}, 658, os⟩ := fun w => by
  rw [t_run, t_tab]
  kernel_rfl
theorem bd_eq : bd = bd.take 15 ++ ((bd.drop 15).take 1 ++ ((bd.drop 16).take 2 ++ ((bd.drop 18).take 1 ++ (bd.drop 19 ++ [])))) := by
  have h (a b : Nat) : bd.drop a = (bd.drop a).take b ++ bd.drop (a + b) := (List.take_append_drop b (bd.drop a)).symm.trans (by rw [List.drop_drop])
  rw [List.append_nil, ← h 18 1, ← h 16 2, ← h 15 1, List.take_append_drop]
theorem run_all (w : World) (os : OsState) : topRun treeTable pw w 11 (some (.ref 6)) (12 + (1 + (390 + (843 + (330 + (398 + (182 + 2))))))) ⟨boot_heap w.params, #[], boot_drawn, boot_toks, os⟩ (topStub pw) =
    some ⟨⟨(full w.params).toArray, {}⟩, #[], {}, 658, os⟩ := by
  refine go_top (congrFun (pc_pre w) os) (piece_block (congrFun (pc_block w) os) ?_)
  rw [show restOf bd env0 cE (ps 0 0 0 0) [topFrame (ps 0 0 0 0)] = restOf (bd.take 15 ++ ((bd.drop 15).take 1 ++ ((bd.drop 16).take 2 ++ ((bd.drop 18).take 1 ++ (bd.drop 19 ++ []))))) env0 cE (ps 0 0 0 0) [topFrame (ps 0 0 0 0)] from congrArg (fun b => restOf b env0 cE (ps 0 0 0 0) [topFrame (ps 0 0 0 0)]) bd_eq]
  refine piece_app (segRun_of (congrFun (pc1 w) os)) (piece_app (segRun_of (congrFun (pc2 w) os)) (piece_app (segRun_of (congrFun (pc3 w) os)) (piece_app (segRun_of (congrFun (pc4 w) os)) (piece_app (segRun_of (congrFun (pc5 w) os)) (piece_nil (congrFun (pc_fin w) os))))))
noncomputable def SF (w : World) (os : OsState) : Shared := ⟨⟨(full w.params).toArray, {}⟩, #[], {}, 658, os⟩
theorem look_a : ∀ w : World, (fun os => staticsOk (importedModules pw.main.body) (boot_heap w.params) (SF w os).heap && namesBound pw (SF w os).heap && gensDone (SF w os) && laidKept (boot_heap w.params) (SF w os).heap) = fun _ => true := fun w => by kernel_rfl
theorem look_b : ∀ w : World, (fun os => openSeen qv loose (importedModules pw.main.body) Xt true (SF w os)) = fun _ => openGood qv loose := fun w => by
  rw [t_seen]
  kernel_rfl
theorem look_c : ∀ w : World, (fun os => hook.obs (SF w os)) = fun _ => hook.val w := fun w => by kernel_rfl
theorem left_open : ∀ w : World, (fencedOpening treeTable pw w 4402).map (fun s => (s.heap, s.gens, s.drawn, s.toks)) = some (boot_heap w.params, #[], boot_drawn, boot_toks) := boot_open (by kernel_rfl) (by decide) (fun s => by kernel_rfl)
theorem left_size : ∀ w : World, ((boot_heap w.params).isNs mainGlobals && (#[] : Array GenState).size == 0, (boot_heap w.params).objs.size, (boot_heap w.params).nsMap mainGlobals "__annotations__") = (true, 11, some (.ref 6)) := fun w => by kernel_rfl
theorem left_le : Nat.ble (12 + (1 + (390 + (843 + (330 + (398 + (182 + 2))))))) 4402 = true := by decide
theorem left : LeftO pw qv loose Xt hook.obs hook.val 4402 true :=
  LeftO.of_pieces (H₀ := boot_heap) (H₁ := fun P => ⟨(full P).toArray, {}⟩) (gs₀ := #[]) (gs₁ := #[]) (d₀ := boot_drawn) (d₁ := {}) (k₀ := boot_toks) (k₁ := 658) (m₀ := 11) (ann := some (.ref 6)) (M := 12 + (1 + (390 + (843 + (330 + (398 + (182 + 2))))))) left_open left_size run_all left_le
    (fun w => funext fun os => Prod.ext (congrFun (look_a w) os) (Prod.ext (congrFun (look_b w) os) (congrFun (look_c w) os)))
theorem looks1 : namesResolve pw = true := by rw [Fast.te8377067652309620493]; kernel_rfl
theorem road_app (lk : Look) (a b : List Stmt) : noRoadLSs lk (a ++ b) = (noRoadLSs lk a && noRoadLSs lk b) := by
  induction a with
  | nil => rfl
  | cons s r ih => show (noRoadLS lk s && noRoadLSs lk (r ++ b)) = _; rw [ih]; exact (Bool.and_assoc ..).symm
theorem road_a : noRoadLSs { strict := false, foot := none, bare := [] } (pw.main.body.take 18) = true := by rw [Fast.te8326940854005059898]; kernel_rfl
theorem road_b : noRoadLSs { strict := false, foot := none, bare := [] } (pw.main.body.drop 18) = true := by rw [Fast.te8326940854005059898]; kernel_rfl
theorem road_all : noRoadLSs { strict := false, foot := none, bare := [] } pw.main.body = true := by
  rw [← List.take_append_drop 18 pw.main.body, road_app, road_a, road_b]; rfl
theorem out1 : readsOut pw pw.main.body "vars" = false := by rw [Fast.te13343964577679436407]; kernel_rfl
theorem out2 : readsOut pw pw.main.body "dir" = false := by rw [Fast.te13343964577679436407]; kernel_rfl
theorem out3 : readsOut pw pw.main.body "locals" = false := by rw [Fast.te13343964577679436407]; kernel_rfl
theorem out_eq : (["vars", "dir", "locals"] : List Str).filter (readsOut pw pw.main.body) = [] := by
  rw [List.filter_cons, List.filter_cons, List.filter_cons, out1, out2, out3]; rfl
theorem strict0 : (!(importedModules pw.main.body).all cThrough.contains) = false := by kernel_rfl
theorem looks2 : noRoadLSs { strict := !(importedModules pw.main.body).all cThrough.contains, foot := none, bare := (["vars", "dir", "locals"] : List Str).filter (readsOut pw pw.main.body) } pw.main.body = true := by
  rw [out_eq, strict0]; exact road_all
theorem told0 : TablesWhole.wSs TablesWhole.gather pw.main.scope ⟨pw.main.scope, [], [], [], none⟩ pw.main.scope pw.main.body = [] := by rw [Fast.te16421684217811934046]; kernel_rfl
theorem ss_app (f : Scope → Str → Option Pos → Bool) (g : String → Scope → Str → Bool → Bool) (e : Scope → Bool) (d : Bool) (t : Scope) (cx : TablesWhole.Ctx) (sc : Scope) (a b : List Stmt) :
    TablesWhole.wSs ⟨f, g, e, true, d, fun a b => a && b⟩ t cx sc (a ++ b) = (TablesWhole.wSs ⟨f, g, e, true, d, fun a b => a && b⟩ t cx sc a && TablesWhole.wSs ⟨f, g, e, true, d, fun a b => a && b⟩ t cx sc b) := by
  induction a with
  | nil => rfl
  | cons s r ih => show (TablesWhole.wS _ t cx sc s && TablesWhole.wSs _ t cx sc (r ++ b)) = _; rw [ih]; exact (Bool.and_assoc ..).symm
theorem ss_all (A : TablesWhole.Alg Bool) {f : Scope → Str → Option Pos → Bool} {g : String → Scope → Str → Bool → Bool} {e : Scope → Bool} {d : Bool} (hA : A = ⟨f, g, e, true, d, fun a b => a && b⟩) {t : Scope} {cx : TablesWhole.Ctx} {sc : Scope} {l : List Stmt} (m n : Nat)
    (h1 : TablesWhole.wSs A t cx sc (l.take m) = true) (h2 : TablesWhole.wSs A t cx sc ((l.drop m).take n) = true) (h3 : TablesWhole.wSs A t cx sc ((l.drop m).drop n) = true) : TablesWhole.wSs A t cx sc l = true := by
  subst hA
  rw [← List.take_append_drop m l, ss_app, h1, ← List.take_append_drop n (l.drop m), ss_app, h2, h3]; rfl
noncomputable def AK : TablesWhole.Alg Bool := ⟨fun _ n _ => attrL n, fun _ _ _ _ => true, fun _ => true, true, false, fun a b => a && b⟩
theorem namesA : TablesWhole.wSs AK pw.main.scope ⟨pw.main.scope, [], [], [], none⟩ pw.main.scope (pw.main.body.take 16) = true := by rw [Fast.te16421684217811934046]; kernel_rfl
theorem namesB : TablesWhole.wSs AK pw.main.scope ⟨pw.main.scope, [], [], [], none⟩ pw.main.scope ((pw.main.body.drop 16).take 9) = true := by rw [Fast.te16421684217811934046]; kernel_rfl
theorem namesC : TablesWhole.wSs AK pw.main.scope ⟨pw.main.scope, [], [], [], none⟩ pw.main.scope ((pw.main.body.drop 16).drop 9) = true := by rw [Fast.te16421684217811934046]; kernel_rfl
theorem looks3 : (namesMeet pw pw.main.body fun _ n => attrL n) = true := by
  show TablesWhole.wModule AK pw.main = true
  unfold TablesWhole.wModule
  simp only [told0, ss_all AK rfl 16 9 namesA namesB namesC]
  kernel_rfl
theorem looks_ok : looksOpen pw = true := by
  unfold looksOpen
  rw [looks1, looks2, looks3]
  kernel_rfl
theorem row_ok : rw0.row.wellSaid = true := by
  have e : rw0.row.prog = pw := rfl
  unfold OpenRow.wellSaid OpenRow.partSaid
  rw [e, looks_ok]
  kernel_rfl
theorem law1 : noRoadLSs { strict := true, foot := some rw0.bound', writes := rw0.writes, may := rw0.may } rw0.footing = true := by rw [Fast.te8326940854005059898]; kernel_rfl
theorem law2 : namesMeet rw0.prog rw0.above (fun _ n => !rw0.own.contains n) = true := by rw [Fast.te17119622794617984870]; kernel_rfl
theorem law3 : (namesMeet rw0.prog rw0.footing fun sc n => sc.kind == .module || sc.names.lookup n != some .globalExplicit) = true := by rw [Fast.te17119622794617984870]; kernel_rfl
theorem law4 : namesMeet rw0.prog rw0.footing (fun sc n => (!(["type", "isinstance", "issubclass", "getattr", "hasattr"] : List Str).contains n || sc.names.lookup n == some .globalImplicit) &&
    (rw0.may != some n || sc.kind == .module || sc.names.lookup n == some .globalImplicit)) = true := by rw [Fast.te17119622794617984870]; kernel_rfl
theorem law5 : noClassBlock rw0.prog rw0.footing = true := by rw [Fast.te8179353310426384613]; kernel_rfl
theorem law6 : rw0.namesIt = true := by
  unfold OpenLaw.namesIt
  rw [Fast.te8326940854005059898]
  kernel_rfl
theorem law_said : OpenLaw.wellSaid rw0 = true := by
  unfold OpenLaw.wellSaid
  rw [row_ok, law1, law2, law3, law4, law5, law6]
  kernel_rfl
theorem tab1 : TablesWhole.wSs TablesWhole.holds pw.main.scope ⟨pw.main.scope, [], [], [], none⟩ pw.main.scope (pw.main.body.take 16) = true := by rw [Fast.te16421684217811934046]; kernel_rfl
theorem tab2 : TablesWhole.wSs TablesWhole.holds pw.main.scope ⟨pw.main.scope, [], [], [], none⟩ pw.main.scope ((pw.main.body.drop 16).take 9) = true := by rw [Fast.te16421684217811934046]; kernel_rfl
theorem tab3 : TablesWhole.wSs TablesWhole.holds pw.main.scope ⟨pw.main.scope, [], [], [], none⟩ pw.main.scope ((pw.main.body.drop 16).drop 9) = true := by rw [Fast.te16421684217811934046]; kernel_rfl
theorem tables : rw0.row.prog.tablesWhole = true := by
  show TablesWhole.wProgram TablesWhole.holds pw = true
  unfold TablesWhole.wProgram TablesWhole.wModule
  simp only [told0, ss_all TablesWhole.holds rfl 16 9 tab1 tab2 tab3]
  kernel_rfl
theorem hdS (call : ∀ (d : DefRec) (kwd : List (Str × Expr)), d.name = ("law" : Str) → WalkO qv loose (XL qv []) hook.says rw0.row.toRowW d kwd fun f vs => PySem.call f vs) : rw0.Holds := by
  refine holds_law law_said fun said => ?_
  refine holds_open (q := qv) (loose := loose) (Xt := Xt) (XP := XL qv []) (Yf := hook.obs) (Ya := hook.val) (YP := hook.says) (N := 4402) left hook.of hook.keeps (fun s e => xl_of s (Bool.and_eq_true_iff.mp e).1) XL.keeps (by rfl) (by rfl) (by rfl) (fun s e => recFacts_of (Bool.and_eq_true_iff.mp e).2) rfl said (by decide +kernel) ⟨rfl, rfl, rfl, rfl, rfl, tables⟩ ?_ (call _ _ rfl)
  exact ⟨[.list []], by decide +kernel, by decide +kernel⟩
end
section
-- M1
/-- what is known of the run's ground -/
structure Cx where
  prog : Program
  w : World
  K : Frag
  B : Heap
  p : Program
  loose : List Str
  mg : Str → Option Value
  mb : Str → Option Value

inductive MV where
  | none
  | bool (b : Bool)
  | int (i : Int)
  | str (s : Str)
  | tup (vs : List MV)
  | ref (a : Addr)
  | inst (x C dx : Addr)
  | rng (a b : Int)
  | flist (vs : List MV)
  | val (v : Value)

inductive MObj where
  | list (vs : List MV)
  | sdict (kvs : List (Str × MV))
  | smap (kvs : List (Str × MV))
  | imap (kvs : List (Int × MV))

noncomputable abbrev HV := Addr → Option MObj
noncomputable abbrev Loc := List (Str × MV)

noncomputable def HV.set (H : HV) (a : Addr) (o : MObj) : HV := fun b => if b = a then some o else H b
theorem HV.set_self {H : HV} {a : Addr} {o : MObj} : (H.set a o) a = some o := by unfold HV.set; simp
theorem HV.set_ne {H : HV} {a b : Addr} {o : MObj} (h : b ≠ a) : (H.set a o) b = H b := by unfold HV.set; simp [h]

mutual
inductive VR (c : Cx) (h : Heap) : Value → MV → Prop
  | none : VR c h .none .none
  | bool (b : Bool) : VR c h (.bool b) (.bool b)
  | int (i : Int) (t : Tok) : VR c h (.int i t) (.int i)
  | str (s : Str) (t : Tok) : VR c h (.str s t) (.str s)
  | tup {a : Addr} {vs : List Value} {ds : List MV} : IsTup h a vs.toArray → VRs c h vs ds → VR c h (.ref a) (.tup ds)
  | ref (a : Addr) : VR c h (.ref a) (.ref a)
  | inst {x C dx : Addr} : h.get? x = some (instObj C dx) → VR c h (.ref x) (.inst x C dx)
  | rng {r : Addr} {a b : Int} {t u v : Tok} : IsRange h r a b 1 t u v → VR c h (.ref r) (.rng a b)
  | flist {a : Addr} {o : Obj} {vs : List Value} {n : Nat} {ds : List MV} : h.get? a = some o → c.B.get? a = some o → o.cls = .type "list" → o.data = .seq vs.toArray n → VRs c h vs ds → VR c h (.ref a) (.flist ds)
  | val (v : Value) : VR c h v (.val v)
inductive VRs (c : Cx) (h : Heap) : List Value → List MV → Prop
  | nil : VRs c h [] []
  | cons {v : Value} {vs : List Value} {d : MV} {ds : List MV} : VR c h v d → VRs c h vs ds → VRs c h (v :: vs) (d :: ds)
end

noncomputable def imm (o : Obj) : Prop := match o.data with
  | .seq _ _ => o.cls = .type "tuple"
  | .plain => True
  | .fields _ => o.cls = .type "range"
  | _ => False
theorem imm_tup {o : Obj} {xs : Array Value} {n : Nat} (h : o.cls = .type "tuple") (d : o.data = .seq xs n) : imm o := by unfold imm; rw [d]; exact h
theorem imm_dict {o : Obj} {es : Array DictEntry} {n : Nat} (d : o.data = .dict es n) : ¬ imm o := by unfold imm; rw [d]; exact id
theorem imm_cell {o : Obj} {v : Option Value} (d : o.data = .cell v) : ¬ imm o := by unfold imm; rw [d]; exact id

theorem VR.mono {c : Cx} {h h' : Heap} (k : ∀ a o, h.get? a = some o → imm o ∨ c.B.get? a = some o → h'.get? a = some o) {v : Value} {d : MV} (r : VR c h v d) : VR c h' v d :=
  VR.rec (motive_1 := fun v d _ => VR c h' v d) (motive_2 := fun vs ds _ => VRs c h' vs ds) .none .bool .int .str
    (fun ht _ r => let ⟨o, ho, hc, n, hd⟩ := ht; .tup ⟨o, k _ _ ho (.inl (imm_tup hc hd)), hc, n, hd⟩ r) .ref (fun e => .inst (k _ _ e (.inl trivial))) (fun e => .rng (k _ _ e (.inl rfl)))
    (fun e b hc hd _ r => .flist (k _ _ e (.inr b)) b hc hd r) .val .nil (fun _ _ a r => .cons a r) r
theorem VRs.mono {c : Cx} {h h' : Heap} (k : ∀ a o, h.get? a = some o → imm o ∨ c.B.get? a = some o → h'.get? a = some o) {vs : List Value} {ds : List MV} (r : VRs c h vs ds) : VRs c h' vs ds :=
  VRs.rec (motive_1 := fun v d _ => VR c h' v d) (motive_2 := fun vs ds _ => VRs c h' vs ds) .none .bool .int .str
    (fun ht _ r => let ⟨o, ho, hc, n, hd⟩ := ht; .tup ⟨o, k _ _ ho (.inl (imm_tup hc hd)), hc, n, hd⟩ r) .ref (fun e => .inst (k _ _ e (.inl trivial))) (fun e => .rng (k _ _ e (.inl rfl)))
    (fun e b hc hd _ r => .flist (k _ _ e (.inr b)) b hc hd r) .val .nil (fun _ _ a r => .cons a r) r

section
variable {c : Cx} {h : Heap} {v : Value}
inductive TupI (c : Cx) (h : Heap) (v : Value) (ds : List MV) : Prop
  | mk (a : Addr) (vs : List Value) (e : v = .ref a) (ht : IsTup h a vs.toArray) (V : VRs c h vs ds)
inductive RngI (h : Heap) (v : Value) (a b : Int) : Prop
  | mk (r : Addr) (t u w : Tok) (e : v = .ref r) (hr : IsRange h r a b 1 t u w)
inductive FlI (c : Cx) (h : Heap) (v : Value) (ds : List MV) : Prop
  | mk (a : Addr) (o : Obj) (vs : List Value) (n : Nat) (e : v = .ref a) (ho : h.get? a = some o) (hB : c.B.get? a = some o) (hc : o.cls = .type "list") (hd : o.data = .seq vs.toArray n) (V : VRs c h vs ds)
noncomputable def VRinv (c : Cx) (h : Heap) (v : Value) : MV → Prop
  | .none => v = .none
  | .bool b => v = .bool b
  | .int i => ∃ t, v = .int i t
  | .str x => ∃ t, v = .str x t
  | .tup ds => TupI c h v ds
  | .ref a => v = .ref a
  | .inst x C dx => v = .ref x ∧ h.get? x = some (instObj C dx)
  | .rng a b => RngI h v a b
  | .flist ds => FlI c h v ds
  | .val u => v = u
theorem VR.inv {d : MV} (r : VR c h v d) : VRinv c h v d :=
  VR.rec (motive_1 := fun v d _ => VRinv c h v d) (motive_2 := fun _ _ _ => True) rfl (fun _ => rfl) (fun _ t => ⟨t, rfl⟩) (fun _ t => ⟨t, rfl⟩) (fun ht V _ => ⟨_, _, rfl, ht, V⟩) (fun _ => rfl) (fun e => ⟨rfl, e⟩) (fun e => ⟨_, _, _, _, rfl, e⟩)
    (fun e b hc hd V _ => ⟨_, _, _, _, rfl, e, b, hc, hd, V⟩) (fun _ => rfl) trivial (fun _ _ _ _ => trivial) r
theorem VR.isNone (r : VR c h v .none) : v = .none := r.inv
theorem VR.isBool {b : Bool} (r : VR c h v (.bool b)) : v = .bool b := r.inv
theorem VR.isInt {i : Int} (r : VR c h v (.int i)) : ∃ t, v = .int i t := r.inv
theorem VR.isStr {x : Str} (r : VR c h v (.str x)) : ∃ t, v = .str x t := r.inv
theorem VR.isTup {ds : List MV} (r : VR c h v (.tup ds)) : TupI c h v ds := r.inv
theorem VR.isRef {a : Addr} (r : VR c h v (.ref a)) : v = .ref a := r.inv
theorem VR.isInst {x C dx : Addr} (r : VR c h v (.inst x C dx)) : v = .ref x ∧ h.get? x = some (instObj C dx) := r.inv
theorem VR.isRng {a b : Int} (r : VR c h v (.rng a b)) : RngI h v a b := r.inv
theorem VR.isFl {ds : List MV} (r : VR c h v (.flist ds)) : FlI c h v ds := r.inv
theorem VR.isVal {u : Value} (r : VR c h v (.val u)) : v = u := r.inv
noncomputable def VRsinv (c : Cx) (h : Heap) : List Value → List MV → Prop
  | [], [] => True
  | v :: vs, d :: ds => VR c h v d ∧ VRs c h vs ds
  | _, _ => False
theorem VRs.inv {vs : List Value} {ds : List MV} (r : VRs c h vs ds) : VRsinv c h vs ds :=
  VRs.rec (motive_1 := fun _ _ _ => True) (motive_2 := fun vs ds _ => VRsinv c h vs ds) trivial (fun _ => trivial) (fun _ _ => trivial) (fun _ _ => trivial) (fun _ _ _ => trivial) (fun _ => trivial) (fun _ => trivial) (fun _ => trivial) (fun _ _ _ _ _ _ => trivial) (fun _ => trivial) trivial (fun a b _ _ => ⟨a, b⟩) r
theorem VRs.isNil {vs : List Value} (r : VRs c h vs []) : vs = [] := by
  cases vs with
  | nil => rfl
  | cons _ _ => exact r.inv.elim
inductive ConsI (c : Cx) (h : Heap) (ws : List Value) (d : MV) (ds : List MV) : Prop
  | mk (v : Value) (vs : List Value) (e : ws = v :: vs) (r : VR c h v d) (R : VRs c h vs ds)
theorem VRs.isCons {ws : List Value} {d : MV} {ds : List MV} (r : VRs c h ws (d :: ds)) : ConsI c h ws d ds := by
  cases ws with
  | nil => exact r.inv.elim
  | cons v vs => exact ⟨v, vs, rfl, r.inv.1, r.inv.2⟩
inductive OneI (c : Cx) (h : Heap) (ws : List Value) (d : MV) : Prop
  | mk (v : Value) (e : ws = [v]) (r : VR c h v d)
theorem VRs.isOne {ws : List Value} {d : MV} (r : VRs c h ws [d]) : OneI c h ws d := by
  obtain ⟨v, vs, rfl, q, R⟩ := r.isCons
  obtain rfl := R.isNil
  exact ⟨v, rfl, q⟩
inductive TwoI (c : Cx) (h : Heap) (ws : List Value) (d e : MV) : Prop
  | mk (v u : Value) (q : ws = [v, u]) (r : VR c h v d) (r2 : VR c h u e)
theorem VRs.isTwo {ws : List Value} {d e : MV} (r : VRs c h ws [d, e]) : TwoI c h ws d e := by
  obtain ⟨v, vs, rfl, q, R⟩ := r.isCons
  obtain ⟨u, rfl, r2⟩ := R.isOne
  exact ⟨v, u, rfl, q, r2⟩
end

section
variable {c : Cx} {h : Heap} {vs ws : List Value} {ds es : List MV} {v : Value} {d : MV}
theorem VRs.length (H : VRs c h vs ds) : vs.length = ds.length :=
  VRs.rec (motive_1 := fun _ _ _ => True) (motive_2 := fun vs ds _ => vs.length = ds.length) trivial (fun _ => trivial) (fun _ _ => trivial) (fun _ _ => trivial) (fun _ _ _ => trivial) (fun _ => trivial) (fun _ => trivial) (fun _ => trivial) (fun _ _ _ _ _ _ => trivial) (fun _ => trivial) rfl (fun _ _ _ ih => congrArg Nat.succ ih) H
theorem VRs.append (H : VRs c h vs ds) (k : VRs c h ws es) : VRs c h (vs ++ ws) (ds ++ es) := by
  induction ds generalizing vs with
  | nil => obtain rfl := H.isNil; exact k
  | cons d ds ih => obtain ⟨_, _, rfl, a, r⟩ := H.isCons; exact .cons a (ih r)
theorem VRs.one (H : VR c h v d) : VRs c h [v] [d] := .cons H .nil
theorem VRs.get (H : VRs c h vs ds) {k : Nat} (hk : ds[k]? = some d) : ∃ v, vs[k]? = some v ∧ VR c h v d := by
  induction ds generalizing vs k with
  | nil => simp at hk
  | cons d ds ih =>
    obtain ⟨v, _, rfl, a, r⟩ := H.isCons
    cases k with
    | zero => simp at hk; subst hk; exact ⟨v, rfl, a⟩
    | succ k => exact ih r hk
theorem VRs.get' (H : VRs c h vs ds) {k : Nat} (hk : vs[k]? = some v) : ∃ d, ds[k]? = some d ∧ VR c h v d := by
  induction ds generalizing vs k with
  | nil => obtain rfl := H.isNil; simp at hk
  | cons d ds ih =>
    obtain ⟨v, _, rfl, a, r⟩ := H.isCons
    cases k with
    | zero => simp at hk; subst hk; exact ⟨_, rfl, a⟩
    | succ k => exact ih r hk
theorem VRs.set (H : VRs c h vs ds) (k : Nat) (z : VR c h v d) : VRs c h (vs.set k v) (ds.set k d) := by
  induction ds generalizing vs k with
  | nil => obtain rfl := H.isNil; exact .nil
  | cons d ds ih =>
    obtain ⟨_, _, rfl, a, r⟩ := H.isCons
    cases k with
    | zero => exact .cons z r
    | succ k => exact .cons a (ih r k)
theorem VRs.take (H : VRs c h vs ds) (k : Nat) : VRs c h (vs.take k) (ds.take k) := by
  induction ds generalizing vs k with
  | nil => obtain rfl := H.isNil; simp; exact .nil
  | cons d ds ih =>
    obtain ⟨_, _, rfl, a, r⟩ := H.isCons
    cases k with
    | zero => exact .nil
    | succ k => exact .cons a (ih r k)
theorem VRs.drop (H : VRs c h vs ds) (k : Nat) : VRs c h (vs.drop k) (ds.drop k) := by
  induction ds generalizing vs k with
  | nil => obtain rfl := H.isNil; simp; exact .nil
  | cons d ds ih =>
    obtain ⟨_, _, rfl, a, r⟩ := H.isCons
    cases k with
    | zero => exact .cons a r
    | succ k => exact ih r k
end

/-- pairs of a dict with keys of one kind -/
inductive PR {Ky : Type} (c : Cx) (h : Heap) : List (Ky × Value) → List (Ky × MV) → Prop
  | nil : PR c h [] []
  | cons {k : Ky} {v : Value} {d : MV} {vs ds} : VR c h v d → PR c h vs ds → PR c h ((k, v) :: vs) ((k, d) :: ds)
theorem PR.mono {Ky : Type} {c : Cx} {h h' : Heap} (k : ∀ a o, h.get? a = some o → imm o ∨ c.B.get? a = some o → h'.get? a = some o) {vs : List (Ky × Value)} {ds} (H : PR c h vs ds) : PR c h' vs ds := by
  induction H with
  | nil => exact .nil
  | cons a _ ih => exact .cons (a.mono k) ih

/-- the entries of an object's own dict -/
inductive ER (c : Cx) (h : Heap) : List DictEntry → List (Str × MV) → Prop
  | nil : ER c h [] []
  | cons {x : Str} {t : Tok} {v : Value} {d : MV} {es ds} : VR c h v d → ER c h es ds → ER c h (⟨PyData.keyHash c.w.params x, .str x t, v⟩ :: es) ((x, d) :: ds)
theorem ER.mono {c : Cx} {h h' : Heap} (k : ∀ a o, h.get? a = some o → imm o ∨ c.B.get? a = some o → h'.get? a = some o) {es : List DictEntry} {ds} (H : ER c h es ds) : ER c h' es ds := by
  induction H with
  | nil => exact .nil
  | cons a _ ih => exact .cons (a.mono k) ih

inductive OR (c : Cx) (h : Heap) (a : Addr) : MObj → Prop
  | list {vs ds} : h.PlainList a vs.toArray → VRs c h vs ds → OR c h a (.list ds)
  | sdict {es n kvs} : h.get? a = some (dictOf es n) → ER c h es kvs → OR c h a (.sdict kvs)
  | smap {vs kvs} : h.DictOf (strKind c.prog c.w) a vs → PR c h vs kvs → OR c h a (.smap kvs)
  | imap {vs kvs} : h.DictOf (intKind c.prog c.w) a vs → PR c h vs kvs → OR c h a (.imap kvs)

inductive ListI (c : Cx) (h : Heap) (a : Addr) (ds : List MV) : Prop
  | mk (vs : List Value) (hl : h.PlainList a vs.toArray) (V : VRs c h vs ds)
inductive SdictI (c : Cx) (h : Heap) (a : Addr) (kvs : List (Str × MV)) : Prop
  | mk (es : List DictEntry) (n : Nat) (e : h.get? a = some (dictOf es n)) (E : ER c h es kvs)
inductive SmapI (c : Cx) (h : Heap) (a : Addr) (kvs : List (Str × MV)) : Prop
  | mk (vs : List (Str × Value)) (hl : h.DictOf (strKind c.prog c.w) a vs) (V : PR c h vs kvs)
inductive ImapI (c : Cx) (h : Heap) (a : Addr) (kvs : List (Int × MV)) : Prop
  | mk (vs : List (Int × Value)) (hl : h.DictOf (intKind c.prog c.w) a vs) (V : PR c h vs kvs)
noncomputable def ORinv (c : Cx) (h : Heap) (a : Addr) : MObj → Prop
  | .list ds => ListI c h a ds
  | .sdict kvs => SdictI c h a kvs
  | .smap kvs => SmapI c h a kvs
  | .imap kvs => ImapI c h a kvs
theorem OR.inv {c : Cx} {h : Heap} {a : Addr} {o : MObj} (r : OR c h a o) : ORinv c h a o :=
  OR.casesOn (motive := fun o _ => ORinv c h a o) r (fun x y => ⟨_, x, y⟩) (fun x y => ⟨_, _, x, y⟩) (fun x y => ⟨_, x, y⟩) (fun x y => ⟨_, x, y⟩)
theorem OR.isList {c : Cx} {h : Heap} {a : Addr} {ds : List MV} (r : OR c h a (.list ds)) : ListI c h a ds := r.inv
theorem OR.isSdict {c : Cx} {h : Heap} {a : Addr} {ds : List (Str × MV)} (r : OR c h a (.sdict ds)) : SdictI c h a ds := r.inv
theorem OR.isSmap {c : Cx} {h : Heap} {a : Addr} {ds : List (Str × MV)} (r : OR c h a (.smap ds)) : SmapI c h a ds := r.inv
theorem OR.isImap {c : Cx} {h : Heap} {a : Addr} {ds : List (Int × MV)} (r : OR c h a (.imap ds)) : ImapI c h a ds := r.inv

/-- kinds of objects that the view may hold -/
noncomputable def muta (o : Obj) : Prop := match o.data with
  | .seq _ _ => o.cls = .type "list"
  | .dict _ _ => True
  | _ => False
theorem muta_dict {o : Obj} {es : Array DictEntry} {n : Nat} (d : o.data = .dict es n) : muta o := by unfold muta; rw [d]; trivial
theorem OR.obj {c : Cx} {h : Heap} {a : Addr} {o : MObj} (H : OR c h a o) : ∃ ob, h.get? a = some ob ∧ muta ob :=
  OR.casesOn (motive := fun _ _ => ∃ ob, h.get? a = some ob ∧ muta ob) H (fun e _ => let ⟨_, e⟩ := e; ⟨_, e, rfl⟩) (fun e _ => ⟨_, e, trivial⟩) (fun e _ => let ⟨o, _, _, e, _, hd, _⟩ := e; ⟨o, e, muta_dict hd⟩) (fun e _ => let ⟨o, _, _, e, _, hd, _⟩ := e; ⟨o, e, muta_dict hd⟩)
theorem OR.mono {c : Cx} {h h' : Heap} {a : Addr} {o : MObj} (H : OR c h a o) (e : ∀ ob, h.get? a = some ob → h'.get? a = some ob)
    (k : ∀ a o, h.get? a = some o → imm o ∨ c.B.get? a = some o → h'.get? a = some o) : OR c h' a o := by
  cases H with
  | list x r => obtain ⟨n, x⟩ := x; exact .list ⟨n, e _ x⟩ (r.mono k)
  | sdict x r => exact .sdict (e _ x) (r.mono k)
  | smap x r => exact .smap (x.at e) (r.mono k)
  | imap x r => exact .imap (x.at e) (r.mono k)

/-- the heap as it is seen -/
structure Sh (c : Cx) (H : HV) (h : Heap) : Prop where
  base : ∀ a o, c.B.get? a = some o → h.get? a = some o
  new : ∀ a o, H a = some o → c.B.get? a = none
  rel : ∀ a o, H a = some o → OR c h a o

theorem imm_not_mut {o : Obj} (h : imm o) : ¬ muta o := by
  intro z
  unfold imm at h
  unfold muta at z
  cases q : o.data <;> rw [q] at h z <;> first | exact h | exact z | (dsimp only at h z; rw [h] at z; simp at z)

theorem Sh.imm {c : Cx} {H : HV} {h : Heap} (S : Sh c H h) {a : Addr} {o : Obj} (e : h.get? a = some o) (i : imm o ∨ c.B.get? a = some o) : H a = none := by
  cases q : H a with
  | none => rfl
  | some mo =>
    rcases i with i | i
    · obtain ⟨ob, eo, m⟩ := (S.rel a mo q).obj
      rw [e] at eo; cases eo
      exact absurd m (imm_not_mut i)
    · rw [S.new a mo q] at i; cases i

/-- from one state to a later one -/
structure Stp (own : Addr → Prop) (H H' : HV) (s s' : Shared) : Prop where
  same : ∃ h tk, s' = { s with heap := h, toks := tk }
  keep : ∀ a o, s.heap.get? a = some o → H a = none → ¬ own a → s'.heap.get? a = some o
  fresh : ∀ a, H a = none → ∀ o, H' a = some o → s.heap.get? a = none ∨ own a
  live : ∀ a o, s.heap.get? a = some o → ¬ own a → ∃ o', s'.heap.get? a = some o'

noncomputable abbrev nw : Addr → Prop := fun _ => False

theorem Stp.refl {own : Addr → Prop} {H : HV} {s : Shared} : Stp own H H s s := ⟨⟨s.heap, s.toks, rfl⟩, fun _ _ e _ _ => e, fun _ e _ e' => (by rw [e] at e'; cases e'), fun _ o e _ => ⟨o, e⟩⟩
theorem Stp.trans {own : Addr → Prop} {H H' H'' : HV} {s s' s'' : Shared} (x : Stp own H H' s s') (y : Stp own H' H'' s' s'') : Stp own H H'' s s'' := by
  refine ⟨?_, fun a o e n w => ?_, fun a n o e => ?_, fun a o e w => ?_⟩
  · obtain ⟨h1, t1, e1⟩ := x.same
    obtain ⟨h2, t2, e2⟩ := y.same
    exact ⟨h2, t2, by rw [e2, e1]⟩
  · refine y.keep a o (x.keep a o e n w) ?_ w
    cases q : H' a with
    | none => rfl
    | some mo =>
      rcases x.fresh a n mo q with z | z
      · rw [z] at e; cases e
      · exact absurd z w
  · cases q : H' a with
    | some mo => exact x.fresh a n mo q
    | none =>
      by_cases w : own a
      · exact .inr w
      rcases y.fresh a q o e with z | z
      · cases r : s.heap.get? a with
        | none => exact .inl rfl
        | some ob => obtain ⟨o', e'⟩ := x.live a ob r w; rw [z] at e'; cases e'
      · exact .inr z
  · obtain ⟨o', e'⟩ := x.live a o e w; exact y.live a o' e' w
/-- what is own may be what did not stand yet -/
theorem Stp.weak {own own' : Addr → Prop} {H H' : HV} {s s' : Shared} (x : Stp own H H' s s') (k : ∀ a, own a → own' a ∨ s.heap.get? a = none) : Stp own' H H' s s' :=
  ⟨x.same, fun a o e n w => x.keep a o e n (fun z => (k a z).elim w fun q => by rw [e] at q; cases q),
   fun a n o e => (x.fresh a n o e).elim .inl fun z => (k a z).elim .inr .inl,
   fun a o e w => x.live a o e fun z => (k a z).elim w fun q => by rw [e] at q; cases q⟩
theorem Stp.toOwn {own : Addr → Prop} {H H' : HV} {s s' : Shared} (x : Stp nw H H' s s') : Stp own H H' s s' := x.weak fun _ z => z.elim

theorem Stp.imm {H H' : HV} {s s' : Shared} {c : Cx} {own : Addr → Prop} (x : Stp own H H' s s') (S : Sh c H s.heap) (ho : ∀ a o, own a → s.heap.get? a = some o → ¬ (Mine.imm o ∨ c.B.get? a = some o)) :
    ∀ a o, s.heap.get? a = some o → Mine.imm o ∨ c.B.get? a = some o → s'.heap.get? a = some o :=
  fun a o e i => x.keep a o e (S.imm e i) (fun z => ho a o z e i)
theorem Stp.vr {H H' : HV} {s s' : Shared} {c : Cx} (x : Stp nw H H' s s') (S : Sh c H s.heap) {v : Value} {d : MV} (r : VR c s.heap v d) : VR c s'.heap v d := r.mono (x.imm S fun _ _ z => z.elim)
theorem Stp.vrs {H H' : HV} {s s' : Shared} {c : Cx} (x : Stp nw H H' s s') (S : Sh c H s.heap) {v : List Value} {d : List MV} (r : VRs c s.heap v d) : VRs c s'.heap v d := r.mono (x.imm S fun _ _ z => z.elim)

/-- an unchanged view over a grown heap -/
theorem Sh.ext {c : Cx} {H : HV} {h h' : Heap} (S : Sh c H h) (k : ∀ a o, h.get? a = some o → h'.get? a = some o) : Sh c H h' :=
  ⟨fun a o e => k a o (S.base a o e), S.new, fun a o e => (S.rel a o e).mono (fun ob e' => k a ob e') fun a o e _ => k a o e⟩
theorem Stp.ext {H : HV} {s : Shared} {h' : Heap} {tk : Nat} (k : ∀ a o, s.heap.get? a = some o → h'.get? a = some o) : Stp nw H H s { s with heap := h', toks := tk } :=
  ⟨⟨h', tk, rfl⟩, fun a o e _ _ => k a o e, fun _ e _ e' => (by rw [e] at e'; cases e'), fun a o e _ => ⟨o, k a o e⟩⟩
theorem Sh.tok {c : Cx} {H : HV} {h : Heap} (S : Sh c H h) : Sh c H h := S
theorem Stp.tok {H : HV} {s : Shared} {tk : Nat} : Stp nw H H s { s with toks := tk } := Stp.ext (fun _ _ e => e)

/-- forgetting -/
theorem Sh.drop {c : Cx} {H H' : HV} {h : Heap} (S : Sh c H h) (k : ∀ a o, H' a = some o → H a = some o) : Sh c H' h := ⟨S.base, fun a o e => S.new a o (k a o e), fun a o e => S.rel a o (k a o e)⟩
theorem Stp.drop {own : Addr → Prop} {H H' H'' : HV} {s s' : Shared} (x : Stp own H H' s s') (k : ∀ a o, H'' a = some o → H' a = some o) : Stp own H H'' s s' :=
  ⟨x.same, x.keep, fun a n o e => x.fresh a n o (k a o e), x.live⟩

/-- one object of the view is changed -/
theorem Sh.upd {c : Cx} {H : HV} {h h' : Heap} {a : Addr} {o o' : MObj} (S : Sh c H h) (e : H a = some o) (k : ∀ b ob, b ≠ a → h.get? b = some ob → h'.get? b = some ob)
    (r : (∀ b ob, h.get? b = some ob → Mine.imm ob ∨ c.B.get? b = some ob → h'.get? b = some ob) → OR c h' a o') : Sh c (H.set a o') h' := by
  have ki : ∀ b ob, h.get? b = some ob → Mine.imm ob ∨ c.B.get? b = some ob → h'.get? b = some ob := fun b ob eb i => k b ob (by rintro rfl; rw [S.imm eb i] at e; cases e) eb
  refine ⟨fun b ob eb => ki b ob (S.base b ob eb) (.inr eb), fun b mo eb => ?_, fun b mo eb => ?_⟩
  · by_cases q : b = a
    · subst q; exact S.new b o e
    · rw [HV.set_ne q] at eb; exact S.new b mo eb
  · by_cases q : b = a
    · subst q; rw [HV.set_self] at eb; cases eb; exact r ki
    · rw [HV.set_ne q] at eb; exact (S.rel b mo eb).mono (fun ob e' => k b ob q e') ki
theorem Stp.upd {H : HV} {s : Shared} {h' : Heap} {tk : Nat} {a : Addr} {o o' : MObj} (e : H a = some o) (k : ∀ b ob, b ≠ a → s.heap.get? b = some ob → h'.get? b = some ob) (l : ∀ ob, s.heap.get? a = some ob → ∃ ob', h'.get? a = some ob') : Stp nw H (H.set a o') s { s with heap := h', toks := tk } := by
  refine ⟨⟨h', tk, rfl⟩, fun b ob eb n _ => k b ob (by rintro rfl; rw [n] at e; cases e) eb, fun b n mo eb => ?_, fun b ob eb _ => ?_⟩
  · by_cases q : b = a
    · subst q; rw [n] at e; cases e
    · rw [HV.set_ne q, n] at eb; cases eb
  · by_cases q : b = a
    · subst q; exact l ob eb
    · exact ⟨ob, k b ob q eb⟩

/-- a new object of the view -/
theorem Sh.add {c : Cx} {H : HV} {h h' : Heap} {a : Addr} {o' : MObj} (S : Sh c H h) (e : h.get? a = none) (k : ∀ b ob, h.get? b = some ob → h'.get? b = some ob) (r : OR c h' a o') : Sh c (H.set a o') h' := by
  refine ⟨fun b ob eb => k b ob (S.base b ob eb), fun b mo eb => ?_, fun b mo eb => ?_⟩
  · by_cases q : b = a
    · subst q
      cases z : c.B.get? b with
      | none => rfl
      | some ob => rw [S.base b ob z] at e; cases e
    · rw [HV.set_ne q] at eb; exact S.new b mo eb
  · by_cases q : b = a
    · subst q; rw [HV.set_self] at eb; cases eb; exact r
    · rw [HV.set_ne q] at eb; exact (S.rel b mo eb).mono (fun ob e' => k b ob e') fun b ob e _ => k b ob e
theorem Stp.add {H : HV} {s : Shared} {h' : Heap} {tk : Nat} {a : Addr} {o' : MObj} (e : s.heap.get? a = none) (k : ∀ b ob, s.heap.get? b = some ob → h'.get? b = some ob) : Stp nw H (H.set a o') s { s with heap := h', toks := tk } := by
  refine ⟨⟨h', tk, rfl⟩, fun b ob eb n _ => k b ob eb, fun b n mo eb => ?_, fun b ob eb _ => ⟨ob, k b ob eb⟩⟩
  by_cases q : b = a
  · subst q; exact .inl e
  · rw [HV.set_ne q, n] at eb; cases eb
theorem get_size {h : Heap} : h.get? h.objs.size = none := by
  cases q : h.get? h.objs.size with
  | none => rfl
  | some o => exact absurd (Heap.lt_size q) (Nat.lt_irrefl _)
theorem Sh.fresh {c : Cx} {H : HV} {h : Heap} (S : Sh c H h) {a : Addr} (e : h.get? a = none) : H a = none := by
  cases q : H a with
  | none => rfl
  | some mo => obtain ⟨ob, eo, _⟩ := (S.rel a mo q).obj; rw [e] at eo; cases eo

/-- room for frames and the interpreter's own depth -/
structure Room (n : Nat) (A : Around) : Prop where
  handled : A.handled = none
  depth : A.depth + 2 * n + 110 < recursionLimit
  units : A.units + 16 * n + 128 < cLine
theorem Room.mono {n m : Nat} {A : Around} (R : Room n A) (h : m ≤ n) : Room m A := ⟨R.handled, by have := R.depth; first | lia | omega, by have := R.units; first | lia | omega⟩
theorem Room.lt {n : Nat} {A : Around} (R : Room n A) : A.depth < recursionLimit := by have := R.depth; first | lia | omega
theorem Room.u {n : Nat} {A : Around} (R : Room n A) : A.units < cLine := by have := R.units; first | lia | omega
theorem Room.u64 {n : Nat} {A : Around} (R : Room n A) : A.units + 64 < cLine := by have := R.units; first | lia | omega
theorem Room.deeper {n : Nat} {A : Around} (R : Room (n + 1) A) (env : Env) : Room n (A.deeper env) := ⟨R.handled, by have := R.depth; show A.depth + 1 + 2 * n + 110 < _; first | lia | omega, by have := R.units; show A.units + 3 + 16 * n + 128 < _; first | lia | omega⟩
theorem Room.in1 {n : Nat} {A : Around} (R : Room (n + 1) A) : Room n A.in1 := ⟨R.handled, by have := R.depth; show A.depth + 2 * n + 110 < _; first | lia | omega, by have := R.units; show A.units + 1 + 16 * n + 128 < _; first | lia | omega⟩

/-- the frame -/
structure FrR (c : Cx) (env : Env) (m : Loc) (H : HV) (h : Heap) : Prop where
  mm : ∃ mm, h.Ns env.locals mm ∧ ∀ x d, env.kindOf x = some .local → m.lookup x = some d → ∃ v, mm x = some v ∧ VR c h v d
  cl : ∀ x d, (env.kindOf x = some .cell ∨ env.kindOf x = some .free) → m.lookup x = some d → ∃ a v, env.cells.lookup x = some a ∧ h.IsCell a (some v) ∧ VR c h v d
  ex : ∀ x a, env.cells.lookup x = some a → ∃ v, h.IsCell a v
  has : ∀ x, env.kindOf x = some .cell → ∃ a, env.cells.lookup x = some a
  apart : ∀ x y a, env.cells.lookup x = some a → env.cells.lookup y = some a → x = y
  lH : H env.locals = none
  cH : ∀ x a, env.cells.lookup x = some a → H a = none ∧ a ≠ env.locals
  newL : c.B.get? env.locals = none
  newC : ∀ x a, env.kindOf x = some .cell → env.cells.lookup x = some a → c.B.get? a = none

structure St (c : Cx) (env : Env) (m : Loc) (H : HV) (s : Shared) : Prop where
  sh : Sh c H s.heap
  fr : FrR c env m H s.heap

theorem IsCell.keep {h h' : Heap} {a : Addr} {v : Option Value} (x : h.IsCell a v) (k : ∀ o, h.get? a = some o → h'.get? a = some o) : h'.IsCell a v := let ⟨o, e, d⟩ := x; ⟨o, k o e, d⟩

theorem none_of_fresh {H H' : HV} {s : Shared} {a : Addr} {o : Obj} (f : ∀ a, H a = none → ∀ o, H' a = some o → s.heap.get? a = none ∨ nw a) (e : s.heap.get? a = some o) (n : H a = none) : H' a = none := by
  cases q : H' a with
  | none => rfl
  | some mo =>
    rcases f a n mo q with z | z
    · rw [z] at e; cases e
    · exact z.elim

/-- the frame stands where its own objects are untouched -/
theorem St.step {c : Cx} {env : Env} {m : Loc} {H H' : HV} {s s' : Shared} (S : St c env m H s) (P : Stp nw H H' s s') (S' : Sh c H' s'.heap) : St c env m H' s' := by
  have kv : ∀ {v d}, VR c s.heap v d → VR c s'.heap v d := fun r => P.vr S.sh r
  obtain ⟨mm, F, hm⟩ := S.fr.mm
  have ke : ∀ a o, s.heap.get? a = some o → H a = none → s'.heap.get? a = some o := fun a o e n => P.keep a o e n id
  refine ⟨S', ⟨mm, ?_, fun x d k e => ?_⟩, fun x d k e => ?_, fun x a e => ?_, S.fr.has, S.fr.apart, ?_, fun x a e => ?_, S.fr.newL, S.fr.newC⟩
  · obtain ⟨o, es, ep, ho, r⟩ := F
    exact ⟨o, es, ep, ke _ _ ho S.fr.lH, r⟩
  · obtain ⟨v, e1, e2⟩ := hm x d k e; exact ⟨v, e1, kv e2⟩
  · obtain ⟨a, v, e1, e2, e3⟩ := S.fr.cl x d k e
    exact ⟨a, v, e1, IsCell.keep e2 fun o eo => ke a o eo (S.fr.cH x a e1).1, kv e3⟩
  · obtain ⟨v, e2⟩ := S.fr.ex x a e
    exact ⟨v, IsCell.keep e2 fun o eo => ke a o eo (S.fr.cH x a e).1⟩
  · obtain ⟨o, es, ep, ho, r⟩ := F
    exact none_of_fresh P.fresh ho S.fr.lH
  · refine ⟨?_, (S.fr.cH x a e).2⟩
    obtain ⟨v, o, ho, _⟩ := S.fr.ex x a e
    exact none_of_fresh P.fresh ho (S.fr.cH x a e).1
end
section
-- M2
noncomputable abbrev NoE : Value → Shared → Prop := fun _ _ => False
theorem mono0 {prog : Program} {w : World} {A : Around} {α : Type} {t : Sem α} {Q Q' : α → Shared → Prop} {E : Value → Shared → Prop} {s : Shared} (h : wpAny (model prog w) A t Q NoE s) (k : ∀ v s', Q v s' → Q' v s') : wpAny (model prog w) A t Q' E s := wpAny_mono h k fun _ _ x => x.elim
theorem mono1 {prog : Program} {w : World} {A : Around} {α : Type} {t : Sem α} {Q Q' : α → Shared → Prop} {E : Value → Shared → Prop} {s : Shared} (h : wpAny (model prog w) A t Q E s) (k : ∀ v s', Q v s' → Q' v s') : wpAny (model prog w) A t Q' E s := wpAny_mono h k fun _ _ x => x

noncomputable def own (env : Env) (xs : List Str) (a : Addr) : Prop := a = env.locals ∨ ∃ x ∈ xs, env.kindOf x = some .cell ∧ env.cells.lookup x = some a
noncomputable def ownA (env : Env) (a : Addr) : Prop := a = env.locals ∨ ∃ x, env.kindOf x = some .cell ∧ env.cells.lookup x = some a
theorem own_A {env : Env} {xs : List Str} {a : Addr} (h : own env xs a) : ownA env a := h.imp id fun ⟨x, _, e⟩ => ⟨x, e⟩

/-- the ground's facts -/
structure Cx.Ok (c : Cx) : Prop where
  top : TopRead c.p c.loose c.mg c.mb c.B
  kin : c.K.In c.B

inductive Post (c : Cx) (H : HV) (s : Shared) (K : MV → HV → Prop) (v : Value) (s' : Shared) : Prop
  | mk (d : MV) (H' : HV) (sh : Sh c H' s'.heap) (vr : VR c s'.heap v d) (st : Stp nw H H' s s') (k : K d H')
inductive PostV (c : Cx) (H : HV) (s : Shared) (K : List MV → HV → Prop) (vs : List Value) (s' : Shared) : Prop
  | mk (ds : List MV) (H' : HV) (sh : Sh c H' s'.heap) (vr : VRs c s'.heap vs ds) (st : Stp nw H H' s s') (k : K ds H')
inductive PostB (c : Cx) (H : HV) (s : Shared) (K : Bool → HV → Prop) (b : Bool) (s' : Shared) : Prop
  | mk (H' : HV) (sh : Sh c H' s'.heap) (st : Stp nw H H' s s') (k : K b H')
inductive PostU (c : Cx) (H : HV) (s : Shared) (K : HV → Prop) (u : Unit) (s' : Shared) : Prop
  | mk (H' : HV) (sh : Sh c H' s'.heap) (st : Stp nw H H' s s') (k : K H')
inductive PostA (c : Cx) (env : Env) (o : Addr → Prop) (H : HV) (s : Shared) (K : Loc → HV → Prop) (u : Unit) (s' : Shared) : Prop
  | mk (m' : Loc) (H' : HV) (sh : St c env m' H' s') (st : Stp o H H' s s') (k : K m' H')
theorem Post.after {c : Cx} {H H₁ : HV} {s s₁ : Shared} {K : MV → HV → Prop} {v : Value} {s' : Shared} (st : Stp nw H H₁ s s₁) (h : Post c H₁ s₁ K v s') : Post c H s K v s' :=
  let ⟨d, H', a, b, e, k⟩ := h; ⟨d, H', a, b, st.trans e, k⟩
theorem PostB.after {c : Cx} {H H₁ : HV} {s s₁ : Shared} {K : Bool → HV → Prop} {v : Bool} {s' : Shared} (st : Stp nw H H₁ s s₁) (h : PostB c H₁ s₁ K v s') : PostB c H s K v s' :=
  let ⟨H', a, e, k⟩ := h; ⟨H', a, st.trans e, k⟩
theorem PostU.after {c : Cx} {H H₁ : HV} {s s₁ : Shared} {K : HV → Prop} {v : Unit} {s' : Shared} (st : Stp nw H H₁ s s₁) (h : PostU c H₁ s₁ K v s') : PostU c H s K v s' :=
  let ⟨H', a, e, k⟩ := h; ⟨H', a, st.trans e, k⟩

section
variable (c : Cx) (n : Nat)
noncomputable def WE (env : Env) (e : Expr) (m : Loc) (H : HV) (K : MV → HV → Prop) : Prop :=
  ∀ A s, Room n A → St c env m H s → wpAny (model c.prog c.w) A (eval e env) (Post c H s K) NoE s
noncomputable def WEs (env : Env) (pos : Pos) (es : List Expr) (m : Loc) (H : HV) (K : List MV → HV → Prop) : Prop :=
  ∀ A s, Room n A → St c env m H s → wpAny (model c.prog c.w) A (spliced (backTo pos (starEach es env))) (PostV c H s K) NoE s
noncomputable def WB (env : Env) (e : Expr) (m : Loc) (H : HV) (K : Bool → HV → Prop) : Prop :=
  ∀ A s, Room n A → St c env m H s → wpAny (model c.prog c.w) A (isTrue e env (eval e env)) (PostB c H s K) NoE s
noncomputable def W1 (f : Value → Sem Value) (d : MV) (H : HV) (K : MV → HV → Prop) : Prop :=
  ∀ A s v, Room n A → Sh c H s.heap → VR c s.heap v d → wpAny (model c.prog c.w) A (f v) (Post c H s K) NoE s
noncomputable def W1B (f : Value → Sem Bool) (d : MV) (H : HV) (K : Bool → HV → Prop) : Prop :=
  ∀ A s v, Room n A → Sh c H s.heap → VR c s.heap v d → wpAny (model c.prog c.w) A (f v) (PostB c H s K) NoE s
noncomputable def W2 (f : Value → Value → Sem Value) (d e : MV) (H : HV) (K : MV → HV → Prop) : Prop :=
  ∀ A s v u, Room n A → Sh c H s.heap → VR c s.heap v d → VR c s.heap u e → wpAny (model c.prog c.w) A (f v u) (Post c H s K) NoE s
noncomputable def W3U (f : Value → Value → Value → Sem Unit) (d e g : MV) (H : HV) (K : HV → Prop) : Prop :=
  ∀ A s v u z, Room n A → Sh c H s.heap → VR c s.heap v d → VR c s.heap u e → VR c s.heap z g → wpAny (model c.prog c.w) A (f v u z) (PostU c H s K) NoE s
noncomputable def W2U (f : Value → Value → Sem Unit) (d e : MV) (H : HV) (K : HV → Prop) : Prop :=
  ∀ A s v u, Room n A → Sh c H s.heap → VR c s.heap v d → VR c s.heap u e → wpAny (model c.prog c.w) A (f v u) (PostU c H s K) NoE s
/-- a call of a value with arguments -/
noncomputable def WC (f : Value) (ds : List MV) (H : HV) (K : MV → HV → Prop) : Prop :=
  ∀ A s vs, Room n A → Sh c H s.heap → VRs c s.heap vs ds → wpAny (model c.prog c.w) A (call f vs) (Post c H s K) NoE s

inductive FM where
  | next | brk | cont | ret (d : MV)
inductive PostS (env : Env) (o : Addr → Prop) (H : HV) (s : Shared) (K : FM → Loc → HV → Prop) (f : Flow) (s' : Shared) : Prop
  | mk (m' : Loc) (H' : HV) (sh : St c env m' H' s') (st : Stp o H H' s s') (k : match f with
    | .next => K .next m' H'
    | .brk => K .brk m' H'
    | .cont => K .cont m' H'
    | .ret v => ∃ d, VR c s'.heap v d ∧ K (.ret d) m' H')
noncomputable def WX (env : Env) (st : Stmt) (m : Loc) (H : HV) (K : FM → Loc → HV → Prop) : Prop :=
  ∀ A s, Room n A → St c env m H s → wpAny (model c.prog c.w) A (exec st env) (PostS c env (ownA env) H s K) NoE s
noncomputable def WXs (env : Env) (sts : List Stmt) (m : Loc) (H : HV) (K : FM → Loc → HV → Prop) : Prop :=
  ∀ A s, Room n A → St c env m H s → wpAny (model c.prog c.w) A (execs sts env) (PostS c env (ownA env) H s K) NoE s
noncomputable def WA (env : Env) (xs : List Str) (t : Expr) (d : MV) (m : Loc) (H : HV) (K : Loc → HV → Prop) : Prop :=
  ∀ A s v, Room n A → St c env m H s → VR c s.heap v d → wpAny (model c.prog c.w) A (assign t env v) (PostA c env (own env xs) H s K) NoE s
noncomputable def WAs (env : Env) (xs : List Str) (ts : List Expr) (ds : List MV) (m : Loc) (H : HV) (K : Loc → HV → Prop) : Prop :=
  ∀ A s vs, Room n A → St c env m H s → VRs c s.heap vs ds → wpAny (model c.prog c.w) A (assignInOrder ((assignEach ts env).map (·.2)) vs) (PostA c env (own env xs) H s K) NoE s
end

theorem PostS.after {c : Cx} {env : Env} {o : Addr → Prop} {H H₁ : HV} {s s₁ : Shared} {K : FM → Loc → HV → Prop} {f : Flow} {s' : Shared} (st : Stp o H H₁ s s₁) (h : PostS c env o H₁ s₁ K f s') : PostS c env o H s K f s' :=
  let ⟨m', H', a, e, k⟩ := h; ⟨m', H', a, st.trans e, k⟩

/-- own objects are neither immutable nor the ground's -/
theorem St.ownNot {c : Cx} {env : Env} {m : Loc} {H : HV} {s : Shared} (S : St c env m H s) {xs : List Str} :
    ∀ a o, own env xs a → s.heap.get? a = some o → ¬ (imm o ∨ c.B.get? a = some o) := by
  obtain ⟨mm, F, _⟩ := S.fr.mm
  intro a o w e z
  rcases w with rfl | ⟨x, hm, hk, ea⟩
  · obtain ⟨o', es, ep, ho, hd, _⟩ := F
    rw [e] at ho; cases ho
    rcases z with z | z
    · exact imm_dict hd z
    · rw [S.fr.newL] at z; cases z
  · obtain ⟨v, o', ho, hd⟩ := S.fr.ex x a ea
    rw [e] at ho; cases ho
    rcases z with z | z
    · exact imm_cell hd z
    · rw [S.fr.newC x a hk ea] at z; cases z

section
variable {c : Cx} {n : Nat} {env : Env} {m : Loc} {H : HV}

theorem WE.mono {e : Expr} {K K' : MV → HV → Prop} (h : WE c n env e m H K) (k : ∀ d H', K d H' → K' d H') : WE c n env e m H K' :=
  fun A s R S => mono1 (h A s R S) (fun v s' ⟨d, H', a, b, e, q⟩ => ⟨d, H', a, b, e, k d H' q⟩)
theorem WB.mono {e : Expr} {K K' : Bool → HV → Prop} (h : WB c n env e m H K) (k : ∀ d H', K d H' → K' d H') : WB c n env e m H K' :=
  fun A s R S => mono1 (h A s R S) (fun v s' ⟨H', a, e, q⟩ => ⟨H', a, e, k v H' q⟩)
theorem WC.mono {f : Value} {ds : List MV} {K K' : MV → HV → Prop} (h : WC c n f ds H K) (k : ∀ d H', K d H' → K' d H') : WC c n f ds H K' :=
  fun A s vs R S V => mono1 (h A s vs R S V) (fun v s' ⟨d, H', a, b, e, q⟩ => ⟨d, H', a, b, e, k d H' q⟩)
theorem PostS.mono {o : Addr → Prop} {s s' : Shared} {f : Flow} {K K' : FM → Loc → HV → Prop} (h : PostS c env o H s K f s') (k : ∀ f m H', K f m H' → K' f m H') : PostS c env o H s K' f s' := by
  obtain ⟨m', H', a, b, e⟩ := h
  refine ⟨m', H', a, b, ?_⟩
  cases f with
  | ret v => obtain ⟨d, r, q⟩ := e; exact ⟨d, r, k _ _ _ q⟩
  | _ => exact k _ _ _ e
theorem WXs.mono {sts : List Stmt} {K K' : FM → Loc → HV → Prop} (h : WXs c n env sts m H K) (k : ∀ f m H', K f m H' → K' f m H') : WXs c n env sts m H K' :=
  fun A s R S => mono1 (h A s R S) (fun _ _ q => q.mono k)
theorem WX.mono {st : Stmt} {K K' : FM → Loc → HV → Prop} (h : WX c n env st m H K) (k : ∀ f m H', K f m H' → K' f m H') : WX c n env st m H K' :=
  fun A s R S => mono1 (h A s R S) (fun _ _ q => q.mono k)

/-- fewer names known -/
theorem St.less {s : Shared} {m' : Loc} (S : St c env m H s) (k : ∀ x d, m'.lookup x = some d → m.lookup x = some d) : St c env m' H s := by
  obtain ⟨mm, F, hm⟩ := S.fr.mm
  exact ⟨S.sh, ⟨mm, F, fun x d a e => hm x d a (k x d e)⟩, fun x d a e => S.fr.cl x d a (k x d e), S.fr.ex, S.fr.has, S.fr.apart, S.fr.lH, S.fr.cH, S.fr.newL, S.fr.newC⟩
/-- less of the view known -/
theorem St.drop {s : Shared} {H' : HV} (S : St c env m H s) (k : ∀ a o, H' a = some o → H a = some o) : St c env m H' s := by
  have z : ∀ a, H a = none → H' a = none := fun a e => by
    cases q : H' a with
    | none => rfl
    | some o => rw [k a o q] at e; cases e
  exact ⟨S.sh.drop k, S.fr.mm, S.fr.cl, S.fr.ex, S.fr.has, S.fr.apart, z _ S.fr.lH, fun x a e => ⟨z _ (S.fr.cH x a e).1, (S.fr.cH x a e).2⟩, S.fr.newL, S.fr.newC⟩
theorem Post.dropTo {s s' : Shared} {v : Value} {K : MV → HV → Prop} {d : MV} {H₁ H₂ : HV} (sh : Sh c H₁ s'.heap) (vr : VR c s'.heap v d) (st : Stp nw H H₁ s s') (k : ∀ a o, H₂ a = some o → H₁ a = some o) (q : K d H₂) : Post c H s K v s' :=
  ⟨d, H₂, sh.drop k, vr, st.drop k, q⟩
theorem WE.forget {e : Expr} {K : MV → HV → Prop} (h : WE c n env e m H fun d H' => ∃ H₂ : HV, (∀ a o, H₂ a = some o → H' a = some o) ∧ K d H₂) : WE c n env e m H K :=
  fun A s R S => mono1 (h A s R S) (fun v s' ⟨d, H', a, b, e, H₂, k, q⟩ => ⟨d, H₂, a.drop k, b, e.drop k, q⟩)
theorem WC.forget {f : Value} {ds : List MV} {K : MV → HV → Prop} (h : WC c n f ds H fun d H' => ∃ H₂ : HV, (∀ a o, H₂ a = some o → H' a = some o) ∧ K d H₂) : WC c n f ds H K :=
  fun A s vs R S V => mono1 (h A s vs R S V) (fun v s' ⟨d, H', a, b, e, H₂, k, q⟩ => ⟨d, H₂, a.drop k, b, e.drop k, q⟩)
theorem WXs.forget {sts : List Stmt} {K : FM → Loc → HV → Prop} (h : WXs c n env sts m H fun f m' H' => ∃ (m₂ : Loc) (H₂ : HV), (∀ x d, m₂.lookup x = some d → m'.lookup x = some d) ∧ (∀ a o, H₂ a = some o → H' a = some o) ∧ K f m₂ H₂) : WXs c n env sts m H K := by
  refine fun A s R S => mono1 (h A s R S) ?_
  rintro f s' ⟨m', H', a, b, e⟩
  cases f with
  | ret v => obtain ⟨d, r, m₂, H₂, k1, k2, q⟩ := e; exact ⟨m₂, H₂, (a.drop k2).less k1, b.drop k2, d, r, q⟩
  | _ => obtain ⟨m₂, H₂, k1, k2, q⟩ := e; exact ⟨m₂, H₂, (a.drop k2).less k1, b.drop k2, q⟩
/-- the start may be taken with less -/
theorem WXs.less {sts : List Stmt} {K : FM → Loc → HV → Prop} {m' : Loc} {H' : HV} (h : WXs c n env sts m' H' K) (k1 : ∀ x d, m'.lookup x = some d → m.lookup x = some d) (k2 : ∀ a o, H' a = some o → H a = some o) (k3 : ∀ a, H' a = none → H a = none) : WXs c n env sts m H K := by
  have : H' = H := by
    funext a
    cases q : H' a with
    | none => rw [k3 a q]
    | some o => rw [k2 a o q]
  subst this
  exact fun A s R S => h A s R (S.less k1)

-- names
theorem WE_local {x : Str} {pos : Pos} {d : MV} {K : MV → HV → Prop} (h : K d H) (hv : m.lookup x = some d := by rfl) (hk : env.scope.kind = .function := by rfl) (hl : env.kindOf x = some .local := by rfl) (hd : (x == ("__debug__" : Str)) = false := by decide) : WE c n env (.Name x pos) m H K := by
  intro A s R S
  obtain ⟨mm, F, hm⟩ := S.fr.mm
  obtain ⟨v, e1, e2⟩ := hm x d hl hv
  exact wpAny_Name (wpAny_loadName_local hk hl F e1 ⟨d, H, S.sh, e2, Stp.refl, h⟩) hd
theorem WE_cell {x : Str} {pos : Pos} {d : MV} {K : MV → HV → Prop} (h : K d H) (hv : m.lookup x = some d := by rfl) (hk : env.scope.kind = .function := by rfl) (hl : env.kindOf x = some .cell := by rfl) (hd : (x == ("__debug__" : Str)) = false := by decide) : WE c n env (.Name x pos) m H K := by
  intro A s R S
  obtain ⟨a, v, e1, e2, e3⟩ := S.fr.cl x d (.inl hl) hv
  exact wpAny_Name (wpAny_loadName_cell hk hl e1 e2 ⟨d, H, S.sh, e3, Stp.refl, h⟩) hd
theorem WE_free {x : Str} {pos : Pos} {d : MV} {K : MV → HV → Prop} (h : K d H) (hv : m.lookup x = some d := by rfl) (hk : env.scope.kind = .function := by rfl) (hl : env.kindOf x = some .free := by rfl) (hd : (x == ("__debug__" : Str)) = false := by decide) (hn : (x == ("__classdict__" : Str)) = false := by decide) : WE c n env (.Name x pos) m H K := by
  intro A s R S
  obtain ⟨a, v, e1, e2, e3⟩ := S.fr.cl x d (.inr hl) hv
  exact wpAny_Name (wpAny_loadName_free hk hl e1 e2 ⟨d, H, S.sh, e3, Stp.refl, h⟩ hn) hd
theorem WE_global (O : c.Ok) {x : Str} {pos : Pos} {v : Value} {K : MV → HV → Prop} (h : K (.val v) H) (hv : c.mg x = some v) (hk : env.scope.kind = .function := by rfl) (hl : env.kindOf x = some .globalImplicit := by rfl) (hg : env.globals = mainGlobals := by rfl) (hd : (x == ("__debug__" : Str)) = false := by decide) : WE c n env (.Name x pos) m H K := by
  intro A s R S
  exact Calls.Name_function_global hk hl (Calls.loadGlobal_global (hg ▸ O.top.g.keeps S.sh.base) hv ⟨_, H, S.sh, .val v, Stp.refl, h⟩) hd
theorem WE_builtin (O : c.Ok) {x : Str} {pos : Pos} {v : Value} {K : MV → HV → Prop} (h : K (.val v) H) (hv : bootBuiltins x = some v) (hm : c.mg x = none) (hk : env.scope.kind = .function := by rfl) (hl : env.kindOf x = some .globalImplicit := by rfl) (hg : env.globals = mainGlobals := by rfl) (hb : env.builtins = builtinsNs := by rfl) (hd : (x == ("__debug__" : Str)) = false := by decide) (hn : x ≠ "__name__" := by decide) : WE c n env (.Name x pos) m H K := by
  intro A s R S
  exact Calls.Name_function_global hk hl (Calls.loadGlobal_builtin (hg ▸ O.top.g.keeps S.sh.base) hm (hb ▸ O.top.b.keeps S.sh.base) ((O.top.builtins x hn).trans hv) ⟨_, H, S.sh, .val v, Stp.refl, h⟩) hd

-- constants
theorem WE_int {i : Int} {k : Nat} {pos : Pos} {K : MV → HV → Prop} (h : K (.int i) H) : WE c n env (.Constant (.int i) k pos) m H K :=
  fun A s R S => wpAny_Constant_int ⟨_, H, S.sh, .int i _, Stp.tok, h⟩
theorem WE_str {x : Str} {k : Nat} {pos : Pos} {K : MV → HV → Prop} (h : K (.str x) H) : WE c n env (.Constant (.str x) k pos) m H K :=
  fun A s R S => wpAny_Constant_str ⟨_, H, S.sh, .str x _, Stp.tok, h⟩
theorem WE_bool {b : Bool} {k : Nat} {pos : Pos} {K : MV → HV → Prop} (h : K (.bool b) H) : WE c n env (.Constant (.bool b) k pos) m H K :=
  fun A s R S => wpAny_Constant_bool ⟨_, H, S.sh, .bool b, Stp.refl, h⟩
theorem WE_none {k : Nat} {pos : Pos} {K : MV → HV → Prop} (h : K .none H) : WE c n env (.Constant .none k pos) m H K :=
  fun A s R S => wpAny_Constant_none ⟨_, H, S.sh, .none, Stp.refl, h⟩

-- operators
theorem WE_BinOp {l r : Expr} {op : Operator} {pos : Pos} {K : MV → HV → Prop} (h : WE c n env l m H fun d H₁ => WE c n env r m H₁ fun e H₂ => W2 c n (binaryOp op) d e H₂ K) : WE c n env (.BinOp l op r pos) m H K := by
  intro A s R S
  refine wpAny_BinOp (mono0 (h A s R S) ?_)
  rintro v s₁ ⟨d, H₁, sh₁, vr₁, st₁, k₁⟩
  refine mono0 (k₁ A s₁ R (S.step st₁ sh₁)) ?_
  rintro u s₂ ⟨e, H₂, sh₂, vr₂, st₂, k₂⟩
  exact mono1 (k₂ A s₂ v u R sh₂ (st₂.vr sh₁ vr₁) vr₂) (fun _ _ q => (q.after st₂).after st₁)
theorem WE_Compare {l r : Expr} {op : CmpOp} {pos : Pos} {K : MV → HV → Prop} (h : WE c n env l m H fun d H₁ => WE c n env r m H₁ fun e H₂ => W2 c n (compareOp op) d e H₂ K) (hm : behindInMarks op r = false := by with_unfolding_all rfl) : WE c n env (.Compare l [op] [r] pos) m H K := by
  intro A s R S
  refine wpAny_Compare1 (mono0 (h A s R S) ?_) hm
  rintro v s₁ ⟨d, H₁, sh₁, vr₁, st₁, k₁⟩
  refine mono0 (k₁ A s₁ R (S.step st₁ sh₁)) ?_
  rintro u s₂ ⟨e, H₂, sh₂, vr₂, st₂, k₂⟩
  exact mono1 (k₂ A s₂ v u R sh₂ (st₂.vr sh₁ vr₁) vr₂) (fun _ _ q => (q.after st₂).after st₁)
theorem WE_UnaryOp {x : Expr} {op : UnaryOp} {pos : Pos} {K : MV → HV → Prop} (h : WE c n env x m H fun d H₁ => W1 c n (unaryOp op) d H₁ K) : WE c n env (.UnaryOp op x pos) m H K := by
  intro A s R S
  refine wpAny_UnaryOp (mono0 (h A s R S) ?_)
  rintro v s₁ ⟨d, H₁, sh₁, vr₁, st₁, k₁⟩
  exact mono1 (k₁ A s₁ v R sh₁ vr₁) (fun _ _ q => q.after st₁)
theorem WE_IfExp {t a b : Expr} {pos : Pos} {K : MV → HV → Prop} (h : WB c n env t m H fun q H₁ => if q then WE c n env a m H₁ K else WE c n env b m H₁ K) : WE c n env (.IfExp t a b pos) m H K := by
  intro A s R S
  refine wpAny_IfExp (mono0 (h A s R S) ?_)
  rintro q s₁ ⟨H₁, sh₁, st₁, k₁⟩
  cases q with
  | true => exact mono1 (k₁ A s₁ R (S.step st₁ sh₁)) (fun _ _ q => q.after st₁)
  | false => exact mono1 (k₁ A s₁ R (S.step st₁ sh₁)) (fun _ _ q => q.after st₁)
theorem WE_And {x y : Expr} {pos : Pos} {K : MV → HV → Prop} (h : WE c n env x m H fun d H₁ => W1B c n truthy d H₁ fun b H₂ => if b then WE c n env y m H₂ K else K d H₂) : WE c n env (.BoolOp .And [x, y] pos) m H K := by
  intro A s R S
  refine wpAny_And2 (mono0 (h A s R S) ?_)
  rintro v s₁ ⟨d, H₁, sh₁, vr₁, st₁, k₁⟩
  refine mono0 (k₁ A s₁ v R sh₁ vr₁) ?_
  rintro b s₂ ⟨H₂, sh₂, st₂, k₂⟩
  cases b with
  | true => exact mono1 (k₂ A s₂ R (S.step (st₁.trans st₂) sh₂)) (fun _ _ q => (q.after st₂).after st₁)
  | false => exact ⟨d, H₂, sh₂, st₂.vr sh₁ vr₁, st₁.trans st₂, k₂⟩
theorem WE_Or {x y : Expr} {pos : Pos} {K : MV → HV → Prop} (h : WE c n env x m H fun d H₁ => W1B c n truthy d H₁ fun b H₂ => if b then K d H₂ else WE c n env y m H₂ K) : WE c n env (.BoolOp .Or [x, y] pos) m H K := by
  intro A s R S
  refine wpAny_Or2 (mono0 (h A s R S) ?_)
  rintro v s₁ ⟨d, H₁, sh₁, vr₁, st₁, k₁⟩
  refine mono0 (k₁ A s₁ v R sh₁ vr₁) ?_
  rintro b s₂ ⟨H₂, sh₂, st₂, k₂⟩
  cases b with
  | false => exact mono1 (k₂ A s₂ R (S.step (st₁.trans st₂) sh₂)) (fun _ _ q => (q.after st₂).after st₁)
  | true => exact ⟨d, H₂, sh₂, st₂.vr sh₁ vr₁, st₁.trans st₂, k₂⟩

-- truth
theorem WB_value {e : Expr} {K : Bool → HV → Prop} (h : WE c n env e m H fun d H₁ => W1B c n truthy d H₁ K) (he : isTrue e env (eval e env) = (do let v ← eval e env; standAt e.pos; holding [v] (truthy v)) := by rfl) : WB c n env e m H K := by
  intro A s R S
  refine wpAny_isTrue_value (mono0 (h A s R S) ?_) he
  rintro v s₁ ⟨d, H₁, sh₁, vr₁, st₁, k₁⟩
  exact mono1 (k₁ A s₁ v R sh₁ vr₁) (fun _ _ q => q.after st₁)
theorem WB_Compare {l r : Expr} {op : CmpOp} {pos : Pos} {K : Bool → HV → Prop} (h : WE c n env l m H fun d H₁ => WE c n env r m H₁ fun e H₂ => W2 c n (compareOp op) d e H₂ fun g H₃ => W1B c n truthy g H₃ K) (hm : behindInMarks op r = false := by with_unfolding_all rfl) : WB c n env (.Compare l [op] [r] pos) m H K := by
  intro A s R S
  refine wpAny_isTrue_Compare1 (mono0 (h A s R S) ?_) hm
  rintro v s₁ ⟨d, H₁, sh₁, vr₁, st₁, k₁⟩
  refine mono0 (k₁ A s₁ R (S.step st₁ sh₁)) ?_
  rintro u s₂ ⟨e, H₂, sh₂, vr₂, st₂, k₂⟩
  refine mono0 (k₂ A s₂ v u R sh₂ (st₂.vr sh₁ vr₁) vr₂) ?_
  rintro g s₃ ⟨g', H₃, sh₃, vr₃, st₃, k₃⟩
  exact mono1 (k₃ A s₃ g R sh₃ vr₃) (fun _ _ q => ((q.after st₃).after st₂).after st₁)
theorem WB_Not {x : Expr} {pos : Pos} {K : Bool → HV → Prop} (h : WB c n env x m H fun b H₁ => K (!b) H₁) : WB c n env (.UnaryOp .Not x pos) m H K := by
  intro A s R S
  refine wpAny_isTrue_Not (mono0 (h A s R S) ?_)
  rintro b s₁ ⟨H₁, sh₁, st₁, k₁⟩
  exact ⟨H₁, sh₁, st₁, k₁⟩
noncomputable def WBs (c : Cx) (n : Nat) (env : Env) (op : BoolOp) (es : List Expr) (m : Loc) (H : HV) (K : Bool → HV → Prop) : Prop :=
  ∀ A s, Room n A → St c env m H s → wpAny (model c.prog c.w) A (allTrue op es env) (PostB c H s K) NoE s
theorem WB_BoolOp {op : BoolOp} {es : List Expr} {pos : Pos} {K : Bool → HV → Prop} (h : WBs c n env op es m H K) : WB c n env (.BoolOp op es pos) m H K :=
  fun A s R S => wpAny_isTrue_BoolOp (h A s R S)
theorem WBs_And_cons {x : Expr} {r : List Expr} {K : Bool → HV → Prop} (h : WB c n env x m H fun b H₁ => if b then WBs c n env .And r m H₁ K else K false H₁) : WBs c n env .And (x :: r) m H K := by
  intro A s R S
  refine wpAny_allTrue_And_cons (mono0 (h A s R S) ?_)
  rintro b s₁ ⟨H₁, sh₁, st₁, k₁⟩
  cases b with
  | true => exact mono1 (k₁ A s₁ R (S.step st₁ sh₁)) (fun _ _ q => q.after st₁)
  | false => exact ⟨H₁, sh₁, st₁, k₁⟩
theorem WBs_Or_cons {x : Expr} {r : List Expr} {K : Bool → HV → Prop} (h : WB c n env x m H fun b H₁ => if b then K true H₁ else WBs c n env .Or r m H₁ K) : WBs c n env .Or (x :: r) m H K := by
  intro A s R S
  refine wpAny_allTrue_Or_cons (mono0 (h A s R S) ?_)
  rintro b s₁ ⟨H₁, sh₁, st₁, k₁⟩
  cases b with
  | false => exact mono1 (k₁ A s₁ R (S.step st₁ sh₁)) (fun _ _ q => q.after st₁)
  | true => exact ⟨H₁, sh₁, st₁, k₁⟩
theorem WBs_And_nil {K : Bool → HV → Prop} (h : K true H) : WBs c n env .And [] m H K := fun A s R S => wpAny_allTrue_And_nil ⟨H, S.sh, Stp.refl, h⟩
theorem WBs_Or_nil {K : Bool → HV → Prop} (h : K false H) : WBs c n env .Or [] m H K := fun A s R S => wpAny_allTrue_Or_nil ⟨H, S.sh, Stp.refl, h⟩

-- o.name and o[i]
theorem WE_Attribute {e : Expr} {attr : Str} {pos : Pos} {K : MV → HV → Prop} (h : WE c n env e m H fun d H₁ => W1 c n (fun v => getAttr v attr true) d H₁ K)
    (he : eval (.Attribute e attr pos) env = (do
      let o ← eval e env
      standAt pos.atName
      let r ← holding [o] (getAttr o attr true)
      letTemporaryGo e o r
      pure r) := by with_unfolding_all rfl) : WE c n env (.Attribute e attr pos) m H K := by
  intro A s R S
  refine Attribute_any_ (mono0 (h A s R S) ?_) he
  rintro v s₁ ⟨d, H₁, sh₁, vr₁, st₁, k₁⟩
  exact mono1 (k₁ A s₁ v R sh₁ vr₁) (fun _ _ q => q.after st₁)
theorem WE_Subscript {o i : Expr} {pos : Pos} {K : MV → HV → Prop} (h : WE c n env o m H fun d H₁ => WE c n env i m H₁ fun e H₂ => W2 c n (subscriptTail o i) d e H₂ K) : WE c n env (.Subscript o i pos) m H K := by
  intro A s R S
  refine Subscript_ (mono0 (h A s R S) ?_)
  rintro v s₁ ⟨d, H₁, sh₁, vr₁, st₁, k₁⟩
  refine mono0 (k₁ A s₁ R (S.step st₁ sh₁)) ?_
  rintro u s₂ ⟨e, H₂, sh₂, vr₂, st₂, k₂⟩
  exact mono1 (k₂ A s₂ v u R sh₂ (st₂.vr sh₁ vr₁) vr₂) (fun _ _ q => (q.after st₂).after st₁)

-- displays
theorem WEs_nil {pos : Pos} {K : List MV → HV → Prop} (h : K [] H) : WEs c n env pos [] m H K := fun A s R S => wpAny_pure ⟨[], H, S.sh, .nil, Stp.refl, h⟩
theorem WEs_cons {pos : Pos} {e : Expr} {r : List Expr} {K : List MV → HV → Prop} (h : WE c n env e m H fun d H₁ => WEs c n env pos r m H₁ fun ds H₂ => K (d :: ds) H₂)
    (he : starEach (e :: r) env = (false, eval e env) :: starEach r env := by rfl) : WEs c n env pos (e :: r) m H K := by
  intro A s R S
  rw [he]
  show wpAny _ A (spliced ((false, eval e env) :: backTo pos (starEach r env))) _ _ _
  unfold spliced
  refine wpAny_bind (mono0 (h A s R S) ?_)
  rintro v s₁ ⟨d, H₁, sh₁, vr₁, st₁, k₁⟩
  refine wpAny_bind (wpAny_pure (wpAny_bind (wpAny_holding (mono0 (k₁ A s₁ R (S.step st₁ sh₁)) ?_))))
  rintro vs s₂ ⟨ds, H₂, sh₂, vr₂, st₂, k₂⟩
  exact wpAny_pure ⟨d :: ds, H₂, sh₂, .cons (st₂.vr sh₁ vr₁) vr₂, st₁.trans st₂, k₂⟩
theorem WE_Tuple {es : List Expr} {k : Nat} {pos : Pos} {K : MV → HV → Prop} (h : WEs c n env pos es m H fun ds H₁ => ds.length ≤ 1000 ∧ K (.tup ds) H₁) : WE c n env (.Tuple es k pos) m H K := by
  intro A s R S
  refine Tuple_ (mono0 (h A s R S) ?_)
  rintro vs s₁ ⟨ds, H₁, sh₁, vr₁, st₁, hz, k₁⟩
  have kp : ∀ a o, s₁.heap.get? a = some o → (s₁.heap.push { cls := .type "tuple", data := .seq vs.toArray }).get? a = some o := fun a o e => Heap.get?_push_of_some _ e
  have hl := vr₁.length
  exact wpAny_newTuple ⟨.tup ds, H₁, sh₁.ext kp, .tup ⟨_, Heap.get?_push_size _ rfl, rfl, 0, rfl⟩ (vr₁.mono fun a o e _ => kp a o e), st₁.trans (Stp.ext (tk := s₁.toks) kp), k₁⟩ (by rw [sizeLine_eq]; first | lia | omega)
theorem WE_List {es : List Expr} {pos : Pos} {K : MV → HV → Prop} (h : WEs c n env pos es m H fun ds H₁ => ds.length ≤ 1000 ∧ ∀ a, H₁ a = none → c.B.get? a = none → K (.ref a) (H₁.set a (.list ds))) : WE c n env (.List es pos) m H K := by
  intro A s R S
  refine List_ (mono0 (h A s R S) ?_)
  rintro vs s₁ ⟨ds, H₁, sh₁, vr₁, st₁, hz, k₁⟩
  have kp : ∀ a o, s₁.heap.get? a = some o → (s₁.heap.push { cls := .type "list", data := .seq vs.toArray }).get? a = some o := fun a o e => Heap.get?_push_of_some _ e
  have hl := vr₁.length
  have hn : c.B.get? s₁.heap.objs.size = none := by
    cases q : c.B.get? s₁.heap.objs.size with
    | none => rfl
    | some o => have := sh₁.base _ _ q; rw [get_size] at this; cases this
  exact wpAny_newList ⟨.ref _, _, sh₁.add get_size kp (.list ⟨0, Heap.get?_push_size _ rfl⟩ (vr₁.mono fun a o e _ => kp a o e)), .ref _, st₁.trans (Stp.add (tk := s₁.toks) get_size kp), k₁ _ (sh₁.fresh get_size) hn⟩ (by rw [sizeLine_eq]; first | lia | omega)
end
end
section
-- M3
section
variable {c : Cx} {n : Nat} {env : Env} {m : Loc} {H : HV}

theorem own_mono {xs ys : List Str} {a : Addr} (k : ∀ x ∈ xs, x ∈ ys) (h : own env xs a) : own env ys a := h.imp id fun ⟨x, i, e⟩ => ⟨x, k x i, e⟩

/-- a local is stored -/
theorem St.local {s : Shared} {h' : Heap} {tk : Nat} {x : Str} {v : Value} {d : MV} {mm : Str → Option Value} (S : St c env m H s) (hl : env.kindOf x = some .local)
    (hm : ∀ x d, env.kindOf x = some .local → m.lookup x = some d → ∃ v, mm x = some v ∧ VR c s.heap v d)
    (hn : h'.Ns env.locals (fun y => if y = x then some v else mm y)) (hs : Heap.SameBut env.locals s.heap h') (r : VR c s.heap v d) (xs : List Str) :
    St c env ((x, d) :: m) H { s with heap := h', toks := tk } ∧ Stp (own env xs) H H s { s with heap := h', toks := tk } := by
  have no := S.ownNot (xs := [])
  have ki : ∀ a o, s.heap.get? a = some o → imm o ∨ c.B.get? a = some o → h'.get? a = some o := fun a o e i =>
    hs.extBut a o (fun q => no a o (.inl q) e i) e
  have kn : ∀ a o, a ≠ env.locals → s.heap.get? a = some o → h'.get? a = some o := fun a o q e => hs.extBut a o q e
  have lH := S.fr.lH
  refine ⟨⟨⟨fun a o e => ki a o (S.sh.base a o e) (.inr e), S.sh.new, fun a o e => (S.sh.rel a o e).mono (fun ob eo => kn a ob (fun q => by rw [q, lH] at e; cases e) eo) ki⟩, ?_⟩, ?_⟩
  · refine ⟨⟨_, hn, fun y e k q => ?_⟩, fun y e k q => ?_, fun y a e => ?_, S.fr.has, S.fr.apart, lH, S.fr.cH, S.fr.newL, S.fr.newC⟩
    · by_cases z : y = x
      · subst z
        rw [List.lookup_cons] at q
        simp at q
        subst q
        exact ⟨v, by simp, r.mono ki⟩
      · have z' : (y == x) = false := by simp [z]
        rw [List.lookup_cons, z'] at q
        obtain ⟨u, e1, e2⟩ := hm y e k q
        exact ⟨u, by simp [z, e1], e2.mono ki⟩
    · have z : y ≠ x := by rintro rfl; rw [hl] at k; rcases k with k | k <;> cases k
      have z' : (y == x) = false := by simp [z]
      rw [List.lookup_cons, z'] at q
      obtain ⟨a, u, e1, e2, e3⟩ := S.fr.cl y e k q
      exact ⟨a, u, e1, IsCell.keep e2 fun o eo => kn a o (S.fr.cH y a e1).2 eo, e3.mono ki⟩
    · obtain ⟨u, e2⟩ := S.fr.ex y a e
      exact ⟨u, IsCell.keep e2 fun o eo => kn a o (S.fr.cH y a e).2 eo⟩
  · refine ⟨⟨h', tk, rfl⟩, fun a o e _ w => kn a o (fun q => w (.inl q)) e, fun a e o e' => (by rw [e] at e'; cases e'), fun a o e _ => ?_⟩
    by_cases q : a = env.locals
    · subst q
      obtain ⟨o', es, ep, ho, _⟩ := hn
      exact ⟨o', ho⟩
    · exact ⟨o, kn a o q e⟩

/-- a cell is stored -/
theorem St.cell {s : Shared} {h' : Heap} {tk : Nat} {x : Str} {v : Value} {d : MV} {a : Addr} (S : St c env m H s) (hl : env.kindOf x = some .cell) (ha : env.cells.lookup x = some a)
    (hn : h'.IsCell a (some v)) (hs : Heap.SameBut a s.heap h') (r : VR c s.heap v d) {xs : List Str} (hx : x ∈ xs) :
    St c env ((x, d) :: m) H { s with heap := h', toks := tk } ∧ Stp (own env xs) H H s { s with heap := h', toks := tk } := by
  have no := S.ownNot (xs := [x])
  have ki : ∀ b o, s.heap.get? b = some o → imm o ∨ c.B.get? b = some o → h'.get? b = some o := fun b o e i =>
    hs.extBut b o (fun q => no b o (.inr ⟨x, by simp, hl, q ▸ ha⟩) e i) e
  have kn : ∀ b o, b ≠ a → s.heap.get? b = some o → h'.get? b = some o := fun b o q e => hs.extBut b o q e
  have cH := S.fr.cH x a ha
  obtain ⟨mm, F, hm⟩ := S.fr.mm
  refine ⟨⟨⟨fun b o e => ki b o (S.sh.base b o e) (.inr e), S.sh.new, fun b o e => (S.sh.rel b o e).mono (fun ob eo => kn b ob (fun q => by rw [q, cH.1] at e; cases e) eo) ki⟩, ?_⟩, ?_⟩
  · refine ⟨⟨mm, ?_, fun y e k q => ?_⟩, fun y e k q => ?_, fun y b e => ?_, S.fr.has, S.fr.apart, S.fr.lH, S.fr.cH, S.fr.newL, S.fr.newC⟩
    · obtain ⟨o, es, ep, ho, rr⟩ := F
      exact ⟨o, es, ep, kn _ _ (Ne.symm cH.2) ho, rr⟩
    · have z : y ≠ x := by rintro rfl; rw [hl] at k; cases k
      have z' : (y == x) = false := by simp [z]
      rw [List.lookup_cons, z'] at q
      obtain ⟨u, e1, e2⟩ := hm y e k q
      exact ⟨u, e1, e2.mono ki⟩
    · by_cases z : y = x
      · subst z
        rw [List.lookup_cons] at q
        simp at q
        subst q
        exact ⟨a, v, ha, hn, r.mono ki⟩
      · have z' : (y == x) = false := by simp [z]
        rw [List.lookup_cons, z'] at q
        obtain ⟨b, u, e1, e2, e3⟩ := S.fr.cl y e k q
        exact ⟨b, u, e1, IsCell.keep e2 fun o eo => kn b o (fun q' => z (S.fr.apart y x a (q' ▸ e1) ha)) eo, e3.mono ki⟩
    · by_cases z : b = a
      · subst z; exact ⟨_, hn⟩
      · obtain ⟨u, e2⟩ := S.fr.ex y b e
        exact ⟨u, IsCell.keep e2 fun o eo => kn b o z eo⟩
  · refine ⟨⟨h', tk, rfl⟩, fun b o e _ w => kn b o (fun q => w (.inr ⟨x, hx, hl, q ▸ ha⟩)) e, fun b e o e' => (by rw [e] at e'; cases e'), fun b o e _ => ?_⟩
    by_cases q : b = a
    · subst q
      obtain ⟨o', ho, _⟩ := hn
      exact ⟨o', ho⟩
    · exact ⟨o, kn b o q e⟩

noncomputable def memS (x : Str) (xs : List Str) : Bool := xs.contains x
theorem mem_of {x : Str} {xs : List Str} (h : memS x xs = true) : x ∈ xs := by simpa [memS] using h

theorem WA_local {xs : List Str} {x : Str} {pos : Pos} {d : MV} {K : Loc → HV → Prop} (h : K ((x, d) :: m) H) (hl : env.kindOf x = some .local := by rfl)
    (hp : (env.scope.kind == .class || (env.scope.kind == .module && env.locals != env.globals)) = false := by rfl) : WA c n env xs (.Name x pos) d m H K := by
  intro A s v R S r
  obtain ⟨mm, F, hm⟩ := S.fr.mm
  refine wpAny_assign_Name (wpAny_storeName_local hl F (fun h' hn hs => ?_) hp)
  obtain ⟨a, b⟩ := S.local (tk := s.toks + 1) hl hm hn hs r xs
  exact ⟨_, H, a, b, h⟩
theorem WA_cell {xs : List Str} {x : Str} {pos : Pos} {d : MV} {K : Loc → HV → Prop} (h : K ((x, d) :: m) H) (hx : memS x xs = true := by decide) (hl : env.kindOf x = some .cell := by rfl)
    (hk : env.scope.kind = .function := by rfl) : WA c n env xs (.Name x pos) d m H K := by
  intro A s v R S r
  obtain ⟨a, ha⟩ := S.fr.has x hl
  obtain ⟨v₀, hv⟩ := S.fr.ex x a ha
  refine wpAny_assign_Name (wpAny_storeName_cell hk hl ha hv fun h' hn hs => ?_)
  obtain ⟨a, b⟩ := S.cell (tk := s.toks) hl ha hn hs r (mem_of hx)
  exact ⟨_, H, a, b, h⟩
theorem WAs_nil {xs : List Str} {K : Loc → HV → Prop} (h : K m H) : WAs c n env xs [] [] m H K := by
  intro A s vs R S V
  obtain rfl := V.isNil
  exact wpAny_assignInOrder_none ⟨m, H, S, Stp.refl, h⟩
theorem WAs_cons {xs : List Str} {t : Expr} {ts : List Expr} {d : MV} {ds : List MV} {K : Loc → HV → Prop} (h : WA c n env xs t d m H fun m₁ H₁ => WAs c n env xs ts ds m₁ H₁ K)
    (he : (assignEach (t :: ts) env).map (·.2) = assign t env :: (assignEach ts env).map (·.2) := by rfl) : WAs c n env xs (t :: ts) (d :: ds) m H K := by
  intro A s vs R S V
  rw [he]
  obtain ⟨_, _, rfl, r, W⟩ := V.isCons
  · refine wpAny_assignInOrder_more (mono0 (h A s _ R S r) ?_)
    rintro _ s₁ ⟨m₁, H₁, S₁, st₁, k₁⟩
    refine mono1 (k₁ A s₁ _ R S₁ (W.mono (st₁.imm S.sh S.ownNot))) ?_
    rintro _ s₂ ⟨m₂, H₂, S₂, st₂, k₂⟩
    exact ⟨m₂, H₂, S₂, st₁.trans st₂, k₂⟩
theorem stp_extBut {s : Shared} {h' : Heap} {tk : Nat} (k : Heap.ExtBut s.heap.objs.size s.heap h') : ∀ a o, s.heap.get? a = some o → h'.get? a = some o :=
  fun a o e => k a o (Nat.ne_of_lt (Heap.lt_size e)) e
theorem WA_Tuple {xs : List Str} {es : List Expr} {k : Nat} {pos : Pos} {ds : List MV} {K : Loc → HV → Prop} (h : WAs c n env xs es ds m H K) (hl : es.length = ds.length := by rfl)
    (he : (assignEach es env).length = es.length := by rfl) (hstar : (assignEach es env).findIdx? (·.1) = none := by rfl) : WA c n env xs (.Tuple es k pos) (.tup ds) m H K := by
  intro A s v R S r
  obtain ⟨a, vs, rfl, ht, V⟩ := r.isTup
  · have hz : (assignEach es env).length = vs.toArray.size := by rw [he, hl, List.size_toArray, V.length]
    refine wpAny_assign_Tuple R.handled ht hz hstar fun h' hx => ?_
    have kk := stp_extBut (tk := 0) hx
    have st : Stp nw H H s { s with heap := h' } := Stp.ext (tk := s.toks) kk
    have sh := S.sh.ext kk
    refine mono1 (h A _ _ R (S.step st sh) (st.vrs S.sh V)) ?_
    rintro _ s₂ ⟨m₂, H₂, S₂, st₂, k₂⟩
    exact ⟨m₂, H₂, S₂, st.toOwn.trans st₂, k₂⟩
theorem WA_Attribute {xs : List Str} {o : Expr} {attr : Str} {pos : Pos} {d : MV} {K : Loc → HV → Prop} (h : WE c n env o m H fun e H₁ => W2U c n (fun ov v => setAttr ov attr v) e d H₁ fun H₂ => K m H₂) : WA c n env xs (.Attribute o attr pos) d m H K := by
  intro A s v R S r
  rw [assign_Attribute]
  refine wpAny_bind (wpAny_holding (mono0 (h A s R S) ?_))
  rintro ov s₁ ⟨e, H₁, sh₁, vr₁, st₁, k₁⟩
  refine wpAny_bind (wpAny_standAt (wpAny_bind (wpAny_holding (mono0 (k₁ A s₁ ov v R sh₁ vr₁ (st₁.vr S.sh r)) ?_))))
  rintro _ s₂ ⟨H₂, sh₂, st₂, k₂⟩
  exact wpAny_release ⟨m, H₂, S.step (st₁.trans st₂) sh₂, (st₁.trans st₂).toOwn, k₂⟩
theorem WA_Subscript {xs : List Str} {o i : Expr} {pos : Pos} {d : MV} {K : Loc → HV → Prop} (h : WE c n env o m H fun e H₁ => WE c n env i m H₁ fun g H₂ => W3U c n setItem e g d H₂ fun H₃ => K m H₃) : WA c n env xs (.Subscript o i pos) d m H K := by
  intro A s v R S r
  rw [assign_Subscript]
  refine wpAny_bind (wpAny_holding (mono0 (h A s R S) ?_))
  rintro ov s₁ ⟨e, H₁, sh₁, vr₁, st₁, k₁⟩
  refine wpAny_bind (wpAny_holding (mono0 (k₁ A s₁ R (S.step st₁ sh₁)) ?_))
  rintro iv s₂ ⟨g, H₂, sh₂, vr₂, st₂, k₂⟩
  have r1 := st₁.vr S.sh r
  refine wpAny_bind (wpAny_standAt (wpAny_bind (wpAny_holding (mono0 (k₂ A s₂ ov iv v R sh₂ (st₂.vr sh₁ vr₁) vr₂ (st₂.vr sh₁ r1)) ?_))))
  rintro _ s₃ ⟨H₃, sh₃, st₃, k₃⟩
  exact wpAny_release ⟨m, H₃, S.step (st₁.trans (st₂.trans st₃)) sh₃, (st₁.trans (st₂.trans st₃)).toOwn, k₃⟩

-- statements
noncomputable def stor (c : Cx) (n : Nat) (env : Env) (st : Stmt) := WX c n env st
theorem WXs_nil {K : FM → Loc → HV → Prop} (h : K .next m H) : WXs c n env [] m H K := fun A s R S => wpAny_execs_nil ⟨m, H, S, Stp.refl, h⟩
noncomputable abbrev thenX (c : Cx) (n : Nat) (env : Env) (r : List Stmt) (K : FM → Loc → HV → Prop) (f : FM) (m : Loc) (H : HV) : Prop := match f with
  | .next => WXs c n env r m H K
  | f => K f m H
theorem WXs_cons {st : Stmt} {r : List Stmt} {K : FM → Loc → HV → Prop} (h : WX c n env st m H (thenX c n env r K)) : WXs c n env (st :: r) m H K := by
  intro A s R S
  refine wpAny_execs_cons (mono0 (h A s R S) ?_)
  rintro f s₁ ⟨m₁, H₁, S₁, st₁, k₁⟩
  cases f with
  | next => exact mono1 (k₁ A s₁ R S₁) (fun _ _ q => q.after st₁)
  | ret v => exact ⟨m₁, H₁, S₁, st₁, k₁⟩
  | brk => exact ⟨m₁, H₁, S₁, st₁, k₁⟩
  | cont => exact ⟨m₁, H₁, S₁, st₁, k₁⟩
theorem WX_Return {e : Expr} {pos : Pos} {K : FM → Loc → HV → Prop} (h : WE c n env e m H fun d H₁ => K (.ret d) m H₁) : WX c n env (.Return (some e) pos) m H K := by
  intro A s R S
  refine wpAny_Return_some (mono1 (h A s R S) ?_)
  rintro v s₁ ⟨d, H₁, sh₁, vr₁, st₁, k₁⟩
  exact ⟨m, H₁, S.step st₁ sh₁, st₁.toOwn, d, vr₁, k₁⟩
theorem WX_Return0 {pos : Pos} {K : FM → Loc → HV → Prop} (h : K (.ret .none) m H) : WX c n env (.Return none pos) m H K :=
  fun A s R S => wpAny_Return_none ⟨m, H, S, Stp.refl, .none, .none, h⟩
theorem WX_Break {pos : Pos} {K : FM → Loc → HV → Prop} (h : K .brk m H) : WX c n env (.Break pos) m H K :=
  fun A s R S => wpAny_Break ⟨m, H, S, Stp.refl, h⟩
theorem WX_Expr {e : Expr} {pos : Pos} {K : FM → Loc → HV → Prop} (h : WE c n env e m H fun _ H₁ => K .next m H₁) (hi : interactive env = false := by rfl) (hs : swapsWith e none pos.line env = pure false := by rfl) : WX c n env (.Expr e pos) m H K := by
  intro A s R S
  refine wpAny_Expr_any (mono1 (h A s R S) ?_) hi hs
  rintro v s₁ ⟨d, H₁, sh₁, vr₁, st₁, k₁⟩
  exact ⟨m, H₁, S.step st₁ sh₁, st₁.toOwn, k₁⟩
theorem WX_If {t : Expr} {b o : List Stmt} {pos : Pos} {K : FM → Loc → HV → Prop} (h : WB c n env t m H fun q H₁ => if q then WXs c n env b m H₁ K else WXs c n env o m H₁ K) : WX c n env (.If t b o pos) m H K := by
  intro A s R S
  refine wpAny_If (mono0 (h A s R S) ?_)
  rintro q s₁ ⟨H₁, sh₁, st₁, k₁⟩
  cases q with
  | true => exact mono1 (k₁ A s₁ R (S.step st₁ sh₁)) (fun _ _ q => q.after st₁.toOwn)
  | false => exact mono1 (k₁ A s₁ R (S.step st₁ sh₁)) (fun _ _ q => q.after st₁.toOwn)
/-- one target; the names it stores -/
noncomputable def tn : Nat → Expr → List Str
  | _, .Name x _ => [x]
  | k + 1, .Tuple es _ _ => es.flatMap (tn k)
  | _, _ => []
theorem Stp.weaker {o o' : Addr → Prop} {H H' : HV} {s s' : Shared} (x : Stp o H H' s s') (k : ∀ a, o a → o' a) : Stp o' H H' s s' := x.weak fun a z => .inl (k a z)
theorem WX_Assign {t e : Expr} {pos : Pos} {K : FM → Loc → HV → Prop} (h : WE c n env e m H fun d H₁ => WA c n env (tn 3 t) t d m H₁ fun m₂ H₂ => K .next m₂ H₂)
    (hs : swapsWithSole [t] e pos.line env = pure false := by rfl) (hw : swappedStores [t] e env = pure none := by rfl) (he : (assignEach [t] env).map (·.2) = [assign t env] := by rfl) : WX c n env (.Assign [t] e pos) m H K := by
  intro A s R S
  refine wpAny_Assign_stores (mono0 (h A s R S) ?_) hs hw
  rintro v s₁ ⟨d, H₁, sh₁, vr₁, st₁, k₁⟩
  rw [he]
  refine mono0 (k₁ A s₁ v R (S.step st₁ sh₁) vr₁) ?_
  rintro _ s₂ ⟨m₂, H₂, S₂, st₂, k₂⟩
  exact ⟨m₂, H₂, S₂, st₁.toOwn.trans (st₂.weaker fun a => own_A), k₂⟩

theorem exec_swap {t e : Expr} {pos : Pos} {names : List Str} (hs : swapsWithSole [t] e pos.line env = pure false) (hw : swappedStores [t] e env = pure (some names)) : exec (.Assign [t] e pos) env = (do
    standAt pos
    let v ← eval e env
    rule "assign.swapped-stores"
    let items ← unpackItems v names.length none
    assignInOrder (names.reverse.map fun n => bindName env n) items.reverse
    pure .next) := by
  rw [exec_Assign, hs, hw]
  rfl
/-- names stored one by one -/
theorem bind_all {A : Around} (hp : (env.scope.kind == .class || (env.scope.kind == .module && env.locals != env.globals)) = false) : ∀ (names : List Str) (m : Loc) (ds : List MV) (vs : List Value) (s : Shared), (∀ x ∈ names, env.kindOf x = some .local) →
    St c env m H s → VRs c s.heap vs ds → names.length = ds.length →
    wpAny (model c.prog c.w) A (assignInOrder (names.map fun n => bindName env n) vs) (PostA c env (ownA env) H s fun m' H' => m' = (names.zip ds).reverse ++ m ∧ H' = H) NoE s := by
  intro names
  induction names with
  | nil =>
    intro m ds vs s _ S V e
    cases ds with
    | nil => obtain rfl := V.isNil; exact wpAny_assignInOrder_none ⟨m, H, S, Stp.refl, rfl, rfl⟩
    | cons _ _ => simp at e
  | cons x names ih =>
    intro m ds vs s hk S V hl
    cases ds with
    | nil => simp at hl
    | cons d ds =>
      obtain ⟨_, _, rfl, r, W⟩ := V.isCons
      obtain ⟨mm, F, hm⟩ := S.fr.mm
      have hx := hk x (by simp)
      refine wpAny_assignInOrder_more (wpAny_bindName (wpAny_storeName_local hx F (fun h' hn hs => ?_) hp))
      obtain ⟨S', st⟩ := S.local (tk := s.toks + 1) hx hm hn hs r [x]
      refine mono1 (ih ((x, d) :: m) ds _ _ (fun y hy => hk y (by simp [hy])) S' (W.mono (st.imm S.sh S.ownNot)) (by simpa using hl)) ?_
      rintro _ s₂ ⟨m₂, H₂, a, b, rfl, rfl⟩
      exact ⟨_, _, a, (st.weaker fun a => own_A).trans b, by simp, rfl⟩
theorem WX_Swap {t e : Expr} {pos : Pos} {names : List Str} {K : FM → Loc → HV → Prop} (h : WE c n env e m H fun d H₁ => ∃ ds, d = .tup ds ∧ names.length = ds.length ∧ K .next (names.zip ds ++ m) H₁)
    (hs : swapsWithSole [t] e pos.line env = pure false := by rfl) (hw : swappedStores [t] e env = pure (some names) := by rfl)
    (hk : names.all (fun x => env.kindOf x == some .local) = true := by rfl)
    (hp : (env.scope.kind == .class || (env.scope.kind == .module && env.locals != env.globals)) = false := by rfl) : WX c n env (.Assign [t] e pos) m H K := by
  intro A s R S
  rw [exec_swap hs hw]
  refine wpAny_bind (wpAny_standAt (wpAny_bind (mono0 (h A s R S) ?_)))
  rintro v s₁ ⟨d, H₁, sh₁, vr₁, st₁, ds, rfl, hl, k₁⟩
  obtain ⟨a, vs, rfl, ht, V⟩ := vr₁.isTup
  · have hsz : names.length = vs.toArray.size := by rw [hl, List.size_toArray, V.length]
    rw [hsz]
    refine wpAny_bind (wpAny_rule (wpAny_bind (wpAny_unpackItems_tuple R.handled ht fun h' hx => ?_)))
    have kk := stp_extBut (tk := 0) hx
    have st : Stp nw H₁ H₁ s₁ { s₁ with heap := h' } := Stp.ext (tk := s₁.toks) kk
    have S₁ := S.step st₁ sh₁
    have S₂ := S₁.step st (sh₁.ext kk)
    have V₂ : VRs c h' vs ds := st.vrs sh₁ V
    have rv : ∀ {vs : List Value} {ds : List MV}, VRs c h' vs ds → VRs c h' vs.reverse ds.reverse := by
      intro vs
      induction vs with
      | nil => intro ds V; cases ds with | nil => exact .nil | cons _ _ => exact V.inv.elim
      | cons v vs ih => intro ds V; cases ds with | nil => exact V.inv.elim | cons _ _ => rw [List.reverse_cons, List.reverse_cons]; exact (ih V.inv.2).append (.one V.inv.1)
    refine wpAny_bind (mono0 (bind_all (c := c) (H := H₁) hp names.reverse m ds.reverse vs.reverse _ (fun x hx => ?_) S₂ (rv V₂) (by simp [hl])) ?_)
    · have := List.all_eq_true.mp hk x (List.mem_reverse.mp hx)
      simpa using this
    rintro _ s₃ ⟨_, _, S₃, st₃, rfl, rfl⟩
    have e : (names.reverse.zip ds.reverse).reverse = names.zip ds := by
      have z := List.reverse_zipWith (f := Prod.mk) hl
      show (List.zipWith Prod.mk names.reverse ds.reverse).reverse = List.zipWith Prod.mk names ds
      rw [← z, List.reverse_reverse]
    rw [e] at S₃
    exact wpAny_pure ⟨_, _, S₃, (st₁.toOwn.trans st.toOwn).trans st₃, k₁⟩
end
end
section
-- M4a
open Sem (wp)
open AutoSeq1 (wpAny_loadPart')

section
variable {prog : Program} {w : World} {A : Around} {E : Value → Shared → Prop} {s : Shared}
/-- one item out of a tuple's iterator, asked by enumerate or zip -/
theorem next_tuple_item {it t : Addr} {i : Nat} {items : Array Value} {x : Value} {Q : Value → Shared → Prop} (hit : s.heap.IsTupleIter it t i) (ht : s.heap.IsTuple t items) (hx : items[i]? = some x)
    (hQ : ∀ h', h'.IsTupleIter it t (i + 1) → Heap.SameBut it s.heap h' → Q x { s with heap := h' }) : wpAny (model prog w) A (Builtin.SmallTypes.nextOf (.ref it)) Q E s := by
  obtain ⟨o, ho, hc, hd⟩ := id hit
  obtain ⟨ol, hol, _, nl, hdl⟩ := ht
  unfold Builtin.SmallTypes.nextOf
  refine wpAny_bind (wpAny_callSpecial?_slot (name := Str.ofString "__next__") hit.typeIs F.slot_tuple_iterator_next (wpAny_call_entry F.slot_tuple_iterator_next hit.typeIs F.entry_tuple_iterator_next ?_ (F.args_tuple_iterator_next_1 _)))
  show wpAny _ _ (field (.ref it) 0 >>= _) _ _ s
  refine wpAny_bind (wpAny_field ho hd (x := .ref t) rfl ?_)
  show wpAny _ _ (if (Value.ref t == Value.none) = true then _ else _) _ _ s
  rw [if_neg (show ¬ ((Value.ref t == Value.none) = true) from Bool.false_ne_true)]
  show wpAny _ _ (field (.ref it) 1 >>= _) _ _ s
  refine wpAny_bind (wpAny_field ho hd (x := .int i 0) rfl ?_)
  show wpAny _ _ (seqItems? (.ref t) >>= _) _ _ s
  refine wpAny_bind (wpAny_seqItems hol hdl ?_)
  simp only [Int.toNat_natCast, hx]
  refine wpAny_bind (wpAny_setField ho hd (by simp) (wpAny_pure ⟨x, rfl, wpAny_pure (hQ _ ⟨_, Heap.get?_update_self _ ho (Obj.isFreed_of_fields (Obj.data_mapFields hd _)), (Obj.cls_mapFields ..).trans hc, ?_⟩ (Heap.SameBut.update ..))⟩))
  rw [Obj.data_mapFields hd]; simp [rawInt]

theorem next_tuple_end {it t : Addr} {i : Nat} {items : Array Value} {Q : Value → Shared → Prop} (hh : A.handled = none) (hit : s.heap.IsTupleIter it t i) (ht : s.heap.IsTuple t items) (hx : items[i]? = none)
    (hE : ∀ h' e, Heap.ExtBut it s.heap h' → (∃ o, h'.get? e = some o ∧ o.cls = .type "StopIteration") → E (.ref e) { s with heap := h' }) : wpAny (model prog w) A (Builtin.SmallTypes.nextOf (.ref it)) Q E s := by
  obtain ⟨o, ho, hc, hd⟩ := id hit
  obtain ⟨ol, hol, _, nl, hdl⟩ := ht
  unfold Builtin.SmallTypes.nextOf
  refine wpAny_bind (wpAny_callSpecial?_slot (name := Str.ofString "__next__") hit.typeIs F.slot_tuple_iterator_next (wpAny_call_entry F.slot_tuple_iterator_next hit.typeIs F.entry_tuple_iterator_next ?_ (F.args_tuple_iterator_next_1 _)))
  show wpAny _ _ (field (.ref it) 0 >>= _) _ _ s
  refine wpAny_bind (wpAny_field ho hd (x := .ref t) rfl ?_)
  show wpAny _ _ (if (Value.ref t == Value.none) = true then _ else _) _ _ s
  rw [if_neg (show ¬ ((Value.ref t == Value.none) = true) from Bool.false_ne_true)]
  show wpAny _ _ (field (.ref it) 1 >>= _) _ _ s
  refine wpAny_bind (wpAny_field ho hd (x := .int i 0) rfl ?_)
  show wpAny _ _ (seqItems? (.ref t) >>= _) _ _ s
  refine wpAny_bind (wpAny_seqItems hol hdl ?_)
  simp only [Int.toNat_natCast, hx]
  refine wpAny_bind (wpAny_rule (wpAny_bind (wpAny_setField ho hd (by simp) ?_)))
  show wpAny _ _ (newExc (.type "StopIteration") [] >>= _) _ _ _
  refine wpAny_bind ?_
  simp only [newExc, newTuple]
  refine wpAny_bind (wpAny_newObj_type ?_ (by size_fits))
  refine wpAny_bind (m := firstArgMember _ _) (wpAny_of_eq (a := Value.none) (by first | rfl | (simp only [firstArgMember]; rfl)) ?_)
  refine wpAny_newObj_type ?_ (by size_fits)
  simp only [raiseNew]
  refine wpAny_bind (wpAny_handled ?_)
  first | rw [show A.in1.handled = none from hh] | rw [hh]
  refine wpAny_bind (wpAny_pure (wpAny_throw ?_))
  exact hE _ _ (((Heap.SameBut.update ..).extBut.push _).push _) ⟨_, Heap.get?_push_size _ rfl, rfl⟩

theorem draws_tuple (hh : A.handled = none) (it l : Addr) (hne : l ≠ it) (items : Array Value) :
    Draws prog w A it [it, l] items.size (fun i v => items[i]? = some v) (fun i h => h.IsTupleIter it l i ∧ h.IsTuple l items) where
  live := fun _ _ st => let ⟨o, ho, _⟩ := st.1; ⟨o, ho⟩
  frame := fun _ _ _ st hk => ⟨st.1.at fun o e => hk it (by simp) o e, st.2.at fun o e => hk l (by simp) o e⟩
  item := fun i s Q E hi st hQ => by
    refine next_tuple_item st.1 st.2 (x := items[i]) (by simp [hi]) fun h' hit' hs' => ?_
    exact hQ _ h' s.toks (by simp [hi]) ⟨hit', st.2.extBut hs'.extBut hne⟩ hs'
  done := fun s Q E st hE => next_tuple_end hh st.1 st.2 (by simp) hE

set_option maxHeartbeats 1000000 in
theorem meets_enum_tuple (l : Addr) (items : Array Value) (n : Nat) (dct : Option Addr) (sl : Array (Option Value)) :
    Meets (Builtin.«enumerate.__new__» ⟨[.type "enumerate", .ref l], []⟩) (fun _ R s => s.heap.get? l = some { cls := .type "tuple", dict := dct, data := .seq items n, slots := sl } ∧
      R (.ok (.ret (.ref (s.heap.push { cls := .type "tuple_iterator", data := .fields #[.ref l, .int 0 0] }).objs.size)))
        { s with heap := (s.heap.push { cls := .type "tuple_iterator", data := .fields #[.ref l, .int 0 0] }).push { cls := .type "enumerate", data := .fields #[.none, .bool false, .ref s.heap.objs.size, rawInt 0, .none, .none] } }) :=
  .of_wp fun prog w A R s h => by
    obtain ⟨hp, g, d, tk, os⟩ := s; obtain ⟨hl, h⟩ := h
    have hsub := sub_enumerate
    have hL : Heap.IsTuple (Shared.heap ⟨hp, g, d, tk, os⟩) l items := ⟨_, hl, rfl, n, rfl⟩
    wp_walk using wpAny_loadPart' hl
    refine wpAny_stack_any fun st => wpAny_pure ?_
    split
    · rename_i c _ _ _ _ _
      cases (c == Value.type "enumerate")
      · wp_walk using wpAny_loadPart' hl, wpAny_pyIter_tuple hL
        exact ⟨_, rfl, h⟩
      · wp_walk using wpAny_loadPart' hl, wpAny_pyIter_tuple hL
        exact ⟨_, rfl, h⟩
    · wp_walk using wpAny_loadPart' hl, wpAny_pyIter_tuple hL
      exact ⟨_, rfl, h⟩

theorem call_enum_tuple {l : Addr} {items : Array Value} {Q : Value → Shared → Prop} (hL : s.heap.IsTuple l items)
    (h : ∀ h', IsEnum h' (s.heap.objs.size + 1) s.heap.objs.size 0 .none → h'.IsTupleIter s.heap.objs.size l 0 →
      (∀ b o, s.heap.get? b = some o → h'.get? b = some o) → Q (.ref (s.heap.objs.size + 1)) { s with heap := h' }) :
    wpAny (model prog w) A (call (.type "enumerate") [.ref l]) Q E s := by
  obtain ⟨⟨c, dct, dt, sl⟩, hl, hc, n, hd⟩ := hL
  replace hc : c = .type "tuple" := hc
  replace hd : dt = .seq items n := hd
  subst hc hd
  refine callType_new F.called_enumerate (by decide) (F.typeCall_enumerate_1 _) (F.newCall_enumerate_1 _) (fun obj => F.args_object_init_2 obj _) F.entry_enumerate_new
    (meets_enum_tuple l items n dct sl) ⟨hl, ?_⟩
  have hz : (s.heap.push { cls := .type "tuple_iterator", data := .fields #[.ref l, .int 0 0] }).objs.size = s.heap.objs.size + 1 := Heap.size_push ..
  have he : IsEnum ((s.heap.push { cls := .type "tuple_iterator", data := .fields #[.ref l, .int 0 0] }).push
      { cls := .type "enumerate", data := .fields #[.none, .bool false, .ref s.heap.objs.size, rawInt 0, .none, .none] }) (s.heap.objs.size + 1) s.heap.objs.size 0 .none := by
    have := Heap.get?_push_size (s.heap.push { cls := .type "tuple_iterator", data := .fields #[.ref l, .int 0 0] })
      (o := { cls := .type "enumerate", data := .fields #[.none, .bool false, .ref s.heap.objs.size, rawInt 0, .none, .none] }) rfl
    rw [hz] at this; exact this
  show _ ∧ _
  rw [hz]
  exact ⟨⟨_, he, rfl⟩, h _ he ⟨_, Heap.get?_push_of_some _ (Heap.get?_push_size _ rfl), rfl, rfl⟩ fun b o x => Heap.get?_push_of_some _ (Heap.get?_push_of_some _ x)⟩
end
end
section
-- M4
section
variable {c : Cx}

inductive ItemPost (c : Cx) (fp : List Addr) (J : Nat → Heap → Prop) (i : Nat) (s : Shared) (v : Value) (d : MV) (s₂ : Shared) : Prop
  | mk (h : Heap) (tk : Nat) (e : s₂ = { s with heap := h, toks := tk }) (vr : VR c h v d) (j : J (i + 1) h) (kp : ∀ b o, b ∉ fp → s.heap.get? b = some o → h.get? b = some o)
inductive DonePost (fp : List Addr) (s s₁ : Shared) : Prop
  | mk (h : Heap) (tk : Nat) (e : s₁ = { s with heap := h, toks := tk }) (kp : ∀ b o, b ∉ fp → s.heap.get? b = some o → h.get? b = some o)

/-- an iterator over ds -/
structure Iter (c : Cx) (tg : Expr → Prop) (it : Value) (ds : List MV) (fp : List Addr) (need : HV → Prop) (J : Nat → Heap → Prop) : Prop where
  item : ∀ n A s H i d target, tg target → Room (n + 1) A → Sh c H s.heap → need H → J i s.heap → (∀ b ∈ fp, H b = none ∧ c.B.get? b = none) → ds[i]? = some d →
    wpAny (model c.prog c.w) A (pyNext it) (fun r s₁ => ∃ v, r = some v ∧ wpAny (model c.prog c.w) A (letOwnedTupleGo target it v) (fun _ s₂ => ItemPost c fp J i s v d s₂) NoE s₁) NoE s
  done : ∀ n A s H, Room (n + 1) A → Sh c H s.heap → need H → J ds.length s.heap → (∀ b ∈ fp, H b = none ∧ c.B.get? b = none) →
    wpAny (model c.prog c.w) A (pyNext it) (fun r s₁ => r = none ∧ DonePost fp s s₁) NoE s
  self : ∀ A s i, J i s.heap → wpAny (model c.prog c.w) A (pyIter it) (fun v s₁ => v = it ∧ s₁ = s) NoE s
  frame : ∀ i h h', J i h → (∀ b ∈ fp, ∀ o, h.get? b = some o → h'.get? b = some o) → (∀ a o, h.get? a = some o → imm o ∨ c.B.get? a = some o → h'.get? a = some o) → J i h'
  live : ∀ i h, J i h → ∀ b ∈ fp, ∃ o, h.get? b = some o ∧ ¬ imm o

theorem lOTG {target : Expr} {A : Around} {s : Shared} {I : Addr} {v : Value} {o : Obj} {Q : Unit → Shared → Prop} {E : Value → Shared → Prop} (e : s.heap.get? I = some o) (h : Q () s)
    (ho : match o.cls with | .type n => ["enumerate", "zip", "dict_itemiterator", "dict_reverseitemiterator", "odict_iterator", "itertools.zip_longest", "itertools.pairwise"].contains n = false | _ => True) :
    wpAny (model c.prog c.w) A (letOwnedTupleGo target (.ref I) v) Q E s := by
  have z : wpAny (model c.prog c.w) A (do
      let (.ref r, .ref a) := (Value.ref I, v) | return
      let o ← load r
      match o.cls, o.data with
      | .type n, .fields vs =>
        if ["enumerate", "zip", "dict_itemiterator", "dict_reverseitemiterator", "odict_iterator", "itertools.zip_longest", "itertools.pairwise"].contains n && vs[0]? == some (rawInt a) then
          rule "for.unpacks-the-owned-tuple"
          updateField r 0 .none
      | _, _ => pure ()) Q E s := by
    cases v with
    | ref a =>
      dsimp only
      refine wpAny_bind (wpAny_load e ?_)
      cases hc : o.cls with
      | type n =>
        rw [hc] at ho
        cases hd : o.data with
        | fields vs => dsimp only; dsimp only at ho; rw [ho, Bool.false_and]; exact wpAny_pure h
        | _ => exact wpAny_pure h
      | _ => cases hd : o.data <;> exact wpAny_pure h
    | _ => exact wpAny_pure h
  cases target <;> first | exact z | exact wpAny_pure h

theorem imm_fields {o : Obj} {vs : Array Value} (d : o.data = .fields vs) (hc : o.cls ≠ .type "range") : ¬ imm o := by unfold imm; rw [d]; exact hc
theorem imm_fieldsT {o : Obj} {vs : Array Value} {T : String} (d : o.data = .fields vs) (hc : o.cls = .type T) (ht : (T == "range") = false := by decide) : ¬ imm o := imm_fields d (by rw [hc]; intro e; injection e with e; subst e; simp at ht)
/-- what an iterator's turn keeps -/
theorem iter_ki {H : HV} {s : Shared} {h' : Heap} {fp : List Addr} (sh : Sh c H s.heap) (off : ∀ b ∈ fp, H b = none ∧ c.B.get? b = none) (ni : ∀ b ∈ fp, ∃ o, s.heap.get? b = some o ∧ ¬ imm o)
    (k : ∀ b o, b ∉ fp → s.heap.get? b = some o → h'.get? b = some o) : ∀ a o, s.heap.get? a = some o → imm o ∨ c.B.get? a = some o → h'.get? a = some o := by
  intro a o e i
  refine k a o (fun hm => ?_) e
  obtain ⟨o', e', n'⟩ := ni a hm
  rw [e] at e'; cases e'
  rcases i with i | i
  · exact n' i
  · rw [(off a hm).2] at i; cases i
theorem tup_keep {h h' : Heap} {t : Addr} {vs : Array Value} (x : IsTup h t vs) (k : ∀ a o, h.get? a = some o → imm o ∨ c.B.get? a = some o → h'.get? a = some o) : IsTup h' t vs :=
  let ⟨o, e, hc, n, hd⟩ := x; ⟨o, k t o e (.inl (imm_tup hc hd)), hc, n, hd⟩

structure TupJ (c : Cx) (I t : Addr) (vs : List Value) (ds : List MV) (i : Nat) (h : Heap) : Prop where
  hit : h.IsTupleIter I t i
  ht : IsTup h t vs.toArray
  V : VRs c h vs ds
theorem iter_tuple {I t : Addr} {vs : List Value} {ds : List MV} :
    Iter c (fun _ => True) (.ref I) ds [I] (fun _ => True) (TupJ c I t vs ds) where
  live := fun i h J b hb => by
    rw [List.mem_singleton.mp hb]
    obtain ⟨⟨o, ho, hc, hd⟩, _⟩ := J
    exact ⟨o, ho, imm_fieldsT hd hc⟩
  item := fun n A s H i d target tgt R sh _ J off hd => by
    obtain ⟨hit, ht, V⟩ := J
    obtain ⟨v, hv, r⟩ := V.get hd
    refine wpAny_pyNext_tuple_item hit ht (x := v) (by simpa using hv) fun h' hit' hs => ⟨v, rfl, ?_⟩
    have kp : ∀ b o, b ∉ [I] → s.heap.get? b = some o → h'.get? b = some o := fun b o hb e => hs.extBut b o (by simpa using hb) e
    have ki := iter_ki sh off (fun b hb => by
      rw [List.mem_singleton.mp hb]
      obtain ⟨o, ho, hc, hd⟩ := hit
      exact ⟨o, ho, imm_fieldsT hd hc⟩) kp
    obtain ⟨o, ho, hc, hdt⟩ := hit'
    exact lOTG (o := o) ho ⟨h', s.toks, rfl, r.mono ki, ⟨⟨o, ho, hc, hdt⟩, tup_keep ht ki, V.mono ki⟩, kp⟩ (by rw [hc]; decide)
  done := fun n A s H R sh _ J off => by
    obtain ⟨hit, ht, V⟩ := J
    exact wpAny_pyNext_tuple_end R.handled hit ht (by simp [V.length]) fun h' hx => ⟨rfl, h', s.toks, rfl, fun b o hb e => hx b o (by simpa using hb) e⟩
  self := fun A s i J => wpAny_pyIter_tupleiter J.hit ⟨rfl, rfl⟩
  frame := fun i h h' J k ki => ⟨J.hit.at fun o e => k I (by simp) o e, tup_keep J.ht ki, J.V.mono ki⟩

theorem iter_list {I l : Addr} {ds : List MV} :
    Iter c (fun _ => True) (.ref I) ds [I] (fun H => H l = some (.list ds)) (fun i h => h.IsListIter I l i) where
  live := fun i h J b hb => by
    rw [List.mem_singleton.mp hb]
    obtain ⟨o, ho, hc, hd⟩ := J
    exact ⟨o, ho, imm_fieldsT hd hc⟩
  item := fun n A s H i d target tgt R sh nd J off hd => by
    have hit := J
    cases sh.rel l _ nd with
    | list hl V =>
      obtain ⟨v, hv, r⟩ := V.get hd
      obtain ⟨k, hl⟩ := hl
      refine wpAny_pyNext_list_item hit ⟨_, hl, rfl, k, rfl⟩ (x := v) (by simpa using hv) fun h' hit' hs => ⟨v, rfl, ?_⟩
      have kp : ∀ b o, b ∉ [I] → s.heap.get? b = some o → h'.get? b = some o := fun b o hb e => hs.extBut b o (by simpa using hb) e
      have ki := iter_ki sh off (fun b hb => by
        rw [List.mem_singleton.mp hb]
        obtain ⟨o, ho, hc, hd⟩ := hit
        exact ⟨o, ho, imm_fieldsT hd hc⟩) kp
      obtain ⟨o, ho, hc, hdt⟩ := hit'
      exact lOTG (o := o) ho ⟨h', s.toks, rfl, r.mono ki, ⟨o, ho, hc, hdt⟩, kp⟩ (by rw [hc]; decide)
  done := fun n A s H R sh nd J off => by
    cases sh.rel l _ nd with
    | list hl V =>
      obtain ⟨k, hl⟩ := hl
      exact wpAny_pyNext_list_end R.handled J ⟨_, hl, rfl, k, rfl⟩ (by simp [V.length]) fun h' hx => ⟨rfl, h', s.toks, rfl, fun b o hb e => hx b o (by simpa using hb) e⟩
  self := fun A s i J => wpAny_pyIter_listiter J ⟨rfl, rfl⟩
  frame := fun i h h' J k ki => J.at fun o e => k I (by simp) o e

noncomputable def rngM (a : Int) (k : Nat) : List MV := (List.range k).map fun (i : Nat) => MV.int (a + (i : Int))
theorem rngM_get {a : Int} {k i : Nat} {d : MV} (h : (rngM a k)[i]? = some d) : i < k ∧ d = .int (a + (i : Int)) := by
  unfold rngM at h
  rw [List.getElem?_map] at h
  by_cases q : i < k
  · rw [List.getElem?_range q] at h; simp at h; exact ⟨q, h.symm⟩
  · rw [List.getElem?_eq_none (by simpa using q)] at h; simp at h
theorem rngM_length {a : Int} {k : Nat} : (rngM a k).length = k := by simp [rngM]
theorem iter_range {I : Addr} {a : Int} {k : Nat} :
    Iter c (fun _ => True) (.ref I) (rngM a k) [I] (fun _ => True) (fun i h => IsRangeIter h I (a + (i : Int)) ((k : Int) - (i : Int)) 1) where
  live := fun i h J b hb => by
    rw [List.mem_singleton.mp hb]
    exact ⟨_, J, imm_fieldsT rfl rfl⟩
  item := fun n A s H i d target tgt R sh nd J off hd => by
    obtain ⟨hi, rfl⟩ := rngM_get hd
    refine wpAny_pyNext_range_item J (by first | lia | omega) fun h' hit' hs => ⟨_, rfl, ?_⟩
    have kp : ∀ b o, b ∉ [I] → s.heap.get? b = some o → h'.get? b = some o := fun b o hb e => hs.extBut b o (by simpa using hb) e
    refine lOTG (o := _) hit' ⟨h', _, rfl, .int _ _, ?_, kp⟩ (by show (List.contains _ "range_iterator") = false; decide)
    show IsRangeIter h' I (a + ((i + 1 : Nat) : Int)) ((k : Int) - ((i + 1 : Nat) : Int)) 1
    have e1 : a + ((i + 1 : Nat) : Int) = a + (i : Int) + 1 := by first | lia | omega
    have e2 : (k : Int) - ((i + 1 : Nat) : Int) = (k : Int) - (i : Int) - 1 := by first | lia | omega
    rw [e1, e2]; exact hit'
  done := fun n A s H R sh nd J off => by
    rw [rngM_length] at J
    exact wpAny_pyNext_range_end R.handled J (by first | lia | omega) fun h' hx => ⟨rfl, h', s.toks, rfl, fun b o hb e => hx b o (by simpa using hb) e⟩
  self := fun A s i J => wpAny_pyIter_rangeiter J ⟨rfl, rfl⟩
  frame := fun i h h' J k ki => k I (by simp) _ J

/-- the pairs of a count and an item -/
noncomputable def enumL (ds : List MV) : List MV := ds.mapIdx fun i d => MV.tup [.int (i : Int), d]
theorem enumL_get {ds : List MV} {i : Nat} {d : MV} (h : (enumL ds)[i]? = some d) : ∃ e, ds[i]? = some e ∧ d = .tup [.int (i : Int), e] := by
  unfold enumL at h
  rw [List.getElem?_mapIdx] at h
  cases q : ds[i]? with
  | none => rw [q] at h; cases h
  | some e => rw [q] at h; simp at h; exact ⟨e, rfl, h.symm⟩
theorem enumL_length {ds : List MV} : (enumL ds).length = ds.length := by simp [enumL]

inductive EnJ (c : Cx) (e I t : Addr) (vs : List Value) (ds : List MV) (i : Nat) (h : Heap) : Prop
  | mk (old : Value) (he : IsEnum h e I (i : Int) old) (hit : h.IsTupleIter I t i) (ht : IsTup h t vs.toArray) (V : VRs c h vs ds)
theorem iter_enum {e I t : Addr} {vs : List Value} {ds : List MV} (hei : e ≠ I) :
    Iter c (fun t => ∃ es k p, t = .Tuple es k p) (.ref e) (enumL ds) [e, I] (fun _ => True) (EnJ c e I t vs ds) where
  live := fun i h J b hb => by
    obtain ⟨old, he, ⟨o, ho, hc, hd⟩, _⟩ := J
    rcases List.mem_cons.mp hb with rfl | hb
    · exact ⟨_, he, imm_fieldsT rfl rfl⟩
    · rw [List.mem_singleton.mp hb]; exact ⟨o, ho, imm_fieldsT hd hc⟩
  item := fun n A s H i d target tgt R sh _ J off hd => by
    obtain ⟨old, he, hit, ht, V⟩ := J
    obtain ⟨d, hd', rfl⟩ := enumL_get hd
    obtain ⟨v, hv, r⟩ := V.get hd'
    have ne1 : t ≠ e := by
      rintro rfl
      obtain ⟨o, ho, hc, _⟩ := ht
      rw [he] at ho; cases ho; simp at hc
    have ne2 : t ≠ I := by
      rintro rfl
      obtain ⟨o, ho, hc, _⟩ := ht
      obtain ⟨o', ho', hc', _⟩ := hit
      rw [ho'] at ho; cases ho; rw [hc'] at hc; simp at hc
    have hlt : i < vs.toArray.size := by
      have := (List.getElem?_eq_some_iff.mp hv).1
      simpa using this
    refine wpAny_pyNext_enum_itemD (draws_tuple (A := A.in1) R.handled I t ne2 vs.toArray) he ⟨hit, ht⟩ hlt hei (by simp [hei, Ne.symm ne1]) fun x h' tk hP ho hst hT hsz hk => ⟨_, rfl, ?_⟩
    have hx : x = v := by
      have : vs[i]? = some x := by simpa using hP
      rw [hv] at this; exact (Option.some.inj this).symm
    subst hx
    have kp : ∀ b o, b ∉ [e, I] → s.heap.get? b = some o → h'.get? b = some o := fun b o hb q => hk b o (fun z => hb (by simp [z])) (fun z => hb (by simp [z])) q
    have ni : ∀ b ∈ [e, I], ∃ o, s.heap.get? b = some o ∧ ¬ imm o := fun b hb => by
      obtain ⟨o, ho, hc, hd⟩ := hit
      rcases List.mem_cons.mp hb with rfl | hb
      · exact ⟨_, he, imm_fieldsT rfl rfl⟩
      · rw [List.mem_singleton.mp hb]; exact ⟨o, ho, imm_fieldsT hd hc⟩
    have ki := iter_ki sh off ni kp
    have helt : e < s.heap.objs.size := Heap.lt_size he
    have fin : ∀ h'' : Heap, Heap.SameBut e h' h'' → IsEnum h'' e I (((i + 1 : Nat) : Int)) x → ItemPost c [e, I] (EnJ c e I t vs ds) i s (.ref s.heap.objs.size) (.tup [.int (i : Int), d]) { s with heap := h'', toks := tk + 1 } := by
      intro h'' hs'' he''
      have ki2 : ∀ a o, s.heap.get? a = some o → imm o ∨ c.B.get? a = some o → h''.get? a = some o := fun a o q z => by
        refine hs''.extBut a o ?_ (ki a o q z)
        rintro rfl
        rw [he] at q; cases q
        rcases z with z | z
        · exact (imm_fieldsT rfl rfl : ¬ imm _) z
        · rw [(off a (by simp)).2] at z; cases z
      refine ⟨h'', tk + 1, rfl, ?_, ⟨x, he'', hst.1.extBut hs''.extBut (Ne.symm hei), tup_keep ht ki2, V.mono ki2⟩, fun b o hb q => hs''.extBut b o (fun z => hb (by simp [z])) (kp b o hb q)⟩
      refine .tup (vs := [.int i tk, x]) ⟨_, hs''.extBut _ _ (Nat.ne_of_gt helt) hT, rfl, 0, rfl⟩ (.cons (.int _ _) (.cons (r.mono ki2) .nil))
    obtain ⟨elts, k, pos, rfl⟩ := tgt
    exact wpAny_letOwnedTupleGo_enum (item := x) ho fun h'' he'' hs'' => fin h'' hs'' (by simpa using he'')
  done := fun n A s H R sh _ J off => by
    obtain ⟨old, he, hit, ht, V⟩ := J
    rw [enumL_length] at hit
    have ne2 : t ≠ I := by
      rintro rfl
      obtain ⟨o, ho, hc, _⟩ := ht
      obtain ⟨o', ho', hc', _⟩ := hit
      rw [ho'] at ho; cases ho; rw [hc'] at hc; simp at hc
    refine wpAny_pyNext_enum_endD (draws_tuple (A := A.in1) R.handled I t ne2 vs.toArray) he ⟨by simpa [V.length] using hit, ht⟩ fun h' hx => ⟨rfl, h', s.toks, rfl, fun b o hb q => hx b o (fun z => hb (by simp [z])) q⟩
  self := fun A s i J => by obtain ⟨old, he, _⟩ := J; exact wpAny_pyIter_enum he ⟨rfl, rfl⟩
  frame := fun i h h' J k ki => by
    obtain ⟨old, he, hit, ht, V⟩ := J
    exact ⟨old, k e (by simp) _ he, hit.at fun o q => k I (by simp) o q, tup_keep ht ki, V.mono ki⟩
end
end
section
-- M5
section
variable {c : Cx} {n : Nat} {env : Env} {m : Loc} {H : HV}

/-- where a loop's items come from -/
inductive ItSrc (H : HV) : MV → List MV → (HV → Prop) → Prop
  | tup {ds} : ItSrc H (.tup ds) ds (fun _ => True)
  | list {l ds} : H l = some (.list ds) → ItSrc H (.ref l) ds (fun H => H l = some (.list ds))
  | rng {a b : Int} {k : Nat} : b = a + (k : Int) → -(2 ^ 62) < a → b < 2 ^ 62 → ItSrc H (.rng a b) (rngM a k) (fun _ => True)

inductive WIp (c : Cx) (tg : Expr → Prop) (H : HV) (s : Shared) (K : List MV → (HV → Prop) → HV → Prop) (it : Value) (s₂ : Shared) : Prop
  | mk (ds : List MV) (fp : List Addr) (need : HV → Prop) (J : Nat → Heap → Prop) (H₂ : HV) (I : Iter c tg it ds fp need J) (j : J 0 s₂.heap) (fr : ∀ b ∈ fp, s.heap.get? b = none) (sh : Sh c H₂ s₂.heap) (st : Stp nw H H₂ s s₂) (off : ∀ b ∈ fp, H₂ b = none ∧ c.B.get? b = none) (nd : need H₂) (k : K ds need H₂)
noncomputable def WI (c : Cx) (n : Nat) (env : Env) (tg : Expr → Prop) (e : Expr) (m : Loc) (H : HV) (K : List MV → (HV → Prop) → HV → Prop) : Prop :=
  ∀ A s, Room (n + 1) A → St c env m H s → wpAny (model c.prog c.w) A (eval e env) (fun x s₁ => wpAny (model c.prog c.w) A (pyIter x) (WIp c tg H s K) NoE s₁) NoE s

theorem fresh_of {H H₁ : HV} {s s₁ : Shared} {b : Addr} (st : Stp nw H H₁ s s₁) (e : s₁.heap.get? b = none) : s.heap.get? b = none := by
  cases q : s.heap.get? b with
  | none => rfl
  | some o => obtain ⟨o', e'⟩ := st.live b o q id; rw [e] at e'; cases e'
theorem newB {h : Heap} (sh : Sh c H h) {b : Addr} (e : h.get? b = none) : c.B.get? b = none := by
  cases q : c.B.get? b with
  | none => rfl
  | some o => rw [sh.base b o q] at e; cases e

theorem iter_push {H H₁ : HV} {s s₁ : Shared} {tg : Expr → Prop} {ds : List MV} {need : HV → Prop} {J : Nat → Heap → Prop} {K : List MV → (HV → Prop) → HV → Prop} {ob : Obj}
    (sh : Sh c H₁ s₁.heap) (st : Stp nw H H₁ s s₁) (it : Iter c tg (.ref s₁.heap.objs.size) ds [s₁.heap.objs.size] need J) (j : J 0 (s₁.heap.push ob)) (nd : need H₁) (k : K ds need H₁) :
    WIp c tg H s K (.ref s₁.heap.objs.size) { s₁ with heap := s₁.heap.push ob } := by
  have kp : ∀ a o, s₁.heap.get? a = some o → (s₁.heap.push ob).get? a = some o := fun a o e => Heap.get?_push_of_some _ e
  refine ⟨ds, _, need, J, H₁, it, j, fun b hb => ?_, sh.ext kp, st.trans (Stp.ext (tk := s₁.toks) kp), fun b hb => ?_, nd, k⟩
  · rw [List.mem_singleton.mp hb]; exact fresh_of st get_size
  · rw [List.mem_singleton.mp hb]; exact ⟨sh.fresh get_size, newB sh get_size⟩

theorem range_small {a b : Int} (h1 : -(2 ^ 62) < a) (h2 : b < 2 ^ 62) (k : Nat) (e : b = a + (k : Int)) : Builtin.Range.small a b 1 = true ∧ Builtin.Range.rangeSize a b 1 = (k : Int) := by
  have hs : Builtin.Range.rangeSize a b 1 = (k : Int) := by
    rw [rangeSize_nat]; first | lia | omega
  refine ⟨?_, hs⟩
  unfold Builtin.Range.small
  rw [hs]
  unfold Builtin.Range.rangeFitsLong
  simp only [Bool.and_eq_true, Bool.or_eq_true, decide_eq_true_eq]
  refine ⟨⟨⟨⟨?_, ?_⟩, ?_⟩, ?_⟩, .inr ?_⟩
  · first | lia | omega
  · first | lia | omega
  · first | lia | omega
  · first | lia | omega
  · rw [if_pos (by decide)]; simp only [Bool.and_eq_true, decide_eq_true_eq]; first | lia | omega

theorem WI_of {e : Expr} {K : List MV → (HV → Prop) → HV → Prop} (h : WE c n env e m H fun d H₁ => ∃ ds need, ItSrc H₁ d ds need ∧ K ds need H₁) : WI c n env (fun _ => True) e m H K := by
  intro A s R S
  refine mono1 (h A s (R.mono (Nat.le_succ n)) S) ?_
  rintro v s₁ ⟨d, H₁, sh₁, vr₁, st₁, ds, need, src, k⟩
  cases src with
  | tup =>
    obtain ⟨a, vs, rfl, ht, V⟩ := vr₁.isTup
    · skip
      have kp : ∀ a o, s₁.heap.get? a = some o → (s₁.heap.push { cls := .type "tuple_iterator", data := .fields #[.ref a, .int 0 0] }).get? a = some o := fun a o e => Heap.get?_push_of_some _ e
      refine wpAny_pyIter_tuple ht ?_
      exact iter_push sh₁ st₁ iter_tuple ⟨⟨_, Heap.get?_push_size _ rfl, rfl, rfl⟩, tup_keep (c := c) ht fun a o e _ => Heap.get?_push_of_some _ e, V.mono fun a o e _ => Heap.get?_push_of_some _ e⟩ trivial k
  | list hl =>
    obtain rfl := vr₁.isRef
    · skip
      obtain ⟨_, hp, V⟩ := (sh₁.rel _ _ hl).isList
      · skip
        obtain ⟨q, hp⟩ := hp
        refine wpAny_pyIter_list ⟨_, hp, rfl, q, rfl⟩ ?_
        exact iter_push sh₁ st₁ iter_list ⟨_, Heap.get?_push_size _ rfl, rfl, rfl⟩ hl k
  | @rng a b kk e h1 h2 =>
    obtain ⟨_, _, _, _, rfl, hr⟩ := vr₁.isRng
    · skip
      obtain ⟨z1, z2⟩ := range_small h1 h2 kk e
      refine wpAny_pyIter_range hr z1 ?_
      rw [z2]
      refine iter_push sh₁ st₁ iter_range ?_ trivial k
      show IsRangeIter _ _ (a + ((0 : Nat) : Int)) ((kk : Int) - ((0 : Nat) : Int)) 1
      have e1 : a + ((0 : Nat) : Int) = a := by first | lia | omega
      have e2 : (kk : Int) - ((0 : Nat) : Int) = kk := by first | lia | omega
      rw [e1, e2]
      exact Heap.get?_push_size _ rfl

/-- a loop, item by item -/
noncomputable def WFor (c : Cx) (n : Nat) (env : Env) (t : Expr) (body : List Stmt) (need : HV → Prop) : List MV → Loc → HV → (FM → Loc → HV → Prop) → Prop
  | [], m, H, K => K .next m H
  | d :: ds, m, H, K => WA c n env (tn 3 t) t d m H fun m₂ H₂ => WXs c n env body m₂ H₂ fun f m₃ H₃ => match f with
    | .next => need H₃ ∧ WFor c n env t body need ds m₃ H₃ K
    | .cont => need H₃ ∧ WFor c n env t body need ds m₃ H₃ K
    | .brk => K .next m₃ H₃
    | .ret d => K (.ret d) m₃ H₃

theorem not_own {s : Shared} (S : St c env m H s) {b : Addr} (e : s.heap.get? b = none) : ¬ ownA env b := by
  rintro (rfl | ⟨x, hk, ha⟩)
  · obtain ⟨mm, ⟨o, es, ep, ho, _⟩, _⟩ := S.fr.mm
    rw [e] at ho; cases ho
  · obtain ⟨v, o, ho, _⟩ := S.fr.ex x b ha
    rw [e] at ho; cases ho

/-- an iterator's turn leaves the frame -/
theorem St.iter {fp : List Addr} {s : Shared} {h : Heap} {tk : Nat} (S : St c env m H s) (off : ∀ b ∈ fp, H b = none ∧ c.B.get? b = none) (ni : ∀ b ∈ fp, ∃ o, s.heap.get? b = some o ∧ ¬ imm o) (no : ∀ b ∈ fp, b ≠ env.locals ∧ ∀ x, env.cells.lookup x ≠ some b)
    (k : ∀ b o, b ∉ fp → s.heap.get? b = some o → h.get? b = some o) : St c env m H { s with heap := h, toks := tk } ∧ Stp (fun a => a ∈ fp) H H s { s with heap := h, toks := tk } := by
  have ki := iter_ki S.sh off ni k
  obtain ⟨mm, F, hm⟩ := S.fr.mm
  refine ⟨⟨⟨fun a o e => ki a o (S.sh.base a o e) (.inr e), S.sh.new, fun a o e => (S.sh.rel a o e).mono (fun ob eo => k a ob (fun q => by rw [(off a q).1] at e; cases e) eo) ki⟩, ⟨mm, ?_, fun x d a e => ?_⟩, fun x d a e => ?_, fun x a e => ?_, S.fr.has, S.fr.apart, S.fr.lH, S.fr.cH, S.fr.newL, S.fr.newC⟩, ⟨⟨h, tk, rfl⟩, fun a o e _ w => k a o w e, fun a e o e' => (by rw [e] at e'; cases e'), fun a o e w => ⟨o, k a o w e⟩⟩⟩
  · obtain ⟨o, es, ep, ho, r⟩ := F
    exact ⟨o, es, ep, k _ _ (fun q => (no _ q).1 rfl) ho, r⟩
  · obtain ⟨v, e1, e2⟩ := hm x d a e
    exact ⟨v, e1, e2.mono ki⟩
  · obtain ⟨b, v, e1, e2, e3⟩ := S.fr.cl x d a e
    exact ⟨b, v, e1, IsCell.keep e2 fun o eo => k b o (fun q => (no b q).2 x e1) eo, e3.mono ki⟩
  · obtain ⟨v, e2⟩ := S.fr.ex x a e
    exact ⟨v, IsCell.keep e2 fun o eo => k a o (fun q => (no a q).2 x e) eo⟩

theorem nofp {s s₂ : Shared} {H₂ : HV} {fp : List Addr} (S : St c env m H s) (fr : ∀ b ∈ fp, s.heap.get? b = none) : ∀ b ∈ fp, b ≠ env.locals ∧ ∀ x, env.cells.lookup x ≠ some b := by
  intro b hb
  refine ⟨?_, fun x e => ?_⟩
  · rintro rfl
    obtain ⟨mm, ⟨o, es, ep, ho, _⟩, _⟩ := S.fr.mm
    rw [fr _ hb] at ho; cases ho
  · obtain ⟨v, o, ho, _⟩ := S.fr.ex x b e
    rw [fr _ hb] at ho; cases ho

inductive ForI (c : Cx) (n : Nat) (env : Env) (t : Expr) (body : List Stmt) (ds : List MV) (fp : List Addr) (need : HV → Prop) (J : Nat → Heap → Prop) (H₀ : HV) (s₀ : Shared) (K : FM → Loc → HV → Prop) (k : Nat) (s' : Shared) : Prop
  | mk (i : Nat) (m' : Loc) (H' : HV) (e : k = ds.length + 1 - i) (hi : i ≤ ds.length) (S : St c env m' H' s') (j : J i s'.heap) (nd : need H') (off : ∀ b ∈ fp, H' b = none ∧ c.B.get? b = none) (st : Stp (fun a => ownA env a ∨ a ∈ fp) H₀ H' s₀ s') (h : WFor c n env t body need (ds.drop i) m' H' K)
theorem for_run {tg : Expr → Prop} {it : Value} {ds : List MV} {fp : List Addr} {need : HV → Prop} {J : Nat → Heap → Prop} {t : Expr} {body : List Stmt} {K : FM → Loc → HV → Prop} {A : Around} {s₀ s : Shared} {H₀ : HV}
    (I : Iter c tg it ds fp need J) (ht : tg t) (R : Room (n + 1) A) (S : St c env m H s) (j : J 0 s.heap) (nd : need H) (off : ∀ b ∈ fp, H b = none ∧ c.B.get? b = none)
    (fr : ∀ b ∈ fp, s₀.heap.get? b = none) (no : ∀ b ∈ fp, b ≠ env.locals ∧ ∀ x, env.cells.lookup x ≠ some b) (st : Stp (ownA env) H₀ H s₀ s) (h : WFor c n env t body need ds m H K) :
    codeAny (model c.prog c.w) A (.forLoop t it body [] env) (fun r s' => match r with | .ok f => PostS c env (ownA env) H₀ s₀ K f s' | .error e => False) s := by
  have nO : ∀ b ∈ fp, ¬ ownA env b := fun b hb z => z.elim (fun q => (no b hb).1 q) fun ⟨x, _, e⟩ => (no b hb).2 x e
  refine codeAny_forLoop_any (ForI c n env t body ds fp need J H₀ s₀ K) ?_ (ds.length + 1)
    ⟨0, m, H, rfl, Nat.zero_le _, S, j, nd, off, st.weaker fun a => .inl, h⟩
  rintro k s' ⟨i, m', H', rfl, hi, S', j', nd', off', st', h'⟩
  have toO : ∀ {H₂ : HV} {s₂ : Shared}, Stp (fun a => ownA env a ∨ a ∈ fp) H₀ H₂ s₀ s₂ → Stp (ownA env) H₀ H₂ s₀ s₂ := fun x => x.weak fun a z => z.elim .inl fun q => .inr (fr a q)
  cases hd : ds[i]? with
  | none =>
    have hl : i = ds.length := by
      have := List.getElem?_eq_none_iff.mp hd
      first | lia | omega
    subst hl
    refine mono0 (I.done n A s' H' R S'.sh nd' j' off') ?_
    rintro r s₁ ⟨rfl, hh, tk, rfl, kp⟩
    obtain ⟨S₁, st₁⟩ := S'.iter (tk := tk) off' (I.live _ _ j') no kp
    rw [List.drop_length] at h'
    exact wpAny_execs_nil ⟨m', H', S₁, toO (st'.trans (st₁.weaker fun a => .inr)), h'⟩
  | some d =>
    have hlt : i < ds.length := (List.getElem?_eq_some_iff.mp hd).1
    refine mono0 (I.item n A s' H' i d t ht R S'.sh nd' j' off' hd) ?_
    rintro r s₁ ⟨v, rfl, hg⟩
    refine mono0 hg ?_
    rintro _ s₂ ⟨hh, tk, rfl, vr, j₂, kp⟩
    obtain ⟨S₂, st₂⟩ := S'.iter (tk := tk) off' (I.live _ _ j') no kp
    have hdr : ds.drop i = d :: ds.drop (i + 1) := by
      rw [List.drop_eq_getElem_cons hlt]
      congr 1
      rw [List.getElem?_eq_getElem hlt] at hd
      exact Option.some.inj hd
    rw [hdr] at h'
    refine mono0 (h' A _ v (R.mono (Nat.le_succ n)) S₂ vr) ?_
    rintro _ s₃ ⟨m₃, H₃, S₃, st₃, k₃⟩
    refine mono0 (k₃ A s₃ (R.mono (Nat.le_succ n)) S₃) ?_
    rintro f s₄ ⟨m₄, H₄, S₄, st₄, k₄⟩
    have stA : Stp (ownA env) H' H₄ { s' with heap := hh, toks := tk } s₄ := (st₃.weaker fun a => own_A).trans st₄
    have j₄ : J (i + 1) s₄.heap := I.frame _ _ _ j₂ (fun b hb o e => stA.keep b o e (off' b hb).1 (nO b hb)) (stA.imm S₂.sh (fun a o w => by
      rcases w with rfl | ⟨x, hk, ha⟩
      · exact S₂.ownNot (xs := []) _ _ (.inl rfl)
      · exact S₂.ownNot (xs := [x]) _ _ (.inr ⟨x, by simp, hk, ha⟩)))
    have off₄ : ∀ b ∈ fp, H₄ b = none ∧ c.B.get? b = none := fun b hb => by
      refine ⟨?_, (off' b hb).2⟩
      cases q : H₄ b with
      | none => rfl
      | some mo =>
        obtain ⟨o, eo, _⟩ := I.live _ _ j₂ b hb
        rcases stA.fresh b (off' b hb).1 mo q with z | z
        · rw [eo] at z; cases z
        · exact absurd z (nO b hb)
    have st' := (st'.trans (st₂.weaker fun a => .inr)).trans (stA.weaker fun a => .inl)
    cases f with
    | next => exact ⟨ds.length + 1 - (i + 1), by first | lia | omega, i + 1, m₄, H₄, rfl, hlt, S₄, j₄, k₄.1, off₄, st', k₄.2⟩
    | cont => exact ⟨ds.length + 1 - (i + 1), by first | lia | omega, i + 1, m₄, H₄, rfl, hlt, S₄, j₄, k₄.1, off₄, st', k₄.2⟩
    | brk => exact ⟨m₄, H₄, S₄, toO st', k₄⟩
    | ret u => obtain ⟨d', r', k₄⟩ := k₄; exact ⟨m₄, H₄, S₄, toO st', d', r', k₄⟩

theorem WX_For {tg : Expr → Prop} {t e : Expr} {body : List Stmt} {pos : Pos} {K : FM → Loc → HV → Prop} (h : WI c n env tg e m H fun ds need H₁ => WFor c n env t body need ds m H₁ K) (ht : tg t)
    (hs : ∀ x, foldedSetIterable e env x = pure x := by intro _; rfl) : WX c (n + 1) env (.For t e body [] pos) m H K := by
  intro A s R S
  refine wpAny_For (mono0 (h A s R S) ?_) hs
  intro x s₁ h₁
  refine mono0 h₁ ?_
  rintro it s₂ ⟨ds, fp, need, J, H₂, I, j, fr, sh₂, st₂, off, nd, k⟩
  refine codeAny_mono (for_run I ht R (S.step st₂ sh₂) j nd off fr (nofp (s₂ := s₂) (H₂ := H₂) S fr) st₂.toOwn k) ?_
  rintro (e | f) s' z
  · exact z.elim
  · exact z

/-- a while loop, k turns at most -/
noncomputable def WWh (c : Cx) (n : Nat) (env : Env) (t : Expr) (body : List Stmt) : Nat → Loc → HV → (FM → Loc → HV → Prop) → Prop
  | 0, _, _, _ => False
  | k + 1, m, H, K => WB c n env t m H fun b H₁ => if b then WXs c n env body m H₁ fun f m₂ H₂ => match f with
      | .next => WWh c n env t body k m₂ H₂ K
      | .cont => WWh c n env t body k m₂ H₂ K
      | .brk => K .next m₂ H₂
      | .ret d => K (.ret d) m₂ H₂
    else K .next m H₁
inductive WhI (c : Cx) (n : Nat) (env : Env) (t : Expr) (body : List Stmt) (H : HV) (s : Shared) (K : FM → Loc → HV → Prop) (k : Nat) (s' : Shared) : Prop
  | mk (m' : Loc) (H' : HV) (S : St c env m' H' s') (st : Stp (ownA env) H H' s s') (h : WWh c n env t body k m' H' K)
theorem WX_While {t : Expr} {body : List Stmt} {pos : Pos} {K : FM → Loc → HV → Prop} (k : Nat) (h : WWh c n env t body k m H K) : WX c n env (.While t body [] pos) m H K := by
  intro A s R S
  refine wpAny_While (codeAny_mono (R := fun r s' => match r with | .ok f => PostS c env (ownA env) H s K f s' | .error e => False) (codeAny_whileLoop (WhI c n env t body H s K) ?_ k ⟨m, H, S, Stp.refl, h⟩) ?_)
  · rintro k s' ⟨m', H', S', st', h'⟩
    cases k with
    | zero => exact h'.elim
    | succ k =>
      refine mono0 (h' A s' R S') ?_
      rintro b s₁ ⟨H₁, sh₁, st₁, k₁⟩
      cases b with
      | false => exact wpAny_execs_nil ⟨m', H₁, S'.step st₁ sh₁, st'.trans st₁.toOwn, k₁⟩
      | true =>
        refine mono0 (k₁ A s₁ R (S'.step st₁ sh₁)) ?_
        rintro f s₂ ⟨m₂, H₂, S₂, st₂, k₂⟩
        have st := st'.trans (st₁.toOwn.trans st₂)
        cases f with
        | next => exact ⟨k, Nat.lt_succ_self k, m₂, H₂, S₂, st, k₂⟩
        | cont => exact ⟨k, Nat.lt_succ_self k, m₂, H₂, S₂, st, k₂⟩
        | brk => exact ⟨m₂, H₂, S₂, st, k₂⟩
        | ret u => obtain ⟨d, r, k₂⟩ := k₂; exact ⟨m₂, H₂, S₂, st, d, r, k₂⟩
  · rintro (e | f) s' z
    · exact z.elim
    · exact z

-- calls
noncomputable def Kp (c : Cx) (f : Value) : Prop := ∀ h : Heap, (∀ a o, c.B.get? a = some o → h.get? a = some o) → ∃ k, (k = Keeper.frame ∨ k = Keeper.machine ∨ k = Keeper.boundFrame) ∧ Looks (model c.prog c.w) h (keeperOf f) k
theorem Kp.builtin {id : String} : Kp c (.builtin id) := fun h _ => ⟨.machine, .inr (.inl rfl), Looks.of_pure rfl⟩
theorem Kp.type {T : String} : Kp c (.type T) := fun h _ => ⟨.machine, .inr (.inl rfl), Looks.of_pure rfl⟩
theorem Kp.fn (O : c.Ok) {f : Value} (h : keepIn c.K f = true) : Kp c f := fun hh k => keeps_K h hh (O.kin.keeps k)

theorem evalArgs_all {A : Around} {s : Shared} {E : Value → Shared → Prop} {f : Value} {l : List (Bool × Sem Value)} {Q : Args → Shared → Prop} (hl : l.any (·.1) = false) (h : wpAny (model c.prog c.w) A (spliced l) (fun vs s' => Q ⟨vs, []⟩ s') E s) : wpAny (model c.prog c.w) A (evalArgs f true l []) Q E s := by
  cases l with
  | nil =>
    unfold evalArgs
    show wpAny _ A (spliced [] >>= _) Q E s
    refine wpAny_bind (mono1 h (fun vs s' h' => ?_))
    refine wpAny_bind (wpAny_pure (wpAny_holding ?_))
    exact wpAny_bind (wpAny_pure (wpAny_bind (wpAny_pure (wpAny_pure h'))))
  | cons x r =>
    obtain ⟨b, x⟩ := x
    rw [List.any_cons, Bool.or_eq_false_iff] at hl
    obtain ⟨rfl, hr⟩ := hl
    exact evalArgs_plain h

theorem wp_callWith {A : Around} {s : Shared} {f : Value} {first : List Value} {pos : Pos} {es : List Expr} {Q : Value → Shared → Prop} {E : Value → Shared → Prop} (hk : Kp c f) (hst : (backTo pos (starEach es env)).any (·.1) = false)
    (h : wpAny (model c.prog c.w) A (spliced (backTo pos (starEach es env))) (fun vs s₁ => (∀ a o, c.B.get? a = some o → s₁.heap.get? a = some o) ∧ wpAny (model c.prog c.w) A (call f (first ++ vs)) Q E s₁) E s) :
    wpAny (model c.prog c.w) A (callWith pos f first (backTo pos (starEach es env)) []) Q E s :=
  callWith_of (P := fun h => ∀ a o, c.B.get? a = some o → h.get? a = some o) (by rw [hst]; rfl) hk (evalArgs_all hst h)

theorem WE_Call {f : Expr} {es : List Expr} {pos : Pos} {K : MV → HV → Prop} (h : WE c n env f m H fun d H₁ => ∃ v, d = .val v ∧ Kp c v ∧ WEs c n env pos es m H₁ fun ds H₂ => WC c n v ds H₂ K)
    (hst : (backTo pos (starEach es env)).any (·.1) = false := by rfl)
    (he : eval (.Call f es [] pos) env = (do callWith pos (← eval f env) [] (backTo pos (starEach es env)) (backToKw pos (keywordEach [] env))) := by rfl) : WE c n env (.Call f es [] pos) m H K := by
  intro A s R S
  refine Call_ (mono0 (h A s R S) ?_) he
  rintro fv s₁ ⟨d, H₁, sh₁, vr₁, st₁, v, rfl, hk, k₁⟩
  obtain rfl := vr₁.isVal
  refine wp_callWith hk hst (mono0 (k₁ A s₁ R (S.step st₁ sh₁)) ?_)
  rintro vs s₂ ⟨ds, H₂, sh₂, vr₂, st₂, k₂⟩
  exact ⟨sh₂.base, mono1 (k₂ A s₂ vs R sh₂ vr₂) (fun _ _ q => (q.after st₂).after st₁)⟩

/-- a method found on a value -/
noncomputable def GM (c : Cx) (n : Nat) (name : Str) (d : MV) (H : HV) (K : Value → List MV → Prop) : Prop :=
  ∀ A s v pl, Room n A → Sh c H s.heap → VR c s.heap v d → wpAny (model c.prog c.w) A (getMethod v name pl) (fun fx s' => s' = s ∧ ∃ fst, VRs c s.heap fx.2 fst ∧ K fx.1 fst) NoE s
theorem WE_Method {o : Expr} {name : Str} {apos pos : Pos} {es : List Expr} {pl : Sem Bool} {K : MV → HV → Prop} (h : WE c n env o m H fun d H₁ => GM c n name d H₁ fun f fst => Kp c f ∧ WEs c n env pos es m H₁ fun ds H₂ => WC c n f (fst ++ ds) H₂ K)
    (hst : (backTo pos (starEach es env)).any (·.1) = false := by rfl)
    (he : eval (.Call (.Attribute o name apos) es [] pos) env = (do
      let ov ← eval o env
      standAt apos.atName
      let (f, first) ← holding [ov] (getMethod ov name pl)
      callWith pos f first (backTo pos (starEach es env)) []) := by rfl) : WE c n env (.Call (.Attribute o name apos) es [] pos) m H K := by
  intro A s R S
  refine MethodCall_ (pl := pl) (mono0 (h A s R S) ?_) he
  rintro ov s₁ ⟨d, H₁, sh₁, vr₁, st₁, k₁⟩
  refine mono0 (k₁ A s₁ ov pl R sh₁ vr₁) ?_
  rintro ⟨f, first⟩ s₁' ⟨rfl, fst, V, hk, k₁⟩
  refine wp_callWith hk hst (mono0 (k₁ A s₁' R (S.step st₁ sh₁)) ?_)
  rintro vs s₂ ⟨ds, H₂, sh₂, vr₂, st₂, k₂⟩
  exact ⟨sh₂.base, mono1 (k₂ A s₂ (first ++ vs) R sh₂ ((st₂.vrs sh₁ V).append vr₂)) (fun _ _ q => (q.after st₂).after st₁)⟩

/-- a def of the text's -/
noncomputable abbrev retM (K : MV → HV → Prop) (f : FM) (_ : Loc) (H : HV) : Prop := match f with
  | .ret d => K d H
  | _ => K .none H

theorem bindL_zip {kindOf : Str → Option NameKind} {h : Heap} : ∀ (names : List Str) (vs : List Value) (ds : List MV) (m₀ : Str → Option Value), VRs c h vs ds → names.length = ds.length → names.Nodup →
    (∀ x d, kindOf x = some .local → (names.zip ds).lookup x = some d → ∃ v, bindL kindOf (names.zip vs) m₀ x = some v ∧ VR c h v d) ∧ ∀ x, x ∉ names → bindL kindOf (names.zip vs) m₀ x = m₀ x := by
  intro names
  induction names with
  | nil => exact fun vs ds m₀ V hl _ => ⟨fun x d _ e => by simp at e, fun x _ => by simp [bindL]⟩
  | cons y names ih =>
    intro vs ds m₀ V hl hn
    obtain ⟨d, ds, rfl⟩ : ∃ d ds', ds = d :: ds' := by cases ds with | nil => simp at hl | cons d ds => exact ⟨d, ds, rfl⟩
    obtain ⟨v, vs, rfl, r, W⟩ := V.isCons
    have hl' : names.length = ds.length := by simpa using hl
    obtain ⟨hy, hn⟩ := List.nodup_cons.mp hn
    obtain ⟨i1, i2⟩ := ih vs ds (if kindOf y = some .local then fun z => if z = y then some v else m₀ z else m₀) W hl' hn
    refine ⟨fun x e k q => ?_, fun x hx => ?_⟩
    · show ∃ w, bindL kindOf (names.zip vs) _ x = some w ∧ _
      rw [List.zip_cons_cons, List.lookup_cons] at q
      by_cases z : x = y
      · subst z
        simp at q
        subst q
        rw [i2 x hy, if_pos k]
        exact ⟨v, by simp, r⟩
      · have z' : (x == y) = false := by simp [z]
        rw [z'] at q
        exact i1 x e k q
    · show bindL kindOf (names.zip vs) _ x = m₀ x
      simp only [List.mem_cons, not_or] at hx
      rw [i2 x hx.2]
      split
      · simp [hx.1]
      · rfl
theorem bindC_zip {kindOf : Str → Option NameKind} {h : Heap} : ∀ (names : List Str) (vs : List Value) (ds : List MV) (m₀ : Str → Option Value), VRs c h vs ds → names.length = ds.length → names.Nodup →
    (∀ x d, kindOf x ≠ some .local → (names.zip ds).lookup x = some d → ∃ v, bindC kindOf (names.zip vs) m₀ x = some v ∧ VR c h v d) ∧ ∀ x, x ∉ names → bindC kindOf (names.zip vs) m₀ x = m₀ x := by
  intro names
  induction names with
  | nil => exact fun vs ds m₀ V hl _ => ⟨fun x d _ e => by simp at e, fun x _ => by simp [bindC]⟩
  | cons y names ih =>
    intro vs ds m₀ V hl hn
    obtain ⟨d, ds, rfl⟩ : ∃ d ds', ds = d :: ds' := by cases ds with | nil => simp at hl | cons d ds => exact ⟨d, ds, rfl⟩
    obtain ⟨v, vs, rfl, r, W⟩ := V.isCons
    have hl' : names.length = ds.length := by simpa using hl
    obtain ⟨hy, hn⟩ := List.nodup_cons.mp hn
    obtain ⟨i1, i2⟩ := ih vs ds (if kindOf y = some .local then m₀ else fun z => if z = y then some v else m₀ z) W hl' hn
    refine ⟨fun x e k q => ?_, fun x hx => ?_⟩
    · show ∃ w, bindC kindOf (names.zip vs) _ x = some w ∧ _
      rw [List.zip_cons_cons, List.lookup_cons] at q
      by_cases z : x = y
      · subst z
        simp at q
        subst q
        rw [i2 x hy, if_neg k]
        exact ⟨v, by simp, r⟩
      · have z' : (x == y) = false := by simp [z]
        rw [z'] at q
        exact i1 x e k q
    · show bindC kindOf (names.zip vs) _ x = m₀ x
      simp only [List.mem_cons, not_or] at hx
      rw [i2 x hx.2]
      split
      · rfl
      · simp [hx.1]

theorem cells_unique : ∀ {cs : List (Str × Addr)}, (cs.Pairwise fun x y => x.2 ≠ y.2) → ∀ {x y a}, cs.lookup x = some a → cs.lookup y = some a → x = y
  | [], _, _, _, _, e, _ => by simp at e
  | (z, b) :: r, hp, x, y, a, e1, e2 => by
    obtain ⟨h1, h2⟩ := List.pairwise_cons.mp hp
    rw [List.lookup_cons] at e1 e2
    by_cases q1 : (x == z) = true
    · by_cases q2 : (y == z) = true
      · rw [beq_iff_eq.mp q1, beq_iff_eq.mp q2]
      · rw [q1] at e1; simp only [Bool.not_eq_true] at q2; rw [q2] at e2
        have := h1 _ (mem_of_lookup e2)
        simp at e1; exact absurd e1 this
    · simp only [Bool.not_eq_true] at q1
      rw [q1] at e1
      by_cases q2 : (y == z) = true
      · rw [q2] at e2
        have := h1 _ (mem_of_lookup e1)
        simp at e2; exact absurd e2 this
      · simp only [Bool.not_eq_true] at q2
        rw [q2] at e2
        exact cells_unique h2 e1 e2

noncomputable def retP (c : Cx) (H : HV) (s : Shared) (K : MV → HV → Prop) (r : Result) (s' : Shared) : Prop := match r with
  | .ok (.ret v) => Post c H s K v s'
  | .ok _ => False
  | .error _ => False
theorem CC_def (O : c.Ok) {f : Addr} {fo : Obj} {fd : FuncData} {body : List Stmt} {ds : List MV} {names : List Str} {K : MV → HV → Prop} (hf : c.K.lookup f = some fo) (hd : fo.data = .func fd) (hb : fd.body = .stmts body) (hcl : fd.closure = []) (hcd : codeIn c.K fd.code fd.qualname = true)
    (hbind : ∀ vs : List Value, vs.length = names.length → bindArgs fd ⟨vs, []⟩ = pure (names.zip vs)) (hlen : names.length = ds.length) (hnd : names.Nodup)
    (hkind : (names.all fun y => fd.scope.names.lookup y == some .local || fd.scope.names.lookup y == some .cell) = true)
    (hcells : ∀ n x, fd.scope.names.lookup x = some .cell → ((cellsFrom n fd.scope.names []).lookup x).isSome = true)
    (h : ∀ L, H L = none → c.B.get? L = none → WXs c n (callEnvC fd L f) body (names.zip ds) H (retM K))
    (hco : fd.scope.isCoroutine = false) (hgen : fd.scope.isGenerator = false) (hk : fd.scope.kind = .function) (A : Around) (s : Shared) (vs : List Value) (R : Room (n + 1) A) (sh : Sh c H s.heap) (V : VRs c s.heap vs ds) : codeAny (model c.prog c.w) A (.call (.ref f) ⟨vs, []⟩) (retP c H s K) s := by
  refine (codeAny_call_cells (vals := vs) R.lt (O.kin.keeps sh.base f fo hf) hd (O.top.nolimit.keeps sh.base) (codeRec_of (O.kin.keeps sh.base) hcd) hb (hbind vs (by rw [V.length, hlen])) hcl ?_ ?_ hco hgen hk)
  · rintro ⟨y, v⟩ hy
    have hy' : y ∈ names := (List.of_mem_zip hy).1
    have := List.all_eq_true.mp hkind y hy'
    rcases Bool.or_eq_true_iff.mp this with q | q
    · exact .inl (by simpa using q)
    · have q' : fd.scope.names.lookup y = some .cell := by simpa using q
      exact .inr ⟨q', hcells _ _ q'⟩
  · intro s₁ I
    obtain ⟨⟨⟨hh, tk, rfl⟩, ns, kp, fre⟩, cell, apart, above⟩ := I
    have hL : s.heap.get? s.heap.objs.size = none := get_size
    have cnew : ∀ x a, (callEnvC fd s.heap.objs.size f).cells.lookup x = some a → s.heap.get? a = none ∧ a ≠ s.heap.objs.size := by
      intro x a e
      have z := above x a (mem_of_lookup e)
      refine ⟨?_, Nat.ne_of_gt z⟩
      cases q : s.heap.get? a with
      | none => rfl
      | some o => exact absurd (Heap.lt_size q) (Nat.not_lt.mpr (Nat.le_of_lt z))
    have sh₁ : Sh c H hh := sh.ext kp
    have V₁ : VRs c hh vs ds := V.mono fun a o e _ => kp a o e
    obtain ⟨bl, _⟩ := bindL_zip (c := c) (kindOf := (callEnvC fd s.heap.objs.size f).kindOf) names vs ds (fun _ => none) V₁ hlen hnd
    obtain ⟨bc, _⟩ := bindC_zip (c := c) (kindOf := (callEnvC fd s.heap.objs.size f).kindOf) names vs ds (fun _ => none) V₁ hlen hnd
    have S : St c (callEnvC fd s.heap.objs.size f) (names.zip ds) H { s with heap := hh, toks := tk } := by
      refine ⟨sh₁, ⟨_, ns, bl⟩, fun x d k e => ?_, fun x a e => ⟨_, cell x a e⟩, fun x k => ?_, fun x y a e1 e2 => cells_unique apart e1 e2, sh.fresh hL, fun x a e => ⟨sh.fresh (cnew x a e).1, (cnew x a e).2⟩, newB sh hL, fun x a _ e => newB sh (cnew x a e).1⟩
      · have hy : x ∈ names := by
          have : (x, d) ∈ names.zip ds := mem_of_lookup e
          exact (List.of_mem_zip this).1
        have kc : (callEnvC fd s.heap.objs.size f).kindOf x = some .cell := by
          have := List.all_eq_true.mp hkind x hy
          rcases Bool.or_eq_true_iff.mp this with q | q
          · have q'' : fd.scope.names.lookup x = some .local := by simpa using q
            have q' : (callEnvC fd s.heap.objs.size f).kindOf x = some .local := q''
            rw [q'] at k; rcases k with k | k <;> cases k
          · have q'' : fd.scope.names.lookup x = some .cell := by simpa using q
            exact q''
        obtain ⟨v, e1, e2⟩ := bc x d (by rw [kc]; intro z; cases z) e
        have hs : ((callEnvC fd s.heap.objs.size f).cells.lookup x).isSome = true := hcells _ _ kc
        obtain ⟨a, ha⟩ := Option.isSome_iff_exists.mp hs
        exact ⟨a, v, ha, e1 ▸ cell x a ha, e2⟩
      · exact Option.isSome_iff_exists.mp (hcells _ _ k)
    refine mono0 (h _ (sh.fresh hL) (newB sh hL) (A.deeper _) _ (R.deeper _) S) ?_
    rintro fl s₂ ⟨m', H', S', st, k⟩
    have st0 : Stp nw H H s { s with heap := hh, toks := tk } := Stp.ext kp
    have stn : Stp nw H H' s s₂ := by
      have := (st0.toOwn.trans st)
      refine this.weak fun a z => .inr ?_
      rcases z with rfl | ⟨x, _, e⟩
      · exact hL
      · exact (cnew x a e).1
    cases fl with
    | ret v => obtain ⟨d, r, k⟩ := k; exact ⟨d, H', S'.sh, r, stn, k⟩
    | next => exact ⟨.none, H', S'.sh, .none, stn, k⟩
    | brk => exact ⟨.none, H', S'.sh, .none, stn, k⟩
    | cont => exact ⟨.none, H', S'.sh, .none, stn, k⟩
theorem WC_def (O : c.Ok) {f : Addr} {fo : Obj} {fd : FuncData} {body : List Stmt} {ds : List MV} {names : List Str} {K : MV → HV → Prop} (hf : c.K.lookup f = some fo) (hd : fo.data = .func fd) (hb : fd.body = .stmts body) (hcl : fd.closure = []) (hcd : codeIn c.K fd.code fd.qualname = true)
    (hbind : ∀ vs : List Value, vs.length = names.length → bindArgs fd ⟨vs, []⟩ = pure (names.zip vs)) (hlen : names.length = ds.length) (hnd : names.Nodup)
    (hkind : (names.all fun y => fd.scope.names.lookup y == some .local || fd.scope.names.lookup y == some .cell) = true)
    (hcells : ∀ n x, fd.scope.names.lookup x = some .cell → ((cellsFrom n fd.scope.names []).lookup x).isSome = true)
    (h : ∀ L, H L = none → c.B.get? L = none → WXs c n (callEnvC fd L f) body (names.zip ds) H (retM K))
    (hco : fd.scope.isCoroutine = false) (hgen : fd.scope.isGenerator = false) (hk : fd.scope.kind = .function) : WC c (n + 1) (.ref f) ds H K :=
  fun A s vs R sh V => wpAny_call (codeAny_mono (CC_def O hf hd hb hcl hcd hbind hlen hnd hkind hcells h hco hgen hk A s vs R sh V) fun r s' q => by
    rcases r with e | (v | _ | _ | _) <;> exact q)
end
end
section
-- M6
section
variable {c : Cx} {n : Nat} {env : Env} {m : Loc} {H : HV}

-- ints
theorem W2_add {a b : Int} {K : MV → HV → Prop} (h : K (.int (a + b)) H) : W2 c n (binaryOp .Add) (.int a) (.int b) H K := by
  intro A s v u R sh r1 r2; obtain ⟨_, rfl⟩ := r1.isInt; obtain ⟨_, rfl⟩ := r2.isInt
  exact add_int ⟨_, H, sh, .int _ _, Stp.tok, h⟩
theorem W2_sub {a b : Int} {K : MV → HV → Prop} (h : K (.int (a - b)) H) : W2 c n (binaryOp .Sub) (.int a) (.int b) H K := by
  intro A s v u R sh r1 r2; obtain ⟨_, rfl⟩ := r1.isInt; obtain ⟨_, rfl⟩ := r2.isInt
  exact sub_int ⟨_, H, sh, .int _ _, Stp.tok, h⟩
theorem W2_mul {a b : Int} {K : MV → HV → Prop} (h : K (.int (a * b)) H) (hb : -(2 ^ 64) < b ∧ b < 2 ^ 64) : W2 c n (binaryOp .Mult) (.int a) (.int b) H K := by
  intro A s v u R sh r1 r2; obtain ⟨_, rfl⟩ := r1.isInt; obtain ⟨_, rfl⟩ := r2.isInt
  exact mul_int ⟨_, H, sh, .int _ _, Stp.tok, h⟩ (IntMulOk.of_right (intBits_le_64 hb.1 hb.2))
theorem W2_mod {a b : Int} {K : MV → HV → Prop} (h : K (.int (a.fmod b)) H) (hb : b ≠ 0) : W2 c n (binaryOp .Mod) (.int a) (.int b) H K := by
  intro A s v u R sh r1 r2; obtain ⟨_, rfl⟩ := r1.isInt; obtain ⟨_, rfl⟩ := r2.isInt
  exact mod_int' hb ⟨_, H, sh, .int _ _, Stp.tok, h⟩
theorem W2_div {a b : Int} {K : MV → HV → Prop} (h : K (.int (a.fdiv b)) H) (hb : b ≠ 0) (ha : b.natAbs < 1073741824) : W2 c n (binaryOp .FloorDiv) (.int a) (.int b) H K := by
  intro A s v u R sh r1 r2; obtain ⟨_, rfl⟩ := r1.isInt; obtain ⟨_, rfl⟩ := r2.isInt
  exact PyProof.Rows.floordiv_int hb ⟨_, H, sh, .int _ _, Stp.tok, h⟩ (Or.inl (PyProof.noPylong_small ha))
theorem W2_pow {a b : Int} {K : MV → HV → Prop} (h : K (.int (a ^ b.toNat)) H) (h0 : 0 ≤ b) (hsz : (Builtin.Int.intBits a : Int) * b ≤ 2 ^ 27) : W2 c n (binaryOp .Pow) (.int a) (.int b) H K := by
  intro A s v u R sh r1 r2; obtain ⟨_, rfl⟩ := r1.isInt; obtain ⟨_, rfl⟩ := r2.isInt
  exact pow_int h0 hsz ⟨_, H, sh, .int _ _, Stp.tok, h⟩
theorem W1_neg {a : Int} {K : MV → HV → Prop} (h : K (.int (-a)) H) : W1 c n (unaryOp .USub) (.int a) H K := by
  intro A s v R sh r1; obtain ⟨_, rfl⟩ := r1.isInt
  exact neg_int ⟨_, H, sh, .int _ _, Stp.tok, h⟩
theorem W1_not {b : Bool} {K : MV → HV → Prop} (h : K (.bool (!b)) H) : W1 c n (unaryOp .Not) (.bool b) H K := by
  intro A s v R sh r1; obtain rfl := r1.isBool
  exact not_of (wpAny_truthy_bool ⟨_, H, sh, .bool _, Stp.refl, h⟩)
theorem W1B_bool {b : Bool} {K : Bool → HV → Prop} (h : K b H) : W1B c n truthy (.bool b) H K := by
  intro A s v R sh r1; obtain rfl := r1.isBool
  exact wpAny_truthy_bool ⟨H, sh, Stp.refl, h⟩

theorem W2_lt {a b : Int} {K : MV → HV → Prop} (h : K (.bool (decide (a < b))) H) : W2 c n (compareOp .Lt) (.int a) (.int b) H K := by
  intro A s v u R sh r1 r2; obtain ⟨_, rfl⟩ := r1.isInt; obtain ⟨_, rfl⟩ := r2.isInt
  exact lt_int ⟨_, H, sh, .bool _, Stp.refl, h⟩
theorem W2_le {a b : Int} {K : MV → HV → Prop} (h : K (.bool (decide (a ≤ b))) H) : W2 c n (compareOp .LtE) (.int a) (.int b) H K := by
  intro A s v u R sh r1 r2; obtain ⟨_, rfl⟩ := r1.isInt; obtain ⟨_, rfl⟩ := r2.isInt
  exact le_int ⟨_, H, sh, .bool _, Stp.refl, h⟩
theorem W2_gt {a b : Int} {K : MV → HV → Prop} (h : K (.bool (decide (b < a))) H) : W2 c n (compareOp .Gt) (.int a) (.int b) H K := by
  intro A s v u R sh r1 r2; obtain ⟨_, rfl⟩ := r1.isInt; obtain ⟨_, rfl⟩ := r2.isInt
  exact gt_int ⟨_, H, sh, .bool _, Stp.refl, h⟩
theorem W2_ge {a b : Int} {K : MV → HV → Prop} (h : K (.bool (decide (b ≤ a))) H) : W2 c n (compareOp .GtE) (.int a) (.int b) H K := by
  intro A s v u R sh r1 r2; obtain ⟨_, rfl⟩ := r1.isInt; obtain ⟨_, rfl⟩ := r2.isInt
  exact ge_int ⟨_, H, sh, .bool _, Stp.refl, h⟩
theorem W2_eq {a b : Int} {K : MV → HV → Prop} (h : K (.bool (a == b)) H) : W2 c n (compareOp .Eq) (.int a) (.int b) H K := by
  intro A s v u R sh r1 r2; obtain ⟨_, rfl⟩ := r1.isInt; obtain ⟨_, rfl⟩ := r2.isInt
  exact eq_int ⟨_, H, sh, .bool _, Stp.refl, h⟩
theorem W2_ne {a b : Int} {K : MV → HV → Prop} (h : K (.bool (a != b)) H) : W2 c n (compareOp .NotEq) (.int a) (.int b) H K := by
  intro A s v u R sh r1 r2; obtain ⟨_, rfl⟩ := r1.isInt; obtain ⟨_, rfl⟩ := r2.isInt
  exact ne_int ⟨_, H, sh, .bool _, Stp.refl, h⟩
theorem W2_eqNone {b : Int} {K : MV → HV → Prop} (h : K (.bool false) H) : W2 c n (compareOp .Eq) .none (.int b) H K := by
  intro A s v u R sh r1 r2; obtain rfl := r1.isNone; obtain ⟨_, rfl⟩ := r2.isInt
  exact EqNone.eq_none_int ⟨_, H, sh, .bool _, Stp.refl, h⟩
theorem W2_eqStr {x y : Str} {K : MV → HV → Prop} (h : K (.bool (x == y)) H) : W2 c n (compareOp .Eq) (.str x) (.str y) H K := by
  intro A s v u R sh r1 r2; obtain ⟨_, rfl⟩ := r1.isStr; obtain ⟨_, rfl⟩ := r2.isStr
  exact eq_str ⟨_, H, sh, .bool _, Stp.refl, h⟩
theorem W2_isB {a b : Bool} {K : MV → HV → Prop} (h : K (.bool (a == b)) H) : W2 c n (compareOp .Is) (.bool a) (.bool b) H K := by
  intro A s v u R sh r1 r2; obtain rfl := r1.isBool; obtain rfl := r2.isBool
  refine wpAny_is_plain (by cases a <;> cases b <;> rfl) ⟨_, H, sh, ?_, Stp.refl, h⟩
  have : (Value.bool a == Value.bool b) = (a == b) := by cases a <;> cases b <;> decide
  rw [this]; exact .bool _
theorem W2_isNotB {a b : Bool} {K : MV → HV → Prop} (h : K (.bool (a != b)) H) : W2 c n (compareOp .IsNot) (.bool a) (.bool b) H K := by
  intro A s v u R sh r1 r2; obtain rfl := r1.isBool; obtain rfl := r2.isBool
  refine wpAny_isNot_plain (by cases a <;> cases b <;> rfl) ⟨_, H, sh, ?_, Stp.refl, h⟩
  have : (!(Value.bool a == Value.bool b)) = (a != b) := by cases a <;> cases b <;> decide
  rw [this]; exact .bool _
noncomputable def MV.isNone : MV → Bool
  | .none => true
  | _ => false
theorem is_none {h : Heap} {v : Value} {d : MV} (r : VR c h v d) (hd : ∀ v, d ≠ .val v) : (v = .none ↔ d.isNone = true) := by
  cases r <;> simp [MV.isNone]
  exact absurd rfl (hd _)
theorem plainN {h : Heap} {v : Value} {d : MV} (r : VR c h v d) (hd : ∀ v, d ≠ .val v) : plainIs v .none = true := by
  cases r <;> first | rfl | exact absurd rfl (hd _)
theorem W2_isN {d : MV} {K : MV → HV → Prop} (h : K (.bool d.isNone) H) (hd : ∀ v, d ≠ .val v) : W2 c n (compareOp .Is) d .none H K := by
  intro A s v u R sh r1 r2; obtain rfl := r2.isNone
  have := is_none r1 hd
  cases q : d.isNone with
  | true =>
    rw [q] at h
    rw [this.mpr q]
    exact wpAny_is_plain (by rfl) ⟨_, H, sh, .bool _, Stp.refl, h⟩
  | false =>
    rw [q] at h
    have hv : v ≠ .none := fun e => by rw [this.mp e] at q; cases q
    exact wpAny_is_other (plainN r1 hd) hv ⟨_, H, sh, .bool _, Stp.refl, h⟩
theorem W2_isNotN {d : MV} {K : MV → HV → Prop} (h : K (.bool (!d.isNone)) H) (hd : ∀ v, d ≠ .val v) : W2 c n (compareOp .IsNot) d .none H K := by
  intro A s v u R sh r1 r2; obtain rfl := r2.isNone
  have := is_none r1 hd
  cases q : d.isNone with
  | true =>
    rw [q] at h
    rw [this.mpr q]
    exact wpAny_isNot_plain (by rfl) ⟨_, H, sh, .bool _, Stp.refl, h⟩
  | false =>
    rw [q] at h
    have hv : v ≠ .none := fun e => by rw [this.mp e] at q; cases q
    exact wpAny_isNot_other (plainN r1 hd) hv ⟨_, H, sh, .bool _, Stp.refl, h⟩

-- data
mutual
inductive DR (H : HV) : MV → PyData → Prop
  | none : DR H .none .none
  | bool (b : Bool) : DR H (.bool b) (.bool b)
  | int (i : Int) : DR H (.int i) (.int i)
  | str (x : Str) : DR H (.str x) (.str x)
  | tup {ds : List MV} {xs : List PyData} : DRs H ds xs → DR H (.tup ds) (.tuple xs)
  | list {a : Addr} {ds : List MV} {xs : List PyData} : H a = some (.list ds) → DRs H ds xs → DR H (.ref a) (.list xs)
inductive DRs (H : HV) : List MV → List PyData → Prop
  | nil : DRs H [] []
  | cons {d : MV} {ds : List MV} {x : PyData} {xs : List PyData} : DR H d x → DRs H ds xs → DRs H (d :: ds) (x :: xs)
end
theorem DR.reads {h : Heap} (sh : Sh c H h) {v : Value} {d : MV} {x : PyData} (r : DR H d x) (V : VR c h v d) : ∃ as, Reads h v x as :=
  DR.rec (motive_1 := fun d x _ => ∀ v, VR c h v d → ∃ as, Reads h v x as) (motive_2 := fun ds xs _ => ∀ vs, VRs c h vs ds → ∃ as, ReadsAll h vs xs as)
    (fun _ V => by obtain rfl := V.isNone; exact ⟨_, .none⟩) (fun b _ V => by obtain rfl := V.isBool; exact ⟨_, .bool b⟩) (fun i _ V => by obtain ⟨t, rfl⟩ := V.isInt; exact ⟨_, .int i t⟩) (fun x _ V => by obtain ⟨t, rfl⟩ := V.isStr; exact ⟨_, .str x t⟩)
    (fun _ ih _ V => by
      obtain ⟨a, vs, rfl, ⟨o, ho, hc, k, hd⟩, W⟩ := V.isTup
      obtain ⟨as, q⟩ := ih _ W
      exact ⟨_, .tuple ho hc hd (by simpa using q)⟩)
    (fun e _ ih _ V => by
      obtain rfl := V.isRef
      obtain ⟨vs, ⟨k, hl⟩, W⟩ := (sh.rel _ _ e).isList
      obtain ⟨as, q⟩ := ih _ W
      exact ⟨_, .list hl rfl rfl (by simpa using q)⟩)
    (fun _ V => by obtain rfl := V.isNil; exact ⟨_, .nil⟩)
    (fun _ _ ih ih' _ V => by
      obtain ⟨v, vs, rfl, r, Vs⟩ := V.isCons
      obtain ⟨as, q⟩ := ih _ r
      obtain ⟨bs, p⟩ := ih' _ Vs
      exact ⟨_, .cons q p⟩) r v V
theorem W2_eqD {d e : MV} {x y : PyData} {K : MV → HV → Prop} (hx : DR H d x) (hy : DR H e y) (sx : SeqAt.shaped x = true) (sy : SeqAt.shaped y = true) (h : K (.bool (PyData.eqv x y)) H) : W2 c n (compareOp .Eq) d e H K := by
  intro A s v u R sh r1 r2
  obtain ⟨as, q1⟩ := hx.reads sh r1
  obtain ⟨bs, q2⟩ := hy.reads sh r2
  exact eq_dataH q1 q2 sx sy R.u64 ⟨_, H, sh, .bool _, Stp.refl, h⟩
theorem W2_neD {d e : MV} {x y : PyData} {K : MV → HV → Prop} (hx : DR H d x) (hy : DR H e y) (sx : SeqAt.shaped x = true) (sy : SeqAt.shaped y = true) (h : K (.bool (!PyData.eqv x y)) H) : W2 c n (compareOp .NotEq) d e H K := by
  intro A s v u R sh r1 r2
  obtain ⟨as, q1⟩ := hx.reads sh r1
  obtain ⟨bs, q2⟩ := hy.reads sh r2
  exact ne_dataH q1 q2 sx sy R.u64 ⟨_, H, sh, .bool _, Stp.refl, h⟩

-- sequences
theorem push_keep {h : Heap} {ob : Obj} : ∀ a o, h.get? a = some o → (h.push ob).get? a = some o := fun a o e => Heap.get?_push_of_some _ e
theorem push_tup {s : Shared} {K : MV → HV → Prop} {vs : List Value} {ds : List MV} {tk : Nat} (sh : Sh c H s.heap) (V : VRs c s.heap vs ds) (h : K (.tup ds) H) :
    Post c H s K (.ref s.heap.objs.size) { s with heap := s.heap.push { cls := .type "tuple", data := .seq vs.toArray }, toks := tk } :=
  ⟨_, H, sh.ext push_keep, .tup ⟨_, Heap.get?_push_size _ rfl, rfl, 0, rfl⟩ (V.mono fun a o e _ => push_keep a o e), Stp.ext push_keep, h⟩
theorem push_list {s : Shared} {K : MV → HV → Prop} {vs : List Value} {ds : List MV} {tk : Nat} (sh : Sh c H s.heap) (V : VRs c s.heap vs ds) (h : ∀ a, H a = none → c.B.get? a = none → K (.ref a) (H.set a (.list ds))) :
    Post c H s K (.ref s.heap.objs.size) { s with heap := s.heap.push { cls := .type "list", data := .seq vs.toArray }, toks := tk } :=
  ⟨_, _, sh.add get_size push_keep (.list ⟨0, Heap.get?_push_size _ rfl⟩ (V.mono fun a o e _ => push_keep a o e)), .ref _, Stp.add get_size push_keep, h _ (sh.fresh get_size) (newB sh get_size)⟩

theorem W2_addT {ds es : List MV} {K : MV → HV → Prop} (h : K (.tup (ds ++ es)) H) (hz : ds.length + es.length ≤ 1000) : W2 c n (binaryOp .Add) (.tup ds) (.tup es) H K := by
  intro A s v u R sh r1 r2
  obtain ⟨t, vs, rfl, ht, V⟩ := r1.isTup
  · skip
    obtain ⟨b, ws, rfl, hb, W⟩ := r2.isTup
    · skip
      have hv := V.length
      have hw := W.length
      have q1 : vs = [] → ds ++ es = es := fun e => by subst e; cases V; rfl
      have q2 : ws = [] → ds ++ es = ds := fun e => by subst e; cases W; simp
      obtain ⟨⟨cls, dd, data, sl⟩, ho, hc, k, hd⟩ := id ht
      obtain ⟨⟨cls2, dd2, data2, sl2⟩, ho2, hc2, k2, hd2⟩ := id hb
      simp only at hc hd hc2 hd2
      subst hc hd hc2 hd2
      by_cases z1 : vs = []
      · exact concat_meets ⟨_, ho, rfl⟩ ⟨_, ho2, rfl⟩ noFill_tuple_add seq_tuple_add PySem.F.slot_tuple_add PySem.F.entry_tuple_add (PySem.F.args_tuple_add_2 _ _)
          (tuple_addW0 t b vs.toArray ws.toArray k k2 dd dd2 sl sl2 (by simp [z1])) ⟨ho, ho2, ⟨_, H, sh, .tup hb W, Stp.refl, q1 z1 ▸ h⟩⟩
      · by_cases z2 : ws = []
        · exact concat_meets ⟨_, ho, rfl⟩ ⟨_, ho2, rfl⟩ noFill_tuple_add seq_tuple_add PySem.F.slot_tuple_add PySem.F.entry_tuple_add (PySem.F.args_tuple_add_2 _ _)
            (tuple_addW1 t b vs.toArray ws.toArray k k2 dd dd2 sl sl2 (by simpa using z1) (by simp [z2])) ⟨ho, ho2, ⟨_, H, sh, .tup ht V, Stp.refl, q2 z2 ▸ h⟩⟩
        · refine concat_meets ⟨_, ho, rfl⟩ ⟨_, ho2, rfl⟩ noFill_tuple_add seq_tuple_add PySem.F.slot_tuple_add PySem.F.entry_tuple_add (PySem.F.args_tuple_add_2 _ _)
            (tuple_addW2 t b vs.toArray ws.toArray k k2 dd dd2 sl sl2 (by simpa using z1) (by simpa using z2) (by rw [List.size_toArray, List.size_toArray, sizeLine_eq]; first | lia | omega)) ⟨ho, ho2, ?_⟩
          have e : vs.toArray ++ ws.toArray = (vs ++ ws).toArray := by simp
          rw [e]
          exact push_tup sh (V.append W) h
theorem W2_addL {a b : Addr} {ds es : List MV} {K : MV → HV → Prop} (ha : H a = some (.list ds)) (hb : H b = some (.list es)) (h : ∀ l, H l = none → c.B.get? l = none → K (.ref l) (H.set l (.list (ds ++ es)))) (hz : ds.length + es.length ≤ 1000) : W2 c n (binaryOp .Add) (.ref a) (.ref b) H K := by
  intro A s v u R sh r1 r2; obtain rfl := r1.isRef; obtain rfl := r2.isRef
  obtain ⟨vs, hl, V⟩ := (sh.rel a _ ha).isList
  · skip
    obtain ⟨ws, hl2, W⟩ := (sh.rel b _ hb).isList
    · skip
      obtain ⟨k, hl⟩ := hl
      obtain ⟨k2, hl2⟩ := hl2
      have hv := V.length
      have hw := W.length
      refine concat_meets ⟨_, hl, rfl⟩ ⟨_, hl2, rfl⟩ noFill_list_add seq_list_add PySem.F.slot_list_add PySem.F.entry_list_add (PySem.F.args_list_add_2 _ _) (list_addW a b vs.toArray ws.toArray k k2 none none #[] #[] (by rw [List.size_toArray, List.size_toArray, sizeLine_eq]; first | lia | omega)) ⟨hl, hl2, ?_⟩
      have e : vs.toArray ++ ws.toArray = (vs ++ ws).toArray := by simp
      rw [e]
      exact push_list sh (V.append W) h

-- subscripts
theorem W2_subT {ve se : Expr} {ds : List MV} {i : Int} {j : Nat} {d : MV} {K : MV → HV → Prop} (hj : seqIndex? i ds.length = some j) (hd : ds[j]? = some d) (h : K d H) (hi : -(2 ^ 62) < i ∧ i < 2 ^ 62)
    (hs : ∀ a u, subscripted se false (.ref a) (.int i u) = operate [.ref a, .int i u] (getItem (.ref a) (.int i u)) := by intro _ _; with_unfolding_all rfl) : W2 c n (subscriptTail ve se) (.tup ds) (.int i) H K := by
  intro A s v u R sh r1 r2; obtain ⟨_, rfl⟩ := r2.isInt
  obtain ⟨t, vs, rfl, ht, V⟩ := r1.isTup
  · skip
    obtain ⟨x, hx, rx⟩ := V.get hd
    exact item_tupleT ht (by first | lia | omega) (by first | lia | omega) (by rw [V.length]; exact hj) hx ⟨d, H, sh, rx, Stp.refl, h⟩ (hs _ _)
theorem W2_subL {ve se : Expr} {a : Addr} {ds : List MV} {i : Int} {d : MV} {K : MV → HV → Prop} (ha : H a = some (.list ds)) (h0 : 0 ≤ i) (hd : ds[i.toNat]? = some d) (h : K d H) (hi : i < 2 ^ 62)
    (hs : ∀ a u, subscripted se false (.ref a) (.int i u) = operate [.ref a, .int i u] (getItem (.ref a) (.int i u)) := by intro _ _; with_unfolding_all rfl) : W2 c n (subscriptTail ve se) (.ref a) (.int i) H K := by
  intro A s v u R sh r1 r2; obtain rfl := r1.isRef; obtain ⟨_, rfl⟩ := r2.isInt
  obtain ⟨_, hl, V⟩ := (sh.rel a _ ha).isList
  · skip
    obtain ⟨k, hl⟩ := hl
    obtain ⟨x, hx, rx⟩ := V.get hd
    exact tail_any ⟨_, hl, rfl⟩ slot_list_getitem.lookup (wpAny_getItem_list ⟨_, hl, rfl, k, rfl⟩ h0 (by first | lia | omega) (by simpa using hx) ⟨d, H, sh, rx, Stp.refl, h⟩) (hs _ _)
theorem W2_subLneg {ve se : Expr} {a : Addr} {ds : List MV} {i : Int} {d : MV} {K : MV → HV → Prop} (ha : H a = some (.list ds)) (h0 : i < 0) (h1 : -(ds.length : Int) ≤ i) (hd : ds[(i + ds.length).toNat]? = some d) (h : K d H) (hi : -(2 ^ 62) < i)
    (hs : ∀ a u, subscripted se false (.ref a) (.int i u) = operate [.ref a, .int i u] (getItem (.ref a) (.int i u)) := by intro _ _; with_unfolding_all rfl) : W2 c n (subscriptTail ve se) (.ref a) (.int i) H K := by
  intro A s v u R sh r1 r2; obtain rfl := r1.isRef; obtain ⟨_, rfl⟩ := r2.isInt
  obtain ⟨_, hl, V⟩ := (sh.rel a _ ha).isList
  · skip
    obtain ⟨k, hl⟩ := hl
    obtain ⟨x, hx, rx⟩ := V.get hd
    have e := V.length
    exact tail_any ⟨_, hl, rfl⟩ slot_list_getitem.lookup (wpAny_getItem_list_neg ⟨_, hl, rfl, k, rfl⟩ h0 (by rw [List.size_toArray, e]; exact h1) (by first | lia | omega) (by rw [List.size_toArray, e]; simpa using hx) ⟨d, H, sh, rx, Stp.refl, h⟩) (hs _ _)
theorem PR.look {Ky : Type} [DecidableEq Ky] {h : Heap} {vs : List (Ky × Value)} {kvs : List (Ky × MV)} (P : PR c h vs kvs) {k : Ky} {d : MV} (e : kvs.lookup k = some d) : ∃ v, valueAt vs k = some v ∧ VR c h v d := by
  induction P with
  | nil => simp at e
  | @cons y v d' vs ds r _ ih =>
    rw [List.lookup_cons] at e
    unfold valueAt at ih ⊢
    by_cases q : k = y
    · subst q
      simp at e; subst e
      exact ⟨v, by simp, r⟩
    · have q' : (k == y) = false := by simp [q]
      rw [q'] at e
      obtain ⟨w, e1, e2⟩ := ih e
      refine ⟨w, ?_, e2⟩
      simpa [q, Ne.symm q] using e1
theorem W2_subS {ve se : Expr} {a : Addr} {kvs : List (Str × MV)} {x : Str} {d : MV} {K : MV → HV → Prop} (ha : H a = some (.smap kvs)) (hd : kvs.lookup x = some d) (h : K d H)
    (hs : ∀ a u, subscripted se false (.ref a) (.str x u) = operate [.ref a, .str x u] (getItem (.ref a) (.str x u)) := by intro _ _; with_unfolding_all rfl) : W2 c n (subscriptTail ve se) (.ref a) (.str x) H K := by
  intro A s v u R sh r1 r2; obtain rfl := r1.isRef; obtain ⟨_, rfl⟩ := r2.isStr
  obtain ⟨_, hl, V⟩ := (sh.rel a _ ha).isSmap
  · skip
    obtain ⟨y, hy, ry⟩ := V.look hd
    exact tail_any hl.typeIs slot_dict_getitem.lookup (wpAny_getItem_of (strKind_is c.prog c.w x _) hl.mapOf hy ⟨d, H, sh.tok, ry, Stp.tok, h⟩) (hs _ _)
theorem W2_subI {ve se : Expr} {a : Addr} {kvs : List (Int × MV)} {x : Int} {d : MV} {K : MV → HV → Prop} (ha : H a = some (.imap kvs)) (hd : kvs.lookup x = some d) (h : K d H)
    (hs : ∀ a u, subscripted se false (.ref a) (.int x u) = operate [.ref a, .int x u] (getItem (.ref a) (.int x u)) := by intro _ _; with_unfolding_all rfl) : W2 c n (subscriptTail ve se) (.ref a) (.int x) H K := by
  intro A s v u R sh r1 r2; obtain rfl := r1.isRef; obtain ⟨_, rfl⟩ := r2.isInt
  obtain ⟨_, hl, V⟩ := (sh.rel a _ ha).isImap
  · skip
    obtain ⟨y, hy, ry⟩ := V.look hd
    exact tail_any hl.typeIs slot_dict_getitem.lookup (wpAny_getItem_of (intKind_is c.prog c.w x _) hl.mapOf hy ⟨d, H, sh.tok, ry, Stp.tok, h⟩) (hs _ _)

-- stores
theorem setItem_plain {prog : Program} {w : World} {A : Around} {E : Value → Shared → Prop} {s : Shared} {l : Addr} {items : Array Value} {k : Int} {t : Tok} {v : Value} {Q : Unit → Shared → Prop} (hl : s.heap.PlainList l items) (h0 : 0 ≤ k) (hfit : k < 2 ^ 63) (hn : k < items.size)
    (hQ : ∀ h', h'.PlainList l (items.setIfInBounds k.toNat v) → Heap.SameBut l s.heap h' → Q () { s with heap := h' }) : wpAny (model prog w) A (setItem (.ref l) (.int k t) v) Q E s := by
  have hL := hl.isList
  obtain ⟨q, ho⟩ := hl
  unfold setItem
  refine wpAny_holding ?_
  refine wpAny_bind (wpAny_sequenceKey hL.typeIs (by decide) ?_)
  refine wpAny_bind (wpAny_callSpecial?_slot (name := Str.ofString "__setitem__") hL.typeIs slot_list_setitem (wpAny_call_entry slot_list_setitem hL.typeIs entry_list_setitem ?_ (args_list_setitem _ _ _)))
  show wpAny _ _ (Builtin.List.listSubscript? (.int k t) >>= _) _ _ s
  refine wpAny_bind (wpAny_listSubscript_int (fitsIndex_of h0 hfit) ?_)
  clear hfit
  obtain ⟨j, rfl⟩ := Int.eq_ofNat_of_zero_le h0
  have hj : j < items.size := by first | lia | omega
  show wpAny _ _ ((seqItemAt l j >>= fun r => pure (r.map (j, ·))) >>= _) _ _ s
  refine wpAny_bind (wpAny_bind (wpAny_seqItemAt ho rfl (wpAny_pure ?_)))
  rw [Array.getElem?_eq_getElem hj]
  show wpAny _ _ (setSeqItemAt l j v >>= _) _ _ s
  have hsz : (items.setIfInBounds j v).size = items.size := by simp
  have hob : Obj.mapSeq (·.setIfInBounds j v) { cls := .type "list", data := .seq items q } = { cls := .type "list", data := .seq (items.setIfInBounds j v) q } := by
    show (⟨.type "list", none, .seq (items.setIfInBounds j v) (if (items.setIfInBounds j v).size == items.size then q else q + 1), #[]⟩ : Obj) = _
    rw [hsz]; simp
  have hfin : (s.heap.update l (Obj.mapSeq (·.setIfInBounds j v))).PlainList l (items.setIfInBounds j v) := ⟨q, by rw [Heap.get?_update_self _ ho (by rw [hob]; rfl), hob]⟩
  refine wpAny_bind (wpAny_setSeqItemAt ho rfl ?_)
  first
    | exact wpAny_bind (wpAny_pure (wpAny_pure ⟨.none, rfl, wpAny_pure (hQ _ hfin (Heap.SameBut.update ..))⟩))
    | exact wpAny_pure ⟨.none, rfl, wpAny_pure (hQ _ hfin (Heap.SameBut.update ..))⟩

/-- a list of the view is changed in place -/
theorem list_post {s : Shared} {h' : Heap} {tk : Nat} {a : Addr} {mo : MObj} {vs : List Value} {ds : List MV} {K : HV → Prop} (sh : Sh c H s.heap) (ha : H a = some mo) (hl : h'.PlainList a vs.toArray) (hs : Heap.SameBut a s.heap h') (V : VRs c s.heap vs ds) (h : K (H.set a (.list ds))) :
    PostU c H s K () { s with heap := h', toks := tk } := by
  have kn : ∀ b ob, b ≠ a → s.heap.get? b = some ob → h'.get? b = some ob := fun b ob q eb => hs.extBut b ob q eb
  exact ⟨_, sh.upd ha kn fun ki => .list hl (V.mono ki), Stp.upd ha kn fun ob _ => let ⟨k, e⟩ := hl; ⟨_, e⟩, h⟩
theorem list_postV {s : Shared} {h' : Heap} {tk : Nat} {a : Addr} {mo : MObj} {vs : List Value} {ds : List MV} {v : Value} {d : MV} {K : MV → HV → Prop} (sh : Sh c H s.heap) (ha : H a = some mo) (hl : h'.PlainList a vs.toArray) (hs : Heap.SameBut a s.heap h') (V : VRs c s.heap vs ds) (r : VR c s.heap v d) (h : K d (H.set a (.list ds))) :
    Post c H s K v { s with heap := h', toks := tk } := by
  have kn : ∀ b ob, b ≠ a → s.heap.get? b = some ob → h'.get? b = some ob := fun b ob q eb => hs.extBut b ob q eb
  have ki : ∀ b ob, s.heap.get? b = some ob → imm ob ∨ c.B.get? b = some ob → h'.get? b = some ob := fun b ob eb i => kn b ob (by rintro rfl; rw [sh.imm eb i] at ha; cases ha) eb
  exact ⟨d, _, sh.upd ha kn fun ki => .list hl (V.mono ki), r.mono ki, Stp.upd ha kn fun ob _ => let ⟨k, e⟩ := hl; ⟨_, e⟩, h⟩

theorem W3U_setL {a : Addr} {ds : List MV} {i : Int} {d : MV} {K : HV → Prop} (ha : H a = some (.list ds)) (h0 : 0 ≤ i) (h1 : i < ds.length) (h : K (H.set a (.list (ds.set i.toNat d)))) (hi : i < 2 ^ 62) : W3U c n setItem (.ref a) (.int i) d H K := by
  intro A s v u z R sh r1 r2 r3; obtain rfl := r1.isRef; obtain ⟨_, rfl⟩ := r2.isInt
  obtain ⟨vs, hl, V⟩ := (sh.rel a _ ha).isList
  · skip
    have e := V.length
    refine setItem_plain hl h0 (by first | lia | omega) (by rw [List.size_toArray, e]; exact h1) fun h' hl' hs => ?_
    rw [show vs.toArray.setIfInBounds i.toNat z = (vs.set i.toNat z).toArray by simp] at hl'
    exact list_post (tk := s.toks) sh ha hl' hs (V.set _ r3) h
theorem list_neg {prog : Program} {w : World} {A : Around} {E : Value → Shared → Prop} {s : Shared} {l : Addr} {items : Array Value} {t : Tok} {v : Value} {Q : Unit → Shared → Prop} (hl : s.heap.PlainList l items) (hn : 0 < items.size) (hz : (items.size : Int) < 2 ^ 62)
    (hQ : ∀ h', h'.PlainList l (items.setIfInBounds (items.size - 1) v) → Heap.SameBut l s.heap h' → Q () { s with heap := h' }) : wpAny (model prog w) A (setItem (.ref l) (.int (-1) t) v) Q E s := by
  have hL := hl.isList
  obtain ⟨q, ho⟩ := hl
  unfold setItem
  refine wpAny_holding ?_
  refine wpAny_bind (wpAny_sequenceKey hL.typeIs (by decide) ?_)
  refine wpAny_bind (wpAny_callSpecial?_slot (name := Str.ofString "__setitem__") hL.typeIs slot_list_setitem (wpAny_call_entry slot_list_setitem hL.typeIs entry_list_setitem ?_ (args_list_setitem _ _ _)))
  show wpAny _ _ (Builtin.List.listSubscript? (.int (-1) t) >>= _) _ _ s
  refine wpAny_bind (wpAny_listSubscript_int (by decide) ?_)
  have hj : items.size - 1 < items.size := by first | lia | omega
  have hk : seqIndex? (-1) items.size = some (items.size - 1) := by
    rw [seqIndex_neg (by first | lia | omega) (by first | lia | omega)]; congr 1; first | lia | omega
  show wpAny _ _ ((Builtin.List.listItems (.ref l) >>= fun xs => pure ((seqIndex? (-1) xs.size).bind fun j => xs[j]?.map (j, ·))) >>= _) _ _ s
  refine wpAny_bind (wpAny_bind (wpAny_listItems ho rfl (wpAny_pure ?_)))
  rw [hk, Option.bind_some, Array.getElem?_eq_getElem hj]
  show wpAny _ _ (setSeqItemAt l (items.size - 1) v >>= _) _ _ s
  have hsz : (items.setIfInBounds (items.size - 1) v).size = items.size := by simp
  have hob : Obj.mapSeq (·.setIfInBounds (items.size - 1) v) { cls := .type "list", data := .seq items q } = { cls := .type "list", data := .seq (items.setIfInBounds (items.size - 1) v) q } := by
    show (⟨.type "list", none, .seq (items.setIfInBounds (items.size - 1) v) (if (items.setIfInBounds (items.size - 1) v).size == items.size then q else q + 1), #[]⟩ : Obj) = _
    rw [hsz]; simp
  have hfin : (s.heap.update l (Obj.mapSeq (·.setIfInBounds (items.size - 1) v))).PlainList l (items.setIfInBounds (items.size - 1) v) := ⟨q, by rw [Heap.get?_update_self _ ho (by rw [hob]; rfl), hob]⟩
  refine wpAny_bind (wpAny_setSeqItemAt ho rfl ?_)
  first
    | exact wpAny_bind (wpAny_pure (wpAny_pure ⟨.none, rfl, wpAny_pure (hQ _ hfin (Heap.SameBut.update ..))⟩))
    | exact wpAny_pure ⟨.none, rfl, wpAny_pure (hQ _ hfin (Heap.SameBut.update ..))⟩
end
end
section
-- M6b
section
variable {c : Cx} {n : Nat} {env : Env} {m : Loc} {H : HV}

theorem ER.noRef {h : Heap} {es : List DictEntry} {kvs} (R : ER c h es kvs) : es.any (·.refKey) = false := by
  induction R with
  | nil => rfl
  | cons _ _ ih => rw [List.any_cons, ih]; rfl
theorem ER.find {h : Heap} {es : List DictEntry} {kvs} (R : ER c h es kvs) {x : Str} {d : MV} (e : kvs.lookup x = some d) : ∃ v, getL x es = some (some v) ∧ VR c h v d := by
  induction R with
  | nil => simp at e
  | @cons y t v d' es ds r R ih =>
    rw [List.lookup_cons] at e
    by_cases q : x = y
    · subst q
      simp at e; subst e
      refine ⟨v, ?_, r⟩
      have z : (Value.str x t).isStr x = true := by show (x == x) = true; simp
      unfold getL; rw [List.find?_cons]; simp [z]
    · have q' : (x == y) = false := by simp [q]
      rw [q'] at e
      obtain ⟨u, e1, e2⟩ := ih e
      refine ⟨u, ?_, e2⟩
      have z : (Value.str y t).isStr x = false := by show (y == x) = false; simp [Ne.symm q]
      unfold getL at e1 ⊢
      rw [List.find?_cons, z]
      dsimp only
      cases w : es.find? (·.key.isStr x) with
      | some en => rw [w] at e1; exact e1
      | none => rw [w] at e1; dsimp only at e1; rw [R.noRef] at e1; simp at e1
theorem ER.findNone {h : Heap} {es : List DictEntry} {kvs} (R : ER c h es kvs) {x : Str} (e : kvs.lookup x = none) : getL x es = some none := by
  have : es.find? (·.key.isStr x) = none := by
    induction R with
    | nil => rfl
    | @cons y t v d' es ds r R ih =>
      rw [List.lookup_cons] at e
      by_cases q : x = y
      · subst q; simp at e
      · have q' : (x == y) = false := by simp [q]
        rw [q'] at e
        have z : (Value.str y t).isStr x = false := by show (y == x) = false; simp [Ne.symm q]
        rw [List.find?_cons, z]; exact ih e
  unfold getL; rw [this, R.noRef]; rfl

noncomputable def putKV (x : Str) (d : MV) : List (Str × MV) → List (Str × MV)
  | [] => [(x, d)]
  | (y, e) :: r => if y == x then (y, d) :: r else (y, e) :: putKV x d r
theorem ER.put {h : Heap} {es : List DictEntry} {kvs} (R : ER c h es kvs) {x : Str} {t : Tok} {v : Value} {d : MV} (r : VR c h v d) : ER c h (putL x (PyData.keyHash c.w.params x) (.str x t) v es) (putKV x d kvs) := by
  induction R with
  | nil => exact .cons r .nil
  | @cons y t' v' d' es ds r' R ih =>
    unfold putL putKV
    have z : (Value.str y t').isStr x = (y == x) := rfl
    dsimp only
    rw [z]
    cases q : y == x with
    | true => exact .cons r R
    | false => exact .cons r' ih
theorem ER.length {h : Heap} {es : List DictEntry} {kvs} (R : ER c h es kvs) : es.length = kvs.length := by
  induction R with
  | nil => rfl
  | cons _ _ ih => simp [ih]
theorem putL_len {x : Str} {hh : Int} {k v : Value} : ∀ es : List DictEntry, (putL x hh k v es).length ≤ es.length + 1
  | [] => by simp [putL]
  | e :: r => by
    have := putL_len (x := x) (hh := hh) (k := k) (v := v) r
    unfold putL; split <;> simp <;> first | lia | omega

noncomputable def MV.plain : MV → Bool
  | .val _ => false
  | _ => true
theorem handed_of {h : Heap} {v : Value} {d : MV} (r : VR c h v d) (hd : d.plain = true) : handedIn v = true := by
  cases r <;> first | rfl | (simp [MV.plain] at hd)

theorem inst_at {h : Heap} {x C dx : Addr} {es : List DictEntry} {k : Nat} (e : h.get? x = some (instObj C dx)) (e2 : h.get? dx = some (dictOf es k)) : PySem.W.InstAt h x (instObj C dx) C (some (dictOf es k)) := ⟨e, rfl, rfl, e2⟩

theorem W1_attr (O : c.Ok) {x C dx : Addr} {kvs : List (Str × MV)} {attr : Str} {d : MV} {K : MV → HV → Prop} (ha : H dx = some (.sdict kvs)) (hd : kvs.lookup attr = some d) (hp : d.plain = true)
    (hg : plainGet c.K C attr = true) (hh : hasDictIn c.K C = true) (hf : findIn c.K (.ref C) attr = some none) (h : K d H) : W1 c n (fun v => getAttr v attr true) (.inst x C dx) H K := by
  intro A s v R sh r
  obtain ⟨rfl, e⟩ := r.isInst
  · skip
    obtain ⟨_, _, hl, E⟩ := (sh.rel dx _ ha).isSdict
    · skip
      obtain ⟨u, e1, e2⟩ := E.find hd
      exact PySem.W.get_value (O.kin.keeps sh.base) (inst_at e hl) (plainGet_of hg).1 (findObj_own hh hf rfl e1) (handed_of e2 hp) ⟨d, H, sh, e2, Stp.tok, h⟩

theorem osa_mine (O : c.Ok) {A : Around} {s : Shared} {x C dx : Addr} {kvs : List (Str × MV)} {attr : Str} {d : MV} {u : Value} {tk : Tok} {R : Result → Shared → Prop} (sh : Sh c H s.heap) (e : s.heap.get? x = some (instObj C dx)) (ha : H dx = some (.sdict kvs)) (hz : kvs.length ≤ 100)
    (hp : plainOver c.K C = true) (ht : takerIn c.K C attr = some none) (hh : hasDictIn c.K C = true) (r2 : VR c s.heap u d)
    (h : ∀ h' tk, Sh c (H.set dx (.sdict (putKV attr d kvs))) h' → Stp nw H (H.set dx (.sdict (putKV attr d kvs))) s { s with heap := h', toks := tk } → R (.ok (.ret .none)) { s with heap := h', toks := tk }) :
    codeAny (model c.prog c.w) A (.call (.builtin "object.__setattr__") ⟨[.ref x, .str attr tk, u], []⟩) R s := by
  obtain ⟨es, k, hl, E⟩ := (sh.rel dx _ ha).isSdict
  · skip
    have X := O.kin.keeps sh.base
    have I := inst_at e hl
    refine osa_open X I hp ht fun b => ?_
    obtain ⟨cd, hc, hd'⟩ := any_some hh
    have hlen := E.length
    have hsz := putL_len (x := attr) (hh := PyData.keyHash c.w.params attr) (k := .str attr s.toks) (v := u) es
    have D' : (s.heap.update dx (Obj.putName attr (PyData.keyHash c.w.params attr) (.str attr s.toks) u)).get? dx = some (dictOf (putL attr (PyData.keyHash c.w.params attr) (.str attr s.toks) u es) (putN attr es k)) := by
      rw [Heap.get?_update_self _ hl (by rw [putName_dict]; rfl), putName_dict]
    have nf : (es.toArray.any (·.refKey)) = false := by rw [← Array.any_toList]; exact E.noRef
    refine wpAny_bind (wpAny_pure (wpAny_bind (wpAny_bind (wpAny_loadPart e (wpAny_bind ((looks_clsIn X hc).here ?_))))))
    rw [hd']
    refine wpAny_pure (a := some dx) (wpAny_bind (wpAny_pure (wpAny_bind ?_)))
    unfold nsSet
    refine wpAny_bind (wpAny_bind (wpAny_askSetting (wpAny_pure (wpAny_bind (wpAny_mkText (wpAny_bind (wpAny_loadPart hl ?_)))))))
    unfold dictOf
    dsimp only
    rw [aRefKeyMayBeTheName_at, nf, Bool.and_false]
    refine wpAny_updatePart hl ?_
    refine wpAny_bind (wpAny_lookBehind D' (by exact pastItsLine_dict (by rw [List.size_toArray, sizeLine_eq]; first | lia | omega)) ?_)
    have kn : ∀ b ob, b ≠ dx → s.heap.get? b = some ob → (s.heap.update dx (Obj.putName attr (PyData.keyHash c.w.params attr) (.str attr s.toks) u)).get? b = some ob := fun b ob q eb => (Heap.SameBut.update ..).extBut b ob q eb
    exact wpAny_pure (h _ _ (sh.upd ha kn fun ki => .sdict D' ((E.mono ki).put (r2.mono ki))) (Stp.upd ha kn fun ob _ => ⟨_, D'⟩))

theorem W2U_attr (O : c.Ok) {x C dx : Addr} {kvs : List (Str × MV)} {attr : Str} {d : MV} {K : HV → Prop} (ha : H dx = some (.sdict kvs)) (hz : kvs.length ≤ 100)
    (hs : findIn c.K (.ref C) "__setattr__" = some (some (.builtin "object.__setattr__"))) (hp : plainOver c.K C = true) (ht : takerIn c.K C attr = some none) (hh : hasDictIn c.K C = true)
    (h : K (H.set dx (.sdict (putKV attr d kvs)))) : W2U c n (fun ov v => setAttr ov attr v) (.inst x C dx) d H K := by
  intro A s v u R sh r1 r2
  obtain ⟨rfl, e⟩ := r1.isInst
  · skip
    obtain ⟨es, k, hl, E⟩ := (sh.rel dx _ ha).isSdict
    · skip
      refine set_plain (O.kin.keeps sh.base) (inst_at e hl) hs (osa_mine O (s := { s with toks := s.toks + 1 }) sh e ha hz hp ht hh r2 fun h' tk sh' st => ?_)
      exact ⟨_, sh', Stp.tok.trans st, h⟩

theorem GM_inst (O : c.Ok) {x C dx f : Addr} {kvs : List (Str × MV)} {name : Str} {K : Value → List MV → Prop} (ha : H dx = some (.sdict kvs)) (hn : kvs.lookup name = none)
    (hg : plainGet c.K C name = true) (hf : findIn c.K (.ref C) name = some (some (.ref f))) (ht : isFn c.K (.ref f) = true) (h : K (.ref f) [.inst x C dx]) : GM c n name (.inst x C dx) H K := by
  intro A s v pl R sh r
  obtain ⟨rfl, e⟩ := r.isInst
  · skip
    obtain ⟨es, k, hl, E⟩ := (sh.rel dx _ ha).isSdict
    · skip
      exact method_fn (O.kin.keeps sh.base) (inst_at e hl) (plainGet_of hg).1 (plainGet_of hg).2 hf (beq_iff_eq.mp ht) (by show (lookIn name (dictOf es k)).map _ = _; rw [lookIn_dict, E.findNone hn]; rfl) ⟨rfl, _, .cons (.inst e) .nil, h⟩
end
end
section
-- M6c
section
variable {c : Cx} {n : Nat} {env : Env} {m : Loc} {H : HV}

theorem post_ext {s : Shared} {h' : Heap} {tk : Nat} {v : Value} {d : MV} {K : MV → HV → Prop} (sh : Sh c H s.heap) (k : ∀ a o, s.heap.get? a = some o → h'.get? a = some o) (vr : VR c h' v d) (h : K d H) : Post c H s K v { s with heap := h', toks := tk } :=
  ⟨d, H, sh.ext k, vr, Stp.ext k, h⟩

theorem WC_len_list {a : Addr} {ds : List MV} {K : MV → HV → Prop} (ha : H a = some (.list ds)) (hz : ds.length ≤ 10000) (h : K (.int ds.length) H) : WC c n (.builtin "len") [.ref a] H K := by
  intro A s vs R sh V
  obtain ⟨_, rfl, r⟩ := V.isOne; obtain rfl := r.isRef
  ·             skip
                obtain ⟨_, hl, W⟩ := (sh.rel a _ ha).isList
                · skip
                  obtain ⟨k, hl⟩ := hl
                  have e := W.length
                  refine PyProof.Rows.len_list ⟨_, hl, rfl, k, rfl⟩ (by rw [List.size_toArray]; first | lia | omega) ?_
                  rw [List.size_toArray, e]
                  exact ⟨_, H, sh, .int _ _, Stp.tok, h⟩
theorem WC_len_tup {ds : List MV} {K : MV → HV → Prop} (hz : ds.length ≤ 10000) (h : K (.int ds.length) H) : WC c n (.builtin "len") [.tup ds] H K := by
  intro A s vs R sh V
  obtain ⟨_, rfl, r⟩ := V.isOne
  · skip
    obtain ⟨_, _, rfl, ht, W⟩ := r.isTup
    · skip
      have e := W.length
      refine PyProof.Rows.len_tuple ht (by rw [List.size_toArray]; first | lia | omega) ?_
      rw [List.size_toArray, e]
      exact ⟨_, H, sh, .int _ _, Stp.tok, h⟩
theorem WC_max {a b : Int} {K : MV → HV → Prop} (h : K (.int (if b > a then b else a)) H) : WC c n (.builtin "max") [.int a, .int b] H K := by
  intro A s vs R sh V
  obtain ⟨_, _, rfl, r, r2⟩ := V.isTwo; obtain ⟨_, rfl⟩ := r.isInt; obtain ⟨_, rfl⟩ := r2.isInt
  ·   skip
      refine max_two_ints R.handled fun h' tk k => ?_
      split <;> rename_i q
      · rw [if_pos q] at h; exact post_ext sh k (.int _ _) h
      · rw [if_neg q] at h; exact post_ext sh k (.int _ _) h
theorem WC_min {a b : Int} {K : MV → HV → Prop} (h : K (.int (if b < a then b else a)) H) : WC c n (.builtin "min") [.int a, .int b] H K := by
  intro A s vs R sh V
  obtain ⟨_, _, rfl, r, r2⟩ := V.isTwo; obtain ⟨_, rfl⟩ := r.isInt; obtain ⟨_, rfl⟩ := r2.isInt
  ·   skip
      refine min_two_ints R.handled fun h' tk k => ?_
      split <;> rename_i q
      · rw [if_pos q] at h; exact post_ext sh k (.int _ _) h
      · rw [if_neg q] at h; exact post_ext sh k (.int _ _) h
theorem WC_abs {a : Int} {K : MV → HV → Prop} (h : K (.int (if a < 0 then -a else a)) H) : WC c n (.builtin "abs") [.int a] H K := by
  intro A s vs R sh V
  obtain ⟨_, rfl, r⟩ := V.isOne; obtain ⟨_, rfl⟩ := r.isInt
  · skip
    exact call_abs_int fun u tk => ⟨_, H, sh, .int _ _, Stp.tok, h⟩
theorem WC_tuple_list {a : Addr} {ds : List MV} {K : MV → HV → Prop} (ha : H a = some (.list ds)) (hz : ds.length ≤ 10000) (h : K (.tup ds) H) : WC c n (.type "tuple") [.ref a] H K := by
  intro A s vs R sh V
  obtain ⟨_, rfl, r⟩ := V.isOne; obtain rfl := r.isRef
  ·             skip
                obtain ⟨ws, hl, W⟩ := (sh.rel a _ ha).isList
                · skip
                  obtain ⟨k, hl⟩ := hl
                  have e := W.length
                  refine call_tuple_list ⟨_, hl, rfl, k, rfl⟩ (fun h' kp => ?_) (by rw [List.size_toArray, sizeLine_eq]; first | lia | omega)
                  have k2 : ∀ b o, s.heap.get? b = some o → (h'.push { cls := .type "tuple", data := .seq ws.toArray }).get? b = some o := fun b o e => Heap.get?_push_of_some _ (kp b o e)
                  exact post_ext (tk := s.toks) sh k2 (.tup ⟨_, Heap.get?_push_size _ rfl, rfl, 0, rfl⟩ (W.mono fun a o e _ => k2 a o e)) h
theorem WC_tuple_tup {ds : List MV} {K : MV → HV → Prop} (h : K (.tup ds) H) : WC c n (.type "tuple") [.tup ds] H K := by
  intro A s vs R sh V
  obtain ⟨_, rfl, r⟩ := V.isOne
  · skip
    obtain ⟨_, _, rfl, ht, W⟩ := r.isTup
    · exact PyProof.Rows.call_tuple_tup ht ⟨_, H, sh, .tup ht W, Stp.refl, h⟩
theorem WC_list_list {a : Addr} {ds : List MV} {K : MV → HV → Prop} (ha : H a = some (.list ds)) (hz : ds.length ≤ 10000) (h : ∀ l, H l = none → c.B.get? l = none → K (.ref l) (H.set l (.list ds))) : WC c n (.type "list") [.ref a] H K := by
  intro A s vs R sh V
  obtain ⟨_, rfl, r⟩ := V.isOne; obtain rfl := r.isRef
  ·             skip
                obtain ⟨ws, hl, W⟩ := (sh.rel a _ ha).isList
                · skip
                  obtain ⟨k, hl⟩ := hl
                  have e := W.length
                  refine call_list_seq a (.inl rfl) hl rfl rfl (fun h' c' kp hn => ?_) (by rw [List.size_toArray, sizeLine_eq]; first | lia | omega)
                  exact ⟨.ref _, _, sh.add get_size kp (.list ⟨c', hn⟩ (W.mono fun a o e _ => kp a o e)), .ref _, Stp.add (tk := s.toks) get_size kp, h _ (sh.fresh get_size) (newB sh get_size)⟩
theorem WC_range1 {a : Int} {K : MV → HV → Prop} (h : K (.rng 0 a) H) : WC c n (.type "range") [.int a] H K := by
  intro A s vs R sh V
  obtain ⟨_, rfl, r⟩ := V.isOne; obtain ⟨_, rfl⟩ := r.isInt
  ·             skip
                exact call_range_1 (post_ext sh push_keep (.rng (t := s.toks) (v := s.toks + 1) (Heap.get?_push_size _ rfl)) h)
theorem WC_range2 {a b : Int} {K : MV → HV → Prop} (h : K (.rng a b) H) : WC c n (.type "range") [.int a, .int b] H K := by
  intro A s vs R sh V
  obtain ⟨_, _, rfl, r, r2⟩ := V.isTwo; obtain ⟨_, rfl⟩ := r.isInt; obtain ⟨_, rfl⟩ := r2.isInt
  ·                skip
                   exact call_range_2 (post_ext sh push_keep (.rng (v := s.toks) (Heap.get?_push_size _ rfl)) h)

-- lists' methods
theorem GM_list {a : Addr} {ds : List MV} {name : Str} {id : String} {K : Value → List MV → Prop} (ha : H a = some (.list ds)) (S : Slot "list" name id) (ht : typeOf (.builtin id) = pure (.type "method_descriptor")) (h : K (.builtin id) [.ref a]) : GM c n name (.ref a) H K := by
  intro A s v pl R sh r
  obtain rfl := r.isRef
  obtain ⟨_, hl, W⟩ := (sh.rel a _ ha).isList
  · skip
    obtain ⟨k, hl⟩ := hl
    exact getMethod_builtin ⟨_, hl, rfl⟩ PySem.F.plainAttrs_list S ht (fun b e => by cases e; exact ⟨_, hl, rfl⟩) ⟨rfl, _, .cons (.ref _) .nil, h⟩
theorem WC_append {a : Addr} {ds : List MV} {d : MV} {K : MV → HV → Prop} (ha : H a = some (.list ds)) (hz : ds.length ≤ 10000) (h : K .none (H.set a (.list (ds ++ [d])))) : WC c n (.builtin "list.append") [.ref a, d] H K := by
  intro A s vs R sh V
  obtain ⟨_, x, rfl, r, r2⟩ := V.isTwo; obtain rfl := r.isRef
  ·   skip
      obtain ⟨ws, hl, W⟩ := (sh.rel a _ ha).isList
      · skip
        have e := W.length
        refine wpAny_list_append_plain hl (fun h' hl' hs => ?_) (by rw [List.size_toArray, sizeLine_eq]; first | lia | omega)
        rw [show ws.toArray.push x = (ws ++ [x]).toArray by simp] at hl'
        exact list_postV (tk := s.toks) sh ha hl' hs (W.append (.one r2)) .none h
theorem WC_pop {a : Addr} {ds : List MV} {d : MV} {K : MV → HV → Prop} (ha : H a = some (.list (ds ++ [d]))) (hz : ds.length ≤ 10000) (h : K d (H.set a (.list ds))) : WC c n (.builtin "list.pop") [.ref a] H K := by
  intro A s vs R sh V
  obtain ⟨_, rfl, r⟩ := V.isOne; obtain rfl := r.isRef
  · skip
    obtain ⟨ws, hl, W⟩ := (sh.rel a _ ha).isList
    · skip
      obtain ⟨k, hl⟩ := hl
      have e := W.length
      rw [List.length_append, List.length_singleton] at e
      obtain ⟨y, hy, ry⟩ := W.get (k := ds.length) (d := d) (by simp)
      have e1 : ws.toArray.size - 1 = ds.length := by rw [List.size_toArray]; first | lia | omega
      refine call_meets PySem.F.slot_list_pop ⟨_, hl, rfl⟩ PySem.F.entry_list_pop (PySem.F.args_list_pop_1 _) (PySem.MeetsSeq.list_pop_last a ws.toArray k y (by rw [e1]; simpa using hy) (by rw [List.size_toArray, sizeLine_eq]; first | lia | omega)) ⟨hl, ?_⟩
      have hd : ws = ws.take ds.length ++ [y] := by
        have hlt : ds.length < ws.length := by first | lia | omega
        conv => lhs; rw [← List.take_append_drop ds.length ws]
        congr 1
        rw [List.drop_eq_getElem_cons hlt]
        have : ws[ds.length] = y := by
          rw [List.getElem?_eq_getElem hlt] at hy; exact Option.some.inj hy
        rw [this, List.drop_eq_nil_of_le (by first | lia | omega)]
      have he : ws.toArray.eraseIdxIfInBounds (ws.toArray.size - 1) = (ws.take ds.length).toArray := by
        rw [e1]
        apply Array.ext'
        rw [Array.toList_eraseIdxIfInBounds]
        show ws.eraseIdx ds.length = _
        rw [List.eraseIdx_eq_take_drop_succ]
        rw [List.drop_eq_nil_of_le (by first | lia | omega)]
        simp
      have hW : VRs c s.heap (ws.take ds.length) ds := by
        have := W.take ds.length
        simpa using this
      have hl' : (s.heap.update a (Obj.mapSeq fun xs => xs.eraseIdxIfInBounds (ws.toArray.size - 1))).PlainList a (ws.take ds.length).toArray := by
        refine ⟨?_, (Heap.get?_update_self _ hl (by rfl)).trans ?_⟩
        rotate_left
        · show some (Obj.mapSeq (fun xs => xs.eraseIdxIfInBounds (ws.toArray.size - 1)) _) = _
          unfold Obj.mapSeq
          dsimp only
          rw [he]
      exact list_postV (tk := s.toks) sh ha hl' (Heap.SameBut.update ..) hW ry h
theorem WC_extend {a b : Addr} {ds es : List MV} {K : MV → HV → Prop} (ha : H a = some (.list ds)) (hb : H b = some (.list es)) (hz : ds.length + es.length ≤ 10000) (h : K .none (H.set a (.list (ds ++ es)))) : WC c n (.builtin "list.extend") [.ref a, .ref b] H K := by
  intro A s vs R sh V
  obtain ⟨_, _, rfl, r, r2⟩ := V.isTwo; obtain rfl := r.isRef; obtain rfl := r2.isRef
  ·   skip
      obtain ⟨ws, hl, W⟩ := (sh.rel a _ ha).isList
      · skip
        cases sh.rel b _ hb with
        | @list us _ hl2 U =>
          obtain ⟨k, hl⟩ := hl
          obtain ⟨k2, hl2⟩ := hl2
          have e := W.length
          have e2 := U.length
          refine call_meets PySem.F.slot_list_extend ⟨_, hl, rfl⟩ PySem.F.entry_list_extend (PySem.F.args_list_extend_2 _ _) (AutoSeq1.list_extend_list_list_0 a ws.toArray k b us.toArray k2 (by
            intro z
            have := (Bool.and_eq_true_iff.mp z).2
            unfold Builtin.List.listTooLong at this
            rw [List.size_toArray, List.size_toArray] at this
            simp [sizeLine_eq] at this; first | lia | omega) (by rw [List.size_toArray, sizeLine_eq]; first | lia | omega) (by rw [List.size_toArray, List.size_toArray, sizeLine_eq]; first | lia | omega)) ⟨hl, hl2, ?_⟩
          have hl' : (s.heap.update a (Obj.mapSeq fun x => x ++ us.toArray)).PlainList a (ws ++ us).toArray := by
            refine ⟨?_, (Heap.get?_update_self _ hl (by rfl)).trans ?_⟩
            rotate_left
            · show some (Obj.mapSeq (fun x => x ++ us.toArray) _) = _
              unfold Obj.mapSeq
              dsimp only
              rw [show ws.toArray ++ us.toArray = (ws ++ us).toArray by simp]
          exact list_postV (tk := s.toks) sh ha hl' (Heap.SameBut.update ..) (W.append U) .none h
end
end
section
-- M6d
section
variable {c : Cx} {n : Nat} {env : Env} {m : Loc} {H : HV}

-- membership
theorem W2_inL {a : Addr} {ds : List MV} {xs : List PyData} {d : MV} {x : PyData} {K : MV → HV → Prop} (ha : H a = some (.list ds)) (hds : DRs H ds xs) (hd : DR H d x) (h1 : PyData.canLayAll0 xs = true) (h2 : x.canLay0 = true) (h3 : x.depth ≤ 50)
    (h : K (.bool (xs.any fun y => PyData.eqv y x)) H) : W2 c n (compareOp .In) d (.ref a) H K := by
  intro A s v u R sh r1 r2
  obtain ⟨bs, q1⟩ := hd.reads sh r1
  obtain ⟨as, q2⟩ := (DR.list ha hds).reads sh r2
  have := R.u64
  exact SeqAt.in_list_reads q2 q1 h1 h2 (by have := Nat.min_le_right (PyData.depthAll xs) x.depth; first | lia | omega) ⟨_, H, sh, .bool _, Stp.refl, h⟩
theorem W2_ninL {a : Addr} {ds : List MV} {xs : List PyData} {d : MV} {x : PyData} {K : MV → HV → Prop} (ha : H a = some (.list ds)) (hds : DRs H ds xs) (hd : DR H d x) (h1 : PyData.canLayAll0 xs = true) (h2 : x.canLay0 = true) (h3 : x.depth ≤ 50)
    (h : K (.bool (!xs.any fun y => PyData.eqv y x)) H) : W2 c n (compareOp .NotIn) d (.ref a) H K := by
  intro A s v u R sh r1 r2
  obtain ⟨bs, q1⟩ := hd.reads sh r1
  obtain ⟨as, q2⟩ := (DR.list ha hds).reads sh r2
  have := R.u64
  exact SeqAt.notIn_list_reads q2 q1 h1 h2 (by have := Nat.min_le_right (PyData.depthAll xs) x.depth; first | lia | omega) ⟨_, H, sh, .bool _, Stp.refl, h⟩

-- lists of ints
noncomputable def intsM (ns : List Int) : List MV := ns.map MV.int
theorem DRs_ints {ns : List Int} : DRs H (intsM ns) (ns.map PyData.int) := by
  induction ns with
  | nil => exact .nil
  | cons a l ih => exact .cons (.int a) ih
theorem layInts {ns : List Int} : PyData.canLayAll0 (ns.map PyData.int) = true := by
  induction ns with
  | nil => rfl
  | cons a l ih => simp only [List.map_cons, PyData.canLayAll0, PyData.canLay0, ih, Bool.and_self]
theorem anyInts {ns : List Int} {k : Int} : (ns.map PyData.int).any (fun y => PyData.eqv y (.int k)) = ns.contains k := by
  induction ns with
  | nil => rfl
  | cons a l ih =>
    rw [List.map_cons, List.any_cons, ih, List.contains_cons]
    have : PyData.eqv (.int a) (.int k) = (a == k) := by simp only [PyData.eqv]
    rw [this, Bool.beq_comm]
theorem W2_inI {a : Addr} {ns : List Int} {k : Int} {K : MV → HV → Prop} (ha : H a = some (.list (intsM ns))) (h : K (.bool (ns.contains k)) H) : W2 c n (compareOp .In) (.int k) (.ref a) H K :=
  W2_inL ha DRs_ints (.int k) layInts (by simp only [PyData.canLay0]) (by simp only [PyData.depth]; first | lia | omega) (by rw [anyInts]; exact h)
theorem W2_ninI {a : Addr} {ns : List Int} {k : Int} {K : MV → HV → Prop} (ha : H a = some (.list (intsM ns))) (h : K (.bool (!ns.contains k)) H) : W2 c n (compareOp .NotIn) (.int k) (.ref a) H K :=
  W2_ninL ha DRs_ints (.int k) layInts (by simp only [PyData.canLay0]) (by simp only [PyData.depth]; first | lia | omega) (by rw [anyInts]; exact h)
theorem VRs_ints {h : Heap} {ns : List Int} {vs : List Value} (V : VRs c h vs (intsM ns)) : ∃ xs : Array (Int × Tok), vs.toArray = intItems xs ∧ xs.toList.map (·.1) = ns := by
  induction ns generalizing vs with
  | nil => obtain rfl := V.isNil; exact ⟨#[], by simp [intItems], rfl⟩
  | cons k ns ih =>
    obtain ⟨_, _, rfl, r, W⟩ := VRs.isCons V
    obtain ⟨t, rfl⟩ := r.isInt
    obtain ⟨xs, e1, e2⟩ := ih W
    refine ⟨((k, t) :: xs.toList).toArray, ?_, by simp [e2]⟩
    apply Array.ext'
    have : (intItems xs).toList = xs.toList.map fun p => Value.int p.1 p.2 := by simp [intItems]
    rw [← e1] at this
    simp [intItems] at this ⊢
    exact this
theorem WC_sum {a : Addr} {ns : List Int} {K : MV → HV → Prop} (ha : H a = some (.list (intsM ns))) (hz : ns.length ≤ 100) (hb : ∀ x ∈ ns, 0 ≤ x ∧ x ≤ 1000003) (h : K (.int ns.sum) H) : WC c n (.builtin "sum") [.ref a] H K := by
  intro A s vs R sh V
  obtain ⟨_, rfl, r⟩ := V.isOne; obtain rfl := r.isRef
  · skip
    obtain ⟨ws, hl, W⟩ := (sh.rel a _ ha).isList
    · skip
      obtain ⟨k, hl⟩ := hl
      obtain ⟨xs, e1, e2⟩ := VRs_ints W
      have hsz : xs.size = ns.length := by rw [← e2]; simp
      have bnd : ∀ j, 0 ≤ (ns.take j).sum ∧ (ns.take j).sum ≤ 1000003 * (min j ns.length : Nat) := by
        intro j
        have : ∀ l : List Int, (∀ x ∈ l, 0 ≤ x ∧ x ≤ 1000003) → 0 ≤ l.sum ∧ l.sum ≤ 1000003 * (l.length : Int) := by
          intro l
          induction l with
          | nil => intro _; simp
          | cons y l ih =>
            intro hl
            have h1 := hl y (by simp)
            have h2 := ih fun x hx => hl x (by simp [hx])
            simp only [List.sum_cons, List.length_cons]
            first | lia | omega
        have := this (ns.take j) fun x hx => hb x (List.mem_of_mem_take hx)
        rw [List.length_take] at this
        exact this
      refine sum_intList (xs := xs) R.handled ⟨_, hl, rfl, k, by rw [e1]⟩ (fun j hj => ?_) fun h' tk t' kp => ?_
      · rw [preSum_eq, e2]
        have b1 := bnd (j + 1)
        have hn : numAt xs j = ns.getD j 0 := by rw [← e2]; simp [numAt, List.getD]
        have : 0 ≤ ns.getD j 0 ∧ ns.getD j 0 ≤ 1000003 := by
          have hj' : j < ns.length := by first | lia | omega
          rw [List.getD_eq_getElem?_getD, List.getElem?_eq_getElem hj']
          exact hb _ (List.getElem_mem hj')
        rw [hn]
        have hm : (min (j + 1) ns.length : Nat) ≤ 100 := by first | lia | omega
        refine ⟨⟨by first | lia | omega, by first | lia | omega⟩, ⟨by first | lia | omega, ?_⟩⟩
        first | lia | omega
      · rw [preSum_eq, e2, hsz, List.take_length]
        exact post_ext sh kp (.int _ _) h

-- slices
theorem slice_rest {s : Shared} {K : MV → HV → Prop} {vs : List Value} {ds : List MV} {vl vu : Value} (sh : Sh c H s.heap) (V : VRs c s.heap vs ds) (h : ∀ l, H l = none → c.B.get? l = none → K (.ref l) (H.set l (.list ds))) :
    Post c H s K (.ref (s.heap.objs.size + 1)) { s with heap := (s.heap.push { cls := .type "slice", data := .fields #[vl, vu, .none] }).push { cls := .type "list", data := .seq vs.toArray } } := by
  have sh' : Sh c H (s.heap.push { cls := .type "slice", data := .fields #[vl, vu, .none] }) := sh.ext push_keep
  have st : Stp nw H H s { s with heap := s.heap.push { cls := .type "slice", data := .fields #[vl, vu, .none] } } := Stp.ext (tk := s.toks) push_keep
  have := push_list (s := { s with heap := s.heap.push { cls := .type "slice", data := .fields #[vl, vu, .none] } }) (tk := s.toks) (K := K) sh' (st.vrs sh V) h
  rw [show (s.heap.objs.size + 1) = (s.heap.push { cls := .type "slice", data := .fields #[vl, vu, .none] }).objs.size from (Heap.size_push ..).symm]
  exact this.after st
/-- a list of the view's or of the ground's -/
inductive LRef (c : Cx) (H : HV) : MV → List MV → Prop
  | view {a ds} : H a = some (.list ds) → LRef c H (.ref a) ds
  | base {ds} : LRef c H (.flist ds) ds
theorem LRef.at {d : MV} {ds : List MV} (L : LRef c H d ds) {h : Heap} (sh : Sh c H h) {v : Value} (r : VR c h v d) : ∃ a vs, v = .ref a ∧ h.IsList a vs.toArray ∧ VRs c h vs ds := by
  cases L with
  | view e =>
    obtain rfl := r.isRef
    obtain ⟨_, hl, W⟩ := (sh.rel _ _ e).isList
    exact ⟨_, _, rfl, hl.isList, W⟩
  | base =>
    obtain ⟨_, _, _, _, rfl, e, b, hc, hd, W⟩ := r.isFl
    exact ⟨_, _, rfl, ⟨_, e, hc, _, hd⟩, W⟩
theorem LRef.mono {d : MV} {ds : List MV} {H' : HV} (L : LRef c H d ds) (k : ∀ a o, H a = some o → H' a = some o) : LRef c H' d ds := by
  cases L with
  | view e => exact .view (k _ _ e)
  | base => exact .base
theorem slice_tail {value slice : Expr} {s : Shared} {A : Around} {l : Addr} {vs : List Value} {vl vu : Value} {lo hi : Option Int} {Q : Value → Shared → Prop} (hl : s.heap.IsList l vs.toArray) (pl : IsPart vl lo) (pu : IsPart vu hi) (hz : vs.length ≤ 10000)
    (h : Q (.ref (s.heap.objs.size + 1)) { s with heap := (s.heap.push { cls := .type "slice", data := .fields #[vl, vu, .none] }).push { cls := .type "list", data := .seq (slicePick vs.toArray lo hi none) } })
    (hs : ∀ a b, subscripted slice false (.ref a) (.ref b) = operate [.ref b, .ref a] (getItem (.ref a) (.ref b))) :
    wpAny (model c.prog c.w) A (subscriptTail value slice (.ref l) (.ref s.heap.objs.size)) Q NoE { s with heap := s.heap.push { cls := .type "slice", data := .fields #[vl, vu, .none] } } := by
  refine tail_any (T := "list") (hl.push _).typeIs list_getitem_lookup (wpAny_getItem_list_slice (hl.push _) (Heap.IsSliceOf.new ..) pl pu .none (by simp) ?_ (by rw [List.size_toArray, sizeLine_eq]; first | lia | omega)) (hs _ _)
  show Q (.ref (s.heap.push _).objs.size) _
  rw [Heap.size_push]
  exact h
theorem WE_slice_to {value up : Expr} {p pos : Pos} {K : MV → HV → Prop} (h : WE c n env value m H fun d H₁ => WE c n env up m H₁ fun e H₂ => ∃ ds b, LRef c H₂ d ds ∧ ds.length ≤ 10000 ∧ e = .int b ∧ 0 ≤ b ∧ ∀ l, H₂ l = none → c.B.get? l = none → K (.ref l) (H₂.set l (.list (ds.take b.toNat))))
    (hs : ∀ a b, subscripted (.Slice none (some up) none p) false (.ref a) (.ref b) = operate [.ref b, .ref a] (getItem (.ref a) (.ref b)) := by intro _ _; with_unfolding_all rfl) : WE c n env (.Subscript value (.Slice none (some up) none p) pos) m H K := by
  intro A s R S
  refine Subscript_ (mono1 (h A s R S) ?_)
  rintro v s₁ ⟨d, H₁, sh₁, vr₁, st₁, k₁⟩
  refine wpAny_Slice (wpAny_evalPart_none (wpAny_evalPart_some (mono1 (k₁ A s₁ R (S.step st₁ sh₁)) ?_)))
  rintro u s₂ ⟨e, H₂, sh₂, vr₂, st₂, ds, b, L, hz, rfl, hb, k₂⟩
  obtain ⟨_, rfl⟩ := vr₂.isInt
  obtain ⟨a, vs, rfl, hl, V⟩ := L.at sh₂ (st₂.vr sh₁ vr₁)
  obtain ⟨j, rfl⟩ := Int.eq_ofNat_of_zero_le hb
  refine wpAny_evalPart_none (slice_tail hl .none (.int _ _) (by rw [V.length]; exact hz) ?_ hs)
  rw [slicePick_upto']
  exact (slice_rest sh₂ (V.take j) k₂).after (st₁.trans st₂)
theorem WE_slice_from {value lo : Expr} {p pos : Pos} {K : MV → HV → Prop} (h : WE c n env value m H fun d H₁ => WE c n env lo m H₁ fun e H₂ => ∃ ds b, LRef c H₂ d ds ∧ ds.length ≤ 10000 ∧ e = .int b ∧ 0 ≤ b ∧ ∀ l, H₂ l = none → c.B.get? l = none → K (.ref l) (H₂.set l (.list (ds.drop b.toNat))))
    (hs : ∀ a b, subscripted (.Slice (some lo) none none p) false (.ref a) (.ref b) = operate [.ref b, .ref a] (getItem (.ref a) (.ref b)) := by intro _ _; with_unfolding_all rfl) : WE c n env (.Subscript value (.Slice (some lo) none none p) pos) m H K := by
  intro A s R S
  refine Subscript_ (mono1 (h A s R S) ?_)
  rintro v s₁ ⟨d, H₁, sh₁, vr₁, st₁, k₁⟩
  refine wpAny_Slice (wpAny_evalPart_some (mono1 (k₁ A s₁ R (S.step st₁ sh₁)) ?_))
  rintro u s₂ ⟨e, H₂, sh₂, vr₂, st₂, ds, b, L, hz, rfl, hb, k₂⟩
  obtain ⟨_, rfl⟩ := vr₂.isInt
  obtain ⟨a, vs, rfl, hl, V⟩ := L.at sh₂ (st₂.vr sh₁ vr₁)
  obtain ⟨j, rfl⟩ := Int.eq_ofNat_of_zero_le hb
  refine wpAny_evalPart_none (wpAny_evalPart_none (slice_tail hl (.int _ _) .none (by rw [V.length]; exact hz) ?_ hs))
  rw [slicePick_from']
  exact (slice_rest sh₂ (V.drop j) k₂).after (st₁.trans st₂)

-- stores
theorem W3U_setLneg {a : Addr} {ds : List MV} {d : MV} {K : HV → Prop} (ha : H a = some (.list ds)) (h0 : 0 < ds.length) (hz : ds.length ≤ 10000) (h : K (H.set a (.list (ds.set (ds.length - 1) d)))) : W3U c n setItem (.ref a) (.int (-1)) d H K := by
  intro A s v u z R sh r1 r2 r3; obtain rfl := r1.isRef; obtain ⟨_, rfl⟩ := r2.isInt
  obtain ⟨vs, hl, V⟩ := (sh.rel a _ ha).isList
  · skip
    have e := V.length
    refine list_neg hl (by rw [List.size_toArray]; first | lia | omega) (by rw [List.size_toArray]; first | lia | omega) fun h' hl' hs => ?_
    rw [show vs.toArray.setIfInBounds (vs.toArray.size - 1) z = (vs.set (ds.length - 1) z).toArray by simp [e]] at hl'
    exact list_post (tk := s.toks) sh ha hl' hs (V.set _ r3) h
theorem PR.any {Ky : Type} [DecidableEq Ky] {h : Heap} {vs : List (Ky × Value)} {kvs : List (Ky × MV)} (P : PR c h vs kvs) (k : Ky) : vs.any (fun kv => decide (kv.1 = k)) = kvs.any (fun kv => decide (kv.1 = k)) := by
  induction P with
  | nil => rfl
  | cons _ _ ih => rw [List.any_cons, List.any_cons, ih]
noncomputable def storedM {Ky : Type} [DecidableEq Ky] (kvs : List (Ky × MV)) (k : Ky) (d : MV) : List (Ky × MV) :=
  if kvs.any (fun kv => decide (kv.1 = k)) then kvs.map (fun kv => if kv.1 = k then (kv.1, d) else kv) else kvs ++ [(k, d)]
theorem PR.append {Ky : Type} {h : Heap} {vs ws : List (Ky × Value)} {ds es : List (Ky × MV)} (P : PR c h vs ds) (Q : PR c h ws es) : PR c h (vs ++ ws) (ds ++ es) := by
  induction P with
  | nil => exact Q
  | cons r _ ih => exact .cons r ih
theorem PR.stored {Ky : Type} [DecidableEq Ky] {h : Heap} {vs : List (Ky × Value)} {kvs : List (Ky × MV)} (P : PR c h vs kvs) {k : Ky} {v : Value} {d : MV} (r : VR c h v d) : PR c h (PySem.stored vs k v) (storedM kvs k d) := by
  unfold PySem.stored storedM
  rw [P.any k]
  split
  · rename_i q; clear q
    induction P with
    | nil => exact .nil
    | @cons y u e vs ds r' P ih =>
      rw [List.map_cons, List.map_cons]
      dsimp only
      split
      · exact .cons r ih
      · exact .cons r' ih
  · exact P.append (.cons r .nil)
theorem PR.length {Ky : Type} {h : Heap} {vs : List (Ky × Value)} {kvs : List (Ky × MV)} (P : PR c h vs kvs) : vs.length = kvs.length := by
  induction P with
  | nil => rfl
  | cons _ _ ih => simp [ih]
theorem W3U_setS {a : Addr} {kvs : List (Str × MV)} {x : Str} {d : MV} {K : HV → Prop} (ha : H a = some (.smap kvs)) (hz : kvs.length ≤ 1000) (h : K (H.set a (.smap (storedM kvs x d)))) : W3U c n setItem (.ref a) (.str x) d H K := by
  intro A s v u z R sh r1 r2 r3; obtain rfl := r1.isRef; obtain ⟨_, rfl⟩ := r2.isStr
  obtain ⟨_, hl, P⟩ := (sh.rel a _ ha).isSmap
  · skip
    refine wpAny_setItem_pairs (strKind_is c.prog c.w x _) hl (fun h' hl' hs => ?_) (by rw [P.length, sizeLine_eq]; first | lia | omega)
    have kn : ∀ b ob, b ≠ a → s.heap.get? b = some ob → h'.get? b = some ob := fun b ob q eb => hs.extBut b ob q eb
    exact ⟨_, sh.upd ha kn fun ki => .smap hl' ((P.stored r3).mono ki), Stp.upd ha kn fun ob _ => (let ⟨o, es, ep, e, _⟩ := hl'; ⟨o, e⟩), h⟩
theorem W3U_setI {a : Addr} {kvs : List (Int × MV)} {x : Int} {d : MV} {K : HV → Prop} (ha : H a = some (.imap kvs)) (hz : kvs.length ≤ 1000) (h : K (H.set a (.imap (storedM kvs x d)))) : W3U c n setItem (.ref a) (.int x) d H K := by
  intro A s v u z R sh r1 r2 r3; obtain rfl := r1.isRef; obtain ⟨_, rfl⟩ := r2.isInt
  obtain ⟨_, hl, P⟩ := (sh.rel a _ ha).isImap
  · skip
    refine wpAny_setItem_pairs (intKind_is c.prog c.w x _) hl (fun h' hl' hs => ?_) (by rw [P.length, sizeLine_eq]; first | lia | omega)
    have kn : ∀ b ob, b ≠ a → s.heap.get? b = some ob → h'.get? b = some ob := fun b ob q eb => hs.extBut b ob q eb
    exact ⟨_, sh.upd ha kn fun ki => .imap hl' ((P.stored r3).mono ki), Stp.upd ha kn fun ob _ => (let ⟨o, es, ep, e, _⟩ := hl'; ⟨o, e⟩), h⟩

-- dicts
theorem dict_empty {Ky : Type} [DecidableEq Ky] {knd : KeyKind c.prog c.w Ky} {h : Heap} {a : Addr} (e : h.get? a = some { cls := .type "dict", data := .dict #[] }) : h.DictOf knd a [] :=
  ⟨_, _, _, e, ⟨rfl, rfl, rfl⟩, rfl, fun e he => by simp at he, .nil, by simp⟩
theorem WE_Dict0 {pos : Pos} {K : MV → HV → Prop} (h : ∀ a, H a = none → c.B.get? a = none → K (.ref a) (H.set a (.imap []))) : WE c n env (.Dict [] [] pos) m H K := by
  intro A s R S
  exact wpAny_Dict_empty ⟨_, _, S.sh.add get_size push_keep (.imap (dict_empty (Heap.get?_push_size _ rfl)) .nil), .ref _, Stp.add (tk := s.toks) get_size push_keep, h _ (S.sh.fresh get_size) (newB S.sh get_size)⟩
end
end
section
-- M7
section
variable {c : Cx} {n : Nat} {env : Env} {m : Loc} {H : HV}

-- tests
noncomputable def WTs (c : Cx) (n : Nat) (env : Env) (ifs : List Expr) (m : Loc) (H : HV) (K : Bool → HV → Prop) : Prop :=
  ∀ A s, Room n A → St c env m H s → wpAny (model c.prog c.w) A (forIn ifs true fun e r => if r = true then do let ok ← isTrue e env (eval e env); pure (ForInStep.yield ok) else pure (ForInStep.yield r)) (PostB c H s K) NoE s
theorem WTs_nil {K : Bool → HV → Prop} (h : K true H) : WTs c n env [] m H K := fun A s R S => wpAny_tests_nil ⟨H, S.sh, Stp.refl, h⟩
theorem WTs_one {e : Expr} {K : Bool → HV → Prop} (h : WB c n env e m H K) : WTs c n env [e] m H K := fun A s R S => wpAny_tests_one (h A s R S)

/-- a comprehension's turns -/
noncomputable def WCp (c : Cx) (n : Nat) (env : Env) (t : Expr) (ifs : List Expr) (elt : Expr) (need : HV → Prop) (m : Loc) : List MV → HV → List MV → (List MV → HV → Prop) → Prop
  | [], H, acc, K => K acc H
  | d :: ds, H, acc, K => WA c n env (tn 3 t) t d m H fun m₂ H₂ => (∀ x d, m.lookup x = some d → m₂.lookup x = some d) ∧ WTs c n env ifs m₂ H₂ fun b H₃ =>
      if b then WE c n env elt m₂ H₃ fun e H₄ => acc.length ≤ 10000 ∧ need H₄ ∧ WCp c n env t ifs elt need m ds H₄ (acc ++ [e]) K
      else need H₃ ∧ WCp c n env t ifs elt need m ds H₃ acc K
theorem WCp.mono {t : Expr} {ifs : List Expr} {elt : Expr} {need : HV → Prop} {K K' : List MV → HV → Prop} (k : ∀ acc H, K acc H → K' acc H) : ∀ {ds : List MV} {H : HV} {acc : List MV}, WCp c n env t ifs elt need m ds H acc K → WCp c n env t ifs elt need m ds H acc K'
  | [], H, acc, h => k _ _ h
  | d :: ds, H, acc, h => by
    intro A s v R S r
    refine mono1 (h A s v R S r) ?_
    rintro _ s' ⟨m', H', S', st, k1, k2⟩
    refine ⟨m', H', S', st, k1, fun A s R S => mono1 (k2 A s R S) ?_⟩
    rintro b s₂ ⟨H₂, sh₂, st₂, k3⟩
    refine ⟨H₂, sh₂, st₂, ?_⟩
    cases b with
    | true =>
      intro A s R S
      refine mono1 (k3 A s R S) ?_
      rintro v s₃ ⟨e, H₃, sh₃, vr, st₃, a, b, q⟩
      exact ⟨e, H₃, sh₃, vr, st₃, a, b, WCp.mono k q⟩
    | false => exact ⟨k3.1, WCp.mono k k3.2⟩

theorem compTurn_k {elt target iter : Expr} {ifs : List Expr} {gens : List Comprehension} {scope : Scope} {pos : Pos} {k : Nat} (hg : gens[k]? = some ⟨target, iter, ifs, 0⟩) (hg2 : gens[k + 1]? = none) (it acc : Value) (env : Env) :
    compTurn (.ListComp elt gens scope pos) k it acc env = (do
      standAt iter.pos
      match ← pyNext it with
      | none => pure (.done .next)
      | some v =>
        letOwnedTupleGo target it v
        assign target env v
        let ok ← (forIn ifs true fun e r => if r = true then do let ok ← isTrue e env (eval e env); pure (ForInStep.yield ok) else pure (ForInStep.yield r))
        if ok then
          (do let _ ← call (.builtin "list.append") [acc, ← eval elt env])
        again (.compLoop (.ListComp elt gens scope pos) k it acc env)) := by
  unfold compTurn
  dsimp only
  rw [hg, hg2]
  rfl

/-- the list being made changes -/
theorem St.bump {s : Shared} {h : Heap} {tk : Nat} {D : Addr} (S : St c env m H s) (hD : H D = none ∧ c.B.get? D = none) (ni : ∃ o, s.heap.get? D = some o ∧ ¬ imm o) (no : D ≠ env.locals ∧ ∀ x, env.cells.lookup x ≠ some D)
    (k : ∀ b o, b ≠ D → s.heap.get? b = some o → h.get? b = some o) : St c env m H { s with heap := h, toks := tk } ∧ Stp (fun a => a = D) H H s { s with heap := h, toks := tk } := by
  obtain ⟨a, b⟩ := S.iter (fp := [D]) (h := h) (tk := tk) (fun b hb => by rw [List.mem_singleton.mp hb]; exact hD) (fun b hb => by rw [List.mem_singleton.mp hb]; exact ni) (fun b hb => by rw [List.mem_singleton.mp hb]; exact no)
    fun b o hb e => k b o (by simpa using hb) e
  exact ⟨a, b.weaker fun a z => by simpa using z⟩
theorem plain_ni {h : Heap} {D : Addr} {xs : Array Value} (p : h.PlainList D xs) : ∃ o, h.get? D = some o ∧ ¬ imm o := by
  obtain ⟨k, e⟩ := p
  exact ⟨_, e, fun z => by unfold imm at z; simp at z⟩

structure Spot (c : Cx) (env : Env) (O : Addr → Prop) (D : Addr) (fp : List Addr) (H : HV) : Prop where
  offD : H D = none ∧ c.B.get? D = none
  noD : D ≠ env.locals ∧ ∀ x, env.cells.lookup x ≠ some D
  noF : ∀ b ∈ fp, b ≠ env.locals ∧ ∀ x, env.cells.lookup x ≠ some b
  apart : D ∉ fp
  inO : O D
  inF : ∀ b ∈ fp, O b

inductive CompEnd (c : Cx) (env : Env) (m : Loc) (O : Addr → Prop) (D : Addr) (H₀ : HV) (s₀ : Shared) (K : List MV → HV → Prop) (s' : Shared) : Prop
  | mk (H' : HV) (vs : List Value) (acc : List MV) (S : St c env m H' s') (pl : s'.heap.PlainList D vs.toArray) (V : VRs c s'.heap vs acc) (st : Stp O H₀ H' s₀ s') (hD : H' D = none) (k : K acc H')
inductive LoopI (c : Cx) (env : Env) (m : Loc) (O : Addr → Prop) (D : Addr) (H₀ : HV) (s₀ : Shared) (ds : List MV) (fp : List Addr) (need : HV → Prop) (J : Nat → Heap → Prop) (W : List MV → HV → List MV → Prop) (q : Nat) (s' : Shared) : Prop
  | mk (i : Nat) (H' : HV) (vs : List Value) (acc : List MV) (e : q = ds.length + 1 - i) (hi : i ≤ ds.length) (S : St c env m H' s') (j : J i s'.heap) (nd : need H') (off : ∀ b ∈ fp, H' b = none ∧ c.B.get? b = none) (hD : H' D = none) (pl : s'.heap.PlainList D vs.toArray) (V : VRs c s'.heap vs acc) (st : Stp O H₀ H' s₀ s') (h : W (ds.drop i) H' acc)
inductive Later (N : Nat) (P : Nat → Shared → Prop) (s' : Shared) : Prop
  | mk (q : Nat) (hq : q < N) (rest : P q s')

theorem comp_run {tg : Expr → Prop} {it : Value} {ds : List MV} {fp : List Addr} {need : HV → Prop} {J : Nat → Heap → Prop} {t elt iter : Expr} {ifs : List Expr} {gens : List Comprehension} {scope : Scope} {pos : Pos} {k : Nat}
    {K : List MV → HV → Prop} {A : Around} {s₀ s : Shared} {H₀ : HV} {O : Addr → Prop} {D : Addr} {vs : List Value} {acc : List MV} {R' : Result → Shared → Prop}
    (hg : gens[k]? = some ⟨t, iter, ifs, 0⟩) (hg2 : gens[k + 1]? = none)
    (I : Iter c tg it ds fp need J) (ht : tg t) (R : Room (n + 1) A) (S : St c env m H s) (j : J 0 s.heap) (nd : need H) (off : ∀ b ∈ fp, H b = none ∧ c.B.get? b = none)
    (P : Spot c env O D fp H) (hO : ∀ a, own env (tn 3 t) a → O a) (pl : s.heap.PlainList D vs.toArray) (V : VRs c s.heap vs acc) (st : Stp O H₀ H s₀ s) (h : WCp c n env t ifs elt need m ds H acc K)
    (hR : ∀ s', CompEnd c env m O D H₀ s₀ K s' → R' (.ok .next) s') :
    codeAny (model c.prog c.w) A (.compLoop (.ListComp elt gens scope pos) k it (.ref D) env) R' s := by
  refine codeAny_loop rfl (LoopI c env m O D H₀ s₀ ds fp need J fun ds H acc => WCp c n env t ifs elt need m ds H acc K) ?_ (ds.length + 1)
    ⟨0, H, vs, acc, rfl, Nat.zero_le _, S, j, nd, off, P.offD.1, pl, V, st, h⟩
  rintro q s' ⟨i, H', vs, acc, rfl, hi, S', j', nd', off', hD', pl', V', st', h'⟩
  show wpAny _ A ((compTurn (.ListComp elt gens scope pos) k it (.ref D) env).onRaise (fun x => do noteFrame x env; theTreesLotGoes x)) _ _ s'
  refine wpAny_noted ?_
  rw [compTurn_k hg hg2]
  refine wpAny_bind (wpAny_standAt (wpAny_bind ?_))
  have nOf : ∀ b ∈ fp, ¬ own env (tn 3 t) b := fun b hb z => z.elim (fun q => (P.noF b hb).1 q) fun ⟨x, _, _, e⟩ => (P.noF b hb).2 x e
  have nOD : ¬ own env (tn 3 t) D := fun z => z.elim (fun q => P.noD.1 q) fun ⟨x, _, _, e⟩ => P.noD.2 x e
  cases hd : ds[i]? with
  | none =>
    have hl : i = ds.length := by
      have := List.getElem?_eq_none_iff.mp hd
      first | lia | omega
    subst hl
    refine mono0 (I.done n A s' H' R S'.sh nd' j' off') ?_
    rintro r s₁ ⟨rfl, hh, tk, rfl, kp⟩
    obtain ⟨S₁, st₁⟩ := S'.iter (tk := tk) off' (I.live _ _ j') P.noF kp
    rw [List.drop_length] at h'
    have ki := iter_ki S'.sh off' (I.live _ _ j') kp
    have pl₁ : hh.PlainList D vs.toArray := let ⟨kk, e⟩ := pl'; ⟨kk, kp D _ P.apart e⟩
    exact wpAny_pure (hR _ ⟨H', vs, acc, S₁, pl₁, V'.mono ki, st'.trans (st₁.weaker fun a hb => P.inF a hb), hD', h'⟩)
  | some d =>
    have hlt : i < ds.length := (List.getElem?_eq_some_iff.mp hd).1
    refine mono0 (I.item n A s' H' i d t ht R S'.sh nd' j' off' hd) ?_
    rintro r s₁ ⟨v, rfl, hg⟩
    dsimp only
    refine wpAny_bind (mono0 hg ?_)
    rintro _ s₂ ⟨hh, tk, rfl, vr, j₂, kp⟩
    obtain ⟨S₂, st₂⟩ := S'.iter (tk := tk) off' (I.live _ _ j') P.noF kp
    have ki := iter_ki S'.sh off' (I.live _ _ j') kp
    have pl₂ : hh.PlainList D vs.toArray := let ⟨kk, e⟩ := pl'; ⟨kk, kp D _ P.apart e⟩
    have V₂ : VRs c hh vs acc := V'.mono ki
    have hdr : ds.drop i = d :: ds.drop (i + 1) := by
      rw [List.drop_eq_getElem_cons hlt]
      congr 1
      rw [List.getElem?_eq_getElem hlt] at hd
      exact Option.some.inj hd
    rw [hdr] at h'
    have Rn := R.mono (Nat.le_succ n)
    refine wpAny_bind (mono0 (h' A _ v Rn S₂ vr) ?_)
    rintro _ s₃ ⟨m₃, H₃, S₃, st₃, less, k₃⟩
    refine wpAny_bind (mono0 (k₃ A s₃ Rn S₃) ?_)
    rintro ok s₄ ⟨H₄, sh₄, st₄, k₄⟩
    have S₄ := S₃.step st₄ sh₄
    have stA : Stp (own env (tn 3 t)) H' H₄ { s' with heap := hh, toks := tk } s₄ := st₃.trans st₄.toOwn
    -- the rest of a turn
    have fin : ∀ (s₅ : Shared) (H₅ : HV) (vs' : List Value) (acc' : List MV), Stp (fun a => own env (tn 3 t) a ∨ a = D) H' H₅ { s' with heap := hh, toks := tk } s₅ → St c env m₃ H₅ s₅ → s₅.heap.PlainList D vs'.toArray → VRs c s₅.heap vs' acc' → need H₅ → H₅ D = none → WCp c n env t ifs elt need m (ds.drop (i + 1)) H₅ acc' K →
        Later (ds.length + 1 - i) (LoopI c env m O D H₀ s₀ ds fp need J fun ds H acc => WCp c n env t ifs elt need m ds H acc K) s₅ := by
      intro s₅ H₅ vs' acc' stB S₅ pl₅ V₅ nd₅ hD₅ k₅
      have nB : ∀ b ∈ fp, ¬ (own env (tn 3 t) b ∨ b = D) := fun b hb z => z.elim (nOf b hb) fun q => P.apart (q ▸ hb)
      have j₅ : J (i + 1) s₅.heap := I.frame _ _ _ j₂ (fun b hb o e => stB.keep b o e (off' b hb).1 (nB b hb)) (stB.imm S₂.sh (fun a o w => by
        rcases w with w | w
        · exact S₂.ownNot _ _ w
        · subst w
          intro e z
          obtain ⟨o', e', ni⟩ := plain_ni pl₂
          have e : hh.get? a = some o := e
          rw [e] at e'; cases e'
          rcases z with z | z
          · exact ni z
          · rw [P.offD.2] at z; cases z))
      have off₅ : ∀ b ∈ fp, H₅ b = none ∧ c.B.get? b = none := fun b hb => by
        refine ⟨?_, (off' b hb).2⟩
        cases q : H₅ b with
        | none => rfl
        | some mo =>
          obtain ⟨o, eo, _⟩ := I.live _ _ j₂ b hb
          rcases stB.fresh b (off' b hb).1 mo q with z | z
          · rw [eo] at z; cases z
          · exact absurd z (nB b hb)
      exact ⟨ds.length + 1 - (i + 1), by first | lia | omega, i + 1, H₅, vs', acc', rfl, hlt, S₅.less less, j₅, nd₅, off₅, hD₅, pl₅, V₅, (st'.trans (st₂.weaker fun a hb => P.inF a hb)).trans (stB.weaker fun a z => z.elim (hO a) fun q => q ▸ P.inO), k₅⟩
    have offD₄ : H₄ D = none := by
      cases q : H₄ D with
      | none => rfl
      | some mo =>
        obtain ⟨o, eo, _⟩ := plain_ni pl₂
        rcases stA.fresh D hD' mo q with z | z
        · rw [show ({ s' with heap := hh, toks := tk } : Shared).heap = hh from rfl, eo] at z; cases z
        · exact absurd z nOD
    have pl₄ : s₄.heap.PlainList D vs.toArray := let ⟨kk, e⟩ := pl₂; ⟨kk, stA.keep D _ e hD' nOD⟩
    have V₄ : VRs c s₄.heap vs acc := V₂.mono (stA.imm S₂.sh fun a o w => S₂.ownNot a o w)
    cases ok with
    | false =>
      obtain ⟨nd₄, k₄⟩ := k₄
      obtain ⟨q, hq, rest⟩ := fin s₄ H₄ vs acc (stA.weaker fun a => .inl) S₄ pl₄ V₄ nd₄ offD₄ k₄
      first | exact wpAny_pure ⟨rfl, q, hq, rest⟩ | exact wpAny_bind (wpAny_pure (wpAny_pure ⟨rfl, q, hq, rest⟩))
    | true =>
      rw [if_pos rfl] at k₄ ⊢
      refine wpAny_bind (wpAny_bind (mono0 (k₄ A s₄ Rn S₄) ?_))
      rintro x s₅ ⟨e, H₅, sh₅, vr₅, st₅, hz, nd₅, k₅⟩
      have S₅ := S₄.step st₅ sh₅
      have offD₅ : H₅ D = none := none_of_fresh st₅.fresh (plain_ni pl₄).choose_spec.1 offD₄
      have pl₅ : s₅.heap.PlainList D vs.toArray := let ⟨kk, e⟩ := pl₄; ⟨kk, st₅.keep D _ e offD₄ id⟩
      have V₅ : VRs c s₅.heap vs acc := st₅.vrs sh₄ V₄
      refine wpAny_bind (wpAny_list_append_plain pl₅ (fun h₆ pl₆ hs₆ => ?_) (by rw [List.size_toArray, V₅.length, sizeLine_eq]; first | lia | omega))
      rw [show vs.toArray.push x = (vs ++ [x]).toArray by simp] at pl₆
      have kn : ∀ b ob, b ≠ D → s₅.heap.get? b = some ob → h₆.get? b = some ob := fun b ob q eb => hs₆.extBut b ob q eb
      obtain ⟨S₆, st₆⟩ := S₅.bump (tk := s₅.toks) ⟨offD₅, P.offD.2⟩ (plain_ni pl₅) P.noD kn
      have ki₆ : ∀ a o, s₅.heap.get? a = some o → imm o ∨ c.B.get? a = some o → h₆.get? a = some o := st₆.imm S₅.sh fun a o w eo z => by
        subst w
        obtain ⟨o', e', ni⟩ := plain_ni pl₅
        rw [eo] at e'; cases e'
        rcases z with z | z
        · exact ni z
        · rw [P.offD.2] at z; cases z
      have stB : Stp (fun a => own env (tn 3 t) a ∨ a = D) H' H₅ { s' with heap := hh, toks := tk } { s₅ with heap := h₆, toks := s₅.toks } := ((stA.trans st₅.toOwn).weaker fun a => .inl).trans (st₆.weaker fun a => .inr)
      obtain ⟨q, hq, rest⟩ := fin _ H₅ (vs ++ [x]) (acc ++ [e]) stB S₆ pl₆ ((V₅.append (.one vr₅)).mono ki₆) nd₅ offD₅ k₅
      exact wpAny_pure (wpAny_pure ⟨rfl, q, hq, rest⟩)
end
end
section
-- M7b
section
variable {c : Cx} {n : Nat} {env : Env} {m : Loc} {H : HV}

noncomputable def clFrom (env : Env) : List (Str × NameKind) → List (Str × Addr) → List (Str × Addr)
  | [], acc => acc
  | (x, k) :: r, acc => if k == .free then clFrom env r ((x, (env.cells.lookup x).getD 0) :: acc) else clFrom env r acc
theorem clFrom_spec : ∀ {l : List (Str × NameKind)} {acc : List (Str × Addr)}, (∀ x, (x, NameKind.free) ∈ l → ∃ a, env.cells.lookup x = some a) → (∀ x a, acc.lookup x = some a → env.cells.lookup x = some a) →
    (∀ x a, (clFrom env l acc).lookup x = some a → env.cells.lookup x = some a) ∧ (∀ x, ((x, NameKind.free) ∈ l ∨ ∃ a, acc.lookup x = some a) → ∃ a, (clFrom env l acc).lookup x = some a) ∧
    (∀ x a, (clFrom env l acc).lookup x = some a → (x, NameKind.free) ∈ l ∨ acc.lookup x = some a)
  | [], acc, _, h => ⟨h, fun x q => q.elim (fun z => nomatch z) id, fun x a q => .inr q⟩
  | (y, k) :: r, acc, hf, h => by
    unfold clFrom
    split
    · rename_i hk
      have hk : k = .free := by simpa using hk
      subst hk
      obtain ⟨b, hb⟩ := hf y (by simp)
      obtain ⟨h1, h2, h3⟩ := clFrom_spec (l := r) (acc := (y, (env.cells.lookup y).getD 0) :: acc) (fun x hx => hf x (by simp [hx])) (fun x a e => by
        rw [List.lookup_cons] at e
        cases q : x == y with
        | true => rw [q] at e; simp at e; rw [beq_iff_eq.mp q, hb]; rw [hb] at e; simpa using e
        | false => rw [q] at e; exact h x a e)
      refine ⟨h1, fun x q => h2 x ?_, fun x a q => ?_⟩
      · rcases q with q | ⟨a, q⟩
        · rcases List.mem_cons.mp q with e | q
          · cases e; exact .inr ⟨_, by rw [List.lookup_cons, beq_self_eq_true]⟩
          · exact .inl q
        · cases z : x == y with
          | true => exact .inr ⟨_, by rw [List.lookup_cons, z]⟩
          | false => exact .inr ⟨a, by rw [List.lookup_cons, z]; exact q⟩
      · rcases h3 x a q with z | z
        · exact .inl (by simp [z])
        · rw [List.lookup_cons] at z
          cases w : x == y with
          | true => rw [beq_iff_eq.mp w]; exact .inl (by simp)
          | false => rw [w] at z; exact .inr z
    · rename_i hk
      have hk : k ≠ .free := by simpa using hk
      obtain ⟨h1, h2, h3⟩ := clFrom_spec (l := r) (acc := acc) (fun x hx => hf x (by simp [hx])) h
      refine ⟨h1, fun x q => h2 x (q.imp (fun z => ?_) id), fun x a q => (h3 x a q).imp (fun z => by simp [z]) id⟩
      rcases List.mem_cons.mp z with e | q
      · cases e; exact absurd rfl hk
      · exact q
theorem closure_run : ∀ (l : List (Str × NameKind)) (acc : List (Str × Addr)), (∀ x, (x, NameKind.free) ∈ l → ∃ a, env.cells.lookup x = some a) →
    (forIn l acc fun (x : Str × NameKind) (r : List (Str × Addr)) => (if x.2 == NameKind.free then (do let a ← cellOf env x.1; pure (ForInStep.yield ((x.1, a) :: r))) else pure (ForInStep.yield r) : Sem _)) = pure (clFrom env l acc)
  | [], acc, _ => by rw [List.forIn_nil]; rfl
  | (y, k) :: r, acc, hf => by
    rw [List.forIn_cons]
    unfold clFrom
    split
    · rename_i hk
      have hk' : k = .free := by simpa using hk
      subst hk'
      obtain ⟨b, hb⟩ := hf y (by simp)
      have e : cellOf env y = pure b := by unfold cellOf; rw [hb]
      rw [hb, e]
      exact closure_run r _ (fun x hx => hf x (by simp [hx]))
    · exact closure_run r _ (fun x hx => hf x (by simp [hx]))
theorem closureFor_eq {scope : Scope} (hf : ∀ x, (x, NameKind.free) ∈ scope.names → ∃ a, env.cells.lookup x = some a) : closureFor scope env = pure (clFrom env scope.names []) := by
  unfold closureFor
  refine Eq.trans (congrArg (fun z => (z >>= fun r => pure r : Sem _)) ?_) (b := (pure (clFrom env scope.names []) >>= fun r => pure r : Sem _)) rfl
  exact closure_run scope.names [] hf
end
end
section
-- M7c
section
variable {c : Cx} {n : Nat} {env : Env} {m : Loc} {H : HV}

theorem pushCells_size : ∀ (names : List (Str × NameKind)) (h : Heap), h.objs.size ≤ (pushCells h names).objs.size
  | [], h => Nat.le_refl _
  | (_, k) :: r, h => by
    unfold pushCells
    split
    · exact Nat.le_trans (by rw [Heap.size_push]; exact Nat.le_succ _) (pushCells_size r _)
    · exact pushCells_size r h
theorem cellsFrom_spec : ∀ (names : List (Str × NameKind)) (h : Heap) (acc : List (Str × Addr)), (∀ x a, acc.lookup x = some a → a < h.objs.size) → (∀ x y a, acc.lookup x = some a → acc.lookup y = some a → x = y) →
    (∀ x a, (cellsFrom h.objs.size names acc).lookup x = some a → acc.lookup x = some a ∨ (h.objs.size ≤ a ∧ (pushCells h names).IsCell a none ∧ (x, NameKind.cell) ∈ names)) ∧
    (∀ x y a, (cellsFrom h.objs.size names acc).lookup x = some a → (cellsFrom h.objs.size names acc).lookup y = some a → x = y) ∧
    (∀ x, ((x, NameKind.cell) ∈ names ∨ ∃ a, acc.lookup x = some a) → ∃ a, (cellsFrom h.objs.size names acc).lookup x = some a)
  | [], h, acc, lt, ap => ⟨fun x a e => .inl e, ap, fun x q => q.elim (fun z => nomatch z) id⟩
  | (y, k) :: r, h, acc, lt, ap => by
    unfold cellsFrom pushCells
    split
    · rename_i hk
      have hk : k = .cell := by simpa using hk
      subst hk
      have hs : (h.push { cls := .type "cell", data := .cell none }).objs.size = h.objs.size + 1 := Heap.size_push ..
      have lt' : ∀ x a, ((y, h.objs.size) :: acc).lookup x = some a → a < (h.push { cls := .type "cell", data := .cell none }).objs.size := fun x a e => by
        rw [List.lookup_cons] at e
        cases q : x == y with
        | true => rw [q] at e; have e : h.objs.size = a := Option.some.inj e; rw [← e, hs]; exact Nat.lt_succ_self _
        | false => rw [q] at e; rw [hs]; exact Nat.lt_succ_of_lt (lt x a e)
      have ap' : ∀ x z a, ((y, h.objs.size) :: acc).lookup x = some a → ((y, h.objs.size) :: acc).lookup z = some a → x = z := fun x z a e1 e2 => by
        rw [List.lookup_cons] at e1 e2
        cases q : x == y with
        | true =>
          rw [q] at e1
          cases q2 : z == y with
          | true => rw [beq_iff_eq.mp q, beq_iff_eq.mp q2]
          | false => rw [q2] at e2; have e1 : h.objs.size = a := Option.some.inj e1; exact absurd (e1 ▸ lt z a e2) (Nat.lt_irrefl _)
        | false =>
          rw [q] at e1
          cases q2 : z == y with
          | true => rw [q2] at e2; have e2 : h.objs.size = a := Option.some.inj e2; exact absurd (e2 ▸ lt x a e1) (Nat.lt_irrefl _)
          | false => rw [q2] at e2; exact ap x z a e1 e2
      obtain ⟨h1, h2, h3⟩ := cellsFrom_spec r (h.push { cls := .type "cell", data := .cell none }) ((y, h.objs.size) :: acc) lt' ap'
      rw [hs] at h1 h2 h3
      refine ⟨fun x a e => ?_, h2, fun x q => h3 x ?_⟩
      · rcases h1 x a e with z | ⟨z1, z2, z3⟩
        · rw [List.lookup_cons] at z
          cases q : x == y with
          | true =>
            rw [q] at z; simp at z; subst z
            have hx := beq_iff_eq.mp q
            subst hx
            exact .inr ⟨Nat.le_refl _, (⟨_, pushCells_keeps r _ _ _ (Heap.get?_push_size h rfl), rfl⟩ : (pushCells _ r).IsCell h.objs.size none), by simp⟩
          | false => rw [q] at z; exact .inl z
        · exact .inr ⟨Nat.le_of_succ_le z1, z2, by simp [z3]⟩
      · rcases q with q | ⟨a, q⟩
        · rcases List.mem_cons.mp q with e | q
          · cases e; exact .inr ⟨_, by rw [List.lookup_cons, beq_self_eq_true]⟩
          · exact .inl q
        · cases z : x == y with
          | true => exact .inr ⟨_, by rw [List.lookup_cons, z]⟩
          | false => exact .inr ⟨a, by rw [List.lookup_cons, z]; exact q⟩
    · rename_i hk
      have hk : k ≠ .cell := by simpa using hk
      obtain ⟨h1, h2, h3⟩ := cellsFrom_spec r h acc lt ap
      refine ⟨fun x a e => (h1 x a e).imp id fun ⟨z1, z2, z3⟩ => ⟨z1, z2, by simp [z3]⟩, h2, fun x q => h3 x (q.imp (fun z => ?_) id)⟩
      rcases List.mem_cons.mp z with e | q
      · cases e; exact absurd rfl hk
      · exact q

theorem newEnv_comp {M : Model} {A : Around} {E : Value → Shared → Prop} {s : Shared} {scope : Scope} {globals : Addr} {cl : List (Str × Addr)} {qual : Str} {Q : Env → Shared → Prop}
    (hQ : Q { scope, locals := s.heap.objs.size, globals, cells := cellsFrom (s.heap.objs.size + 1) scope.names cl, qual, func := none, code := env.code, frame := env.frame, builtins := env.builtins }
      { s with heap := pushCells (s.heap.push { cls := .type "dict", data := .dict #[] }) scope.names }) :
    wpAny M A (newFunctionEnv scope globals cl [] qual none .none (some env)) Q E s := by
  simp only [newFunctionEnv, Option.isSome_some, if_true]
  refine wpAny_bind (wpAny_alloc ?_)
  refine wpAny_bind (wpAny_layCells _ (fun name kind cells => by cases hkc : kind == NameKind.cell <;> simp) _ _ _ _ ?_)
  rw [show ({ s with heap := s.heap.push { cls := .type "dict", data := .dict #[] } } : Shared).heap.objs.size = s.heap.objs.size + 1 from Heap.size_push ..]
  exact wpAny_bind (wpAny_pure (wpAny_pure hQ))

theorem relabel_lookup {scope : Scope} {x : Str} : (relabel scope env).names.lookup x = (scope.names.lookup x).map fun k => if (k == NameKind.free && env.scope.kind == .function && env.kindOf x == some .cell) = true then NameKind.cell else k := by
  unfold relabel
  dsimp only
  induction scope.names with
  | nil => rfl
  | cons p r ih =>
    obtain ⟨y, k⟩ := p
    rw [List.map_cons]
    dsimp only
    rw [List.lookup_cons]
    cases q : x == y with
    | true =>
      have := beq_iff_eq.mp q
      subst this
      by_cases z : (k == NameKind.free && env.scope.kind == .function && env.kindOf x == some .cell) = true
      · rw [if_pos z, List.lookup_cons, q, Option.map_some, if_pos z]
      · rw [if_neg z, List.lookup_cons, q, Option.map_some, if_neg z]
    | false =>
      by_cases z : (k == NameKind.free && env.scope.kind == .function && env.kindOf y == some .cell) = true
      · rw [if_pos z, List.lookup_cons, q]; exact ih
      · rw [if_neg z, List.lookup_cons, q]; exact ih

/-- what a comprehension captures -/
noncomputable def capM (scope : Scope) (m : Loc) : Loc := m.filter fun p => scope.names.lookup p.1 == some .free
theorem capM_lookup {scope : Scope} : ∀ {m : Loc} {x : Str} {d : MV}, (capM scope m).lookup x = some d → scope.names.lookup x = some .free ∧ m.lookup x = some d
  | [], x, d, e => by simp [capM] at e
  | (y, f) :: r, x, d, e => by
    unfold capM at e
    rw [List.filter_cons] at e
    have ih := @capM_lookup scope r x d
    split at e
    · rename_i hk
      rw [List.lookup_cons] at e ⊢
      cases q : x == y with
      | true =>
        rw [q] at e
        have := beq_iff_eq.mp q
        subst this
        exact ⟨by simpa using hk, e⟩
      | false => rw [q] at e; exact ih e
    · rename_i hk
      obtain ⟨i1, i2⟩ := ih e
      refine ⟨i1, ?_⟩
      rw [List.lookup_cons]
      cases q : x == y with
      | true =>
        have := beq_iff_eq.mp q
        subst this
        rw [i1] at hk; simp at hk
      | false => exact i2

structure ScopeOk (env : Env) (scope : Scope) (xs : List Str) : Prop where
  kind : scope.kind = .function
  ekind : env.scope.kind = .function
  fn : ∀ y ∈ scope.names, scope.names.lookup y.1 = some y.2
  free : ∀ y ∈ scope.names, y.2 = .free → env.kindOf y.1 = some .cell
  tgt : ∀ x ∈ xs, scope.names.lookup x = some .local ∨ scope.names.lookup x = some .cell
noncomputable def scopeOk (env : Env) (scope : Scope) (xs : List Str) : Bool :=
  scope.kind == .function && env.scope.kind == .function && (scope.names.all fun y => scope.names.lookup y.1 == some y.2) && (scope.names.all fun y => y.2 != .free || env.kindOf y.1 == some .cell) && xs.all fun x => scope.names.lookup x == some .local || scope.names.lookup x == some .cell
theorem scopeOk_is {env : Env} {scope : Scope} {xs : List Str} (h : scopeOk env scope xs = true) : ScopeOk env scope xs := by
  unfold scopeOk at h
  simp only [Bool.and_eq_true] at h
  obtain ⟨⟨⟨⟨h1, h2⟩, h3⟩, h4⟩, h5⟩ := h
  refine ⟨by simpa using h1, by simpa using h2, fun y hy => ?_, fun y hy e => ?_, fun x hx => ?_⟩
  · simpa using List.all_eq_true.mp h3 y hy
  · have := List.all_eq_true.mp h4 y hy
    rw [e] at this; simpa using this
  · have := List.all_eq_true.mp h5 x hx
    simpa using this

/-- the block's frame -/
structure CompIn (c : Cx) (env cenv : Env) (m m' : Loc) (H : HV) (xs : List Str) (s₂ s₄ : Shared) (C D : Addr) : Prop where
  st : St c cenv m' H s₄
  acc : s₄.heap.PlainList D #[]
  ext : ∃ h, s₄ = { s₂ with heap := h } ∧ ∀ b o, s₂.heap.get? b = some o → h.get? b = some o
  newC : s₂.heap.get? C = none
  newD : s₂.heap.get? D = none
  noD : D ≠ cenv.locals ∧ ∀ x, cenv.cells.lookup x ≠ some D
  loc : cenv.locals = C
  cells : ∀ x a, cenv.cells.lookup x = some a → env.cells.lookup x = some a ∨ s₂.heap.get? a = none
  own : ∀ a, own cenv xs a → s₂.heap.get? a = none

theorem comp_block {scope : Scope} {xs : List Str} {A : Around} {s₂ : Shared} {RR : Value → Addr → Env → Shared → Prop} {E : Value → Shared → Prop} (S : St c env m H s₂) (ok : ScopeOk env scope xs)
    (h : ∀ C D cells s₄, CompIn c env (compEnvC scope cells C env) m (capM scope m) H xs s₂ s₄ C D → RR (.ref D) C (compEnvC scope cells C env) s₄) :
    wpAny (model c.prog c.w) A (newList []) (fun acc s₃ => wpAny (model c.prog c.w) A (newFunctionEnv scope env.globals (clFrom env scope.names []) [] env.qual none .none (some env)) (fun cenv s₄ =>
      RR acc cenv.locals { cenv with scope := relabel scope env } s₄) E s₃) E s₂ := by
  refine wpAny_newObj_type (newEnv_comp ?_)
  have hC : (s₂.heap.push { cls := .type "list", dict := none, data := .seq ([] : List Value).toArray }).objs.size = s₂.heap.objs.size + 1 := Heap.size_push ..
  have hcl : ∀ x, (x, NameKind.free) ∈ scope.names → ∃ a, env.cells.lookup x = some a := fun x hx => S.fr.has x (ok.free _ hx rfl)
  obtain ⟨c1, c2, c3⟩ := clFrom_spec (env := env) (l := scope.names) (acc := []) hcl (fun x a e => by simp at e)
  generalize hH2 : s₂.heap.push { cls := .type "list", dict := none, data := .seq ([] : List Value).toArray } = H2 at hC ⊢
  have old : ∀ b o, s₂.heap.get? b = some o → (pushCells (H2.push { cls := .type "dict", data := .dict #[] }) scope.names).get? b = some o := fun b o e =>
    pushCells_keeps _ _ b o (Heap.get?_push_of_some _ (hH2 ▸ Heap.get?_push_of_some _ e))
  have live : ∀ x a, env.cells.lookup x = some a → ∃ o, s₂.heap.get? a = some o := fun x a e => let ⟨v, o, ho, _⟩ := S.fr.ex x a e; ⟨o, ho⟩
  have hs3 : (H2.push { cls := .type "dict", data := .dict #[] }).objs.size = H2.objs.size + 1 := Heap.size_push ..
  have clt : ∀ x a, (clFrom env scope.names []).lookup x = some a → a < (H2.push { cls := .type "dict", data := .dict #[] }).objs.size := fun x a e => by
    obtain ⟨o, ho⟩ := live x a (c1 x a e)
    have := Heap.lt_size ho
    rw [hs3, hC]; exact Nat.lt_succ_of_lt (Nat.lt_succ_of_lt this)
  obtain ⟨d1, d2, d3⟩ := cellsFrom_spec scope.names (H2.push { cls := .type "dict", data := .dict #[] }) (clFrom env scope.names []) clt (fun x y a e1 e2 => S.fr.apart x y a (c1 x a e1) (c1 y a e2))
  rw [hs3] at d1 d2 d3
  dsimp only
  generalize hcells : cellsFrom (H2.objs.size + 1) scope.names (clFrom env scope.names []) = cells at d1 d2 d3 ⊢
  have fresh : ∀ a, s₂.heap.objs.size ≤ a → s₂.heap.get? a = none := fun a ha => by
    cases e : s₂.heap.get? a with
    | none => rfl
    | some o' => exact absurd (Heap.lt_size e) (Nat.not_lt.mpr ha)
  have newC : s₂.heap.get? H2.objs.size = none := fresh _ (by rw [hC]; exact Nat.le_succ _)
  have cell_or : ∀ x a, cells.lookup x = some a → (env.cells.lookup x = some a ∧ (x, NameKind.free) ∈ scope.names) ∨ (s₂.heap.get? a = none ∧ (pushCells (H2.push { cls := .type "dict", data := .dict #[] }) scope.names).IsCell a none ∧ (x, NameKind.cell) ∈ scope.names ∧ a ≠ H2.objs.size ∧ a ≠ s₂.heap.objs.size) := fun x a e => by
    rcases d1 x a e with z | ⟨z1, z2, z3⟩
    · exact .inl ⟨c1 x a z, (c3 x a z).elim id fun q => by simp at q⟩
    · have z0 : s₂.heap.objs.size < a := Nat.lt_of_lt_of_le (by rw [hC]; exact Nat.lt_succ_of_lt (Nat.lt_succ_self _)) z1
      exact .inr ⟨fresh a (Nat.le_of_lt z0), z2, z3, Nat.ne_of_gt z1, Nat.ne_of_gt z0⟩
  have kd : ∀ {x k}, scope.names.lookup x = some k → (compEnvC scope cells H2.objs.size env).kindOf x = some (if (k == NameKind.free && env.scope.kind == .function && env.kindOf x == some .cell) = true then NameKind.cell else k) := fun {x k} e => by
    show (relabel scope env).names.lookup x = _
    rw [relabel_lookup, e]; rfl
  have kfree : ∀ {x}, scope.names.lookup x = some .free → env.kindOf x = some .cell := fun {x} e => ok.free (x, .free) (PySem.mem_of_lookup e) rfl
  have accH : (pushCells (H2.push { cls := .type "dict", data := .dict #[] }) scope.names).get? s₂.heap.objs.size = some { cls := .type "list", dict := none, data := .seq ([] : List Value).toArray } :=
    pushCells_keeps _ _ _ _ (Heap.get?_push_of_some _ (hH2 ▸ Heap.get?_push_size _ rfl))
  refine h H2.objs.size s₂.heap.objs.size cells _ ⟨⟨S.sh.ext old, ⟨⟨fun _ => none, (Heap.Ns.new H2 (.type "dict")).keeps (pushCells_keeps _ _), fun x d hk hl => ?_⟩, fun x d hk hl => ?_, fun x a e => ?_, fun x hk => ?_, fun x y a e1 e2 => d2 x y a e1 e2, S.sh.fresh newC, fun x a e => ?_, newB S.sh newC, fun x a hk e => ?_⟩⟩,
    ⟨0, accH⟩, ⟨_, rfl, old⟩, newC, fresh _ (Nat.le_refl _), ⟨by show s₂.heap.objs.size ≠ H2.objs.size; rw [hC]; exact Nat.ne_of_lt (Nat.lt_succ_self _), fun x e => ?_⟩, rfl, fun x a e => (cell_or x a e).imp (·.1) (·.1), fun a w => ?_⟩
  · obtain ⟨e1, e2⟩ := capM_lookup hl
    rw [kd e1, kfree e1, ok.ekind] at hk
    simp at hk
  · obtain ⟨e1, e2⟩ := capM_lookup hl
    obtain ⟨a, v, q1, q2, q3⟩ := S.fr.cl x d (.inl (kfree e1)) e2
    obtain ⟨b, hb⟩ := d3 x (.inr (c2 x (.inl (PySem.mem_of_lookup e1))))
    rcases cell_or x b hb with ⟨z, _⟩ | ⟨_, _, z, _⟩
    · rw [q1] at z; cases z
      exact ⟨a, v, hb, IsCell.keep q2 fun o eo => old a o eo, q3.mono fun a o e _ => old a o e⟩
    · have := ok.fn _ z
      rw [e1] at this; cases this
  · rcases cell_or x a e with ⟨z, _⟩ | ⟨_, z, _⟩
    · obtain ⟨v, q⟩ := S.fr.ex x a z
      exact ⟨v, IsCell.keep q fun o eo => old a o eo⟩
    · exact ⟨none, z⟩
  · have hk' : (relabel scope env).names.lookup x = some .cell := hk
    rw [relabel_lookup] at hk'
    cases q : scope.names.lookup x with
    | none => rw [q] at hk'; cases hk'
    | some k =>
      rw [q] at hk'
      have hm := PySem.mem_of_lookup q
      have hk' : (if (k == NameKind.free && env.scope.kind == .function && env.kindOf x == some .cell) = true then NameKind.cell else k) = .cell := by simpa using hk'
      cases k with
      | free => exact d3 x (.inr (c2 x (.inl hm)))
      | cell => exact d3 x (.inl hm)
      | _ => simp at hk'
  · rcases cell_or x a e with ⟨z, _⟩ | ⟨z, _, _, z2, _⟩
    · obtain ⟨o, ho⟩ := live x a z
      exact ⟨(S.fr.cH x a z).1, by rintro rfl; rw [show (compEnvC scope cells H2.objs.size env).locals = H2.objs.size from rfl, newC] at ho; cases ho⟩
    · exact ⟨S.sh.fresh z, z2⟩
  · rcases cell_or x a e with ⟨z, z2⟩ | ⟨z, _⟩
    · exact S.fr.newC x a (kfree (ok.fn _ z2)) z
    · exact newB S.sh z
  · have e : cells.lookup x = some s₂.heap.objs.size := e
    rcases cell_or x _ e with ⟨z, _⟩ | ⟨_, _, _, _, z⟩
    · obtain ⟨o, ho⟩ := live x _ z
      rw [fresh _ (Nat.le_refl _)] at ho; cases ho
    · exact z rfl
  · rcases w with rfl | ⟨x, hx, hk, e⟩
    · exact newC
    · rcases cell_or x a e with ⟨z, z2⟩ | ⟨z, _⟩
      · have := ok.fn _ z2
        rcases ok.tgt x hx with q | q <;> (rw [q] at this; cases this)
      · exact z
end
end
section
-- M7d
section
variable {c : Cx} {n : Nat} {env : Env} {m : Loc} {H : HV}

theorem compStart_k {A : Around} {R : Result → Shared → Prop} {s : Shared} {elt target iter : Expr} {ifs : List Expr} {gens : List Comprehension} {scope : Scope} {pos : Pos} {k : Nat} {it acc : Value} (hg : gens[k]? = some ⟨target, iter, ifs, 0⟩)
    (h : ∀ it' s', it' = it → s' = s → codeAny (model c.prog c.w) A (.compLoop (.ListComp elt gens scope pos) k it' acc env) R s')
    (hs : wpAny (model c.prog c.w) A (pyIter it) (fun v s₁ => v = it ∧ s₁ = s) NoE s) :
    codeAny (model c.prog c.w) A (.compStart (.ListComp elt gens scope pos) k it acc env) R s := by
  refine codeAny_of_tree ?_
  show wpAny _ _ ((compStart (.ListComp elt gens scope pos) k it acc env).onRaise (fun x => do noteFrame x env; standAt theWindowsPlace)) _ _ s
  refine wpAny_notedAt ?_
  unfold compStart
  rw [show clausesOf (.ListComp elt gens scope pos) = gens from rfl, hg]
  show wpAny _ _ (ask >>= _) _ _ s
  refine wpAny_bind (wpAny_askSetting (wpAny_ite ?_))
  split
  · first
      | exact wpAny_bind (wpAny_pure (wpAny_pure (And.intro rfl (h it s rfl rfl))))
      | exact wpAny_pure (And.intro rfl (h it s rfl rfl))
  · first
      | exact wpAny_bind (wpAny_rule (wpAny_bind (wpAny_standAt (wpAny_bind (mono0 hs (fun it' s' h' => wpAny_pure (And.intro rfl (h it' s' h'.1 h'.2))))))))
      | (refine wpAny_bind (wpAny_rule ?_); show wpAny _ _ (standAt iter.pos >>= _) _ _ s; exact wpAny_bind (wpAny_standAt (wpAny_bind (mono0 hs (fun it' s' h' => wpAny_pure (And.intro rfl (h it' s' h'.1 h'.2)))))))

/-- the turns from their beginning -/
noncomputable def WGo (c : Cx) (n : Nat) (env : Env) (elt : Expr) (gens : List Comprehension) (scope : Scope) (pos : Pos) (tg : Expr → Prop) (xs : List Str) (m : Loc) (ds : List MV) (need : HV → Prop) (H : HV) (K : List MV → HV → Prop) : Prop :=
  ∀ A s₀ s H₀ O D (R' : Result → Shared → Prop) it fp J, Iter c tg it ds fp need J → Room (n + 1) A → St c env m H s → J 0 s.heap → need H → (∀ b ∈ fp, H b = none ∧ c.B.get? b = none) → Spot c env O D fp H → (∀ a, own env xs a → O a) → (∀ a, O a → s₀.heap.get? a = none) →
    s.heap.PlainList D #[] → Stp O H₀ H s₀ s → (∀ s', CompEnd c env m O D H₀ s₀ K s' → R' (.ok .next) s') →
    codeAny (model c.prog c.w) A (.compStart (.ListComp elt gens scope pos) 0 it (.ref D) env) R' s

theorem WGo1 {elt t iter : Expr} {ifs : List Expr} {scope : Scope} {pos : Pos} {tg : Expr → Prop} {ds : List MV} {need : HV → Prop} {K : List MV → HV → Prop} (ht : tg t) (h : WCp c n env t ifs elt need m ds H [] K) :
    WGo c n env elt [⟨t, iter, ifs, 0⟩] scope pos tg (tn 3 t) m ds need H K := by
  intro A s₀ s H₀ O D R' it fp J I R S j nd off P hO hf pl st hR
  refine compStart_k rfl (fun it' s' e1 e2 => ?_) (I.self A s 0 j)
  subst e1 e2
  exact comp_run (gens := [⟨t, iter, ifs, 0⟩]) (k := 0) (vs := []) rfl rfl I ht R S j nd off P hO pl .nil st h hR

noncomputable def WCp2 (c : Cx) (n : Nat) (env : Env) (t1 : Expr) (ifs1 : List Expr) (tg2 : Expr → Prop) (t2 iter2 : Expr) (ifs2 : List Expr) (elt : Expr) (need : HV → Prop) (m : Loc) : List MV → HV → List MV → (List MV → HV → Prop) → Prop
  | [], H, acc, K => K acc H
  | d :: ds, H, acc, K => WA c n env (tn 3 t1) t1 d m H fun m₂ H₂ => (∀ x d, m.lookup x = some d → m₂.lookup x = some d) ∧ WTs c n env ifs1 m₂ H₂ fun b H₃ =>
      if b then WI c n env tg2 iter2 m₂ H₃ fun ds2 need2 H₄ => WCp c n env t2 ifs2 elt need2 m₂ ds2 H₄ acc fun acc' H₅ => need H₅ ∧ WCp2 c n env t1 ifs1 tg2 t2 iter2 ifs2 elt need m ds H₅ acc' K
      else need H₃ ∧ WCp2 c n env t1 ifs1 tg2 t2 iter2 ifs2 elt need m ds H₃ acc K

theorem compTurn_2 {elt t1 iter1 t2 iter2 : Expr} {ifs1 ifs2 : List Expr} {scope : Scope} {pos : Pos} (it acc : Value) (env : Env) (hs : ∀ x, foldedSetIterable iter2 env x = pure x) :
    compTurn (.ListComp elt [⟨t1, iter1, ifs1, 0⟩, ⟨t2, iter2, ifs2, 0⟩] scope pos) 0 it acc env = (do
      standAt iter1.pos
      match ← pyNext it with
      | none => pure (.done .next)
      | some v =>
        letOwnedTupleGo t1 it v
        assign t1 env v
        let ok ← (forIn ifs1 true fun e r => if r = true then do let ok ← isTrue e env (eval e env); pure (ForInStep.yield ok) else pure (ForInStep.yield r))
        if ok then do
          let x ← eval iter2 env
          standAt iter2.pos
          let x ← foldedSetIterable iter2 env x
          let it2 ← holding [x] (pyIter x)
          let _ ← runOwn (.compStart (.ListComp elt [⟨t1, iter1, ifs1, 0⟩, ⟨t2, iter2, ifs2, 0⟩] scope pos) 1 it2 acc env) env
        again (.compLoop (.ListComp elt [⟨t1, iter1, ifs1, 0⟩, ⟨t2, iter2, ifs2, 0⟩] scope pos) 0 it acc env)) := by rfl

theorem WGo2 {elt t1 iter1 t2 iter2 : Expr} {ifs1 ifs2 : List Expr} {scope : Scope} {pos : Pos} {tg tg2 : Expr → Prop} {ds : List MV} {need : HV → Prop} {K : List MV → HV → Prop} (ht : tg t1) (ht2 : tg2 t2) (h : WCp2 c n env t1 ifs1 tg2 t2 iter2 ifs2 elt need m ds H [] K)
    (hs : ∀ x, foldedSetIterable iter2 env x = pure x := by intro _; rfl) :
    WGo c n env elt [⟨t1, iter1, ifs1, 0⟩, ⟨t2, iter2, ifs2, 0⟩] scope pos tg (tn 3 t1 ++ tn 3 t2) m ds need H K := by
  intro A s₀ s H₀ O D R' it fp J I R S j nd off P hO hf pl st hR
  refine compStart_k rfl (fun it' s' e1 e2 => ?_) (I.self A s 0 j)
  subst e1 e2
  refine codeAny_loop rfl (LoopI c env m O D H₀ s₀ ds fp need J fun ds H acc => WCp2 c n env t1 ifs1 tg2 t2 iter2 ifs2 elt need m ds H acc K) ?_ (ds.length + 1)
    ⟨0, H, [], [], rfl, Nat.zero_le _, S, j, nd, off, P.offD.1, pl, .nil, st, h⟩
  rintro q s' ⟨i, H', vs, acc, rfl, hi, S', j', nd', off', hD', pl', V', st', h'⟩
  show wpAny _ A ((compTurn (.ListComp elt [⟨t1, iter1, ifs1, 0⟩, ⟨t2, iter2, ifs2, 0⟩] scope pos) 0 it' (.ref D) env).onRaise (fun x => do noteFrame x env; theTreesLotGoes x)) _ _ s'
  refine wpAny_noted ?_
  rw [compTurn_2 _ _ _ hs]
  refine wpAny_bind (wpAny_standAt (wpAny_bind ?_))
  have own1 : ∀ a, own env (tn 3 t1) a → O a := fun a w => hO a (own_mono (fun x hx => List.mem_append_left _ hx) w)
  have own2 : ∀ a, own env (tn 3 t2) a → O a := fun a w => hO a (own_mono (fun x hx => List.mem_append_right _ hx) w)
  have nOf : ∀ b ∈ fp, ¬ own env (tn 3 t1) b := fun b hb z => z.elim (fun q => (P.noF b hb).1 q) fun ⟨x, _, _, e⟩ => (P.noF b hb).2 x e
  have nOf2 : ∀ b ∈ fp, ¬ own env (tn 3 t2) b := fun b hb z => z.elim (fun q => (P.noF b hb).1 q) fun ⟨x, _, _, e⟩ => (P.noF b hb).2 x e
  have nOD : ¬ own env (tn 3 t1) D := fun z => z.elim (fun q => P.noD.1 q) fun ⟨x, _, _, e⟩ => P.noD.2 x e
  cases hd : ds[i]? with
  | none =>
    have hl : i = ds.length := by
      have := List.getElem?_eq_none_iff.mp hd
      first | lia | omega
    subst hl
    refine mono0 (I.done n A s' H' R S'.sh nd' j' off') ?_
    rintro r s₁ ⟨rfl, hh, tk, rfl, kp⟩
    obtain ⟨S₁, st₁⟩ := S'.iter (tk := tk) off' (I.live _ _ j') P.noF kp
    rw [List.drop_length] at h'
    have ki := iter_ki S'.sh off' (I.live _ _ j') kp
    have pl₁ : hh.PlainList D vs.toArray := let ⟨kk, e⟩ := pl'; ⟨kk, kp D _ P.apart e⟩
    exact wpAny_pure (hR _ ⟨H', vs, acc, S₁, pl₁, V'.mono ki, st'.trans (st₁.weaker fun a hb => P.inF a hb), hD', h'⟩)
  | some d =>
    have hlt : i < ds.length := (List.getElem?_eq_some_iff.mp hd).1
    refine mono0 (I.item n A s' H' i d t1 ht R S'.sh nd' j' off' hd) ?_
    rintro r s₁ ⟨v, rfl, hg⟩
    dsimp only
    refine wpAny_bind (mono0 hg ?_)
    rintro _ s₂ ⟨hh, tk, rfl, vr, j₂, kp⟩
    obtain ⟨S₂, st₂⟩ := S'.iter (tk := tk) off' (I.live _ _ j') P.noF kp
    have ki := iter_ki S'.sh off' (I.live _ _ j') kp
    have pl₂ : hh.PlainList D vs.toArray := let ⟨kk, e⟩ := pl'; ⟨kk, kp D _ P.apart e⟩
    have V₂ : VRs c hh vs acc := V'.mono ki
    have hdr : ds.drop i = d :: ds.drop (i + 1) := by
      rw [List.drop_eq_getElem_cons hlt]
      congr 1
      rw [List.getElem?_eq_getElem hlt] at hd
      exact Option.some.inj hd
    rw [hdr] at h'
    have Rn := R.mono (Nat.le_succ n)
    refine wpAny_bind (mono0 (h' A _ v Rn S₂ vr) ?_)
    rintro _ s₃ ⟨m₃, H₃, S₃, st₃, less, k₃⟩
    refine wpAny_bind (mono0 (k₃ A s₃ Rn S₃) ?_)
    rintro ok s₄ ⟨H₄, sh₄, st₄, k₄⟩
    have S₄ := S₃.step st₄ sh₄
    have stA : Stp (own env (tn 3 t1)) H' H₄ { s' with heap := hh, toks := tk } s₄ := st₃.trans st₄.toOwn
    have stS : Stp O H₀ H' s₀ { s' with heap := hh, toks := tk } := st'.trans (st₂.weaker fun a hb => P.inF a hb)
    have DlO : ∀ {o}, hh.get? D = some o → ¬ imm o ∧ c.B.get? D = none := fun {o} e => by
      obtain ⟨o', e', ni⟩ := plain_ni pl₂
      rw [e] at e'; cases e'; exact ⟨ni, P.offD.2⟩
    -- the rest of a turn, whatever was changed but the loop's own
    have fin : ∀ (s₅ : Shared) (H₅ : HV) (vs' : List Value) (acc' : List MV) (O₂ : Addr → Prop), (∀ a, O₂ a → O a ∨ s₀.heap.get? a = none) → (∀ b ∈ fp, ¬ O₂ b) → (∀ a o, O₂ a → hh.get? a = some o → ¬ (imm o ∨ c.B.get? a = some o)) → Stp O₂ H' H₅ { s' with heap := hh, toks := tk } s₅ → St c env m H₅ s₅ → s₅.heap.PlainList D vs'.toArray → VRs c s₅.heap vs' acc' → need H₅ → H₅ D = none → WCp2 c n env t1 ifs1 tg2 t2 iter2 ifs2 elt need m (ds.drop (i + 1)) H₅ acc' K →
        Later (ds.length + 1 - i) (LoopI c env m O D H₀ s₀ ds fp need J fun ds H acc => WCp2 c n env t1 ifs1 tg2 t2 iter2 ifs2 elt need m ds H acc K) s₅ := by
      intro s₅ H₅ vs' acc' O₂ hO₂ nB nI stB S₅ pl₅ V₅ nd₅ hD₅ k₅
      have j₅ : J (i + 1) s₅.heap := I.frame _ _ _ j₂ (fun b hb o e => stB.keep b o e (off' b hb).1 (nB b hb)) (stB.imm S₂.sh nI)
      have off₅ : ∀ b ∈ fp, H₅ b = none ∧ c.B.get? b = none := fun b hb => by
        refine ⟨?_, (off' b hb).2⟩
        cases q : H₅ b with
        | none => rfl
        | some mo =>
          obtain ⟨o, eo, _⟩ := I.live _ _ j₂ b hb
          rcases stB.fresh b (off' b hb).1 mo q with z | z
          · rw [eo] at z; cases z
          · exact absurd z (nB b hb)
      refine ⟨ds.length + 1 - (i + 1), by first | lia | omega, i + 1, H₅, vs', acc', rfl, hlt, S₅, j₅, nd₅, off₅, hD₅, pl₅, V₅, ?_, k₅⟩
      have := (stS.weaker (o' := fun a => O a ∨ O₂ a) fun a => .inl).trans (stB.weaker fun a => .inr)
      exact this.weak fun a z => z.elim .inl (hO₂ a)
    have offD₄ : H₄ D = none := by
      cases q : H₄ D with
      | none => rfl
      | some mo =>
        obtain ⟨o, eo, _⟩ := plain_ni pl₂
        rcases stA.fresh D hD' mo q with z | z
        · rw [show ({ s' with heap := hh, toks := tk } : Shared).heap = hh from rfl, eo] at z; cases z
        · exact absurd z nOD
    have pl₄ : s₄.heap.PlainList D vs.toArray := let ⟨kk, e⟩ := pl₂; ⟨kk, stA.keep D _ e hD' nOD⟩
    have V₄ : VRs c s₄.heap vs acc := V₂.mono (stA.imm S₂.sh fun a o w => S₂.ownNot a o w)
    cases ok with
    | false =>
      obtain ⟨nd₄, k₄⟩ := k₄
      obtain ⟨q, hq, rest⟩ := fin s₄ H₄ vs acc _ (fun a w => .inl (own1 a w)) nOf (fun a o w => S₂.ownNot a o w) stA (S₄.less less) pl₄ V₄ nd₄ offD₄ k₄
      first | exact wpAny_pure ⟨rfl, q, hq, rest⟩ | exact wpAny_bind (wpAny_pure (wpAny_pure ⟨rfl, q, hq, rest⟩))
    | true =>
      rw [if_pos rfl] at k₄ ⊢
      refine wpAny_bind (mono0 (k₄ A s₄ R S₄) ?_)
      intro x s₅ h₅
      refine wpAny_bind (wpAny_standAt (wpAny_bind ?_))
      rw [hs x]
      refine wpAny_pure (wpAny_bind (wpAny_holding (mono0 h₅ ?_)))
      rintro it2 s₆ ⟨ds2, fp2, need2, J2, H₆, I2, j2, fr2, sh₆, st₆, off2, nd2, k₆⟩
      have S₆ := S₄.step st₆ sh₆
      have offD₆ : H₆ D = none := none_of_fresh st₆.fresh (plain_ni pl₄).choose_spec.1 offD₄
      have pl₆ : s₆.heap.PlainList D vs.toArray := let ⟨kk, e⟩ := pl₄; ⟨kk, st₆.keep D _ e offD₄ id⟩
      have V₆ : VRs c s₆.heap vs acc := st₆.vrs sh₄ V₄
      have fresh2 : ∀ b ∈ fp2, hh.get? b = none := fun b hb => by
        cases q : hh.get? b with
        | none => rfl
        | some o =>
          by_cases w : own env (tn 3 t1) b
          · exact absurd (w.imp (fun e => (nofp (s₂ := s₄) (H₂ := H₄) S₄ fr2 b hb).1 e) fun ⟨x, _, _, e⟩ => (nofp (s₂ := s₄) (H₂ := H₄) S₄ fr2 b hb).2 x e) (by rintro (z | z) <;> exact z)
          · obtain ⟨o', e'⟩ := stA.live b o q w
            rw [fr2 b hb] at e'; cases e'
      have fresh0 : ∀ b ∈ fp2, s₀.heap.get? b = none := fun b hb => by
        cases q : s₀.heap.get? b with
        | none => rfl
        | some o =>
          by_cases w : O b
          · exact hf b w ▸ q ▸ rfl
          · obtain ⟨o', e'⟩ := stS.live b o q w
            have := fresh2 b hb
            rw [show ({ s' with heap := hh, toks := tk } : Shared).heap = hh from rfl, this] at e'; cases e'
      refine wpAny_bind (wpAny_runOwn ?_)
      rw [show A.mark none = A from rfl]
      refine compStart_k rfl (fun it3 s₆' e1 e2 => ?_) (I2.self A s₆ 0 j2)
      subst e1 e2
      have stC : Stp (own env (tn 3 t1)) H' H₆ { s' with heap := hh, toks := tk } s₆' := stA.trans st₆.toOwn
      refine comp_run (gens := [⟨t1, iter1, ifs1, 0⟩, ⟨t2, iter2, ifs2, 0⟩]) (k := 1) (s₀ := { s' with heap := hh, toks := tk }) (H₀ := H') (O := fun a => own env (tn 3 t1) a ∨ own env (tn 3 t2) a ∨ a ∈ fp2 ∨ a = D) rfl rfl I2 ht2 R S₆ j2 nd2 off2
        ⟨⟨offD₆, P.offD.2⟩, P.noD, nofp (s₂ := s₆') (H₂ := H₆) S₄ fr2, fun hb => (by obtain ⟨o, e, _⟩ := plain_ni pl₂; rw [fresh2 D hb] at e; cases e), .inr (.inr (.inr rfl)), fun b hb => .inr (.inr (.inl hb))⟩ (fun a w => .inr (.inl w)) pl₆ V₆ (stC.weaker fun a => .inl) k₆ ?_
      rintro s₇ ⟨H₇, vs₇, acc₇, S₇, pl₇, V₇, st₇, hD₇, nd₇, k₇⟩
      obtain ⟨q, hq, rest⟩ := fin s₇ H₇ vs₇ acc₇ _ (fun a w => by
          rcases w with w | w | w | w
          · exact .inl (own1 a w)
          · exact .inl (own2 a w)
          · exact .inr (fresh0 a w)
          · exact .inl (w ▸ P.inO)) (fun b hb w => by
          rcases w with w | w | w | w
          · exact nOf b hb w
          · exact nOf2 b hb w
          · obtain ⟨o, e, _⟩ := I.live _ _ j₂ b hb
            rw [fresh2 b w] at e; cases e
          · exact P.apart (w ▸ hb)) (fun a o w e z => by
          rcases w with w | w | w | w
          · exact S₂.ownNot a o w e z
          · exact S₂.ownNot a o w e z
          · rw [fresh2 a w] at e; cases e
          · subst w
            obtain ⟨n1, n2⟩ := DlO e
            rcases z with z | z
            · exact n1 z
            · rw [n2] at z; cases z) st₇ (S₇.less less) pl₇ V₇ nd₇ hD₇ k₇
      first | exact wpAny_pure ⟨rfl, q, hq, rest⟩ | exact wpAny_pure (wpAny_pure ⟨rfl, q, hq, rest⟩) | exact wpAny_bind (wpAny_pure (wpAny_pure ⟨rfl, q, hq, rest⟩))
end
end
section
-- M7e
section
variable {c : Cx} {n : Nat} {env : Env} {m : Loc} {H : HV}

/-- only the block's own names are gone -/
theorem fin_keep {s' : Shared} {h' : Heap} {C : Addr} (hs : Heap.SameBut C s'.heap h') : ∀ b o, b ≠ C → s'.heap.get? b = some o → h'.get? b = some o := fun b o q e => hs.extBut b o q e

theorem comp_start {elt t iter : Expr} {ifs : List Expr} {rest : List Comprehension} {scope : Scope} {pos : Pos} {tg : Expr → Prop} {xs : List Str} {K : List MV → HV → Prop} {A : Around} {s : Shared} {use : Option (Value → Sem Unit)} {Q : Value → Shared → Prop}
    (ok : ScopeOk env scope xs) (R : Room (n + 1) A) (S : St c env m H s)
    (h : WI c n env tg iter m H fun ds need H₁ => ∀ cells C, WGo c n (compEnvC scope cells C env) elt (⟨t, iter, ifs, 0⟩ :: rest) scope pos tg xs (capM scope m) ds need H₁ K)
    (hs : ∀ x, foldedSetIterable iter env x = pure x)
    (hQ : ∀ s' C D cenv, CompEnd c cenv (capM scope m) (fun a => s.heap.get? a = none) D H s K s' → cenv.locals = C → s.heap.get? C = none → s.heap.get? D = none → D ≠ C → compPost (model c.prog c.w) A NoE use Q (.ref D) C (.ok .next) s') :
    wpAny (model c.prog c.w) A (comprehension (.ListComp elt (⟨t, iter, ifs, 0⟩ :: rest) scope pos) scope env (firstIterPos (⟨t, iter, ifs, 0⟩ :: rest) pos) (newList []) false (eval iter env) use) Q NoE s := by
  refine wpAny_comprehension_free (cl := clFrom env scope.names []) rfl hs (closureFor_eq fun x hx => S.fr.has x (ok.free _ hx rfl)) ok.kind (fun x hx e => by rw [ok.fn x hx, e]) ?_
  refine mono0 (h A s R S) ?_
  intro x s₁ h₁
  refine mono0 h₁ ?_
  rintro it s₂ ⟨ds, fp, need, J, H₂, I, j, fr, sh₂, st₂, off, nd, k⟩
  have S₂ := S.step st₂ sh₂
  refine comp_block (xs := xs) (RR := fun acc C cenv s₄ => codeAny (model c.prog c.w) A (.compStart (.ListComp elt (⟨t, iter, ifs, 0⟩ :: rest) scope pos) 0 it acc cenv) (compPost (model c.prog c.w) A NoE use Q acc C) s₄) S₂ ok ?_
  intro C D cells s₄ X
  obtain ⟨h₄, rfl, ext⟩ := X.ext
  have back : ∀ {a}, s₂.heap.get? a = none → s.heap.get? a = none := fun {a} e => fresh_of st₂ e
  have st₄ : Stp nw H H₂ s { s₂ with heap := h₄ } := st₂.trans (Stp.ext (tk := s₂.toks) ext)
  have j₄ : J 0 h₄ := I.frame _ _ _ j (fun b _ o e => ext b o e) fun a o e _ => ext a o e
  have liv : ∀ b ∈ fp, ∃ o, s₂.heap.get? b = some o := fun b hb => let ⟨o, e, _⟩ := I.live _ _ j b hb; ⟨o, e⟩
  refine k cells C A s { s₂ with heap := h₄ } H (fun a => s.heap.get? a = none) D _ it fp J I R X.st j₄ nd off ⟨⟨S₂.sh.fresh X.newD, newB S₂.sh X.newD⟩, X.noD, fun b hb => ⟨?_, fun x e => ?_⟩, fun hb => ?_, back X.newD, fr⟩ (fun a w => back (X.own a w)) (fun a w => w) X.acc (st₄.weak fun a z => z.elim) ?_
  · intro z
    have z : b = C := z
    obtain ⟨o, e⟩ := liv _ hb
    rw [z, X.newC] at e; cases e
  · rcases X.cells x b e with z | z
    · exact (nofp (s₂ := s₂) (H₂ := H₂) S fr b hb).2 x z
    · obtain ⟨o, e⟩ := liv _ hb
      rw [z] at e; cases e
  · obtain ⟨o, e⟩ := liv _ hb
    rw [X.newD] at e; cases e
  · intro s' E
    exact hQ s' C D _ E X.loc (back X.newC) (back X.newD) (X.loc ▸ X.noD.1)

/-- what holds when the block's frame is gone -/
theorem comp_end {cenv : Env} {m' : Loc} {K : List MV → HV → Prop} {s s' : Shared} {C D : Addr} (sh : Sh c H s.heap) (E : CompEnd c cenv m' (fun a => s.heap.get? a = none) D H s K s') (hl : cenv.locals = C) (nC : s.heap.get? C = none) (nD : s.heap.get? D = none) :
    ∃ mm H' acc, s'.heap.Ns C mm ∧ H' D = none ∧ c.B.get? D = none ∧ H' C = none ∧ K acc H' ∧ Sh c (H'.set D (.list acc)) s'.heap ∧ Stp nw H (H'.set D (.list acc)) s s' ∧ c.B.get? C = none := by
  obtain ⟨H', vs, acc, S', pl, V, st, hD, k⟩ := E
  subst hl
  obtain ⟨mm, F, _⟩ := S'.fr.mm
  have bD : c.B.get? D = none := newB sh nD
  refine ⟨mm, H', acc, F, hD, bD, S'.fr.lH, k, ⟨S'.sh.base, fun b o e => ?_, fun b o e => ?_⟩, ?_, S'.fr.newL⟩
  · by_cases q : b = D
    · rw [q]; exact bD
    · rw [HV.set_ne q] at e; exact S'.sh.new b o e
  · by_cases q : b = D
    · subst q; rw [HV.set_self] at e; cases e; exact .list pl V
    · rw [HV.set_ne q] at e; exact S'.sh.rel b o e
  · refine (⟨st.same, st.keep, fun a n o e => ?_, st.live⟩ : Stp (fun a => s.heap.get? a = none) H (H'.set D (.list acc)) s s').weak fun a z => .inr z
    by_cases q : a = D
    · rw [q]; exact .inl nD
    · rw [HV.set_ne q] at e; exact st.fresh a n o e
/-- an object off the view goes its own way -/
theorem Sh.off {h h' : Heap} {C : Addr} (sh : Sh c H h) (hC : H C = none) (bC : c.B.get? C = none) (ni : ∃ o, h.get? C = some o ∧ ¬ Mine.imm o) (k : ∀ b o, b ≠ C → h.get? b = some o → h'.get? b = some o) : Sh c H h' ∧ (∀ a o, h.get? a = some o → Mine.imm o ∨ c.B.get? a = some o → h'.get? a = some o) := by
  have ki : ∀ a o, h.get? a = some o → Mine.imm o ∨ c.B.get? a = some o → h'.get? a = some o := fun a o e i => k a o (by
    rintro rfl
    obtain ⟨o', e', n⟩ := ni
    rw [e] at e'; cases e'
    rcases i with i | i
    · exact n i
    · rw [bC] at i; cases i) e
  exact ⟨⟨fun a o e => ki a o (sh.base a o e) (.inr e), sh.new, fun a o e => (sh.rel a o e).mono (fun ob eo => k a ob (fun q => by rw [q, hC] at e; cases e) eo) ki⟩, ki⟩
theorem ns_ni {h : Heap} {C : Addr} {mm : Str → Option Value} (F : h.Ns C mm) : ∃ o, h.get? C = some o ∧ ¬ imm o := by
  obtain ⟨o, es, ep, ho, hd, _⟩ := F
  exact ⟨o, ho, imm_dict hd⟩
theorem WE_Comp {elt t iter : Expr} {ifs : List Expr} {rest : List Comprehension} {scope : Scope} {pos : Pos} {tg : Expr → Prop} {xs : List Str} {K : MV → HV → Prop}
    (h : WI c n env tg iter m H fun ds need H₁ => ∀ cells C, WGo c n (compEnvC scope cells C env) elt (⟨t, iter, ifs, 0⟩ :: rest) scope pos tg xs (capM scope m) ds need H₁ fun acc H₂ => ∀ a, H₂ a = none → c.B.get? a = none → K (.ref a) (H₂.set a (.list acc)))
    (ok : scopeOk env scope xs = true := by decide) (hs : ∀ x, foldedSetIterable iter env x = pure x := by intro _; rfl) : WE c (n + 1) env (.ListComp elt (⟨t, iter, ifs, 0⟩ :: rest) scope pos) m H K := by
  intro A s R S
  rw [eval_ListComp]
  refine comp_start (use := none) (scopeOk_is ok) R S h hs fun s' C D cenv E hl nC nD ne => ?_
  obtain ⟨mm, H', acc, F, hD, bD, hC, k, sh', st', bC⟩ := comp_end S.sh E hl nC nD
  refine ⟨mm, F, fun h' hs' => ?_⟩
  have hC' : (H'.set D (.list acc)) C = none := by rw [HV.set_ne (Ne.symm ne)]; exact hC
  obtain ⟨sh₂, ki⟩ := sh'.off hC' bC (ns_ni F) (h' := h') fun b o q e => hs'.extBut b o q e
  have stC : Stp (fun a => a = C) (H'.set D (.list acc)) (H'.set D (.list acc)) s' { s' with heap := h' } := ⟨⟨h', s'.toks, rfl⟩, fun a o e _ w => hs'.extBut a o w e, fun a n o e => (by rw [n] at e; cases e), fun a o e w => ⟨o, hs'.extBut a o w e⟩⟩
  have st₂ := ((st'.weaker (o' := fun a => a = C) fun a z => z.elim).trans stC).weak (own' := nw) fun a z => .inr (z ▸ nC)
  exact ⟨.ref D, _, sh₂, .ref D, st₂, k D hD bD⟩

theorem WX_AssignComp {y : Str} {elt t iter : Expr} {ifs : List Expr} {rest : List Comprehension} {scope : Scope} {py pos spos : Pos} {tg : Expr → Prop} {xs : List Str} {K : FM → Loc → HV → Prop}
    (h : WI c n env tg iter m H fun ds need H₁ => ∀ cells C, WGo c n (compEnvC scope cells C env) elt (⟨t, iter, ifs, 0⟩ :: rest) scope pos tg xs (capM scope m) ds need H₁ fun acc H₂ => ∀ a, H₂ a = none → c.B.get? a = none → K .next ((y, .ref a) :: m) (H₂.set a (.list acc)))
    (ok : scopeOk env scope xs = true := by decide) (hs : ∀ x, foldedSetIterable iter env x = pure x := by intro _; rfl)
    (hsw : swapsWith (.ListComp elt (⟨t, iter, ifs, 0⟩ :: rest) scope pos) (some (.Name y py)) spos.line env = pure true := by rfl)
    (hy : env.kindOf y = some .local := by rfl) (hp : (env.scope.kind == .class || (env.scope.kind == .module && env.locals != env.globals)) = false := by rfl) :
    WX c (n + 1) env (.Assign [.Name y py] (.ListComp elt (⟨t, iter, ifs, 0⟩ :: rest) scope pos) spos) m H K := by
  intro A s R S
  rw [exec_Assign_Name_used _ _ _ _ hsw]
  refine wpAny_bind (wpAny_standAt (wpAny_bind ?_))
  show wpAny _ A (do let _ ← comprehension (.ListComp elt (⟨t, iter, ifs, 0⟩ :: rest) scope pos) scope env _ (newList []) false (eval iter env) (some (assign (.Name y py) env))) _ _ s
  refine wpAny_bind (wpAny_mono (comp_start (use := some (assign (.Name y py) env)) (Q := fun _ s' => PostS c env (ownA env) H s K .next s') (scopeOk_is ok) R S h hs fun s' C D cenv E hl nC nD ne => ?_) (fun _ s' hq => wpAny_pure (wpAny_pure hq)) fun _ _ e => e)
  obtain ⟨mm, H', acc, F, hD, bD, hC, k, sh', st', bC⟩ := comp_end S.sh E hl nC nD
  have S' := S.step st' sh'
  obtain ⟨mm', F', hm'⟩ := S'.fr.mm
  have hC' : (H'.set D (.list acc)) C = none := by rw [HV.set_ne (Ne.symm ne)]; exact hC
  have hLC : env.locals ≠ C := by
    rintro rfl
    obtain ⟨mm, ⟨o, es, ep, ho, _⟩, _⟩ := S.fr.mm
    rw [nC] at ho; cases ho
  have hcC : ∀ x, env.cells.lookup x ≠ some C := fun x e => by
    obtain ⟨v, o, ho, _⟩ := S.fr.ex x C e
    rw [nC] at ho; cases ho
  show wpAny _ A (assign (.Name y py) env (.ref D)) _ _ _
  refine wpAny_assign_Name (wpAny_storeName_local hy F' (fun h₂ hn₂ hs₂ => ?_) hp)
  obtain ⟨S₂, st₂⟩ := S'.local (tk := s'.toks + 1) hy hm' hn₂ hs₂ (.ref D : VR c s'.heap (.ref D) (.ref D)) []
  have F₂ : h₂.Ns C mm := F.sameBut hs₂ (Ne.symm hLC)
  refine ⟨mm, F₂, fun h₃ hs₃ => ?_⟩
  obtain ⟨S₃, st₃⟩ := S₂.bump (D := C) (h := h₃) (tk := s'.toks + 1) ⟨hC', bC⟩ (ns_ni F₂) ⟨Ne.symm hLC, hcC⟩ fun b o q e => hs₃.extBut b o q e
  refine ⟨_, _, S₃, ?_, k D hD bD⟩
  have z1 : Stp (fun a => ownA env a ∨ a = C) H (H'.set D (.list acc)) s { s' with heap := h₃, toks := s'.toks + 1 } := ((st'.weaker fun a z => z.elim).trans (st₂.weaker fun a w => .inl (own_A w))).trans (st₃.weaker fun a w => .inr w)
  exact z1.weak fun a z => z.elim .inl fun w => .inr (w ▸ nC)
end
end
section
-- M8
section
variable {c : Cx} {n : Nat} {env : Env} {m : Loc} {H : HV}

noncomputable abbrev tupT : Expr → Prop := fun t => ∃ es k p, t = .Tuple es k p

inductive EnL (e I l : Addr) (i : Nat) (h : Heap) : Prop
  | mk (old : Value) (he : IsEnum h e I (i : Int) old) (hit : h.IsListIter I l i)
theorem iter_enumL {e I l : Addr} {ds : List MV} (hei : e ≠ I) :
    Iter c tupT (.ref e) (enumL ds) [e, I] (fun H => H l = some (.list ds)) (EnL e I l) where
  live := fun i h J b hb => by
    obtain ⟨old, he, ⟨o, ho, hc, hd⟩⟩ := J
    rcases List.mem_cons.mp hb with rfl | hb
    · exact ⟨_, he, imm_fieldsT rfl rfl⟩
    · rw [List.mem_singleton.mp hb]; exact ⟨o, ho, imm_fieldsT hd hc⟩
  item := fun n A s H i d target tgt R sh nd J off hd => by
    obtain ⟨old, he, hit⟩ := J
    obtain ⟨d, hd', rfl⟩ := enumL_get hd
    obtain ⟨vs, hl, V⟩ := (sh.rel l _ nd).isList
    obtain ⟨v, hv, r⟩ := V.get hd'
    have ht : s.heap.IsList l vs.toArray := hl.isList
    have ne1 : l ≠ e := by
      rintro rfl
      rw [(off l (by simp)).1] at nd; cases nd
    have ne2 : l ≠ I := by
      rintro rfl
      rw [(off l (by simp)).1] at nd; cases nd
    have hlt : i < vs.toArray.size := by
      have := (List.getElem?_eq_some_iff.mp hv).1
      simpa using this
    refine wpAny_pyNext_enum_itemD (Draws.list (A := A.in1) R.handled I l ne2 vs.toArray) he ⟨hit, ht⟩ hlt hei (by simp [hei, Ne.symm ne1]) fun x h' tk hP ho hst hT hsz hk => ⟨_, rfl, ?_⟩
    have hx : x = v := by
      have : vs[i]? = some x := by simpa using hP
      rw [hv] at this; exact (Option.some.inj this).symm
    subst hx
    have kp : ∀ b o, b ∉ [e, I] → s.heap.get? b = some o → h'.get? b = some o := fun b o hb q => hk b o (fun z => hb (by simp [z])) (fun z => hb (by simp [z])) q
    have ni : ∀ b ∈ [e, I], ∃ o, s.heap.get? b = some o ∧ ¬ imm o := fun b hb => by
      obtain ⟨o, ho, hc, hd⟩ := hit
      rcases List.mem_cons.mp hb with rfl | hb
      · exact ⟨_, he, imm_fieldsT rfl rfl⟩
      · rw [List.mem_singleton.mp hb]; exact ⟨o, ho, imm_fieldsT hd hc⟩
    have ki := iter_ki sh off ni kp
    have helt : e < s.heap.objs.size := Heap.lt_size he
    have fin : ∀ h'' : Heap, Heap.SameBut e h' h'' → IsEnum h'' e I (((i + 1 : Nat) : Int)) x → ItemPost c [e, I] (EnL e I l) i s (.ref s.heap.objs.size) (.tup [.int (i : Int), d]) { s with heap := h'', toks := tk + 1 } := by
      intro h'' hs'' he''
      have ki2 : ∀ a o, s.heap.get? a = some o → imm o ∨ c.B.get? a = some o → h''.get? a = some o := fun a o q z => by
        refine hs''.extBut a o ?_ (ki a o q z)
        rintro rfl
        rw [he] at q; cases q
        rcases z with z | z
        · exact (imm_fieldsT rfl rfl : ¬ imm _) z
        · rw [(off a (by simp)).2] at z; cases z
      refine ⟨h'', tk + 1, rfl, ?_, ⟨x, he'', hst.1.extBut hs''.extBut (Ne.symm hei)⟩, fun b o hb q => hs''.extBut b o (fun z => hb (by simp [z])) (kp b o hb q)⟩
      refine .tup (vs := [.int i tk, x]) ⟨_, hs''.extBut _ _ (Nat.ne_of_gt helt) hT, rfl, 0, rfl⟩ (.cons (.int _ _) (.cons (r.mono ki2) .nil))
    obtain ⟨elts, k, pos, rfl⟩ := tgt
    exact wpAny_letOwnedTupleGo_enum (item := x) ho fun h'' he'' hs'' => fin h'' hs'' (by simpa using he'')
  done := fun n A s H R sh nd J off => by
    obtain ⟨old, he, hit⟩ := J
    rw [enumL_length] at hit
    obtain ⟨vs, hl, V⟩ := (sh.rel l _ nd).isList
    have ne2 : l ≠ I := by
      rintro rfl
      rw [(off l (by simp)).1] at nd; cases nd
    have e1 : ds.length = vs.toArray.size := by rw [List.size_toArray, V.length]
    refine wpAny_pyNext_enum_endD (Draws.list (A := A.in1) R.handled I l ne2 vs.toArray) he ⟨e1 ▸ hit, hl.isList⟩ fun h' hx => ⟨rfl, h', s.toks, rfl, fun b o hb q => hx b o (fun z => hb (by simp [z])) q⟩
  self := fun A s i J => by obtain ⟨old, he, _⟩ := J; exact wpAny_pyIter_enum he ⟨rfl, rfl⟩
  frame := fun i h h' J k ki => by
    obtain ⟨old, he, hit⟩ := J
    exact ⟨old, k e (by simp) _ he, hit.at fun o q => k I (by simp) o q⟩

/-- what enumerate counts -/
inductive EnSrc (H : HV) : MV → List MV → (HV → Prop) → Prop
  | tup {ds} : EnSrc H (.tup ds) ds (fun _ => True)
  | list {l ds} : H l = some (.list ds) → EnSrc H (.ref l) ds (fun H => H l = some (.list ds))

theorem WI_enum {f e : Expr} {pos : Pos} {K : List MV → (HV → Prop) → HV → Prop} (hf : WE c n env f m H fun d H₁ => d = .val (.type "enumerate") ∧ H₁ = H)
    (h : WE c n env e m H fun d H₁ => ∃ ds need, EnSrc H₁ d ds need ∧ K (enumL ds) need H₁)
    (hst : (backTo pos (starEach [e] env)).any (·.1) = false := by rfl) (hse : starEach [e] env = (false, eval e env) :: starEach [] env := by rfl)
    (he : eval (.Call f [e] [] pos) env = (do callWith pos (← eval f env) [] (backTo pos (starEach [e] env)) (backToKw pos (keywordEach [] env))) := by rfl) : WI c n env tupT (.Call f [e] [] pos) m H K := by
  intro A s R S
  have Rn := R.mono (Nat.le_succ n)
  refine Call_ (mono0 (hf A s Rn S) ?_) he
  rintro fv s₁ ⟨d, H₁, sh₁, vr₁, st₁, rfl, rfl⟩
  obtain rfl := vr₁.isVal
  have h' := WEs_cons (pos := pos) (r := []) (K := fun ds H₁ => ∃ d, ds = [d] ∧ ∃ ds need, EnSrc H₁ d ds need ∧ K (enumL ds) need H₁) (h.mono fun d H' q => WEs_nil ⟨d, rfl, q⟩) hse
  refine wp_callWith (c := c) Kp.type hst (mono0 (h' A s₁ Rn (S.step st₁ sh₁)) ?_)
  rintro vs s₂ ⟨_, H₂, sh₂, V, st₂, d, rfl, ds, need, src, k⟩
  refine ⟨sh₂.base, ?_⟩
  have st := st₁.trans st₂
  obtain ⟨_, rfl, r⟩ := V.isOne
  · skip
    have hs1 : s₂.heap.get? s₂.heap.objs.size = none := get_size
    have hs2 : s₂.heap.get? (s₂.heap.objs.size + 1) = none := Heap.get?_none_of_le (Nat.le_succ _)
    have off : ∀ b ∈ [s₂.heap.objs.size + 1, s₂.heap.objs.size], s₂.heap.get? b = none := fun b hb => by
      rcases List.mem_cons.mp hb with rfl | hb
      · exact hs2
      · rw [List.mem_singleton.mp hb]; exact hs1
    cases src with
    | tup =>
      obtain ⟨a, vs, rfl, ht, W⟩ := r.isTup
      · skip
        refine call_enum_tuple ht fun h' he hit kp => ?_
        refine wpAny_pyIter_enum he ?_
        refine ⟨enumL ds, _, _, _, H₂, iter_enum (t := a) (vs := vs) (Nat.succ_ne_self _), ⟨.none, he, hit, tup_keep (c := c) ht fun a o e _ => kp a o e, W.mono fun a o e _ => kp a o e⟩, fun b hb => fresh_of st (off b hb), sh₂.ext kp, st.trans (Stp.ext (tk := s₂.toks) kp), fun b hb => ⟨sh₂.fresh (off b hb), newB sh₂ (off b hb)⟩, trivial, k⟩
    | list hl =>
      obtain rfl := r.isRef
      obtain ⟨_, hp, W⟩ := (sh₂.rel _ _ hl).isList
      · skip
        refine call_enumerate_list hp.isList fun h' he hit _ kp => ?_
        refine wpAny_pyIter_enum he ?_
        exact ⟨enumL ds, _, _, _, H₂, iter_enumL (Nat.succ_ne_self _), ⟨.none, he, hit⟩, fun b hb => fresh_of st (off b hb), sh₂.ext kp, st.trans (Stp.ext (tk := s₂.toks) kp), fun b hb => ⟨sh₂.fresh (off b hb), newB sh₂ (off b hb)⟩, hl, k⟩

-- a tuple of a range
theorem wpAny_collect_range {prog : Program} {w : World} {A : Around} {E : Value → Shared → Prop} {s : Shared} {r : Addr} {a b : Int} {t u v : Tok} {k : Nat} {Q : List Value → Shared → Prop} (hh : A.handled = none) (hr : IsRange s.heap r a b 1 t u v) (hsmall : Builtin.Range.small a b 1 = true)
    (hn : Builtin.Range.rangeSize a b 1 = k) (hlen : k ≤ 2 ^ 24)
    (hQ : ∀ h' tk acc, (∀ b o', s.heap.get? b = some o' → h'.get? b = some o') → ItemsOf (fun i v => ∃ t, v = .int (a + i * 1) t) acc k → Q acc.toList { s with heap := h', toks := tk }) :
    wpAny (model prog w) A (collect (.ref r)) Q E s := by
  unfold collect
  refine wpAny_bind (wpAny_runValue (codeAny_builtin PySem.F.entry_proto_collect ?_))
  rw [Around.under_plainId PySem.F.plain_proto_collect _]
  show wpAny _ A.in1 (newList [] >>= fun l => again (.builtin "list.__iadd__" ⟨[l, .ref r], []⟩)) _ _ s
  refine wpAny_bind (wpAny_newObj_type ?_)
  refine wpAny_pure ⟨plainId_quiet PySem.F.plain_list_iadd _, codeAny_builtin PySem.F.entry_list_iadd ?_⟩
  rw [Around.under_plainId PySem.F.plain_list_iadd _]
  show wpAny _ A.in1 (Builtin.List.listExtendWith (.ref s.heap.objs.size) (.ref r) (.ref s.heap.objs.size)) _ _ _
  have hS : (s.heap.push { cls := .type "list", data := .seq ([] : List Value).toArray }).get? s.heap.objs.size = some { cls := .type "list", data := .seq #[] 0 } := Heap.get?_push_size _ rfl
  have fin' : ∀ s', (∃ h' tk acc' c', s' = { s with heap := h', toks := tk } ∧ h'.get? s.heap.objs.size = some { cls := .type "list", dict := none, data := .seq acc' c', slots := #[] } ∧ ItemsOf (fun i v => ∃ t, v = .int (a + i * 1) t) acc' k ∧ ∀ b o, s.heap.get? b = some o → h'.get? b = some o) → wpAny (model prog w) A (match Value.ref s.heap.objs.size with
      | Value.ref a => do
        match (← load a).data with
          | Data.seq xs _ => pure xs.toList
          | _ => unsupported "internal:collect"
      | _ => unsupported "internal:collect") Q E s' := by
    rintro s' ⟨h', tk, acc', c', rfl, hS', hacc, hk⟩
    show wpAny _ A (load s.heap.objs.size >>= _) _ _ _
    refine wpAny_bind (wpAny_load hS' ?_)
    exact wpAny_pure (hQ h' tk acc' hk hacc)
  refine wpAny_mono (wpAny_extend_range (A := A) (R := fun r s' => r = .ok (.ret (.ref s.heap.objs.size)) ∧ ∃ h' tk acc' c', s' = { s with heap := h', toks := tk } ∧ h'.get? s.heap.objs.size = some { cls := .type "list", dict := none, data := .seq acc' c', slots := #[] } ∧ ItemsOf (fun i v => ∃ t, v = .int (a + i * 1) t) acc' k ∧ ∀ b o, s.heap.get? b = some o → h'.get? b = some o)
    (s := { s with heap := s.heap.push { cls := .type "list", data := .seq ([] : List Value).toArray } }) hh (Heap.get?_push_of_some _ hr) hsmall hn hlen s.heap.objs.size _ 0 hS fun h' tk acc' c' hk hS' hacc => ⟨rfl, h', tk, acc', c', rfl, hS', hacc, fun b o e => hk b o (Nat.ne_of_lt (Heap.lt_size e)) (Heap.get?_push_of_some _ e)⟩) (fun fin s' h => ?_) (fun e s' h => ?_)
  · cases fin with
    | done f =>
      obtain ⟨e, h⟩ := h
      cases e
      exact fin' _ h
    | again c' => exact ⟨h.1, codeAny_mono h.2 fun r s'' hr => by obtain ⟨rfl, h⟩ := hr; exact fin' _ h⟩
  · exact absurd h.1 (by simp)

theorem meets_tuple_range {prog : Program} {w : World} {r : Addr} {a b : Int} {t u v : Tok} {k : Nat} {A : Around} {P : Fin → Shared → Prop} {E : Value → Shared → Prop} {s : Shared} (hh : A.handled = none) (hr : IsRange s.heap r a b 1 t u v) (hsmall : Builtin.Range.small a b 1 = true)
    (hn : Builtin.Range.rangeSize a b 1 = k) (hlen : k ≤ 2 ^ 24)
    (h : ∀ (h' : Heap) tk acc, (∀ b o', s.heap.get? b = some o' → h'.get? b = some o') → ItemsOf (fun i v => ∃ t, v = .int (a + i * 1) t) acc k → P (.done (.ret (.ref h'.objs.size))) { s with heap := h'.push { cls := .type "tuple", data := .seq acc }, toks := tk }) :
    wpAny (model prog w) A (Builtin.«tuple.__new__» ⟨[.type "tuple", .ref r], []⟩) P E s := by
  obtain ⟨hp, g, d, tk, os⟩ := s
  have hsub := sub_tuple_self
  have hinit := init_tuple_lookup
  have hmh := madeHere_tuple
  have hT : Shared.TypeIs ⟨hp, g, d, tk, os⟩ (.ref r) "range" := ⟨_, hr, rfl⟩
  wp_walk using AutoSeq1.wpAny_loadPart' hr, wpAny_typeOf hT, wpAny_collect_range hh hr hsmall hn hlen
  intro h' tk acc hk hacc
  show wpAny _ _ (Builtin.Tuple.tupleExact acc.toList.toArray >>= fun v => ret v) _ _ _
  unfold Builtin.Tuple.tupleExact
  refine wpAny_bind (wpAny_newObj_type ?_ (by show acc.toList.toArray.size ≤ sizeLine; rw [sizeLine_eq]; have := hacc.1; simp; first | lia | omega))
  have e : acc.toList.toArray = acc := by simp
  rw [e]
  exact wpAny_pure (h h' tk acc hk hacc)

theorem call_tuple_range {prog : Program} {w : World} {r : Addr} {a b : Int} {t u v : Tok} {k : Nat} {A : Around} {E : Value → Shared → Prop} {s : Shared} {Q : Value → Shared → Prop} (hh : A.handled = none) (hr : IsRange s.heap r a b 1 t u v) (hsmall : Builtin.Range.small a b 1 = true)
    (hn : Builtin.Range.rangeSize a b 1 = k) (hlen : k ≤ 2 ^ 24)
    (h : ∀ (h' : Heap) tk acc, (∀ b o', s.heap.get? b = some o' → h'.get? b = some o') → ItemsOf (fun i v => ∃ t, v = .int (a + i * 1) t) acc k → Q (.ref h'.objs.size) { s with heap := h'.push { cls := .type "tuple", data := .seq acc }, toks := tk }) :
    wpAny (model prog w) A (call (.type "tuple") [.ref r]) Q E s := by
  have hc : codeAny (model prog w) A.in1 (.call (.builtin "tuple.__new__") ⟨[.type "tuple", .ref r], []⟩) (wants (fun obj s₁ => s₁.TypeIs obj "tuple" ∧ Q obj s₁) E) s := by
    refine codeAny_of_tree ?_
    show wpAny _ A.in1.in1 (do checkBuiltinCall "tuple.__new__" ⟨[.type "tuple", .ref r], []⟩; again (.builtin "tuple.__new__" ⟨[.type "tuple", .ref r], []⟩)) _ _ s
    refine wpAny_bind (wpAny_of_eq (PySem.F.newCall_tuple_1 _) (wpAny_pure ⟨plainId_quiet PySem.F.plain_tuple_new _, codeAny_builtin PySem.F.entry_tuple_new ?_⟩))
    rw [Around.under_plainId PySem.F.plain_tuple_new _]
    exact meets_tuple_range (A := A.in1.in1) hh hr hsmall hn hlen fun h' tk acc hk hacc => ⟨⟨_, Heap.get?_push_size _ rfl, rfl⟩, h h' tk acc hk hacc⟩
  refine callType_codes (Q₁ := fun obj s₁ => s₁.TypeIs obj "tuple" ∧ Q obj s₁) PySem.F.called_tuple (PySem.F.typeCall_tuple_1 _) PySem.F.entry_object_init hc fun obj s₁ h₁ => ?_
  exact ⟨h₁.1, PySem.F.args_object_init_2 obj _, object_init_meets PySem.F.called_tuple.init.lookup PySem.F.called_tuple.made (by decide) prog w A.in1 _ s₁ ⟨h₁.1, rfl, h₁.2⟩⟩
theorem ints_of {h : Heap} {acc : Array Value} {a : Int} {k : Nat} (X : ItemsOf (fun i v => ∃ t, v = .int (a + i * 1) t) acc k) : VRs c h acc.toList (rngM a k) := by
  obtain ⟨hs, hi⟩ := X
  have : ∀ (l : List Value) (b : Nat), (∀ j v, l[j]? = some v → ∃ t, v = Value.int (a + ((b + j : Nat) : Int)) t) → VRs c h l ((List.range' b l.length).map fun (i : Nat) => MV.int (a + (i : Int))) := by
    intro l
    induction l with
    | nil => intro b _; exact .nil
    | cons x l ih =>
      intro b hl
      obtain ⟨t, e⟩ := hl 0 x rfl
      rw [List.length_cons, List.range'_succ, List.map_cons]
      refine .cons (by rw [e]; exact VR.int _ t) (ih (b + 1) fun j v hj => ?_)
      obtain ⟨t, e⟩ := hl (j + 1) v (by simpa using hj)
      exact ⟨t, by rw [e]; congr 2; first | lia | omega⟩
  have z := this acc.toList 0 fun j v hj => by
    obtain ⟨t, e⟩ := hi j v (by simpa using hj)
    exact ⟨t, by rw [e]; congr 1; first | done | omega | (simp)⟩
  rw [← List.range_eq_range', show acc.toList.length = k by simpa using hs] at z
  exact z
theorem WC_tuple_range {a b : Int} {k : Nat} {K : MV → HV → Prop} (hb : b = a + (k : Int)) (h1 : -(2 ^ 62) < a) (h2 : b < 2 ^ 62) (hk : k ≤ 10000) (h : K (.tup (rngM a k)) H) : WC c n (.type "tuple") [.rng a b] H K := by
  intro A s vs R sh V
  obtain ⟨_, rfl, r⟩ := V.isOne
  · skip
    obtain ⟨_, _, _, _, rfl, hr⟩ := r.isRng
    · skip
      obtain ⟨z1, z2⟩ := range_small h1 h2 k hb
      refine call_tuple_range R.handled hr z1 z2 (by first | lia | omega) fun h' tk acc kp X => ?_
      have k2 : ∀ b o, s.heap.get? b = some o → (h'.push { cls := .type "tuple", data := .seq acc }).get? b = some o := fun b o e => Heap.get?_push_of_some _ (kp b o e)
      exact post_ext sh k2 (.tup (vs := acc.toList) ⟨_, Heap.get?_push_size _ rfl, rfl, 0, by simp⟩ (ints_of X)) h
end
end
section
-- M9
section
variable {c : Cx} {n : Nat} {env : Env} {m : Loc} {H : HV}

theorem HV.set_set {a : Addr} {o o' : MObj} : (H.set a o).set a o' = H.set a o' := by
  funext b
  by_cases q : b = a
  · subst q; rw [HV.set_self, HV.set_self]
  · rw [HV.set_ne q, HV.set_ne q, HV.set_ne q]
theorem HV.set_comm {a b : Addr} {o o' : MObj} (h : a ≠ b) : (H.set a o).set b o' = (H.set b o').set a o := by
  funext x
  by_cases q : x = a
  · subst q; rw [HV.set_ne h, HV.set_self, HV.set_self]
  · by_cases q2 : x = b
    · subst q2; rw [HV.set_self, HV.set_ne q, HV.set_self]
    · rw [HV.set_ne q2, HV.set_ne q, HV.set_ne q, HV.set_ne q2]
theorem HV.set_same {a : Addr} {o : MObj} (h : H a = some o) : H.set a o = H := by
  funext x
  by_cases q : x = a
  · subst q; rw [HV.set_self, h]
  · rw [HV.set_ne q]

theorem W2_subN {ve se : Expr} {ds : List MV} {i : Int} {d : MV} {K : MV → HV → Prop} (h0 : 0 ≤ i) (hd : ds[i.toNat]? = some d) (hz : ds.length ≤ 100000) (h : K d H)
    (hs : ∀ a u, subscripted se false (.ref a) (.int i u) = operate [.ref a, .int i u] (getItem (.ref a) (.int i u)) := by intro _ _; with_unfolding_all rfl) : W2 c n (subscriptTail ve se) (.tup ds) (.int i) H K := by
  have hlt := (List.getElem?_eq_some_iff.mp hd).1
  exact W2_subT (seqIndex_of h0 (by first | lia | omega)) hd h ⟨by first | lia | omega, by first | lia | omega⟩ hs

theorem WE_append {o e : Expr} {apos pos : Pos} {pl : Sem Bool} {K : MV → HV → Prop} (h : WE c n env o m H fun d H₁ => ∃ a ds, d = .ref a ∧ H₁ a = some (.list ds) ∧ WE c n env e m H₁ fun v H₂ => ∃ ds, H₂ a = some (.list ds) ∧ ds.length ≤ 10000 ∧ K .none (H₂.set a (.list (ds ++ [v]))))
    (hst : (backTo pos (starEach [e] env)).any (·.1) = false := by rfl) (hse : starEach [e] env = (false, eval e env) :: starEach [] env := by rfl)
    (he : eval (.Call (.Attribute o "append" apos) [e] [] pos) env = (do
      let ov ← eval o env
      standAt apos.atName
      let (f, first) ← holding [ov] (getMethod ov "append" pl)
      callWith pos f first (backTo pos (starEach [e] env)) []) := by rfl) : WE c n env (.Call (.Attribute o "append" apos) [e] [] pos) m H K := by
  refine WE_Method (pl := pl) (h.mono fun d H₁ q => ?_) hst he
  obtain ⟨a, ds, rfl, ha, q⟩ := q
  refine GM_list ha slot_list_append PySem.F.type_list_append ⟨Kp.builtin, WEs_cons (q.mono fun v H₂ w => WEs_nil ?_) hse⟩
  obtain ⟨ds', ha', hz, k⟩ := w
  exact WC_append ha' hz k
end
end
section
-- N0
/-- the ground of this program -/
structure Z (c : Cx) : Prop extends c.Ok where
  hK : c.K = KF c.w.params

section
variable {c : Cx} {n : Nat} {env : Env} {m : Loc} {H : HV}
theorem Z.g (z : Z c) {x : Str} {v : Value} (e : nsIn (KF c.w.params) mainGlobals x = some (some v)) : c.mg x = some v := mg_of z.kin z.top.g (z.hK ▸ e)
theorem Z.gn (z : Z c) {x : Str} (e : nsIn (KF c.w.params) mainGlobals x = some none) : c.mg x = none := mg_none_of z.kin z.top.g (z.hK ▸ e)

theorem cells_some : ∀ (names : List (Str × NameKind)) (n : Nat) (acc : List (Str × Addr)) (x : Str), ((x, NameKind.cell) ∈ names ∨ (acc.lookup x).isSome = true) → ((cellsFrom n names acc).lookup x).isSome = true
  | [], n, acc, x, h => h.elim (fun z => nomatch z) id
  | (y, k) :: r, n, acc, x, h => by
    unfold cellsFrom
    split
    · refine cells_some r _ _ x ?_
      rcases h with h | h
      · rcases List.mem_cons.mp h with e | h
        · cases e; exact .inr (by rw [List.lookup_cons, beq_self_eq_true]; rfl)
        · exact .inl h
      · refine .inr ?_
        rw [List.lookup_cons]
        split
        · rfl
        · exact h
    · rename_i hk
      refine cells_some r _ _ x (h.imp (fun z => ?_) id)
      rcases List.mem_cons.mp z with e | z
      · cases e; simp at hk
      · exact z

theorem WC_at (z : Z c) {f : Addr} {fo : Obj} {fd : FuncData} {body : List Stmt} {ds : List MV} {names : List Str} {K : MV → HV → Prop} (hf : (KF c.w.params).lookup f = some fo) (hd' : fo.data = .func fd) (hb : fd.body = .stmts body) (hcl : fd.closure = []) (hcd : codeIn (KF c.w.params) fd.code fd.qualname = true)
    (hbind : ∀ vs : List Value, vs.length = names.length → bindArgs fd ⟨vs, []⟩ = pure (names.zip vs)) (hlen : names.length = ds.length) (hnd : names.Nodup)
    (hkind : (names.all fun y => fd.scope.names.lookup y == some .local || fd.scope.names.lookup y == some .cell) = true)
    (h : ∀ L, H L = none → c.B.get? L = none → WXs c n (callEnvC fd L f) body (names.zip ds) H (retM K))
    (hco : fd.scope.isCoroutine = false := by rfl) (hgen : fd.scope.isGenerator = false := by rfl) (hk : fd.scope.kind = .function := by rfl) : WC c (n + 1) (.ref f) ds H K :=
  WC_def z.toOk (z.hK ▸ hf) hd' hb hcl (z.hK ▸ hcd) hbind hlen hnd hkind (fun n x hx => cells_some _ _ _ _ (.inl (PySem.mem_of_lookup hx))) h hco hgen hk

theorem one {P : List Value → Prop} (h : ∀ a, P [a]) (vs : List Value) (e : vs.length = 1) : P vs := by
  cases vs with
  | nil => exact nomatch e
  | cons a t =>
    cases t with
    | nil => exact h a
    | cons _ _ => exact nomatch Nat.succ.inj e
theorem two {P : List Value → Prop} (h : ∀ a b, P [a, b]) (vs : List Value) (e : vs.length = 2) : P vs := by
  cases vs with
  | nil => exact nomatch e
  | cons a t => exact one (P := fun t => P (a :: t)) (h a) t (Nat.succ.inj e)
theorem three {P : List Value → Prop} (h : ∀ a b d, P [a, b, d]) (vs : List Value) (e : vs.length = 3) : P vs := by
  cases vs with
  | nil => exact nomatch e
  | cons a t => exact two (P := fun t => P (a :: t)) (h a) t (Nat.succ.inj e)
theorem four {P : List Value → Prop} (h : ∀ a b d e, P [a, b, d, e]) (vs : List Value) (e : vs.length = 4) : P vs := by
  cases vs with
  | nil => exact nomatch e
  | cons a t => exact three (P := fun t => P (a :: t)) (h a) t (Nat.succ.inj e)

theorem WA.mono {xs : List Str} {t : Expr} {d : MV} {K K' : Loc → HV → Prop} (h : WA c n env xs t d m H K) (k : ∀ m H, K m H → K' m H) : WA c n env xs t d m H K' :=
  fun A s v R S r => mono1 (h A s v R S r) (fun _ s' ⟨m', H', a, b, e⟩ => ⟨m', H', a, b, k _ _ e⟩)
noncomputable abbrev forK (need : HV → Prop) (J : Loc → HV → Prop) (K : FM → Loc → HV → Prop) (f : FM) (m : Loc) (H : HV) : Prop := match f with
  | .next => need H ∧ J m H
  | .cont => need H ∧ J m H
  | .brk => K .next m H
  | .ret d => K (.ret d) m H
noncomputable abbrev whK (k : Nat) (I : Nat → Loc → HV → Prop) (K : FM → Loc → HV → Prop) (f : FM) (m : Loc) (H : HV) : Prop := match f with
  | .next => ∃ j, j < k ∧ I j m H
  | .cont => ∃ j, j < k ∧ I j m H
  | .brk => K .next m H
  | .ret d => K (.ret d) m H
theorem WFor_ind {t : Expr} {body : List Stmt} {need : HV → Prop} {K : FM → Loc → HV → Prop} (I : List MV → Loc → HV → Prop) (h0 : ∀ m H, I [] m H → K .next m H)
    (hs : ∀ d ds m H, I (d :: ds) m H → WA c n env (tn 3 t) t d m H fun m₂ H₂ => WXs c n env body m₂ H₂ (forK need (I ds) K)) : ∀ ds m H, I ds m H → WFor c n env t body need ds m H K
  | [], m, H, h => h0 m H h
  | d :: ds, m, H, h => (hs d ds m H h).mono fun m₂ H₂ q => q.mono fun f m₃ H₃ z => by
    cases f with
    | next => exact ⟨z.1, WFor_ind I h0 hs ds m₃ H₃ z.2⟩
    | cont => exact ⟨z.1, WFor_ind I h0 hs ds m₃ H₃ z.2⟩
    | brk => exact z
    | ret d => exact z
theorem WWh_ind {t : Expr} {body : List Stmt} {K : FM → Loc → HV → Prop} (I : Nat → Loc → HV → Prop)
    (hs : ∀ k m H, I k m H → WB c n env t m H fun b H₁ => if b then WXs c n env body m H₁ (whK k I K)
    else K .next m H₁) : ∀ k j m H, j < k → I j m H → WWh c n env t body k m H K
  | 0, j, m, H, hj, _ => absurd hj (Nat.not_lt_zero j)
  | k + 1, j, m, H, hj, h => (hs j m H h).mono fun b H₁ q => by
    cases b with
    | false => exact q
    | true =>
      refine WXs.mono q fun f m₂ H₂ z => ?_
      cases f with
      | next => obtain ⟨i, hi, z⟩ := z; exact WWh_ind I hs k i m₂ H₂ (by first | lia | omega) z
      | cont => obtain ⟨i, hi, z⟩ := z; exact WWh_ind I hs k i m₂ H₂ (by first | lia | omega) z
      | brk => exact z
      | ret d => exact z
theorem WTs.mono {ifs : List Expr} {K K' : Bool → HV → Prop} (h : WTs c n env ifs m H K) (k : ∀ b H, K b H → K' b H) : WTs c n env ifs m H K' :=
  fun A s R S => mono1 (h A s R S) (fun v s' ⟨H', a, e, q⟩ => ⟨H', a, e, k v H' q⟩)
theorem WCp_ind {t : Expr} {ifs : List Expr} {elt : Expr} {need : HV → Prop} {K : List MV → HV → Prop} (I : List MV → HV → List MV → Prop) (h0 : ∀ H acc, I [] H acc → K acc H)
    (hs : ∀ d ds H acc, I (d :: ds) H acc → WA c n env (tn 3 t) t d m H fun m₂ H₂ => (∀ x d, m.lookup x = some d → m₂.lookup x = some d) ∧ WTs c n env ifs m₂ H₂ fun b H₃ =>
      if b then WE c n env elt m₂ H₃ fun e H₄ => acc.length ≤ 10000 ∧ need H₄ ∧ I ds H₄ (acc ++ [e]) else need H₃ ∧ I ds H₃ acc) :
    ∀ ds H acc, I ds H acc → WCp c n env t ifs elt need m ds H acc K
  | [], H, acc, h => h0 H acc h
  | d :: ds, H, acc, h => (hs d ds H acc h).mono fun m₂ H₂ q => ⟨q.1, q.2.mono fun b H₃ z => by
    cases b with
    | true => exact WE.mono z fun e H₄ w => ⟨w.1, w.2.1, WCp_ind I h0 hs ds H₄ (acc ++ [e]) w.2.2⟩
    | false => exact ⟨z.1, WCp_ind I h0 hs ds H₃ acc z.2⟩⟩

theorem ite_dec {p : Prop} [Decidable p] {A B : Prop} (h1 : p → A) (h2 : ¬ p → B) : if decide p = true then A else B := by
  by_cases h : p
  · rw [if_pos (by simpa using h)]; exact h1 h
  · rw [if_neg (by simpa using h)]; exact h2 h
theorem ite_b {b : Bool} {A B : Prop} (h1 : b = true → A) (h2 : b = false → B) : if b = true then A else B := by
  cases b with
  | true => exact h1 rfl
  | false => exact h2 rfl

theorem tup_le {ds : List MV} {K : Prop} (h : K) (e : Nat.ble ds.length 1000 = true := by rfl) : ds.length ≤ 1000 ∧ K := ⟨Nat.le_of_ble_eq_true e, h⟩
theorem ite_tt {A B : Prop} (h : A) : if true = true then A else B := by rw [if_pos rfl]; exact h
theorem ite_ff {A B : Prop} (h : B) : if false = true then A else B := by rw [if_neg (by decide)]; exact h
theorem WE_CallK (z : Z c) {x : Str} {p pos : Pos} {es : List Expr} {f : Addr} {K : MV → HV → Prop} (h : WEs c n env pos es m H fun ds H₂ => WC c n (.ref f) ds H₂ K)
    (hx : nsIn (KF c.w.params) mainGlobals x = some (some (.ref f)) := by rfl) (hk : keepIn (KF c.w.params) (.ref f) = true := by rfl)
    (hsk : env.scope.kind = .function := by rfl) (hl : env.kindOf x = some .globalImplicit := by rfl) (hg : env.globals = mainGlobals := by rfl) (hd' : (x == ("__debug__" : Str)) = false := by decide)
    (hst : (backTo pos (starEach es env)).any (·.1) = false := by rfl)
    (he : eval (.Call (.Name x p) es [] pos) env = (do callWith pos (← eval (.Name x p) env) [] (backTo pos (starEach es env)) (backToKw pos (keywordEach [] env))) := by rfl) : WE c n env (.Call (.Name x p) es [] pos) m H K :=
  WE_Call (WE_global z.toOk ⟨_, rfl, Kp.fn z.toOk (z.hK ▸ hk), h⟩ (z.g hx) hsk hl hg hd') hst he
theorem WE_CallB (z : Z c) {x : Str} {p pos : Pos} {es : List Expr} {id : String} {K : MV → HV → Prop} (hb : bootBuiltins x = some (.builtin id)) (h : WEs c n env pos es m H fun ds H₂ => WC c n (.builtin id) ds H₂ K)
    (hx : nsIn (KF c.w.params) mainGlobals x = some none := by rfl)
    (hsk : env.scope.kind = .function := by rfl) (hl : env.kindOf x = some .globalImplicit := by rfl) (hg : env.globals = mainGlobals := by rfl) (hb' : env.builtins = builtinsNs := by rfl) (hd' : (x == ("__debug__" : Str)) = false := by decide) (hn : x ≠ "__name__" := by decide)
    (hst : (backTo pos (starEach es env)).any (·.1) = false := by rfl)
    (he : eval (.Call (.Name x p) es [] pos) env = (do callWith pos (← eval (.Name x p) env) [] (backTo pos (starEach es env)) (backToKw pos (keywordEach [] env))) := by rfl) : WE c n env (.Call (.Name x p) es [] pos) m H K :=
  WE_Call (WE_builtin z.toOk ⟨_, rfl, Kp.builtin, h⟩ hb (z.gn hx) hsk hl hg hb' hd' hn) hst he
theorem WE_CallT (z : Z c) {x : Str} {p pos : Pos} {es : List Expr} {T : String} {K : MV → HV → Prop} (hb : bootBuiltins x = some (.type T)) (h : WEs c n env pos es m H fun ds H₂ => WC c n (.type T) ds H₂ K)
    (hx : nsIn (KF c.w.params) mainGlobals x = some none := by rfl)
    (hsk : env.scope.kind = .function := by rfl) (hl : env.kindOf x = some .globalImplicit := by rfl) (hg : env.globals = mainGlobals := by rfl) (hb' : env.builtins = builtinsNs := by rfl) (hd' : (x == ("__debug__" : Str)) = false := by decide) (hn : x ≠ "__name__" := by decide)
    (hst : (backTo pos (starEach es env)).any (·.1) = false := by rfl)
    (he : eval (.Call (.Name x p) es [] pos) env = (do callWith pos (← eval (.Name x p) env) [] (backTo pos (starEach es env)) (backToKw pos (keywordEach [] env))) := by rfl) : WE c n env (.Call (.Name x p) es [] pos) m H K :=
  WE_Call (WE_builtin z.toOk ⟨_, rfl, Kp.type, h⟩ hb (z.gn hx) hsk hl hg hb' hd' hn) hst he
end
end
local macro_rules | `(tactic| walk_at "m") => `(tactic| (first
  | with_reducible refine WXs_cons ?_
  | ((with_reducible show _ ≤ 1000 ∧ _); refine tup_le ?_)
  | with_reducible refine ite_tt ?_
  | with_reducible refine ite_ff ?_
  | with_reducible refine WEs_nil ?_
  | ((with_reducible show WEs _ _ _ _ (_ :: _) _ _ _); refine WEs_cons ?_)
  | ((with_reducible show WE _ _ _ (Expr.Name _ _) _ _ _); first | refine WE_local ?_ (by first | rfl | assumption) | refine WE_cell ?_ (by first | rfl | assumption))
  | with_reducible refine WE_int ?_
  | with_reducible refine WE_str ?_
  | with_reducible refine WE_bool ?_
  | with_reducible refine WE_none ?_
  | with_reducible refine WE_BinOp ?_
  | ((with_reducible show WE _ _ _ (Expr.Compare _ _ _ _) _ _ _); refine WE_Compare ?_)
  | with_reducible refine WE_UnaryOp ?_
  | with_reducible refine WE_IfExp ?_
  | ((with_reducible show WE _ _ _ (Expr.Subscript _ (Expr.Slice _ _ _ _) _) _ _ _); first | refine WE_slice_to ?_ | refine WE_slice_from ?_)
  | with_reducible refine WE_Subscript ?_
  | with_reducible refine WE_Tuple ?_
  | with_reducible refine WE_List ?_
  | ((with_reducible show WE _ _ _ (Expr.Attribute _ _ _) _ _ _); refine WE_Attribute ?_)
  | with_reducible refine WX_Return ?_
  | with_reducible refine WX_Return0 ?_
  | with_reducible refine WX_If ?_
  | ((with_reducible show WX _ _ _ (Stmt.Assign _ _ _) _ _ _); refine WX_Assign ?_)
  | ((with_reducible show WX _ _ _ (Stmt.Expr _ _) _ _ _); refine WX_Expr ?_)
  | with_reducible refine WX_Break ?_
  | with_reducible refine WXs_nil ?_
  | ((with_reducible show WB _ _ _ (Expr.Compare _ _ _ _) _ _ _); refine WB_Compare ?_)
  | with_reducible refine WB_Not ?_
  | with_reducible refine WB_BoolOp ?_
  | ((with_reducible show WB _ _ _ _ _ _ _); refine WB_value ?_)
  | with_reducible refine WBs_And_cons ?_
  | with_reducible refine WBs_Or_cons ?_
  | with_reducible refine WBs_And_nil ?_
  | with_reducible refine WBs_Or_nil ?_
  | with_reducible refine W2_add ?_
  | with_reducible refine W2_sub ?_
  | with_reducible refine W2_lt ?_
  | with_reducible refine W2_le ?_
  | with_reducible refine W2_gt ?_
  | with_reducible refine W2_ge ?_
  | with_reducible refine W2_eq ?_
  | with_reducible refine W2_ne ?_
  | with_reducible refine W2_eqStr ?_
  | with_reducible refine W2_isB ?_
  | with_reducible refine W2_isNotB ?_
  | with_reducible refine W1_not ?_
  | with_reducible refine W1_neg ?_
  | with_reducible refine W1B_bool ?_
  | ((with_reducible show WA _ _ _ _ (Expr.Name _ _) _ _ _ _); first | refine WA_local ?_ | refine WA_cell ?_)
  | ((with_reducible show WA _ _ _ _ (Expr.Tuple _ _ _) _ _ _ _); refine WA_Tuple ?_)
  | with_reducible refine WA_Attribute ?_
  | with_reducible refine WA_Subscript ?_
  | ((with_reducible show WAs _ _ _ _ (_ :: _) _ _ _ _); refine WAs_cons ?_)
  | with_reducible refine WAs_nil ?_
  | with_reducible refine WTs_nil ?_
  | with_reducible refine WTs_one ?_))
section
-- N1
noncomputable def spanM (p : Int × Int) : MV := .tup [.int p.1, .int p.2]
noncomputable def spansM (l : List (Int × Int)) : List MV := l.map spanM
noncomputable def nextFrom : List (Int × Int) → Int → Option Int
  | [], _ => none
  | (a, b) :: r, v => if v ≤ b then some (if v > a then v else a) else nextFrom r v
noncomputable def optM : Option Int → MV
  | none => .none
  | some i => .int i
noncomputable abbrev L (x : Str) (d : MV) (m : Loc) : Prop := m.lookup x = some d

section
variable {c : Cx} {n : Nat} {env : Env} {m : Loc} {H : HV}
theorem c_next (z : Z c) {l : List (Int × Int)} {v : Int} {K : MV → HV → Prop} (h : K (optM (nextFrom l v)) H) : WC c (n + 3) (.ref 42) [.tup (spansM l), .int v] H K := by
  refine WC_at z (names := ["d", "v"]) rfl rfl rfl rfl (by kernel_rfl) (two fun a b => by rfl) rfl (by decide) (by rfl) (fun L hL bL => ?_)
  walk_at "m"
  refine WX_For (tg := fun _ => True) (WI_of (WE_local ⟨_, _, .tup, ?_⟩)) trivial
  refine WFor_ind (fun ds m H' => ∃ l, ds = spansM l ∧ Mine.L "v" (.int v) m ∧ H' = H ∧ K (optM (nextFrom l v)) H) ?_ ?_ _ _ _ ⟨l, rfl, rfl, rfl, h⟩
  · rintro m H' ⟨l, e, hm, rfl, h⟩
    cases l with
    | nil =>
      repeat walk_at "m"
      exact h
    | cons _ _ => cases e
  · rintro d ds m H' ⟨l, e, hm, rfl, h⟩
    cases l with
    | nil => cases e
    | cons p l =>
      obtain ⟨a, b⟩ := p
      cases e
      repeat walk_at "m"
      refine ite_dec (fun hb => ?_) (fun hb => ?_)
      · repeat walk_at "m"
        refine WE_CallB z boot_max ?_
        repeat walk_at "m"
        refine WC_max ?_
        have : nextFrom ((a, b) :: l) v = some (if v > a then v else a) := by simp only [nextFrom, if_pos hb]
        rw [this] at h
        exact h
      · repeat walk_at "m"
        refine ⟨trivial, l, rfl, ?_, rfl, ?_⟩
        · exact hm
        · have : nextFrom ((a, b) :: l) v = nextFrom l v := by simp only [nextFrom, if_neg hb]
          rw [this] at h
          exact h

noncomputable def hasD (l : List (Int × Int)) (v : Int) : Bool := nextFrom l v == some v
theorem c_has (z : Z c) {l : List (Int × Int)} {v : Int} {K : MV → HV → Prop} (h : K (.bool (hasD l v)) H) : WC c (n + 4) (.ref 49) [.tup (spansM l), .int v] H K := by
  refine WC_at z (names := ["d", "v"]) rfl rfl rfl rfl (by kernel_rfl) (two fun a b => by rfl) rfl (by decide) (by rfl) (fun L hL bL => ?_)
  repeat walk_at "m"
  refine WE_CallK z (f := 42) ?_ (by kernel_rfl) (by kernel_rfl)
  repeat walk_at "m"
  refine c_next z ?_
  unfold hasD at h
  cases q : nextFrom l v with
  | none =>
    rw [q] at h
    repeat walk_at "m"
    exact W2_eqNone h
  | some i =>
    rw [q] at h
    repeat walk_at "m"
    have e : (some i == some v) = (i == v) := rfl
    rw [e] at h
    exact W2_eq h

theorem ext_refl {m : Loc} : ∀ x d, m.lookup x = some d → m.lookup x = some d := fun _ _ h => h
theorem ext_cons {m m₂ : Loc} {y : Str} {e : MV} (h : m.lookup y = none) (k : ∀ x d, m.lookup x = some d → m₂.lookup x = some d) : ∀ x d, m.lookup x = some d → ((y, e) :: m₂).lookup x = some d := fun x d q => by
  rw [List.lookup_cons]
  cases w : x == y with
  | true => rw [beq_iff_eq.mp w, h] at q; cases q
  | false => exact k x d q

noncomputable def upTo (l : List (Int × Int)) (k : Int) : List (Int × Int) := (l.filter fun p => decide (p.1 ≤ k)).map fun p => (p.1, if k < p.2 then k else p.2)
noncomputable def fromOn (l : List (Int × Int)) (k : Int) : List (Int × Int) := (l.filter fun p => decide (k ≤ p.2)).map fun p => (if k > p.1 then k else p.1, p.2)

theorem spans_split {l₁ : List (Int × Int)} {p : Int × Int} {l₂ : List (Int × Int)} {l : List (Int × Int)} (h : l = l₁ ++ p :: l₂) : l = (l₁ ++ [p]) ++ l₂ := by rw [h]; simp
theorem upTo_snoc {l : List (Int × Int)} {p : Int × Int} {k : Int} : upTo (l ++ [p]) k = upTo l k ++ (if p.1 ≤ k then [(p.1, if k < p.2 then k else p.2)] else []) := by
  unfold upTo
  rw [List.filter_append, List.map_append]
  congr 1
  by_cases h : p.1 ≤ k
  · rw [if_pos h, List.filter_cons, if_pos (by simpa using h)]; rfl
  · rw [if_neg h, List.filter_cons, if_neg (by simpa using h)]; rfl
theorem fromOn_snoc {l : List (Int × Int)} {p : Int × Int} {k : Int} : fromOn (l ++ [p]) k = fromOn l k ++ (if k ≤ p.2 then [(if k > p.1 then k else p.1, p.2)] else []) := by
  unfold fromOn
  rw [List.filter_append, List.map_append]
  congr 1
  by_cases h : k ≤ p.2
  · rw [if_pos h, List.filter_cons, if_pos (by simpa using h)]; rfl
  · rw [if_neg h, List.filter_cons, if_neg (by simpa using h)]; rfl
theorem upTo_len {l : List (Int × Int)} {k : Int} : (upTo l k).length ≤ l.length := by
  unfold upTo; rw [List.length_map]; exact List.length_filter_le ..
theorem fromOn_len {l : List (Int × Int)} {k : Int} : (fromOn l k).length ≤ l.length := by
  unfold fromOn; rw [List.length_map]; exact List.length_filter_le ..
theorem spansM_len {l : List (Int × Int)} : (spansM l).length = l.length := by simp [spansM]
theorem spansM_snoc {l : List (Int × Int)} {p : Int × Int} : spansM (l ++ [p]) = spansM l ++ [spanM p] := by simp [spansM]
theorem keep_set {H : HV} {a : Addr} {o : MObj} (h : H a = none) : ∀ b ob, H b = some ob → (H.set a o) b = some ob := fun b ob e => by
  rw [HV.set_ne (by rintro rfl; rw [h] at e; cases e)]; exact e

theorem c_up (z : Z c) {l : List (Int × Int)} {k : Int} {K : MV → HV → Prop} (hz : l.length ≤ 400) (h : K (.tup (spansM (upTo l k))) H) : WC c (n + 4) (.ref 54) [.tup (spansM l), .int k] H K := by
  refine WC_at z (names := ["d", "k"]) rfl rfl rfl rfl (by kernel_rfl) (two fun a b => by rfl) rfl (by decide) (by rfl) (fun L hL bL => ?_)
  repeat walk_at "m"
  refine WE_CallT z Boot.«tuple» ?_
  walk_at "m"
  refine WE_Comp (tg := fun _ => True) (xs := ["low", "high"]) (WI_of ?_) (by kernel_rfl)
  walk_at "m"
  refine ⟨_, _, .tup, fun cells C => WGo1 trivial ?_⟩
  refine WCp_ind (fun ds H' acc => ∃ l₁ l₂, l = l₁ ++ l₂ ∧ ds = spansM l₂ ∧ acc = spansM (upTo l₁ k) ∧ H' = H) ?_ ?_ _ _ _ ⟨[], l, rfl, rfl, rfl, rfl⟩
  · rintro H' acc ⟨l₁, l₂, e, e2, rfl, rfl⟩ a ha hb
    have : l₂ = [] := by cases l₂ with | nil => rfl | cons _ _ => cases e2
    subst this
    rw [List.append_nil] at e
    subst e
    repeat walk_at "m"
    refine WC.forget (WC_tuple_list HV.set_self (by rw [spansM_len]; have := @upTo_len l k; first | lia | omega) ⟨H', keep_set ha, ?_⟩)
    repeat walk_at "m"
    exact h
  · rintro d ds H' acc ⟨l₁, l₂, e, e2, rfl, rfl⟩
    cases l₂ with
    | nil => cases e2
    | cons p l₂ =>
      obtain ⟨a, b⟩ := p
      cases e2
      have hl : (upTo l₁ k).length ≤ 400 := by
        have := @upTo_len l₁ k
        have e1 : l.length = l₁.length + (l₂.length + 1) := by rw [e]; simp
        first | lia | omega
      repeat walk_at "m"
      refine ⟨ext_cons (by rfl) (ext_cons (by rfl) ext_refl), ?_⟩
      repeat walk_at "m"
      refine ite_dec (fun hb => ?_) (fun hb => ?_)
      · repeat walk_at "m"
        refine WE_CallB z Boot.«min» ?_
        repeat walk_at "m"
        refine WC_min ?_
        repeat walk_at "m"
        refine ⟨by rw [spansM_len]; first | lia | omega, trivial, l₁ ++ [(a, b)], l₂, spans_split e, rfl, ?_, rfl⟩
        rw [upTo_snoc, if_pos hb, spansM_snoc]; rfl
      · refine ⟨trivial, l₁ ++ [(a, b)], l₂, spans_split e, rfl, ?_, rfl⟩
        rw [upTo_snoc, if_neg hb, List.append_nil]
end
end
section
-- N2
section
variable {c : Cx} {n : Nat} {env : Env} {m : Loc} {H : HV}
inductive FromI (l : List (Int × Int)) (k : Int) (H : HV) (ds : List MV) (H' : HV) (acc : List MV) : Prop
  | mk (l₁ : List (Int × Int)) (l₂ : List (Int × Int)) (h0 : l = l₁ ++ l₂) (h1 : ds = spansM l₂) (h2 : acc = spansM (fromOn l₁ k)) (h3 : H' = H)
theorem c_from (z : Z c) {l : List (Int × Int)} {k : Int} {K : MV → HV → Prop} (hz : l.length ≤ 400) (h : K (.tup (spansM (fromOn l k))) H) : WC c (n + 4) (.ref 59) [.tup (spansM l), .int k] H K := by
  refine WC_at z (names := ["d", "k"]) rfl rfl rfl rfl (by kernel_rfl) (two fun a b => by rfl) rfl (by decide) (by rfl) (fun L hL bL => ?_)
  repeat walk_at "m"
  refine WE_CallT z Boot.«tuple» ?_
  walk_at "m"
  refine WE_Comp (tg := fun _ => True) (xs := ["low", "high"]) (WI_of ?_) (by kernel_rfl)
  walk_at "m"
  refine ⟨_, _, .tup, fun cells C => WGo1 trivial ?_⟩
  refine WCp_ind (FromI l k H) ?_ ?_ _ _ _ ⟨[], l, rfl, rfl, rfl, rfl⟩
  · rintro H' acc ⟨l₁, l₂, e, e2, rfl, rfl⟩ a ha hb
    have : l₂ = [] := by cases l₂ with | nil => rfl | cons _ _ => cases e2
    subst this
    rw [List.append_nil] at e
    subst e
    repeat walk_at "m"
    refine WC.forget (WC_tuple_list HV.set_self (by rw [spansM_len]; have := @fromOn_len l k; first | lia | omega) ⟨H', keep_set ha, ?_⟩)
    repeat walk_at "m"
    exact h
  · rintro d ds H' acc ⟨l₁, l₂, e, e2, rfl, rfl⟩
    cases l₂ with
    | nil => cases e2
    | cons p l₂ =>
      obtain ⟨a, b⟩ := p
      cases e2
      have hl : (fromOn l₁ k).length ≤ 400 := by
        have := @fromOn_len l₁ k
        have e1 : l.length = l₁.length + (l₂.length + 1) := by rw [e]; simp
        first | lia | omega
      repeat walk_at "m"
      refine ⟨ext_cons (by rfl) (ext_cons (by rfl) ext_refl), ?_⟩
      repeat walk_at "m"
      refine ite_dec (fun hb => ?_) (fun hb => ?_)
      · repeat walk_at "m"
        refine WE_CallB z Boot.«max» ?_
        repeat walk_at "m"
        refine WC_max ?_
        repeat walk_at "m"
        refine ⟨by rw [spansM_len]; first | lia | omega, trivial, l₁ ++ [(a, b)], l₂, spans_split e, rfl, ?_, rfl⟩
        rw [fromOn_snoc, if_pos hb, spansM_snoc]; rfl
      · refine ⟨trivial, l₁ ++ [(a, b)], l₂, spans_split e, rfl, ?_, rfl⟩
        rw [fromOn_snoc, if_neg hb, List.append_nil]

noncomputable def withoutD (l : List (Int × Int)) (v : Int) : List (Int × Int) := upTo l (v - 1) ++ fromOn l (v + 1)
theorem c_without (z : Z c) {l : List (Int × Int)} {v : Int} {K : MV → HV → Prop} (hz : l.length ≤ 400) (h : K (.tup (spansM (withoutD l v))) H) : WC c (n + 5) (.ref 66) [.tup (spansM l), .int v] H K := by
  refine WC_at z (names := ["d", "v"]) rfl rfl rfl rfl (by kernel_rfl) (two fun a b => by rfl) rfl (by decide) (by rfl) (fun L hL bL => ?_)
  repeat walk_at "m"
  refine WE_CallK z (f := 54) ?_ (by kernel_rfl) (by kernel_rfl)
  repeat walk_at "m"
  refine c_up z hz ?_
  refine WE_CallK z (f := 59) ?_ (by kernel_rfl) (by kernel_rfl)
  repeat walk_at "m"
  refine c_from z hz ?_
  have e1 := @upTo_len l (v - 1)
  have e2 := @fromOn_len l (v + 1)
  refine W2_addT ?_ (by rw [spansM_len, spansM_len]; first | lia | omega)
  have : spansM (withoutD l v) = spansM (upTo l (v - 1)) ++ spansM (fromOn l (v + 1)) := by simp [spansM, withoutD]
  rw [← this]
  repeat walk_at "m"
  exact h

noncomputable def meet1 : List (Int × Int) → Int → List (Int × Int)
  | [], _ => []
  | (a, b) :: r, k => if b < k then meet1 r k else if a ≤ k then [(k, k)] else []

theorem spans_get {l : List (Int × Int)} {i : Nat} {p : Int × Int} (h : l[i]? = some p) : (spansM l)[i]? = some (spanM p) := by
  unfold spansM; rw [List.getElem?_map, h]; rfl
theorem meet1_len {l : List (Int × Int)} {k : Int} : (meet1 l k).length ≤ 1 := by
  induction l with
  | nil => simp [meet1]
  | cons p r ih =>
    obtain ⟨a, b⟩ := p
    unfold meet1
    split
    · exact ih
    · split <;> simp
inductive MeetI (l : List (Int × Int)) (k : Int) (F : Addr) (H : HV) (k' : Nat) (m : Loc) (H' : HV) : Prop
  | mk (i : Nat) (acc : List (Int × Int)) (done : Bool) (h0 : k' + i + (if done then 1 else 0) = l.length + 1) (h1 : i ≤ l.length) (h2 : Mine.L "d" (.tup (spansM l)) m) (h3 : Mine.L "e" (.tup [.tup [.int k, .int k]]) m) (h4 : Mine.L "found" (.ref F) m) (h5 : Mine.L "i" (.int i) m) (h6 : Mine.L "j" (.int (if done then 1 else 0)) m) (h7 : H' = H.set F (.list (spansM acc))) (h8 : (if done then acc = meet1 l k else acc = [] ∧ meet1 (l.drop i) k = meet1 l k))
theorem c_meet (z : Z c) {l : List (Int × Int)} {k : Int} {K : MV → HV → Prop} (hz : l.length ≤ 400) (h : K (.tup (spansM (meet1 l k))) H) : WC c (n + 4) (.ref 73) [.tup (spansM l), .tup [.tup [.int k, .int k]]] H K := by
  refine WC_at z (names := ["d", "e"]) rfl rfl rfl rfl (by kernel_rfl) (two fun a b => by rfl) rfl (by decide) (by rfl) (fun L hL bL => ?_)
  repeat walk_at "m"
  refine WX_Swap (names := ["found", "i", "j"]) ?_
  repeat walk_at "m"
  intro F hF bF
  repeat walk_at "m"
  refine ⟨_, rfl, rfl, ?_⟩
  repeat walk_at "m"
  refine WX_While (l.length + 2) ?_
  refine WWh_ind (MeetI l k F H) ?_ _ (l.length + 1) _ _ (by first | lia | omega) ⟨0, [], false, rfl, Nat.zero_le _, rfl, rfl, rfl, rfl, rfl, rfl, rfl, rfl⟩
  rintro k' m H' ⟨i, acc, done, hk, hi, m1, m2, m3, m4, m5, rfl, hacc⟩
  repeat walk_at "m"
  refine WE_CallB z Boot.«len» ?_
  repeat walk_at "m"
  refine WC_len_tup (by rw [spansM_len]; first | lia | omega) ?_
  rw [spansM_len]
  repeat walk_at "m"
  refine ite_dec (fun hlt => ?_) (fun hlt => ?_)
  · have hlt : i < l.length := by first | lia | omega
    repeat walk_at "m"
    refine WE_CallB z Boot.«len» ?_
    repeat walk_at "m"
    refine WC_len_tup (by show 1 ≤ 10000; first | lia | omega) ?_
    repeat walk_at "m"
    cases done with
    | true =>
      refine ite_dec (fun hj => absurd hj (by simp)) (fun hj => ?_)
      have hacc : acc = meet1 l k := hacc
      repeat walk_at "m"
      refine WE_CallT z Boot.«tuple» ?_
      repeat walk_at "m"
      have hle := @meet1_len l k
      refine WC.forget (WC_tuple_list HV.set_self (by rw [spansM_len, hacc]; first | lia | omega) ⟨H, keep_set hF, ?_⟩)
      repeat walk_at "m"
      rw [hacc]
      exact h
    | false =>
      refine ite_dec (fun hj => ?_) (fun hj => absurd (by show (0 : Int) < 1; decide) hj)
      obtain ⟨e1, e2⟩ := hacc
      subst e1
      obtain ⟨p, hp⟩ : ∃ p, l[i]? = some p := ⟨_, List.getElem?_eq_getElem hlt⟩
      obtain ⟨a, b⟩ := p
      have hdrop : l.drop i = (a, b) :: l.drop (i + 1) := by
        rw [List.drop_eq_getElem_cons hlt]
        rw [List.getElem?_eq_getElem hlt] at hp
        rw [Option.some.inj hp]
      rw [hdrop] at e2
      have hpi : (spansM l)[(i : Int).toNat]? = some (spanM (a, b)) := by rw [Int.toNat_natCast]; exact spans_get hp
      repeat walk_at "m"
      refine WX_Swap (names := ["low", "high"]) ?_
      repeat walk_at "m"
      refine WE_CallB z Boot.«max» ?_
      repeat walk_at "m"
      refine W2_subN (by first | lia | omega) hpi (by rw [spansM_len]; first | lia | omega) ?_
      repeat walk_at "m"
      refine W2_subT (j := 0) rfl rfl ?_ (by decide)
      repeat walk_at "m"
      refine W2_subT (j := 0) rfl rfl ?_ (by decide)
      repeat walk_at "m"
      refine W2_subT (j := 0) rfl rfl ?_ (by decide)
      repeat walk_at "m"
      refine WC_max ?_
      repeat walk_at "m"
      refine WE_CallB z Boot.«min» ?_
      repeat walk_at "m"
      refine W2_subN (by first | lia | omega) hpi (by rw [spansM_len]; first | lia | omega) ?_
      repeat walk_at "m"
      refine W2_subT (j := 1) rfl rfl ?_ (by decide)
      repeat walk_at "m"
      refine W2_subT (j := 0) rfl rfl ?_ (by decide)
      repeat walk_at "m"
      refine W2_subT (j := 1) rfl rfl ?_ (by decide)
      repeat walk_at "m"
      refine WC_min ?_
      repeat walk_at "m"
      refine ⟨_, rfl, rfl, ?_⟩
      repeat walk_at "m"
      by_cases hbk : b < k
      · -- a span below
        have e3 : meet1 ((a, b) :: l.drop (i + 1)) k = meet1 (l.drop (i + 1)) k := by simp only [meet1, if_pos hbk]
        refine ite_dec (fun hle => ?_) (fun hle => ?_)
        · exfalso
          revert hle
          rw [if_neg (by first | lia | omega : ¬ k < b)]
          split <;> first | lia | omega
        · repeat walk_at "m"
          refine W2_subN (by first | lia | omega) hpi (by rw [spansM_len]; first | lia | omega) ?_
          repeat walk_at "m"
          refine W2_subT (j := 1) rfl rfl ?_ (by decide)
          repeat walk_at "m"
          refine W2_subT (j := 0) rfl rfl ?_ (by decide)
          repeat walk_at "m"
          refine W2_subT (j := 1) rfl rfl ?_ (by decide)
          repeat walk_at "m"
          refine ite_dec (fun hq => ?_) (fun hq => absurd hbk hq)
          repeat walk_at "m"
          refine ⟨k' - 1, by simp at hk; first | lia | omega, i + 1, [], false, ?_, hlt, m1, m2, m3, rfl, m5, rfl, rfl, ?_⟩
          · simp at hk ⊢; first | lia | omega
          · rw [← e3]; exact e2
      · -- the span that decides
        have e3 : meet1 ((a, b) :: l.drop (i + 1)) k = if a ≤ k then [(k, k)] else [] := by simp only [meet1, if_neg hbk]
        have hhi : (if k < b then k else b) = k := by split <;> first | lia | omega
        have last : ∀ (m : Loc) (acc : List (Int × Int)), acc = meet1 l k → Mine.L "d" (.tup (spansM l)) m → Mine.L "e" (.tup [.tup [.int k, .int k]]) m → Mine.L "found" (.ref F) m → Mine.L "i" (.int i) m → Mine.L "j" (.int 1) m → 
            ∃ j, j < k' ∧ MeetI l k F H j m (H.set F (.list (spansM acc))) := by
          intro m acc e m1 m2 m3 m4 m5
          refine ⟨k' - 1, by simp at hk; first | lia | omega, i, acc, true, ?_, hi, m1, m2, m3, m4, m5, rfl, e⟩
          simp at hk ⊢; first | lia | omega
        refine ite_dec (fun hle => ?_) (fun hle => ?_)
        · have hak : a ≤ k := by revert hle; rw [hhi]; split <;> first | lia | omega
          have hlo : (if k > a then k else a) = k := by split <;> first | lia | omega
          repeat walk_at "m"
          refine WE_append ?_
          repeat walk_at "m"
          refine ⟨F, _, rfl, HV.set_self, ?_⟩
          repeat walk_at "m"
          refine ⟨_, HV.set_self, by show 0 ≤ 10000; first | lia | omega, ?_⟩
          rw [HV.set_set]
          repeat walk_at "m"
          refine W2_subN (by first | lia | omega) hpi (by rw [spansM_len]; first | lia | omega) ?_
          repeat walk_at "m"
          refine W2_subT (j := 1) rfl rfl ?_ (by decide)
          repeat walk_at "m"
          refine W2_subT (j := 0) rfl rfl ?_ (by decide)
          repeat walk_at "m"
          refine W2_subT (j := 1) rfl rfl ?_ (by decide)
          repeat walk_at "m"
          refine ite_dec (fun hq => absurd hq hbk) (fun hq => ?_)
          repeat walk_at "m"
          have e4 : [(k, k)] = meet1 l k := by rw [← e2, e3, if_pos hak]
          have e5 : (spansM [] ++ [MV.tup [MV.int (if k > a then k else a), MV.int (if k < b then k else b)]]) = spansM [(k, k)] := by rw [hlo, hhi]; rfl
          rw [e5]
          exact last _ _ e4 m1 m2 m3 m4 rfl
        · have hak : ¬ a ≤ k := by revert hle; rw [hhi]; split <;> first | lia | omega
          repeat walk_at "m"
          refine W2_subN (by first | lia | omega) hpi (by rw [spansM_len]; first | lia | omega) ?_
          repeat walk_at "m"
          refine W2_subT (j := 1) rfl rfl ?_ (by decide)
          repeat walk_at "m"
          refine W2_subT (j := 0) rfl rfl ?_ (by decide)
          repeat walk_at "m"
          refine W2_subT (j := 1) rfl rfl ?_ (by decide)
          repeat walk_at "m"
          refine ite_dec (fun hq => absurd hq hbk) (fun hq => ?_)
          repeat walk_at "m"
          have e4 : [] = meet1 l k := by rw [← e2, e3, if_neg hak]
          exact last _ _ e4 m1 m2 m3 m4 rfl
  · have hlt : i = l.length := by first | lia | omega
    repeat walk_at "m"
    refine WE_CallT z Boot.«tuple» ?_
    repeat walk_at "m"
    have hle := @meet1_len l k
    have hacc : acc = meet1 l k := by
      cases done with
      | true => exact hacc
      | false =>
        obtain ⟨e1, e2⟩ := hacc
        rw [hlt, List.drop_length] at e2
        rw [e1, ← e2]; rfl
    refine WC.forget (WC_tuple_list HV.set_self (by rw [spansM_len, hacc]; first | lia | omega) ⟨H, keep_set hF, ?_⟩)
    repeat walk_at "m"
    rw [hacc]
    exact h
end
end
section
-- N3
-- data written as values
section
variable {c : Cx} {n : Nat} {env : Env} {m : Loc} {H : HV}
theorem DRs_map {α : Type} {f : α → MV} {g : α → PyData} (h : ∀ a, DR H (f a) (g a)) : ∀ l : List α, DRs H (l.map f) (l.map g)
  | [] => .nil
  | a :: l => .cons (h a) (DRs_map h l)
theorem eqvAll_map {α : Type} [DecidableEq α] {f : α → PyData} (h : ∀ a b, PyData.eqv (f a) (f b) = decide (a = b)) : ∀ l l' : List α, PyData.eqvAll (l.map f) (l'.map f) = decide (l = l')
  | [], [] => by simp only [List.map_nil, PyData.eqvAll]; rfl
  | [], b :: l' => by simp only [List.map_nil, List.map_cons, PyData.eqvAll]; simp
  | a :: l, [] => by simp only [List.map_nil, List.map_cons, PyData.eqvAll]; simp
  | a :: l, b :: l' => by
    simp only [List.map_cons, PyData.eqvAll]
    rw [h, eqvAll_map h l l']
    by_cases e : a = b <;> by_cases e2 : l = l' <;> simp [e, e2]
theorem layAll_map {α : Type} {f : α → PyData} (h : ∀ a, (f a).canLay0 = true) : ∀ l : List α, PyData.canLayAll0 (l.map f) = true
  | [] => by simp only [List.map_nil, PyData.canLayAll0]
  | a :: l => by simp only [List.map_cons, PyData.canLayAll0, h a, layAll_map h l, Bool.and_self]
theorem depthAll_map {α : Type} {f : α → PyData} {k : Nat} (h : ∀ a, (f a).depth ≤ k) : ∀ l : List α, PyData.depthAll (l.map f) ≤ k
  | [] => by simp [PyData.depthAll]
  | a :: l => by
    have := depthAll_map h l
    have := h a
    simp only [List.map_cons, PyData.depthAll]
    first | lia | omega
/-- a datum of a kind: its value, its reading, where it lies flat -/
structure Dat (α : Type) where
  m : α → MV
  p : α → PyData
  k : Nat
structure Dat.Ok {α : Type} [DecidableEq α] (D : Dat α) : Prop where
  dr : ∀ H a, DR H (D.m a) (D.p a)
  eq : ∀ a b, PyData.eqv (D.p a) (D.p b) = decide (a = b)
  lay : ∀ a, (D.p a).canLay0 = true
  dep : ∀ a, (D.p a).depth ≤ D.k
noncomputable def datI : Dat Int := ⟨.int, .int, 0⟩
theorem datI_ok : datI.Ok := ⟨fun H a => .int a, fun a b => by show PyData.eqv (.int a) (.int b) = _; simp only [PyData.eqv]; by_cases h : a = b <;> simp [h], fun a => by show PyData.canLay0 (.int a) = true; simp only [PyData.canLay0], fun a => by show PyData.depth (.int a) ≤ 0; simp [PyData.depth]⟩
noncomputable def datT {α : Type} (D : Dat α) : Dat (List α) := ⟨fun l => .tup (l.map D.m), fun l => .tuple (l.map D.p), D.k + 1⟩
theorem datT_ok {α : Type} [DecidableEq α] {D : Dat α} (h : D.Ok) : (datT D).Ok := by
  refine ⟨fun H l => .tup (DRs_map (fun a => h.dr H a) l), fun a b => ?_, fun a => ?_, fun a => ?_⟩
  · show PyData.eqv (.tuple _) (.tuple _) = _
    simp only [PyData.eqv]; exact eqvAll_map h.eq a b
  · show PyData.canLay0 (.tuple _) = true
    simp only [PyData.canLay0]; exact layAll_map h.lay a
  · show PyData.depth (.tuple _) ≤ _
    have := depthAll_map h.dep a
    simp only [PyData.depth, datT]; first | lia | omega
/-- a pair of things -/
noncomputable def datP {α β : Type} (D : Dat α) (E : Dat β) : Dat (α × β) := ⟨fun x => .tup [D.m x.1, E.m x.2], fun x => .tuple [D.p x.1, E.p x.2], max D.k E.k + 1⟩
theorem datP_ok {α β : Type} [DecidableEq α] [DecidableEq β] {D : Dat α} {E : Dat β} (h : D.Ok) (h' : E.Ok) : (datP D E).Ok := by
  refine ⟨fun H x => .tup (.cons (h.dr H _) (.cons (h'.dr H _) .nil)), fun a b => ?_, fun a => ?_, fun a => ?_⟩
  · show PyData.eqv (.tuple _) (.tuple _) = _
    simp only [PyData.eqv, PyData.eqvAll, h.eq, h'.eq]
    obtain ⟨a1, a2⟩ := a; obtain ⟨b1, b2⟩ := b
    by_cases e : a1 = b1 <;> by_cases e2 : a2 = b2 <;> simp [e, e2]
  · show PyData.canLay0 (.tuple _) = true
    simp only [PyData.canLay0, PyData.canLayAll0, h.lay, h'.lay, Bool.and_self]
  · show PyData.depth (.tuple _) ≤ _
    have := h.dep a.1
    have := h'.dep a.2
    simp only [PyData.depth, PyData.depthAll, datP]; first | lia | omega
noncomputable def datSp : Dat (List (Int × Int)) := datT (datP datI datI)
theorem datSp_ok : datSp.Ok := datT_ok (datP_ok datI_ok datI_ok)
theorem Dat.Ok.shaped {α : Type} [DecidableEq α] {D : Dat α} (h : D.Ok) (hk : D.k ≤ 64) (a : α) : SeqAt.shaped (D.p a) = true := by
  unfold SeqAt.shaped
  rw [h.lay, Bool.true_and]
  have := h.dep a
  simp; first | lia | omega
theorem W2_eqDat {α : Type} [DecidableEq α] {D : Dat α} (h : D.Ok) (hk : D.k ≤ 64) {a b : α} {K : MV → HV → Prop} (q : K (.bool (decide (a = b))) H) : W2 c n (compareOp .Eq) (D.m a) (D.m b) H K :=
  W2_eqD (h.dr H a) (h.dr H b) (h.shaped hk a) (h.shaped hk b) (by rw [h.eq]; exact q)
theorem W2_neDat {α : Type} [DecidableEq α] {D : Dat α} (h : D.Ok) (hk : D.k ≤ 64) {a b : α} {K : MV → HV → Prop} (q : K (.bool (!decide (a = b))) H) : W2 c n (compareOp .NotEq) (D.m a) (D.m b) H K :=
  W2_neD (h.dr H a) (h.dr H b) (h.shaped hk a) (h.shaped hk b) (by rw [h.eq]; exact q)

-- literals
noncomputable abbrev Lit := Int × Bool × Int
noncomputable def signS (e : Bool) : Str := if e then "=" else "!="
noncomputable def litM (t : Lit) : MV := .tup [.int t.1, .str (signS t.2.1), .int t.2.2]
noncomputable def litP (t : Lit) : PyData := .tuple [.int t.1, .str (signS t.2.1), .int t.2.2]
noncomputable def datL : Dat Lit := ⟨litM, litP, 1⟩
theorem datL_ok : datL.Ok := by
  refine ⟨fun H t => .tup (.cons (.int _) (.cons (.str _) (.cons (.int _) .nil))), fun a b => ?_, fun a => ?_, fun a => ?_⟩
  · obtain ⟨a1, a2, a3⟩ := a; obtain ⟨b1, b2, b3⟩ := b
    show PyData.eqv (.tuple _) (.tuple _) = _
    simp only [PyData.eqv, PyData.eqvAll]
    have e : (signS a2 == signS b2) = decide (a2 = b2) := by cases a2 <;> cases b2 <;> decide
    rw [e]
    by_cases q : a1 = b1 <;> by_cases q2 : a2 = b2 <;> by_cases q3 : a3 = b3 <;> simp [q, q2, q3]
  · obtain ⟨a1, a2, a3⟩ := a
    show PyData.canLay0 (.tuple _) = true
    simp only [PyData.canLay0, PyData.canLayAll0]
    cases a2 <;> kernel_rfl
  · show PyData.depth (.tuple _) ≤ 1
    simp [PyData.depth, PyData.depthAll]

noncomputable def negL (t : Lit) : Lit := (t.1, !t.2.1, t.2.2)
noncomputable def struckD (t : Lit) (l : List (Int × Int)) : List (Int × Int) := if t.2.1 then meet1 l t.2.2 else withoutD l t.2.2

theorem ite_f {b : Bool} {A B : Prop} (h : B) (e : b = false := by rfl) : if b = true then A else B := by rw [e]; exact h
theorem ite_t {b : Bool} {A B : Prop} (h : A) (e : b = true := by rfl) : if b = true then A else B := by rw [e]; exact h
theorem c_negation (z : Z c) {t : Lit} {K : MV → HV → Prop} (h : K (litM (negL t)) H) : WC c (n + 3) (.ref 80) [litM t] H K := by
  refine WC_at z (names := ["literal"]) rfl rfl rfl rfl (by kernel_rfl) (one fun a => by rfl) rfl (by decide) (by rfl) (fun L hL bL => ?_)
  obtain ⟨x, e, k⟩ := t
  cases e with
  | true =>
    repeat walk_at "m"
    refine ite_f ?_
    repeat walk_at "m"
    refine ite_f ?_
    repeat walk_at "m"
    refine ite_t ?_
    repeat walk_at "m"
    repeat walk_at "m"
    exact h
  | false =>
    repeat walk_at "m"
    refine ite_f ?_
    repeat walk_at "m"
    refine ite_f ?_
    repeat walk_at "m"
    refine ite_f ?_
    repeat walk_at "m"
    repeat walk_at "m"
    exact h

theorem c_struck (z : Z c) {t : Lit} {l : List (Int × Int)} {K : MV → HV → Prop} (hz : l.length ≤ 400) (h : K (.tup (spansM (struckD t l))) H) : WC c (n + 7) (.ref 87) [litM t, .tup (spansM l)] H K := by
  refine WC_at z (names := ["literal", "d"]) rfl rfl rfl rfl (by kernel_rfl) (two fun a b => by rfl) rfl (by decide) (by rfl) (fun L hL bL => ?_)
  obtain ⟨x, e, k⟩ := t
  repeat walk_at "m"
  refine WX_Swap (names := ["sign", "k"]) ?_
  repeat walk_at "m"
  refine W2_subT (j := 1) rfl rfl ?_ (by decide)
  repeat walk_at "m"
  refine W2_subT (j := 2) rfl rfl ?_ (by decide)
  repeat walk_at "m"
  refine ⟨_, rfl, rfl, ?_⟩
  cases e with
  | true =>
    repeat walk_at "m"
    refine ite_f ?_
    repeat walk_at "m"
    refine ite_f ?_
    repeat walk_at "m"
    refine ite_t ?_
    refine WE_CallK z (f := 73) ?_ (by kernel_rfl) (by kernel_rfl)
    repeat walk_at "m"
    repeat walk_at "m"
    repeat walk_at "m"
    refine c_meet z hz ?_
    repeat walk_at "m"
    exact h
  | false =>
    repeat walk_at "m"
    refine ite_f ?_
    repeat walk_at "m"
    refine ite_f ?_
    repeat walk_at "m"
    refine ite_f ?_
    refine WE_CallK z (f := 66) ?_ (by kernel_rfl) (by kernel_rfl)
    repeat walk_at "m"
    refine c_without z hz ?_
    repeat walk_at "m"
    exact h
end
end
section
-- N4
section
variable {c : Cx} {n : Nat} {env : Env} {m : Loc} {H : HV}

theorem W1_attrZ (z : Z c) {x C dx : Addr} {kvs : List (Str × MV)} {attr : Str} {d : MV} {K : MV → HV → Prop} (ha : H dx = some (.sdict kvs)) (hd' : kvs.lookup attr = some d) (hp : d.plain = true) (h : K d H)
    (hg : plainGet (KF c.w.params) C attr = true := by kernel_rfl) (hh : hasDictIn (KF c.w.params) C = true := by kernel_rfl) (hf : findIn (KF c.w.params) (.ref C) attr = some none := by kernel_rfl) : W1 c n (fun v => getAttr v attr true) (.inst x C dx) H K :=
  W1_attr z.toOk ha hd' hp (z.hK ▸ hg) (z.hK ▸ hh) (z.hK ▸ hf) h
theorem W2U_attrZ (z : Z c) {x C dx : Addr} {kvs : List (Str × MV)} {attr : Str} {d : MV} {K : HV → Prop} (ha : H dx = some (.sdict kvs)) (hz : kvs.length ≤ 100) (h : K (H.set dx (.sdict (putKV attr d kvs))))
    (hs : findIn (KF c.w.params) (.ref C) "__setattr__" = some (some (.builtin "object.__setattr__")) := by kernel_rfl) (hp : plainOver (KF c.w.params) C = true := by kernel_rfl) (ht : takerIn (KF c.w.params) C attr = some none := by kernel_rfl) (hh : hasDictIn (KF c.w.params) C = true := by kernel_rfl) : W2U c n (fun ov v => setAttr ov attr v) (.inst x C dx) d H K :=
  W2U_attr z.toOk ha hz (z.hK ▸ hs) (z.hK ▸ hp) (z.hK ▸ ht) (z.hK ▸ hh) h
theorem GM_instZ (z : Z c) {x C dx f : Addr} {kvs : List (Str × MV)} {name : Str} {K : Value → List MV → Prop} (ha : H dx = some (.sdict kvs)) (hn : kvs.lookup name = none)
    (hf : findIn (KF c.w.params) (.ref C) name = some (some (.ref f))) (h : K (.ref f) [.inst x C dx])
    (hg : plainGet (KF c.w.params) C name = true := by kernel_rfl) (ht : isFn (KF c.w.params) (.ref f) = true := by kernel_rfl) : GM c n name (.inst x C dx) H K :=
  GM_inst z.toOk ha hn (z.hK ▸ hg) (z.hK ▸ hf) (z.hK ▸ ht) h
theorem Z.kp (z : Z c) {f : Addr} (hk : keepIn (KF c.w.params) (.ref f) = true := by kernel_rfl) : Kp c (.ref f) := Kp.fn z.toOk (z.hK ▸ hk)

noncomputable abbrev Dom := List (Int × Int)
noncomputable def domM (l : Dom) : MV := .tup (spansM l)
noncomputable abbrev Ent := Int × Dom × Lit × List Lit
noncomputable def entM (e : Ent) : MV := .tup [.int e.1, domM e.2.1, litM e.2.2.1, .tup (e.2.2.2.map litM), .int (-1)]
structure SS where
  doms : List Dom
  firsts : List Dom
  trail : List Ent
  marks : List Int
  news : List (Int × MV)
  failed : Bool
  clash : List Lit
structure Ad where
  x : Addr
  dx : Addr
  d : Addr
  f : Addr
  t : Addr
  m : Addr
  n : Addr
noncomputable def Ad.l (A : Ad) : List Addr := [A.dx, A.d, A.f, A.t, A.m, A.n]
noncomputable abbrev kvsOf (A : Ad) (S : SS) : List (Str × MV) := [("domains", .ref A.d), ("firsts", .ref A.f), ("trail", .ref A.t), ("marks", .ref A.m), ("news", .ref A.n), ("speaker", .int (-1)), ("is_failed", .bool S.failed), ("clash", .tup (S.clash.map litM))]
structure HSt (A : Ad) (S : SS) (H : HV) : Prop where
  dx : H A.dx = some (.sdict (kvsOf A S))
  d : H A.d = some (.list (S.doms.map domM))
  f : H A.f = some (.list (S.firsts.map domM))
  t : H A.t = some (.list (S.trail.map entM))
  m : H A.m = some (.list (intsM S.marks))
  n : H A.n = some (.imap S.news)
  nd : A.l.Nodup
structure SS.Small (S : SS) : Prop where
  d : S.doms.length ≤ 100
  f : S.firsts.length ≤ 100
  t : S.trail.length ≤ 1000
  m : S.marks.length ≤ 100
  n : S.news.length ≤ 100
  l : ∀ d ∈ S.doms, d.length ≤ 400
  c : S.clash.length ≤ 500
/-- all but the store's own -/
noncomputable def Same (A : Ad) (H H' : HV) : Prop := ∀ a, a ∉ A.l → H' a = H a
noncomputable abbrev Ad.v (A : Ad) : MV := .inst A.x 244 A.dx

section
variable {A : Ad} {S : SS}
theorem HSt.setT (hS : HSt A S H) (tr : List Ent) : HSt A { S with trail := tr } (H.set A.t (.list (tr.map entM))) := by
  have nd := hS.nd
  simp only [Ad.l, List.nodup_cons, List.mem_cons, List.not_mem_nil, or_false, not_or] at nd
  obtain ⟨⟨n1, n2, n3, n4, n5⟩, ⟨n6, n7, n8, n9⟩, ⟨n10, n11, n12⟩, ⟨n13, n14⟩, n15, -⟩ := nd
  exact ⟨by rw [HV.set_ne n3]; exact hS.dx, by rw [HV.set_ne n7]; exact hS.d, by rw [HV.set_ne n10]; exact hS.f, HV.set_self, by rw [HV.set_ne (Ne.symm n13)]; exact hS.m, by rw [HV.set_ne (Ne.symm n14)]; exact hS.n, hS.nd⟩
theorem HSt.setD (hS : HSt A S H) (ds : List Dom) : HSt A { S with doms := ds } (H.set A.d (.list (ds.map domM))) := by
  have nd := hS.nd
  simp only [Ad.l, List.nodup_cons, List.mem_cons, List.not_mem_nil, or_false, not_or] at nd
  obtain ⟨⟨n1, n2, n3, n4, n5⟩, ⟨n6, n7, n8, n9⟩, ⟨n10, n11, n12⟩, ⟨n13, n14⟩, n15, -⟩ := nd
  exact ⟨by rw [HV.set_ne n1]; exact hS.dx, HV.set_self, by rw [HV.set_ne (Ne.symm n6)]; exact hS.f, by rw [HV.set_ne (Ne.symm n7)]; exact hS.t, by rw [HV.set_ne (Ne.symm n8)]; exact hS.m, by rw [HV.set_ne (Ne.symm n9)]; exact hS.n, hS.nd⟩
theorem HSt.setF (hS : HSt A S H) (ds : List Dom) : HSt A { S with firsts := ds } (H.set A.f (.list (ds.map domM))) := by
  have nd := hS.nd
  simp only [Ad.l, List.nodup_cons, List.mem_cons, List.not_mem_nil, or_false, not_or] at nd
  obtain ⟨⟨n1, n2, n3, n4, n5⟩, ⟨n6, n7, n8, n9⟩, ⟨n10, n11, n12⟩, ⟨n13, n14⟩, n15, -⟩ := nd
  exact ⟨by rw [HV.set_ne n2]; exact hS.dx, by rw [HV.set_ne n6]; exact hS.d, HV.set_self, by rw [HV.set_ne (Ne.symm n10)]; exact hS.t, by rw [HV.set_ne (Ne.symm n11)]; exact hS.m, by rw [HV.set_ne (Ne.symm n12)]; exact hS.n, hS.nd⟩
theorem HSt.setM (hS : HSt A S H) (ms : List Int) : HSt A { S with marks := ms } (H.set A.m (.list (intsM ms))) := by
  have nd := hS.nd
  simp only [Ad.l, List.nodup_cons, List.mem_cons, List.not_mem_nil, or_false, not_or] at nd
  obtain ⟨⟨n1, n2, n3, n4, n5⟩, ⟨n6, n7, n8, n9⟩, ⟨n10, n11, n12⟩, ⟨n13, n14⟩, n15, -⟩ := nd
  exact ⟨by rw [HV.set_ne n4]; exact hS.dx, by rw [HV.set_ne n8]; exact hS.d, by rw [HV.set_ne n11]; exact hS.f, by rw [HV.set_ne n13]; exact hS.t, HV.set_self, by rw [HV.set_ne (Ne.symm n15)]; exact hS.n, hS.nd⟩
theorem HSt.setN (hS : HSt A S H) (ns : List (Int × MV)) : HSt A { S with news := ns } (H.set A.n (.imap ns)) := by
  have nd := hS.nd
  simp only [Ad.l, List.nodup_cons, List.mem_cons, List.not_mem_nil, or_false, not_or] at nd
  obtain ⟨⟨n1, n2, n3, n4, n5⟩, ⟨n6, n7, n8, n9⟩, ⟨n10, n11, n12⟩, ⟨n13, n14⟩, n15, -⟩ := nd
  exact ⟨by rw [HV.set_ne n5]; exact hS.dx, by rw [HV.set_ne n9]; exact hS.d, by rw [HV.set_ne n12]; exact hS.f, by rw [HV.set_ne n14]; exact hS.t, by rw [HV.set_ne n15]; exact hS.m, HV.set_self, hS.nd⟩
theorem HSt.setX (hS : HSt A S H) (b : Bool) (cs : List Lit) : HSt A { S with failed := b, clash := cs } (H.set A.dx (.sdict (kvsOf A { S with failed := b, clash := cs }))) := by
  have nd := hS.nd
  simp only [Ad.l, List.nodup_cons, List.mem_cons, List.not_mem_nil, or_false, not_or] at nd
  obtain ⟨⟨n1, n2, n3, n4, n5⟩, ⟨n6, n7, n8, n9⟩, ⟨n10, n11, n12⟩, ⟨n13, n14⟩, n15, -⟩ := nd
  exact ⟨HV.set_self, by rw [HV.set_ne (Ne.symm n1)]; exact hS.d, by rw [HV.set_ne (Ne.symm n2)]; exact hS.f, by rw [HV.set_ne (Ne.symm n3)]; exact hS.t, by rw [HV.set_ne (Ne.symm n4)]; exact hS.m, by rw [HV.set_ne (Ne.symm n5)]; exact hS.n, hS.nd⟩
end
theorem Same.refl {A : Ad} : Same A H H := fun _ _ => rfl
theorem Same.trans {A : Ad} {H₁ H₂ H₃ : HV} (h : Same A H₁ H₂) (k : Same A H₂ H₃) : Same A H₁ H₃ := fun a ha => (k a ha).trans (h a ha)
theorem Same.set {A : Ad} {H' : HV} {a : Addr} {o : MObj} (h : Same A H H') (ha : a ∈ A.l) : Same A H (H'.set a o) := fun b hb => by rw [HV.set_ne (by rintro rfl; exact hb ha)]; exact h b hb
theorem kind_ne {a b : Addr} {o o' : MObj} (h : H a = some o) (h' : H b = some o') (e : o ≠ o') : a ≠ b := by rintro rfl; rw [h] at h'; exact e (Option.some.inj h')
theorem doms_get {S : SS} {x : Int} {l : Dom} (h : S.doms[x.toNat]? = some l) : (S.doms.map domM)[x.toNat]? = some (domM l) := by rw [List.getElem?_map, h]; rfl
theorem idx_lt {α : Type} {ds : List α} {x : Int} {d : α} (h : ds[x.toNat]? = some d) (hz : ds.length ≤ 1000) : x < 2 ^ 62 := by
  have := (List.getElem?_eq_some_iff.mp h).1
  first | lia | omega
theorem c_dom (z : Z c) {A : Ad} {S : SS} {x : Int} {l : Dom} {K : MV → HV → Prop} (hS : HSt A S H) (hm : S.Small) (h0 : 0 ≤ x) (hx : S.doms[x.toNat]? = some l) (h : K (domM l) H) : WC c (n + 3) (.ref 129) [A.v, .int x] H K := by
  refine WC_at z (names := ["self", "x"]) rfl rfl rfl rfl (by kernel_rfl) (two fun a b => by rfl) rfl (by decide) (by rfl) (fun L hL bL => ?_)
  repeat walk_at "m"
  refine W1_attrZ z hS.dx rfl rfl ?_
  repeat walk_at "m"
  refine W2_subL hS.d h0 (doms_get hx) ?_ (idx_lt hx (by have := hm.d; first | lia | omega))
  repeat walk_at "m"
  exact h
theorem c_shas (z : Z c) {A : Ad} {S : SS} {x v : Int} {l : Dom} {K : MV → HV → Prop} (hS : HSt A S H) (hm : S.Small) (h0 : 0 ≤ x) (hx : S.doms[x.toNat]? = some l) (h : K (.bool (hasD l v)) H) : WC c (n + 6) (.ref 157) [A.v, .int x, .int v] H K := by
  refine WC_at z (names := ["self", "x", "v"]) rfl rfl rfl rfl (by kernel_rfl) (three fun a b d => by rfl) rfl (by decide) (by rfl) (fun L hL bL => ?_)
  repeat walk_at "m"
  refine WE_CallK z (f := 49) ?_ (by kernel_rfl) (by kernel_rfl)
  repeat walk_at "m"
  refine W1_attrZ z hS.dx rfl rfl ?_
  repeat walk_at "m"
  refine W2_subL hS.d h0 (doms_get hx) ?_ (idx_lt hx (by have := hm.d; first | lia | omega))
  repeat walk_at "m"
  refine c_has z ?_
  repeat walk_at "m"
  exact h
noncomputable def fixedD : Dom → Bool
  | [(a, b)] => a == b
  | _ => false
theorem c_fixed (z : Z c) {A : Ad} {S : SS} {x : Int} {l : Dom} {K : MV → HV → Prop} (hS : HSt A S H) (hm : S.Small) (h0 : 0 ≤ x) (hx : S.doms[x.toNat]? = some l) (h : K (.bool (fixedD l)) H) : WC c (n + 3) (.ref 164) [A.v, .int x] H K := by
  have hll : l.length ≤ 400 := hm.l l (List.mem_of_getElem? hx)
  refine WC_at z (names := ["self", "x"]) rfl rfl rfl rfl (by kernel_rfl) (two fun a b => by rfl) rfl (by decide) (by rfl) (fun L hL bL => ?_)
  repeat walk_at "m"
  refine W1_attrZ z hS.dx rfl rfl ?_
  repeat walk_at "m"
  refine W2_subL hS.d h0 (doms_get hx) ?_ (idx_lt hx (by have := hm.d; first | lia | omega))
  repeat walk_at "m"
  refine WE_And ?_
  repeat walk_at "m"
  refine WE_CallB z Boot.«len» ?_
  repeat walk_at "m"
  refine WC_len_tup (by rw [spansM_len]; first | lia | omega) ?_
  rw [spansM_len]
  repeat walk_at "m"
  match l, h, hx with
  | [], h, hx =>
    refine ite_f ?_
    repeat walk_at "m"
    exact h
  | [(a, b)], h, hx =>
    refine ite_t ?_
    repeat walk_at "m"
    refine W2_subT (j := 0) rfl rfl ?_ (by decide)
    repeat walk_at "m"
    refine W2_subT (j := 0) rfl rfl ?_ (by decide)
    repeat walk_at "m"
    refine W2_subT (j := 0) rfl rfl ?_ (by decide)
    repeat walk_at "m"
    refine W2_subT (j := 1) rfl rfl ?_ (by decide)
    repeat walk_at "m"
    exact h
  | p :: q :: r, h, hx =>
    have e : ((((p :: q :: r).length : Nat) : Int) == 1) = false := by simp; first | lia | omega
    rw [e]
    repeat walk_at "m"
    exact h
theorem c_value (z : Z c) {A : Ad} {S : SS} {x : Int} {a b : Int} {l : Dom} {K : MV → HV → Prop} (hS : HSt A S H) (hm : S.Small) (h0 : 0 ≤ x) (hx : S.doms[x.toNat]? = some ((a, b) :: l)) (h : K (.int a) H) : WC c (n + 3) (.ref 171) [A.v, .int x] H K := by
  refine WC_at z (names := ["self", "x"]) rfl rfl rfl rfl (by kernel_rfl) (two fun a b => by rfl) rfl (by decide) (by rfl) (fun L hL bL => ?_)
  repeat walk_at "m"
  refine W1_attrZ z hS.dx rfl rfl ?_
  repeat walk_at "m"
  refine W2_subL hS.d h0 (doms_get hx) ?_ (idx_lt hx (by have := hm.d; first | lia | omega))
  repeat walk_at "m"
  have hz := hm.l _ (List.mem_of_getElem? hx)
  refine W2_subT (j := 0) (d := spanM (a, b)) (seqIndex_of (by decide) (by simp [spansM])) rfl ?_ (by decide)
  repeat walk_at "m"
  refine W2_subT (j := 0) rfl rfl ?_ (by decide)
  repeat walk_at "m"
  exact h
noncomputable def SS.fail (S : SS) (cs : List Lit) : SS := { S with failed := true, clash := cs }
theorem c_fail (z : Z c) {A : Ad} {S : SS} {cs : List Lit} {K : MV → HV → Prop} (hS : HSt A S H) (h : ∀ H', HSt A (S.fail cs) H' → Same A H H' → K (.bool false) H') : WC c (n + 3) (.ref 213) [A.v, .tup (cs.map litM)] H K := by
  refine WC_at z (names := ["self", "reasons"]) rfl rfl rfl rfl (by kernel_rfl) (two fun a b => by rfl) rfl (by decide) (by rfl) (fun L hL bL => ?_)
  repeat walk_at "m"
  refine W2U_attrZ z hS.dx (by show 8 ≤ 100; first | lia | omega) ?_
  repeat walk_at "m"
  refine WE_CallT z Boot.«tuple» ?_
  repeat walk_at "m"
  refine WC_tuple_tup ?_
  repeat walk_at "m"
  refine W2U_attrZ z HV.set_self (by show 8 ≤ 100; first | lia | omega) ?_
  repeat walk_at "m"
  rw [HV.set_set]
  exact h _ (hS.setX true cs) (Same.refl.set (by simp [Ad.l]))

noncomputable def SS.enter (S : SS) (t : Lit) (rs : List Lit) : Bool × SS :=
  let old := S.doms.getD t.1.toNat []
  let fresh := struckD t old
  if fresh = [] then (false, S.fail (rs ++ [negL t]))
  else if fresh = old then (true, S)
  else (true, { S with trail := S.trail ++ [(t.1, old, t, rs)], doms := S.doms.set t.1.toNat fresh, news := storedM S.news t.1 (.bool true) })
theorem lits_snoc {rs : List Lit} {t : Lit} : (rs ++ [t]).map litM = rs.map litM ++ [litM t] := by simp
theorem c_enter (z : Z c) {A : Ad} {S : SS} {t : Lit} {rs : List Lit} {l : Dom} {K : MV → HV → Prop} (hS : HSt A S H) (hm : S.Small) (h0 : 0 ≤ t.1) (hx : S.doms[t.1.toNat]? = some l) (hr : rs.length ≤ 400)
    (h : ∀ H', HSt A (S.enter t rs).2 H' → Same A H H' → K (.bool (S.enter t rs).1) H') : WC c (n + 8) (.ref 192) [A.v, litM t, .tup (rs.map litM), .int (-1)] H K := by
  have hll : l.length ≤ 400 := hm.l l (List.mem_of_getElem? hx)
  have hgd : S.doms.getD t.1.toNat [] = l := by rw [List.getD_eq_getElem?_getD, hx]; rfl
  refine WC_at z (names := ["self", "literal", "reasons", "speaker"]) rfl rfl rfl rfl (by kernel_rfl) (four fun a b d e => by rfl) rfl (by decide) (by rfl) (fun L hL bL => ?_)
  repeat walk_at "m"
  refine W2_subT (j := 0) rfl rfl ?_ (by decide)
  repeat walk_at "m"
  refine W1_attrZ z hS.dx rfl rfl ?_
  repeat walk_at "m"
  refine W2_subL hS.d h0 (doms_get hx) ?_ (idx_lt hx (by have := hm.d; first | lia | omega))
  repeat walk_at "m"
  refine WE_CallK z (f := 87) ?_ (by kernel_rfl) (by kernel_rfl)
  repeat walk_at "m"
  refine c_struck z hll ?_
  repeat walk_at "m"
  refine W2_eqDat (D := datSp) datSp_ok (by decide) (a := struckD t l) (b := []) ?_
  repeat walk_at "m"
  refine ite_dec (fun he => ?_) (fun he => ?_)
  · repeat walk_at "m"
    refine WE_Method ?_
    repeat walk_at "m"
    refine GM_instZ z (f := 213) hS.dx rfl (by kernel_rfl) ⟨z.kp, ?_⟩
    repeat walk_at "m"
    refine W2_isN (d := .tup (rs.map litM)) ?_ (fun v e => by cases e)
    repeat walk_at "m"
    refine ite_f ?_
    repeat walk_at "m"
    refine WE_CallK z (f := 80) ?_ (by kernel_rfl) (by kernel_rfl)
    repeat walk_at "m"
    refine c_negation z ?_
    repeat walk_at "m"
    refine W2_addT ?_ (by rw [List.length_map]; show rs.length + 1 ≤ 1000; first | lia | omega)
    repeat walk_at "m"
    rw [← lits_snoc]
    refine c_fail z hS fun H' hS' hs => ?_
    repeat walk_at "m"
    have e : S.enter t rs = (false, S.fail (rs ++ [negL t])) := by unfold SS.enter; rw [hgd]; simp only [he, if_true]
    rw [e] at h
    exact h H' hS' hs
  · repeat walk_at "m"
    refine W2_eqDat (D := datSp) datSp_ok (by decide) (a := struckD t l) (b := l) ?_
    repeat walk_at "m"
    refine ite_dec (fun he2 => ?_) (fun he2 => ?_)
    · repeat walk_at "m"
      have e : S.enter t rs = (true, S) := by unfold SS.enter; rw [hgd]; simp only [he2, if_true]; rw [if_neg (he2 ▸ he)]
      rw [e] at h
      exact h H hS .refl
    · repeat walk_at "m"
      refine WE_append ?_
      repeat walk_at "m"
      refine W1_attrZ z hS.dx rfl rfl ⟨_, _, rfl, hS.t, ?_⟩
      repeat walk_at "m"
      refine ⟨_, hS.t, by rw [List.length_map]; have := hm.t; first | lia | omega, ?_⟩
      have e1 : List.map entM S.trail ++ [MV.tup [MV.int t.1, domM l, litM t, MV.tup (List.map litM rs), MV.int (-1)]] = List.map entM (S.trail ++ [(t.1, l, t, rs)]) := by simp [entM]
      rw [e1]
      have hS1 := hS.setT (S.trail ++ [(t.1, l, t, rs)])
      repeat walk_at "m"
      refine W1_attrZ z hS1.dx rfl rfl ?_
      repeat walk_at "m"
      have hlt := (List.getElem?_eq_some_iff.mp hx).1
      refine W3U_setL hS1.d h0 (by rw [List.length_map]; show t.1 < ((S.doms.length : Nat) : Int); first | lia | omega) ?_ (idx_lt hx (by have := hm.d; first | lia | omega))
      have e2 : (List.map domM S.doms).set t.1.toNat (.tup (spansM (struckD t l))) = List.map domM (S.doms.set t.1.toNat (struckD t l)) := by rw [List.map_set]; rfl
      rw [e2]
      have hS2 := hS1.setD (S.doms.set t.1.toNat (struckD t l))
      repeat walk_at "m"
      refine W1_attrZ z hS2.dx rfl rfl ?_
      repeat walk_at "m"
      refine W3U_setI hS2.n (by show S.news.length ≤ 1000; have := hm.n; first | lia | omega) ?_
      have hS3 := hS2.setN (storedM S.news t.1 (.bool true))
      repeat walk_at "m"
      have e : S.enter t rs = (true, { S with trail := S.trail ++ [(t.1, l, t, rs)], doms := S.doms.set t.1.toNat (struckD t l), news := storedM S.news t.1 (.bool true) }) := by
        unfold SS.enter; rw [hgd]; simp only [he, he2, if_false]
      rw [e] at h
      exact h _ hS3 (((Same.refl.set (by simp [Ad.l])).set (by simp [Ad.l])).set (by simp [Ad.l]))
end
end
section
-- N5
section
variable {c : Cx} {n : Nat} {env : Env} {m : Loc} {H : HV}
theorem c_strike (z : Z c) {A : Ad} {S : SS} {t : Lit} {rs : List Lit} {l : Dom} {K : MV → HV → Prop} (hS : HSt A S H) (hm : S.Small) (h0 : 0 ≤ t.1) (hx : S.doms[t.1.toNat]? = some l) (hr : rs.length ≤ 400)
    (h : ∀ H', HSt A (S.enter t rs).2 H' → Same A H H' → K (.bool (S.enter t rs).1) H') : WC c (n + 9) (.ref 199) [A.v, litM t, .tup (rs.map litM)] H K := by
  refine WC_at z (names := ["self", "literal", "reasons"]) rfl rfl rfl rfl (by kernel_rfl) (three fun a b d => by rfl) rfl (by decide) (by rfl) (fun L hL bL => ?_)
  repeat walk_at "m"
  refine WE_Method ?_
  repeat walk_at "m"
  refine GM_instZ z (f := 192) hS.dx rfl (by kernel_rfl) ⟨z.kp, ?_⟩
  repeat walk_at "m"
  refine WE_CallT z Boot.«tuple» ?_
  repeat walk_at "m"
  refine WC_tuple_tup ?_
  repeat walk_at "m"
  refine W1_attrZ z hS.dx rfl rfl ?_
  repeat walk_at "m"
  refine c_enter z hS hm h0 hx hr fun H' hS' hs => ?_
  repeat walk_at "m"
  exact h H' hS' hs

theorem c_push (z : Z c) {A : Ad} {S : SS} {K : MV → HV → Prop} (hS : HSt A S H) (hm : S.Small)
    (h : ∀ H', HSt A { S with marks := S.marks ++ [(S.trail.length : Int)] } H' → Same A H H' → K .none H') : WC c (n + 3) (.ref 220) [A.v] H K := by
  refine WC_at z (names := ["self"]) rfl rfl rfl rfl (by kernel_rfl) (one fun a => by rfl) rfl (by decide) (by rfl) (fun L hL bL => ?_)
  repeat walk_at "m"
  refine WE_append ?_
  repeat walk_at "m"
  refine W1_attrZ z hS.dx rfl rfl ⟨_, _, rfl, hS.m, ?_⟩
  refine WE_CallB z Boot.«len» ?_
  repeat walk_at "m"
  refine W1_attrZ z hS.dx rfl rfl ?_
  repeat walk_at "m"
  refine WC_len_list hS.t (by rw [List.length_map]; have := hm.t; first | lia | omega) ⟨_, hS.m, by unfold intsM; rw [List.length_map]; have := hm.m; first | lia | omega, ?_⟩
  have e : intsM S.marks ++ [MV.int ((S.trail.map entM).length : Nat)] = intsM (S.marks ++ [(S.trail.length : Int)]) := by simp [intsM]
  rw [e]
  repeat walk_at "m"
  exact h _ (hS.setM _) (Same.refl.set (by simp [Ad.l]))

theorem c_newvar (z : Z c) {A : Ad} {S : SS} {l : Dom} {K : MV → HV → Prop} (hS : HSt A S H) (hm : S.Small) (hl : l ≠ [])
    (h : ∀ H', HSt A { S with doms := S.doms ++ [l], firsts := S.firsts ++ [l] } H' → Same A H H' → K (.int S.doms.length) H') : WC c (n + 5) (.ref 115) [A.v, domM l] H K := by
  refine WC_at z (names := ["self", "domain"]) rfl rfl rfl rfl (by kernel_rfl) (two fun a b => by rfl) rfl (by decide) (by rfl) (fun L hL bL => ?_)
  have e1 : S.doms.map domM ++ [domM l] = (S.doms ++ [l]).map domM := by simp
  have e2 : S.firsts.map domM ++ [domM l] = (S.firsts ++ [l]).map domM := by simp
  repeat walk_at "m"
  refine WE_append ?_
  repeat walk_at "m"
  refine W1_attrZ z hS.dx rfl rfl ⟨_, _, rfl, hS.d, ?_⟩
  repeat walk_at "m"
  refine ⟨_, hS.d, by rw [List.length_map]; have := hm.d; first | lia | omega, ?_⟩
  rw [e1]
  have hS1 := hS.setD (S.doms ++ [l])
  repeat walk_at "m"
  refine WE_append ?_
  repeat walk_at "m"
  refine W1_attrZ z hS1.dx rfl rfl ⟨_, _, rfl, hS1.f, ?_⟩
  repeat walk_at "m"
  refine ⟨_, hS1.f, by rw [List.length_map]; show S.firsts.length ≤ 10000; have := hm.f; first | lia | omega, ?_⟩
  rw [e2]
  have hS2 := hS1.setF (S.firsts ++ [l])
  repeat walk_at "m"
  refine W2_eqDat (D := datSp) datSp_ok (by decide) (a := l) (b := []) ?_
  repeat walk_at "m"
  refine ite_dec (fun he => absurd he hl) (fun he => ?_)
  repeat walk_at "m"
  refine WE_CallB z Boot.«len» ?_
  repeat walk_at "m"
  refine W1_attrZ z hS2.dx rfl rfl ?_
  repeat walk_at "m"
  refine WC_len_list hS2.d (by rw [List.length_map]; show (S.doms ++ [l]).length ≤ 10000; have := hm.d; simp; first | lia | omega) ?_
  repeat walk_at "m"
  have e3 : (((List.map domM (S.doms ++ [l])).length : Nat) : Int) - 1 = (S.doms.length : Int) := by simp
  rw [e3]
  exact h _ hS2 ((Same.refl.set (by simp [Ad.l])).set (by simp [Ad.l]))
end
end
section
-- N6
section
variable {c : Cx} {n : Nat} {env : Env} {m : Loc} {H : HV}
noncomputable def enumAt : Nat → List MV → List MV
  | _, [] => []
  | k, d :: r => .tup [.int (k : Int), d] :: enumAt (k + 1) r
theorem enumAt_eq : ∀ (l : List MV) (k : Nat), enumAt k l = l.mapIdx fun i d => MV.tup [.int ((k + i : Nat) : Int), d]
  | [], k => by simp [enumAt]
  | d :: r, k => by
    rw [List.mapIdx_cons, enumAt, enumAt_eq r (k + 1)]
    congr 2
    funext i d
    rw [show k + 1 + i = k + (i + 1) by first | lia | omega]
theorem enumL_at (l : List MV) : enumL l = enumAt 0 l := by
  rw [enumAt_eq]; unfold enumL; congr 1; funext i d; rw [Nat.zero_add]

noncomputable abbrev SS.dom (S : SS) (x : Int) : Dom := S.doms.getD x.toNat []
noncomputable def valD : Dom → Int
  | [] => 0
  | (a, _) :: _ => a
noncomputable def turnJ (i x : Int) : Nat → List Int → SS → Bool × SS
  | _, [], S => (true, S)
  | j, y :: ys, S => if hasD (S.dom x) ((j : Int) + 1) = true ∧ hasD (S.dom y) (i + 1) = false then
      (if (S.enter (x, false, (j : Int) + 1) [(y, false, i + 1)]).1 then turnJ i x (j + 1) ys (S.enter (x, false, (j : Int) + 1) [(y, false, i + 1)]).2 else (false, (S.enter (x, false, (j : Int) + 1) [(y, false, i + 1)]).2))
    else turnJ i x (j + 1) ys S
noncomputable def turnI (back : List Int) : Nat → List Int → SS → Bool × SS
  | _, [], S => (true, S)
  | i, x :: xs, S => if (turnJ i x 0 back S).1 then
      (let S' := (turnJ i x 0 back S).2
       if fixedD (S'.dom x) then
         (let r := S'.enter (back.getD (valD (S'.dom x) - 1).toNat 0, true, (i : Int) + 1) [(x, true, valD (S'.dom x))]
          if r.1 then turnI back (i + 1) xs r.2 else (false, r.2))
       else turnI back (i + 1) xs S')
    else (false, (turnJ i x 0 back S).2)

structure TurnInv (row back : List Int) (P : SS → Prop) : Prop where
  small : ∀ S, P S → S.Small
  inRow : ∀ S, P S → ∀ x ∈ row, 0 ≤ x ∧ x.toNat < S.doms.length
  inBack : ∀ S, P S → ∀ x ∈ back, 0 ≤ x ∧ x.toNat < S.doms.length
  val : ∀ S, P S → ∀ x ∈ row, fixedD (S.dom x) = true → 1 ≤ valD (S.dom x) ∧ valD (S.dom x) ≤ back.length
  ent : ∀ S, P S → ∀ x ∈ row, ∀ (j : Nat) (rs : List Lit), (S.enter (x, false, (j : Int) + 1) rs).1 = true → P (S.enter (x, false, (j : Int) + 1) rs).2
  ent2 : ∀ S, P S → ∀ y ∈ back, ∀ (i : Nat) (rs : List Lit), (S.enter (y, true, (i : Int) + 1) rs).1 = true → P (S.enter (y, true, (i : Int) + 1) rs).2
  hb : back.length ≤ 100
theorem dom_get {S : SS} {x : Int} (h : x.toNat < S.doms.length) : S.doms[x.toNat]? = some (S.dom x) := by
  unfold SS.dom; rw [List.getD_eq_getElem?_getD, List.getElem?_eq_getElem h]; rfl
theorem fixed_shape {l : Dom} (h : fixedD l = true) : l = [(valD l, valD l)] := by
  match l, h with
  | [(a, b)], h => have : a = b := by simpa [fixedD] using h
                   subst this; rfl

inductive TIi (A : Ad) (H : HV) (S : SS) (row back : List Int) (P : SS → Prop) (ds : List MV) (m : Loc) (H' : HV) : Prop
  | mk (i : Nat) (xs : List Int) (S' : SS) (h0 : ds = enumAt i (intsM xs)) (h1 : HSt A S' H') (h2 : Same A H H') (h3 : P S') (h4 : (∀ x ∈ xs, x ∈ row)) (h5 : turnI back i xs S' = turnI back 0 row S) (h6 : Mine.L "store" A.v m) (h7 : Mine.L "row" (.tup (intsM row)) m) (h8 : Mine.L "back" (.tup (intsM back)) m)
inductive TIj (A : Ad) (H : HV) (S' : SS) (row back : List Int) (P : SS → Prop) (i : Nat) (x : Int) (ds : List MV) (m : Loc) (H' : HV) : Prop
  | mk (j : Nat) (ys : List Int) (S₂ : SS) (h0 : ds = enumAt j (intsM ys)) (h1 : HSt A S₂ H') (h2 : Same A H H') (h3 : P S₂) (h4 : (∀ y ∈ ys, y ∈ back)) (h5 : turnJ i x j ys S₂ = turnJ i x 0 back S') (h6 : Mine.L "store" A.v m) (h7 : Mine.L "row" (.tup (intsM row)) m) (h8 : Mine.L "back" (.tup (intsM back)) m) (h9 : Mine.L "i" (.int (i : Int)) m) (h10 : Mine.L "x" (.int x) m)
theorem c_turn (z : Z c) {A : Ad} {S : SS} {row back : List Int} {P : SS → Prop} (T : TurnInv row back P) {ix idx : Addr} {K : MV → HV → Prop} (hS : HSt A S H) (hP : P S)
    (h : ∀ H', HSt A (turnI back 0 row S).2 H' → Same A H H' → K (.bool (turnI back 0 row S).1) H') : WC c (n + 13) (.ref 320) [.inst ix 337 idx, A.v, .tup (intsM row), .tup (intsM back)] H K := by
  refine WC_at z (names := ["self", "store", "row", "back"]) rfl rfl rfl rfl (by kernel_rfl) (four fun a b d e => by rfl) rfl (by decide) (by rfl) (fun L hL bL => ?_)
  walk_at "m"
  refine WX_For (tg := tupT) (WI_enum (WE_builtin z.toOk ⟨rfl, rfl⟩ Boot.«enumerate» (z.gn (by kernel_rfl))) (WE_local ⟨_, _, .tup, ?_⟩)) ⟨_, _, _, rfl⟩
  rw [enumL_at]
  refine WFor_ind (TIi A H S row back P) ?_ ?_ _ _ _ ⟨0, row, S, rfl, hS, .refl, hP, fun _ h => h, rfl, rfl, rfl, rfl⟩
  · rintro m H' ⟨i, xs, S', e, hS', hs, hP', hx, ht, m1, m2, m3⟩
    cases xs with
    | cons _ _ => cases e
    | nil =>
      repeat walk_at "m"
      have e1 : turnI back 0 row S = (true, S') := ht.symm
      rw [e1] at h
      exact h H' hS' hs
  · rintro d ds m H' ⟨i, xs, S', e, hS', hs, hP', hx, ht, m1, m2, m3⟩
    cases xs with
    | nil => cases e
    | cons x xs =>
      cases e
      have hxr := hx x (by simp)
      obtain ⟨hx0, hxl⟩ := T.inRow S' hP' x hxr
      repeat walk_at "m"
      have hout : turnI back i (x :: xs) S' = (if (turnJ i x 0 back S').1 then
        (let S₂ := (turnJ i x 0 back S').2
         if fixedD (S₂.dom x) then
           (let r := S₂.enter (back.getD (valD (S₂.dom x) - 1).toNat 0, true, (i : Int) + 1) [(x, true, valD (S₂.dom x))]
            if r.1 then turnI back (i + 1) xs r.2 else (false, r.2))
         else turnI back (i + 1) xs S₂)
        else (false, (turnJ i x 0 back S').2)) := rfl
      refine WX_For (tg := tupT) (WI_enum (WE_builtin z.toOk ⟨rfl, rfl⟩ Boot.«enumerate» (z.gn (by kernel_rfl))) (WE_local ⟨_, _, .tup, ?_⟩ (by first | rfl | assumption))) ⟨_, _, _, rfl⟩
      rw [enumL_at]
      refine WFor_ind (TIj A H S' row back P i x) ?_ ?_ _ _ _ ⟨0, back, S', rfl, hS', hs, hP', fun _ h => h, rfl, m1, m2, m3, rfl, rfl⟩
      · rintro m H₂ ⟨j, ys, S₂, e, hS₂, hs₂, hP₂, hy, htj, m1, m2, m3, m4, m5⟩
        cases ys with
        | cons _ _ => cases e
        | nil =>
          have ej : turnJ i x 0 back S' = (true, S₂) := htj.symm
          rw [ej] at hout
          simp only [if_true] at hout
          have hxl₂ := (T.inRow S₂ hP₂ x hxr).2
          repeat walk_at "m"
          refine WE_Method ?_
          repeat walk_at "m"
          refine GM_instZ z (f := 164) hS₂.dx rfl (by kernel_rfl) ⟨z.kp, ?_⟩
          repeat walk_at "m"
          refine c_fixed z hS₂ (T.small _ hP₂) hx0 (dom_get hxl₂) ?_
          repeat walk_at "m"
          refine ite_b (fun hf => ?_) (fun hf => ?_)
          · rw [if_pos hf] at hout
            have hsh := fixed_shape hf
            obtain ⟨hv1, hv2⟩ := T.val S₂ hP₂ x hxr hf
            have hbl := T.hb
            repeat walk_at "m"
            refine WE_Method ?_
            repeat walk_at "m"
            refine GM_instZ z (f := 171) hS₂.dx rfl (by kernel_rfl) ⟨z.kp, ?_⟩
            repeat walk_at "m"
            refine c_value z (a := valD (S₂.dom x)) (b := valD (S₂.dom x)) (l := []) hS₂ (T.small _ hP₂) hx0 (hsh ▸ dom_get hxl₂) ?_
            repeat walk_at "m"
            have hlt : (valD (S₂.dom x) - 1).toNat < back.length := by first | lia | omega
            have hy : back[(valD (S₂.dom x) - 1).toNat]? = some (back.getD (valD (S₂.dom x) - 1).toNat 0) := by rw [List.getD_eq_getElem?_getD, List.getElem?_eq_getElem hlt]; rfl
            have hyb : back.getD (valD (S₂.dom x) - 1).toNat 0 ∈ back := List.mem_of_getElem? hy
            obtain ⟨hy0, hyl⟩ := T.inBack S₂ hP₂ _ hyb
            refine WE_Method ?_
            repeat walk_at "m"
            refine GM_instZ z (f := 199) hS₂.dx rfl (by kernel_rfl) ⟨z.kp, ?_⟩
            repeat walk_at "m"
            refine W2_subN (by first | lia | omega) (by unfold intsM; rw [List.getElem?_map, hy]; rfl) (by unfold intsM; rw [List.length_map]; first | lia | omega) ?_
            repeat walk_at "m"
            refine c_strike z (t := (back.getD (valD (S₂.dom x) - 1).toNat 0, true, (i : Int) + 1)) (rs := [(x, true, valD (S₂.dom x))]) hS₂ (T.small _ hP₂) hy0 (dom_get hyl) (by show 1 ≤ 400; first | lia | omega) fun H₃ hS₃ hs₃ => ?_
            repeat walk_at "m"
            refine ite_b (fun hr => ?_) (fun hr => ?_)
            · have hr : (S₂.enter (back.getD (valD (S₂.dom x) - 1).toNat 0, true, (i : Int) + 1) [(x, true, valD (S₂.dom x))]).1 = false := by simpa using hr
              rw [if_neg (by rw [hr]; decide)] at hout
              repeat walk_at "m"
              rw [← ht, hout] at h
              exact h H₃ hS₃ (hs₂.trans hs₃)
            · have hr : (S₂.enter (back.getD (valD (S₂.dom x) - 1).toNat 0, true, (i : Int) + 1) [(x, true, valD (S₂.dom x))]).1 = true := by simpa using hr
              rw [if_pos hr] at hout
              repeat walk_at "m"
              exact ⟨trivial, i + 1, xs, _, rfl, hS₃, hs₂.trans hs₃, T.ent2 S₂ hP₂ _ hyb i _ hr, fun y hy => hx y (by simp [hy]), by rw [← hout]; exact ht, m1, m2, m3⟩
          · rw [if_neg (by rw [hf]; decide)] at hout
            repeat walk_at "m"
            exact ⟨trivial, i + 1, xs, S₂, rfl, hS₂, hs₂, hP₂, fun y hy => hx y (by simp [hy]), by rw [← hout]; exact ht, m1, m2, m3⟩
      · rintro d ds m H₂ ⟨j, ys, S₂, e, hS₂, hs₂, hP₂, hy, htj, m1, m2, m3, m4, m5⟩
        cases ys with
        | nil => cases e
        | cons y ys =>
          cases e
          have hyb := hy y (by simp)
          obtain ⟨hy0, hyl⟩ := T.inBack S₂ hP₂ y hyb
          have hxl₂ := (T.inRow S₂ hP₂ x hxr).2
          have hin : turnJ i x j (y :: ys) S₂ = (if hasD (S₂.dom x) ((j : Int) + 1) = true ∧ hasD (S₂.dom y) ((i : Int) + 1) = false then
            (if (S₂.enter (x, false, (j : Int) + 1) [(y, false, (i : Int) + 1)]).1 then turnJ i x (j + 1) ys (S₂.enter (x, false, (j : Int) + 1) [(y, false, (i : Int) + 1)]).2 else (false, (S₂.enter (x, false, (j : Int) + 1) [(y, false, (i : Int) + 1)]).2))
            else turnJ i x (j + 1) ys S₂) := rfl
          have skip : ¬ (hasD (S₂.dom x) ((j : Int) + 1) = true ∧ hasD (S₂.dom y) ((i : Int) + 1) = false) → turnJ i x (j + 1) ys S₂ = turnJ i x 0 back S' := fun q => by rw [if_neg q] at hin; rw [← hin]; exact htj
          repeat walk_at "m"
          refine WE_Method ?_
          repeat walk_at "m"
          refine GM_instZ z (f := 157) hS₂.dx rfl (by kernel_rfl) ⟨z.kp, ?_⟩
          repeat walk_at "m"
          refine c_shas z hS₂ (T.small _ hP₂) hx0 (dom_get hxl₂) ?_
          repeat walk_at "m"
          refine ite_b (fun q1 => ?_) (fun q1 => ?_)
          · repeat walk_at "m"
            refine WE_Method ?_
            repeat walk_at "m"
            refine GM_instZ z (f := 157) hS₂.dx rfl (by kernel_rfl) ⟨z.kp, ?_⟩
            repeat walk_at "m"
            refine c_shas z hS₂ (T.small _ hP₂) hy0 (dom_get hyl) ?_
            repeat walk_at "m"
            refine ite_b (fun q2 => ?_) (fun q2 => ?_)
            · have q2 : hasD (S₂.dom y) ((i : Int) + 1) = false := by simpa using q2
              rw [if_pos ⟨q1, q2⟩] at hin
              repeat walk_at "m"
              refine WE_Method ?_
              repeat walk_at "m"
              refine GM_instZ z (f := 199) hS₂.dx rfl (by kernel_rfl) ⟨z.kp, ?_⟩
              repeat walk_at "m"
              refine c_strike z (t := (x, false, (j : Int) + 1)) (rs := [(y, false, (i : Int) + 1)]) hS₂ (T.small _ hP₂) hx0 (dom_get hxl₂) (by show 1 ≤ 400; first | lia | omega) fun H₃ hS₃ hs₃ => ?_
              repeat walk_at "m"
              refine ite_b (fun hr => ?_) (fun hr => ?_)
              · have hr : (S₂.enter (x, false, (j : Int) + 1) [(y, false, (i : Int) + 1)]).1 = false := by simpa using hr
                rw [if_neg (by rw [hr]; decide)] at hin
                repeat walk_at "m"
                have e2 : turnJ i x 0 back S' = (false, (S₂.enter (x, false, (j : Int) + 1) [(y, false, (i : Int) + 1)]).2) := by rw [← htj]; exact hin
                rw [e2] at hout
                simp only [Bool.false_eq_true, if_false] at hout
                rw [← ht, hout] at h
                exact h H₃ hS₃ (hs₂.trans hs₃)
              · have hr : (S₂.enter (x, false, (j : Int) + 1) [(y, false, (i : Int) + 1)]).1 = true := by simpa using hr
                rw [if_pos hr] at hin
                repeat walk_at "m"
                exact ⟨trivial, j + 1, ys, _, rfl, hS₃, hs₂.trans hs₃, T.ent S₂ hP₂ x hxr j _ hr, fun y' hy' => hy y' (by simp [hy']), by rw [← hin]; exact htj, m1, m2, m3, m4, m5⟩
            · repeat walk_at "m"
              exact ⟨trivial, j + 1, ys, S₂, rfl, hS₂, hs₂, hP₂, fun y' hy' => hy y' (by simp [hy']), skip (by rw [show hasD (S₂.dom y) ((i : Int) + 1) = true by simpa using q2]; simp), m1, m2, m3, m4, m5⟩
          · repeat walk_at "m"
            exact ⟨trivial, j + 1, ys, S₂, rfl, hS₂, hs₂, hP₂, fun y' hy' => hy y' (by simp [hy']), skip (by rw [q1]; simp), m1, m2, m3, m4, m5⟩
end
end
section
-- N7
section
variable {c : Cx} {n : Nat} {env : Env} {m : Loc} {H : HV}
theorem W2.forget {f : Value → Value → Sem Value} {d e : MV} {K : MV → HV → Prop} (h : W2 c n f d e H fun g H' => ∃ H₂ : HV, (∀ a o, H₂ a = some o → H' a = some o) ∧ K g H₂) : W2 c n f d e H K :=
  fun A s v u R sh r1 r2 => mono1 (h A s v u R sh r1 r2) (fun v s' ⟨d, H', a, b, e, H₂, k, q⟩ => ⟨d, H₂, a.drop k, b, e.drop k, q⟩)
theorem WB.forget {e : Expr} {K : Bool → HV → Prop} (h : WB c n env e m H fun b H' => ∃ H₂ : HV, (∀ a o, H₂ a = some o → H' a = some o) ∧ K b H₂) : WB c n env e m H K :=
  fun A s R S => mono1 (h A s R S) (fun v s' ⟨H', a, b, H₂, k, q⟩ => ⟨H₂, a.drop k, b.drop k, q⟩)

theorem W2_neList {α : Type} [DecidableEq α] {D : Dat α} (h : D.Ok) (hk : D.k ≤ 60) {a b : Addr} {l l' : List α} {K : MV → HV → Prop} (ha : H a = some (.list (l.map D.m))) (hb : H b = some (.list (l'.map D.m))) (q : K (.bool (!decide (l = l'))) H) : W2 c n (compareOp .NotEq) (.ref a) (.ref b) H K := by
  have sh : ∀ l : List α, SeqAt.shaped (.list (l.map D.p)) = true := fun l => by
    unfold SeqAt.shaped
    have := depthAll_map h.dep l
    rw [show PyData.canLay0 (.list (l.map D.p)) = PyData.canLayAll0 (l.map D.p) by simp only [PyData.canLay0], layAll_map h.lay, Bool.true_and]
    simp only [PyData.depth]; simp; first | lia | omega
  refine W2_neD (.list ha (DRs_map (fun x => h.dr H x) l)) (.list hb (DRs_map (fun x => h.dr H x) l')) (sh l) (sh l') ?_
  rw [show PyData.eqv (.list (l.map D.p)) (.list (l'.map D.p)) = PyData.eqvAll (l.map D.p) (l'.map D.p) by simp only [PyData.eqv], eqvAll_map h.eq]
  exact q
theorem W2_eqList {α : Type} [DecidableEq α] {D : Dat α} (h : D.Ok) (hk : D.k ≤ 60) {a b : Addr} {l l' : List α} {K : MV → HV → Prop} (ha : H a = some (.list (l.map D.m))) (hb : H b = some (.list (l'.map D.m))) (q : K (.bool (decide (l = l'))) H) : W2 c n (compareOp .Eq) (.ref a) (.ref b) H K := by
  have sh : ∀ l : List α, SeqAt.shaped (.list (l.map D.p)) = true := fun l => by
    unfold SeqAt.shaped
    have := depthAll_map h.dep l
    rw [show PyData.canLay0 (.list (l.map D.p)) = PyData.canLayAll0 (l.map D.p) by simp only [PyData.canLay0], layAll_map h.lay, Bool.true_and]
    simp only [PyData.depth]; simp; first | lia | omega
  refine W2_eqD (.list ha (DRs_map (fun x => h.dr H x) l)) (.list hb (DRs_map (fun x => h.dr H x) l')) (sh l) (sh l') ?_
  rw [show PyData.eqv (.list (l.map D.p)) (.list (l'.map D.p)) = PyData.eqvAll (l.map D.p) (l'.map D.p) by simp only [PyData.eqv], eqvAll_map h.eq]
  exact q

noncomputable def spansStep (acc : List (Int × Int)) (v : Int) : List (Int × Int) := match acc.getLast? with
  | some p => if p.2 = v - 1 then acc.dropLast ++ [(p.1, v)] else acc ++ [(v, v)]
  | none => [(v, v)]
noncomputable def lawSpans (lot : List Int) : Dom := lot.foldl spansStep []
theorem spansStep_len {acc : List (Int × Int)} {v : Int} : (spansStep acc v).length ≤ acc.length + 1 := by
  unfold spansStep
  split
  · split
    · simp
    · simp
  · simp
theorem foldSpans_len : ∀ (lot : List Int) (acc : List (Int × Int)), (lot.foldl spansStep acc).length ≤ acc.length + lot.length
  | [], acc => by simp
  | v :: lot, acc => by
    have h1 := foldSpans_len lot (spansStep acc v)
    have h2 := @spansStep_len acc v
    simp only [List.foldl_cons, List.length_cons]; first | lia | omega
theorem getLast_at {α : Type} {l : List α} {p : α} (h : l.getLast? = some p) : l = l.dropLast ++ [p] := by
  obtain ⟨ys, rfl⟩ := List.getLast?_eq_some_iff.mp h
  simp

inductive SpI (lot : List Int) (F : Addr) (H : HV) (ds : List MV) (m : Loc) (H' : HV) : Prop
  | mk (l₁ l₂ : List Int) (acc : List (Int × Int)) (h0 : lot = l₁ ++ l₂) (h1 : ds = intsM l₂) (h2 : acc = lawSpans l₁) (h3 : H' = H.set F (.list (spansM acc))) (h4 : Mine.L "found" (.ref F) m)
theorem c_spans (z : Z c) {a : Addr} {lot : List Int} {K : MV → HV → Prop} (ha : H a = some (.list (intsM lot))) (hz : lot.length ≤ 100) (h : K (domM (lawSpans lot)) H) : WC c (n + 4) (.ref 353) [.ref a] H K := by
  refine WC_at z (names := ["lot"]) rfl rfl rfl rfl (by kernel_rfl) (one fun a => by rfl) rfl (by decide) (by rfl) (fun L hL bL => ?_)
  repeat walk_at "m"
  intro F hF bF
  repeat walk_at "m"
  have hfa : a ≠ F := by rintro rfl; rw [hF] at ha; cases ha
  refine WX_For (tg := fun _ => True) (WI_of (WE_local ⟨_, _, .list ((HV.set_ne hfa).trans ha), ?_⟩)) trivial
  refine WFor_ind (SpI lot F H) ?_ ?_ _ _ _ ⟨[], lot, [], rfl, rfl, rfl, rfl, rfl⟩
  · rintro m H' ⟨l₁, l₂, acc, e, e2, rfl, rfl, m1⟩
    have : l₂ = [] := by cases l₂ with | nil => rfl | cons _ _ => cases e2
    subst this
    rw [List.append_nil] at e
    subst e
    repeat walk_at "m"
    refine WE_CallT z Boot.«tuple» ?_
    repeat walk_at "m"
    refine WC.forget (WC_tuple_list HV.set_self (by rw [spansM_len]; have := foldSpans_len lot []; show (lot.foldl spansStep []).length ≤ 10000; simp at this; first | lia | omega) ⟨H, keep_set hF, ?_⟩)
    repeat walk_at "m"
    exact h
  · rintro d ds m H' ⟨l₁, l₂, acc, e, e2, rfl, rfl, m1⟩
    cases l₂ with
    | nil => cases e2
    | cons v l₂ =>
      cases e2
      have hlen : (lawSpans l₁).length ≤ 100 := by
        have := foldSpans_len l₁ []
        have e1 : lot.length = l₁.length + (l₂.length + 1) := by rw [e]; simp
        show (l₁.foldl spansStep []).length ≤ 100
        simp at this; first | lia | omega
      have hstep : lawSpans (l₁ ++ [v]) = spansStep (lawSpans l₁) v := by unfold lawSpans; rw [List.foldl_append]; rfl
      have e' : lot = (l₁ ++ [v]) ++ l₂ := by rw [e]; simp
      have nd : ∀ H'' : HV, H'' a = some (.list (intsM lot)) → H'' a = some (.list (intsM lot)) := fun _ h => h
      have ndF : ∀ o, (H.set F o) a = some (.list (intsM lot)) := fun o => (HV.set_ne hfa).trans ha
      repeat walk_at "m"
      intro b hb bb
      have hbF : F ≠ b := by rintro rfl; rw [HV.set_self] at hb; cases hb
      refine W2.forget (W2_neList (D := datP datI datI) (datP_ok datI_ok datI_ok) (by decide) (l := lawSpans l₁) (l' := []) ((HV.set_ne hbF).trans HV.set_self) HV.set_self ⟨H.set F (.list (spansM (lawSpans l₁))), keep_set hb, ?_⟩)
      repeat walk_at "m"
      -- the two ways on
      have put : ∀ (m : Loc), Mine.L "found" (.ref F) m → Mine.L "v" (.int v) m → spansStep (lawSpans l₁) v = lawSpans l₁ ++ [(v, v)] → True := fun _ _ _ _ => trivial
      refine ite_b (fun hne => ?_) (fun hne => ?_)
      · have hne : lawSpans l₁ ≠ [] := by simpa using hne
        obtain ⟨ys, p, hys⟩ : ∃ ys p, lawSpans l₁ = ys ++ [p] := ⟨_, _, (List.dropLast_concat_getLast hne).symm⟩
        obtain ⟨pa, pb⟩ := p
        have hgl : (lawSpans l₁).getLast? = some (pa, pb) := by rw [hys]; simp
        rw [hys] at hlen
        have hlen' : ys.length + 1 ≤ 100 := by simpa using hlen
        have hF0 : ∀ o, (H.set F o) F = some o := fun o => HV.set_self
        have hidx : (spansM (lawSpans l₁))[(-1 + ((spansM (lawSpans l₁)).length : Int)).toNat]? = some (spanM (pa, pb)) := by
          rw [hys, spansM_snoc, List.length_append, List.length_singleton, spansM_len]
          have : (-1 + ((ys.length + 1 : Nat) : Int)).toNat = ys.length := by first | lia | omega
          rw [this, ← spansM_len (l := ys)]
          simp
        have hlenM : (spansM (lawSpans l₁)).length = ys.length + 1 := by rw [spansM_len, hys]; simp
        repeat walk_at "m"
        refine W2_subLneg (d := spanM (pa, pb)) HV.set_self (by decide) (by first | lia | omega) hidx ?_ (by decide)
        repeat walk_at "m"
        refine W2_subT (j := 1) rfl rfl ?_ (by decide)
        repeat walk_at "m"
        refine ite_b (fun hq => ?_) (fun hq => ?_)
        · have hq : pb = v - 1 := by simpa using hq
          have hst : spansStep (lawSpans l₁) v = ys ++ [(pa, v)] := by unfold spansStep; rw [hgl]; simp only [hq, if_true]; rw [hys]; simp
          repeat walk_at "m"
          refine W2_subLneg (d := spanM (pa, pb)) HV.set_self (by decide) (by first | lia | omega) hidx ?_ (by decide)
          repeat walk_at "m"
          refine W2_subT (j := 0) rfl rfl ?_ (by decide)
          repeat walk_at "m"
          refine W3U_setLneg HV.set_self (by first | lia | omega) (by first | lia | omega) ?_
          rw [HV.set_set]
          have e3 : (spansM (lawSpans l₁)).set ((spansM (lawSpans l₁)).length - 1) (MV.tup [MV.int pa, MV.int v]) = spansM (lawSpans (l₁ ++ [v])) := by
            rw [hstep, hst, hlenM, hys, spansM_snoc, spansM_snoc, Nat.add_sub_cancel, ← spansM_len (l := ys)]
            simp [spanM]
          rw [e3]
          repeat walk_at "m"
          exact ⟨ndF _, l₁ ++ [v], l₂, _, e', rfl, rfl, rfl, m1⟩
        · have hq : ¬ pb = v - 1 := by simpa using hq
          have hst : spansStep (lawSpans l₁) v = lawSpans l₁ ++ [(v, v)] := by unfold spansStep; rw [hgl]; simp only [hq, if_false]
          repeat walk_at "m"
          refine WE_append ?_
          repeat walk_at "m"
          refine ⟨F, _, rfl, HV.set_self, ?_⟩
          repeat walk_at "m"
          refine ⟨_, HV.set_self, by first | lia | omega, ?_⟩
          rw [HV.set_set]
          have e3 : spansM (lawSpans l₁) ++ [MV.tup [MV.int v, MV.int v]] = spansM (lawSpans (l₁ ++ [v])) := by rw [hstep, hst, spansM_snoc]; rfl
          rw [e3]
          repeat walk_at "m"
          exact ⟨ndF _, l₁ ++ [v], l₂, _, e', rfl, rfl, rfl, m1⟩
      · have hne : lawSpans l₁ = [] := by simpa using hne
        have hst : spansStep (lawSpans l₁) v = lawSpans l₁ ++ [(v, v)] := by rw [hne]; rfl
        repeat walk_at "m"
        refine WE_append ?_
        repeat walk_at "m"
        refine ⟨F, _, rfl, HV.set_self, ?_⟩
        repeat walk_at "m"
        refine ⟨_, HV.set_self, by rw [spansM_len]; first | lia | omega, ?_⟩
        rw [HV.set_set]
        have e3 : spansM (lawSpans l₁) ++ [MV.tup [MV.int v, MV.int v]] = spansM (lawSpans (l₁ ++ [v])) := by rw [hstep, hst, spansM_snoc]; rfl
        rw [e3]
        repeat walk_at "m"
        exact ⟨ndF _, l₁ ++ [v], l₂, _, e', rfl, rfl, rfl, m1⟩
end
end
section
-- N8
section
variable {c : Cx} {n : Nat} {env : Env} {m : Loc} {H : HV}
theorem WI.mono {tg : Expr → Prop} {e : Expr} {K K' : List MV → (HV → Prop) → HV → Prop} (h : WI c n env tg e m H K) (k : ∀ ds need H', K ds need H' → K' ds need H') : WI c n env tg e m H K' :=
  fun A s R S => mono1 (h A s R S) (fun x s₁ h₁ => mono1 h₁ (fun it s₂ ⟨ds, fp, need, J, H₂, a1, a2, a3, a4, a5, a6, a7, q⟩ => ⟨ds, fp, need, J, H₂, a1, a2, a3, a4, a5, a6, a7, k _ _ _ q⟩))
theorem WCp2_ind {t1 : Expr} {ifs1 : List Expr} {tg2 : Expr → Prop} {t2 iter2 : Expr} {ifs2 : List Expr} {elt : Expr} {need : HV → Prop} {K : List MV → HV → Prop} (I : List MV → HV → List MV → Prop) (h0 : ∀ H acc, I [] H acc → K acc H)
    (hs : ∀ d ds H acc, I (d :: ds) H acc → WA c n env (tn 3 t1) t1 d m H fun m₂ H₂ => (∀ x d, m.lookup x = some d → m₂.lookup x = some d) ∧ WTs c n env ifs1 m₂ H₂ fun b H₃ =>
      if b then WI c n env tg2 iter2 m₂ H₃ fun ds2 need2 H₄ => WCp c n env t2 ifs2 elt need2 m₂ ds2 H₄ acc fun acc' H₅ => need H₅ ∧ I ds H₅ acc' else need H₃ ∧ I ds H₃ acc) :
    ∀ ds H acc, I ds H acc → WCp2 c n env t1 ifs1 tg2 t2 iter2 ifs2 elt need m ds H acc K
  | [], H, acc, h => h0 H acc h
  | d :: ds, H, acc, h => (hs d ds H acc h).mono fun m₂ H₂ q => ⟨q.1, q.2.mono fun b H₃ z => by
    cases b with
    | true => exact WI.mono z fun ds2 need2 H₄ w => w.mono fun acc' H₅ u => ⟨u.1, WCp2_ind I h0 hs ds H₅ acc' u.2⟩
    | false => exact ⟨z.1, WCp2_ind I h0 hs ds H₃ acc z.2⟩⟩

noncomputable def lotOf (l : Dom) : List Int := l.flatMap fun p => (List.range (p.2 + 1 - p.1).toNat).map fun (i : Nat) => p.1 + (i : Int)
theorem lotOf_snoc {l : Dom} {p : Int × Int} : intsM (lotOf (l ++ [p])) = intsM (lotOf l) ++ rngM p.1 (p.2 + 1 - p.1).toNat := by
  unfold lotOf intsM rngM
  simp [List.flatMap_append]
theorem lotOf_len_mono {l r : Dom} : (lotOf l).length ≤ (lotOf (l ++ r)).length := by
  unfold lotOf; rw [List.flatMap_append, List.length_append]; first | lia | omega

theorem c_lot (z : Z c) {A : Ad} {S : SS} {x : Int} {l : Dom} {K : MV → HV → Prop} (hS : HSt A S H) (hm : S.Small) (h0 : 0 ≤ x) (hx : S.doms[x.toNat]? = some l) (hl : ∀ p ∈ l, -1000 ≤ p.1 ∧ p.1 ≤ p.2 + 1 ∧ p.2 ≤ 1000) (hz : (lotOf l).length ≤ 10000)
    (h : ∀ a, H a = none → c.B.get? a = none → K (.ref a) (H.set a (.list (intsM (lotOf l))))) : WC c (n + 5) (.ref 358) [A.v, .int x] H K := by
  refine WC_at z (names := ["store_now", "x"]) rfl rfl rfl rfl (by kernel_rfl) (two fun a b => by rfl) rfl (by decide) (by rfl) (fun L hL bL => ?_)
  repeat walk_at "m"
  refine WE_Comp (tg := fun _ => True) (xs := ["first", "last", "v"]) (WI_of ?_) (by kernel_rfl)
  refine WE_Method ?_
  repeat walk_at "m"
  refine GM_instZ z (f := 129) hS.dx rfl (by kernel_rfl) ⟨z.kp, ?_⟩
  repeat walk_at "m"
  refine c_dom z hS hm h0 hx ⟨_, _, .tup, fun cells C => WGo2 (tg2 := fun _ => True) trivial trivial ?_⟩
  refine WCp2_ind (fun ds H' acc => ∃ l₁ l₂, l = l₁ ++ l₂ ∧ ds = spansM l₂ ∧ acc = intsM (lotOf l₁) ∧ H' = H) ?_ ?_ _ _ _ ⟨[], l, rfl, rfl, rfl, rfl⟩
  · rintro H' acc ⟨l₁, l₂, e, e2, rfl, rfl⟩ a ha hb
    have : l₂ = [] := by cases l₂ with | nil => rfl | cons _ _ => cases e2
    subst this
    rw [List.append_nil] at e
    subst e
    repeat walk_at "m"
    exact h a ha hb
  · rintro d ds H' acc ⟨l₁, l₂, e, e2, rfl, rfl⟩
    cases l₂ with
    | nil => cases e2
    | cons p l₂ =>
      obtain ⟨a, b⟩ := p
      cases e2
      obtain ⟨p1, p2, p3⟩ := hl (a, b) (by rw [e]; simp)
      dsimp only at p1 p2 p3
      have hk : b + 1 = a + (((b + 1 - a).toNat : Nat) : Int) := by first | lia | omega
      repeat walk_at "m"
      refine ⟨ext_cons (by rfl) (ext_cons (by rfl) ext_refl), ?_⟩
      repeat walk_at "m"
      refine WI_of (WE_CallT z Boot.«range» ?_)
      repeat walk_at "m"
      refine WC_range2 ⟨_, _, .rng hk (by first | lia | omega) (by first | lia | omega), ?_⟩
      refine WCp_ind (fun ds H₂ acc' => ∃ r₁ r₂, rngM a (b + 1 - a).toNat = r₁ ++ r₂ ∧ ds = r₂ ∧ acc' = intsM (lotOf l₁) ++ r₁ ∧ H₂ = H') ?_ ?_ _ _ _ ⟨[], _, rfl, rfl, by simp, rfl⟩
      · rintro H₂ acc' ⟨r₁, r₂, er, rfl, rfl, rfl⟩
        rw [List.append_nil] at er
        refine ⟨trivial, l₁ ++ [(a, b)], l₂, spans_split e, rfl, ?_, rfl⟩
        rw [lotOf_snoc, ← er]
      · rintro d ds H₂ acc' ⟨r₁, r₂, er, rfl, rfl, rfl⟩
        have hlen : (intsM (lotOf l₁) ++ r₁).length ≤ 10000 := by
          have h1 : (intsM (lotOf (l₁ ++ [(a, b)]))).length ≤ 10000 := by
            unfold intsM
            rw [List.length_map]
            have := @lotOf_len_mono (l₁ ++ [(a, b)]) l₂
            rw [← spans_split e] at this
            first | lia | omega
          rw [lotOf_snoc, er] at h1
          simp at h1 ⊢; first | lia | omega
        repeat walk_at "m"
        refine ⟨ext_cons (by rfl) ext_refl, ?_⟩
        repeat walk_at "m"
        exact ⟨hlen, trivial, r₁ ++ [d], ds, by rw [er]; simp, rfl, by simp, rfl⟩
end
end
section
-- N9
section
variable {c : Cx} {n : Nat} {env : Env} {m : Loc} {H : HV}
noncomputable abbrev handM (cA : Addr) (s t : Int) : List (Str × MV) := [("cells", .ref cA), ("spot", .int s), ("stir", .int t)]
theorem stored_spot {cA : Addr} {s t s' : Int} : storedM (handM cA s t) "spot" (.int s') = handM cA s' t := by rfl
theorem stored_stir {cA : Addr} {s t t' : Int} : storedM (handM cA s t) "stir" (.int t') = handM cA s t' := by rfl
structure Hand (hA cA : Addr) (cells : List Int) (s t : Int) (H : HV) : Prop where
  hand : H hA = some (.smap (handM cA s t))
  cells : H cA = some (.list (intsM cells))
  s0 : 0 ≤ s
  s1 : s ≤ 2 ^ 40

theorem c_pick (z : Z c) {hA cA : Addr} {cells : List Int} {s t many : Int} {K : MV → HV → Prop} (hh : Hand hA cA cells s t H) (hz : cells.length ≤ 1000) (hm : 0 < many) (hm2 : many < 2 ^ 29)
    (h : ∀ r t', 0 ≤ r → r < many → K (.int r) (H.set hA (.smap (handM cA (s + 1) t')))) : WC c (n + 3) (.ref 346) [.ref hA, .int many] H K := by
  have ne : cA ≠ hA := by rintro rfl; have := hh.hand; rw [hh.cells] at this; cases this
  have hmod : ∀ a : Int, 0 ≤ a.fmod many ∧ a.fmod many < many := fun a => ⟨Int.fmod_nonneg_of_pos a hm, Int.fmod_lt_of_pos a hm⟩
  have s0 := hh.s0
  have s1 := hh.s1
  refine WC_at z (names := ["hand", "many"]) rfl rfl rfl rfl (by kernel_rfl) (two fun a b => by rfl) rfl (by decide) (by rfl) (fun L hL bL => ?_)
  repeat walk_at "m"
  refine W2_subS hh.hand rfl ?_
  repeat walk_at "m"
  refine W3U_setS hh.hand (by show 3 ≤ 1000; first | lia | omega) ?_
  rw [stored_spot]
  have hc : (H.set hA (.smap (handM cA (s + 1) t))) cA = some (.list (intsM cells)) := (HV.set_ne ne).trans hh.cells
  repeat walk_at "m"
  refine W2_subS HV.set_self rfl ?_
  refine WE_CallB z Boot.«len» ?_
  repeat walk_at "m"
  refine W2_subS HV.set_self rfl ?_
  repeat walk_at "m"
  refine WC_len_list hc (by unfold intsM; rw [List.length_map]; first | lia | omega) ?_
  have hlen : ((intsM cells).length : Int) = cells.length := by unfold intsM; rw [List.length_map]
  rw [hlen]
  repeat walk_at "m"
  refine ite_dec (fun hle => ?_) (fun hle => ?_)
  · have hlt : s.toNat < cells.length := by first | lia | omega
    repeat walk_at "m"
    refine W2_subS HV.set_self rfl ?_
    repeat walk_at "m"
    refine W2_subS HV.set_self rfl ?_
    repeat walk_at "m"
    have e1 : (s + 1 - 1).toNat = s.toNat := by congr 1; first | lia | omega
    refine W2_subL (d := .int (cells[s.toNat])) hc (by first | lia | omega) (by unfold intsM; rw [e1, List.getElem?_map, List.getElem?_eq_getElem hlt]; rfl) ?_ (by first | lia | omega)
    repeat walk_at "m"
    refine W2_mod ?_ (by first | lia | omega)
    repeat walk_at "m"
    exact h _ t (hmod _).1 (hmod _).2
  · repeat walk_at "m"
    refine W2_subS HV.set_self rfl ?_
    repeat walk_at "m"
    refine W2_mul ?_ (by decide)
    repeat walk_at "m"
    refine W2_mod ?_ (by decide)
    repeat walk_at "m"
    refine W3U_setS HV.set_self (by show 3 ≤ 1000; first | lia | omega) ?_
    rw [stored_stir, HV.set_set]
    repeat walk_at "m"
    refine W2_subS HV.set_self rfl ?_
    repeat walk_at "m"
    refine W2_div ?_ (by decide) (by decide)
    repeat walk_at "m"
    refine W2_mod ?_ (by first | lia | omega)
    repeat walk_at "m"
    exact h _ _ (hmod _).1 (hmod _).2
end
end
section
-- N10
section
variable {c : Cx} {n : Nat} {env : Env} {m : Loc} {H : HV}
theorem WE_pop0 {o : Expr} {apos pos : Pos} {pl : Sem Bool} {K : MV → HV → Prop} (h : WE c n env o m H fun d H₁ => ∃ a ds v, d = .ref a ∧ H₁ a = some (.list (ds ++ [v])) ∧ ds.length ≤ 10000 ∧ K v (H₁.set a (.list ds)))
    (hst : (backTo pos (starEach [] env)).any (·.1) = false := by rfl)
    (he : eval (.Call (.Attribute o "pop" apos) [] [] pos) env = (do
      let ov ← eval o env
      standAt apos.atName
      let (f, first) ← holding [ov] (getMethod ov "pop" pl)
      callWith pos f first (backTo pos (starEach [] env)) []) := by rfl) : WE c n env (.Call (.Attribute o "pop" apos) [] [] pos) m H K := by
  refine WE_Method (pl := pl) (h.mono fun d H₁ q => ?_) hst he
  obtain ⟨a, ds, v, rfl, ha, hz, k⟩ := q
  exact GM_list ha PySem.F.slot_list_pop PySem.F.type_list_pop ⟨Kp.builtin, WEs_nil (WC_pop ha hz k)⟩

noncomputable def undo (tr : List Ent) (ds : List Dom) : List Dom := tr.foldr (fun e ds => ds.set e.1.toNat e.2.1) ds
theorem undo_len {tr : List Ent} {ds : List Dom} : (undo tr ds).length = ds.length := by
  unfold undo
  induction tr with
  | nil => rfl
  | cons e r ih => rw [List.foldr_cons, List.length_set, ih]
theorem undo_snoc {tr : List Ent} {e : Ent} {ds : List Dom} : undo (tr ++ [e]) ds = undo tr (ds.set e.1.toNat e.2.1) := by
  unfold undo; rw [List.foldr_append]; rfl

theorem any_empty {l : List Dom} : ((l.map datSp.p).any fun y => PyData.eqv y (.tuple [])) = l.contains [] := by
  induction l with
  | nil => rfl
  | cons a l ih =>
    rw [List.map_cons, List.any_cons, ih, List.contains_cons]
    have : PyData.eqv (datSp.p a) (datSp.p []) = decide (a = []) := datSp_ok.eq a []
    rw [show (PyData.tuple []) = datSp.p [] from rfl, this]
    congr 1
    cases a <;> simp

inductive PopI (A : Ad) (S : SS) (M : Addr) (H1 : HV) (k' : Nat) (m : Loc) (H' : HV) : Prop
  | mk (tr : List Ent) (ds : List Dom) (h0 : tr.length = k') (h1 : HSt { A with m := M } { S with marks := [], trail := tr, doms := ds } H') (h2 : Same { A with m := M } H1 H') (h3 : undo tr ds = undo S.trail S.doms) (h4 : (∀ e ∈ tr, 0 ≤ e.1 ∧ e.1.toNat < S.doms.length)) (h5 : ds.length = S.doms.length) (h6 : tr.length ≤ 1000) (h7 : Mine.L "self" A.v m) (h8 : Mine.L "mark" (.int 0) m)
theorem c_pop (z : Z c) {A : Ad} {S : SS} {K : MV → HV → Prop} (hS : HSt A S H) (hm : S.Small) (hmk : S.marks = [0]) (htr : ∀ e ∈ S.trail, 0 ≤ e.1 ∧ e.1.toNat < S.doms.length)
    (h : ∀ A' H', A'.x = A.x → A'.dx = A.dx → HSt A' { S with doms := undo S.trail S.doms, trail := [], marks := [], news := [], failed := S.firsts.contains [], clash := [] } H' →
      (∀ a o, a ∉ A.l → H a = some o → H' a = some o) → K .none H') : WC c (n + 4) (.ref 227) [A.v, .int 1] H K := by
  refine WC_at z (names := ["self", "n"]) rfl rfl rfl rfl (by kernel_rfl) (two fun a b => by rfl) rfl (by decide) (by rfl) (fun L hL bL => ?_)
  have nd := hS.nd
  simp only [Ad.l, List.nodup_cons, List.mem_cons, List.not_mem_nil, or_false, not_or] at nd
  obtain ⟨⟨n1, n2, n3, n4, n5⟩, ⟨n6, n7, n8, n9⟩, ⟨n10, n11, n12⟩, ⟨n13, n14⟩, n15, -⟩ := nd
  have hmM : H A.m = some (.list [.int 0]) := by have := hS.m; rw [hmk] at this; exact this
  repeat walk_at "m"
  refine ite_f ?_
  repeat walk_at "m"
  refine W1_attrZ z hS.dx rfl rfl ?_
  refine WE_BinOp ?_
  refine WE_CallB z Boot.«len» ?_
  repeat walk_at "m"
  refine W1_attrZ z hS.dx rfl rfl ?_
  repeat walk_at "m"
  refine WC_len_list hmM (by show 1 ≤ 10000; first | lia | omega) ?_
  repeat walk_at "m"
  refine W2_subL (d := .int 0) hmM (by decide) rfl ?_ (by decide)
  repeat walk_at "m"
  refine W1_attrZ z hS.dx rfl rfl ?_
  refine WE_BinOp ?_
  refine WE_CallB z Boot.«len» ?_
  repeat walk_at "m"
  refine W1_attrZ z hS.dx rfl rfl ?_
  repeat walk_at "m"
  refine WC_len_list hmM (by show 1 ≤ 10000; first | lia | omega) ?_
  repeat walk_at "m"
  refine ⟨_, _, LRef.view hmM, by show 1 ≤ 10000; first | lia | omega, rfl, by decide, fun M hM bM => ?_⟩
  have ff : ∀ {a o}, H a = some o → a ≠ M := fun {a o} e => by rintro rfl; rw [hM] at e; cases e
  repeat walk_at "m"
  refine W2U_attrZ z ((HV.set_ne (ff hS.dx)).trans hS.dx) (by show 8 ≤ 100; first | lia | omega) ?_
  -- the state with the marks exchanged
  have hS1 : HSt { A with m := M } { S with marks := [] } ((H.set M (.list (List.take (Int.toNat (((List.length [MV.int 0] : Nat) : Int) - 1)) [MV.int 0]))).set A.dx (.sdict (putKV "marks" (.ref M) (kvsOf A S)))) := by
    refine ⟨HV.set_self, ?_, ?_, ?_, ?_, ?_, ?_⟩
    · rw [HV.set_ne (Ne.symm n1), HV.set_ne (ff hS.d)]; exact hS.d
    · rw [HV.set_ne (Ne.symm n2), HV.set_ne (ff hS.f)]; exact hS.f
    · rw [HV.set_ne (Ne.symm n3), HV.set_ne (ff hS.t)]; exact hS.t
    · rw [HV.set_ne (Ne.symm (ff hS.dx)), HV.set_self]; rfl
    · rw [HV.set_ne (Ne.symm n5), HV.set_ne (ff hS.n)]; exact hS.n
    · simp only [Ad.l, List.nodup_cons, List.mem_cons, List.not_mem_nil, or_false, not_or]
      exact ⟨⟨n1, n2, n3, ff hS.dx, n5⟩, ⟨n6, n7, ff hS.d, n9⟩, ⟨n10, ff hS.f, n12⟩, ⟨ff hS.t, n14⟩, Ne.symm (ff hS.n), not_false, List.nodup_nil⟩
  have k1 : ∀ a o, a ∉ A.l → H a = some o → ((H.set M (.list (List.take (Int.toNat (((List.length [MV.int 0] : Nat) : Int) - 1)) [MV.int 0]))).set A.dx (.sdict (putKV "marks" (.ref M) (kvsOf A S)))) a = some o := fun a o ha e => by
    rw [HV.set_ne (by rintro rfl; exact ha (by simp [Ad.l])), HV.set_ne (ff e)]; exact e
  generalize hH1 : ((H.set M (.list (List.take (Int.toNat (((List.length [MV.int 0] : Nat) : Int) - 1)) [MV.int 0]))).set A.dx (.sdict (putKV "marks" (.ref M) (kvsOf A S)))) = H1 at hS1 k1
  repeat walk_at "m"
  refine WX_While (S.trail.length + 2) ?_
  refine WWh_ind (PopI A S M H1) ?_ _ S.trail.length _ _ (by first | lia | omega) ⟨S.trail, S.doms, rfl, hS1, .refl, rfl, htr, rfl, hm.t, rfl, rfl⟩
  rintro k' m H' ⟨tr, ds, rfl, hS2, hs2, hu, htr2, hdl, htl, m1, m2⟩
  repeat walk_at "m"
  refine WE_CallB z Boot.«len» ?_
  repeat walk_at "m"
  refine W1_attrZ z hS2.dx rfl rfl ?_
  repeat walk_at "m"
  refine WC_len_list hS2.t (by rw [List.length_map]; show tr.length ≤ 10000; first | lia | omega) ?_
  rw [List.length_map]
  repeat walk_at "m"
  refine ite_dec (fun hgt => ?_) (fun hgt => ?_)
  · have hne : tr ≠ [] := by rintro rfl; exact absurd hgt (by show ¬ ((0 : Int) < ((0 : Nat) : Int)); decide)
    obtain ⟨tr', e, rfl⟩ : ∃ tr' e, tr = tr' ++ [e] := ⟨_, _, (List.dropLast_concat_getLast hne).symm⟩
    obtain ⟨h0, hlt⟩ := htr2 e (by simp)
    have htl' : tr'.length + 1 ≤ 1000 := by simpa using htl
    repeat walk_at "m"
    refine WE_pop0 ?_
    repeat walk_at "m"
    refine W1_attrZ z hS2.dx rfl rfl ⟨_, tr'.map entM, entM e, rfl, by rw [hS2.t]; simp, by rw [List.length_map]; first | lia | omega, ?_⟩
    have hS3 := hS2.setT tr'
    repeat walk_at "m"
    refine W2_subT (j := 1) rfl rfl ?_ (by decide)
    repeat walk_at "m"
    refine W1_attrZ z hS3.dx rfl rfl ?_
    repeat walk_at "m"
    refine W2_subT (j := 0) rfl rfl ?_ (by decide)
    refine W3U_setL hS3.d h0 (by rw [List.length_map]; show e.1 < ((ds.length : Nat) : Int); first | lia | omega) ?_ (by have := hm.d; first | lia | omega)
    have e2 : (List.map domM ds).set e.1.toNat (domM e.2.1) = List.map domM (ds.set e.1.toNat e.2.1) := by rw [List.map_set]
    rw [e2]
    have hS4 := hS3.setD (ds.set e.1.toNat e.2.1)
    repeat walk_at "m"
    refine ⟨tr'.length, by simp, tr', ds.set e.1.toNat e.2.1, rfl, hS4, (hs2.set (by simp [Ad.l])).set (by simp [Ad.l]), by rw [← undo_snoc]; exact hu, fun x hx => htr2 x (by simp [hx]), by rw [List.length_set]; exact hdl, by first | lia | omega, m1, m2⟩
  · have hgt' : ¬ ((0 : Int) < ((tr.length : Nat) : Int)) := hgt
    have hnil : tr = [] := List.length_eq_zero_iff.mp (by first | lia | omega)
    subst hnil
    have hu' : ds = undo S.trail S.doms := hu
    subst hu'
    have nd2 := hS2.nd
    simp only [Ad.l, List.nodup_cons, List.mem_cons, List.not_mem_nil, or_false, not_or] at nd2
    obtain ⟨⟨p1, p2, p3, p4, p5⟩, ⟨p6, p7, p8, p9⟩, ⟨p10, p11, p12⟩, ⟨p13, p14⟩, p15, -⟩ := nd2
    repeat walk_at "m"
    refine WE_Dict0 fun N hN bN => ?_
    have gg : ∀ {a o}, H' a = some o → a ≠ N := fun {a o} e => by rintro rfl; rw [hN] at e; cases e
    repeat walk_at "m"
    refine W2U_attrZ z ((HV.set_ne (gg hS2.dx)).trans hS2.dx) (by show 8 ≤ 100; first | lia | omega) ?_
    have hff : ((H'.set N (.imap [])).set A.dx (.sdict (putKV "news" (.ref N) (kvsOf { A with m := M } { S with marks := [], trail := [], doms := undo S.trail S.doms })))) A.f = some (.list (S.firsts.map domM)) := by
      rw [HV.set_ne (Ne.symm p2), HV.set_ne (gg hS2.f)]; exact hS2.f
    repeat walk_at "m"
    refine W1_attrZ z HV.set_self rfl rfl ?_
    refine W2_inL (x := .tuple []) (xs := S.firsts.map datSp.p) hff (DRs_map (fun a => datSp_ok.dr _ a) S.firsts) (.tup .nil) (layAll_map datSp_ok.lay _) (by simp only [PyData.canLay0, PyData.canLayAll0]) (by simp [PyData.depth, PyData.depthAll]) ?_
    rw [any_empty]
    repeat walk_at "m"
    refine W2U_attrZ z HV.set_self (by show 8 ≤ 100; first | lia | omega) ?_
    rw [HV.set_set]
    repeat walk_at "m"
    refine W2U_attrZ z HV.set_self (by show 8 ≤ 100; first | lia | omega) ?_
    rw [HV.set_set]
    repeat walk_at "m"
    refine h { A with m := M, n := N } _ rfl rfl ⟨HV.set_self, ?_, ?_, ?_, ?_, ?_, ?_⟩ fun a o ha e => ?_
    · rw [HV.set_ne (Ne.symm p1), HV.set_ne (gg hS2.d)]; exact hS2.d
    · rw [HV.set_ne (Ne.symm p2), HV.set_ne (gg hS2.f)]; exact hS2.f
    · rw [HV.set_ne (Ne.symm p3), HV.set_ne (gg hS2.t)]; exact hS2.t
    · rw [HV.set_ne (Ne.symm p4), HV.set_ne (gg hS2.m)]; exact hS2.m
    · rw [HV.set_ne (Ne.symm (gg hS2.dx)), HV.set_self]
    · simp only [Ad.l, List.nodup_cons, List.mem_cons, List.not_mem_nil, or_false, not_or]
      exact ⟨⟨p1, p2, p3, p4, gg hS2.dx⟩, ⟨p6, p7, p8, gg hS2.d⟩, ⟨p10, p11, gg hS2.f⟩, ⟨p13, gg hS2.t⟩, gg hS2.m, not_false, List.nodup_nil⟩
    · have hM' : a ≠ M := ff e
      have h1 := k1 a o ha e
      have ha' : a ∉ Ad.l { A with m := M } := by
        simp only [Ad.l, List.mem_cons, List.not_mem_nil, or_false, not_or] at ha ⊢
        exact ⟨ha.1, ha.2.1, ha.2.2.1, ha.2.2.2.1, hM', ha.2.2.2.2.2⟩
      have h2 : H' a = some o := (hs2 a ha').trans h1
      rw [HV.set_ne (by rintro rfl; exact ha (by simp [Ad.l])), HV.set_ne (gg h2)]
      exact h2
end
end
section
-- N11
inductive F2 {α β : Type} (R : α → β → Prop) : List α → List β → Prop
  | nil : F2 R [] []
  | cons {a b l r} : R a b → F2 R l r → F2 R (a :: l) (b :: r)
section
variable {α β : Type} {R R' : α → β → Prop} {l : List α} {r : List β}
theorem F2.length (h : F2 R l r) : l.length = r.length := by
  induction h with
  | nil => rfl
  | cons _ _ ih => simp [ih]
theorem F2.mono (h : F2 R l r) (k : ∀ a b, R a b → R' a b) : F2 R' l r := by
  induction h with
  | nil => exact .nil
  | cons a _ ih => exact .cons (k _ _ a) ih
theorem F2.get (h : F2 R l r) : ∀ {i : Nat} {b : β}, r[i]? = some b → ∃ a, l[i]? = some a ∧ R a b := by
  induction h with
  | nil => intro i b e; simp at e
  | cons a _ ih =>
    intro i b e
    cases i with
    | zero => simp at e; subst e; exact ⟨_, rfl, a⟩
    | succ i => simp at e; obtain ⟨x, e1, e2⟩ := ih e; exact ⟨x, by simpa using e1, e2⟩
theorem F2.set (h : F2 R l r) (i : Nat) {a : α} {b : β} (k : R a b) : F2 R (l.set i a) (r.set i b) := by
  induction h generalizing i with
  | nil => exact .nil
  | cons x y ih =>
    cases i with
    | zero => exact .cons k y
    | succ i => exact .cons x (ih i)
theorem F2.append {l' : List α} {r' : List β} (h : F2 R l r) (k : F2 R l' r') : F2 R (l ++ l') (r ++ r') := by
  induction h with
  | nil => exact k
  | cons a _ ih => exact .cons a ih
end

section
variable {c : Cx} {n : Nat} {env : Env} {m : Loc} {H : HV}
noncomputable def RL1 (Q : Addr → Prop) (H : HV) (d : MV) (l : List Int) : Prop := ∃ a, d = .ref a ∧ Q a ∧ H a = some (.list (intsM l))
noncomputable def RLn {α : Type} (Q : Addr → Prop) (H : HV) (R : MV → α → Prop) (d : MV) (l : List α) : Prop := ∃ a ds, d = .ref a ∧ Q a ∧ H a = some (.list ds) ∧ F2 R ds l
noncomputable abbrev RL2 (Q : Addr → Prop) (H : HV) : MV → List (List Int) → Prop := RLn Q H (RL1 Q H)
noncomputable abbrev RL3 (Q : Addr → Prop) (H : HV) : MV → List (List (List Int)) → Prop := RLn Q H (RL2 Q H)
noncomputable def Keep (Q : Addr → Prop) (H H' : HV) : Prop := ∀ a o, Q a → H a = some o → H' a = some o
theorem RL1.mono {Q Q' : Addr → Prop} {H H' : HV} {d : MV} {l : List Int} (h : RL1 Q H d l) (k : Keep Q H H') (q : ∀ a, Q a → H a ≠ none → Q' a) : RL1 Q' H' d l :=
  let ⟨a, e, w, z⟩ := h; ⟨a, e, q a w (by rw [z]; simp), k a _ w z⟩
theorem RLn.mono {α : Type} {Q Q' : Addr → Prop} {H H' : HV} {R R' : MV → α → Prop} {d : MV} {l : List α} (h : RLn Q H R d l) (k : Keep Q H H') (q : ∀ a, Q a → H a ≠ none → Q' a) (r : ∀ d x, R d x → R' d x) : RLn Q' H' R' d l :=
  let ⟨a, ds, e, w, z, f⟩ := h; ⟨a, ds, e, q a w (by rw [z]; simp), k a _ w z, f.mono r⟩
theorem RL2.mono {Q Q' : Addr → Prop} {H H' : HV} {d : MV} {l : List (List Int)} (h : RL2 Q H d l) (k : Keep Q H H') (q : ∀ a, Q a → H a ≠ none → Q' a) : RL2 Q' H' d l := RLn.mono h k q fun _ _ r => r.mono k q
theorem RL3.mono {Q Q' : Addr → Prop} {H H' : HV} {d : MV} {l : List (List (List Int))} (h : RL3 Q H d l) (k : Keep Q H H') (q : ∀ a, Q a → H a ≠ none → Q' a) : RL3 Q' H' d l := RLn.mono h k q fun _ _ r => RL2.mono r k q
theorem keep_of {Q : Addr → Prop} {H H' : HV} (h : ∀ a o, H a = some o → H' a = some o) : Keep Q H H' := fun a o _ e => h a o e

theorem WCp_cons {t : Expr} {ifs : List Expr} {elt : Expr} {need : HV → Prop} {K : List MV → HV → Prop} {d : MV} {ds acc : List MV} (h : WA c n env (tn 3 t) t d m H fun m₂ H₂ => (∀ x d, m.lookup x = some d → m₂.lookup x = some d) ∧ WTs c n env ifs m₂ H₂ fun b H₃ =>
      if b then WE c n env elt m₂ H₃ fun e H₄ => acc.length ≤ 10000 ∧ need H₄ ∧ WCp c n env t ifs elt need m ds H₄ (acc ++ [e]) K
      else need H₃ ∧ WCp c n env t ifs elt need m ds H₃ acc K) : WCp c n env t ifs elt need m (d :: ds) H acc K := h
theorem WCp_nil {t : Expr} {ifs : List Expr} {elt : Expr} {need : HV → Prop} {K : List MV → HV → Prop} {acc : List MV} (h : K acc H) : WCp c n env t ifs elt need m [] H acc K := h

noncomputable abbrev Lots := List (List Int)
noncomputable def lawJ (i x : Int) (back : Lots) : Nat → List Int → List Int → List Ent → List Int × List Ent × Option (List Lit)
  | _, [], lot, deeds => (lot, deeds, none)
  | j, y :: ys, lot, deeds =>
    if lot.contains ((j : Int) + 1) = true ∧ (back.getD j []).contains (i + 1) = false then
      (if lot = [(j : Int) + 1] then (lot, deeds, some [(y, false, i + 1), (x, true, (j : Int) + 1)])
       else lawJ i x back (j + 1) ys (lot.filter fun v => v != (j : Int) + 1) (deeds ++ [(x, lawSpans lot, (x, false, (j : Int) + 1), [(y, false, i + 1)])]))
    else lawJ i x back (j + 1) ys lot deeds
structure TR where
  row : Lots
  back : Lots
  deeds : List Ent
  clash : Option (List Lit)
noncomputable def lawI (ysAll : List Int) : Nat → List Int → Lots → Lots → List Ent → TR
  | _, [], row, back, deeds => ⟨row, back, deeds, none⟩
  | i, x :: xs, row, back, deeds =>
    let r := lawJ i x back 0 ysAll (row.getD i []) deeds
    match r.2.2 with
    | some cl => ⟨row.set i r.1, back, r.2.1, some cl⟩
    | none =>
      if r.1.length = 1 then
        (let v := r.1.headD 0
         if back.getD (v - 1).toNat [] ≠ [(i : Int) + 1] then
           lawI ysAll (i + 1) xs (row.set i r.1) (back.set (v - 1).toNat [(i : Int) + 1]) (r.2.1 ++ [(ysAll.getD (v - 1).toNat 0, lawSpans (back.getD (v - 1).toNat []), (ysAll.getD (v - 1).toNat 0, true, (i : Int) + 1), [(x, true, v)])])
         else lawI ysAll (i + 1) xs (row.set i r.1) back r.2.1)
      else lawI ysAll (i + 1) xs (row.set i r.1) back r.2.1
noncomputable def clashM : Option (List Lit) → MV
  | none => .none
  | some cl => .tup (cl.map litM)

/-- where a turning's own things lie -/
structure TA where
  R : Addr
  q : Addr
  b : Addr
  D : Addr
noncomputable def TA.l (T : TA) : List Addr := [T.R, T.q, T.b, T.D]
structure TSt (Q0 : Addr → Prop) (T : TA) (H0 : HV) (rs : List MV) (row back : Lots) (deeds : List Ent) (H : HV) : Prop where
  r : H T.R = some (.list rs)
  q : ∃ ds, H T.q = some (.list ds) ∧ F2 (RL1 (fun a => Q0 a ∧ a ∉ T.l) H) ds row
  b : ∃ ds, H T.b = some (.list ds) ∧ F2 (RL1 (fun a => Q0 a ∧ a ∉ T.l) H) ds back
  d : H T.D = some (.list (deeds.map entM))
  e : ∀ a o, H0 a = some o → H a = some o
theorem TSt.ext {Q0 : Addr → Prop} {T : TA} {H0 H H' : HV} {rs : List MV} {row back : Lots} {deeds : List Ent} (h : TSt Q0 T H0 rs row back deeds H) (k : ∀ a o, H a = some o → H' a = some o) : TSt Q0 T H0 rs row back deeds H' := by
  obtain ⟨ds, q1, q2⟩ := h.q
  obtain ⟨es, b1, b2⟩ := h.b
  exact ⟨k _ _ h.r, ⟨ds, k _ _ q1, q2.mono fun _ _ r => r.mono (keep_of k) fun _ w _ => w⟩, ⟨es, k _ _ b1, b2.mono fun _ _ r => r.mono (keep_of k) fun _ w _ => w⟩, k _ _ h.d, fun a o e => k _ _ (h.e a o e)⟩
theorem TSt.setDeeds {Q0 : Addr → Prop} {T : TA} {H0 H : HV} {rs : List MV} {row back : Lots} {deeds : List Ent} (h : TSt Q0 T H0 rs row back deeds H) (nd : T.l.Nodup) (new : H0 T.D = none) (ds' : List Ent) : TSt Q0 T H0 rs row back ds' (H.set T.D (.list (ds'.map entM))) := by
  simp only [TA.l, List.nodup_cons, List.mem_cons, List.not_mem_nil, or_false, not_or] at nd
  obtain ⟨⟨n1, n2, n3⟩, ⟨n4, n5⟩, n6, -⟩ := nd
  have kp : Keep (fun a => Q0 a ∧ a ∉ T.l) H (H.set T.D (.list (ds'.map entM))) := fun a o w e => by rw [HV.set_ne (by rintro rfl; exact w.2 (by simp [TA.l]))]; exact e
  obtain ⟨ds, q1, q2⟩ := h.q
  obtain ⟨es, b1, b2⟩ := h.b
  exact ⟨by rw [HV.set_ne n3]; exact h.r, ⟨ds, by rw [HV.set_ne n5]; exact q1, q2.mono fun _ _ r => r.mono kp fun _ w _ => w⟩, ⟨es, by rw [HV.set_ne n6]; exact b1, b2.mono fun _ _ r => r.mono kp fun _ w _ => w⟩, HV.set_self, fun a o e => by rw [HV.set_ne (by rintro rfl; rw [new] at e; cases e)]; exact h.e a o e⟩
/-- a lot of the row is exchanged for a new list -/
theorem TSt.setRow {Q0 : Addr → Prop} {T : TA} {H0 H : HV} {rs : List MV} {row back : Lots} {deeds : List Ent} (h : TSt Q0 T H0 rs row back deeds H) (nd : T.l.Nodup) (new : H0 T.q = none) {ds : List MV} (hq : H T.q = some (.list ds)) {a : Addr} {l : List Int} (hQ : Q0 a) (ha : a ∉ T.l) (hl : H a = some (.list (intsM l))) (i : Nat) :
    TSt Q0 T H0 rs (row.set i l) back deeds (H.set T.q (.list (ds.set i (.ref a)))) := by
  simp only [TA.l, List.nodup_cons, List.mem_cons, List.not_mem_nil, or_false, not_or] at nd
  obtain ⟨⟨n1, n2, n3⟩, ⟨n4, n5⟩, n6, -⟩ := nd
  have kp : Keep (fun a => Q0 a ∧ a ∉ T.l) H (H.set T.q (.list (ds.set i (.ref a)))) := fun a o w e => by rw [HV.set_ne (by rintro rfl; exact w.2 (by simp [TA.l]))]; exact e
  obtain ⟨ds', q1, q2⟩ := h.q
  rw [hq] at q1; cases q1
  obtain ⟨es, b1, b2⟩ := h.b
  refine ⟨by rw [HV.set_ne n1]; exact h.r, ⟨_, HV.set_self, (q2.mono fun _ _ r => r.mono kp fun _ w _ => w).set i ⟨a, rfl, ⟨hQ, ha⟩, kp a _ ⟨hQ, ha⟩ hl⟩⟩, ⟨es, by rw [HV.set_ne (Ne.symm n4)]; exact b1, b2.mono fun _ _ r => r.mono kp fun _ w _ => w⟩, by rw [HV.set_ne (Ne.symm n5)]; exact h.d, fun a o e => by rw [HV.set_ne (by rintro rfl; rw [new] at e; cases e)]; exact h.e a o e⟩
theorem TSt.setBack {Q0 : Addr → Prop} {T : TA} {H0 H : HV} {rs : List MV} {row back : Lots} {deeds : List Ent} (h : TSt Q0 T H0 rs row back deeds H) (nd : T.l.Nodup) (new : H0 T.b = none) {ds : List MV} (hq : H T.b = some (.list ds)) {a : Addr} {l : List Int} (hQ : Q0 a) (ha : a ∉ T.l) (hl : H a = some (.list (intsM l))) (i : Nat) :
    TSt Q0 T H0 rs row (back.set i l) deeds (H.set T.b (.list (ds.set i (.ref a)))) := by
  simp only [TA.l, List.nodup_cons, List.mem_cons, List.not_mem_nil, or_false, not_or] at nd
  obtain ⟨⟨n1, n2, n3⟩, ⟨n4, n5⟩, n6, -⟩ := nd
  have kp : Keep (fun a => Q0 a ∧ a ∉ T.l) H (H.set T.b (.list (ds.set i (.ref a)))) := fun a o w e => by rw [HV.set_ne (by rintro rfl; exact w.2 (by simp [TA.l]))]; exact e
  obtain ⟨es, b1, b2⟩ := h.q
  obtain ⟨ds', q1, q2⟩ := h.b
  rw [hq] at q1; cases q1
  refine ⟨by rw [HV.set_ne n2]; exact h.r, ⟨es, by rw [HV.set_ne n4]; exact b1, b2.mono fun _ _ r => r.mono kp fun _ w _ => w⟩, ⟨_, HV.set_self, (q2.mono fun _ _ r => r.mono kp fun _ w _ => w).set i ⟨a, rfl, ⟨hQ, ha⟩, kp a _ ⟨hQ, ha⟩ hl⟩⟩, by rw [HV.set_ne (Ne.symm n6)]; exact h.d, fun a o e => by rw [HV.set_ne (by rintro rfl; rw [new] at e; cases e)]; exact h.e a o e⟩
end
end
section
-- N12
section
variable {c : Cx} {n : Nat} {env : Env} {m : Loc} {H : HV}
noncomputable def atI : Bool → Int
  | false => 0
  | true => 1
noncomputable def sel {α : Type} (b : Bool) (x y : α) : α := if b then y else x
theorem sel_get {α : Type} {b : Bool} {x y : α} : [x, y][(atI b).toNat]? = some (sel b x y) := by cases b <;> rfl
theorem sel_get' {α : Type} {b : Bool} {x y : α} : [x, y][(1 - atI b).toNat]? = some (sel b y x) := by cases b <;> rfl
theorem at_nn {b : Bool} : 0 ≤ atI b ∧ 0 ≤ 1 - atI b ∧ atI b < 2 ^ 62 ∧ 1 - atI b < 2 ^ 62 := by cases b <;> decide

noncomputable def LotOk (nb : Nat) (lot : List Int) : Prop := lot.length ≤ 100 ∧ ∀ v ∈ lot, 1 ≤ v ∧ v ≤ nb

theorem set_none {H : HV} {a b : Addr} {o : MObj} (h : (H.set a o) b = none) : b ≠ a ∧ H b = none := by
  by_cases q : b = a
  · subst q; rw [HV.set_self] at h; cases h
  · exact ⟨q, by rw [HV.set_ne q] at h; exact h⟩
theorem capM_none {scope : Scope} {m : Loc} {y : Str} (h : (scope.names.lookup y == some NameKind.free) = false) : (capM scope m).lookup y = none := by
  cases q : (capM scope m).lookup y with
  | none => rfl
  | some d => rw [(capM_lookup q).1] at h; simp at h
theorem lot_at {Q : Addr → Prop} {H : HV} {ds : List MV} {row : Lots} {i : Nat} {lot : List Int} (f : F2 (RL1 Q H) ds row) (h : row[i]? = some lot) : ∃ a, ds[i]? = some (.ref a) ∧ Q a ∧ H a = some (.list (intsM lot)) := by
  obtain ⟨d, e, a, rfl, q, z⟩ := f.get h
  exact ⟨a, e, q, z⟩
theorem TSt.live {Q0 : Addr → Prop} {T : TA} {H0 H : HV} {rs : List MV} {row back : Lots} {deeds : List Ent} (h : TSt Q0 T H0 rs row back deeds H) {a : Addr} (e : H a = none) : a ∉ T.l := by
  obtain ⟨ds, q1, _⟩ := h.q
  obtain ⟨es, b1, _⟩ := h.b
  have d1 := h.d
  have r1 := h.r
  intro hm
  simp only [TA.l, List.mem_cons, List.not_mem_nil, or_false] at hm
  rcases hm with rfl | rfl | rfl | rfl
  · rw [e] at r1; cases r1
  · rw [e] at q1; cases q1
  · rw [e] at b1; cases b1
  · rw [e] at d1; cases d1
theorem TSt.old {Q0 : Addr → Prop} {T : TA} {H0 H : HV} {rs : List MV} {row back : Lots} {deeds : List Ent} (h : TSt Q0 T H0 rs row back deeds H) {a : Addr} (e : H a = none) : H0 a = none := by
  cases q : H0 a with
  | none => rfl
  | some o => rw [h.e a o q] at e; cases e

theorem TSt.fin {Q0 : Addr → Prop} {T : TA} {H0 H : HV} {row back : Lots} {deeds : List Ent} {at' : Bool} {N p0 p1 D : Addr} (h : TSt Q0 T H0 [.ref p0, .ref p1] row back deeds H) (hT : T = ⟨N, sel at' p0 p1, sel at' p1 p0, D⟩) (hN : Q0 N) (h0 : Q0 p0) (h1 : Q0 p1) :
    RL3 Q0 H (.ref T.R) (sel at' [row, back] [back, row]) := by
  obtain ⟨ds, q1, q2⟩ := h.q
  obtain ⟨es, b1, b2⟩ := h.b
  have q2' := q2.mono (R' := RL1 Q0 H) fun _ _ r => r.mono (keep_of fun _ _ e => e) fun _ w _ => w.1
  have b2' := b2.mono (R' := RL1 Q0 H) fun _ _ r => r.mono (keep_of fun _ _ e => e) fun _ w _ => w.1
  have r1 := h.r
  subst hT
  refine ⟨N, _, rfl, hN, r1, ?_⟩
  cases at'
  · exact .cons ⟨p0, ds, rfl, h0, q1, q2'⟩ (.cons ⟨p1, es, rfl, h1, b1, b2'⟩ .nil)
  · exact .cons ⟨p0, es, rfl, h0, b1, b2'⟩ (.cons ⟨p1, ds, rfl, h1, q1, q2'⟩ .nil)

inductive InvI (Q0 : Addr → Prop) (T : TA) (H : HV) (rs : List MV) (Y : List Int) (res : TR) (at' : Bool) (s0 s1 : List Int) (ds : List MV) (m : Loc) (H' : HV) : Prop
  | mk (i : Nat) (xs : List Int) (row back : Lots) (deeds : List Ent) (e : ds = enumAt i (intsM xs)) (S : TSt Q0 T H rs row back deeds H') (hl : lawI Y i xs row back deeds = res) (c1 : i + xs.length = row.length) (c2 : back.length = Y.length) (c3 : ∀ lot ∈ row, LotOk Y.length lot) (c4 : ∀ lot ∈ back, lot.length ≤ 100) (c5 : deeds.length ≤ 20 * i) (c6 : row.length ≤ 10)
    (m1 : Mine.L "rows" (.ref T.R) m) (m2 : Mine.L "deeds" (.ref T.D) m) (m3 : Mine.L "row" (.ref T.q) m) (m4 : Mine.L "back" (.ref T.b) m) (m5 : Mine.L "at" (.int (atI at')) m) (m6 : Mine.L "scopes" (.tup [.tup (intsM s0), .tup (intsM s1)]) m)
inductive InvJ (Q0 : Addr → Prop) (T : TA) (H : HV) (rs : List MV) (Y : List Int) (J : List Int × List Ent × Option (List Lit)) (at' : Bool) (s0 s1 : List Int) (i : Nat) (x : Int) (row back : Lots) (ds : List MV) (m : Loc) (H' : HV) : Prop
  | mk (j : Nat) (ys : List Int) (lot : List Int) (deeds' : List Ent) (e : ds = enumAt j (intsM ys)) (S : TSt Q0 T H rs (row.set i lot) back deeds' H') (hj : lawJ (i : Int) x back j ys lot deeds' = J) (c7 : j + ys.length = Y.length) (c8 : LotOk Y.length lot) (c9 : deeds'.length ≤ 20 * i + j)
    (m1 : Mine.L "rows" (.ref T.R) m) (m2 : Mine.L "deeds" (.ref T.D) m) (m3 : Mine.L "row" (.ref T.q) m) (m4 : Mine.L "back" (.ref T.b) m) (m5 : Mine.L "at" (.int (atI at')) m) (m6 : Mine.L "scopes" (.tup [.tup (intsM s0), .tup (intsM s1)]) m) (m7 : Mine.L "i" (.int (i : Int)) m) (m8 : Mine.L "x" (.int x) m)
inductive InvF (lot : List Int) (j : Nat) (H₃ : HV) (ds : List MV) (H' : HV) (acc : List MV) : Prop
  | mk (l₁ l₂ : List Int) (e : lot = l₁ ++ l₂) (e2 : ds = intsM l₂) (e3 : acc = intsM (l₁.filter fun v => v != (j : Int) + 1)) (e4 : H' = H₃)

theorem c_turned (z : Z c) {Q0 : Addr → Prop} {at' : Bool} {r0 r1 : Lots} {s0 s1 : List Int} {d : MV} {res : TR} {K : MV → HV → Prop} (hrows : RL3 Q0 H d [r0, r1]) (hfresh : ∀ a, H a = none → Q0 a)
    (l0 : r0.length = s0.length) (l1 : r1.length = s1.length) (b0 : s0.length ≤ 10) (b1 : s1.length ≤ 10)
    (ok : ∀ lot ∈ sel at' r0 r1, LotOk (sel at' s1 s0).length lot) (ok' : ∀ lot ∈ sel at' r1 r0, lot.length ≤ 100)
    (hres : lawI (sel at' s1 s0) 0 (sel at' s0 s1) (sel at' r0 r1) (sel at' r1 r0) [] = res)
    (h : ∀ (R D : Addr) H', RL3 Q0 H' (.ref R) (sel at' [res.row, res.back] [res.back, res.row]) → Q0 D → H' D = some (.list (res.deeds.map entM)) → (∀ a o, H a = some o → H' a = some o) →
      K (.tup [.ref R, .ref D, clashM res.clash]) H') :
    WC c (n + 9) (.ref 363) [d, .int (atI at'), .tup [.tup (intsM s0), .tup (intsM s1)]] H K := by
  refine WC_at z (names := ["rows", "at", "scopes"]) rfl rfl rfl rfl (by kernel_rfl) (three fun a b d => by rfl) rfl (by decide) (by rfl) (fun L hL bL => ?_)
  obtain ⟨R, rs, rfl, hRQ, hR, hF⟩ := hrows
  cases hF with
  | @cons d0 _ rs' _ hr0 hF =>
  cases hF with
  | @cons d1 _ rs'' _ hr1 hF =>
  cases hF
  obtain ⟨a0, as0, rfl, q0, ha0, f0⟩ := hr0
  obtain ⟨a1, as1, rfl, q1, ha1, f1⟩ := hr1
  have z0 := f0.length
  have z1 := f1.length
  obtain ⟨t1, t2, t3, t4⟩ := @at_nn at'
  walk_at "m"
  refine WX_Swap (names := ["rows", "deeds"]) ?_
  walk_at "m"
  refine WEs_cons (WE_Comp (tg := fun _ => True) (xs := ["row"]) (WI_of (WE_local ⟨_, _, .list hR, fun cells C => WGo1 trivial ?_⟩)) (by kernel_rfl))
  refine WCp_cons ?_
  repeat walk_at "m"
  refine ⟨ext_cons (by rfl) ext_refl, ?_⟩
  repeat walk_at "m"
  refine WE_CallT z Boot.«list» ?_
  repeat walk_at "m"
  refine WC_list_list ha0 (by first | lia | omega) fun p0 hp0 bp0 => ?_
  repeat walk_at "m"
  have hR1 : (H.set p0 (.list as0)) R = some (.list [.ref a0, .ref a1]) := keep_set hp0 _ _ hR
  refine ⟨by show 0 ≤ 10000; first | lia | omega, hR1, WCp_cons ?_⟩
  repeat walk_at "m"
  refine ⟨ext_cons (by rfl) ext_refl, ?_⟩
  repeat walk_at "m"
  refine WE_CallT z Boot.«list» ?_
  repeat walk_at "m"
  refine WC_list_list (keep_set hp0 _ _ ha1) (by first | lia | omega) fun p1 hp1 bp1 => ?_
  repeat walk_at "m"
  refine ⟨by show 1 ≤ 10000; first | lia | omega, keep_set hp1 _ _ hR1, WCp_nil fun N hN bN => ?_⟩
  repeat walk_at "m"
  intro D hD bD
  repeat walk_at "m"
  refine ⟨_, rfl, rfl, ?_⟩
  -- what stands now
  have e1 : ∀ a o, H a = some o → ((((H.set p0 (.list as0)).set p1 (.list as1)).set N (.list [.ref p0, .ref p1])).set D (.list [])) a = some o := fun a o e =>
    keep_set hD _ _ (keep_set hN _ _ (keep_set hp1 _ _ (keep_set hp0 _ _ e)))
  have n01 : p1 ≠ p0 := by rintro rfl; rw [HV.set_self] at hp1; cases hp1
  have n0N : N ≠ p0 := by rintro rfl; rw [HV.set_ne (Ne.symm n01), HV.set_self] at hN; cases hN
  have n1N : N ≠ p1 := by rintro rfl; rw [HV.set_self] at hN; cases hN
  have n0D : D ≠ p0 := by rintro rfl; rw [HV.set_ne (Ne.symm n0N), HV.set_ne (Ne.symm n01), HV.set_self] at hD; cases hD
  have n1D : D ≠ p1 := by rintro rfl; rw [HV.set_ne (Ne.symm n1N), HV.set_self] at hD; cases hD
  have nND : D ≠ N := by rintro rfl; rw [HV.set_self] at hD; cases hD
  have g1 : H p1 = none := (set_none hp1).2
  have gN : H N = none := (set_none (set_none hN).2).2
  have gD : H D = none := (set_none (set_none (set_none hD).2).2).2
  have x0 : ((((H.set p0 (.list as0)).set p1 (.list as1)).set N (.list [.ref p0, .ref p1])).set D (.list [])) p0 = some (.list as0) := by
    rw [HV.set_ne (Ne.symm n0D), HV.set_ne (Ne.symm n0N), HV.set_ne (Ne.symm n01), HV.set_self]
  have x1 : ((((H.set p0 (.list as0)).set p1 (.list as1)).set N (.list [.ref p0, .ref p1])).set D (.list [])) p1 = some (.list as1) := by
    rw [HV.set_ne (Ne.symm n1D), HV.set_ne (Ne.symm n1N), HV.set_self]
  have xN : ((((H.set p0 (.list as0)).set p1 (.list as1)).set N (.list [.ref p0, .ref p1])).set D (.list [])) N = some (.list [.ref p0, .ref p1]) := by
    rw [HV.set_ne (Ne.symm nND), HV.set_self]
  obtain ⟨T, hT⟩ : ∃ T : TA, T = ⟨N, sel at' p0 p1, sel at' p1 p0, D⟩ := ⟨_, rfl⟩
  have hTl : ∀ a, H a ≠ none → a ∉ T.l := fun a ha hm => by
    subst hT
    simp only [TA.l, List.mem_cons, List.not_mem_nil, or_false] at hm
    rcases hm with rfl | rfl | rfl | rfl
    · exact ha gN
    · cases at' <;> first | exact ha hp0 | exact ha g1
    · cases at' <;> first | exact ha hp0 | exact ha g1
    · exact ha gD
  have hnd : T.l.Nodup := by
    subst hT
    simp only [TA.l, List.nodup_cons, List.mem_cons, List.not_mem_nil, or_false, not_or]
    cases at' <;> simp only [sel] <;> exact ⟨⟨by first | exact n0N | exact n1N, by first | exact n0N | exact n1N, Ne.symm nND⟩, ⟨by first | exact n01 | exact Ne.symm n01, by first | exact Ne.symm n0D | exact Ne.symm n1D⟩, by first | exact Ne.symm n0D | exact Ne.symm n1D, not_false, List.nodup_nil⟩
  have newq : H T.q = none := by subst hT; cases at' <;> first | exact hp0 | exact g1
  have newb : H T.b = none := by subst hT; cases at' <;> first | exact hp0 | exact g1
  have newd : H T.D = none := by subst hT; exact gD
  have F0 : ∀ {as : List MV} {r : Lots}, F2 (RL1 Q0 H) as r → F2 (RL1 (fun a => Q0 a ∧ a ∉ T.l) ((((H.set p0 (.list as0)).set p1 (.list as1)).set N (.list [.ref p0, .ref p1])).set D (.list []))) as r := fun f => f.mono fun _ _ r => r.mono (keep_of e1) fun a q hn => ⟨q, hTl a hn⟩
  have S0 : TSt Q0 T H [.ref p0, .ref p1] (sel at' r0 r1) (sel at' r1 r0) [] ((((H.set p0 (.list as0)).set p1 (.list as1)).set N (.list [.ref p0, .ref p1])).set D (.list [])) := by
    have F0' := @F0
    subst hT
    refine ⟨xN, ?_, ?_, HV.set_self, e1⟩
    · cases at'
      · exact ⟨as0, x0, F0' f0⟩
      · exact ⟨as1, x1, F0' f1⟩
    · cases at'
      · exact ⟨as1, x1, F0' f1⟩
      · exact ⟨as0, x0, F0' f0⟩
  have hNs : ([] ++ [MV.ref p0] ++ [MV.ref p1]) = [MV.ref p0, MV.ref p1] := rfl
  rw [hNs]
  generalize hHs : ((((H.set p0 (.list as0)).set p1 (.list as1)).set N (.list [.ref p0, .ref p1])).set D (.list [])) = Hs at S0 xN
  clear hHs x0 x1
  repeat walk_at "m"
  refine WX_Swap (names := ["row", "back"]) ?_
  repeat walk_at "m"
  refine W2_subL xN t1 sel_get ?_ t3
  repeat walk_at "m"
  refine W2_subL xN t2 sel_get' ?_ t4
  repeat walk_at "m"
  refine ⟨_, rfl, rfl, ?_⟩
  have eq1 : (MV.ref T.q) = sel at' (MV.ref p0) (MV.ref p1) := by subst hT; cases at' <;> rfl
  have eq2 : (MV.ref T.b) = sel at' (MV.ref p1) (MV.ref p0) := by subst hT; cases at' <;> rfl
  rw [← eq1, ← eq2]
  have eqD : D = T.D := by subst hT; rfl
  have eqN : N = T.R := by subst hT; rfl
  rw [eqD, eqN]
  clear eq1 eq2 F0 xN e1 hD hN hp1 eqN eqD
  generalize hrs : [MV.ref p0, MV.ref p1] = rs at S0
  have fin : ∀ {row back : Lots} {deeds : List Ent} {H' : HV}, TSt Q0 T H rs row back deeds H' → RL3 Q0 H' (.ref T.R) (sel at' [row, back] [back, row]) := fun S => (hrs ▸ S).fin hT (hfresh _ gN) (hfresh _ hp0) (hfresh _ g1)
  have hQD : Q0 T.D := hfresh _ newd
  have hsel : (sel at' r0 r1).length = (sel at' s0 s1).length ∧ (sel at' r1 r0).length = (sel at' s1 s0).length ∧ (sel at' s0 s1).length ≤ 10 ∧ (sel at' s1 s0).length ≤ 10 := by cases at' <;> exact ⟨by assumption, by assumption, by assumption, by assumption⟩
  obtain ⟨y1, y2, y3, y4⟩ := hsel
  walk_at "m"
  refine WX_For (tg := tupT) (WI_enum (WE_builtin z.toOk ⟨rfl, rfl⟩ Boot.«enumerate» (z.gn (by kernel_rfl))) ?_) ⟨_, _, _, rfl⟩
  repeat walk_at "m"
  refine W2_subN t1 (d := .tup (intsM (sel at' s0 s1))) (by cases at' <;> rfl) (by show 2 ≤ 100000; first | lia | omega) ⟨_, _, .tup, ?_⟩
  rw [enumL_at]
  generalize hY : sel at' s1 s0 = Y at *
  generalize hX : sel at' s0 s1 = X at *
  generalize hrow : sel at' r0 r1 = row0 at *
  generalize hback : sel at' r1 r0 = back0 at *
  refine WFor_ind (InvI Q0 T H rs Y res at' s0 s1) ?_ ?_ _ _ _ ⟨0, X, row0, back0, [], rfl, S0, hres, by first | lia | omega, y2, ok, ok', Nat.zero_le _, by first | lia | omega, rfl, rfl, rfl, rfl, rfl, rfl⟩
  · rintro m H' ⟨i, xs, row, back, deeds, e, S, hl, c1, c2, c3, c4, c5, c6, m1, m2, m3, m4, m5, m6⟩
    cases xs with
    | cons _ _ => cases e
    | nil =>
      have hl : (⟨row, back, deeds, none⟩ : TR) = res := hl
      subst hl
      repeat walk_at "m"
      exact h T.R T.D H' (fin S) hQD S.d S.e
  · rintro d ds m H' ⟨i, xs, row, back, deeds, e, S, hl, c1, c2, c3, c4, c5, c6, m1, m2, m3, m4, m5, m6⟩
    cases xs with
    | nil => cases e
    | cons x xs =>
      cases e
      have hilt : i < row.length := by rw [← c1]; simp
      have hrow : row[i]? = some (row.getD i []) := by rw [List.getD_eq_getElem?_getD, List.getElem?_eq_getElem hilt]; rfl
      have hset : row.set i (row.getD i []) = row := by
        apply List.ext_getElem?
        intro k
        rw [List.getElem?_set]
        split
        · rename_i q; subst q; first | exact hrow.symm | (rw [if_pos hilt]; exact hrow.symm)
        · rfl
      repeat walk_at "m"
      refine WX_For (tg := tupT) (WI_enum (WE_builtin z.toOk ⟨rfl, rfl⟩ Boot.«enumerate» (z.gn (by kernel_rfl))) ?_) ⟨_, _, _, rfl⟩
      repeat walk_at "m"
      refine W2_subN t2 (d := .tup (intsM Y)) (by subst hY; cases at' <;> rfl) (by show 2 ≤ 100000; first | lia | omega) ⟨_, _, .tup, ?_⟩
      rw [enumL_at]
      have hout := hl
      unfold lawI at hout
      generalize hJ : lawJ (i : Int) x back 0 Y (row.getD i []) deeds = J at hout
      refine WFor_ind (InvJ Q0 T H rs Y J at' s0 s1 i x row back) ?_ ?_ _ _ _ ⟨0, Y, row.getD i [], deeds, rfl, by rw [hset]; exact S, hJ, by first | lia | omega, c3 _ (List.mem_of_getElem? hrow), by first | lia | omega, m1, m2, m3, m4, m5, m6, rfl, rfl⟩
      · rintro m H₂ ⟨j, ys, lot, deeds', e, S2, hj, c7, c8, c9, m1, m2, m3, m4, m5, m6, m7, m8⟩
        cases ys with
        | cons _ _ => cases e
        | nil =>
          have hj : (lot, deeds', (none : Option (List Lit))) = J := hj
          subst hj
          have hj10 : j = Y.length := by simpa using c7
          have hr : (row.set i lot)[i]? = some lot := by rw [List.getElem?_set, if_pos rfl, if_pos hilt]
          have hrl : (row.set i lot).length = row.length := List.length_set
          have rok : ∀ l ∈ row.set i lot, LotOk Y.length l := fun l hl => (List.mem_or_eq_of_mem_set hl).elim (c3 l) fun e => e ▸ c8
          have c1' : i + 1 + xs.length = (row.set i lot).length := by rw [hrl, ← c1]; simp; first | lia | omega
          obtain ⟨dq, q1, q2⟩ := S2.q
          obtain ⟨db, p1, p2⟩ := S2.b
          obtain ⟨al, ql, hQl, hal⟩ := lot_at q2 hr
          have l100 := c8.1
          repeat walk_at "m"
          refine WE_CallB z Boot.«len» ?_
          repeat walk_at "m"
          refine W2_subL q1 (by first | lia | omega) (by rw [Int.toNat_natCast]; exact ql) ?_ (by first | lia | omega)
          repeat walk_at "m"
          refine WC_len_list hal (by unfold intsM; rw [List.length_map]; first | lia | omega) ?_
          have hlm : ((intsM lot).length : Int) = lot.length := by unfold intsM; rw [List.length_map]
          rw [hlm]
          repeat walk_at "m"
          refine ite_b (fun k1 => ?_) (fun k1 => ?_)
          · have k1 : lot.length = 1 := by have := beq_iff_eq.mp k1; first | lia | omega
            obtain ⟨v, rfl⟩ := List.length_eq_one_iff.mp k1
            obtain ⟨v1, v2⟩ := c8.2 v (by simp)
            have hout : (if back.getD (v - 1).toNat [] ≠ [(i : Int) + 1] then
                lawI Y (i + 1) xs (row.set i [v]) (back.set (v - 1).toNat [(i : Int) + 1]) (deeds' ++ [(Y.getD (v - 1).toNat 0, lawSpans (back.getD (v - 1).toNat []), (Y.getD (v - 1).toNat 0, true, (i : Int) + 1), [(x, true, v)])])
              else lawI Y (i + 1) xs (row.set i [v]) back deeds') = res := hout
            have hvY : (v - 1).toNat < Y.length := by first | lia | omega
            have hvB : (v - 1).toNat < back.length := by first | lia | omega
            have hy : Y[(v - 1).toNat]? = some (Y.getD (v - 1).toNat 0) := by rw [List.getD_eq_getElem?_getD, List.getElem?_eq_getElem hvY]; rfl
            have hb : back[(v - 1).toNat]? = some (back.getD (v - 1).toNat []) := by rw [List.getD_eq_getElem?_getD, List.getElem?_eq_getElem hvB]; rfl
            obtain ⟨ab, qb, hQb, hab⟩ := lot_at p2 hb
            have hbl := c4 _ (List.mem_of_getElem? hb)
            repeat walk_at "m"
            refine W2_subL q1 (by first | lia | omega) (by rw [Int.toNat_natCast]; exact ql) ?_ (by first | lia | omega)
            repeat walk_at "m"
            refine W2_subL (d := .int v) hal (by decide) rfl ?_ (by decide)
            repeat walk_at "m"
            refine W2_subN t2 (d := .tup (intsM Y)) (by subst hY; cases at' <;> rfl) (by show 2 ≤ 100000; first | lia | omega) ?_
            repeat walk_at "m"
            refine W2_subN (d := .int (Y.getD (v - 1).toNat 0)) (by first | lia | omega) (by unfold intsM; rw [List.getElem?_map, hy]; rfl) (by unfold intsM; rw [List.length_map]; first | lia | omega) ?_
            repeat walk_at "m"
            refine W2_subL p1 (by first | lia | omega) qb ?_ (by first | lia | omega)
            repeat walk_at "m"
            intro fa hfa bfa
            have hfal : ab ≠ fa := by rintro rfl; rw [hab] at hfa; cases hfa
            refine W2.forget (W2_neList (D := datI) datI_ok (by decide) (l := back.getD (v - 1).toNat []) (l' := [(i : Int) + 1]) ((HV.set_ne hfal).trans hab) HV.set_self ⟨H₂, keep_set hfa, ?_⟩)
            repeat walk_at "m"
            refine ite_b (fun k2 => ?_) (fun k2 => ?_)
            · have k2 : back.getD (v - 1).toNat [] ≠ [(i : Int) + 1] := by simpa using k2
              rw [if_pos k2] at hout
              repeat walk_at "m"
              refine WE_append ?_
              repeat walk_at "m"
              refine ⟨T.D, _, rfl, S2.d, ?_⟩
              repeat walk_at "m"
              refine WE_CallK z (f := 353) ?_ (by kernel_rfl) (by kernel_rfl)
              repeat walk_at "m"
              refine W2_subL p1 (by first | lia | omega) qb ?_ (by first | lia | omega)
              repeat walk_at "m"
              refine c_spans z hab hbl ?_
              repeat walk_at "m"
              refine ⟨_, S2.d, by rw [List.length_map]; first | lia | omega, ?_⟩
              have e3 : List.map entM deeds' ++ [MV.tup [MV.int (Y.getD (v - 1).toNat 0), domM (lawSpans (back.getD (v - 1).toNat [])), MV.tup [MV.int (Y.getD (v - 1).toNat 0), MV.str "=", MV.int ((i : Int) + 1)], MV.tup [MV.tup [MV.int x, MV.str "=", MV.int v]], MV.int (-1)]] = List.map entM (deeds' ++ [(Y.getD (v - 1).toNat 0, lawSpans (back.getD (v - 1).toNat []), (Y.getD (v - 1).toNat 0, true, (i : Int) + 1), [(x, true, v)])]) := by rw [List.map_append]; rfl
              rw [e3]
              have S3 := S2.setDeeds hnd newd (deeds' ++ [(Y.getD (v - 1).toNat 0, lawSpans (back.getD (v - 1).toNat []), (Y.getD (v - 1).toNat 0, true, (i : Int) + 1), [(x, true, v)])])
              generalize hH3 : H₂.set T.D (.list (List.map entM (deeds' ++ [(Y.getD (v - 1).toNat 0, lawSpans (back.getD (v - 1).toNat []), (Y.getD (v - 1).toNat 0, true, (i : Int) + 1), [(x, true, v)])]))) = H₃ at S3
              obtain ⟨db, p1, p2⟩ := S3.b
              repeat walk_at "m"
              intro fb hfb bfb
              have S4 := S3.ext (keep_set hfb (o := .list (intsM [(i : Int) + 1])))
              have hq4 := keep_set hfb (o := .list (intsM [(i : Int) + 1])) _ _ p1
              have hlen : db.length = back.length := p2.length
              have S5 := S4.setBack hnd newb hq4 (hfresh _ (S3.old hfb)) (S3.live hfb) HV.set_self (v - 1).toNat
              repeat walk_at "m"
              refine W3U_setL hq4 (by first | lia | omega) (by first | lia | omega) ?_ (by first | lia | omega)
              repeat walk_at "m"
              exact ⟨trivial, i + 1, xs, _, _, _, rfl, S5, hout, c1', by rw [List.length_set]; exact c2, rok, fun l hl => (List.mem_or_eq_of_mem_set hl).elim (c4 l) fun e => by rw [e]; show 1 ≤ 100; first | lia | omega, by simp; first | lia | omega, by first | lia | omega, m1, m2, m3, m4, m5, m6⟩
            · have k2 : back.getD (v - 1).toNat [] = [(i : Int) + 1] := by simpa using k2
              rw [if_neg (by rw [k2]; simp)] at hout
              repeat walk_at "m"
              exact ⟨trivial, i + 1, xs, _, _, _, rfl, S2, hout, c1', c2, rok, c4, by first | lia | omega, by first | lia | omega, m1, m2, m3, m4, m5, m6⟩
          · have k1 : ¬ lot.length = 1 := fun e => by rw [e] at k1; exact absurd k1 (by decide)
            have hout : (if lot.length = 1 then
                (if back.getD (lot.headD 0 - 1).toNat [] ≠ [(i : Int) + 1] then
                lawI Y (i + 1) xs (row.set i lot) (back.set (lot.headD 0 - 1).toNat [(i : Int) + 1]) (deeds' ++ [(Y.getD (lot.headD 0 - 1).toNat 0, lawSpans (back.getD (lot.headD 0 - 1).toNat []), (Y.getD (lot.headD 0 - 1).toNat 0, true, (i : Int) + 1), [(x, true, lot.headD 0)])])
              else lawI Y (i + 1) xs (row.set i lot) back deeds') else lawI Y (i + 1) xs (row.set i lot) back deeds') = res := hout
            rw [if_neg k1] at hout
            repeat walk_at "m"
            exact ⟨trivial, i + 1, xs, _, _, _, rfl, S2, hout, c1', c2, rok, c4, by first | lia | omega, by first | lia | omega, m1, m2, m3, m4, m5, m6⟩
      · rintro d ds m H₂ ⟨j, ys, lot, deeds', e, S2, hj, c7, c8, c9, m1, m2, m3, m4, m5, m6, m7, m8⟩
        cases ys with
        | nil => cases e
        | cons y ys =>
          cases e
          have hjlt : j < back.length := by rw [c2, ← c7]; simp
          have hb : back[j]? = some (back.getD j []) := by rw [List.getD_eq_getElem?_getD, List.getElem?_eq_getElem hjlt]; rfl
          have hr : (row.set i lot)[i]? = some lot := by rw [List.getElem?_set, if_pos rfl, if_pos hilt]
          obtain ⟨dq, q1, q2⟩ := S2.q
          obtain ⟨db, p1, p2⟩ := S2.b
          obtain ⟨al, ql, hQl, hal⟩ := lot_at q2 hr
          obtain ⟨ab, qb, hQb, hab⟩ := lot_at p2 hb
          unfold lawJ at hj
          repeat walk_at "m"
          refine W2_subL q1 (by first | lia | omega) (by rw [Int.toNat_natCast]; exact ql) ?_ (by first | lia | omega)
          refine W2_inI hal ?_
          repeat walk_at "m"
          refine ite_b (fun k1 => ?_) (fun k1 => ?_)
          · repeat walk_at "m"
            refine W2_subL p1 (by first | lia | omega) (by rw [Int.toNat_natCast]; exact qb) ?_ (by first | lia | omega)
            refine W2_ninI hab ?_
            repeat walk_at "m"
            refine ite_b (fun k2 => ?_) (fun k2 => ?_)
            · have k2 : (back.getD j []).contains ((i : Int) + 1) = false := by simpa using k2
              rw [if_pos ⟨k1, k2⟩] at hj
              repeat walk_at "m"
              refine W2_subL q1 (by first | lia | omega) (by rw [Int.toNat_natCast]; exact ql) ?_ (by first | lia | omega)
              repeat walk_at "m"
              intro fa hfa bfa
              have hfal : al ≠ fa := by rintro rfl; rw [hal] at hfa; cases hfa
              refine W2.forget (W2_eqList (D := datI) datI_ok (by decide) (l := lot) (l' := [(j : Int) + 1]) ((HV.set_ne hfal).trans hal) HV.set_self ⟨H₂, keep_set hfa, ?_⟩)
              repeat walk_at "m"
              refine ite_dec (fun k3 => ?_) (fun k3 => ?_)
              · rw [if_pos k3] at hj
                repeat walk_at "m"
                subst hj
                have hout : (⟨row.set i lot, back, deeds', some [(y, false, (i : Int) + 1), (x, true, (j : Int) + 1)]⟩ : TR) = res := hout
                subst hout
                exact h T.R T.D H₂ (fin S2) hQD S2.d S2.e
              · rw [if_neg k3] at hj
                repeat walk_at "m"
                refine WE_append ?_
                repeat walk_at "m"
                refine ⟨T.D, _, rfl, S2.d, ?_⟩
                repeat walk_at "m"
                refine WE_CallK z (f := 353) ?_ (by kernel_rfl) (by kernel_rfl)
                repeat walk_at "m"
                refine W2_subL q1 (by first | lia | omega) (by rw [Int.toNat_natCast]; exact ql) ?_ (by first | lia | omega)
                repeat walk_at "m"
                refine c_spans z hal c8.1 ?_
                repeat walk_at "m"
                refine ⟨_, S2.d, by rw [List.length_map]; first | lia | omega, ?_⟩
                have e3 : List.map entM deeds' ++ [MV.tup [MV.int x, domM (lawSpans lot), MV.tup [MV.int x, MV.str "!=", MV.int ((j : Int) + 1)], MV.tup [MV.tup [MV.int y, MV.str "!=", MV.int ((i : Int) + 1)]], MV.int (-1)]] = List.map entM (deeds' ++ [(x, lawSpans lot, (x, false, (j : Int) + 1), [(y, false, (i : Int) + 1)])]) := by rw [List.map_append]; rfl
                rw [e3]
                have S3 := S2.setDeeds hnd newd (deeds' ++ [(x, lawSpans lot, (x, false, (j : Int) + 1), [(y, false, (i : Int) + 1)])])
                generalize hH3 : H₂.set T.D (.list (List.map entM (deeds' ++ [(x, lawSpans lot, (x, false, (j : Int) + 1), [(y, false, (i : Int) + 1)])]))) = H₃ at S3
                obtain ⟨dq, q1, q2⟩ := S3.q
                obtain ⟨al, ql, hQl, hal⟩ := lot_at q2 hr
                walk_at "m"
                walk_at "m"
                refine WE_Comp (tg := fun _ => True) (xs := ["v"]) (WI_of ?_) (by kernel_rfl)
                repeat walk_at "m"
                refine W2_subL q1 (by first | lia | omega) (by rw [Int.toNat_natCast]; exact ql) ⟨_, _, .list hal, fun cells C => WGo1 trivial ?_⟩ (by first | lia | omega)
                refine WCp_ind (InvF lot j H₃) ?_ ?_ _ _ _ ⟨[], lot, rfl, rfl, rfl, rfl⟩
                · rintro H' acc ⟨l₁, l₂, e, e2, rfl, rfl⟩ fb hfb bfb
                  have : l₂ = [] := by cases l₂ with | nil => rfl | cons _ _ => cases e2
                  subst this
                  rw [List.append_nil] at e
                  subst e
                  have S4 := S3.ext (keep_set hfb (o := .list (intsM (lot.filter fun v => v != (j : Int) + 1))))
                  have hq4 := keep_set hfb (o := .list (intsM (lot.filter fun v => v != (j : Int) + 1))) _ _ q1
                  have hlen : dq.length = row.length := by rw [q2.length, List.length_set]
                  have S5 := S4.setRow hnd newq hq4 (hfresh _ (S3.old hfb)) (S3.live hfb) HV.set_self i
                  rw [List.set_set] at S5
                  repeat walk_at "m"
                  refine W3U_setL hq4 (by first | lia | omega) (by first | lia | omega) ?_ (by first | lia | omega)
                  rw [Int.toNat_natCast]
                  repeat walk_at "m"
                  refine ⟨trivial, j + 1, ys, _, _, rfl, S5, hj, by simp at c7; first | lia | omega, ⟨Nat.le_trans (List.length_filter_le ..) c8.1, fun v hv => c8.2 v (List.mem_filter.mp hv).1⟩, by simp; first | lia | omega, m1, m2, m3, m4, m5, m6, m7, m8⟩
                · rintro d ds H' acc ⟨l₁, l₂, e, e2, rfl, rfl⟩
                  cases l₂ with
                  | nil => cases e2
                  | cons v l₂ =>
                    cases e2
                    have hl100 := c8.1
                    have hfl : (l₁.filter fun v => v != (j : Int) + 1).length ≤ 100 := by
                      have := List.length_filter_le (fun v => v != (j : Int) + 1) l₁
                      have e1 : lot.length = l₁.length + (l₂.length + 1) := by rw [e]; simp
                      first | lia | omega
                    have e' : lot = (l₁ ++ [v]) ++ l₂ := by rw [e]; simp
                    repeat walk_at "m"
                    refine ⟨ext_cons (capM_none rfl) ext_refl, ?_⟩
                    repeat walk_at "m"
                    refine ite_b (fun kv => ?_) (fun kv => ?_)
                    · repeat walk_at "m"
                      refine ⟨by unfold intsM; rw [List.length_map]; first | lia | omega, hal, l₁ ++ [v], l₂, e', rfl, ?_, rfl⟩
                      rw [List.filter_append, List.filter_cons, if_pos kv]
                      simp [intsM]
                    · refine ⟨hal, l₁ ++ [v], l₂, e', rfl, ?_, rfl⟩
                      rw [List.filter_append, List.filter_cons, if_neg (by rw [kv]; decide)]
                      simp
            · rw [if_neg (by rintro ⟨_, w⟩; rw [w] at k2; cases k2)] at hj
              repeat walk_at "m"
              exact ⟨trivial, j + 1, ys, lot, deeds', rfl, S2, hj, by simp at c7; first | lia | omega, c8, by first | lia | omega, m1, m2, m3, m4, m5, m6, m7, m8⟩
          · rw [if_neg (by rintro ⟨w, _⟩; rw [w] at k1; cases k1)] at hj
            repeat walk_at "m"
            exact ⟨trivial, j + 1, ys, lot, deeds', rfl, S2, hj, by simp at c7; first | lia | omega, c8, by first | lia | omega, m1, m2, m3, m4, m5, m6, m7, m8⟩
end
end
section
-- N13
section
variable {c : Cx} {n : Nat} {env : Env} {m : Loc} {H : HV}
theorem WC.up {f : Value} {ds : List MV} {n' : Nat} {K : MV → HV → Prop} (h : WC c n f ds H K) (k : n ≤ n') : WC c n' f ds H K := fun A s vs R sh V => h A s vs (R.mono k) sh V
/-- the pairs, as the law counts them; k places are left -/
noncomputable def pairsD (r0 r1 : Lots) : Nat → List Int → Lots
  | 0, row => if r0.length = r1.length then [row] else []
  | k + 1, row => (r0.getD row.length []).flatMap fun v => if row.contains v = false ∧ (r1.getD (v - 1).toNat []).contains ((row.length : Int) + 1) = true then pairsD r0 r1 k (row ++ [v]) else []
theorem flatMap_len {α β : Type} {f : α → List β} {k : Nat} (h : ∀ a, (f a).length ≤ k) : ∀ l : List α, (l.flatMap f).length ≤ l.length * k
  | [] => by simp
  | a :: l => by
    have := flatMap_len h l
    have := h a
    simp only [List.flatMap_cons, List.length_append, List.length_cons, Nat.add_mul]
    first | lia | omega
theorem pairsD_len {r0 r1 : Lots} (h : ∀ l ∈ r0, l.length ≤ 4) : ∀ (k : Nat) (row : List Int), (pairsD r0 r1 k row).length ≤ 4 ^ k
  | 0, row => by unfold pairsD; split <;> simp
  | k + 1, row => by
    unfold pairsD
    have h1 := flatMap_len (f := fun v => if row.contains v = false ∧ (r1.getD (v - 1).toNat []).contains ((row.length : Int) + 1) = true then pairsD r0 r1 k (row ++ [v]) else []) (k := 4 ^ k) (fun v => by
      split
      · exact pairsD_len h k _
      · simp) (r0.getD row.length [])
    have h2 : (r0.getD row.length []).length ≤ 4 := by
      rw [List.getD_eq_getElem?_getD]
      cases q : r0[row.length]? with
      | none => simp
      | some l => exact h l (List.mem_of_getElem? q)
    have h3 : (r0.getD row.length []).length * 4 ^ k ≤ 4 * 4 ^ k := Nat.mul_le_mul_right _ h2
    rw [Nat.pow_succ]
    first | lia | omega
inductive PairI (lot row : List Int) (r0 r1 : Lots) (k : Nat) (Q0 : Addr → Prop) (F R ra : Addr) (H : HV) (ds : List MV) (m : Loc) (H' : HV) : Prop
  | mk (l₁ l₂ : List Int) (as : List MV) (acc : Lots) (h0 : lot = l₁ ++ l₂) (h1 : ds = intsM l₂) (h2 : H' F = some (.list as)) (h3 : F2 (RL1 (fun a => Q0 a ∧ a ≠ F) H') as acc) (h4 : acc = (l₁.flatMap fun v => if row.contains v = false ∧ (r1.getD (v - 1).toNat []).contains ((row.length : Int) + 1) = true then pairsD r0 r1 k (row ++ [v]) else [])) (h5 : (∀ a o, H a = some o → H' a = some o)) (h6 : Mine.L "rows" (.ref R) m) (h7 : Mine.L "row" (.ref ra) m) (h8 : Mine.L "i" (.int (row.length : Int)) m) (h9 : Mine.L "found" (.ref F) m)
theorem c_pairs (z : Z c) {r0 r1 : Lots} (hl : ∀ l ∈ r0, l.length ≤ 4) (hv : ∀ l ∈ r0, ∀ v ∈ l, 1 ≤ v ∧ v ≤ (r1.length : Int)) (h0 : r0.length ≤ 4) (h1 : r1.length ≤ 4) (hb : ∀ l ∈ r1, l.length ≤ 100) :
    ∀ (k : Nat) {Q0 : Addr → Prop} {H : HV} {d : MV} {ra : Addr} {row : List Int} {K : MV → HV → Prop}, RL3 Q0 H d [r0, r1] → Q0 ra → (∀ a, H a = none → Q0 a) → H ra = some (.list (intsM row)) → row.length + k = r0.length →
    (∀ d' H', RL2 Q0 H' d' (pairsD r0 r1 k row) → (∀ a o, H a = some o → H' a = some o) → K d' H') → WC c (n + 3 * k + 5) (.ref 370) [d, .ref ra] H K := by
  intro k
  induction k with
  | zero =>
    intro Q0 H d ra row K hrows hra hfresh har hk h
    refine WC_at z (n := n + 3 * 0 + 4) (names := ["rows", "row"]) rfl rfl rfl rfl (by kernel_rfl) (two fun a b => by rfl) rfl (by decide) (by rfl) (fun L hL bL => ?_)
    obtain ⟨R, rs, rfl, hRQ, hR, hF⟩ := hrows
    cases hF with
    | @cons d0 _ rs' _ hr0 hF =>
    cases hF with
    | @cons d1 _ rs'' _ hr1 hF =>
    cases hF
    obtain ⟨a0, as0, rfl, q0, ha0, f0⟩ := hr0
    obtain ⟨a1, as1, rfl, q1, ha1, f1⟩ := hr1
    have z0 := f0.length
    have z1 := f1.length
    repeat walk_at "m"
    refine WE_CallB z Boot.«len» ?_
    repeat walk_at "m"
    refine WC_len_list har (by unfold intsM; rw [List.length_map]; first | lia | omega) ?_
    repeat walk_at "m"
    refine WE_CallB z Boot.«len» ?_
    repeat walk_at "m"
    refine W2_subL hR (by decide) rfl ?_ (by decide)
    repeat walk_at "m"
    refine WC_len_list ha0 (by first | lia | omega) ?_
    repeat walk_at "m"
    refine ite_b (fun _ => ?_) (fun q => ?_)
    · repeat walk_at "m"
      refine WE_CallB z Boot.«len» ?_
      repeat walk_at "m"
      refine W2_subL hR (by decide) rfl ?_ (by decide)
      repeat walk_at "m"
      refine WC_len_list ha0 (by first | lia | omega) ?_
      repeat walk_at "m"
      refine WE_CallB z Boot.«len» ?_
      repeat walk_at "m"
      refine W2_subL hR (by decide) rfl ?_ (by decide)
      repeat walk_at "m"
      refine WC_len_list ha1 (by first | lia | omega) ?_
      repeat walk_at "m"
      refine ite_b (fun q2 => ?_) (fun q2 => ?_)
      · have q2 : r0.length = r1.length := by have := beq_iff_eq.mp q2; first | lia | omega
        repeat walk_at "m"
        intro fa hfa bfa
        repeat walk_at "m"
        refine h _ _ ⟨fa, _, rfl, hfresh fa hfa, HV.set_self, ?_⟩ (keep_set hfa)
        unfold pairsD
        rw [if_pos q2]
        exact .cons ⟨ra, rfl, hra, keep_set hfa _ _ har⟩ .nil
      · have q2 : ¬ r0.length = r1.length := fun e => by rw [z0, z1, e] at q2; simp at q2
        repeat walk_at "m"
        intro fa hfa bfa
        repeat walk_at "m"
        refine h _ _ ⟨fa, _, rfl, hfresh fa hfa, HV.set_self, ?_⟩ (keep_set hfa)
        unfold pairsD
        rw [if_neg q2]
        exact .nil
    · exfalso
      unfold intsM at q
      rw [List.length_map, z0] at q
      have : row.length = r0.length := by first | lia | omega
      rw [this] at q
      simp at q
  | succ k ih =>
    intro Q0 H d ra row K hrows hra hfresh har hk h
    refine WC_at z (n := n + 3 * (k + 1) + 4) (names := ["rows", "row"]) rfl rfl rfl rfl (by kernel_rfl) (two fun a b => by rfl) rfl (by decide) (by rfl) (fun L hL bL => ?_)
    have hrows' := hrows
    obtain ⟨R, rs, rfl, hRQ, hR, hF⟩ := hrows
    cases hF with
    | @cons d0 _ rs' _ hr0 hF =>
    cases hF with
    | @cons d1 _ rs'' _ hr1 hF =>
    cases hF
    obtain ⟨a0, as0, rfl, q0, ha0, f0⟩ := hr0
    obtain ⟨a1, as1, rfl, q1, ha1, f1⟩ := hr1
    have z0 := f0.length
    have z1 := f1.length
    have hlt : row.length < r0.length := by first | lia | omega
    have hlot : r0[row.length]? = some (r0.getD row.length []) := by rw [List.getD_eq_getElem?_getD, List.getElem?_eq_getElem hlt]; rfl
    generalize hLot : r0.getD row.length [] = lot at hlot
    have hlm := List.mem_of_getElem? hlot
    obtain ⟨al, ql, hQl, hal⟩ := lot_at f0 hlot
    have hilen : ((intsM row).length : Int) = (row.length : Int) := by unfold intsM; rw [List.length_map]
    repeat walk_at "m"
    refine WE_CallB z Boot.«len» ?_
    repeat walk_at "m"
    refine WC_len_list har (by unfold intsM; rw [List.length_map]; first | lia | omega) ?_
    rw [hilen]
    repeat walk_at "m"
    refine WE_CallB z Boot.«len» ?_
    repeat walk_at "m"
    refine W2_subL hR (by decide) rfl ?_ (by decide)
    repeat walk_at "m"
    refine WC_len_list ha0 (by first | lia | omega) ?_
    repeat walk_at "m"
    refine ite_b (fun q => ?_) (fun _ => ?_)
    · exfalso
      have := beq_iff_eq.mp q
      first | lia | omega
    · repeat walk_at "m"
      intro F hF bF
      repeat walk_at "m"
      have e1 := keep_set hF (o := .list [])
      have nF : ∀ {a o}, H a = some o → a ≠ F := fun {a o} e => by rintro rfl; rw [hF] at e; cases e
      have hiM : row.length < 4 := by first | lia | omega
      refine WX_For (tg := fun _ => True) (WI_of ?_) trivial
      repeat walk_at "m"
      refine W2_subL (e1 _ _ hR) (by decide) rfl ?_ (by decide)
      repeat walk_at "m"
      refine W2_subL (e1 _ _ ha0) (by first | lia | omega) (by rw [Int.toNat_natCast]; exact ql) ⟨_, _, .list (e1 _ _ hal), ?_⟩ (by first | lia | omega)
      have hpd : pairsD r0 r1 (k + 1) row = lot.flatMap fun v => if row.contains v = false ∧ (r1.getD (v - 1).toNat []).contains ((row.length : Int) + 1) = true then pairsD r0 r1 k (row ++ [v]) else [] := by
        rw [← hLot]; rfl
      refine WFor_ind (PairI lot row r0 r1 k Q0 F R ra H) ?_ ?_ _ _ _ ⟨[], lot, [], [], rfl, rfl, HV.set_self, .nil, rfl, e1, rfl, rfl, rfl, rfl⟩
      · rintro m H' ⟨l₁, l₂, as, acc, e, e2, hFs, hFF, rfl, ex, m1, m2, m3, m4⟩
        have : l₂ = [] := by cases l₂ with | nil => rfl | cons _ _ => cases e2
        subst this
        rw [List.append_nil] at e
        subst e
        repeat walk_at "m"
        refine h _ _ ⟨F, as, rfl, hfresh F hF, hFs, ?_⟩ ex
        rw [hpd]
        exact hFF.mono fun _ _ r => r.mono (keep_of fun _ _ e => e) fun _ w _ => w.1
      · rintro d ds m H' ⟨l₁, l₂, as, acc, e, e2, hFs, hFF, hacc, ex, m1, m2, m3, m4⟩
        cases l₂ with
        | nil => cases e2
        | cons v l₂ =>
          cases e2
          have hvm : v ∈ lot := by rw [e]; simp
          obtain ⟨v1, v2⟩ := hv lot hlm v hvm
          have hvlt : (v - 1).toNat < r1.length := by first | lia | omega
          have hb1 : r1[(v - 1).toNat]? = some (r1.getD (v - 1).toNat []) := by rw [List.getD_eq_getElem?_getD, List.getElem?_eq_getElem hvlt]; rfl
          obtain ⟨ab, qb, hQb, hab⟩ := lot_at f1 hb1
          have e' : lot = (l₁ ++ [v]) ++ l₂ := by rw [e]; simp
          have skip : ¬ (row.contains v = false ∧ (r1.getD (v - 1).toNat []).contains ((row.length : Int) + 1) = true) → acc = ((l₁ ++ [v]).flatMap fun v => if row.contains v = false ∧ (r1.getD (v - 1).toNat []).contains ((row.length : Int) + 1) = true then pairsD r0 r1 k (row ++ [v]) else []) := fun q => by
            rw [List.flatMap_append, ← hacc, List.flatMap_cons, if_neg q]; simp
          repeat walk_at "m"
          refine W2_ninI (ex _ _ har) ?_
          repeat walk_at "m"
          refine ite_b (fun k1 => ?_) (fun k1 => ?_)
          · have k1 : row.contains v = false := by simpa using k1
            repeat walk_at "m"
            refine W2_subL (ex _ _ hR) (by decide) rfl ?_ (by decide)
            repeat walk_at "m"
            refine W2_subL (ex _ _ ha1) (by first | lia | omega) qb ?_ (by first | lia | omega)
            refine W2_inI (ex _ _ hab) ?_
            repeat walk_at "m"
            refine ite_b (fun k2 => ?_) (fun k2 => ?_)
            · repeat walk_at "m"
              refine WE_Method ?_
              repeat walk_at "m"
              refine GM_list hFs PySem.F.slot_list_extend PySem.F.type_list_extend ⟨Kp.builtin, ?_⟩
              refine WEs_cons ?_
              refine WE_CallK z (f := 370) ?_ (by kernel_rfl) (by kernel_rfl)
              repeat walk_at "m"
              intro va hva bva
              refine W2_addL (keep_set hva _ _ (ex _ _ har)) HV.set_self (fun ra' hra' bra' => ?_) (by unfold intsM; rw [List.length_map]; show row.length + 1 ≤ 1000; first | lia | omega)
              have ex1 : ∀ a o, H' a = some o → ((H'.set va (.list [.int v])).set ra' (.list (intsM row ++ [.int v]))) a = some o := fun a o e => keep_set hra' _ _ (keep_set hva _ _ e)
              have hrn : H' ra' = none := (set_none hra').2
              have hrow' : intsM row ++ [MV.int v] = intsM (row ++ [v]) := by simp [intsM]
              rw [hrow'] at ex1 ⊢
              generalize hH2 : (H'.set va (.list [.int v])).set ra' (.list (intsM (row ++ [v]))) = H₂ at ex1
              have hra2 : H₂ ra' = some (.list (intsM (row ++ [v]))) := by rw [← hH2]; exact HV.set_self
              have nn : ∀ {a}, H₂ a = none → H a = none ∧ a ≠ F := fun {a} q => by
                have q1 : H' a = none := by
                  cases w : H' a with
                  | none => rfl
                  | some o => rw [ex1 a o w] at q; cases q
                refine ⟨?_, by rintro rfl; rw [hFs] at q1; cases q1⟩
                cases w : H a with
                | none => rfl
                | some o => rw [ex a o w] at q1; cases q1
              have raF : ra' ≠ F := by rintro rfl; rw [hFs] at hrn; cases hrn
              have raQ : Q0 ra' := hfresh _ (by
                cases w : H ra' with
                | none => rfl
                | some o => rw [ex ra' o w] at hrn; cases hrn)
              repeat walk_at "m"
              have hrows2 : RL3 (fun a => Q0 a ∧ a ≠ F) H₂ (.ref R) [r0, r1] := RL3.mono hrows' (keep_of fun a o e => ex1 a o (ex a o e)) fun a q hn => ⟨q, by
                cases w : H a with
                | none => exact absurd w hn
                | some o => exact nF w⟩
              refine WC.mono (WC.up (ih (Q0 := fun a => Q0 a ∧ a ≠ F) (row := row ++ [v]) (K := fun d' H₃ => RL2 (fun a => Q0 a ∧ a ≠ F) H₃ d' (pairsD r0 r1 k (row ++ [v])) ∧ ∀ a o, H₂ a = some o → H₃ a = some o) hrows2 ⟨raQ, raF⟩ (fun a q => ⟨hfresh a (nn q).1, (nn q).2⟩) hra2 (by simp; first | lia | omega) (fun d' H₃ a b => ⟨a, b⟩)) (by first | lia | omega)) ?_
              rintro d' H₃ ⟨⟨pa, ps, rfl, hpQ, hpa, hpF⟩, ex2⟩
              repeat walk_at "m"
              have hlen1 := hFF.length
              have hlen2 := hpF.length
              have hpl := @pairsD_len r0 r1 hl k (row ++ [v])
              have hl4 : lot.length ≤ 4 := hl lot hlm
              have hk4 : 4 ^ k ≤ 64 := Nat.pow_le_pow_right (by decide) (show k ≤ 3 by first | lia | omega)
              have hal1 : acc.length ≤ l₁.length * 4 ^ k := by
                rw [hacc]
                refine flatMap_len (fun v => ?_) l₁
                split
                · exact pairsD_len hl k _
                · simp
              have hl1 : l₁.length ≤ 4 := by rw [e] at hl4; simp at hl4; first | lia | omega
              have hal2 : l₁.length * 4 ^ k ≤ 4 * 64 := Nat.mul_le_mul hl1 hk4
              refine WC_extend (ex2 _ _ (ex1 _ _ hFs)) hpa (by first | lia | omega) ?_
              repeat walk_at "m"
              have kp : Keep (fun a => Q0 a ∧ a ≠ F) H₃ (H₃.set F (.list (as ++ ps))) := fun a o w e => by rw [HV.set_ne w.2]; exact e
              have ex3 : ∀ a o, H a = some o → (H₃.set F (.list (as ++ ps))) a = some o := fun a o e => by
                rw [HV.set_ne (nF e)]; exact ex2 _ _ (ex1 _ _ (ex _ _ e))
              refine ⟨ex3 _ _ hal, l₁ ++ [v], l₂, _, acc ++ pairsD r0 r1 k (row ++ [v]), e', rfl, HV.set_self, ?_, ?_, ex3, m1, m2, m3, m4⟩
              · exact (hFF.mono fun _ _ r => (r.mono (keep_of fun a o e => ex2 a o (ex1 a o e)) fun _ w _ => w).mono kp fun _ w _ => w).append (hpF.mono fun _ _ r => r.mono kp fun _ w _ => w)
              · rw [List.flatMap_append, ← hacc, List.flatMap_cons, if_pos ⟨k1, k2⟩]; simp
            · repeat walk_at "m"
              exact ⟨ex _ _ hal, l₁ ++ [v], l₂, as, acc, e', rfl, hFs, hFF, skip (by rw [k2]; simp), ex, m1, m2, m3, m4⟩
          · have k1 : row.contains v = true := by simpa using k1
            repeat walk_at "m"
            exact ⟨ex _ _ hal, l₁ ++ [v], l₂, as, acc, e', rfl, hFs, hFF, skip (by rw [k1]; simp), ex, m1, m2, m3, m4⟩
end
end
section
-- P1
section
variable {c : Cx} {n : Nat} {env : Env} {m : Loc} {H : HV}
theorem CC_at (z : Z c) {f : Addr} {fo : Obj} {fd : FuncData} {body : List Stmt} {ds : List MV} {names : List Str} {K : MV → HV → Prop} (hf : (KF c.w.params).lookup f = some fo) (hd' : fo.data = .func fd) (hb : fd.body = .stmts body) (hcl : fd.closure = []) (hcd : codeIn (KF c.w.params) fd.code fd.qualname = true)
    (hbind : ∀ vs : List Value, vs.length = names.length → bindArgs fd ⟨vs, []⟩ = pure (names.zip vs)) (hlen : names.length = ds.length) (hnd : names.Nodup)
    (hkind : (names.all fun y => fd.scope.names.lookup y == some .local || fd.scope.names.lookup y == some .cell) = true)
    (h : ∀ L, H L = none → c.B.get? L = none → WXs c n (callEnvC fd L f) body (names.zip ds) H (retM K)) (A : Around) (s : Shared) (vs : List Value) (R : Room (n + 1) A) (sh : Sh c H s.heap) (V : VRs c s.heap vs ds)
    (hco : fd.scope.isCoroutine = false := by rfl) (hgen : fd.scope.isGenerator = false := by rfl) (hk : fd.scope.kind = .function := by rfl) : codeAny (model c.prog c.w) A (.call (.ref f) ⟨vs, []⟩) (retP c H s K) s :=
  CC_def z.toOk (z.hK ▸ hf) hd' hb hcl (z.hK ▸ hcd) hbind hlen hnd hkind (fun n x hx => cells_some _ _ _ _ (.inl (PySem.mem_of_lookup hx))) h hco hgen hk A s vs R sh V

theorem Room.type {A : Around} {C : Addr} {rest : List Value} {kw : List (Str × Value)} (R : Room (n + 1) A) : Room n (A.under (.builtin "type.__call__" ⟨.ref C :: rest, kw⟩)) :=
  ⟨R.handled, by have := R.depth; show A.depth + 1 + 2 * n + 110 < _; first | lia | omega, by have := R.units; show A.units + 1 + 16 * n + 128 < _; first | lia | omega⟩

theorem WC_make (z : Z c) {C fI : Addr} {ds : List MV} {K : MV → HV → Prop} (hm : makesIn (KF c.w.params) C = true) (hi : findIn (KF c.w.params) (.ref C) "__init__" = some (some (.ref fI))) (hf : typeIn (KF c.w.params) (.ref fI) = some (.type "function"))
    (h : ∀ x dx, H dx = none → c.B.get? dx = none → ∀ A s vs, Room n A → Sh c (H.set dx (.sdict [])) s.heap → VRs c s.heap vs (.inst x C dx :: ds) →
      codeAny (model c.prog c.w) A (.call (.ref fI) ⟨vs, []⟩) (retP c (H.set dx (.sdict [])) s fun d H' => d = .none ∧ K (.inst x C dx) H') s) : WC c (n + 1) (.ref C) ds H K := by
  intro A s vs R sh V
  refine wpAny_call ?_
  have X := z.kin.keeps sh.base
  rw [z.hK] at X
  obtain ⟨hh, g, d, t, os⟩ := s
  have e1 : hh.get? hh.objs.size = none := get_size
  have k1 : ∀ a o, hh.get? a = some o → ((hh.push emptyDict).push (instObj C hh.objs.size)).get? a = some o := fun a o e => Heap.get?_push_of_some _ (Heap.get?_push_of_some _ e)
  have hdx : ((hh.push emptyDict).push (instObj C hh.objs.size)).get? hh.objs.size = some emptyDict := Heap.get?_push_of_some _ (Heap.get?_push_size _ rfl)
  have hx : ((hh.push emptyDict).push (instObj C hh.objs.size)).get? (hh.objs.size + 1) = some (instObj C hh.objs.size) := by
    have := Heap.get?_push_size (hh.push emptyDict) (o := instObj C hh.objs.size) rfl
    rw [Heap.size_push] at this; exact this
  have sh1 : Sh c (H.set hh.objs.size (.sdict [])) ((hh.push emptyDict).push (instObj C hh.objs.size)) := sh.add e1 k1 (.sdict (n := 0) hdx .nil)
  have st1 : Stp nw H (H.set hh.objs.size (.sdict [])) ⟨hh, g, d, t, os⟩ ⟨(hh.push emptyDict).push (instObj C hh.objs.size), g, d, t, os⟩ := Stp.add (tk := t) e1 k1
  refine make_core (makes_of X hm) (looks_findIn X hi) (fun self => bind_fn X self hf) (.inl rfl) ?_
  refine codeAny_mono (h (hh.objs.size + 1) hh.objs.size (sh.fresh e1) (newB sh e1) _ _ _ R.type sh1 (.cons (.inst hx) (V.mono fun a o e _ => k1 a o e))) fun r s' q => ?_
  rcases r with e | (v | _ | _ | _)
  · exact q.elim
  · exact q.elim
  · exact q.elim
  · exact q.elim
  · obtain ⟨d', H', sh', vr', st', rfl, k⟩ := q
    obtain rfl := vr'.isNone
    exact ⟨rfl, _, H', sh', .inst (st'.imm sh1 (fun _ _ z => z.elim) _ _ hx (.inl trivial)), st1.trans st', k⟩

theorem new_attr {Hk : HV} {dx a : Addr} {o s s0 : MObj} (h : Hk dx = some s0) (ha : Hk a = none) : ((Hk.set a o).set dx s) dx = some s ∧ ((Hk.set a o).set dx s) a = some o ∧ (∀ b ob, b ≠ dx → Hk b = some ob → ((Hk.set a o).set dx s) b = some ob) ∧ a ≠ dx := by
  have ne : a ≠ dx := by rintro rfl; rw [h] at ha; cases ha
  exact ⟨HV.set_self, by rw [HV.set_ne ne, HV.set_self], fun b ob q e => by rw [HV.set_ne q]; exact keep_set ha _ _ e, ne⟩
noncomputable def SS.empty : SS := ⟨[], [], [], [], [], false, []⟩
theorem c_store (z : Z c) {K : MV → HV → Prop} (h : ∀ (A : Ad) H', HSt A SS.empty H' → (∀ a, a ∈ A.l → H a = none) → (∀ a o, H a = some o → H' a = some o) → K A.v H') : WC c (n + 4) (.ref 244) [] H K := by
  refine WC_make z (fI := 108) (by kernel_rfl) (by kernel_rfl) (by kernel_rfl) fun x dx hdx bdx A s vs R sh V => ?_
  refine CC_at z (names := ["self"]) rfl rfl rfl rfl (by kernel_rfl) (one fun a => by rfl) rfl (by decide) (by rfl) (fun L hL bL => ?_) A s vs R sh V
  have e0 : (H.set dx (.sdict [])) dx = some (.sdict []) := HV.set_self
  have k0 : ∀ b ob, H b = some ob → (H.set dx (.sdict [])) b = some ob := keep_set hdx
  have n0 : ∀ {a}, (H.set dx (.sdict [])) a = none → H a = none := fun q => (set_none q).2
  generalize H.set dx (.sdict []) = H0 at e0 k0 n0
  have nn : ∀ {H1 H2 : HV} {a : Addr}, (∀ b ob, b ≠ dx → H1 b = some ob → H2 b = some ob) → a ≠ dx → H2 a = none → H1 a = none := fun {H1 H2 a} k na q => by
    cases w : H1 a with
    | none => rfl
    | some o => rw [k a o na w] at q; cases q
  repeat walk_at "m"
  intro ad had bad
  repeat walk_at "m"
  obtain ⟨e1, d1, k1, m1⟩ := new_attr (o := .list []) (s := .sdict (putKV "domains" (.ref ad) [])) e0 had
  refine W2U_attrZ z (keep_set had _ _ e0) (by show 0 ≤ 100; first | lia | omega) ?_
  generalize (H0.set ad (.list [])).set dx (.sdict (putKV "domains" (.ref ad) [])) = H1 at e1 d1 k1
  repeat walk_at "m"
  intro af haf baf
  repeat walk_at "m"
  obtain ⟨e2, d2, k2, m2⟩ := new_attr (o := .list []) (s := .sdict (putKV "firsts" (.ref af) (putKV "domains" (.ref ad) []))) e1 haf
  refine W2U_attrZ z (keep_set haf _ _ e1) (by show 1 ≤ 100; first | lia | omega) ?_
  generalize (H1.set af (.list [])).set dx (.sdict (putKV "firsts" (.ref af) (putKV "domains" (.ref ad) []))) = H2 at e2 d2 k2
  repeat walk_at "m"
  intro at' hat bat
  repeat walk_at "m"
  obtain ⟨e3, d3, k3, m3⟩ := new_attr (o := .list []) (s := .sdict (putKV "trail" (.ref at') (putKV "firsts" (.ref af) (putKV "domains" (.ref ad) [])))) e2 hat
  refine W2U_attrZ z (keep_set hat _ _ e2) (by show 2 ≤ 100; first | lia | omega) ?_
  generalize (H2.set at' (.list [])).set dx (.sdict (putKV "trail" (.ref at') (putKV "firsts" (.ref af) (putKV "domains" (.ref ad) [])))) = H3 at e3 d3 k3
  repeat walk_at "m"
  intro am ham bam
  repeat walk_at "m"
  obtain ⟨e4, d4, k4, m4⟩ := new_attr (o := .list []) (s := .sdict (putKV "marks" (.ref am) (putKV "trail" (.ref at') (putKV "firsts" (.ref af) (putKV "domains" (.ref ad) []))))) e3 ham
  refine W2U_attrZ z (keep_set ham _ _ e3) (by show 3 ≤ 100; first | lia | omega) ?_
  generalize (H3.set am (.list [])).set dx (.sdict (putKV "marks" (.ref am) (putKV "trail" (.ref at') (putKV "firsts" (.ref af) (putKV "domains" (.ref ad) []))))) = H4 at e4 d4 k4
  repeat walk_at "m"
  refine WE_Dict0 fun an han ban => ?_
  repeat walk_at "m"
  obtain ⟨e5, d5, k5, m5⟩ := new_attr (o := .imap []) (s := .sdict (putKV "news" (.ref an) (putKV "marks" (.ref am) (putKV "trail" (.ref at') (putKV "firsts" (.ref af) (putKV "domains" (.ref ad) [])))))) e4 han
  refine W2U_attrZ z (keep_set han _ _ e4) (by show 4 ≤ 100; first | lia | omega) ?_
  generalize (H4.set an (.imap [])).set dx (.sdict (putKV "news" (.ref an) (putKV "marks" (.ref am) (putKV "trail" (.ref at') (putKV "firsts" (.ref af) (putKV "domains" (.ref ad) [])))))) = H5 at e5 d5 k5
  repeat walk_at "m"
  refine W2U_attrZ z e5 (by show 5 ≤ 100; first | lia | omega) ?_
  repeat walk_at "m"
  refine W2U_attrZ z HV.set_self (by show 6 ≤ 100; first | lia | omega) ?_
  rw [HV.set_set]
  repeat walk_at "m"
  refine W2U_attrZ z HV.set_self (by show 7 ≤ 100; first | lia | omega) ?_
  rw [HV.set_set]
  repeat walk_at "m"
  have a2 := nn k1 m2 haf
  have t2 := nn k2 m3 hat
  have a3 := nn k1 m3 t2
  have t3 := nn k3 m4 ham
  have u3 := nn k2 m4 t3
  have a4 := nn k1 m4 u3
  have t4 := nn k4 m5 han
  have u4 := nn k3 m5 t4
  have v4 := nn k2 m5 u4
  have a5 := nn k1 m5 v4
  have ne : ∀ {Hq : HV} {a b : Addr} {o : MObj}, Hq a = some o → Hq b = none → a ≠ b := fun {Hq a b o} e q => by rintro rfl; rw [e] at q; cases q
  refine ⟨rfl, h ⟨x, dx, ad, af, at', am, an⟩ _ ⟨HV.set_self, ?_, ?_, ?_, ?_, ?_, ?_⟩ (fun a ha => ?_) fun a o e => ?_⟩
  · rw [HV.set_ne m1]; exact k5 _ _ m1 (k4 _ _ m1 (k3 _ _ m1 (k2 _ _ m1 d1)))
  · rw [HV.set_ne m2]; exact k5 _ _ m2 (k4 _ _ m2 (k3 _ _ m2 d2))
  · rw [HV.set_ne m3]; exact k5 _ _ m3 (k4 _ _ m3 d3)
  · rw [HV.set_ne m4]; exact k5 _ _ m4 d4
  · rw [HV.set_ne m5]; exact d5
  · simp only [Ad.l, List.nodup_cons, List.mem_cons, List.not_mem_nil, or_false, not_or]
    exact ⟨⟨Ne.symm m1, Ne.symm m2, Ne.symm m3, Ne.symm m4, Ne.symm m5⟩, ⟨ne d1 haf, ne d1 t2, ne d1 u3, ne d1 v4⟩, ⟨ne d2 hat, ne d2 t3, ne d2 u4⟩, ⟨ne d3 ham, ne d3 t4⟩, ne d4 han, not_false, List.nodup_nil⟩
  · simp only [Ad.l, List.mem_cons, List.not_mem_nil, or_false] at ha
    rcases ha with rfl | rfl | rfl | rfl | rfl | rfl
    · exact hdx
    · exact n0 had
    · exact n0 a2
    · exact n0 a3
    · exact n0 a4
    · exact n0 a5
  · have na : a ≠ dx := by rintro rfl; rw [hdx] at e; cases e
    rw [HV.set_ne na]
    exact k5 _ _ na (k4 _ _ na (k3 _ _ na (k2 _ _ na (k1 _ _ na (k0 _ _ e)))))
end
end
section
-- P2
/-- what super() asks of the program's head -/
structure Z2 (c : Cx) : Prop extends Z c where
  file : ((c.prog.main.file : Str) == ("/claim/cut.py" : Str)) = true
  noSuper : (c.prog.main.scope.names.lookup ("super" : Str)).isSome = false

section
variable {c : Cx} {n : Nat} {env : Env} {m : Loc} {H : HV}

theorem look_put {y k : Str} {d : MV} (h : (y == k) = false) : ∀ {l : List (Str × MV)}, l.lookup y = none → (putKV k d l).lookup y = none
  | [], _ => by simp only [putKV, List.lookup_cons, List.lookup_nil, h]
  | (x, e) :: r, q => by
    rw [List.lookup_cons] at q
    unfold putKV
    cases hx : (y == x) with
    | true => rw [hx] at q; cases q
    | false =>
      rw [hx] at q
      split
      · rw [List.lookup_cons, hx]; exact q
      · rw [List.lookup_cons, hx]; exact look_put h q
theorem CC_prop (z : Z c) {x dx : Addr} {v0 : List MV} {w : Str} {kvs : List (Str × MV)} {K : MV → HV → Prop} (hdx : H dx = some (.sdict kvs)) (hz : kvs.length ≤ 50) (hkt : kvs.lookup ("turn" : Str) = none) (h : ∀ H' kvs', H' dx = some (.sdict kvs') → kvs'.lookup ("turn" : Str) = none → kvs'.length ≤ kvs.length + 3 → (∀ a, a ≠ dx → H' a = H a) → K .none H') (A : Around) (s : Shared) (vs : List Value) (R : Room (n + 3) A) (sh : Sh c H s.heap) (V : VRs c s.heap vs [.inst x 337 dx, .tup v0, .str w]) :
    codeAny (model c.prog c.w) A (.call (.ref 262) ⟨vs, []⟩) (retP c H s K) s := by
  have pl : ∀ (k : Str) (d : MV) (l : List (Str × MV)), (putKV k d l).length ≤ l.length + 1 := by
    intro k d l
    induction l with
    | nil => simp [putKV]
    | cons p r ih => obtain ⟨y, e⟩ := p; unfold putKV; split <;> simp <;> first | lia | omega
  refine CC_at z (names := ["self", "scope", "strength"]) rfl rfl rfl rfl (by kernel_rfl) (three fun a b d => by rfl) rfl (by decide) (by rfl) (fun L hL bL => ?_) A s vs R sh V
  have p1 := pl "number" (.int (-1)) kvs
  have p2 := pl "scope" (.tup v0) (putKV "number" (.int (-1)) kvs)
  have p3 := pl "strength" (.str w) (putKV "scope" (.tup v0) (putKV "number" (.int (-1)) kvs))
  repeat walk_at "m"
  refine W2U_attrZ z hdx (by first | lia | omega) ?_
  repeat walk_at "m"
  refine WE_CallT z Boot.«tuple» ?_
  repeat walk_at "m"
  refine WC_tuple_tup ?_
  repeat walk_at "m"
  refine W2U_attrZ z HV.set_self (by first | lia | omega) ?_
  rw [HV.set_set]
  repeat walk_at "m"
  refine W2U_attrZ z HV.set_self (by first | lia | omega) ?_
  rw [HV.set_set]
  repeat walk_at "m"
  exact h _ _ HV.set_self (look_put (by decide) (look_put (by decide) (look_put (by decide) hkt))) (by first | lia | omega) fun a ha => HV.set_ne ha

theorem c_inverse (z : Z2 c) {s0 s1 : List Int} {K : MV → HV → Prop} (b0 : s0.length ≤ 10) (b1 : s1.length ≤ 10) (h : ∀ ix idx kvs H', H idx = none → H' idx = some (.sdict kvs) → kvs.lookup ("turn" : Str) = none → (∀ a o, H a = some o → H' a = some o) → K (.inst ix 337 idx) H') : WC c (n + 7) (.ref 337) [.tup (intsM s0), .tup (intsM s1)] H K := by
  have zz := z.toZ
  refine WC_make zz (fI := 306) (by kernel_rfl) (by kernel_rfl) (by kernel_rfl) fun x dx hdx bdx A s vs R sh V => ?_
  obtain ⟨_, vs, rfl, r0, W⟩ := V.isCons
  obtain ⟨rfl, ex⟩ := r0.isInst
  clear V
  have V := W
  clear W
  have hlen : vs.length = 2 := V.length
  obtain ⟨v1, v2, rfl⟩ : ∃ v1 v2, vs = [v1, v2] := by
    match vs, hlen with
    | [a, b], _ => exact ⟨a, b, rfl⟩
  obtain ⟨hh, g, d, t, os⟩ := s
  have X := z.kin.keeps sh.base
  rw [z.hK] at X
  refine ks_codeAny_call_defAt (binds := [("self", .ref x), ("fs", v1), ("gs", v2)]) R.lt (X 306 _ rfl) rfl (z.top.nolimit.keeps sh.base) (codeRec_of X (by kernel_rfl)) rfl (BindsTo.of_eq (by rfl)) (by decide) ?_ (fun h₀ hns kp => ?_)
  · intro y hy
    simp only [List.mem_cons, List.not_mem_nil, or_false] at hy
    rcases hy with rfl | rfl | rfl <;> rfl
  · have hL : hh.get? hh.objs.size = none := get_size
    have X0 : (KF c.w.params).In h₀ := X.keeps kp
    have ex0 := kp _ _ ex
    have sh0 : Sh c (H.set dx (.sdict [])) h₀ := sh.ext kp
    have V0 : VRs c h₀ [v1, v2] [.tup (intsM s0), .tup (intsM s1)] := V.mono fun a o e _ => kp a o e
    have hcell : h₀.IsCell 294 (some (.ref 337)) := ⟨_, X0 294 _ rfl, rfl⟩
    have b294 : ∃ o, c.B.get? 294 = some o := ⟨_, z.kin 294 _ (by rw [z.hK]; rfl)⟩
    have H294 : (H.set dx (.sdict [])) 294 = none := by
      cases q : (H.set dx (.sdict [])) 294 with
      | none => rfl
      | some o => obtain ⟨o', e⟩ := b294; rw [sh0.new _ _ q] at e; cases e
    generalize hm0 : ([("self", .inst x 337 dx), ("fs", .tup (intsM s0)), ("gs", .tup (intsM s1))] : Loc) = m0
    generalize hH0 : H.set dx (.sdict []) = H0 at sh0 H294 sh ⊢
    have rec_ : ∀ (env : Env), env.locals = hh.objs.size → env.cells = ([("__class__", 294)] : List (Str × Addr)) → env.kindOf "self" = some .local → env.kindOf "fs" = some .local → env.kindOf "gs" = some .local → (∀ y, env.kindOf y ≠ some .cell) →
        St c env m0 H0 ⟨h₀, g, d, t + 3, os⟩ := by
      intro env el ec ks kf kg kn
      have mk : ∀ y d, m0.lookup y = some d → (y = "self" ∧ d = .inst x 337 dx) ∨ (y = "fs" ∧ d = .tup (intsM s0)) ∨ (y = "gs" ∧ d = .tup (intsM s1)) := by
        intro y d e
        subst hm0
        have := PySem.mem_of_lookup e
        simp only [List.mem_cons, List.not_mem_nil, or_false, Prod.mk.injEq] at this
        exact this
      refine ⟨sh0, ⟨⟨_, el ▸ hns, fun y d hk hl => ?_⟩, fun y d hk hl => ?_, fun y a e => ?_, fun y hk => absurd hk (kn y), fun y y' a e1 e2 => ?_, ?_, fun y a e => ?_, ?_, fun y a hk => absurd hk (kn y)⟩⟩
      · obtain ⟨r1, V0'⟩ := V0.inv
        · obtain ⟨r2, _⟩ := V0'.inv
          · rcases mk y d hl with ⟨rfl, rfl⟩ | ⟨rfl, rfl⟩ | ⟨rfl, rfl⟩
            · exact ⟨_, rfl, .inst ex0⟩
            · exact ⟨_, rfl, r1⟩
            · exact ⟨_, rfl, r2⟩
      · exfalso
        rcases mk y d hl with ⟨rfl, _⟩ | ⟨rfl, _⟩ | ⟨rfl, _⟩
        · rw [ks] at hk; rcases hk with q | q <;> cases q
        · rw [kf] at hk; rcases hk with q | q <;> cases q
        · rw [kg] at hk; rcases hk with q | q <;> cases q
      · rw [ec] at e
        have := PySem.mem_of_lookup e
        simp only [List.mem_cons, List.not_mem_nil, or_false, Prod.mk.injEq] at this
        obtain ⟨_, rfl⟩ := this
        exact ⟨_, hcell⟩
      · rw [ec] at e1 e2
        have e1 := PySem.mem_of_lookup e1
        have e2 := PySem.mem_of_lookup e2
        simp only [List.mem_cons, List.not_mem_nil, or_false, Prod.mk.injEq] at e1 e2
        rw [e1.1, e2.1]
      · rw [el]; exact sh.fresh hL
      · rw [ec] at e
        have := PySem.mem_of_lookup e
        simp only [List.mem_cons, List.not_mem_nil, or_false, Prod.mk.injEq] at this
        obtain ⟨_, rfl⟩ := this
        refine ⟨H294, ?_⟩
        rw [el]
        intro q
        have w := X 294 _ rfl
        rw [q, hL] at w; cases w
      · rw [el]; exact newB sh hL
    have hH0x : H0 dx = some (.sdict []) := by rw [← hH0]; exact HV.set_self
    subst hm0
    refine ks_wpAt_execs_cons (ks_wpAt_Expr_any (ks_wpAt_MethodCall ?_))
    have hgl := z.top.g.keeps sh0.base
    have hbl := z.top.b.keeps sh0.base
    refine ks_wpAt_super_base (f := 306) (cc := 305) rfl rfl rfl rfl (X0 306 _ rfl) rfl rfl rfl (X0 305 _ rfl) rfl rfl z.file z.noSuper ?_
    refine ks_loadName_global rfl rfl (loadGlobal_builtin hgl (zz.gn (by kernel_rfl)) hbl ((z.top.builtins _ (by decide)).trans Boot.«super») ⟨rfl, ?_⟩)
    refine wpAny_loadName_free (c := 294) rfl rfl rfl hcell ?_
    refine wpAny_loadName_local rfl rfl hns rfl ?_
    refine ks_wpAny_isType_cls (X0 337 _ rfl) rfl ⟨rfl, ?_⟩
    refine ks_wpAny_call_super (C := 337) (X0 337 _ rfl) rfl ex0 rfl (fun c e => by cases e) (looks_mroIn X0 (by kernel_rfl)) (fun h1 eso k1 => ?_)
    have X1 : (KF c.w.params).In h1 := X0.keeps k1
    refine ks_wpAny_getMethod_super (f := 262) (K := KF c.w.params) (C := 337) eso (looks_opaque X1 (by kernel_rfl)) (l₀ := [.ref 337, .ref 286, .type "object"]) ?_ rfl X1 (by kernel_rfl) (X1 262 _ rfl) rfl ?_ rfl ?_
    · exact fun A Q E s k q => wpAny_bind ((looks_clsIn X1 (C := 337) rfl) A _ E s k (wpAny_pure q))
    · rintro rfl
      have w := X0 337 _ rfl
      rw [ex0] at w; cases w
    have k2 : ∀ b o, h₀.get? b = some o → (h1.push (methodObj (.ref 262) (.ref x))).get? b = some o := fun b o e => Heap.get?_push_of_some _ (k1 b o e)
    have hq : (h1.push (methodObj (.ref 262) (.ref x))).get? h1.objs.size = some (methodObj (.ref 262) (.ref x)) := Heap.get?_push_size _ rfl
    have hqn : h₀.get? h1.objs.size = none := by
      cases w : h₀.get? h1.objs.size with
      | none => rfl
      | some o => exact absurd (Heap.lt_size (k1 _ _ w)) (Nat.lt_irrefl _)
    have hHq : H0 h1.objs.size = none := sh0.fresh hqn
    have st2 : ∀ tk, Stp nw H0 H0 ⟨h₀, g, d, t + 3, os⟩ ⟨h1.push (methodObj (.ref 262) (.ref x)), g, d, tk, os⟩ := fun tk => Stp.ext k2
    have sh2 : Sh c H0 (h1.push (methodObj (.ref 262) (.ref x))) := sh0.ext k2
    refine callWith_of (P := MethP (KF c.w.params) h1.objs.size 262 (.ref x)) rfl (keeps_M (by kernel_rfl)) (evalArgs_all rfl ?_)
    refine mono0 ((?args : WEs c (n + 5) _ _ _ _ H0 fun ds H' => H' = H0 ∧ ds = [.tup (intsM s0 ++ intsM s1), .str "weak"]) _ _ (R.deeper _) ((rec_ _ rfl rfl rfl rfl rfl ?kn).step (st2 _) sh2)) ?_
    case kn =>
      intro y hk
      have := PySem.mem_of_lookup hk
      revert this
      show ¬ (y, NameKind.cell) ∈ ([_, _, _, _, _, _] : List (Str × NameKind))
      intro q
      simp at q
    case args =>
      repeat walk_at "m"
      refine WE_CallT zz Boot.«tuple» ?_
      repeat walk_at "m"
      refine WC_tuple_tup ?_
      repeat walk_at "m"
      refine WE_CallT zz Boot.«tuple» ?_
      repeat walk_at "m"
      refine WC_tuple_tup ?_
      refine W2_addT ?_ (by unfold intsM; rw [List.length_map, List.length_map]; first | lia | omega)
      repeat walk_at "m"
      exact ⟨rfl, rfl⟩
    rintro vs s₃ ⟨ds, H', sh3, V3, st3, rfl, rfl⟩
    have hq3 : s₃.heap.get? h1.objs.size = some (methodObj (.ref 262) (.ref x)) := st3.keep _ _ hq hHq id
    have X3 := z.kin.keeps sh3.base
    rw [z.hK] at X3
    refine ⟨⟨hq3, X3⟩, wpAny_call (ks_codeAny_call_bound hq3 ?_)⟩
    have ex3 : s₃.heap.get? x = some (instObj 337 dx) := st3.imm sh2 (fun _ _ z => z.elim) _ _ (k2 _ _ ex0) (.inl trivial)
    refine codeAny_mono (CC_prop (n := n + 2) zz (kvs := []) (K := fun d H4 => d = .none ∧ ∃ kvs', H4 dx = some (.sdict kvs') ∧ kvs'.lookup ("turn" : Str) = none ∧ kvs'.length ≤ 3 ∧ ∀ a, a ≠ dx → H4 a = H' a) hH0x (by show 0 ≤ 50; first | lia | omega) rfl (fun H4 kvs' a e b d => ⟨rfl, kvs', a, e, by simpa using b, d⟩) _ s₃ (.ref x :: vs) (R.deeper _) sh3 (.cons (.inst ex3) V3)) fun r s₄ q => ?_
    rcases r with e | (v | _ | _ | _)
    · exact q.elim
    · exact q.elim
    · exact q.elim
    · exact q.elim
    obtain ⟨d4, H4, sh4, vr4, st4, rfl, kvs', hx4, ht4, hz4, ho4⟩ := q
    have st0 : Stp nw H' H' ⟨hh, g, d, t, os⟩ ⟨h₀, g, d, t + 3, os⟩ := Stp.ext kp
    have stA := ((st0.trans (st2 _)).trans st3).trans st4
    refine wpAt_of_wpAny ?_
    refine mono0 ((?rest : WXs c (n + 5) _ _ _ H4 fun f m' H5 => f = .next ∧ (∃ kvs5, H5 dx = some (.sdict kvs5) ∧ kvs5.lookup ("turn" : Str) = none) ∧ ∀ a, a ≠ dx → H5 a = H4 a) _ _ (R.deeper _) ((((rec_ _ rfl rfl rfl rfl rfl ?kn2).step (st2 _) sh2).step st3 sh3).step st4 sh4)) ?_
    case kn2 =>
      intro y hk
      have := PySem.mem_of_lookup hk
      revert this
      show ¬ (y, NameKind.cell) ∈ ([_, _, _, _, _, _] : List (Str × NameKind))
      intro q
      simp at q
    case rest =>
      have pl : ∀ (k : Str) (d : MV) (l : List (Str × MV)), (putKV k d l).length ≤ l.length + 1 := by
        intro k d l
        induction l with
        | nil => simp [putKV]
        | cons p r ih => obtain ⟨y, e⟩ := p; unfold putKV; split <;> simp <;> first | lia | omega
      have p1 := pl "fs" (.tup (intsM s0)) kvs'
      repeat walk_at "m"
      refine WE_CallT zz Boot.«tuple» ?_
      repeat walk_at "m"
      refine WC_tuple_tup ?_
      repeat walk_at "m"
      refine W2U_attrZ zz hx4 (by first | lia | omega) ?_
      repeat walk_at "m"
      refine WE_CallT zz Boot.«tuple» ?_
      repeat walk_at "m"
      refine WC_tuple_tup ?_
      repeat walk_at "m"
      refine W2U_attrZ zz HV.set_self (by first | lia | omega) ?_
      rw [HV.set_set]
      repeat walk_at "m"
      exact ⟨rfl, ⟨_, HV.set_self, look_put (by decide) (look_put (by decide) ht4)⟩, fun a ha => HV.set_ne ha⟩
    rintro fl s₅ ⟨m', H5, S5, st5, k5⟩
    have hK5 : ∀ a, a ≠ dx → H5 a = H4 a := by cases fl <;> first | exact k5.2.2 | exact k5.choose_spec.2.2.2
    obtain ⟨kvs5, hx5, ht5⟩ : ∃ kvs5, H5 dx = some (.sdict kvs5) ∧ kvs5.lookup ("turn" : Str) = none := by cases fl <;> first | exact k5.2.1 | exact k5.choose_spec.2.2.1
    have fin : ∀ a o, H a = some o → H5 a = some o := fun a o e => by
      have na : a ≠ dx := by rintro rfl; rw [hdx] at e; cases e
      rw [hK5 a na, ho4 a na, ← hH0]
      rw [HV.set_ne na]; exact e
    have stn : Stp nw H' H5 ⟨hh, g, d, t, os⟩ s₅ := (stA.toOwn.trans st5).weak fun a w => .inr (by
      rcases w with rfl | ⟨y, hk, _⟩
      · exact hL
      · exfalso
        have := PySem.mem_of_lookup hk
        revert this
        show ¬ (y, NameKind.cell) ∈ ([_, _, _, _, _, _] : List (Str × NameKind))
        intro q
        simp at q)
    cases fl with
    | ret v => obtain ⟨_, _, e, _⟩ := k5; cases e
    | next => exact ⟨.none, H5, S5.sh, .none, stn, rfl, h x dx kvs5 H5 hdx hx5 ht5 fin⟩
    | brk => exact ⟨.none, H5, S5.sh, .none, stn, rfl, h x dx kvs5 H5 hdx hx5 ht5 fin⟩
    | cont => exact ⟨.none, H5, S5.sh, .none, stn, rfl, h x dx kvs5 H5 hdx hx5 ht5 fin⟩
end
end
section
-- P3
section
variable {c : Cx} {n : Nat} {env : Env} {m : Loc} {H : HV}
theorem WE_Dict3 {k1 k2 k3 : Str} {c1 c2 c3 : Nat} {p1 p2 p3 pos : Pos} {e1 e2 e3 : Expr} {K : MV → HV → Prop}
    (h : WE c n env e1 m H fun d1 H1 => WE c n env e2 m H1 fun d2 H2 => WE c n env e3 m H2 fun d3 H3 => ∀ a, H3 a = none → c.B.get? a = none → K (.ref a) (H3.set a (.smap [(k1, d1), (k2, d2), (k3, d3)])))
    (hn : [k1, k2, k3].Nodup := by decide) : WE c n env (.Dict [some (.Constant (.str k1) c1 p1), some (.Constant (.str k2) c2 p2), some (.Constant (.str k3) c3 p3)] [e1, e2, e3] pos) m H K := by
  intro A s R S
  refine wpAny_Dict_pairs (knd := strKind c.prog c.w) (pairs := [(eval (.Constant (.str k1) c1 p1) env, do let x ← eval e1 env; standAt pos; pure x), (eval (.Constant (.str k2) c2 p2) env, do let x ← eval e2 env; standAt pos; pure x), (eval (.Constant (.str k3) c3 p3) env, do let x ← eval e3 env; standAt pos; pure x)]) rfl (by simp) (by show 3 ≤ 15; first | lia | omega) ?_
  have hD : s.heap.get? s.heap.objs.size = none := get_size
  have st0 : ∀ tk, Stp nw H H s { s with heap := s.heap.push { cls := .type "dict", data := .dict #[] }, toks := tk } := fun tk => Stp.ext push_keep
  have sh0 : Sh c H (s.heap.push { cls := .type "dict", data := .dict #[] }) := S.sh.ext push_keep
  have hD0 : (s.heap.push { cls := .type "dict", data := .dict #[] }).get? s.heap.objs.size = some { cls := .type "dict", data := .dict #[] } := Heap.get?_push_size _ rfl
  have hHD : H s.heap.objs.size = none := S.sh.fresh hD
  unfold evalPairs
  refine wpAny_bind (wpAny_Constant_str (wpAny_bind (wpAny_holding (wpAny_bind (mono0 (h A _ R (S.step (st0 _) sh0)) ?_)))))
  rintro v1 s1 ⟨d1, H1, sh1, vr1, st1, h1⟩
  refine wpAny_bind (wpAny_standAt (wpAny_pure (wpAny_bind (wpAny_holding ?_))))
  unfold evalPairs
  have S1 := (S.step (st0 _) sh0).step st1 sh1
  refine wpAny_bind (wpAny_Constant_str (wpAny_bind (wpAny_holding (wpAny_bind (mono0 (h1 A _ R (S1.step (Stp.tok (tk := s1.toks + 1)) sh1)) ?_)))))
  rintro v2 s2 ⟨d2, H2, sh2, vr2, st2, h2⟩
  refine wpAny_bind (wpAny_standAt (wpAny_pure (wpAny_bind (wpAny_holding ?_))))
  unfold evalPairs
  have st2' := (Stp.tok (H := H1) (s := s1) (tk := s1.toks + 1)).trans st2
  have S2 := S1.step st2' sh2
  refine wpAny_bind (wpAny_Constant_str (wpAny_bind (wpAny_holding (wpAny_bind (mono0 (h2 A _ R (S2.step (Stp.tok (tk := s2.toks + 1)) sh2)) ?_)))))
  rintro v3 s3 ⟨d3, H3, sh3, vr3, st3, h3⟩
  refine wpAny_bind (wpAny_standAt (wpAny_pure (wpAny_bind (wpAny_holding ?_))))
  unfold evalPairs
  have st3' := (Stp.tok (H := H2) (s := s2) (tk := s2.toks + 1)).trans st3
  refine wpAny_pure (wpAny_pure (wpAny_pure (wpAny_pure ?_)))
  have hd1 : s1.heap.get? s.heap.objs.size = some { cls := .type "dict", data := .dict #[] } := st1.keep _ _ hD0 hHD id
  have hH1 : H1 s.heap.objs.size = none := none_of_fresh st1.fresh hD0 hHD
  have hd2 := st2'.keep _ _ hd1 hH1 id
  have hH2 : H2 s.heap.objs.size = none := none_of_fresh st2'.fresh hd1 hH1
  have hd3 := st3'.keep _ _ hd2 hH2 id
  have hH3 : H3 s.heap.objs.size = none := none_of_fresh st3'.fresh hd2 hH2
  have w1 := (st2'.trans st3').vr sh1 vr1
  have w2 := st3'.vr sh2 vr2
  have bD := newB S.sh hD
  refine ⟨[(k1, v1), (k2, v2), (k3, v3)], ⟨strKind_is c.prog c.w k1 _, rfl, strKind_is c.prog c.w k2 _, rfl, strKind_is c.prog c.w k3 _, rfl, trivial⟩, dict_empty hd3, fun h' hd' hs' => ?_⟩
  rw [merged_nil_of_nodup _ (by simpa using hn)] at hd'
  have kn : ∀ b ob, b ≠ s.heap.objs.size → s3.heap.get? b = some ob → h'.get? b = some ob := fun b ob q e => hs'.extBut b ob q e
  have hni : ∃ o, s3.heap.get? s.heap.objs.size = some o ∧ ¬ imm o := ⟨_, hd3, imm_dict rfl⟩
  obtain ⟨shF, kiF⟩ := sh3.off hH3 bD hni kn
  have shN : Sh c (H3.set s.heap.objs.size (.smap [(k1, d1), (k2, d2), (k3, d3)])) h' := by
    refine ⟨shF.base, fun b o e => ?_, fun b o e => ?_⟩
    · by_cases q : b = s.heap.objs.size
      · rw [q]; exact bD
      · rw [HV.set_ne q] at e; exact shF.new b o e
    · by_cases q : b = s.heap.objs.size
      · subst q; rw [HV.set_self] at e; cases e
        exact .smap hd' (.cons (w1.mono kiF) (.cons (w2.mono kiF) (.cons (vr3.mono kiF) .nil)))
      · rw [HV.set_ne q] at e; exact shF.rel b o e
  refine ⟨.ref _, _, shN, .ref _, ?_, h3 _ hH3 bD⟩
  have stA := (((st0 _).trans st1).trans st2').trans st3'
  have stC : ∀ tk, Stp (fun a => a = s.heap.objs.size) H3 (H3.set s.heap.objs.size (.smap [(k1, d1), (k2, d2), (k3, d3)])) s3 { s3 with heap := h', toks := tk } := fun tk => ⟨⟨h', tk, rfl⟩, fun a o e _ w => kn a o w e, fun a n o e => .inr (by
    by_cases q : a = s.heap.objs.size
    · exact q
    · rw [HV.set_ne q, n] at e; cases e), fun a o e w => ⟨o, kn a o w e⟩⟩
  exact ((stA.weaker (o' := fun a => a = s.heap.objs.size) fun a z => z.elim).trans (stC _)).weak fun a z => .inr (z ▸ hD)
end
end
section
-- Q1
theorem zip_getattr_none : typeLookup (.type "zip") "__getattr__" = pure none := by rw [typeLookup_type, builtinLookup_eq_fast]; kernel_rfl
theorem zip_keys_none : typeLookup (.type "zip") "keys" = pure none := by rw [typeLookup_type, builtinLookup_eq_fast]; kernel_rfl
theorem entry_zip_getattribute : entryFor table "zip.__getattribute__" = some Builtin.«object.__getattribute__» :=
  entryFor_alias (id' := "object.__getattribute__") (by rw [fastTable_eq_tree]; kernel_rfl) (by decide +kernel) (by rw [Fast.canonicalY_eq]; kernel_rfl) (by rw [fastTable_eq_tree]; kernel_rfl)

theorem meets_miss_zip (a : Addr) (vs : Array Value) (u : Tok) :
    Meets (Builtin.«object.__getattribute__» ⟨[.ref a, .str "keys" u], []⟩) (fun A R s => s.heap.get? a = some { cls := .type "zip", dict := none, data := .fields vs, slots := #[] } ∧ raisesAttr (.ref a) "keys" A R s) :=
  Meets.of_wp fun prog w A R s hs => by
    obtain ⟨hp, g, d, tk, os⟩ := s
    obtain ⟨hx, hs⟩ := hs
    have hT : (⟨hp, g, d, tk, os⟩ : Shared).TypeIs (.ref a) "zip" := ⟨_, hx, rfl⟩
    have hmiss := zip_keys_none
    have hname : (["__module__", "__name__", "__qualname__", "__doc__", "__annotations__"] : List Str).contains "keys" = false := by decide
    unfold Builtin.«object.__getattribute__»
    repeat (any_goals (first | assumption | wp_step))
    all_goals try simp only [hname, Bool.false_eq_true, if_false]
    repeat (any_goals (first | assumption | wp_step))
    exact wpAny_raiseAttrError hs.1 hs.2 (attrMsg_fits (by decide +kernel) (by decide +kernel))

theorem getAttrQ_zip {prog : Program} {w : World} {A : Around} {E : Value → Shared → Prop} {s : Shared} {a : Addr} {vs : Array Value} {Q : Option Value → Shared → Prop}
    (hx : s.heap.get? a = some { cls := .type "zip", dict := none, data := .fields vs, slots := #[] }) (hA : A.handled = none)
    (h : ∀ h' tk, (∀ b o, s.heap.get? b = some o → h'.get? b = some o) → Q none { s with heap := h', toks := tk }) :
    wpAny (model prog w) A (getAttr? (.ref a) "keys") Q E s := by
  obtain ⟨hp, g, d, tk, os⟩ := s
  have hT : ∀ tk', (⟨hp, g, d, tk', os⟩ : Shared).TypeIs (.ref a) "zip" := fun _ => ⟨_, hx, rfl⟩
  have f1 := sub_AttributeError
  have f3 := PySem.F.slot_zip_getattribute.lookup
  have f4 := PySem.F.slot_zip_getattribute.bind (.ref a)
  have f5 := zip_getattr_none
  unfold getAttr? getAttrBy? getAttrBy
  repeat (any_goals (first | assumption | exact hT _ | ((with_reducible show wpAny _ _ (call (Value.builtin "zip.__getattribute__") _ _) _ _ _); refine call_meets PySem.F.slot_zip_getattribute (hT _) entry_zip_getattribute (PySem.F.args_zip_getattribute_2 _ _) (meets_miss_zip a vs _) ⟨hx, hA, fun h' tk' e hx' => ?_⟩) | wp_step))
  obtain ⟨t', u', he⟩ := hx'.there
  show wpAny _ _ (getattributeRaised _ _ _ _ _ _ _) _ _ _
  unfold getattributeRaised
  repeat (any_goals (first | assumption | wp_step))
  exact h _ _ hx'.keeps
end
section
-- Q2
noncomputable abbrev IsZ (h : Heap) (z TI TO : Addr) (f0 : Value) (fb : Bool) : Prop :=
  h.get? z = some { cls := .type "zip", dict := none, data := .fields #[f0, .bool fb, .bool false, .ref TI, .ref TO], slots := #[] }

section
variable {prog : Program} {w : World} {A : Around} {E : Value → Shared → Prop} {s : Shared}
/-- the first draw: the zip's own tuple is free -/
theorem zip_first {z TI TO i1 i2 l1 l2 : Addr} {k1 k2 : Nat} {xs ys : Array Value} {x y a b : Value} {Q : Value → Shared → Prop} (D : ZipApart z TI TO i1 i2 l1 l2)
    (hz : IsZip s.heap z TI TO .none) (hTI : IsPair s.heap TI (.ref i1) (.ref i2)) (hTO : IsPair s.heap TO a b)
    (h1 : s.heap.IsTupleIter i1 l1 k1) (h2 : s.heap.IsListIter i2 l2 k2) (hl1 : s.heap.IsTuple l1 xs) (hl2 : s.heap.IsList l2 ys) (hx : xs[k1]? = some x) (hy : ys[k2]? = some y)
    (hQ : ∀ h', IsZ h' z TI TO (rawInt s.heap.objs.size) false → IsPair h' TO x y → h'.IsTupleIter i1 l1 (k1 + 1) → h'.IsListIter i2 l2 (k2 + 1) → IsPair h' s.heap.objs.size x y →
      (∀ c o, c ≠ z → c ≠ TO → c ≠ i1 → c ≠ i2 → s.heap.get? c = some o → h'.get? c = some o) → Q (.ref s.heap.objs.size) { s with heap := h' }) :
    wpAny (model prog w) A (Builtin.«zip.__next__» ⟨[.ref z], []⟩) (fun fin s' => ∃ v, fin = .done (.ret v) ∧ Q v s') E s := by
  show wpAny _ _ (field (.ref z) 2 >>= _) _ _ _
  refine wpAny_bind (wpAny_field hz rfl (x := .bool false) rfl ?_)
  show wpAny _ _ (field (.ref z) 3 >>= _) _ _ _
  refine wpAny_bind (wpAny_field hz rfl (x := .ref TI) rfl ?_)
  refine wpAny_bind (wpAny_seqItems hTI rfl ?_)
  show wpAny _ _ (Builtin.SmallTypes.ownedTupleIsFree (.ref z) >>= _) _ _ _
  refine wpAny_bind ?_
  unfold Builtin.SmallTypes.ownedTupleIsFree
  refine wpAny_bind (wpAny_field hz rfl (x := .none) rfl (wpAny_pure ?_))
  simp only [if_true]
  refine wpAny_bind (wpAny_rule ?_)
  refine wpAny_bind (wpAny_field hz rfl (x := .ref TO) rfl ?_)
  refine wpAny_bind (wpAny_setField_rec hz (by simp) fun h₁ hz₁ hs₁ => ?_)
  replace hz₁ : IsZip h₁ z TI TO .ellipsis := hz₁
  refine wpAny_bind ?_
  simp only [List.zipIdx_cons, List.zipIdx_nil, List.forIn_cons, List.forIn_nil]
  refine wpAny_bind (wpAny_bind (wpAny_onRaise ?_))
  show wpAny _ _ (Builtin.SmallTypes.nextOf (.ref i1) >>= _) _ _ _
  refine wpAny_bind (next_tuple_item (h1.extBut hs₁.extBut D.i1z) (hl1.extBut hs₁.extBut D.l1z) hx fun h₂ h1₂ hs₂ => wpAny_pure ?_)
  have hTO₂ : IsPair h₂ TO a b := hs₂.extBut _ _ D.TOi1 (hs₁.extBut _ _ D.TOz hTO)
  refine wpAny_bind (wpAny_seqItems hTO₂ rfl ?_)
  refine wpAny_bind (wpAny_updateSeq_pair hTO₂ fun h₃ hTO₃ hs₃ => ?_)
  replace hTO₃ : IsPair h₃ TO x b := hTO₃
  refine wpAny_bind (wpAny_letGo (wpAny_pure ?_))
  refine wpAny_bind (wpAny_bind (wpAny_onRaise ?_))
  show wpAny _ _ (Builtin.SmallTypes.nextOf (.ref i2) >>= _) _ _ _
  refine wpAny_bind (wpAny_nextOf_list_item (((h2.extBut hs₁.extBut D.i2z).extBut hs₂.extBut D.i12.symm).extBut hs₃.extBut D.TOi2.symm)
    (((hl2.extBut hs₁.extBut D.l2z).extBut hs₂.extBut D.l2i1).extBut hs₃.extBut D.l2TO) hy fun h₄ h2₄ hs₄ => wpAny_pure ?_)
  have hTO₄ : IsPair h₄ TO x b := hs₄.extBut _ _ D.TOi2 hTO₃
  refine wpAny_bind (wpAny_seqItems hTO₄ rfl ?_)
  refine wpAny_bind (wpAny_updateSeq_pair hTO₄ fun h₅ hTO₅ hs₅ => ?_)
  replace hTO₅ : IsPair h₅ TO x y := hTO₅
  refine wpAny_bind (wpAny_letGo (wpAny_pure (wpAny_pure ?_)))
  refine wpAny_bind (wpAny_seqItems hTO₅ rfl ?_)
  refine wpAny_bind (wpAny_newTuple ?_)
  have hsz : h₅.objs.size = s.heap.objs.size := by rw [hs₅.1, hs₄.1, hs₃.1, hs₂.1, hs₁.1]
  have hz₅ : IsZip h₅ z TI TO .ellipsis := hs₅.extBut _ _ D.TOz.symm (hs₄.extBut _ _ D.i2z.symm (hs₃.extBut _ _ D.TOz.symm (hs₂.extBut _ _ D.i1z.symm hz₁)))
  have hk₅ : ∀ c o, c ≠ z → c ≠ TO → c ≠ i1 → c ≠ i2 → s.heap.get? c = some o → h₅.get? c = some o := fun c o c1 c2 c3 c4 e =>
    hs₅.extBut _ _ c2 (hs₄.extBut _ _ c4 (hs₃.extBut _ _ c2 (hs₂.extBut _ _ c3 (hs₁.extBut _ _ c1 e))))
  have h1₅ : h₅.IsTupleIter i1 l1 (k1 + 1) := ((h1₂.extBut hs₃.extBut D.TOi1.symm).extBut hs₄.extBut D.i12).extBut hs₅.extBut D.TOi1.symm
  have h2₅ : h₅.IsListIter i2 l2 (k2 + 1) := h2₄.extBut hs₅.extBut D.TOi2.symm
  have hzlt : z < h₅.objs.size := Heap.lt_size hz₅
  show wpAny _ _ (Builtin.SmallTypes.ownedTupleHandOut (.ref z) (.ref h₅.objs.size) >>= _) _ _ _
  refine wpAny_bind ?_
  unfold Builtin.SmallTypes.ownedTupleHandOut
  have hz₆ : IsZip (h₅.push { cls := .type "tuple", data := .seq #[x, y] }) z TI TO .ellipsis := Heap.get?_push_of_some _ hz₅
  refine wpAny_bind (wpAny_setField_rec hz₆ (by simp) fun h₇ hz₇ hs₇ => ?_)
  replace hz₇ : IsZip h₇ z TI TO (rawInt h₅.objs.size) := hz₇
  refine wpAny_setField_rec hz₇ (by simp) fun h₈ hz₈ hs₈ => ?_
  replace hz₈ : IsZip h₈ z TI TO (rawInt h₅.objs.size) := hz₈
  have up : ∀ c o, c ≠ z → h₅.get? c = some o → h₈.get? c = some o := fun c o c1 e => hs₈.extBut _ _ c1 (hs₇.extBut _ _ c1 (Heap.get?_push_of_some _ e))
  have hT₈ : IsPair h₈ h₅.objs.size x y := hs₈.extBut _ _ (Nat.ne_of_gt hzlt) (hs₇.extBut _ _ (Nat.ne_of_gt hzlt) (Heap.get?_push_size _ rfl))
  rw [hsz] at hz₈ hT₈
  refine wpAny_pure ⟨_, rfl, ?_⟩
  show Q (.ref h₅.objs.size) _
  rw [hsz]
  exact hQ h₈ hz₈ (up _ _ D.TOz hTO₅) (h1₅.at fun o e => up _ o D.i1z e) (h2₅.at fun o e => up _ o D.i2z e) hT₈ fun c o c1 c2 c3 c4 e => up c o c1 (hk₅ c o c1 c2 c3 c4 e)

theorem zip_free {z TI TO T : Addr} {fb : Bool} {o : Obj} {Q : Bool → Shared → Prop} (hz : IsZ s.heap z TI TO (rawInt T) fb) (hT : s.heap.get? T = some o)
    (hQ : ∀ h', IsZ h' z TI TO (rawInt T) true → Heap.SameBut z s.heap h' → Q false { s with heap := h' }) : wpAny (model prog w) A (Builtin.SmallTypes.ownedTupleIsFree (.ref z)) Q E s := by
  unfold Builtin.SmallTypes.ownedTupleIsFree
  refine wpAny_bind (wpAny_field hz rfl (x := rawInt T) rfl ?_)
  show wpAny _ _ (loadIfAlive ((T : Int).toNat) >>= _) _ _ _
  rw [Int.toNat_natCast]
  refine wpAny_bind ?_
  have look : ∀ {Q' : Option Obj → Shared → Prop}, Q' (some o) s → wpAny (model prog w) A (loadIfAlive T) Q' E s := fun q Γ p hΓ => by
    show Sem.wp _ _ (.loadIfAlive T .pure) _ _ _ _
    rw [Sem.wp_loadIfAlive, hT]
    exact q
  refine look ?_
  simp only [Option.isNone_some, Bool.false_eq_true, if_false]
  refine wpAny_bind (wpAny_field hz rfl (x := .bool fb) rfl ?_)
  cases fb with
  | true => exact wpAny_pure (hQ _ hz (Heap.SameBut.refl _ _))
  | false =>
    refine wpAny_bind (wpAny_setField_rec hz (by simp) fun h₁ hz₁ hs₁ => wpAny_pure (hQ h₁ hz₁ hs₁))

/-- a later draw -/
theorem zip_later {z TI TO i1 i2 l1 l2 T : Addr} {k1 k2 : Nat} {xs ys : Array Value} {x y : Value} {fb : Bool} {o : Obj} {Q : Value → Shared → Prop} (D : ZipApart z TI TO i1 i2 l1 l2)
    (hz : IsZ s.heap z TI TO (rawInt T) fb) (hT : s.heap.get? T = some o) (hTI : IsPair s.heap TI (.ref i1) (.ref i2))
    (h1 : s.heap.IsTupleIter i1 l1 k1) (h2 : s.heap.IsListIter i2 l2 k2) (hl1 : s.heap.IsTuple l1 xs) (hl2 : s.heap.IsList l2 ys) (hx : xs[k1]? = some x) (hy : ys[k2]? = some y)
    (hQ : ∀ h' R, IsZ h' z TI TO (rawInt T) true → h'.IsTupleIter i1 l1 (k1 + 1) → h'.IsListIter i2 l2 (k2 + 1) → IsPair h' R x y →
      (∀ c o, c ≠ z → c ≠ i1 → c ≠ i2 → s.heap.get? c = some o → h'.get? c = some o) → Q (.ref R) { s with heap := h' }) :
    wpAny (model prog w) A (Builtin.«zip.__next__» ⟨[.ref z], []⟩) (fun fin s' => ∃ v, fin = .done (.ret v) ∧ Q v s') E s := by
  show wpAny _ _ (field (.ref z) 2 >>= _) _ _ _
  refine wpAny_bind (wpAny_field hz rfl (x := .bool false) rfl ?_)
  show wpAny _ _ (field (.ref z) 3 >>= _) _ _ _
  refine wpAny_bind (wpAny_field hz rfl (x := .ref TI) rfl ?_)
  refine wpAny_bind (wpAny_seqItems hTI rfl ?_)
  show wpAny _ _ (Builtin.SmallTypes.ownedTupleIsFree (.ref z) >>= _) _ _ _
  refine wpAny_bind (zip_free hz hT fun h₁ hz₁ hs₁ => ?_)
  simp only [Bool.false_eq_true, if_false]
  refine wpAny_bind ?_
  rw [← Array.forIn_toList]
  simp only [List.forIn_cons, List.forIn_nil]
  refine wpAny_bind (wpAny_bind (wpAny_holding ?_))
  show wpAny _ _ (Builtin.SmallTypes.nextOf (.ref i1) >>= _) _ _ _
  refine wpAny_bind (next_tuple_item (h1.extBut hs₁.extBut D.i1z) (hl1.extBut hs₁.extBut D.l1z) hx fun h₂ h1₂ hs₂ => wpAny_pure ?_)
  refine wpAny_pure (wpAny_bind (wpAny_bind (wpAny_holding ?_)))
  show wpAny _ _ (Builtin.SmallTypes.nextOf (.ref i2) >>= _) _ _ _
  refine wpAny_bind (wpAny_nextOf_list_item ((h2.extBut hs₁.extBut D.i2z).extBut hs₂.extBut D.i12.symm)
    ((hl2.extBut hs₁.extBut D.l2z).extBut hs₂.extBut D.l2i1) hy fun h₄ h2₄ hs₄ => wpAny_pure ?_)
  refine wpAny_pure (wpAny_pure ?_)
  refine wpAny_bind (wpAny_newTuple ?_ (by show 2 ≤ sizeLine; rw [sizeLine_eq]; first | lia | omega))
  have hz₄ : IsZ h₄ z TI TO (rawInt T) true := hs₄.extBut _ _ D.i2z.symm (hs₂.extBut _ _ D.i1z.symm hz₁)
  refine wpAny_pure ⟨_, rfl, hQ _ _ (Heap.get?_push_of_some _ hz₄) ((h1₂.extBut hs₄.extBut D.i12).at fun o e => Heap.get?_push_of_some _ e) (h2₄.at fun o e => Heap.get?_push_of_some _ e) (Heap.get?_push_size _ rfl) fun c o c1 c3 c4 e => Heap.get?_push_of_some _ (hs₄.extBut _ _ c4 (hs₂.extBut _ _ c3 (hs₁.extBut _ _ c1 e)))⟩

theorem zip_last {z TI TO i1 i2 l1 l2 T : Addr} {k1 : Nat} {xs : Array Value} {fb : Bool} {o : Obj} {Q : Fin → Shared → Prop} (hh : A.handled = none) (D : ZipApart z TI TO i1 i2 l1 l2)
    (hz : IsZ s.heap z TI TO (rawInt T) fb) (hT : s.heap.get? T = some o) (hTI : IsPair s.heap TI (.ref i1) (.ref i2))
    (h1 : s.heap.IsTupleIter i1 l1 k1) (hl1 : s.heap.IsTuple l1 xs) (hx : xs[k1]? = none)
    (hE : ∀ h' e, (∀ c o, c ≠ z → c ≠ i1 → s.heap.get? c = some o → h'.get? c = some o) → (∃ o, h'.get? e = some o ∧ o.cls = .type "StopIteration") → E (.ref e) { s with heap := h' }) :
    wpAny (model prog w) A (Builtin.«zip.__next__» ⟨[.ref z], []⟩) Q E s := by
  show wpAny _ _ (field (.ref z) 2 >>= _) _ _ _
  refine wpAny_bind (wpAny_field hz rfl (x := .bool false) rfl ?_)
  show wpAny _ _ (field (.ref z) 3 >>= _) _ _ _
  refine wpAny_bind (wpAny_field hz rfl (x := .ref TI) rfl ?_)
  refine wpAny_bind (wpAny_seqItems hTI rfl ?_)
  show wpAny _ _ (Builtin.SmallTypes.ownedTupleIsFree (.ref z) >>= _) _ _ _
  refine wpAny_bind (zip_free hz hT fun h₁ hz₁ hs₁ => ?_)
  simp only [Bool.false_eq_true, if_false]
  refine wpAny_bind ?_
  rw [← Array.forIn_toList]
  simp only [List.forIn_cons, List.forIn_nil]
  refine wpAny_bind (wpAny_bind (wpAny_holding ?_))
  show wpAny _ _ (Builtin.SmallTypes.nextOf (.ref i1) >>= _) _ _ _
  refine wpAny_bind (next_tuple_end hh (h1.extBut hs₁.extBut D.i1z) (hl1.extBut hs₁.extBut D.l1z) hx fun h₂ e hs₂ he => hE h₂ e (fun c o c1 c3 q => hs₂ _ _ c3 (hs₁.extBut _ _ c1 q)) he)
end
end
section
-- Q3
noncomputable abbrev zH1 (h : Heap) (l1 : Addr) : Heap := h.push { cls := .type "tuple_iterator", data := .fields #[.ref l1, .int 0 0] }
noncomputable abbrev zH2 (h : Heap) (l1 l2 : Addr) : Heap := (zH1 h l1).push { cls := .type "list_iterator", data := .fields #[.ref l2, .int 0 0] }
noncomputable abbrev zH3 (h : Heap) (l1 l2 : Addr) : Heap := (zH2 h l1 l2).push { cls := .type "tuple", data := .seq #[.ref h.objs.size, .ref (zH1 h l1).objs.size] }
noncomputable abbrev zH4 (h : Heap) (l1 l2 : Addr) : Heap := (zH3 h l1 l2).push { cls := .type "tuple", data := .seq #[.none, .none] }
noncomputable abbrev zH5 (h : Heap) (l1 l2 : Addr) : Heap := (zH4 h l1 l2).push { cls := .type "zip", data := .fields #[.none, .bool false, .bool false, .ref (zH2 h l1 l2).objs.size, .ref (zH3 h l1 l2).objs.size] }

theorem meets_zip_tl (l1 l2 : Addr) (xs ys : Array Value) :
    Meets (Builtin.«zip.__new__» ⟨[.type "zip", .ref l1, .ref l2], []⟩) (fun _ R s => s.heap.IsTuple l1 xs ∧ s.heap.IsList l2 ys ∧
      R (.ok (.ret (.ref (zH4 s.heap l1 l2).objs.size))) { s with heap := zH5 s.heap l1 l2 }) :=
  .of_wp fun prog w A R s h => by
    obtain ⟨hp, g, d, tk, os⟩ := s; obtain ⟨hl1, hl2, h⟩ := h
    have hsub := sub_zip
    have hL1 : Heap.IsTuple (Shared.heap ⟨hp, g, d, tk, os⟩) l1 xs := hl1
    have hL2 : Heap.IsList (Shared.heap ⟨hp.push { cls := .type "tuple_iterator", data := .fields #[.ref l1, .int 0 0] }, g, d, tk, os⟩) l2 ys := Heap.IsList.push hl2 _
    wp_walk using wpAny_pyIter_tuple hL1, wpAny_pyIter_list hL2
    exact ⟨_, rfl, h⟩

section
variable {prog : Program} {w : World} {A : Around} {E : Value → Shared → Prop} {s : Shared}

theorem call_zip_tl {l1 l2 : Addr} {xs ys : Array Value} {Q : Value → Shared → Prop} (hl1 : s.heap.IsTuple l1 xs) (hl2 : s.heap.IsList l2 ys)
    (h : ∀ h', IsZ h' (s.heap.objs.size + 4) (s.heap.objs.size + 2) (s.heap.objs.size + 3) .none false → IsPair h' (s.heap.objs.size + 2) (.ref s.heap.objs.size) (.ref (s.heap.objs.size + 1)) →
      IsPair h' (s.heap.objs.size + 3) .none .none → h'.IsTupleIter s.heap.objs.size l1 0 → h'.IsListIter (s.heap.objs.size + 1) l2 0 →
      (∀ c o, s.heap.get? c = some o → h'.get? c = some o) → Q (.ref (s.heap.objs.size + 4)) { s with heap := h' }) :
    wpAny (model prog w) A (call (.type "zip") [.ref l1, .ref l2]) Q E s := by
  refine callType_new PySem.F.called_zip (by decide) (PySem.F.typeCall_zip_2 _ _) (PySem.F.newCall_zip_2 _ _) (fun obj => PySem.F.args_object_init_3 obj _ _) PySem.F.entry_zip_new
    (meets_zip_tl l1 l2 xs ys) ⟨hl1, hl2, ?_⟩
  have z1 : (zH1 s.heap l1).objs.size = s.heap.objs.size + 1 := Heap.size_push ..
  have z2 : (zH2 s.heap l1 l2).objs.size = s.heap.objs.size + 2 := by rw [Heap.size_push, z1]
  have z3 : (zH3 s.heap l1 l2).objs.size = s.heap.objs.size + 3 := by rw [Heap.size_push, z2]
  have z4 : (zH4 s.heap l1 l2).objs.size = s.heap.objs.size + 4 := by rw [Heap.size_push, z3]
  have g5 : (zH5 s.heap l1 l2).get? (zH4 s.heap l1 l2).objs.size = some _ := Heap.get?_push_size _ rfl
  have g4 : (zH5 s.heap l1 l2).get? (zH3 s.heap l1 l2).objs.size = some _ := Heap.get?_push_of_some _ (Heap.get?_push_size _ rfl)
  have g3 : (zH5 s.heap l1 l2).get? (zH2 s.heap l1 l2).objs.size = some _ := Heap.get?_push_of_some _ (Heap.get?_push_of_some _ (Heap.get?_push_size _ rfl))
  have g2 : (zH5 s.heap l1 l2).get? (zH1 s.heap l1).objs.size = some _ := Heap.get?_push_of_some _ (Heap.get?_push_of_some _ (Heap.get?_push_of_some _ (Heap.get?_push_size _ rfl)))
  have g1 : (zH5 s.heap l1 l2).get? s.heap.objs.size = some _ := Heap.get?_push_of_some _ (Heap.get?_push_of_some _ (Heap.get?_push_of_some _ (Heap.get?_push_of_some _ (Heap.get?_push_size _ rfl))))
  show _ ∧ _
  rw [z2, z3, z4] at g5
  rw [z1, z2] at g3
  rw [z3] at g4
  rw [z1] at g2
  rw [z4]
  exact ⟨⟨_, g5, rfl⟩, h _ g5 g3 g4 ⟨_, g1, rfl, rfl⟩ ⟨_, g2, rfl, rfl⟩ fun c o x =>
    Heap.get?_push_of_some _ (Heap.get?_push_of_some _ (Heap.get?_push_of_some _ (Heap.get?_push_of_some _ (Heap.get?_push_of_some _ x))))⟩

theorem entry_update_loop : entryFor table "dict.update.loop" = some Builtin.«dict.update.loop» := entryFor_of_tree (by kernel_rfl)
theorem plain_update_loop : plainId "dict.update.loop" = true := by decide +kernel

theorem pyNext_zip_of {z : Addr} {vs : Array Value} {Q : Option Value → Shared → Prop} (hz : s.heap.get? z = some { cls := .type "zip", dict := none, data := .fields vs, slots := #[] })
    (h : wpAny (model prog w) A.in1 (Builtin.«zip.__next__» ⟨[.ref z], []⟩) (fun fin s' => ∃ v, fin = .done (.ret v) ∧ Q (some v) s')
      (fun e s' => ∃ a, e = .ref a ∧ (∃ o, s'.heap.get? a = some o ∧ o.cls = .type "StopIteration") ∧ Q none s') s) : wpAny (model prog w) A (pyNext (.ref z)) Q E s := by
  have hT : s.TypeIs (.ref z) "zip" := ⟨_, hz, rfl⟩
  unfold pyNext
  refine wpAny_bind (wpAny_attempt (wpAny_callSpecial?_slot (name := Str.ofString "__next__") hT PySem.F.slot_zip_next
    (wpAny_call_entry PySem.F.slot_zip_next hT PySem.F.entry_zip_next (wpAny_mono h (fun fin s' q => ?_) (fun e s' q => ?_)) (PySem.F.args_zip_next_1 _))))
  · obtain ⟨v, rfl, q⟩ := q
    exact ⟨v, rfl, wpAny_pure q⟩
  · obtain ⟨a, rfl, ⟨o, ho, hc⟩, q⟩ := q
    refine wpAny_bind (wpAny_isInstance (T := "StopIteration") (b := true) ⟨o, ho, hc⟩ isSubtype_stop ?_)
    exact wpAny_pure q

/-- a turn of the update, the pair drawn -/
theorem upd_turn {D z R : Addr} {x y : Value} {i : Int} {t : Tok} {k : Int} {kvs : List (Int × Value)} {P : Fin → Shared → Prop} {ra : Value} (hR : ∀ s' : Shared, True)
    (hn : wpAny (model prog w) A (pyNext (.ref z)) (fun r s' => ∃ R, r = some (.ref R) ∧ IsPair s'.heap R (.int k t) y ∧ s'.heap.DictOf (intKind prog w) D kvs ∧ kvs.length ≤ 1000 ∧
      ∀ h', h'.DictOf (intKind prog w) D (stored kvs k y) → Heap.SameBut D s'.heap h' → P (.again (.builtin "dict.update.loop" ⟨[.ref D, .ref z, rawInt (i + 1), ra], []⟩)) { s' with heap := h', toks := s'.toks + 1 }) E s) :
    wpAny (model prog w) A (Builtin.«dict.update.loop» ⟨[.ref D, .ref z, rawInt i, ra], []⟩) P E s := by
  show wpAny _ _ (pyNext (.ref z) >>= _) _ _ _
  refine wpAny_bind (mono1 hn ?_)
  rintro r s' ⟨R, rfl, hp, hd, hz, q⟩
  dsimp only
  have hT : s'.TypeIs (.ref R) "tuple" := ⟨_, hp, rfl⟩
  refine wpAny_bind (wpAny_holding (wpAny_bind (wpAny_tryCatch ?_)))
  unfold Builtin.Dict.pairItems
  refine wpAny_bind (wpAny_typeOf hT ?_)
  rw [if_pos (by decide)]
  refine wpAny_bind (wpAny_seqItems hp rfl (wpAny_pure ?_))
  dsimp only [Option.getD_some]
  refine wpAny_holding (wpAny_dictSet_pairs (hsz := by rw [sizeLine_eq]; first | lia | omega) (intKind_is prog w k t) hd fun h' hd' hs' => ?_)
  exact wpAny_pure (q h' hd' hs')
end
end
section
-- Q4
section
variable {prog : Program} {w : World} {A : Around} {E : Value → Shared → Prop} {s : Shared}

structure ZA where
  D : Addr
  z : Addr
  TI : Addr
  TO : Addr
  i1 : Addr
  i2 : Addr
  l1 : Addr
  l2 : Addr
structure ZA.Ok (a : ZA) : Prop where
  ap : ZipApart a.z a.TI a.TO a.i1 a.i2 a.l1 a.l2
  d : a.D ≠ a.z ∧ a.D ≠ a.TI ∧ a.D ≠ a.TO ∧ a.D ≠ a.i1 ∧ a.D ≠ a.i2 ∧ a.D ≠ a.l1 ∧ a.D ≠ a.l2
noncomputable def ZA.l (a : ZA) : List Addr := [a.D, a.z, a.TO, a.i1, a.i2]
structure ZSt (prog : Program) (w : World) (a : ZA) (xs ys : Array Value) (k : Nat) (kvs : List (Int × Value)) (h : Heap) : Prop where
  z : ∃ f0 fb, IsZ h a.z a.TI a.TO f0 fb ∧ ((k = 0 ∧ f0 = .none ∧ fb = false) ∨ (∃ (T : Addr) (o : Obj), f0 = rawInt (T : Int) ∧ h.get? T = some o ∧ T ∉ a.l))
  ti : IsPair h a.TI (.ref a.i1) (.ref a.i2)
  to : ∃ x y, IsPair h a.TO x y
  i1 : h.IsTupleIter a.i1 a.l1 k
  i2 : h.IsListIter a.i2 a.l2 k
  l1 : h.IsTuple a.l1 xs
  l2 : h.IsList a.l2 ys
  d : h.DictOf (intKind prog w) a.D kvs

theorem upd_run {a : ZA} (ok : a.Ok) (hh : A.handled = none) {xs ys : Array Value} {ns : List Int} (hx : ∀ (k : Nat) (n : Int), ns[k]? = some n → ∃ t : Tok, xs[k]? = some (Value.int n t)) (hxl : xs.size = ns.length) (hyl : ns.length ≤ ys.size) (h4 : ns.length ≤ 100)
    {kvs0 : List (Int × Value)} (hk0 : kvs0.length ≤ 100) {R : Result → Shared → Prop} {s₀ : Shared}
    (hR : ∀ h' tk, h'.DictOf (intKind prog w) a.D (merged kvs0 (ns.zip ys.toList)) → (∀ b o, b ∉ a.l → s₀.heap.get? b = some o → h'.get? b = some o) → R (.ok (.ret .none)) { s₀ with heap := h', toks := tk }) :
    ∀ (r k : Nat) (i : Int) (h : Heap) (tk : Nat), r + k = ns.length → (r = 0 → 0 < k) → ZSt prog w a xs ys k (merged kvs0 ((ns.zip ys.toList).take k)) h → (∀ b o, b ∉ a.l → s₀.heap.get? b = some o → h.get? b = some o) →
      codeAny (model prog w) A (.builtin "dict.update.loop" ⟨[.ref a.D, .ref a.z, rawInt i, .none], []⟩) R { s₀ with heap := h, toks := tk }
  | 0, k, i, h, tk, hk, hpos, S, kp => by
    refine codeAny_builtin entry_update_loop ?_
    rw [Around.under_plainId plain_update_loop _]
    have hk' : k = ns.length := by first | lia | omega
    subst hk'
    obtain ⟨f0, fb, hz, hf⟩ := S.z
    rcases hf with ⟨e, _⟩ | ⟨T, o, rfl, hT, hTn⟩
    · have := hpos rfl; first | lia | omega
    show wpAny _ _ (pyNext (.ref a.z) >>= _) _ _ _
    refine wpAny_bind (pyNext_zip_of hz (zip_last hh ok.ap hz hT S.ti S.i1 S.l1 (by simp [hxl]) fun h' e k1 he => ⟨e, rfl, he, ?_⟩))
    show wpAny _ _ (Builtin.Dict.addKeywords a.D [] >>= _) _ _ _
    refine wpAny_bind (wpAny_pure (wpAny_pure (hR h' tk ?_ fun b o hb q => k1 b o (fun e => hb (by simp [ZA.l, e])) (fun e => hb (by simp [ZA.l, e])) (kp b o hb q))))
    have hd := S.d
    rw [List.take_of_length_le (by rw [List.length_zip]; first | lia | omega)] at hd
    obtain ⟨oo, es, ep, ho, rest⟩ := hd
    exact ⟨oo, es, ep, k1 _ _ ok.d.1 ok.d.2.2.2.1 ho, rest⟩
  | r + 1, k, i, h, tk, hk, hpos, S, kp => by
    refine codeAny_builtin entry_update_loop ?_
    rw [Around.under_plainId plain_update_loop _]
    have hlt : k < ns.length := by first | lia | omega
    obtain ⟨t, hxk⟩ := hx k _ (List.getElem?_eq_getElem hlt)
    have hylt : k < ys.size := by first | lia | omega
    have hyk : ys[k]? = some ys[k] := Array.getElem?_eq_getElem hylt
    obtain ⟨f0, fb, hz, hf⟩ := S.z
    obtain ⟨x0, y0, hto⟩ := S.to
    have hpk : (ns.zip ys.toList)[k]? = some (ns[k], ys[k]) := by
      rw [List.getElem?_zip_eq_some]
      exact ⟨List.getElem?_eq_getElem hlt, by rw [Array.getElem?_toList]; exact hyk⟩
    have hml : (merged kvs0 ((ns.zip ys.toList).take k)).length ≤ 1000 := by
      have e1 := merged_length_le kvs0 ((ns.zip ys.toList).take k)
      have e2 : ((ns.zip ys.toList).take k).length ≤ ns.length := by rw [List.length_take, List.length_zip]; first | lia | omega
      first | lia | omega
    have ap := ok.ap
    obtain ⟨d1, d2, d3, d4, d5, d6, d7⟩ := ok.d
    -- the state behind a draw, the dict then changed
    have next : ∀ (h1 : Heap) (T : Addr) (o : Obj) (fb : Bool), IsZ h1 a.z a.TI a.TO (rawInt T) fb → h1.get? T = some o → T ∉ a.l → (∃ x y, IsPair h1 a.TO x y) → h1.IsTupleIter a.i1 a.l1 (k + 1) → h1.IsListIter a.i2 a.l2 (k + 1) →
        (∀ c o, c ≠ a.z → c ≠ a.TO → c ≠ a.i1 → c ≠ a.i2 → h.get? c = some o → h1.get? c = some o) →
        h1.DictOf (intKind prog w) a.D (merged kvs0 ((ns.zip ys.toList).take k)) ∧ ∀ (h2 : Heap) (tk2 : Nat), h2.DictOf (intKind prog w) a.D (stored (merged kvs0 ((ns.zip ys.toList).take k)) ns[k] ys[k]) → Heap.SameBut a.D h1 h2 →
          codeAny (model prog w) A (.builtin "dict.update.loop" ⟨[.ref a.D, .ref a.z, rawInt (i + 1), .none], []⟩) R { s₀ with heap := h2, toks := tk2 } := by
      intro h1 T o fb hz1 hT1 hTn hto1 hi1 hi2 k1
      have hd1 : h1.DictOf (intKind prog w) a.D (merged kvs0 ((ns.zip ys.toList).take k)) := by
        obtain ⟨oo, es, ep, ho, rest⟩ := S.d
        exact ⟨oo, es, ep, k1 _ _ d1 d3 d4 d5 ho, rest⟩
      refine ⟨hd1, fun h2 tk2 hd2 hs2 => ?_⟩
      refine upd_run ok hh hx hxl hyl h4 hk0 hR r (k + 1) (i + 1) h2 tk2 (by first | lia | omega) (fun _ => Nat.succ_pos k) ⟨⟨_, _, hs2.extBut _ _ (Ne.symm d1) hz1, .inr ⟨T, o, rfl, hs2.extBut _ _ (fun e => hTn (by simp [ZA.l, e])) hT1, hTn⟩⟩, ?_, ?_, ?_, ?_, ?_, ?_, ?_⟩ fun b o hb q => ?_
      · exact hs2.extBut _ _ (Ne.symm d2) (k1 _ _ ap.TIz ap.TITO ap.TIi1 ap.TIi2 S.ti)
      · obtain ⟨x, y, e⟩ := hto1; exact ⟨x, y, hs2.extBut _ _ (Ne.symm d3) e⟩
      · exact hi1.extBut hs2.extBut (Ne.symm d4)
      · exact hi2.extBut hs2.extBut (Ne.symm d5)
      · exact S.l1.at fun o e => hs2.extBut _ _ (Ne.symm d6) (k1 _ _ ap.l1z ap.l1TO ap.l1i1 ap.l1i2 e)
      · exact S.l2.at fun o e => hs2.extBut _ _ (Ne.symm d7) (k1 _ _ ap.l2z ap.l2TO ap.l2i1 ap.l2i2 e)
      · rw [merged_take_succ _ _ _ _ hpk]; exact hd2
      · refine hs2.extBut _ _ (fun e => hb (by simp [ZA.l, e])) (k1 _ _ (fun e => hb (by simp [ZA.l, e])) (fun e => hb (by simp [ZA.l, e])) (fun e => hb (by simp [ZA.l, e])) (fun e => hb (by simp [ZA.l, e])) (kp b o hb q))
    refine upd_turn (R := a.z) (x := .none) (k := ns[k]) (t := t) (y := ys[k]) (kvs := merged kvs0 ((ns.zip ys.toList).take k)) (fun _ => trivial) ?_
    rcases hf with ⟨e, rfl, rfl⟩ | ⟨T, o, rfl, hT, hTn⟩
    · subst e
      refine pyNext_zip_of hz (zip_first ap hz S.ti hto S.i1 S.i2 S.l1 S.l2 hxk hyk fun h1 hz1 hto1 hi1 hi2 hp k1 => ?_)
      have hTn : h.objs.size ∉ a.l := by
        intro hm
        simp only [ZA.l, List.mem_cons, List.not_mem_nil, or_false] at hm
        have lt : ∀ {c o}, h.get? c = some o → h.objs.size ≠ c := fun e => Nat.ne_of_gt (Heap.lt_size e)
        obtain ⟨oo, es, ep, ho, rest⟩ := S.d
        rcases hm with e | e | e | e | e
        · exact lt ho e
        · exact lt hz e
        · exact lt hto e
        · obtain ⟨o, ho, _⟩ := S.i1; exact lt ho e
        · obtain ⟨o, ho, _⟩ := S.i2; exact lt ho e
      obtain ⟨n1, n2⟩ := next h1 h.objs.size _ false hz1 hp hTn ⟨_, _, hto1⟩ hi1 hi2 k1
      exact ⟨_, rfl, hp, n1, hml, fun h2 hd2 hs2 => ⟨plainId_quiet plain_update_loop _, n2 h2 _ hd2 hs2⟩⟩
    · refine pyNext_zip_of hz (zip_later ap hz hT S.ti S.i1 S.i2 S.l1 S.l2 hxk hyk fun h1 R1 hz1 hi1 hi2 hp k1 => ?_)
      have hTn' : T ≠ a.z ∧ T ≠ a.TO ∧ T ≠ a.i1 ∧ T ≠ a.i2 := by
        simp only [ZA.l, List.mem_cons, List.not_mem_nil, or_false, not_or] at hTn
        exact ⟨hTn.2.1, hTn.2.2.1, hTn.2.2.2.1, hTn.2.2.2.2⟩
      obtain ⟨n1, n2⟩ := next h1 T o true hz1 (k1 _ _ hTn'.1 hTn'.2.2.1 hTn'.2.2.2 hT) hTn ⟨_, _, k1 _ _ ap.TOz ap.TOi1 ap.TOi2 hto⟩ hi1 hi2 fun c o c1 _ c3 c4 e => k1 c o c1 c3 c4 e
      exact ⟨_, rfl, hp, n1, hml, fun h2 hd2 hs2 => ⟨plainId_quiet plain_update_loop _, n2 h2 _ hd2 hs2⟩⟩
end
end
section
-- Q5
section
variable {c : Cx} {n : Nat} {env : Env} {m : Loc} {H : HV}
noncomputable def mergedM (kvs more : List (Int × MV)) : List (Int × MV) := more.foldl (fun acc kv => storedM acc kv.1 kv.2) kvs
theorem PR.merged {h : Heap} : ∀ {ns : List Int} {vs : List Value} {ds : List MV} {kvs : List (Int × Value)} {kds : List (Int × MV)}, PR c h kvs kds → VRs c h vs ds → PR c h (PySem.merged kvs (ns.zip vs)) (mergedM kds (ns.zip ds)) := by
  intro ns
  induction ns with
  | nil => exact fun P _ => P
  | cons k ns ih =>
    intro vs ds kvs kds P V
    cases ds with
    | nil => obtain rfl := V.isNil; exact P
    | cons d ds => obtain ⟨v, vs, rfl, r, R⟩ := V.isCons; exact ih (P.stored r) R
theorem ints_at {h : Heap} : ∀ {ns : List Int} {vs : List Value}, VRs c h vs (intsM ns) → ∀ (k : Nat) (x : Int), ns[k]? = some x → ∃ t : Tok, vs.toArray[k]? = some (Value.int x t) := by
  intro ns vs V k x e
  obtain ⟨v, e1, r⟩ := V.get (k := k) (d := .int x) (by unfold intsM; rw [List.getElem?_map, e]; rfl)
  obtain ⟨t, rfl⟩ := r.isInt
  exact ⟨t, by simpa using e1⟩

theorem za_ok {N a l1 l2 : Nat} (a0 : a < N) (t0 : l1 < N) (l0 : l2 < N) (tl : l1 ≠ a) (ll : l2 ≠ a) : ZA.Ok ⟨a, N + 4, N + 2, N + 3, N, N + 1, l1, l2⟩ := by
  refine ⟨⟨?_, ?_, ?_, ?_, ?_, ?_, ?_, ?_, ?_, ?_, ?_, ?_, ?_, ?_, ?_, ?_, ?_, ?_⟩, ?_, ?_, ?_, ?_, ?_, ?_, ?_⟩ <;> (intro e; have e : (_ : Nat) = (_ : Nat) := e; dsimp only at e; first | omega | (exact absurd e (by first | lia | omega)))
theorem call_update_zip {A : Around} {s : Shared} {a l1 l2 : Addr} {ns : List Int} {xs ys : List Value} {kvs : List (Int × Value)} {Q : Value → Shared → Prop} {E : Value → Shared → Prop} (hh : A.handled = none)
    (hd' : s.heap.DictOf (intKind c.prog c.w) a kvs) (hl1 : s.heap.IsTuple l1 xs.toArray) (hl2 : s.heap.IsList l2 ys.toArray) (hx : ∀ (k : Nat) (n : Int), ns[k]? = some n → ∃ t : Tok, xs.toArray[k]? = some (Value.int n t)) (hxl : xs.length = ns.length) (hyl : ns.length ≤ ys.length) (h4 : ns.length ≤ 100) (h0 : 0 < ns.length) (hk0 : kvs.length ≤ 100)
    (h : ∀ h' tk, h'.DictOf (intKind c.prog c.w) a (PySem.merged kvs (ns.zip ys)) → (∀ b o, b ≠ a → s.heap.get? b = some o → h'.get? b = some o) → Q .none { s with heap := h', toks := tk }) :
    wpAny (model c.prog c.w) A (call (.type "zip") [.ref l1, .ref l2]) (fun z s' => (∀ b o, s.heap.get? b = some o → s'.heap.get? b = some o) ∧ wpAny (model c.prog c.w) A (call (.builtin "dict.update") [.ref a, z]) Q E s') E s := by
  refine call_zip_tl hl1 hl2 fun h1 hz hti hto hi1 hi2 k1 => ⟨k1, ?_⟩
  have lt : ∀ {b o}, s.heap.get? b = some o → b < s.heap.objs.size := fun e => Heap.lt_size e
  have a0 : a < s.heap.objs.size := by obtain ⟨oo, es, ep, ho, _⟩ := hd'; exact lt ho
  have t0 : l1 < s.heap.objs.size := by obtain ⟨o, ho, _⟩ := hl1; exact lt ho
  have l0 : l2 < s.heap.objs.size := by obtain ⟨o, ho, _⟩ := hl2; exact lt ho
  have tl : l1 ≠ a := by
    rintro rfl
    obtain ⟨o, ho, hc, _⟩ := hl1
    obtain ⟨oo, es, ep, ho', ⟨hc', _⟩, _⟩ := hd'
    rw [ho] at ho'; cases ho'; rw [hc] at hc'; simp at hc'
  have ll : l2 ≠ a := by
    rintro rfl
    obtain ⟨o, ho, hc, _⟩ := hl2
    obtain ⟨oo, es, ep, ho', ⟨hc', _⟩, _⟩ := hd'
    rw [ho] at ho'; cases ho'; rw [hc] at hc'; simp at hc'
  have hD1 : h1.DictOf (intKind c.prog c.w) a kvs := by
    obtain ⟨oo, es, ep, ho, rest⟩ := hd'
    exact ⟨oo, es, ep, k1 _ _ ho, rest⟩
  have hDT : ({ s with heap := h1 } : Shared).TypeIs (.ref a) "dict" := hD1.typeIs
  refine wpAny_call (codeAny_call_builtin PySem.F.slot_dict_update.plain PySem.F.entry_dict_update (PySem.F.slot_dict_update.check _ _ _ _ _ _ _ _ hDT (PySem.F.args_dict_update_2 _ _) ?_))
  unfold Builtin.«dict.update»
  refine wpAny_bind ?_
  unfold Builtin.Dict.selfAndRest
  refine wpAny_bind (wpAny_notOrdered_dict hDT ?_)
  show wpAny _ _ (pure (a, [Value.ref (s.heap.objs.size + 4)])) _ _ _
  refine wpAny_pure ?_
  show wpAny _ _ (Builtin.Dict.updateFrom "dict.update" a (.ref (s.heap.objs.size + 4)) [] .none) _ _ _
  unfold Builtin.Dict.updateFrom
  refine wpAny_bind (wpAny_typeOf (T := "zip") ⟨_, hz, rfl⟩ ?_)
  rw [if_pos (by decide)]
  refine wpAny_bind (getAttrQ_zip hz hh fun h2 tk2 k2 => ?_)
  rw [if_pos (by rfl)]
  refine wpAny_bind (wpAny_rule (wpAny_bind (wpAny_pyIter_zip (s := { s with heap := h2, toks := tk2 }) (k2 _ _ hz) ?_)))
  let za : ZA := ⟨a, s.heap.objs.size + 4, s.heap.objs.size + 2, s.heap.objs.size + 3, s.heap.objs.size, s.heap.objs.size + 1, l1, l2⟩
  have hok : za.Ok := za_ok a0 t0 l0 tl ll
  refine wpAny_pure ⟨plainId_quiet plain_update_loop _, ?_⟩
  refine upd_run (a := za) hok hh hx (by simpa using hxl) (by simpa using hyl) h4 hk0 (s₀ := s) (fun h' tk hd2 hk => h h' tk (by simpa using hd2) fun b o hb e => hk b o (fun hm => ?_) e) ns.length 0 0 h2 tk2 rfl (fun e => by first | lia | omega) ⟨⟨_, _, k2 _ _ hz, .inl ⟨rfl, rfl, rfl⟩⟩, k2 _ _ hti, ⟨_, _, k2 _ _ hto⟩, hi1.at fun o e => k2 _ _ e, hi2.at fun o e => k2 _ _ e, hl1.at fun o e => k2 _ _ (k1 _ _ e), hl2.at fun o e => k2 _ _ (k1 _ _ e), ?_⟩ fun b o _ e => k2 _ _ (k1 _ _ e)
  · have hlt := lt e
    simp only [ZA.l, List.mem_cons, List.not_mem_nil, or_false] at hm
    rcases hm with e | e | e | e | e
    · exact hb e
    · have e : b = s.heap.objs.size + 4 := e; rw [e] at hlt; exact absurd hlt (Nat.not_lt.mpr (Nat.le_add_right _ _))
    · have e : b = s.heap.objs.size + 3 := e; rw [e] at hlt; exact absurd hlt (Nat.not_lt.mpr (Nat.le_add_right _ _))
    · have e : b = s.heap.objs.size := e; rw [e] at hlt; exact Nat.lt_irrefl _ hlt
    · have e : b = s.heap.objs.size + 1 := e; rw [e] at hlt; exact absurd hlt (Nat.not_lt.mpr (Nat.le_add_right _ _))
  · obtain ⟨oo, es, ep, ho, rest⟩ := hD1
    exact ⟨oo, es, ep, k2 _ _ ho, rest⟩
theorem spliced_one {A : Around} {s : Shared} {E : Value → Shared → Prop} {Q : List Value → Shared → Prop} {x : Sem Value} {l : List (Bool × Sem Value)} (hl : l = []) (h : wpAny (model c.prog c.w) A x (fun v s' => Q [v] s') E s) : wpAny (model c.prog c.w) A (spliced ((false, x) :: l)) Q E s := by
  subst hl
  unfold spliced
  refine wpAny_bind (mono1 h (fun v s' q => ?_))
  refine wpAny_bind (wpAny_pure (wpAny_bind (wpAny_holding ?_)))
  unfold spliced
  exact wpAny_pure (wpAny_pure q)

theorem WE_updzip {o f e1 e2 : Expr} {apos pos pos2 : Pos} {pl : Sem Bool} {K : MV → HV → Prop}
    (h : WE c n env o m H fun d H1 => ∃ a kvs, d = .ref a ∧ H1 a = some (.imap kvs) ∧ WE c n env f m H1 fun d H' => d = .val (.type "zip") ∧ WEs c n env pos2 [e1, e2] m H' fun ds H2 => ∃ ns vs l kvs, ds = [.tup (intsM ns), .ref l] ∧ H2 l = some (.list vs) ∧ ns.length ≤ vs.length ∧ 0 < ns.length ∧ ns.length ≤ 100 ∧ kvs.length ≤ 100 ∧ H2 a = some (.imap kvs) ∧ K .none (H2.set a (.imap (mergedM kvs (ns.zip vs)))))
    (he2 : eval (.Call f [e1, e2] [] pos2) env = (do callWith pos2 (← eval f env) [] (backTo pos2 (starEach [e1, e2] env)) (backToKw pos2 (keywordEach [] env))) := by rfl)
    (hst2 : (backTo pos2 (starEach [e1, e2] env)).any (·.1) = false := by rfl)
    (hst : (backTo pos (starEach [.Call f [e1, e2] [] pos2] env)) = [(false, eval (.Call f [e1, e2] [] pos2) env)] := by rfl)
    (he : eval (.Call (.Attribute o "update" apos) [.Call f [e1, e2] [] pos2] [] pos) env = (do
      let ov ← eval o env
      standAt apos.atName
      let (g, first) ← holding [ov] (getMethod ov "update" pl)
      callWith pos g first (backTo pos (starEach [.Call f [e1, e2] [] pos2] env)) []) := by rfl) : WE c n env (.Call (.Attribute o "update" apos) [.Call f [e1, e2] [] pos2] [] pos) m H K := by
  intro A s R S
  refine MethodCall_ (pl := pl) (mono0 (h A s R S) ?_) he
  rintro ov s₁ ⟨d, H1, sh₁, vr₁, st₁, a, kvs0, rfl, ha, hf⟩
  obtain rfl := vr₁.isRef
  have hT : s₁.TypeIs (.ref a) "dict" ∧ ∃ o, s₁.heap.get? a = some o ∧ o.dict = none := by
    obtain ⟨_, hl, P⟩ := (sh₁.rel a _ ha).isImap
    · refine ⟨hl.typeIs, ?_⟩
      obtain ⟨o, es, ep, ho, ⟨hc, hd, _⟩, _⟩ := hl
      exact ⟨o, ho, hd⟩
  refine getMethod_builtin hT.1 PySem.F.plainAttrs_dict PySem.F.slot_dict_update PySem.F.type_dict_update (fun b e => by cases e; exact hT.2) ?_
  dsimp only
  refine wp_callWith (c := c) (env := env) Kp.builtin (by rw [hst]; rfl) ?_
  rw [hst]
  refine spliced_one rfl ?_
  refine Call_ (mono0 (hf A s₁ R (S.step st₁ sh₁)) ?_) he2
  rintro fv s₂ ⟨d2, H2, sh₂, vr₂, st₂, rfl, hargs⟩
  obtain rfl := vr₂.isVal
  have st12 := st₁.trans st₂
  refine wp_callWith (c := c) (env := env) Kp.type hst2 (mono0 (hargs A s₂ R (S.step st12 sh₂)) ?_)
  rintro vs s₃ ⟨ds, H3, sh₃, V, st₃, ns, ys, l, kvs, rfl, hl, hle, h0, h100, hk100, ha3, k⟩
  refine ⟨sh₃.base, ?_⟩
  obtain ⟨_, _, rfl, r1, r2⟩ := V.isTwo
  obtain rfl := r2.isRef
  obtain ⟨t1, xs, rfl, ht, W⟩ := r1.isTup
  obtain ⟨yv, hyl, Y⟩ := (sh₃.rel l _ hl).isList
  obtain ⟨kv, hd, P⟩ := (sh₃.rel a _ ha3).isImap
  have eW := W.length
  have eY := Y.length
  have eP := P.length
  unfold intsM at eW
  rw [List.length_map] at eW
  refine mono1 (call_update_zip (c := c) (ns := ns) (xs := xs) (ys := yv) (a := a) (kvs := kv) (E := NoE) (Q := Post c H s K) R.handled hd ht hyl.isList (ints_at W) eW (by first | lia | omega) h100 h0 (by first | lia | omega) fun h' tk hd' hk => ?_) (fun z s' q => ⟨fun b o e => q.1 b o (sh₃.base b o e), q.2⟩)
  · have kn : ∀ b ob, b ≠ a → s₃.heap.get? b = some ob → h'.get? b = some ob := fun b ob q e => hk b ob q e
    have ki : ∀ b ob, s₃.heap.get? b = some ob → imm ob ∨ c.B.get? b = some ob → h'.get? b = some ob := fun b ob eb i => kn b ob (by rintro rfl; rw [sh₃.imm eb i] at ha3; cases ha3) eb
    refine ⟨.none, _, sh₃.upd ha3 kn fun ki => .imap hd' ((P.mono ki).merged (Y.mono ki)), .none, (st12.trans st₃).trans (Stp.upd ha3 kn fun ob _ => (let ⟨o, es, ep, e, _⟩ := hd'; ⟨o, e⟩)), k⟩
end
end
section
-- R1
noncomputable def tok (n : Nat) (lt : Nat → Nat → Bool) {α : Type} : KasT α → (α → Prop) → Prop
  | .ret a, G => G a
  | .ask i j k, G => i < n ∧ j < n ∧ tok n lt (k (lt i j)) G
theorem tok_bind {n : Nat} {lt : Nat → Nat → Bool} {α β : Type} {f : α → KasT β} {G : β → Prop} : ∀ {t : KasT α}, tok n lt t (fun a => tok n lt (f a) G) → tok n lt (t.bind f) G
  | .ret _, h => h
  | .ask _ _ k, ⟨a, b, h⟩ => ⟨a, b, tok_bind (t := k _) h⟩
theorem tok_mono {n : Nat} {lt : Nat → Nat → Bool} {α : Type} {G G' : α → Prop} (hg : ∀ a, G a → G' a) : ∀ {t : KasT α}, tok n lt t G → tok n lt t G'
  | .ret a, h => hg a h
  | .ask _ _ k, ⟨a, b, h⟩ => ⟨a, b, tok_mono hg (t := k _) h⟩
theorem tok_wp {n : Nat} {lt : Nat → Nat → Bool} {cmp : Nat → Nat → (Bool → Shared → Prop) → Shared → Prop} {s : Shared} (hc : ∀ i j C, i < n → j < n → C (lt i j) s → cmp i j C s) {α : Type} {G : α → Shared → Prop} : ∀ {t : KasT α}, tok n lt t (fun a => G a s) → t.kasWp cmp G s
  | .ret _, h => h
  | .ask _ _ k, ⟨a, b, h⟩ => hc _ _ _ a b (tok_wp hc (t := k _) h)

structure Lt (n : Nat) (lt : Nat → Nat → Bool) : Prop where
  trans : ∀ i j k, lt i j = true → lt j k = true → lt i k = true
  total : ∀ i j, i < n → j < n → i ≠ j → lt i j = false → lt j i = true
noncomputable def PPerm (n : Nat) (p : Array Nat) : Prop := p.toList.Perm (List.range n)
theorem PPerm.size {n : Nat} {p : Array Nat} (h : PPerm n p) : p.size = n := by
  have := h.length_eq
  simpa using this
theorem PPerm.lt {n : Nat} {p : Array Nat} (h : PPerm n p) {a : Nat} (ha : a < n) : p.getD a 0 < n := by
  have e := h.size
  have ha' : a < p.size := by first | lia | omega
  have : p.getD a 0 = p[a] := by simp [Array.getD, ha']
  rw [this]
  exact List.mem_range.mp (h.mem_iff.mp (by simp))
theorem PPerm.ne {n : Nat} {p : Array Nat} (h : PPerm n p) {a b : Nat} (ha : a < n) (hb : b < n) (hab : a ≠ b) : p.getD a 0 ≠ p.getD b 0 := by
  have e := h.size
  have ha' : a < p.size := by first | lia | omega
  have hb' : b < p.size := by first | lia | omega
  have e1 : p.getD a 0 = p.toList[a]'(by simpa using ha') := by simp [Array.getD, ha']
  have e2 : p.getD b 0 = p.toList[b]'(by simpa using hb') := by simp [Array.getD, hb']
  rw [e1, e2]
  intro q
  have nd : p.toList.Nodup := h.nodup_iff.mpr List.nodup_range
  have nd' := List.pairwise_iff_getElem.mp nd
  rcases Nat.lt_or_gt_of_ne hab with h1 | h1
  · exact nd' a b (by simpa using ha') (by simpa using hb') h1 q
  · exact nd' b a (by simpa using hb') (by simpa using ha') h1 q.symm
noncomputable def Srt (lt : Nat → Nat → Bool) (p : Array Nat) (k : Nat) : Prop := ∀ i j, i < j → j < k → lt (p.getD i 0) (p.getD j 0) = true
noncomputable def Dsc (lt : Nat → Nat → Bool) (p : Array Nat) (k : Nat) : Prop := ∀ i j, i < j → j < k → lt (p.getD j 0) (p.getD i 0) = true
section
variable {n : Nat} {lt : Nat → Nat → Bool} {p : Array Nat} (O : Lt n lt) (hp : PPerm n p)
include O hp
theorem srt_more {k : Nat} (hk : 1 ≤ k) (h : Srt lt p k) (h1 : lt (p.getD (k - 1) 0) (p.getD k 0) = true) : Srt lt p (k + 1) := by
  intro i j hij hj
  by_cases hjk : j < k
  · exact h i j hij hjk
  · have : j = k := by first | lia | omega
    subst this
    by_cases hi : i = j - 1
    · subst hi; exact h1
    · exact O.trans _ _ _ (h i (j - 1) (by first | lia | omega) (by first | lia | omega)) h1
theorem dsc_more {k : Nat} (hk : 1 ≤ k) (h : Dsc lt p k) (h1 : lt (p.getD k 0) (p.getD (k - 1) 0) = true) : Dsc lt p (k + 1) := by
  intro i j hij hj
  by_cases hjk : j < k
  · exact h i j hij hjk
  · have : j = k := by first | lia | omega
    subst this
    by_cases hi : i = j - 1
    · subst hi; exact h1
    · exact O.trans _ _ _ h1 (h i (j - 1) (by first | lia | omega) (by first | lia | omega))
theorem tok_asc {G : Nat → Prop} : ∀ (f a : Nat), 1 ≤ a → a + f ≤ n → Srt lt p a → (∀ m, a ≤ m → m ≤ a + f → Srt lt p m → (m = a + f ∨ (m < a + f ∧ lt (p.getD m 0) (p.getD (m - 1) 0) = true)) → G m) → tok n lt (kas_asc p f a) G
  | 0, a, h1, hn, hs, hG => hG a (Nat.le_refl _) (Nat.le_refl _) hs (.inl rfl)
  | f + 1, a, h1, hn, hs, hG => by
    refine ⟨hp.lt (by first | lia | omega), hp.lt (by first | lia | omega), ?_⟩
    cases hc : lt (p.getD a 0) (p.getD (a - 1) 0) with
    | true =>
      simp only [↓reduceIte]
      exact hG a (Nat.le_refl _) (by first | lia | omega) hs (.inr ⟨by first | lia | omega, hc⟩)
    | false =>
      simp only [Bool.false_eq_true, ↓reduceIte]
      refine tok_asc f (a + 1) (by first | lia | omega) (by first | lia | omega) (srt_more O hp h1 hs (O.total _ _ (hp.lt (by first | lia | omega)) (hp.lt (by first | lia | omega)) (hp.ne (by first | lia | omega) (by first | lia | omega) (by first | lia | omega)) hc)) fun m h2 h3 h4 h5 => hG m (by first | lia | omega) (by first | lia | omega) h4 ?_
      rcases h5 with h5 | h5
      · exact .inl (by first | lia | omega)
      · exact .inr ⟨by first | lia | omega, h5.2⟩
theorem tok_desc {G : Array Nat × Nat × Nat → Prop} : ∀ (f a : Nat), 1 ≤ a → a + f ≤ n → Dsc lt p a → (∀ m, a ≤ m → m ≤ a + f → Dsc lt p m → G (p, m, 0)) → tok n lt (kas_desc f p a 0) G
  | 0, a, h1, hn, hs, hG => hG a (Nat.le_refl _) (Nat.le_refl _) hs
  | f + 1, a, h1, hn, hs, hG => by
    refine ⟨hp.lt (by first | lia | omega), hp.lt (by first | lia | omega), ?_⟩
    cases hc : lt (p.getD a 0) (p.getD (a - 1) 0) with
    | true =>
      simp only [↓reduceIte]; rw [if_neg (by first | lia | omega)]
      exact tok_desc f (a + 1) (by first | lia | omega) (by first | lia | omega) (dsc_more O hp h1 hs hc) fun m h2 h3 h4 => hG m (by first | lia | omega) (by first | lia | omega) h4
    | false =>
      simp only [Bool.false_eq_true, ↓reduceIte]
      refine ⟨hp.lt (by first | lia | omega), hp.lt (by first | lia | omega), ?_⟩
      rw [O.total _ _ (hp.lt (by first | lia | omega)) (hp.lt (by first | lia | omega)) (hp.ne (by first | lia | omega) (by first | lia | omega) (by first | lia | omega)) hc]; simp only [↓reduceIte]
      exact hG a (Nat.le_refl _) (by first | lia | omega) hs
omit O in
theorem rev_perm (i j : Nat) : PPerm n (kas_rev p i j) := by
  have h := Array.perm_iff_toList_perm.mp (mirror_perm p i j ((j - i) / 2))
  exact List.Perm.trans h hp
omit O in
theorem rev_get {m : Nat} (hm : m ≤ n) {a : Nat} (ha : a < m) : (kas_rev p 0 m).getD a 0 = p.getD (m - 1 - a) 0 := by
  have e := getElem?_mirror_all (xs := p) (i := 0) (j := m) (by rw [hp.size]; exact hm) a
  unfold kas_rev
  rw [Array.getD_eq_getD_getElem?, e, if_pos ⟨Nat.zero_le _, ha⟩, Array.getD_eq_getD_getElem?]
  congr 2
  congr 1
  first | lia | omega
theorem rev_srt {m : Nat} (hm : m ≤ n) (h : Dsc lt p m) : Srt lt (kas_rev p 0 m) m := by
  intro i j hij hj
  rw [rev_get hp hm (by first | lia | omega), rev_get hp hm hj]
  exact h _ _ (by first | lia | omega) (by first | lia | omega)
theorem tok_count {G : Nat × Array Nat → Prop} (h2 : 2 ≤ n) (hG : ∀ m p', PPerm n p' → 1 ≤ m → m ≤ n → Srt lt p' m → G (m, p')) : tok n lt (kas_count n p) G := by
  unfold kas_count
  refine tok_bind (tok_asc O hp (n - 1) 1 (Nat.le_refl _) (by first | lia | omega) (fun i j a b => by first | lia | omega) fun m h1 hm hs hor => ?_)
  by_cases e : m = n
  · subst e
    rw [if_pos (by simp)]
    exact hG m p hp h1 (by first | lia | omega) hs
  · rw [if_neg (by simpa using e)]
    by_cases h3 : m > 1
    · rw [if_pos h3]
      refine ⟨hp.lt (by first | lia | omega), hp.lt (by first | lia | omega), ?_⟩
      rw [hs 0 (m - 1) (by first | lia | omega) (by first | lia | omega)]; simp only [↓reduceIte]
      exact hG m p hp h1 (by first | lia | omega) hs
    · rw [if_neg h3]
      have hm1 : m = 1 := by first | lia | omega
      subst hm1
      have hd : lt (p.getD 1 0) (p.getD 0 0) = true := by
        rcases hor with h | h
        · first | lia | omega
        · exact h.2
      unfold kas_descPart
      refine tok_bind (tok_desc O hp (n - 2) 2 (by first | lia | omega) (by first | lia | omega) (fun i j a b => ?_) fun m h5 h6 h7 => ?_)
      · have e0 : i = 0 := by first | lia | omega
        have e1 : j = 1 := by first | lia | omega
        subst e0; subst e1; exact hd
      · show tok n lt (if 0 > 0 then _ else _) G
        rw [if_neg (by first | lia | omega)]
        unfold kas_tail3
        show tok n lt ((kas_asc (kas_rev p 0 m) (n - m) m).bind fun m' => KasT.ret (m', kas_rev p 0 m)) G
        refine tok_bind (tok_asc O (rev_perm hp 0 m) (n - m) m (by first | lia | omega) (by first | lia | omega) (rev_srt O hp (by first | lia | omega) h7) fun m' a1 a2 a3 _ => ?_)
        exact hG m' _ (rev_perm hp 0 m) (by first | lia | omega) (by first | lia | omega) a3
theorem tok_place {G : Nat → Prop} {k : Nat} (hk : k < n) (hs : Srt lt p k) (hG : ∀ l, l ≤ k → (∀ x, x < l → lt (p.getD x 0) (p.getD k 0) = true) → (∀ x, l ≤ x → x < k → lt (p.getD k 0) (p.getD x 0) = true) → G l) :
    ∀ (f l r : Nat), r ≤ l + f → l ≤ r → r ≤ k → (∀ x, x < l → lt (p.getD x 0) (p.getD k 0) = true) → (∀ x, r ≤ x → x < k → lt (p.getD k 0) (p.getD x 0) = true) → tok n lt (kas_place p k f l r) G
  | 0, l, r, hf, hlr, hr, h1, h2 => hG l (by first | lia | omega) h1 fun x a b => h2 x (by first | lia | omega) b
  | f + 1, l, r, hf, hlr, hr, h1, h2 => by
    unfold kas_place
    by_cases e : l ≥ r
    · rw [if_pos e]
      exact hG l (by first | lia | omega) h1 fun x a b => h2 x (by first | lia | omega) b
    · rw [if_neg e]
      refine ⟨hp.lt (by first | lia | omega), hp.lt (by first | lia | omega), ?_⟩
      cases hc : lt (p.getD k 0) (p.getD ((l + r) / 2) 0) with
      | true =>
        simp only [↓reduceIte]
        refine tok_place hk hs hG f l ((l + r) / 2) (by first | lia | omega) (by first | lia | omega) (by first | lia | omega) h1 fun x a b => ?_
        by_cases q : x = (l + r) / 2
        · subst q; exact hc
        · exact O.trans _ _ _ hc (hs _ _ (by first | lia | omega) b)
      | false =>
        simp only [Bool.false_eq_true, ↓reduceIte]
        have hc' := O.total _ _ (hp.lt (by first | lia | omega)) (hp.lt (by first | lia | omega)) (hp.ne (by first | lia | omega) (by first | lia | omega) (by first | lia | omega)) hc
        refine tok_place hk hs hG f ((l + r) / 2 + 1) r (by first | lia | omega) (by first | lia | omega) hr (fun x a => ?_) h2
        by_cases q : x = (l + r) / 2
        · subst q; exact hc'
        · exact O.trans _ _ _ (hs _ _ (by first | lia | omega) (by first | lia | omega)) hc'
omit O in
theorem bub_perm (k d : Nat) : PPerm n (bubble p k d) := List.Perm.trans (Array.perm_iff_toList_perm.mp (bubble_perm p k d)) hp
omit O in
theorem bub_get {k d : Nat} (hk : k < n) (hd : d ≤ k) (a : Nat) : (bubble p k d).getD a 0 = if a = k - d then p.getD k 0 else if k - d < a ∧ a ≤ k then p.getD (a - 1) 0 else p.getD a 0 := by
  rw [Array.getD_eq_getD_getElem?, getElem?_bubble (by rw [hp.size]; exact hk) d hd a]
  split
  · rw [Array.getD_eq_getD_getElem?]
  · split <;> rw [Array.getD_eq_getD_getElem?]
end
theorem bub_srt {n : Nat} {lt : Nat → Nat → Bool} {p : Array Nat} (O : Lt n lt) (hp : PPerm n p) {k l : Nat} (hk : k < n) (hl : l ≤ k) (hs : Srt lt p k) (h1 : ∀ x, x < l → lt (p.getD x 0) (p.getD k 0) = true) (h2 : ∀ x, l ≤ x → x < k → lt (p.getD k 0) (p.getD x 0) = true) : Srt lt (bubble p k (k - l)) (k + 1) := by
  intro i j hij hj
  rw [bub_get hp hk (by first | lia | omega), bub_get hp hk (by first | lia | omega)]
  have e : k - (k - l) = l := by first | lia | omega
  rw [e]
  by_cases a1 : i = l
  · rw [if_pos a1, if_neg (by first | lia | omega), if_pos (by first | lia | omega)]
    exact h2 _ (by first | lia | omega) (by first | lia | omega)
  · rw [if_neg a1]
    by_cases a2 : l < i ∧ i ≤ k
    · rw [if_pos a2, if_neg (by first | lia | omega), if_pos (by first | lia | omega)]
      exact hs _ _ (by first | lia | omega) (by first | lia | omega)
    · rw [if_neg a2]
      by_cases b1 : j = l
      · rw [if_pos b1]
        exact h1 _ (by first | lia | omega)
      · rw [if_neg b1]
        by_cases b2 : l < j ∧ j ≤ k
        · rw [if_pos b2]
          exact hs _ _ (by first | lia | omega) (by first | lia | omega)
        · rw [if_neg b2]
          exact hs _ _ (by first | lia | omega) (by first | lia | omega)
theorem tok_bin {n : Nat} {lt : Nat → Nat → Bool} (O : Lt n lt) {G : Array Nat → Prop} : ∀ (f k : Nat) (p : Array Nat), PPerm n p → k + f = n → Srt lt p k → (∀ p', PPerm n p' → Srt lt p' n → G p') → tok n lt (kas_bin f p k) G
  | 0, k, p, hp, e, hs, hG => by
    have : k = n := by first | lia | omega
    subst this
    exact hG p hp hs
  | f + 1, k, p, hp, e, hs, hG => by
    unfold kas_bin
    refine tok_bind (tok_place O hp (by first | lia | omega) hs (fun l hl h1 h2 => ?_) k 0 k (by first | lia | omega) (by first | lia | omega) (Nat.le_refl _) (fun x a => by first | lia | omega) fun x a b => by first | lia | omega)
    exact tok_bin O f (k + 1) _ (bub_perm hp k (k - l)) (by first | lia | omega) (bub_srt O hp (by first | lia | omega) hl hs h1 h2) hG
theorem tok_sort {n : Nat} {lt : Nat → Nat → Bool} (O : Lt n lt) (h2 : 2 ≤ n) {G : Array Nat → Prop} (hG : ∀ p, PPerm n p → Srt lt p n → G p) : tok n lt (kas_sort n) G := by
  unfold kas_sort
  refine tok_bind (tok_count O (p := List.toArray (List.range n)) (by unfold PPerm; exact List.Perm.refl _) h2 fun m p hp h1 hm hs => ?_)
  show tok n lt (if m < n then kas_bin (n - max m 1) p (max m 1) else .ret p) G
  by_cases e : m < n
  · rw [if_pos e]
    have e1 : max m 1 = m := by first | lia | omega
    rw [e1]
    exact tok_bin O _ _ _ hp (by first | lia | omega) hs hG
  · rw [if_neg e]
    have e1 : m = n := by first | lia | omega
    subst e1
    exact hG p hp hs
end
section
-- R2
noncomputable def pM (q : Int × Int) : MV := .tup [.int q.1, .int q.2]
noncomputable def plt (x y : Int × Int) : Bool := decide (x.1 < y.1) || (x.1 == y.1 && decide (x.2 < y.2))
theorem plt_iff {x y : Int × Int} : plt x y = true ↔ x.1 < y.1 ∨ (x.1 = y.1 ∧ x.2 < y.2) := by
  unfold plt
  simp
theorem plt_trans {x y z : Int × Int} (h : plt x y = true) (h' : plt y z = true) : plt x z = true := by
  rw [plt_iff] at *
  first | lia | omega
theorem plt_total {x y : Int × Int} (n : x ≠ y) (h : plt x y = false) : plt y x = true := by
  rw [plt_iff]
  have h1 : ¬ (plt x y = true) := by simp [h]
  rw [plt_iff] at h1
  by_cases e : x.1 = y.1
  · by_cases e2 : x.2 = y.2
    · exact absurd (Prod.ext e e2) n
    · first | lia | omega
  · first | lia | omega
/-- the values are tuples of two ints -/
noncomputable def PairsAt (h : Heap) : List Value → List (Int × Int) → Prop
  | [], [] => True
  | v :: vs, q :: qs => (∃ a t u, v = .ref a ∧ h.IsTuple a #[.int q.1 t, .int q.2 u]) ∧ PairsAt h vs qs
  | _, _ => False
theorem PairsAt.keep {h h' : Heap} (k : ∀ a o, h.get? a = some o → h'.get? a = some o) : ∀ {vs : List Value} {qs : List (Int × Int)}, PairsAt h vs qs → PairsAt h' vs qs := by
  intro vs
  induction vs with
  | nil => intro qs P; cases qs with
    | nil => trivial
    | cons _ _ => exact False.elim P
  | cons v vs ih => intro qs P; cases qs with
    | nil => exact False.elim P
    | cons q qs =>
      obtain ⟨⟨a, t, u, e, o, ho, r⟩, z⟩ := P
      exact ⟨⟨a, t, u, e, o, k a o ho, r⟩, ih z⟩
theorem PairsAt.len {h : Heap} : ∀ {vs : List Value} {qs : List (Int × Int)}, PairsAt h vs qs → vs.length = qs.length := by
  intro vs
  induction vs with
  | nil => intro qs P; cases qs with
    | nil => rfl
    | cons _ _ => exact False.elim P
  | cons v vs ih => intro qs P; cases qs with
    | nil => exact False.elim P
    | cons q qs =>
      exact congrArg Nat.succ (ih P.2)
theorem PairsAt.keepT {h h' : Heap} (k : ∀ a xs, h.IsTuple a xs → h'.IsTuple a xs) : ∀ {vs : List Value} {qs : List (Int × Int)}, PairsAt h vs qs → PairsAt h' vs qs := by
  intro vs
  induction vs with
  | nil => intro qs P; cases qs with
    | nil => trivial
    | cons _ _ => exact False.elim P
  | cons v vs ih => intro qs P; cases qs with
    | nil => exact False.elim P
    | cons q qs =>
      obtain ⟨⟨a, t, u, e, i⟩, z⟩ := P
      exact ⟨⟨a, t, u, e, k _ _ i⟩, ih z⟩
theorem PairsAt.get {h : Heap} : ∀ {vs : List Value} {qs : List (Int × Int)}, PairsAt h vs qs → ∀ (i : Nat), i < qs.length → ∃ a t u, vs.getD i .none = .ref a ∧ h.IsTuple a #[.int (qs.getD i (0, 0)).1 t, .int (qs.getD i (0, 0)).2 u] := by
  intro vs
  induction vs with
  | nil => intro qs P; cases qs with
    | nil => exact fun i hi => absurd hi (Nat.not_lt_zero _)
    | cons _ _ => exact False.elim P
  | cons v vs ih => intro qs P; cases qs with
    | nil => exact False.elim P
    | cons q qs =>
      intro i hi
      cases i with
      | zero => exact P.1
      | succ i => simpa using ih P.2 i (by simpa using hi)
theorem PairsAt.firsts {h : Heap} : ∀ {vs : List Value} {qs : List (Int × Int)}, PairsAt h vs qs → ∃ fs, KatTups h vs fs ∧ fs.length = qs.length ∧ ∀ v ∈ fs, ∃ i t, v = Value.int i t := by
  intro vs
  induction vs with
  | nil => intro qs P; cases qs with
    | nil => exact ⟨[], KatTups.nil, rfl, fun _ m => (by cases m)⟩
    | cons _ _ => exact False.elim P
  | cons v vs ih => intro qs P; cases qs with
    | nil => exact False.elim P
    | cons q qs =>
      obtain ⟨⟨a, t, u, e, o, ho, hc, n, hd⟩, z⟩ := P
      obtain ⟨fs, k, l, al⟩ := ih z
      subst e
      refine ⟨.int q.1 t :: fs, KatTups.cons ho hc hd rfl k, by simp [l], fun v m => ?_⟩
      rcases List.mem_cons.mp m with rfl | m
      · exact ⟨_, _, rfl⟩
      · exact al v m

section
variable {prog : Program} {w : World} {A : Around} {E : Value → Shared → Prop} {s : Shared}
theorem tup_lt {a b : Addr} {x y : Int × Int} {t u t' u' : Tok} {Q : Bool → Shared → Prop} (ha : s.heap.IsTuple a #[.int x.1 t, .int x.2 u]) (hb : s.heap.IsTuple b #[.int y.1 t', .int y.2 u']) (h : Q (plt x y) s) :
    wpAny (model prog w) A (keyLt' (tuples' true) (.ref a) (.ref b)) Q E s := by
  obtain ⟨o, ho, _, n, hd⟩ := ha
  obtain ⟨o', ho', _, n', hd'⟩ := hb
  refine kat_lt ho hd ho' hd' ?_
  refine kat_cons (wpAny_eqBool_int ?_)
  refine kat_go (fun e => kat_yes ?_) fun e => kat_no ?_
  · have e : x.1 = y.1 := by simpa using e
    refine kat_cons (wpAny_eqBool_int ?_)
    refine kat_go (fun e2 => kat_yes ?_) fun e2 => kat_no ?_
    · have e2 : x.2 = y.2 := by simpa using e2
      refine kat_nil ?_
      have : plt x y = false := by
        unfold plt
        simp [e, e2]
      rw [this] at h
      exact h
    · refine kat_one _ _ (lt_int ?_)
      show Q (decide (x.2 < y.2)) s
      have : plt x y = decide (x.2 < y.2) := by
        unfold plt
        simp [e]
      rw [← this]
      exact h
  · refine oneLt_int ?_
    have e : ¬ (x.1 = y.1) := by simpa using e
    have : plt x y = decide (x.1 < y.1) := by
      unfold plt
      simp [e]
    rw [← this]
    exact h

theorem raw_list_sort {a : Addr} {vs : List Value} {qs : List (Int × Int)} {n : Nat} {P : PySem.Fin → Shared → Prop} (ho : s.heap.get? a = some (seqObj "list" vs.toArray n)) (V : PairsAt s.heap vs qs) (nd : qs.Nodup)
    (h2 : 2 ≤ qs.length) (h64 : qs.length < 64)
    (h : ∀ h' p, PPerm qs.length p → Srt (fun i j => plt (qs.getD i (0, 0)) (qs.getD j (0, 0))) p qs.length → h'.PlainList a (p.toList.map fun i => vs.getD i Value.none).toArray → (∀ b o, b ≠ a → s.heap.get? b = some o → h'.get? b = some o) → P (.done (.ret .none)) { s with heap := h' }) :
    wpAny (model prog w) A (Builtin.«list.sort» ⟨[.ref a], []⟩) P E s := by
  have hl := V.len
  have ha : a < s.heap.objs.size := Heap.lt_size ho
  obtain ⟨e1, ho1⟩ : ∃ e1, (s.heap.update a (Obj.mapSeq fun _ => (#[] : Array Value))).get? a = some (seqObj "list" #[] e1) := ⟨_, get?_update_seq ho fun _ => #[]⟩
  have k0 : ∀ b o, b ≠ a → s.heap.get? b = some o → (((s.heap.update a (Obj.mapSeq fun _ => (#[] : Array Value))).push (seqObj "tuple" vs.toArray 0)).push (seqObj "list" #[] 0)).get? b = some o := fun b o hb e =>
    Heap.get?_push_of_some _ (Heap.get?_push_of_some _ ((Heap.get?_update_ne _ _ _ _ hb).trans e))
  have ho6 : (((s.heap.update a (Obj.mapSeq fun _ => (#[] : Array Value))).push (seqObj "tuple" vs.toArray 0)).push (seqObj "list" #[] 0)).get? a = some (seqObj "list" #[] e1) :=
    Heap.get?_push_of_some _ (Heap.get?_push_of_some _ ho1)
  have nota : ∀ b xs, s.heap.IsTuple b xs → b ≠ a := by
    rintro b xs ⟨o, e, hc, _⟩ rfl
    rw [ho] at e
    cases e
    exact absurd hc (by unfold seqObj; intro e; injection e with e; exact absurd e (by decide))
  have V' : PairsAt (((s.heap.update a (Obj.mapSeq fun _ => (#[] : Array Value))).push (seqObj "tuple" vs.toArray 0)).push (seqObj "list" #[] 0)) vs qs := V.keepT fun b xs ⟨o, eo, r⟩ => ⟨o, k0 b o (nota b xs ⟨o, eo, r⟩) eo, r⟩
  rw [list_sort_plain]
  refine wpAny_bind (listItems_at ho rfl ?_)
  refine wpAny_bind (listUpdate_at ho rfl ?_ (by rw [List.size_toArray, sizeLine_eq]; first | lia | omega) (Nat.zero_le _))
  refine wpAny_bind (seqEpoch_at ho1 rfl ?_)
  refine wpAny_bind (wpAny_newTuple ?_ (by show vs.length ≤ _; rw [sizeLine_eq]; first | lia | omega))
  refine wpAny_bind (wpAny_newList ?_ (Nat.zero_le _))
  refine wpAny_holding ?_
  show wpAny (model prog w) A _ P E { s with heap := ((s.heap.update a (Obj.mapSeq fun _ => (#[] : Array Value))).push (seqObj "tuple" vs.toArray 0)).push (seqObj "list" #[] 0) }
  dsimp only
  have hn2 : ¬ vs.toArray.size < 2 := by rw [List.size_toArray]; first | lia | omega
  rw [if_neg hn2, if_neg hn2]
  obtain ⟨fs, kt, lf, af⟩ := V'.firsts
  refine wpAny_bind (kat_kind (s := { s with heap := ((s.heap.update a (Obj.mapSeq fun _ => (#[] : Array Value))).push (seqObj "tuple" vs.toArray 0)).push (seqObj "list" #[] 0) }) (T := .type "int") kt (by first | lia | omega) (fun v hv => by
    obtain ⟨i, t, rfl⟩ := af v hv
    exact Looks.of_pure rfl) (by decide) ?_)
  have ek : (tuples' (Value.type "int" != Value.type "tuple")) = tuples' true := rfl
  rw [ek]
  have O : Lt qs.length (fun i j => plt (qs.getD i (0, 0)) (qs.getD j (0, 0))) := by
    refine ⟨fun i j k => plt_trans, fun i j hi hj hij => plt_total fun e => ?_⟩
    have nd' := List.pairwise_iff_getElem.mp nd
    have g : ∀ k (hk : k < qs.length), qs.getD k (0, 0) = qs[k] := fun k hk => by simp [hk]
    rw [g i hi, g j hj] at e
    rcases Nat.lt_or_gt_of_ne hij with x | x
    · exact nd' i j hi hj x e
    · exact nd' j i hj hi x e.symm
  refine wpAny_bind (wpAny_mono (kat_run (κ := tuples' true) (ks := vs) (vs := vs) (s := { s with heap := ((s.heap.update a (Obj.mapSeq fun _ => (#[] : Array Value))).push (seqObj "tuple" vs.toArray 0)).push (seqObj "list" #[] 0) })
    (Q := fun st' s' => s' = { s with heap := ((s.heap.update a (Obj.mapSeq fun _ => (#[] : Array Value))).push (seqObj "tuple" vs.toArray 0)).push (seqObj "list" #[] 0) } ∧ ∃ p : Array Nat, PPerm qs.length p ∧ Srt (fun i j => plt (qs.getD i (0, 0)) (qs.getD j (0, 0))) p qs.length ∧ arrOf st' = p.map (kas_item (vs.toArray.zip vs.toArray)) ∧ failedOf st' = none)
    (G := fun p s' => s' = { s with heap := ((s.heap.update a (Obj.mapSeq fun _ => (#[] : Array Value))).push (seqObj "tuple" vs.toArray 0)).push (seqObj "list" #[] 0) } ∧ PPerm qs.length p ∧ Srt (fun i j => plt (qs.getD i (0, 0)) (qs.getD j (0, 0))) p qs.length)
    rfl (by first | lia | omega) (by first | lia | omega) (fun p' st' s' a1 a2 a3 a4 => ⟨a4.1, p', a4.2.1, a4.2.2, a2, a3⟩) ?_) ?_ fun _ _ e => e)
  · rw [hl]
    refine tok_wp (n := qs.length) (lt := fun i j => plt (qs.getD i (0, 0)) (qs.getD j (0, 0))) (fun i j C hi hj hC => ?_) (tok_sort O h2 fun p hp hs => ⟨rfl, hp, hs⟩)
    unfold kas_ask
    obtain ⟨x, t, u, e, ix⟩ := V'.get i hi
    obtain ⟨y, t', u', e', iy⟩ := V'.get j hj
    rw [e, e']
    exact tup_lt ix iy hC
  · rintro ⟨⟨⟩, st'⟩ s' ⟨rfl, p, hp, hs, har, hf⟩
    dsimp only
    have hout := kat_snds (ks := vs) (vs := vs) rfl har
    have hsz : (List.toArray (p.toList.map fun i => vs.getD i Value.none)).size = vs.length := by rw [List.size_toArray, List.length_map, Array.length_toList, hp.size, hl]
    rw [hout]
    have upd := get?_update_seq ho6 fun _ => List.toArray (p.toList.map fun i => vs.getD i Value.none)
    refine wpAny_bind (seqEpoch_at ho6 rfl ?_)
    refine wpAny_bind (listUpdate_at ho6 rfl ?_ (Nat.zero_le _) (Nat.le_trans (Nat.le_of_eq hsz) (by rw [sizeLine_eq]; first | lia | omega)))
    rw [hf]
    simp only [bne_self_eq_false, Bool.false_eq_true, if_false]
    refine wpAny_pure (h _ p hp hs ⟨_, upd⟩ fun b o hb e => ?_)
    exact (Heap.get?_update_ne _ _ _ _ hb).trans (k0 b o hb e)

theorem call_sorted {l : Addr} {vs : List Value} {qs : List (Int × Int)} {Q : Value → Shared → Prop} (hl : s.heap.IsList l vs.toArray) (V : PairsAt s.heap vs qs) (nd : qs.Nodup) (h2 : 2 ≤ qs.length) (h64 : qs.length < 64)
    (h : ∀ h' p, PPerm qs.length p → Srt (fun i j => plt (qs.getD i (0, 0)) (qs.getD j (0, 0))) p qs.length → h'.PlainList (s.heap.objs.size + 1) (p.toList.map fun i => vs.getD i Value.none).toArray → (∀ b o, s.heap.get? b = some o → h'.get? b = some o) → Q (.ref (s.heap.objs.size + 1)) { s with heap := h' }) :
    wpAny (model prog w) A (call (.builtin "sorted") [.ref l]) Q E s := by
  have hle := V.len
  refine Calls.call_function_entry kind_sorted plain_sorted entry_sorted (args_sorted1 _) ?_
  unfold Builtin.«sorted»
  refine wpAny_bind (m := checkCount "sorted" 1 1 _) (wpAny_pure ?_)
  refine wpAny_bind (collect_list hl ?_ (by rw [sizeLine_eq]; first | lia | omega))
  refine wpAny_bind (wpAny_newList ?_ (by rw [sizeLine_eq]; first | lia | omega))
  have hsz : ((s.heap.push (seqObj "list" #[] 0)).update s.heap.objs.size (Obj.mapSeq (· ++ vs.toArray))).objs.size = s.heap.objs.size + 1 := by
    rw [Heap.size_update, size_push']
  have hoL : (((s.heap.push (seqObj "list" #[] 0)).update s.heap.objs.size (Obj.mapSeq (· ++ vs.toArray))).push (seqObj "list" vs.toArray 0)).get? (s.heap.objs.size + 1) = some (seqObj "list" vs.toArray 0) := by
    rw [← hsz]; exact Heap.get?_push_size _ rfl
  have keep : ∀ b o, s.heap.get? b = some o → (((s.heap.push (seqObj "list" #[] 0)).update s.heap.objs.size (Obj.mapSeq (· ++ vs.toArray))).push (seqObj "list" vs.toArray 0)).get? b = some o := fun b o q => by
    have hlt : b < s.heap.objs.size := Heap.lt_size q
    rw [Heap.get?_push_ne _ _ _ (by rw [hsz]; exact Nat.ne_of_lt (Nat.lt_succ_of_lt hlt)), Heap.get?_update_ne _ _ _ _ (Nat.ne_of_lt hlt), Heap.get?_push_ne _ _ _ (Nat.ne_of_lt hlt)]
    exact q
  show wpAny _ _ _ _ _ { s with heap := ((s.heap.push (seqObj "list" #[] 0)).update s.heap.objs.size (Obj.mapSeq (· ++ vs.toArray))).push (seqObj "list" vs.toArray 0) }
  rw [hsz]
  refine wpAny_bind (wpAny_holding (wpAny_call_entry slot_list_sort ⟨_, hoL, rfl⟩ entry_list_sort ?body (args_list_sort _)))
  case body =>
    refine raw_list_sort (s := { s with heap := ((s.heap.push (seqObj "list" #[] 0)).update s.heap.objs.size (Obj.mapSeq (· ++ vs.toArray))).push (seqObj "list" vs.toArray 0) }) hoL (V.keep keep) nd h2 h64 fun h' p hp hs hL k => ?_
    exact ⟨_, rfl, wpAny_pure ⟨_, rfl, h h' p hp hs hL fun b o e => k b o (fun q => by
      have hlt : b < s.heap.objs.size := Heap.lt_size e
      rw [q] at hlt
      exact absurd hlt (Nat.not_lt.mpr (Nat.le_succ _))) (keep b o e)⟩⟩
end
end
section
-- R3
theorem VRs.pairs {c : Cx} {h : Heap} {vs : List Value} {qs : List (Int × Int)} (V : VRs c h vs (qs.map pM)) : PairsAt h vs qs := by
  induction qs generalizing vs with
  | nil => obtain rfl := V.isNil; trivial
  | cons q qs ih =>
    obtain ⟨v, vs, rfl, r, R⟩ := VRs.isCons V
    refine ⟨?_, ih R⟩
    obtain ⟨a, xs, rfl, ht, W⟩ := r.isTup
    obtain ⟨_, _, rfl, r1, r2⟩ := W.isTwo
    obtain ⟨_, rfl⟩ := r1.isInt
    obtain ⟨_, rfl⟩ := r2.isInt
    exact ⟨_, _, _, rfl, ht⟩
theorem range_getD {α : Type} (l : List α) (z : α) : ((List.range l.length).map fun i => l.getD i z) = l := by
  apply List.ext_getElem
  · simp
  · intro i h1 h2
    simp only [List.getElem_map, List.getElem_range]
    simp [h2]
theorem srt_pairwise {n : Nat} {lt : Nat → Nat → Bool} {p : Array Nat} (hp : PPerm n p) (hs : Srt lt p n) : p.toList.Pairwise fun i j => lt i j = true := by
  rw [List.pairwise_iff_getElem]
  intro i j hi hj hij
  have e := hp.size
  have := hs i j hij (by simpa [e] using hj)
  have g : ∀ k (hk : k < p.toList.length), p.getD k 0 = p.toList[k] := fun k hk => by
    have hk' : k < p.size := by simpa using hk
    simp [Array.getD, hk']
  rwa [g i hi, g j hj] at this
section
variable {c : Cx} {n : Nat} {H : HV}
theorem WC_sorted {l : Addr} {qs : List (Int × Int)} {K : MV → HV → Prop} (hl : H l = some (.list (qs.map pM))) (nd : qs.Nodup) (h2 : 2 ≤ qs.length) (h64 : qs.length < 64)
    (h : ∀ (R : Addr) (rs : List (Int × Int)), H R = none → c.B.get? R = none → rs.Perm qs → rs.Pairwise (fun x y => plt x y = true) → K (.ref R) (H.set R (.list (rs.map pM)))) : WC c n (.builtin "sorted") [.ref l] H K := by
  intro A s vs R sh V
  obtain ⟨_, rfl, r⟩ := V.isOne
  · obtain rfl := r.isRef
    obtain ⟨ws, hw, W⟩ := (sh.rel l _ hl).isList
    · skip
      have P := W.pairs
      have hz : s.heap.get? (s.heap.objs.size + 1) = none := Heap.get?_none_of_le (Nat.le_succ _)
      refine call_sorted (qs := qs) hw.isList P nd h2 h64 fun h' p hp hs hL k => ?_
      have hperm : (p.toList.map fun i => qs.getD i (0, 0)).Perm qs := by
        have := List.Perm.map (fun i => qs.getD i (0, 0)) hp
        rwa [range_getD] at this
      have ki : ∀ b o, s.heap.get? b = some o → imm o ∨ c.B.get? b = some o → h'.get? b = some o := fun b o e _ => k b o e
      have W' : VRs c h' ws (qs.map pM) := W.mono ki
      have hv : VRs c h' (p.toList.map fun i => ws.getD i Value.none) ((p.toList.map fun i => qs.getD i (0, 0)).map pM) := by
        have hlt : ∀ i ∈ p.toList, i < qs.length := fun i m => List.mem_range.mp (hp.mem_iff.mp m)
        generalize p.toList = pl at hlt
        induction pl with
        | nil => exact .nil
        | cons i r ih =>
          refine .cons ?_ (ih fun j m => hlt j (.tail _ m))
          have hi := hlt i (.head _)
          obtain ⟨v, e, r⟩ := W'.get (k := i) (d := pM (qs.getD i (0, 0))) (by simp [hi])
          have : ws.getD i Value.none = v := by simp [e]
          show VR c h' (ws.getD i Value.none) (pM (qs.getD i (0, 0))); rw [this]
          exact r
      exact ⟨_, _, sh.add hz k (.list hL hv), .ref _, Stp.add hz k, h _ _ (sh.fresh hz) (newB sh hz) hperm (List.Pairwise.map _ (fun a b x => x) (srt_pairwise hp hs))⟩
end
theorem sorted_unique : ∀ {a b : List (Int × Int)}, a.Pairwise (fun x y => plt x y = true) → b.Pairwise (fun x y => plt x y = true) → (∀ x, x ∈ a ↔ x ∈ b) → a = b
  | [], [], _, _, _ => rfl
  | [], y :: b, _, _, h => by have := (h y).mpr (.head _); cases this
  | x :: a, [], _, _, h => by have := (h x).mp (.head _); cases this
  | x :: a, y :: b, ha, hb, h => by
    have irr : ∀ z, plt z z = false := fun z => by unfold plt; simp
    have asy : ∀ u v, plt u v = true → plt v u = true → False := fun u v p q => by
      have := plt_trans p q
      rw [irr] at this; cases this
    obtain ⟨ha1, ha2⟩ := List.pairwise_cons.mp ha
    obtain ⟨hb1, hb2⟩ := List.pairwise_cons.mp hb
    have e : x = y := by
      rcases List.mem_cons.mp ((h x).mp (.head _)) with e | m
      · exact e
      · rcases List.mem_cons.mp ((h y).mpr (.head _)) with e | m'
        · exact e.symm
        · exact (asy x y (ha1 y m') (hb1 x m)).elim
    subst e
    have : a = b := sorted_unique ha2 hb2 fun z => by
      constructor
      · intro m
        rcases List.mem_cons.mp ((h z).mp (.tail _ m)) with e | q
        · subst e
          have := ha1 z m
          rw [irr] at this; cases this
        · exact q
      · intro m
        rcases List.mem_cons.mp ((h z).mpr (.tail _ m)) with e | q
        · subst e
          have := hb1 z m
          rw [irr] at this; cases this
        · exact q
    rw [this]
end
section
-- S1
/-- readings that tell apart what is apart -/
structure PD {α : Type} [DecidableEq α] (p : α → PyData) (k : Nat) : Prop where
  eq : ∀ a b, PyData.eqv (p a) (p b) = decide (a = b)
  lay : ∀ a, (p a).canLay0 = true
  dep : ∀ a, (p a).depth ≤ k
theorem PD.int : PD PyData.int 0 := ⟨datI_ok.eq, datI_ok.lay, datI_ok.dep⟩
noncomputable abbrev pL {α : Type} (p : α → PyData) (l : List α) : PyData := .list (l.map p)
theorem PD.list {α : Type} [DecidableEq α] {p : α → PyData} {k : Nat} (h : PD p k) : PD (pL p) (k + 1) := by
  refine ⟨fun a b => ?_, fun a => ?_, fun a => ?_⟩
  · show PyData.eqv (.list _) (.list _) = _
    simp only [PyData.eqv]; exact eqvAll_map h.eq a b
  · show PyData.canLay0 (.list _) = true
    simp only [PyData.canLay0]; exact layAll_map h.lay a
  · show PyData.depth (.list _) ≤ _
    have := depthAll_map h.dep a
    simp only [PyData.depth]; first | lia | omega
theorem PD.shaped {α : Type} [DecidableEq α] {p : α → PyData} {k : Nat} (h : PD p k) (hk : k ≤ 64) (a : α) : SeqAt.shaped (p a) = true := by
  unfold SeqAt.shaped
  rw [h.lay, Bool.true_and]
  have := h.dep a
  simp; first | lia | omega
noncomputable abbrev p1 : List Int → PyData := pL .int
noncomputable abbrev p2 : Lots → PyData := pL p1
noncomputable abbrev p3 : List Lots → PyData := pL p2
theorem pd2 : PD p2 2 := PD.int.list.list
theorem pd3 : PD p3 3 := pd2.list
section
variable {c : Cx} {n : Nat} {H : HV} {Q : Addr → Prop}
theorem RL1.dr {d : MV} {l : List Int} (h : RL1 Q H d l) : DR H d (p1 l) := by
  obtain ⟨a, rfl, _, e⟩ := h
  exact .list e (DRs_map (fun i => .int i) l)
theorem F2.dr {α : Type} {R : MV → α → Prop} {p : α → PyData} (k : ∀ d a, R d a → DR H d (p a)) : ∀ {ds : List MV} {l : List α}, F2 R ds l → DRs H ds (l.map p)
  | [], [], .nil => .nil
  | _ :: _, _ :: _, .cons r h => .cons (k _ _ r) (F2.dr k h)
theorem RLn.dr {α : Type} {R : MV → α → Prop} {p : α → PyData} (k : ∀ d a, R d a → DR H d (p a)) {d : MV} {l : List α} (h : RLn Q H R d l) : DR H d (pL p l) := by
  obtain ⟨a, ds, rfl, _, e, f⟩ := h
  exact .list e (f.dr k)
theorem RL2.dr {d : MV} {l : Lots} (h : RL2 Q H d l) : DR H d (p2 l) := RLn.dr (fun _ _ r => r.dr) h
theorem RL3.dr {d : MV} {l : List Lots} (h : RL3 Q H d l) : DR H d (p3 l) := RLn.dr (fun _ _ r => RL2.dr r) h
theorem W2_neP {α : Type} [DecidableEq α] {p : α → PyData} {k : Nat} (h : PD p k) (hk : k ≤ 64) {d e : MV} {a b : α} {K : MV → HV → Prop} (ha : DR H d (p a)) (hb : DR H e (p b)) (q : K (.bool (!decide (a = b))) H) : W2 c n (compareOp .NotEq) d e H K :=
  W2_neD ha hb (h.shaped hk a) (h.shaped hk b) (by rw [h.eq]; exact q)
theorem W2_eqP {α : Type} [DecidableEq α] {p : α → PyData} {k : Nat} (h : PD p k) (hk : k ≤ 64) {d e : MV} {a b : α} {K : MV → HV → Prop} (ha : DR H d (p a)) (hb : DR H e (p b)) (q : K (.bool (decide (a = b))) H) : W2 c n (compareOp .Eq) d e H K :=
  W2_eqD ha hb (h.shaped hk a) (h.shaped hk b) (by rw [h.eq]; exact q)
theorem DR.nil {α : Type} {p : α → PyData} {a : Addr} (h : H a = some (.list [])) : DR H (.ref a) (pL p []) := .list h .nil
-- lits and entries as data
theorem W2_neLits {l l' : List Lit} {K : MV → HV → Prop} (q : K (.bool (!decide (l = l'))) H) : W2 c n (compareOp .NotEq) (.tup (l.map litM)) (.tup (l'.map litM)) H K :=
  W2_neDat (D := datT datL) (datT_ok datL_ok) (by decide) q
noncomputable def datE : Dat Ent := ⟨entM, fun e => .tuple [.int e.1, datSp.p e.2.1, datL.p e.2.2.1, (datT datL).p e.2.2.2, .int (-1)], 3⟩
theorem datE_ok : datE.Ok := by
  refine ⟨fun H e => .tup (.cons (.int _) (.cons (datSp_ok.dr H e.2.1) (.cons (datL_ok.dr H e.2.2.1) (.cons ((datT_ok datL_ok).dr H e.2.2.2) (.cons (.int _) .nil))))), fun a b => ?_, fun a => ?_, fun a => ?_⟩
  · show PyData.eqv (.tuple _) (.tuple _) = _
    obtain ⟨a1, a2, a3, a4⟩ := a
    obtain ⟨b1, b2, b3, b4⟩ := b
    simp only [PyData.eqv, PyData.eqvAll, datSp_ok.eq, datL_ok.eq, (datT_ok datL_ok).eq]
    by_cases e1 : a1 = b1 <;> by_cases e2 : a2 = b2 <;> by_cases e3 : a3 = b3 <;> by_cases e4 : a4 = b4 <;> simp [e1, e2, e3, e4]
  · show PyData.canLay0 (.tuple _) = true
    simp only [PyData.canLay0, PyData.canLayAll0, datSp_ok.lay, datL_ok.lay, (datT_ok datL_ok).lay, Bool.and_self]
  · show PyData.depth (.tuple _) ≤ _
    have h1 := datSp_ok.dep a.2.1
    have h2 := datL_ok.dep a.2.2.1
    have h3 := (datT_ok datL_ok).dep a.2.2.2
    have k1 : datSp.k = 2 := rfl
    have k2 : datL.k = 1 := rfl
    have k3 : (datT datL).k = 2 := rfl
    rw [k1] at h1
    rw [k2] at h2
    rw [k3] at h3
    simp only [PyData.depth, PyData.depthAll]
    show _ ≤ 3
    first | lia | omega
end
end
section
-- T0
-- the law's text, cut
noncomputable def lawFd (p : Params) : FuncData := (fun (x : FuncData) (_ : ((KF p).lookup 375).map Obj.data = some (.func x)) => x) _ rfl
noncomputable def lawBody (p : Params) : List Stmt := (fun (b : List Stmt) (_ : (lawFd p).body = .stmts b) => b) _ rfl
noncomputable def lawTail1 (p : Params) : List Stmt := (fun (b : List Stmt) (_ : (lawBody p).drop 5 = b) => b) (_ :: _) rfl
noncomputable def lawTail2 (p : Params) : List Stmt := (fun (b : List Stmt) (_ : (lawTail1 p).drop 4 = b) => b) (_ :: _) rfl
noncomputable def lawTail3 (p : Params) : List Stmt := (fun (b : List Stmt) (_ : (lawTail2 p).drop 4 = b) => b) (_ :: _) rfl
noncomputable def lawLap (p : Params) : List Stmt := (fun (t e : Expr) (b : List Stmt) (o : List Stmt) (q : Pos) (r : List Stmt) (_ : lawTail3 p = .For t e b o q :: r) => b) _ _ _ _ _ _ rfl
noncomputable def lawEnv (p : Params) (L : Addr) : Env := callEnvC (lawFd p) L 375

theorem capM_some {scope : Scope} {y : Str} {d : MV} (h : scope.names.lookup y = some .free) : ∀ {m : Loc}, m.lookup y = some d → (capM scope m).lookup y = some d
  | [], e => e
  | (x, b) :: r, e => by
    rw [List.lookup_cons] at e
    unfold capM
    rw [List.filter_cons]
    cases hx : (y == x) with
    | true =>
      rw [hx] at e
      have : y = x := by simpa using hx
      subst this
      rw [h]
      simp only [beq_self_eq_true, if_true, List.lookup_cons]
      exact e
    | false =>
      rw [hx] at e
      have ih := capM_some h (m := r) e
      split
      · rw [List.lookup_cons, hx]; exact ih
      · exact ih
section
variable {c : Cx} {n : Nat} {env : Env} {m : Loc} {H : HV}
noncomputable abbrev lotScope : Scope := { kind := .function, names := [(".0", .local), ("x", .local), ("_law_lot", .globalImplicit), ("store_now", .free)], isGenerator := false, isCoroutine := false }
noncomputable abbrev lotsScope : Scope := { kind := .function, names := [(".0", .local), ("scope", .local), ("store_now", .free)], isGenerator := false, isCoroutine := false }
theorem HSt.ext {A : Ad} {S : SS} {H' : HV} (hS : HSt A S H) (k : ∀ a o, H a = some o → H' a = some o) : HSt A S H' :=
  ⟨k _ _ hS.dx, k _ _ hS.d, k _ _ hS.f, k _ _ hS.t, k _ _ hS.m, k _ _ hS.n, hS.nd⟩
inductive Lot1I (s : List Int) (A : Ad) (S : SS) (H' : HV) (ds : List MV) (H₁ : HV) (acc : List MV) : Prop
  | mk (s1 : List Int) (s2 : List Int) (as : List MV) (h0 : s = s1 ++ s2) (h1 : ds = intsM s2) (h2 : acc = as) (h3 : HSt A S H₁) (h4 : (∀ a o, H' a = some o → H₁ a = some o)) (h5 : F2 (RL1 (fun _ => True) H₁) as (s1.map fun x => lotOf (S.dom x))) (h6 : as.length = s1.length)
theorem WE_lot1 (z : Z c) {cells0 : List (Str × Addr)} {C0 L0 : Addr} (henv : env = compEnvC lotsScope cells0 C0 (lawEnv c.w.params L0)) {A : Ad} {S : SS} {s : List Int} (hS : HSt A S H) (hm : S.Small) (hx : ∀ x ∈ s, 0 ≤ x ∧ x.toNat < S.doms.length) (hd : ∀ l ∈ S.doms, (∀ p ∈ l, -1000 ≤ p.1 ∧ p.1 ≤ p.2 + 1 ∧ p.2 ≤ 1000) ∧ (lotOf l).length ≤ 10000)
    (hs : s.length ≤ 100) {q1 q2 q3 q4 q5 q6 q7 : Pos} {K : MV → HV → Prop}
    (h1 : WE c (n + 5) env (.Name "scope" q6) m H fun d H' => d = .tup (intsM s) ∧ H' = H) (h2 : Mine.L "store_now" A.v m)
    (h : ∀ d H', RL2 (fun _ => True) H' d (s.map fun x => lotOf (S.dom x)) → (∀ a o, H a = some o → H' a = some o) → K d H')
    (ok : scopeOk env lotScope ["x"] = true) : WE c (n + 6) env (.ListComp (.Call (.Name "_law_lot" q1) [.Name "store_now" q2, .Name "x" q3] [] q4) [⟨.Name "x" q5, .Name "scope" q6, [], 0⟩] lotScope q7) m H K := by
  subst henv
  refine WE_Comp (tg := fun _ => True) (xs := ["x"]) (WI_of (h1.mono fun d H' e => ?_)) ok
  obtain ⟨rfl, rfl⟩ := e
  refine ⟨_, _, .tup, fun cells C => WGo1 trivial ?_⟩
  have hcap : Mine.L "store_now" A.v (capM lotScope m) := capM_some rfl h2
  refine WCp_ind (Lot1I s A S H') ?_ ?_ _ _ _ ⟨[], s, [], rfl, rfl, rfl, hS, fun _ _ e => e, .nil, rfl⟩
  · rintro H₁ acc ⟨s1, s2, as, e, e2, rfl, hS1, k1, f, _⟩ a ha hb
    have : s2 = [] := by cases s2 with | nil => rfl | cons _ _ => cases e2
    subst this
    rw [List.append_nil] at e
    subst e
    refine h _ _ ⟨a, _, rfl, trivial, HV.set_self, f.mono fun d l r => r.mono (keep_of (keep_set ha)) fun _ _ _ => trivial⟩ fun b o e => keep_set ha _ _ (k1 b o e)
  · rintro d ds H₁ acc ⟨s1, s2, as, e, e2, rfl, hS1, k1, f, hl⟩
    cases s2 with
    | nil => cases e2
    | cons x s2 =>
      cases e2
      obtain ⟨x0, x1⟩ := hx x (by rw [e]; simp)
      have hg := dom_get x1
      obtain ⟨b1, b2⟩ := hd _ (List.mem_of_getElem? hg)
      repeat walk_at "m"
      refine ⟨ext_cons (capM_none rfl) ext_refl, ?_⟩
      repeat walk_at "m"
      refine WE_CallK z (f := 358) ?_ (by kernel_rfl) (by kernel_rfl)
      refine WEs_cons (WE_cell ?_ hcap)
      repeat walk_at "m"
      refine (c_lot z hS1 hm x0 hg b1 b2 fun a ha hb => ?_)
      have hsub : ∀ b o, H' b = some o → (H₁.set a (.list (intsM (lotOf (S.dom x))))) b = some o := fun b o e => keep_set ha _ _ (k1 b o e)
      refine ⟨by have := congrArg List.length e; simp at this; first | lia | omega, trivial, s1 ++ [x], s2, acc ++ [.ref a], by rw [e]; simp, rfl, rfl, ?_, hsub, ?_, by simp [hl]⟩
      · exact hS1.ext fun b o e => keep_set ha _ _ e
      · rw [List.map_append]
        exact (f.mono fun d l r => r.mono (keep_of (keep_set ha)) fun _ _ _ => trivial).append (.cons ⟨a, rfl, trivial, HV.set_self⟩ .nil)
theorem WE_lots (z : Z c) {L0 : Addr} {A : Ad} {S : SS} {s0 s1 : List Int} (hS : HSt A S H) (hm : S.Small) (hx0 : ∀ x ∈ s0, 0 ≤ x ∧ x.toNat < S.doms.length) (hx1 : ∀ x ∈ s1, 0 ≤ x ∧ x.toNat < S.doms.length) (hd : ∀ l ∈ S.doms, (∀ p ∈ l, -1000 ≤ p.1 ∧ p.1 ≤ p.2 + 1 ∧ p.2 ≤ 1000) ∧ (lotOf l).length ≤ 10000)
    (hs0 : s0.length ≤ 100) (hs1 : s1.length ≤ 100) {q1 q2 q3 q4 q5 q6 q7 q8 q9 q10 : Pos} {K : MV → HV → Prop}
    (h1 : Mine.L "scopes" (.tup [.tup (intsM s0), .tup (intsM s1)]) m) (h2 : Mine.L "store_now" A.v m)
    (h : ∀ d H', RL3 (fun _ => True) H' d [s0.map fun x => lotOf (S.dom x), s1.map fun x => lotOf (S.dom x)] → (∀ a o, H a = some o → H' a = some o) → K d H') :
    WE c (n + 7) (lawEnv c.w.params L0) (.ListComp (.ListComp (.Call (.Name "_law_lot" q1) [.Name "store_now" q2, .Name "x" q3] [] q4) [⟨.Name "x" q5, .Name "scope" q6, [], 0⟩] lotScope q7) [⟨.Name "scope" q8, .Name "scopes" q9, [], 0⟩] lotsScope q10) m H K := by
  refine WE_Comp (tg := fun _ => True) (xs := ["scope"]) (WI_of (WE_local ⟨_, _, .tup, fun cells C => WGo1 trivial ?_⟩ h1)) (by kernel_rfl)
  have hcap : Mine.L "store_now" A.v (capM lotsScope m) := capM_some rfl h2
  refine WCp_cons ?_
  repeat walk_at "m"
  refine ⟨ext_cons (capM_none rfl) ext_refl, ?_⟩
  repeat walk_at "m"
  refine WE_lot1 z rfl hS hm hx0 hd hs0 (WE_local ⟨rfl, rfl⟩) hcap (fun d1 H1 r1 k1 => ?_) (by kernel_rfl)
  refine ⟨by show 0 ≤ 10000; first | lia | omega, trivial, WCp_cons ?_⟩
  repeat walk_at "m"
  refine ⟨ext_cons (capM_none rfl) ext_refl, ?_⟩
  repeat walk_at "m"
  refine WE_lot1 z rfl (hS.ext k1) hm hx1 hd hs1 (WE_local ⟨rfl, rfl⟩) hcap (fun d2 H2 r2 k2 => ?_) (by kernel_rfl)
  refine ⟨by show 1 ≤ 10000; first | lia | omega, trivial, WCp_nil fun a ha hb => ?_⟩
  refine h _ _ ⟨a, _, rfl, trivial, HV.set_self, .cons (RL2.mono r1 (keep_of fun b o e => keep_set ha _ _ (k2 b o e)) fun _ _ _ => trivial) (.cons (RL2.mono r2 (keep_of (keep_set ha)) fun _ _ _ => trivial) .nil)⟩ fun b o e => keep_set ha _ _ (k2 _ _ (k1 b o e))
end
end
section
-- T0b
noncomputable def lawLap2H (p : Params) : Stmt := (fun (h : Stmt) (t : List Stmt) (_ : (lawLap p).drop 8 = h :: t) => h) _ _ rfl
noncomputable def lawLap2T (p : Params) : List Stmt := (fun (h : Stmt) (t : List Stmt) (_ : (lawLap p).drop 8 = h :: t) => t) _ _ rfl
noncomputable def waysI : Nat → Lots → List (Int × Int)
  | _, [] => []
  | k, l :: r => l.map (fun v => ((k : Int), v - 1)) ++ waysI (k + 1) r
noncomputable def waysJ : Nat → Lots → List (Int × Int)
  | _, [] => []
  | k, l :: r => l.map (fun v => (v - 1, (k : Int))) ++ waysJ (k + 1) r
theorem waysI_len : ∀ (k : Nat) (r : Lots), (waysI k r).length = (r.map List.length).sum
  | _, [] => rfl
  | k, l :: r => by simp [waysI, waysI_len (k + 1) r]
theorem waysJ_len : ∀ (k : Nat) (r : Lots), (waysJ k r).length = (r.map List.length).sum
  | _, [] => rfl
  | k, l :: r => by simp [waysJ, waysJ_len (k + 1) r]
section
variable {c : Cx} {n : Nat} {env : Env} {m : Loc} {H : HV}
inductive WayA (Q : Addr → Prop) (q0 : Lots) (H : HV) (ds : List MV) (H' : HV) (acc : List MV) : Prop
  | mk (k : Nat) (as : List MV) (rest : Lots) (done : List (Int × Int)) (h0 : ds = enumAt k as) (h1 : F2 (RL1 Q H) as rest) (h2 : acc = done.map pM) (h3 : done ++ waysI k rest = waysI 0 q0) (h4 : H' = H)
inductive WayB (Q : Addr → Prop) (q1 : Lots) (H2 : HV) (ds : List MV) (H' : HV) (acc : List MV) : Prop
  | mk (k : Nat) (as : List MV) (rest : Lots) (done : List (Int × Int)) (h0 : ds = enumAt k as) (h1 : F2 (RL1 Q H2) as rest) (h2 : acc = done.map pM) (h3 : done ++ waysJ k rest = waysJ 0 q1) (h4 : H' = H2)
inductive WayC (l : List Int) (k : Nat) (done : List (Int × Int)) (H' : HV) (ds : List MV) (H'' : HV) (acc' : List MV) : Prop
  | mk (l1 : List Int) (l2 : List Int) (h0 : l = l1 ++ l2) (h1 : ds = intsM l2) (h2 : acc' = (done ++ l1.map (fun v => (v - 1, (k : Int)))).map pM) (h3 : H'' = H')
inductive WayD (l : List Int) (k : Nat) (done : List (Int × Int)) (H' : HV) (ds : List MV) (H'' : HV) (acc' : List MV) : Prop
  | mk (l1 : List Int) (l2 : List Int) (h0 : l = l1 ++ l2) (h1 : ds = intsM l2) (h2 : acc' = (done ++ l1.map (fun v => ((k : Int), v - 1))).map pM) (h3 : H'' = H')
theorem c_lap2 (z : Z c) {L0 : Addr} {Q : Addr → Prop} {R : Addr} {q0 q1 : Lots} {x : Int} {at' : Bool} {K : FM → Loc → HV → Prop} (hR : RL3 Q H (.ref R) [q0, q1]) (n0 : q0.length ≤ 4) (n1 : q1.length ≤ 4) (k0 : ∀ l ∈ q0, l.length ≤ 4) (k1 : ∀ l ∈ q1, l.length ≤ 4)
    (d0 : (waysI 0 q0).Nodup) (d1 : (waysJ 0 q1).Nodup) (z0 : 2 ≤ (waysI 0 q0).length ∧ (waysI 0 q0).length < 64) (z1 : 2 ≤ (waysJ 0 q1).length ∧ (waysJ 0 q1).length < 64) (hw : x > 1 → ∀ w, w ∈ waysI 0 q0 ↔ w ∈ waysJ 0 q1)
    (m1 : Mine.L "late" (.ref R) m) (m2 : Mine.L "idle" (.int x) m) (m3 : Mine.L "at" (.int (atI at')) m)
    (h : ∀ W1 W2 H', (∀ a o, H a = some o → H' a = some o) → K .next (("rows", .ref R) :: ("at", .int (1 - atI at')) :: ("ways_back", W2) :: ("ways", W1) :: m) H') :
    WX c (n + 20) (lawEnv c.w.params L0) (lawLap2H c.w.params) m H (thenX c (n + 20) (lawEnv c.w.params L0) (lawLap2T c.w.params) K) := by
  obtain ⟨R', rs, e, hRQ, hRl, hF⟩ := hR
  cases e
  cases hF with
  | @cons e0 _ rs' _ hr0 hF =>
  cases hF with
  | @cons e1 _ rs'' _ hr1 hF =>
  cases hF
  obtain ⟨a0, as0, rfl, qq0, ha0, f0⟩ := hr0
  obtain ⟨a1, as1, rfl, qq1, ha1, f1⟩ := hr1
  have y0 := f0.length
  have y1 := f1.length
  refine WX_AssignComp (tg := tupT) (xs := ["i", "lot", "v"]) (WI_enum (WE_builtin z.toOk ⟨rfl, rfl⟩ Boot.«enumerate» (z.gn (by kernel_rfl))) ?_) (by kernel_rfl)
  repeat walk_at "m"
  refine W2_subL hRl (by decide) rfl ?_ (by decide)
  refine ⟨_, _, .list ha0, fun cells C => WGo2 (tg2 := fun _ => True) ⟨_, _, _, rfl⟩ trivial ?_⟩
  rw [enumL_at]
  have zI := z0
  refine WCp2_ind (WayA Q q0 H) ?_ ?_ _ _ _ ⟨0, _, _, [], rfl, f0, rfl, rfl, rfl⟩
  · rintro H' acc ⟨k, as, rest, done, e, f, rfl, ed, rfl⟩ P1 hP1 bP1
    have : as = [] := by cases as with | nil => rfl | cons _ _ => cases e
    subst this
    cases f
    rw [show waysI k [] = [] from rfl, List.append_nil] at ed
    subst ed
    have kx : ∀ a o, H' a = some o → (H'.set P1 (.list (List.map pM (waysI 0 q0)))) a = some o := keep_set hP1
    have hW1 : (H'.set P1 (.list (List.map pM (waysI 0 q0)))) P1 = some (.list (List.map pM (waysI 0 q0))) := HV.set_self
    have hR2 := kx _ _ hRl
    have ha12 := kx _ _ ha1
    have f12 : F2 (RL1 Q (H'.set P1 (.list (List.map pM (waysI 0 q0))))) as1 q1 := f1.mono fun d l r => r.mono (keep_of kx) fun a q _ => q
    generalize (H'.set P1 (.list (List.map pM (waysI 0 q0)))) = H2 at kx hW1 hR2 ha12 f12 ⊢
    generalize H' = H0 at h ha0 f0 hRl ha1 f1 hP1 kx
    clear cells C
    refine WXs_cons ?_
    refine WX_AssignComp (tg := tupT) (xs := ["j", "lot", "v"]) (WI_enum (WE_builtin z.toOk ⟨rfl, rfl⟩ Boot.«enumerate» (z.gn (by kernel_rfl))) ?_) (by kernel_rfl)
    repeat walk_at "m"
    refine W2_subL hR2 (by decide) rfl ?_ (by decide)
    refine ⟨_, _, .list ha12, fun cells C => WGo2 (tg2 := fun _ => True) ⟨_, _, _, rfl⟩ trivial ?_⟩
    rw [enumL_at]
    have zI := z1
    refine WCp2_ind (WayB Q q1 H2) ?_ ?_ _ _ _ ⟨0, _, _, [], rfl, f12, rfl, rfl, rfl⟩
    · rintro H' acc ⟨k, as, rest, done, e, f, rfl, ed, rfl⟩ P2 hP2 bP2
      have : as = [] := by cases as with | nil => rfl | cons _ _ => cases e
      subst this
      cases f
      rw [show waysJ k [] = [] from rfl, List.append_nil] at ed
      subst ed
      repeat walk_at "m"
      have kz : ∀ a o, H0 a = some o → (H'.set P2 (.list (List.map pM (waysJ 0 q1)))) a = some o := fun a o e => keep_set hP2 _ _ (kx a o e)
      have hW1' : (H'.set P2 (.list (List.map pM (waysJ 0 q1)))) P1 = some (.list (List.map pM (waysI 0 q0))) := keep_set hP2 _ _ hW1
      have hW2 : (H'.set P2 (.list (List.map pM (waysJ 0 q1)))) P2 = some (.list (List.map pM (waysJ 0 q1))) := HV.set_self
      generalize (H'.set P2 (.list (List.map pM (waysJ 0 q1)))) = H3 at kz hW1' hW2 ⊢
      refine ite_dec (fun hx => ?_) (fun hx => ?_)
      · repeat walk_at "m"
        refine WE_CallB z Boot.«sorted» ?_
        repeat walk_at "m"
        refine WC_sorted hW1' d0 z0.1 z0.2 fun R1 rs1 hR1 bR1 p1 t1 => ?_
        repeat walk_at "m"
        refine WE_CallB z Boot.«sorted» ?_
        repeat walk_at "m"
        refine WC_sorted (keep_set hR1 _ _ hW2) d1 z1.1 z1.2 fun R2 rs2 hR2 bR2 p2 t2 => ?_
        have e12 : rs1 = rs2 := sorted_unique t1 t2 fun w => (p1.mem_iff.trans (hw hx w)).trans p2.mem_iff.symm
        subst e12
        refine W2_neList (D := datP datI datI) (datP_ok datI_ok datI_ok) (by decide) (l := rs1) (l' := rs1) (keep_set hR2 _ _ HV.set_self) HV.set_self ?_
        rw [show (!decide (rs1 = rs1)) = false by simp]
        repeat walk_at "m"
        refine WX_Swap (names := ["rows", "at"]) ?_
        repeat walk_at "m"
        refine ⟨_, rfl, rfl, ?_⟩
        refine WXs_nil ?_
        exact h _ _ _ fun a o e => keep_set hR2 _ _ (keep_set hR1 _ _ (kz a o e))
      · repeat walk_at "m"
        refine WX_Swap (names := ["rows", "at"]) ?_
        repeat walk_at "m"
        refine ⟨_, rfl, rfl, ?_⟩
        refine WXs_nil ?_
        exact h _ _ _ kz
    · rintro d ds H' acc ⟨k, as, rest, done, e, f, rfl, ed, rfl⟩
      cases f with
      | nil => cases e
      | @cons dl l as rest hl f =>
        obtain ⟨al, rfl, qal, hal⟩ := hl
        cases e
        have hdl : (done ++ l.map (fun v => (v - 1, (k : Int)))).length ≤ 1000 := by
          have e1 := congrArg List.length ed
          have e2 : (waysJ k (l :: rest)).length = l.length + (waysJ (k + 1) rest).length := by simp [waysJ]
          simp only [List.length_append, List.length_map] at e1 ⊢
          first | lia | omega
        repeat walk_at "m"
        refine ⟨ext_cons (capM_none rfl) (ext_cons (capM_none rfl) ext_refl), ?_⟩
        repeat walk_at "m"
        refine WI_of (WE_local ⟨_, _, .list hal, ?_⟩)
        refine WCp_ind (WayC l k done H') ?_ ?_ _ _ _ ⟨[], l, rfl, rfl, by simp, rfl⟩
        · rintro H'' acc' ⟨l1, l2, el, e2, rfl, rfl⟩
          have : l2 = [] := by cases l2 with | nil => rfl | cons _ _ => cases e2
          subst this
          rw [List.append_nil] at el
          subst el
          refine ⟨ha12, k + 1, as, rest, done ++ l.map (fun v => (v - 1, (k : Int))), rfl, f, rfl, ?_, rfl⟩
          rw [← ed, List.append_assoc]
          rfl
        · rintro d ds H'' acc' ⟨l1, l2, el, e2, rfl, rfl⟩
          cases l2 with
          | nil => cases e2
          | cons v l2 =>
            cases e2
            repeat walk_at "m"
            refine ⟨ext_cons (by first | rfl | exact capM_none rfl) ext_refl, ?_⟩
            repeat walk_at "m"
            refine ⟨?_, hal, l1 ++ [v], l2, by rw [el]; simp, rfl, by simp [pM], rfl⟩
            rw [List.length_map]
            rw [el] at hdl
            simp only [List.length_append, List.length_map, List.length_cons] at hdl ⊢
            first | lia | omega
  · rintro d ds H' acc ⟨k, as, rest, done, e, f, rfl, ed, rfl⟩
    cases f with
    | nil => cases e
    | @cons dl l as rest hl f =>
      obtain ⟨al, rfl, qal, hal⟩ := hl
      cases e
      have hdl : (done ++ l.map (fun v => ((k : Int), v - 1))).length ≤ 1000 := by
        have e1 := congrArg List.length ed
        have e2 : (waysI k (l :: rest)).length = l.length + (waysI (k + 1) rest).length := by simp [waysI]
        simp only [List.length_append, List.length_map] at e1 ⊢
        first | lia | omega
      repeat walk_at "m"
      refine ⟨ext_cons (capM_none rfl) (ext_cons (capM_none rfl) ext_refl), ?_⟩
      repeat walk_at "m"
      refine WI_of (WE_local ⟨_, _, .list hal, ?_⟩)
      refine WCp_ind (WayD l k done H') ?_ ?_ _ _ _ ⟨[], l, rfl, rfl, by simp, rfl⟩
      · rintro H'' acc' ⟨l1, l2, el, e2, rfl, rfl⟩
        have : l2 = [] := by cases l2 with | nil => rfl | cons _ _ => cases e2
        subst this
        rw [List.append_nil] at el
        subst el
        refine ⟨ha0, k + 1, as, rest, done ++ l.map (fun v => ((k : Int), v - 1)), rfl, f, rfl, ?_, rfl⟩
        rw [← ed, List.append_assoc]
        rfl
      · rintro d ds H'' acc' ⟨l1, l2, el, e2, rfl, rfl⟩
        cases l2 with
        | nil => cases e2
        | cons v l2 =>
          cases e2
          repeat walk_at "m"
          refine ⟨ext_cons (by first | rfl | exact capM_none rfl) ext_refl, ?_⟩
          repeat walk_at "m"
          refine ⟨?_, hal, l1 ++ [v], l2, by rw [el]; simp, rfl, by simp [pM], rfl⟩
          rw [List.length_map]
          rw [el] at hdl
          simp only [List.length_append, List.length_map, List.length_cons] at hdl ⊢
          first | lia | omega
end
end
section
-- T1
section
variable {c : Cx} {n : Nat} {env : Env} {m : Loc} {H : HV}
theorem clashN {o : Option (List Lit)} : (clashM o).isNone = o.isNone := by cases o <;> rfl
structure LW (r0 r1 : Lots) : Prop where
  n0 : r0.length ≤ 4
  n1 : r1.length ≤ 4
  k0 : ∀ l ∈ r0, l.length ≤ 4
  k1 : ∀ l ∈ r1, l.length ≤ 4
  v0 : ∀ l ∈ r0, ∀ v ∈ l, 1 ≤ v ∧ v ≤ (r1.length : Int)
  v1 : ∀ l ∈ r1, ∀ v ∈ l, 1 ≤ v ∧ v ≤ (r0.length : Int)
theorem nil_neg {α : Type} [DecidableEq α] {a : α} : (!decide (a = a)) = false := by simp
noncomputable abbrev TR.late (res : TR) (at' : Bool) : List Lots := sel at' [res.row, res.back] [res.back, res.row]
noncomputable abbrev TR.l0 (res : TR) (at' : Bool) : Lots := sel at' res.row res.back
noncomputable abbrev TR.l1 (res : TR) (at' : Bool) : Lots := sel at' res.back res.row
theorem TR.late_eq {res : TR} {at' : Bool} : sel at' [res.row, res.back] [res.back, res.row] = [res.l0 at', res.l1 at'] := by cases at' <;> rfl
/-- what a lap needs of the plain law -/
structure LapOk (S S' : SS) (s0 s1 : List Int) (r0 r1 : Lots) (at' : Bool) (idle : Int) (res : TR) (P : SS → Prop) : Prop where
  hP : P S
  T : TurnInv (sel at' s0 s1) (sel at' s1 s0) P
  l0 : r0.length = s0.length
  l1 : r1.length = s1.length
  b0 : s0.length ≤ 4
  b1 : s1.length ≤ 4
  lw : LW r0 r1
  lw' : LW (res.l0 at') (res.l1 at')
  hres : lawI (sel at' s1 s0) 0 (sel at' s0 s1) (sel at' r0 r1) (sel at' r1 r0) [] = res
  hT : turnI (sel at' s1 s0) 0 (sel at' s0 s1) S = (res.clash.isNone, S')
  small : S.Small
  small' : S'.Small
  x0 : ∀ x ∈ s0, 0 ≤ x ∧ x.toNat < S'.doms.length
  x1 : ∀ x ∈ s1, 0 ≤ x ∧ x.toNat < S'.doms.length
  dok : ∀ l ∈ S'.doms, (∀ p ∈ l, -1000 ≤ p.1 ∧ p.1 ≤ p.2 + 1 ∧ p.2 ≤ 1000) ∧ (lotOf l).length ≤ 10000
  htr : S'.trail = S.trail ++ res.deeds
  lots : [s0.map fun x => lotOf (S'.dom x), s1.map fun x => lotOf (S'.dom x)] = sel at' [res.row, res.back] [res.back, res.row]
  failed : S'.failed = !res.clash.isNone
  clash : ∀ cl, res.clash = some cl → S'.clash = cl
  pnone : res.clash ≠ none → pairsD r0 r1 r0.length [] = []
  wd : res.clash = none → (waysI 0 (res.l0 at')).Nodup ∧ (waysJ 0 (res.l1 at')).Nodup ∧ (2 ≤ (waysI 0 (res.l0 at')).length ∧ (waysI 0 (res.l0 at')).length < 64) ∧ 2 ≤ (waysJ 0 (res.l1 at')).length ∧ (waysJ 0 (res.l1 at')).length < 64
  hw : res.clash = none → res.deeds = [] → idle + 1 > 1 → ∀ w, w ∈ waysI 0 (res.l0 at') ↔ w ∈ waysJ 0 (res.l1 at')
  psame : res.clash = none → pairsD (res.l0 at') (res.l1 at') (res.l0 at').length [] = pairsD r0 r1 r0.length []
theorem LapOk.ok {S S' : SS} {s0 s1 : List Int} {r0 r1 : Lots} {at' : Bool} {idle : Int} {res : TR} {P : SS → Prop} (Z : LapOk S S' s0 s1 r0 r1 at' idle res P) : ∀ lot ∈ sel at' r0 r1, LotOk (sel at' s1 s0).length lot := by
  intro lot h
  cases at' with
  | false => exact ⟨by have := Z.lw.k0 lot h; first | lia | omega, fun v hv => by have := Z.lw.v0 lot h v hv; have := Z.l1; show 1 ≤ v ∧ v ≤ (s1.length : Int); first | lia | omega⟩
  | true => exact ⟨by have := Z.lw.k1 lot h; first | lia | omega, fun v hv => by have := Z.lw.v1 lot h v hv; have := Z.l0; show 1 ≤ v ∧ v ≤ (s0.length : Int); first | lia | omega⟩
theorem LapOk.ok' {S S' : SS} {s0 s1 : List Int} {r0 r1 : Lots} {at' : Bool} {idle : Int} {res : TR} {P : SS → Prop} (Z : LapOk S S' s0 s1 r0 r1 at' idle res P) : ∀ lot ∈ sel at' r1 r0, lot.length ≤ 100 := by
  intro lot h
  cases at' with
  | false => have := Z.lw.k1 lot h; first | lia | omega
  | true => have := Z.lw.k0 lot h; first | lia | omega
theorem c_lap (z : Z2 c) {L0 : Addr} {A : Ad} {S S' : SS} {s0 s1 : List Int} {r0 r1 : Lots} {at' : Bool} {idle : Int} {res : TR} {P : SS → Prop} {rd fd : MV} {ix idx : Addr} {kvs : List (Str × MV)} {K : FM → Loc → HV → Prop}
    (Z : LapOk S S' s0 s1 r0 r1 at' idle res P) (hS : HSt A S H) (hrows : RL3 (fun a => a ∉ A.l) H rd [r0, r1]) (hidx : H idx = some (.sdict kvs)) (hkt : kvs.lookup ("turn" : Str) = none) (hidxA : idx ∉ A.l)
    (m1 : Mine.L "store_now" A.v m) (m2 : Mine.L "rows" rd m) (m3 : Mine.L "at" (.int (atI at')) m) (m4 : Mine.L "scopes" (.tup [.tup (intsM s0), .tup (intsM s1)]) m) (m5 : Mine.L "rule" (.inst ix 337 idx) m) (m6 : Mine.L "idle" (.int idle) m) (m7 : Mine.L "first" fd m)
    (hbrk : res.clash ≠ none → ∀ m' H', Mine.L "store_now" A.v m' → Mine.L "scopes" (.tup [.tup (intsM s0), .tup (intsM s1)]) m' → Mine.L "first" fd m' → HSt A S' H' → Keep (fun a => a ∉ A.l) H H' → K .brk m' H')
    (hnext : res.clash = none → ∀ m' H' rd', Mine.L "store_now" A.v m' → Mine.L "scopes" (.tup [.tup (intsM s0), .tup (intsM s1)]) m' → Mine.L "first" fd m' → Mine.L "rule" (.inst ix 337 idx) m' → Mine.L "rows" rd' m' → Mine.L "at" (.int (atI (!at'))) m' → Mine.L "idle" (.int (if res.deeds = [] then idle + 1 else 0)) m' →
      RL3 (fun a => a ∉ A.l) H' rd' [res.l0 at', res.l1 at'] → HSt A S' H' → Keep (fun a => a ∉ A.l) H H' → K .next m' H') :
    WXs c (n + 20) (lawEnv c.w.params L0) (lawLap c.w.params) m H K := by
  have zz := z.toZ
  refine WXs_cons ?_
  refine WX_Assign ?_
  repeat walk_at "m"
  refine WE_CallB zz Boot.«len» ?_
  repeat walk_at "m"
  refine W1_attrZ zz hS.dx rfl rfl ?_
  repeat walk_at "m"
  refine WC_len_list hS.t (by have := Z.small.t; simpa using (by first | lia | omega : S.trail.length ≤ 10000)) ?_
  repeat walk_at "m"
  refine WE_CallK zz (f := 363) ?_ (by kernel_rfl) (by kernel_rfl)
  repeat walk_at "m"
  have hAl : ∀ a, H a = none → a ∉ A.l := fun a e hm => by
    simp only [Ad.l, List.mem_cons, List.not_mem_nil, or_false] at hm
    rcases hm with rfl | rfl | rfl | rfl | rfl | rfl
    · rw [hS.dx] at e; cases e
    · rw [hS.d] at e; cases e
    · rw [hS.f] at e; cases e
    · rw [hS.t] at e; cases e
    · rw [hS.m] at e; cases e
    · rw [hS.n] at e; cases e
  refine (c_turned (n := n + 11) zz hrows hAl Z.l0 Z.l1 (by have := Z.b0; first | lia | omega) (by have := Z.b1; first | lia | omega) Z.ok Z.ok' Z.hres fun R D H1 hR hD hDl k1 => ?_)
  repeat walk_at "m"
  refine WE_Method ?_
  repeat walk_at "m"
  refine GM_instZ zz (f := 320) (k1 _ _ hidx) hkt (by kernel_rfl) ⟨zz.kp, ?_⟩
  repeat walk_at "m"
  refine W2_subT (j := (atI at').toNat) (by cases at' <;> rfl) (d := .tup (intsM (sel at' s0 s1))) (by cases at' <;> rfl) ?_ (by cases at' <;> decide)
  repeat walk_at "m"
  refine W2_subT (j := (1 - atI at').toNat) (by cases at' <;> rfl) (d := .tup (intsM (sel at' s1 s0))) (by cases at' <;> rfl) ?_ (by cases at' <;> decide)
  repeat walk_at "m"
  have hS1 := hS.ext k1
  refine c_turn (n := n + 7) zz Z.T hS1 Z.hP fun H2 hS2 sm2 => ?_
  rw [Z.hT] at hS2 ⊢
  dsimp only at hS2 ⊢
  repeat walk_at "m"
  refine W2_isN (d := clashM res.clash) ?_ (fun v e => by cases q : res.clash <;> rw [q] at e <;> cases e)
  rw [clashN]
  repeat walk_at "m"
  refine ite_b (fun e => absurd e (by simp)) (fun _ => ?_)
  repeat walk_at "m"
  refine W1_attrZ zz hS2.dx rfl rfl ?_
  repeat walk_at "m"
  have hlen : (List.map entM S.trail).length = S.trail.length := List.length_map _
  rw [hlen]
  refine ⟨_, _, .view hS2.t, by have := Z.small'.t; simpa using (by first | lia | omega : S'.trail.length ≤ 10000), rfl, by first | lia | omega, fun T hT0 bT => ?_⟩
  repeat walk_at "m"
  have hD2 : H2 D = some (.list (res.deeds.map entM)) := (sm2 D hD).trans hDl
  have hcut : (List.map entM S'.trail).drop (S.trail.length : Int).toNat = res.deeds.map datE.m := by
    rw [Z.htr, List.map_append, Int.toNat_natCast, List.drop_append_of_le_length (by simp), List.drop_eq_nil_of_le (by simp)]
    rfl
  rw [hcut]
  refine W2_neList datE_ok (by decide) (l := res.deeds) (l' := res.deeds) HV.set_self (keep_set hT0 _ _ hD2) ?_
  rw [nil_neg]
  repeat walk_at "m"
  have hS3 := hS2.ext (fun a o e => keep_set (o := .list (res.deeds.map datE.m)) hT0 a o e)
  refine WE_lots zz hS3 Z.small' Z.x0 Z.x1 Z.dok (by have := Z.b0; first | lia | omega) (by have := Z.b1; first | lia | omega) m4 m1 fun ld H4 rl k4 => ?_
  repeat walk_at "m"
  have rl' : RL3 (fun _ => True) H4 ld [res.l0 at', res.l1 at'] := by rw [← TR.late_eq, ← Z.lots]; exact rl
  have kp14 : Keep (fun a => a ∉ A.l) H1 H4 := fun a o q e => k4 _ _ (keep_set hT0 _ _ ((sm2 a q).trans e))
  have hR4 : RL3 (fun a => a ∉ A.l) H4 (.ref R) [res.l0 at', res.l1 at'] := by
    rw [← TR.late_eq]; exact RL3.mono hR kp14 fun a q _ => q
  refine W2_neP pd3 (by decide) (a := [res.l0 at', res.l1 at']) (b := [res.l0 at', res.l1 at']) rl'.dr hR4.dr ?_
  rw [nil_neg]
  have hS4 := hS3.ext k4
  have kp : Keep (fun a => a ∉ A.l) H H4 := fun a o q e => kp14 a o q (k1 a o e)
  have hrows4 : RL3 (fun a => a ∉ A.l) H4 rd [r0, r1] := RL3.mono hrows kp fun a q _ => q
  have hD4 : H4 D = some (.list (res.deeds.map entM)) := kp14 _ _ hD hDl
  have hAl4 : ∀ a, H4 a = none → a ∉ A.l := fun a e hm => by
    simp only [Ad.l, List.mem_cons, List.not_mem_nil, or_false] at hm
    rcases hm with rfl | rfl | rfl | rfl | rfl | rfl
    · rw [hS4.dx] at e; cases e
    · rw [hS4.d] at e; cases e
    · rw [hS4.f] at e; cases e
    · rw [hS4.t] at e; cases e
    · rw [hS4.m] at e; cases e
    · rw [hS4.n] at e; cases e
  clear hS3 hS2 hS1 hcut hD2 rl rl' kp14 hR hDl k1 sm2 k4 hT0 bT
  repeat walk_at "m"
  refine W1_attrZ zz hS4.dx rfl rfl ?_
  repeat walk_at "m"
  refine W2_isN (d := clashM res.clash) ?_ (fun v e => by cases q : res.clash <;> rw [q] at e <;> cases e)
  rw [clashN]
  repeat walk_at "m"
  rw [Z.failed]
  refine ite_b (fun e => absurd e (by cases res.clash <;> simp)) (fun _ => ?_)
  repeat walk_at "m"
  refine W2_isNotN (d := clashM res.clash) ?_ (fun v e => by cases q : res.clash <;> rw [q] at e <;> cases e)
  rw [clashN]
  repeat walk_at "m"
  cases hcl : res.clash with
  | some cl =>
    show if (!false) = true then _ else _
    refine ite_b (fun _ => ?_) (fun e => by cases e)
    repeat walk_at "m"
    refine W1_attrZ zz hS4.dx rfl rfl ?_
    repeat walk_at "m"
    rw [Z.clash cl hcl]
    refine W2_neLits (l := cl) (l' := cl) ?_
    rw [nil_neg]
    repeat walk_at "m"
    refine WE_CallK zz (f := 370) ?_ (by kernel_rfl) (by kernel_rfl)
    repeat walk_at "m"
    intro E hE bE
    repeat walk_at "m"
    refine WC.up (c_pairs (n := n) zz Z.lw.k0 Z.lw.v0 Z.lw.n0 Z.lw.n1 (fun l h => by have := Z.lw.k1 l h; first | lia | omega) r0.length (row := []) (Q0 := fun a => a ∉ A.l) (RL3.mono hrows4 (keep_of (keep_set hE)) fun a q _ => q) (hAl4 _ hE) (fun a e => hAl4 a (set_none e).2) HV.set_self (by simp) fun pd H6 rp k6 => ?_) (by have := Z.lw.n0; first | lia | omega)
    rw [Z.pnone (by rw [hcl]; simp)] at rp
    repeat walk_at "m"
    refine W2_isNotN (d := clashM (some cl)) ?_ (fun v e => by cases e)
    repeat walk_at "m"
    show if (!false) = true then _ else _
    refine ite_b (fun _ => ?_) (fun e => by cases e)
    repeat walk_at "m"
    intro F hF bF
    repeat walk_at "m"
    refine W2_neP pd2 (by decide) (a := []) (b := []) (RL2.mono rp (keep_of (keep_set hF)) fun a q _ => q).dr (DR.nil HV.set_self) ?_
    rw [nil_neg]
    repeat walk_at "m"
    refine W2_isN (d := clashM (some cl)) ?_ (fun v e => by cases e)
    repeat walk_at "m"
    show if false = true then _ else _
    repeat walk_at "m"
    refine W2_isNotN (d := clashM (some cl)) ?_ (fun v e => by cases e)
    repeat walk_at "m"
    show if (!false) = true then _ else _
    refine ite_b (fun _ => ?_) (fun e => by cases e)
    repeat walk_at "m"
    have k7 : ∀ a o, H4 a = some o → (H6.set F (.list [])) a = some o := fun a o e => keep_set hF _ _ (k6 _ _ (keep_set hE _ _ e))
    exact hbrk (by rw [hcl]; simp) _ _ m1 m4 m7 (hS4.ext k7) fun a o q e => k7 _ _ (kp a o q e)
  | none =>
    show if (!true) = true then _ else _
    refine ite_b (fun e => by cases e) (fun _ => ?_)
    repeat walk_at "m"
    refine WE_CallK zz (f := 370) ?_ (by kernel_rfl) (by kernel_rfl)
    repeat walk_at "m"
    intro E hE bE
    repeat walk_at "m"
    refine WC.up (c_pairs (n := n) zz Z.lw.k0 Z.lw.v0 Z.lw.n0 Z.lw.n1 (fun l h => by have := Z.lw.k1 l h; first | lia | omega) r0.length (row := []) (Q0 := fun a => a ∉ A.l) (RL3.mono hrows4 (keep_of (keep_set hE)) fun a q _ => q) (hAl4 _ hE) (fun a e => hAl4 a (set_none e).2) HV.set_self (by simp) fun pd H6 rp k6 => ?_) (by have := Z.lw.n0; first | lia | omega)
    repeat walk_at "m"
    refine W2_isNotN (d := clashM none) ?_ (fun v e => by cases e)
    repeat walk_at "m"
    show if (!true) = true then _ else _
    refine ite_b (fun e => by cases e) (fun _ => ?_)
    repeat walk_at "m"
    refine W2_isN (d := clashM none) ?_ (fun v e => by cases e)
    repeat walk_at "m"
    show if true = true then _ else _
    repeat walk_at "m"
    refine WE_CallK zz (f := 370) ?_ (by kernel_rfl) (by kernel_rfl)
    repeat walk_at "m"
    intro F hF bF
    repeat walk_at "m"
    have k6' : ∀ a o, H4 a = some o → H6 a = some o := fun a o e => k6 _ _ (keep_set hE _ _ e)
    have hAl6 : ∀ a, H6 a = none → a ∉ A.l := fun a e => hAl4 a (by
      cases q : H4 a with
      | none => rfl
      | some o => rw [k6' a o q] at e; cases e)
    refine WC.up (c_pairs (n := n) zz Z.lw'.k0 Z.lw'.v0 Z.lw'.n0 Z.lw'.n1 (fun l h => by have := Z.lw'.k1 l h; first | lia | omega) (res.l0 at').length (row := []) (Q0 := fun a => a ∉ A.l) (RL3.mono hR4 (keep_of fun a o e => keep_set hF _ _ (k6' a o e)) fun a q _ => q) (hAl6 _ hF) (fun a e => hAl6 a (set_none e).2) HV.set_self (by simp) fun pd2' H8 rp2 k8 => ?_) (by have := Z.lw'.n0; first | lia | omega)
    rw [Z.psame hcl] at rp2
    repeat walk_at "m"
    have k48 : ∀ a o, H4 a = some o → H8 a = some o := fun a o e => k8 _ _ (keep_set hF _ _ (k6' a o e))
    refine W2_neP pd2 (by decide) (a := pairsD r0 r1 r0.length []) (b := pairsD r0 r1 r0.length []) (RL2.dr rp2) (RL2.mono rp (keep_of fun a o e => k8 _ _ (keep_set hF _ _ e)) fun a q _ => q).dr ?_
    rw [nil_neg]
    repeat walk_at "m"
    refine W2_isNotN (d := clashM none) ?_ (fun v e => by cases e)
    repeat walk_at "m"
    show if (!true) = true then _ else _
    refine ite_b (fun e => by cases e) (fun _ => ?_)
    repeat walk_at "m"
    intro G hG bG
    repeat walk_at "m"
    have k9 : ∀ a o, H4 a = some o → (H8.set G (.list [])) a = some o := fun a o e => keep_set hG _ _ (k48 a o e)
    refine W2_eqList datE_ok (by decide) (l := res.deeds) (l' := []) (k9 _ _ hD4) HV.set_self ?_
    repeat walk_at "m"
    have hR9 : RL3 (fun a => a ∉ A.l) (H8.set G (.list [])) (.ref R) [res.l0 at', res.l1 at'] := RL3.mono hR4 (keep_of k9) fun a q _ => q
    have hS9 := hS4.ext k9
    have kp9 : Keep (fun a => a ∉ A.l) H (H8.set G (.list [])) := fun a o q e => k9 a o (kp a o q e)
    generalize (H8.set G (.list [])) = H9 at hR9 hS9 kp9 ⊢
    obtain ⟨w1, w2, w3, w4⟩ := Z.wd hcl
    have eat : (1 - atI at') = atI (!at') := by cases at' <;> rfl
    refine ite_dec (fun hd => ?_) (fun hd => ?_)
    · repeat walk_at "m"
      change WX c (n + 20) (lawEnv c.w.params L0) (lawLap2H c.w.params) _ _ (thenX c (n + 20) (lawEnv c.w.params L0) (lawLap2T c.w.params) K)
      refine c_lap2 (L0 := L0) (x := idle + 1) zz hR9 Z.lw'.n0 Z.lw'.n1 Z.lw'.k0 Z.lw'.k1 w1 w2 w3 w4 (Z.hw hcl hd) (by rfl) (by rfl) (by exact m3) fun W1 W2 H' kk => ?_
      rw [eat]
      refine hnext hcl _ _ _ m1 m4 m7 m5 rfl rfl ?_ (RL3.mono hR9 (keep_of kk) fun a q _ => q) (hS9.ext kk) fun a o q e => kk _ _ (kp9 a o q e)
      rw [if_pos hd]
      rfl
    · repeat walk_at "m"
      change WX c (n + 20) (lawEnv c.w.params L0) (lawLap2H c.w.params) _ _ (thenX c (n + 20) (lawEnv c.w.params L0) (lawLap2T c.w.params) K)
      refine c_lap2 (L0 := L0) (x := 0) zz hR9 Z.lw'.n0 Z.lw'.n1 Z.lw'.k0 Z.lw'.k1 w1 w2 w3 w4 (fun e => by first | lia | omega) (by rfl) (by rfl) (by exact m3) fun W1 W2 H' kk => ?_
      rw [eat]
      refine hnext hcl _ _ _ m1 m4 m7 m5 rfl rfl ?_ (RL3.mono hR9 (keep_of kk) fun a q _ => q) (hS9.ext kk) fun a o q e => kk _ _ (kp9 a o q e)
      rw [if_neg hd]
      rfl
end
end
section
-- T2
section
variable {c : Cx} {n : Nat} {env : Env} {m : Loc} {H : HV}
structure FinOk (S : SS) (s0 s1 : List Int) (f0 f1 : Lots) : Prop where
  small : S.Small
  marks : S.marks = [0]
  tr : ∀ e ∈ S.trail, 0 ≤ e.1 ∧ e.1.toNat < S.doms.length
  ne : S.firsts.contains [] = false
  x0 : ∀ x ∈ s0, 0 ≤ x ∧ x.toNat < S.doms.length
  x1 : ∀ x ∈ s1, 0 ≤ x ∧ x.toNat < S.doms.length
  dok : ∀ l ∈ undo S.trail S.doms, l.length ≤ 400 ∧ (∀ p ∈ l, -1000 ≤ p.1 ∧ p.1 ≤ p.2 + 1 ∧ p.2 ≤ 1000) ∧ (lotOf l).length ≤ 10000
  lots : [s0.map fun x => lotOf ((undo S.trail S.doms).getD x.toNat []), s1.map fun x => lotOf ((undo S.trail S.doms).getD x.toNat [])] = [f0, f1]
noncomputable def lawTail4 (p : Params) : List Stmt := (fun (b : List Stmt) (_ : (lawTail3 p).drop 1 = b) => b) (_ :: _) rfl
theorem c_rest (z : Z2 c) {L0 : Addr} {A : Ad} {s0 s1 : List Int} {f0 f1 : Lots} {S : SS} {fd : MV} (b0 : s0.length ≤ 4) (b1 : s1.length ≤ 4) (hS : HSt A S H) (F : FinOk S s0 s1 f0 f1) (hfirst : RL3 (fun a => a ∉ A.l) H fd [f0, f1])
    (m1 : Mine.L "store_now" A.v m) (m4 : Mine.L "scopes" (.tup [.tup (intsM s0), .tup (intsM s1)]) m) (m7 : Mine.L "first" fd m) :
    WXs c (n + 21) (lawEnv c.w.params L0) (lawTail4 c.w.params) m H (retM fun d _ => d = .bool true) := by
  have zz := z.toZ
  refine WXs_cons ?_
  refine WX_Expr ?_
  refine WE_Method ?_
  repeat walk_at "m"
  refine GM_instZ zz (f := 227) hS.dx rfl (by kernel_rfl) ⟨zz.kp, ?_⟩
  repeat walk_at "m"
  refine c_pop zz hS F.small F.marks F.tr fun A' H2 e1 e2 hS2 k2 => ?_
  have ev : A.v = A'.v := by unfold Ad.v; rw [e1, e2]
  rw [ev] at m1
  rw [F.ne] at hS2
  repeat walk_at "m"
  refine WE_And ?_
  repeat walk_at "m"
  refine W1_attrZ zz hS2.dx rfl rfl ?_
  repeat walk_at "m"
  show if (!false) = true then _ else _
  refine ite_b (fun _ => ?_) (fun e => by cases e)
  repeat walk_at "m"
  have hlen : (undo S.trail S.doms).length = S.doms.length := undo_len
  refine WE_lots zz hS2 ⟨by rw [hlen]; exact F.small.d, F.small.f, by show 0 ≤ 1000; first | lia | omega, by show 0 ≤ 100; first | lia | omega, by show 0 ≤ 100; first | lia | omega, fun d hd => (F.dok d hd).1, by show 0 ≤ 500; first | lia | omega⟩ (by rw [hlen]; exact F.x0) (by rw [hlen]; exact F.x1) (fun l hl => (F.dok l hl).2) (by first | lia | omega) (by first | lia | omega) m4 m1 fun ld H4 rl k4 => ?_
  have rl' : RL3 (fun _ => True) H4 ld [f0, f1] := by rw [← F.lots]; exact rl
  repeat walk_at "m"
  refine W2_eqP pd3 (by decide) (a := [f0, f1]) (b := [f0, f1]) rl'.dr (RL3.mono hfirst (fun a o q e => k4 _ _ (k2 a o q e)) fun a q _ => q).dr ?_
  rw [show decide ([f0, f1] = [f0, f1]) = true by simp]
inductive Tail3I (Inv : SS → Lots → Lots → Bool → Int → Prop) (A : Ad) (H : HV) (s0 s1 : List Int) (ix idx : Addr) (fd : MV) (d0 : List MV) (m : Loc) (H' : HV) : Prop
  | mk (S : SS) (r0 : Lots) (r1 : Lots) (at' : Bool) (idle : Int) (rd : MV) (h0 : Inv S r0 r1 at' idle) (h1 : HSt A S H') (h2 : RL3 (fun a => a ∉ A.l) H' rd [r0, r1]) (h3 : Keep (fun a => a ∉ A.l) H H') (h4 : Mine.L "store_now" A.v m) (h5 : Mine.L "rows" rd m) (h6 : Mine.L "at" (.int (atI at')) m) (h7 : Mine.L "scopes" (.tup [.tup (intsM s0), .tup (intsM s1)]) m) (h8 : Mine.L "rule" (.inst ix 337 idx) m) (h9 : Mine.L "idle" (.int idle) m) (h10 : Mine.L "first" fd m)
theorem c_tail3 (z : Z2 c) {L0 : Addr} {A : Ad} {s0 s1 : List Int} {f0 f1 r0 r1 : Lots} {Inv : SS → Lots → Lots → Bool → Int → Prop} {S : SS} {at' : Bool} {idle : Int} {rd fd : MV} {ix idx : Addr} {kvs : List (Str × MV)}
    (hstep : ∀ S r0 r1 at' idle, Inv S r0 r1 at' idle → ∃ S' res P, LapOk S S' s0 s1 r0 r1 at' idle res P ∧ FinOk S' s0 s1 f0 f1 ∧ (res.clash = none → Inv S' (res.l0 at') (res.l1 at') (!at') (if res.deeds = [] then idle + 1 else 0)))
    (hfin : ∀ S r0 r1 at' idle, Inv S r0 r1 at' idle → FinOk S s0 s1 f0 f1) (hinv : Inv S r0 r1 at' idle) (b0 : s0.length ≤ 4) (b1 : s1.length ≤ 4)
    (hS : HSt A S H) (hrows : RL3 (fun a => a ∉ A.l) H rd [r0, r1]) (hfirst : RL3 (fun a => a ∉ A.l) H fd [f0, f1]) (hidx : H idx = some (.sdict kvs)) (hkt : kvs.lookup ("turn" : Str) = none) (hidxA : idx ∉ A.l)
    (m1 : Mine.L "store_now" A.v m) (m2 : Mine.L "rows" rd m) (m3 : Mine.L "at" (.int (atI at')) m) (m4 : Mine.L "scopes" (.tup [.tup (intsM s0), .tup (intsM s1)]) m) (m5 : Mine.L "rule" (.inst ix 337 idx) m) (m6 : Mine.L "idle" (.int idle) m) (m7 : Mine.L "first" fd m) :
    WXs c (n + 21) (lawEnv c.w.params L0) (lawTail3 c.w.params) m H (retM fun d _ => d = .bool true) := by
  have zz := z.toZ
  refine WXs_cons ?_
  refine WX_For (tg := fun _ => True) (WI_of ?_) trivial
  refine WE_CallT zz Boot.«range» ?_
  repeat walk_at "m"
  refine WC_range1 ⟨_, _, .rng (k := 4) (by decide) (by decide) (by decide), ?_⟩
  refine WFor_ind (Tail3I Inv A H s0 s1 ix idx fd) ?_ ?_ _ _ _ ⟨S, r0, r1, at', idle, rd, hinv, hS, hrows, fun _ _ _ e => e, m1, m2, m3, m4, m5, m6, m7⟩
  · rintro m H' ⟨S, r0, r1, at', idle, rd, hi, hS', -, kp, m1, m2, m3, m4, m5, m6, m7⟩
    exact c_rest z b0 b1 hS' (hfin _ _ _ _ _ hi) (RL3.mono hfirst kp fun a q _ => q) m1 m4 m7
  · rintro d ds m H' ⟨S, r0, r1, at', idle, rd, hi, hS', hr, kp, m1, m2, m3, m4, m5, m6, m7⟩
    obtain ⟨S', res, P, Z, F, nx⟩ := hstep _ _ _ _ _ hi
    walk_at "m"
    refine c_lap (n := n) z (rd := rd) (fd := fd) Z hS' hr (kp _ _ hidxA hidx) hkt hidxA m1 m2 m3 m4 m5 m6 m7 ?_ ?_
    · intro hc m' H'' n1 n4 n7 hS2 k2
      exact c_rest z b0 b1 hS2 F (RL3.mono hfirst (fun a o q e => k2 a o q (kp a o q e)) fun a q _ => q) n1 n4 n7
    · intro hc m' H'' rd' n1 n4 n7 n5 n2 n3 n6 hr2 hS2 k2
      exact ⟨trivial, S', _, _, _, _, rd', nx hc, hS2, hr2, fun a o q e => k2 a o q (kp a o q e), n1, n2, n3, n4, n5, n6, n7⟩
end
end
section
-- U1
noncomputable def lots16 : Lots := [[], [1], [2], [3], [4], [1, 2], [1, 3], [1, 4], [2, 3], [2, 4], [3, 4], [1, 2, 3], [1, 2, 4], [1, 3, 4], [2, 3, 4], [1, 2, 3, 4]]
noncomputable def vs4 : List Int := [1, 2, 3, 4]
theorem vs4_mem {v : Int} (h1 : 1 ≤ v) (h2 : v ≤ 4) : v ∈ vs4 := by
  have : v = 1 ∨ v = 2 ∨ v = 3 ∨ v = 4 := by first | lia | omega
  rcases this with rfl | rfl | rfl | rfl <;> simp [vs4]
/-- a lot: strictly ascending, of 1..4, not empty -/
structure GL (l : List Int) : Prop where
  mem : l ∈ lots16
  ne : l ≠ []
theorem lots_has : ∀ l ∈ lots16, ∀ v ∈ vs4, hasD (lawSpans l) v = l.contains v := by decide +kernel
theorem lots_fixed : ∀ l ∈ lots16, fixedD (lawSpans l) = (l.length == 1) := by decide +kernel
theorem lots_one : ∀ l ∈ lots16, l.length = 1 → l = [l.headD 0] ∧ valD (lawSpans l) = l.headD 0 := by decide +kernel
theorem lots_without : ∀ l ∈ lots16, ∀ v ∈ vs4, withoutD (lawSpans l) v = lawSpans (l.filter fun w => w != v) ∧ (l.filter fun w => w != v) ∈ lots16 := by decide +kernel
theorem lots_meet : ∀ l ∈ lots16, ∀ v ∈ vs4, meet1 (lawSpans l) v = if l.contains v then lawSpans [v] else [] := by decide +kernel
theorem lots_single : ∀ v ∈ vs4, [v] ∈ lots16 := by decide +kernel
theorem lots_lot : ∀ l ∈ lots16, lotOf (lawSpans l) = l := by decide +kernel
theorem lots_nil : ∀ l ∈ lots16, (lawSpans l = [] ↔ l = []) := by decide +kernel
theorem lots_inj : ∀ l ∈ lots16, ∀ l' ∈ lots16, (lawSpans l = lawSpans l' ↔ l = l') := by decide +kernel
theorem lots_len : ∀ l ∈ lots16, l.length ≤ 4 ∧ (lawSpans l).length ≤ 2 := by decide +kernel
theorem lots_bd : ∀ l ∈ lots16, ∀ p ∈ lawSpans l, 1 ≤ p.1 ∧ p.1 ≤ p.2 ∧ p.2 ≤ 4 := by decide +kernel
theorem lots_vs : ∀ l ∈ lots16, ∀ v ∈ l, v ∈ vs4 := by decide +kernel
theorem lots_filter : ∀ l ∈ lots16, l = vs4.filter fun v => l.contains v := by decide +kernel
theorem lots_nodup : ∀ l ∈ lots16, l.Nodup := by decide +kernel
theorem lots_rem : ∀ l ∈ lots16, ∀ v ∈ vs4, l.contains v = true → (l.filter fun w => w != v).length + 1 = l.length := by decide +kernel
theorem lots_rem_ne : ∀ l ∈ lots16, ∀ v ∈ vs4, l.contains v = true → ((l.filter fun w => w != v) = [] ↔ l = [v]) := by decide +kernel
theorem vs4_bd {v : Int} (h : v ∈ vs4) : 1 ≤ v ∧ v ≤ 4 := by
  simp only [vs4, List.mem_cons, List.not_mem_nil, or_false] at h
  first | lia | omega
theorem without_far {l : Dom} {v : Int} (h : ∀ p ∈ l, 1 ≤ p.1 ∧ p.1 ≤ p.2 ∧ p.2 ≤ 4) (hv : 4 < v) : withoutD l v = l := by
  unfold withoutD upTo fromOn
  rw [show (l.filter fun p => decide (v + 1 ≤ p.2)) = [] by
    rw [List.filter_eq_nil_iff]; intro p hp; have := h p hp; simp; first | lia | omega]
  rw [show (l.filter fun p => decide (p.1 ≤ v - 1)) = l by
    rw [List.filter_eq_self]; intro p hp; have := h p hp; simp; first | lia | omega]
  simp only [List.map_nil, List.append_nil]
  conv => rhs; rw [← List.map_id l]
  refine List.map_congr_left fun p hp => ?_
  have := h p hp
  rw [if_neg (by first | lia | omega)]; rfl
theorem meet_far {l : Dom} {v : Int} (h : ∀ p ∈ l, 1 ≤ p.1 ∧ p.1 ≤ p.2 ∧ p.2 ≤ 4) (hv : 4 < v) : meet1 l v = [] := by
  induction l with
  | nil => rfl
  | cons p r ih =>
    obtain ⟨a, b⟩ := p
    have := h (a, b) (by simp)
    unfold meet1
    rw [if_pos (by show b < v; have := this.2.2; simp at this; first | lia | omega)]
    exact ih fun p hp => h p (by simp [hp])
theorem GL.strike {l : List Int} (h : GL l) {v : Int} (hv : v ∈ vs4) (hne : l ≠ [v]) : GL (l.filter fun w => w != v) := by
  refine ⟨(lots_without l h.mem v hv).2, fun e => ?_⟩
  cases q : l.contains v with
  | true => exact hne ((lots_rem_ne l h.mem v hv q).mp e)
  | false =>
    refine h.ne ?_
    rw [← e]
    symm
    rw [List.filter_eq_self]
    intro w hw
    have : w ≠ v := by rintro rfl; rw [List.contains_iff_mem.mpr hw] at q; cases q
    simpa using this
theorem GL.single {v : Int} (hv : v ∈ vs4) : GL [v] := ⟨lots_single v hv, by simp⟩
end
section
-- U2
theorem getD_get {α : Type} {l : List α} {i : Nat} {a d : α} (h : l[i]? = some a) : l.getD i d = a := by
  rw [List.getD_eq_getElem?_getD, h]; rfl
theorem getD_mem {α : Type} {l : List α} {i : Nat} {d : α} (h : i < l.length) : l.getD i d ∈ l := by
  rw [List.getD_eq_getElem?_getD, List.getElem?_eq_getElem h]; exact List.getElem_mem h
theorem getD_set_self {α : Type} {l : List α} {i : Nat} {a d : α} (h : i < l.length) : (l.set i a).getD i d = a := by
  rw [List.getD_eq_getElem?_getD, List.getElem?_set_self h]; rfl
theorem getD_set_ne {α : Type} {l : List α} {i j : Nat} {a d : α} (h : i ≠ j) : (l.set i a).getD j d = l.getD j d := by
  rw [List.getD_eq_getElem?_getD, List.getElem?_set_ne h, List.getD_eq_getElem?_getD]
theorem set_getD {α : Type} {l : List α} {i : Nat} {d : α} : l.set i (l.getD i d) = l := by
  by_cases h : i < l.length
  · rw [List.getD_eq_getElem?_getD, List.getElem?_eq_getElem h]; exact List.set_getElem_self h
  · exact List.set_eq_of_length_le (by first | lia | omega)
theorem stored_len {Ky : Type} [DecidableEq Ky] {kvs : List (Ky × MV)} {k : Ky} {d : MV} : (storedM kvs k d).length ≤ kvs.length + 1 := by
  unfold storedM; split <;> simp
/-- the lots of the variables of a scope -/
noncomputable def pick (ls : Lots) (xs : List Int) : Lots := xs.map fun x => ls.getD x.toNat []
theorem pick_len {ls : Lots} {xs : List Int} : (pick ls xs).length = xs.length := by simp [pick]
theorem pick_get {ls : Lots} {xs : List Int} {i : Nat} {x : Int} (h : xs[i]? = some x) : (pick ls xs).getD i [] = ls.getD x.toNat [] := by
  refine getD_get ?_
  unfold pick; rw [List.getElem?_map, h]; rfl
theorem pick_out {ls : Lots} {xs : List Int} {i : Nat} (h : xs.length ≤ i) : (pick ls xs).getD i [] = [] := by
  rw [List.getD_eq_getElem?_getD, List.getElem?_eq_none (by rw [pick_len]; exact h)]; rfl
theorem pick_set {ls : Lots} {xs : List Int} {i : Nat} {x : Int} {l : List Int} (nd : xs.Nodup) (h0 : ∀ z ∈ xs, 0 ≤ z) (h : xs[i]? = some x) (hx : x.toNat < ls.length) : pick (ls.set x.toNat l) xs = (pick ls xs).set i l := by
  obtain ⟨hi, hxi⟩ := List.getElem?_eq_some_iff.mp h
  refine List.ext_getElem? fun k => ?_
  unfold pick
  rw [List.getElem?_map, List.getElem?_set, List.getElem?_map, List.length_map]
  by_cases hk : i = k
  · subst hk
    rw [if_pos rfl, if_pos hi, h]
    simp only [Option.map_some]
    rw [getD_set_self hx]
  · rw [if_neg hk]
    cases q : xs[k]? with
    | none => rfl
    | some z =>
      obtain ⟨hk2, hzk⟩ := List.getElem?_eq_some_iff.mp q
      have hne : z ≠ x := by
        intro e
        rw [← hzk, ← hxi] at e
        exact hk ((List.getElem_inj nd).mp e).symm
      simp only [Option.map_some]
      have a1 := h0 z (List.mem_of_getElem? q)
      have a2 := h0 x (List.mem_of_getElem? h)
      rw [getD_set_ne (by first | lia | omega)]
theorem pick_ne {ls : Lots} {ys : List Int} {x : Int} {l : List Int} (h0 : ∀ z ∈ ys, 0 ≤ z) (hx : 0 ≤ x) (h : x ∉ ys) : pick (ls.set x.toNat l) ys = pick ls ys := by
  unfold pick
  refine List.map_congr_left fun z hz => ?_
  have := h0 z hz
  exact getD_set_ne (by intro e; have : x = z := by first | lia | omega
                        subst this; exact h hz)
structure Geo (xs ys : List Int) (N : Nat) : Prop where
  ndx : xs.Nodup
  ndy : ys.Nodup
  dis : ∀ x ∈ xs, x ∉ ys
  bx : ∀ x ∈ xs, 0 ≤ x ∧ x.toNat < N
  by' : ∀ y ∈ ys, 0 ≤ y ∧ y.toNat < N
  lx : 2 ≤ xs.length ∧ xs.length ≤ 4
  ly : 2 ≤ ys.length ∧ ys.length ≤ 4
  nN : N ≤ 8
theorem Geo.flip {xs ys : List Int} {N : Nat} (G : Geo xs ys N) : Geo ys xs N :=
  ⟨G.ndy, G.ndx, fun y hy hx => G.dis y hx hy, G.by', G.bx, G.ly, G.lx, G.nN⟩
noncomputable def tot (ls : Lots) : Nat := (ls.map List.length).sum
theorem tot_set : ∀ {ls : Lots} {k : Nat} {l : List Int}, k < ls.length → tot (ls.set k l) + (ls.getD k []).length = tot ls + l.length
  | [], _, _, h => absurd h (by simp)
  | a :: ls, 0, l, _ => by simp [tot]; first | lia | omega
  | a :: ls, k + 1, l, h => by
    have := tot_set (ls := ls) (k := k) (l := l) (by simpa using h)
    simp only [tot, List.set_cons_succ, List.map_cons, List.sum_cons, List.getD_cons_succ] at this ⊢
    first | lia | omega
/-- the store stands for the lots ls -/
structure Rp (N : Nat) (S : SS) (ls : Lots) (xs ys : List Int) : Prop where
  doms : S.doms = ls.map lawSpans
  len : ls.length = N
  good : ∀ l ∈ ls, GL l
  wx : ∀ x ∈ xs, ∀ v ∈ ls.getD x.toNat [], v ≤ (ys.length : Int)
  wy : ∀ y ∈ ys, ∀ v ∈ ls.getD y.toNat [], v ≤ (xs.length : Int)
  sz : S.trail.length + tot ls ≤ 32
  nz : S.news.length ≤ S.trail.length
  fz : S.firsts.length ≤ 8
  mz : S.marks.length ≤ 1
  cz : S.clash.length ≤ 400
theorem Rp.flip {N : Nat} {S : SS} {ls : Lots} {xs ys : List Int} (R : Rp N S ls xs ys) : Rp N S ls ys xs :=
  ⟨R.doms, R.len, R.good, R.wy, R.wx, R.sz, R.nz, R.fz, R.mz, R.cz⟩
theorem Rp.dom {N : Nat} {S : SS} {ls : Lots} {xs ys : List Int} (R : Rp N S ls xs ys) (x : Int) : S.dom x = lawSpans (ls.getD x.toNat []) := by
  unfold SS.dom
  rw [R.doms, List.getD_eq_getElem?_getD, List.getElem?_map, List.getD_eq_getElem?_getD]
  cases ls[x.toNat]? <;> rfl
theorem Rp.gl {N : Nat} {S : SS} {ls : Lots} {xs ys : List Int} (R : Rp N S ls xs ys) {x : Int} (h : x.toNat < N) : GL (ls.getD x.toNat []) :=
  R.good _ (getD_mem (by rw [R.len]; exact h))
theorem Rp.small {N : Nat} {S : SS} {ls : Lots} {xs ys : List Int} (R : Rp N S ls xs ys) (hN : N ≤ 8) : S.Small := by
  have := R.sz; have := R.nz; have := R.fz; have := R.mz; have := R.cz; have := R.len
  refine ⟨by rw [R.doms, List.length_map]; first | lia | omega, by first | lia | omega, by first | lia | omega, by first | lia | omega, by first | lia | omega, ?_, by first | lia | omega⟩
  intro d hd
  rw [R.doms] at hd
  obtain ⟨l, hl, rfl⟩ := List.mem_map.mp hd
  have := (lots_len l (R.good l hl).mem).2
  first | lia | omega
/-- forward from S by the entries new -/
structure Fwd (N : Nat) (S S' : SS) (new : List Ent) : Prop where
  trail : S'.trail = S.trail ++ new
  undo : undo S'.trail S'.doms = undo S.trail S.doms
  firsts : S'.firsts = S.firsts
  marks : S'.marks = S.marks
  ents : ∀ e ∈ new, 0 ≤ e.1 ∧ e.1.toNat < N
theorem Fwd.refl {N : Nat} {S : SS} : Fwd N S S [] := ⟨by simp, rfl, rfl, rfl, by simp⟩
theorem Fwd.trans {N : Nat} {S S' S'' : SS} {a b : List Ent} (f : Fwd N S S' a) (g : Fwd N S' S'' b) : Fwd N S S'' (a ++ b) :=
  ⟨by rw [g.trail, f.trail, List.append_assoc], g.undo.trans f.undo, g.firsts.trans f.firsts, g.marks.trans f.marks, fun e he => by
    rcases List.mem_append.mp he with h | h
    · exact f.ents e h
    · exact g.ents e h⟩
noncomputable def SS.put (S : SS) (x : Int) (l' : List Int) (e : Ent) : SS := { S with trail := S.trail ++ [e], doms := S.doms.set x.toNat (lawSpans l'), news := storedM S.news x (.bool true) }
theorem put_ok {N : Nat} {S : SS} {ls : Lots} {xs ys : List Int} (R : Rp N S ls xs ys) {x : Int} (hx : 0 ≤ x ∧ x.toNat < N) {l' : List Int} (hl : GL l') (hsub : ∀ v ∈ l', v ∈ ls.getD x.toNat []) (hlt : l'.length < (ls.getD x.toNat []).length)
    {t : Lit} {rs : List Lit} (gx : ∀ z ∈ xs, 0 ≤ z) (gy : ∀ z ∈ ys, 0 ≤ z) :
    Rp N (S.put x l' (x, lawSpans (ls.getD x.toNat []), t, rs)) (ls.set x.toNat l') xs ys ∧ Fwd N S (S.put x l' (x, lawSpans (ls.getD x.toNat []), t, rs)) [(x, lawSpans (ls.getD x.toNat []), t, rs)] := by
  have hlen : x.toNat < ls.length := by rw [R.len]; exact hx.2
  have ht := tot_set (l := l') hlen
  have hw : ∀ zs : List Int, (∀ z ∈ zs, 0 ≤ z) → ∀ k : Nat, (∀ z ∈ zs, ∀ v ∈ ls.getD z.toNat [], v ≤ (k : Int)) → ∀ z ∈ zs, ∀ v ∈ (ls.set x.toNat l').getD z.toNat [], v ≤ (k : Int) := by
    intro zs h0 k h z hz v hv
    by_cases e : x.toNat = z.toNat
    · rw [← e, getD_set_self hlen] at hv
      exact h z hz v (e ▸ hsub v hv)
    · rw [getD_set_ne e] at hv
      exact h z hz v hv
  constructor
  · refine ⟨?_, by rw [List.length_set, R.len], fun l h => ?_, hw xs gx _ R.wx, hw ys gy _ R.wy, ?_, ?_, R.fz, R.mz, R.cz⟩
    · show S.doms.set _ _ = _
      rw [R.doms, List.map_set]
    · rcases List.mem_or_eq_of_mem_set h with h | rfl
      · exact R.good l h
      · exact hl
    · show (S.trail ++ [_]).length + _ ≤ 32
      have := R.sz
      rw [List.length_append, List.length_singleton]
      first | lia | omega
    · show (storedM S.news x _).length ≤ (S.trail ++ [_]).length
      have := R.nz
      have := stored_len (kvs := S.news) (k := x) (d := .bool true)
      rw [List.length_append, List.length_singleton]
      first | lia | omega
  · refine ⟨rfl, ?_, rfl, rfl, ?_⟩
    · show Mine.undo (S.trail ++ [_]) (S.doms.set _ _) = _
      rw [undo_snoc]
      dsimp only
      rw [List.set_set, ← R.dom x]
      unfold SS.dom
      rw [set_getD]
    · intro e he
      rw [List.mem_singleton] at he
      subst he
      exact hx
theorem enter_strike {N : Nat} {S : SS} {ls : Lots} {xs ys : List Int} (R : Rp N S ls xs ys) {x : Int} (hx : 0 ≤ x ∧ x.toNat < N) {v : Int} (hv : 1 ≤ v) {rs : List Lit} :
    S.enter (x, false, v) rs = if (ls.getD x.toNat []).contains v = true then (if ls.getD x.toNat [] = [v] then (false, S.fail (rs ++ [(x, true, v)])) else (true, S.put x ((ls.getD x.toNat []).filter fun w => w != v) (x, lawSpans (ls.getD x.toNat []), (x, false, v), rs))) else (true, S) := by
  have hg := R.gl hx.2
  have hd := R.dom x
  unfold SS.dom at hd
  unfold SS.enter
  dsimp only
  rw [hd]
  generalize ls.getD x.toNat [] = l at hg hd ⊢
  show (if withoutD (lawSpans l) v = [] then _ else if withoutD (lawSpans l) v = lawSpans l then _ else _) = _
  by_cases h4 : v ≤ 4
  · have hv4 := vs4_mem hv h4
    obtain ⟨e1, e2⟩ := lots_without l hg.mem v hv4
    rw [e1]
    cases q : l.contains v with
    | true =>
      rw [if_pos rfl]
      have h1 := lots_rem_ne l hg.mem v hv4 q
      have h2 := lots_rem l hg.mem v hv4 q
      by_cases h3 : l = [v]
      · rw [if_pos h3, if_pos ((lots_nil _ e2).mpr (h1.mpr h3))]; rfl
      · rw [if_neg h3, if_neg (fun e => h3 (h1.mp ((lots_nil _ e2).mp e))), if_neg (fun e => by
          have := (lots_inj _ e2 l hg.mem).mp e
          rw [this] at h2; first | lia | omega)]
        show (true, { S with trail := _, doms := S.doms.set x.toNat (withoutD (lawSpans l) v), news := _ }) = _
        rw [e1]
        rfl
    | false =>
      have e3 : (l.filter fun w => w != v) = l := by
        rw [List.filter_eq_self]
        intro w hw
        have : w ≠ v := by rintro rfl; rw [List.contains_iff_mem.mpr hw] at q; cases q
        simpa using this
      rw [e3, if_neg (fun e => hg.ne ((lots_nil _ hg.mem).mp e)), if_pos rfl]
      rfl
  · rw [without_far (lots_bd l hg.mem) (by first | lia | omega)]
    have q : l.contains v = false := by
      cases q : l.contains v with
      | false => rfl
      | true => exact absurd (vs4_bd (lots_vs l hg.mem v (List.contains_iff_mem.mp q))).2 (by first | lia | omega)
    rw [q, if_neg (fun e => hg.ne ((lots_nil _ hg.mem).mp e)), if_pos rfl]
    rfl
theorem enter_force {N : Nat} {S : SS} {ls : Lots} {xs ys : List Int} (R : Rp N S ls xs ys) {x : Int} (hx : 0 ≤ x ∧ x.toNat < N) {v : Int} (hv : 1 ≤ v) {rs : List Lit} :
    S.enter (x, true, v) rs = if (ls.getD x.toNat []).contains v = true then (if ls.getD x.toNat [] = [v] then (true, S) else (true, S.put x [v] (x, lawSpans (ls.getD x.toNat []), (x, true, v), rs))) else (false, S.fail (rs ++ [(x, false, v)])) := by
  have hg := R.gl hx.2
  have hd := R.dom x
  unfold SS.dom at hd
  unfold SS.enter
  dsimp only
  rw [hd]
  generalize ls.getD x.toNat [] = l at hg hd ⊢
  show (if meet1 (lawSpans l) v = [] then _ else if meet1 (lawSpans l) v = lawSpans l then _ else _) = _
  by_cases h4 : v ≤ 4
  · have hv4 := vs4_mem hv h4
    rw [lots_meet l hg.mem v hv4]
    have hs := lots_single v hv4
    cases q : l.contains v with
    | true =>
      rw [if_pos rfl, if_pos rfl, if_neg (fun e => by have := (lots_nil _ hs).mp e; cases this)]
      have h1 := lots_inj _ hs l hg.mem
      by_cases h3 : l = [v]
      · rw [if_pos h3, if_pos (h1.mpr h3.symm)]
      · rw [if_neg h3, if_neg (fun e => h3 (h1.mp e).symm)]
        show (true, { S with trail := _, doms := S.doms.set x.toNat (meet1 (lawSpans l) v), news := _ }) = (true, S.put x [v] _)
        rw [lots_meet l hg.mem v hv4, q, if_pos rfl]
        rfl
    | false =>
      rfl
  · rw [meet_far (lots_bd l hg.mem) (by first | lia | omega), if_pos rfl]
    have q : l.contains v = false := by
      cases q : l.contains v with
      | false => rfl
      | true => exact absurd (vs4_bd (lots_vs l hg.mem v (List.contains_iff_mem.mp q))).2 (by first | lia | omega)
    rw [q]
    rfl
end
section
-- U3
/-- what one variable's places become -/
structure JOut (N i : Nat) (S S' : SS) (x : Int) (j : Nat) (ny : Nat) (lot lot' : List Int) (back : Lots) (new : List Ent) (o : Option (List Lit)) : Prop where
  fwd : Fwd N S S' new
  sub : ∀ v ∈ lot', v ∈ lot
  kept : ∀ j' : Nat, ((j' : Int) + 1) ∈ lot → ((i : Int) + 1) ∈ back.getD j' [] → ((j' : Int) + 1) ∈ lot'
  cons : o = none → ∀ j' : Nat, j ≤ j' → j' < ny → ((j' : Int) + 1) ∈ lot' → ((i : Int) + 1) ∈ back.getD j' []
  bad : o ≠ none → ∃ j' : Nat, lot' = [(j' : Int) + 1] ∧ ((i : Int) + 1) ∉ back.getD j' []
  idle : new = [] → lot' = lot
  ok : o = none → S'.failed = S.failed ∧ S'.clash = S.clash
  ko : ∀ cl, o = some cl → S'.failed = true ∧ S'.clash = cl
theorem vs4_lt {k : Nat} (h : k < 4) : ((k : Int) + 1) ∈ vs4 := vs4_mem (by first | lia | omega) (by first | lia | omega)
theorem Rp.fail {N : Nat} {S : SS} {ls : Lots} {xs ys : List Int} (R : Rp N S ls xs ys) {cs : List Lit} (h : cs.length ≤ 400) : Rp N (S.fail cs) ls xs ys :=
  ⟨R.doms, R.len, R.good, R.wx, R.wy, R.sz, R.nz, R.fz, R.mz, h⟩
theorem simJ {N : Nat} {xs ys : List Int} (G : Geo xs ys N) {i : Nat} {x : Int} (hx : xs[i]? = some x) : ∀ (yt : List Int) (j : Nat) (S : SS) (ls : Lots) (deeds : List Ent), yt = ys.drop j → Rp N S ls xs ys →
    ∃ S' lot' new o, turnJ i x j yt S = (o.isNone, S') ∧ lawJ i x (pick ls ys) j yt (ls.getD x.toNat []) deeds = (lot', deeds ++ new, o) ∧ Rp N S' (ls.set x.toNat lot') xs ys ∧
      JOut N i S S' x j ys.length (ls.getD x.toNat []) lot' (pick ls ys) new o
  | [], j, S, ls, deeds, hy, R => by
    refine ⟨S, _, [], none, rfl, by rw [List.append_nil]; rfl, by rw [set_getD]; exact R, .refl, fun _ h => h, fun _ h _ => h, fun _ j' h1 h2 _ => ?_, fun h => absurd rfl h, fun _ => rfl, fun _ => ⟨rfl, rfl⟩, fun cl h => by cases h⟩
    have := congrArg List.length hy
    rw [List.length_drop] at this
    simp at this
    first | lia | omega
  | y :: yt, j, S, ls, deeds, hy, R => by
    have hi : i < xs.length := (List.getElem?_eq_some_iff.mp hx).1
    have hxm := List.mem_of_getElem? hx
    obtain ⟨hx0, hxN⟩ := G.bx x hxm
    have hyj : ys[j]? = some y := by
      have : (ys.drop j)[0]? = some y := by rw [← hy]; rfl
      rwa [List.getElem?_drop, Nat.add_zero] at this
    have hj : j < ys.length := (List.getElem?_eq_some_iff.mp hyj).1
    have hy' : yt = ys.drop (j + 1) := by
      have : (y :: yt).tail = (ys.drop j).tail := by rw [hy]
      rw [List.tail_drop] at this
      exact this
    obtain ⟨hy0, hyN⟩ := G.by' y (List.mem_of_getElem? hyj)
    have gl := R.gl hxN
    have gy := R.gl hyN
    have iv := vs4_lt (k := i) (by have := G.lx.2; first | lia | omega)
    have jv := vs4_lt (k := j) (by have := G.ly.2; first | lia | omega)
    have b1 : (pick ls ys).getD j [] = ls.getD y.toNat [] := pick_get hyj
    have e1 : hasD (S.dom x) ((j : Int) + 1) = (ls.getD x.toNat []).contains ((j : Int) + 1) := by rw [R.dom, lots_has _ gl.mem _ jv]
    have e2 : hasD (S.dom y) ((i : Int) + 1) = ((pick ls ys).getD j []).contains ((i : Int) + 1) := by rw [R.dom, b1, lots_has _ gy.mem _ iv]
    have ent := enter_strike R ⟨hx0, hxN⟩ (v := (j : Int) + 1) (by first | lia | omega) (rs := [(y, false, (i : Int) + 1)])
    unfold turnJ lawJ
    rw [e1, e2]
    by_cases c : (ls.getD x.toNat []).contains ((j : Int) + 1) = true ∧ ((pick ls ys).getD j []).contains ((i : Int) + 1) = false
    · obtain ⟨c1, c2⟩ := c
      have c2' : ((i : Int) + 1) ∉ (pick ls ys).getD j [] := fun h => by rw [List.contains_iff_mem.mpr h] at c2; cases c2
      have cc := And.intro c1 c2
      rw [if_pos cc, if_pos cc]
      rw [if_pos c1] at ent
      by_cases h1 : ls.getD x.toNat [] = [(j : Int) + 1]
      · rw [if_pos h1] at ent
        rw [ent, if_pos h1]
        refine ⟨_, ls.getD x.toNat [], [], some [(y, false, (i : Int) + 1), (x, true, (j : Int) + 1)], rfl, by rw [List.append_nil], by rw [set_getD]; exact R.fail (by simp), ?_⟩
        exact ⟨⟨by simp [SS.fail], rfl, rfl, rfl, by simp⟩, fun _ h => h, fun _ h _ => h, fun e => (by cases e), fun _ => ⟨j, h1, c2'⟩, fun _ => rfl, fun e => (by cases e), fun cl e => (by cases e; exact ⟨rfl, rfl⟩)⟩
      · rw [if_neg h1] at ent
        rw [ent, if_neg h1]
        have hr := lots_rem _ gl.mem _ jv c1
        have hsub : ∀ v ∈ (ls.getD x.toNat []).filter (fun w => w != (j : Int) + 1), v ∈ ls.getD x.toNat [] := fun v h => (List.mem_filter.mp h).1
        obtain ⟨R1, F1⟩ := put_ok (t := (x, false, (j : Int) + 1)) (rs := [(y, false, (i : Int) + 1)]) R ⟨hx0, hxN⟩ (gl.strike jv h1) hsub (by first | lia | omega) (fun z h => (G.bx z h).1) (fun z h => (G.by' z h).1)
        have hp : pick (ls.set x.toNat ((ls.getD x.toNat []).filter fun w => w != (j : Int) + 1)) ys = pick ls ys := pick_ne (fun z h => (G.by' z h).1) hx0 (G.dis x hxm)
        have hxl : x.toNat < ls.length := by rw [R.len]; exact hxN
        obtain ⟨S', lot', new, o, t1, l1, R2, Z⟩ := simJ G hx yt (j + 1) _ _ (deeds ++ [(x, lawSpans (ls.getD x.toNat []), (x, false, (j : Int) + 1), [(y, false, (i : Int) + 1)])]) hy' R1
        rw [hp, getD_set_self hxl] at l1 Z
        rw [List.set_set] at R2
        refine ⟨S', lot', _, o, t1, by rw [l1, List.append_assoc], R2, F1.trans Z.fwd, fun v h => hsub v (Z.sub v h), fun j' h1 h2 => ?_, fun e j' h1 h2 h3 => ?_, Z.bad, fun e => by simp at e, Z.ok, Z.ko⟩
        · refine Z.kept j' (List.mem_filter.mpr ⟨h1, ?_⟩) h2
          have : ((j' : Int) + 1) ≠ (j : Int) + 1 := fun e => by
            have : j' = j := by first | lia | omega
            subst this
            exact c2' h2
          simpa using this
        · by_cases e' : j' = j
          · subst e'
            have := (List.mem_filter.mp (Z.sub _ h3)).2
            simp at this
          · exact Z.cons e j' (by first | lia | omega) h2 h3
    · rw [if_neg c, if_neg c]
      obtain ⟨S', lot', new, o, t1, l1, R2, Z⟩ := simJ G hx yt (j + 1) S ls deeds hy' R
      refine ⟨S', lot', new, o, t1, l1, R2, Z.fwd, Z.sub, Z.kept, fun e j' h1 h2 h3 => ?_, Z.bad, Z.idle, Z.ok, Z.ko⟩
      by_cases e' : j' = j
      · subst e'
        have q := List.contains_iff_mem.mpr (Z.sub _ h3)
        cases q2 : ((pick ls ys).getD j' []).contains ((i : Int) + 1) with
        | true => exact List.contains_iff_mem.mp q2
        | false => exact absurd ⟨q, q2⟩ c
      · exact Z.cons e j' (by first | lia | omega) h2 h3
end
section
-- U4
structure Bij (n : Nat) (R : Nat → Nat → Prop) : Prop where
  tot : ∀ i, i < n → ∃ j, j < n ∧ R i j
  sur : ∀ j, j < n → ∃ i, i < n ∧ R i j
  fn : ∀ i j j', R i j → R i j' → j = j'
  inj : ∀ i i' j, R i j → R i' j → i = i'
theorem Bij.flip {n : Nat} {R : Nat → Nat → Prop} (h : Bij n R) : Bij n (fun j i => R i j) :=
  ⟨h.sur, h.tot, fun j i i' a b => h.inj i i' j a b, fun j j' i a b => h.fn i j j' a b⟩
noncomputable def FitR (n : Nat) (row back : Lots) (R : Nat → Nat → Prop) : Prop :=
  ∀ i j, i < n → j < n → R i j → ((j : Int) + 1) ∈ row.getD i [] ∧ ((i : Int) + 1) ∈ back.getD j []
theorem FitR.flip {n : Nat} {row back : Lots} {R : Nat → Nat → Prop} (h : FitR n row back R) : FitR n back row (fun j i => R i j) :=
  fun j i hj hi r => ⟨(h i j hi hj r).2, (h i j hi hj r).1⟩
structure IOut (N i : Nat) (S S' : SS) (xs ys : List Int) (ls ls' : Lots) (new : List Ent) (o : Option (List Lit)) : Prop where
  fwd : Fwd N S S' new
  sub : ∀ z : Nat, ∀ v ∈ ls'.getD z [], v ∈ ls.getD z []
  fit : xs.length = ys.length → ∀ R, Bij xs.length R → FitR xs.length (pick ls xs) (pick ls ys) R → FitR xs.length (pick ls' xs) (pick ls' ys) R
  bad : o ≠ none → xs.length = ys.length → ∀ R, Bij xs.length R → ¬ FitR xs.length (pick ls xs) (pick ls ys) R
  idle : new = [] → ls' = ls
  cons : new = [] → o = none → ∀ i', i ≤ i' → i' < xs.length → ∀ v ∈ (pick ls xs).getD i' [], ((i' : Int) + 1) ∈ (pick ls ys).getD (v - 1).toNat []
  ok : o = none → S'.failed = S.failed ∧ S'.clash = S.clash
  ko : ∀ cl, o = some cl → S'.failed = true ∧ S'.clash = cl
theorem set_sub {ls : Lots} {k : Nat} {l : List Int} (h : ∀ v ∈ l, v ∈ ls.getD k []) : ∀ z : Nat, ∀ v ∈ (ls.set k l).getD z [], v ∈ ls.getD z [] := by
  intro z v hv
  by_cases e : k = z
  · subst e
    by_cases hk : k < ls.length
    · rw [getD_set_self hk] at hv; exact h v hv
    · rw [List.set_eq_of_length_le (by first | lia | omega)] at hv; exact hv
  · rw [getD_set_ne e] at hv; exact hv
theorem fit_J {n i : Nat} {row back : Lots} {lot' : List Int} {R : Nat → Nat → Prop} (hi : i < row.length) (kept : ∀ j' : Nat, ((j' : Int) + 1) ∈ row.getD i [] → ((i : Int) + 1) ∈ back.getD j' [] → ((j' : Int) + 1) ∈ lot') (h : FitR n row back R) : FitR n (row.set i lot') back R := by
  intro a b ha hb r
  obtain ⟨h1, h2⟩ := h a b ha hb r
  refine ⟨?_, h2⟩
  by_cases e : i = a
  · subst e
    rw [getD_set_self hi]
    exact kept b h1 h2
  · rw [getD_set_ne e]; exact h1
theorem fit_F {n i k : Nat} {row back : Lots} {R : Nat → Nat → Prop} (hi : i < n) (hk : k < back.length) (hrow : row.getD i [] = [(k : Int) + 1]) (B : Bij n R) (h : FitR n row back R) : FitR n row (back.set k [(i : Int) + 1]) R := by
  intro a b ha hb r
  obtain ⟨h1, h2⟩ := h a b ha hb r
  refine ⟨h1, ?_⟩
  by_cases e : k = b
  · subst e
    rw [getD_set_self hk]
    obtain ⟨j, hj, rij⟩ := B.tot i hi
    obtain ⟨g1, g2⟩ := h i j hi hj rij
    rw [hrow, List.mem_singleton] at g1
    have : j = k := by first | lia | omega
    subst this
    have := B.inj a i j r rij
    subst this
    simp
  · rw [getD_set_ne e]; exact h2
theorem lawI_cons {ys xt : List Int} {i : Nat} {x : Int} {row back : Lots} {deeds d : List Ent} {r : List Int} {o : Option (List Lit)} (h : lawJ i x back 0 ys (row.getD i []) deeds = (r, d, o)) :
    lawI ys i (x :: xt) row back deeds = (match o with
      | some cl => ⟨row.set i r, back, d, some cl⟩
      | none => if r.length = 1 then
          (if back.getD (r.headD 0 - 1).toNat [] ≠ [(i : Int) + 1] then
             lawI ys (i + 1) xt (row.set i r) (back.set (r.headD 0 - 1).toNat [(i : Int) + 1]) (d ++ [(ys.getD (r.headD 0 - 1).toNat 0, lawSpans (back.getD (r.headD 0 - 1).toNat []), (ys.getD (r.headD 0 - 1).toNat 0, true, (i : Int) + 1), [(x, true, r.headD 0)])])
           else lawI ys (i + 1) xt (row.set i r) back d)
        else lawI ys (i + 1) xt (row.set i r) back d) := by
  rw [lawI]
  simp only [h]
  cases o <;> rfl
theorem simI {N : Nat} {xs ys : List Int} (G : Geo xs ys N) : ∀ (xt : List Int) (i : Nat) (S : SS) (ls : Lots) (deeds : List Ent), xt = xs.drop i → Rp N S ls xs ys →
    ∃ S' ls' new o, turnI ys i xt S = (o.isNone, S') ∧ lawI ys i xt (pick ls xs) (pick ls ys) deeds = ⟨pick ls' xs, pick ls' ys, deeds ++ new, o⟩ ∧ Rp N S' ls' xs ys ∧ IOut N i S S' xs ys ls ls' new o
  | [], i, S, ls, deeds, hx, R => by
    refine ⟨S, ls, [], none, rfl, by rw [List.append_nil]; rfl, R, .refl, fun _ _ h => h, fun _ _ _ h => h, fun h => absurd rfl h, fun _ => rfl, fun _ _ i' h1 h2 => ?_, fun _ => ⟨rfl, rfl⟩, fun cl h => by cases h⟩
    have := congrArg List.length hx
    rw [List.length_drop] at this
    simp at this
    first | lia | omega
  | x :: xt, i, S, ls, deeds, hx, R => by
    have hxi : xs[i]? = some x := by
      have : (xs.drop i)[0]? = some x := by rw [← hx]; rfl
      rwa [List.getElem?_drop, Nat.add_zero] at this
    have hi : i < xs.length := (List.getElem?_eq_some_iff.mp hxi).1
    have hxm := List.mem_of_getElem? hxi
    obtain ⟨hx0, hxN⟩ := G.bx x hxm
    have hx' : xt = xs.drop (i + 1) := by
      have : (x :: xt).tail = (xs.drop i).tail := by rw [hx]
      rw [List.tail_drop] at this
      exact this
    have iv := vs4_lt (k := i) (by have := G.lx.2; first | lia | omega)
    obtain ⟨S1, lot', nJ, o1, t1, l1, R1, Z⟩ := simJ G hxi ys 0 S ls deeds rfl R
    have hxl : x.toNat < ls.length := by rw [R.len]; exact hxN
    have px : pick (ls.set x.toNat lot') xs = (pick ls xs).set i lot' := pick_set G.ndx (fun z h => (G.bx z h).1) hxi hxl
    have py : pick (ls.set x.toNat lot') ys = pick ls ys := pick_ne (fun z h => (G.by' z h).1) hx0 (G.dis x hxm)
    have gx : (pick ls xs).getD i [] = ls.getD x.toNat [] := pick_get hxi
    have sub1 := set_sub (ls := ls) (k := x.toNat) (l := lot') Z.sub
    have fit1 : ∀ Rl, FitR xs.length (pick ls xs) (pick ls ys) Rl → FitR xs.length (pick (ls.set x.toNat lot') xs) (pick (ls.set x.toNat lot') ys) Rl := fun Rl h => by
      rw [px, py]
      exact fit_J (by rw [pick_len]; exact hi) (by rw [gx]; exact Z.kept) h
    have hT : turnI ys i (x :: xt) S = (if o1.isNone then
       (if fixedD (S1.dom x) then
         (let r := S1.enter (ys.getD (valD (S1.dom x) - 1).toNat 0, true, (i : Int) + 1) [(x, true, valD (S1.dom x))]
          if r.1 then turnI ys (i + 1) xt r.2 else (false, r.2))
       else turnI ys (i + 1) xt S1)
      else (false, S1)) := by
      show (if (turnJ i x 0 ys S).1 then _ else _) = _
      rw [t1]
    have hL := lawI_cons (xt := xt) ((congrArg (fun l => lawJ i x (pick ls ys) 0 ys l deeds) gx).trans l1)
    rw [hT, hL]
    cases o1 with
    | some cl =>
      refine ⟨S1, _, nJ, some cl, rfl, by rw [px, py], R1, Z.fwd, sub1, fun _ Rl _ h => fit1 Rl h, fun _ e Rl B h => ?_, fun e => by rw [Z.idle e, set_getD], fun _ e => (by cases e), Z.ok, Z.ko⟩
      obtain ⟨j', e1, e2⟩ := Z.bad (by simp)
      obtain ⟨j, hj, rij⟩ := B.tot i hi
      obtain ⟨g1, g2⟩ := h i j hi hj rij
      have := Z.kept j (by rw [← gx]; exact g1) g2
      rw [e1, List.mem_singleton] at this
      have : j = j' := by first | lia | omega
      subst this
      exact e2 g2
    | none =>
      have g1 : GL lot' := by
        have := R1.gl hxN
        rwa [getD_set_self hxl] at this
      have d1 : S1.dom x = lawSpans lot' := by rw [R1.dom, getD_set_self hxl]
      have hf : fixedD (S1.dom x) = (lot'.length == 1) := by rw [d1, lots_fixed _ g1.mem]
      have cons0 : nJ = [] → ∀ v ∈ (pick ls xs).getD i [], ((i : Int) + 1) ∈ (pick ls ys).getD (v - 1).toNat [] := fun e v hv => by
        rw [gx] at hv
        have hv4 := vs4_bd (lots_vs _ (R.gl hxN).mem v hv)
        have hw := R.wx x hxm v hv
        have e3 : (((v - 1).toNat : Nat) : Int) + 1 = v := by first | lia | omega
        have := Z.cons rfl (v - 1).toNat (by first | lia | omega) (by first | lia | omega)
        rw [e3, Z.idle e] at this
        exact this hv
      rw [hf]
      by_cases hl : lot'.length = 1
      · obtain ⟨e1, e2⟩ := lots_one _ g1.mem hl
        have hv : lot'.headD 0 ∈ lot' := by
          have : lot'.headD 0 ∈ [lot'.headD 0] := by simp
          rwa [← e1] at this
        have ev : valD (S1.dom x) = lot'.headD 0 := by rw [d1, e2]
        rw [ev]
        generalize lot'.headD 0 = v at e1 hv
        have hv4 := vs4_bd (lots_vs _ g1.mem v hv)
        have hw := R1.wx x hxm v (by rw [getD_set_self hxl]; exact hv)
        have hvy : (v - 1).toNat < ys.length := by first | lia | omega
        have hye : ys[(v - 1).toNat]? = some (ys.getD (v - 1).toNat 0) := by rw [List.getD_eq_getElem?_getD, List.getElem?_eq_getElem hvy]; rfl
        generalize hyd : ys.getD (v - 1).toNat 0 = y at hye
        have hym := List.mem_of_getElem? hye
        obtain ⟨hy0, hyN⟩ := G.by' y hym
        have e3 : (((v - 1).toNat : Nat) : Int) + 1 = v := by first | lia | omega
        have gy : (pick ls ys).getD (v - 1).toNat [] = (ls.set x.toNat lot').getD y.toNat [] := by rw [← py]; exact pick_get hye
        have hin : ((ls.set x.toNat lot').getD y.toNat []).contains ((i : Int) + 1) = true := by
          have := Z.cons rfl (v - 1).toNat (by first | lia | omega) hvy (by rw [e3]; exact hv)
          rw [gy] at this
          exact List.contains_iff_mem.mpr this
        have ent := enter_force R1 ⟨hy0, hyN⟩ (v := (i : Int) + 1) (by first | lia | omega) (rs := [(x, true, v)])
        rw [if_pos hin] at ent
        rw [gy, if_pos hl]
        have hl' : (lot'.length == 1) = true := by rw [hl]; rfl
        rw [hl']
        by_cases hq : (ls.set x.toNat lot').getD y.toNat [] = [(i : Int) + 1]
        · rw [if_pos hq] at ent
          have hne : ¬ ((ls.set x.toNat lot').getD y.toNat [] ≠ [(i : Int) + 1]) := fun h => h hq
          rw [if_neg hne]
          obtain ⟨S', ls', nI, o, t2, l2, R2, W⟩ := simI G xt (i + 1) S1 _ (deeds ++ nJ) hx' R1
          rw [px, py, List.append_assoc] at l2
          refine ⟨S', ls', nJ ++ nI, o, ?_, l2, R2, Z.fwd.trans W.fwd, fun z w hw => sub1 z w (W.sub z w hw), fun e Rl B h => W.fit e Rl B (fit1 Rl h), fun e1 e2 Rl B h => W.bad e1 e2 Rl B (fit1 Rl h), fun e => ?_, fun e e' i' h1 h2 => ?_, fun e => ?_, W.ko⟩
          · rw [← t2]
            simp only [Option.isNone_none, if_true]
            rw [ent]
            simp
          · obtain ⟨ea, eb⟩ := List.append_eq_nil_iff.mp e
            rw [W.idle eb, Z.idle ea, set_getD]
          · obtain ⟨ea, eb⟩ := List.append_eq_nil_iff.mp e
            by_cases h3 : i' = i
            · subst h3; exact cons0 ea
            · have := W.cons eb e' i' (by first | lia | omega) h2
              rwa [Z.idle ea, set_getD] at this
          · obtain ⟨a1, a2⟩ := W.ok e
            obtain ⟨b1, b2⟩ := Z.ok rfl
            exact ⟨a1.trans b1, a2.trans b2⟩
        · rw [if_neg hq] at ent
          have hne : (ls.set x.toNat lot').getD y.toNat [] ≠ [(i : Int) + 1] := hq
          rw [if_pos hne]
          have hsub : ∀ w ∈ [(i : Int) + 1], w ∈ (ls.set x.toNat lot').getD y.toNat [] := fun w hw => by
            rw [List.mem_singleton] at hw; subst hw; exact List.contains_iff_mem.mp hin
          have hlt : [(i : Int) + 1].length < ((ls.set x.toNat lot').getD y.toNat []).length := by
            have gg := R1.gl hyN
            rcases Nat.lt_or_ge 1 ((ls.set x.toNat lot').getD y.toNat []).length with h | h
            · exact h
            · exfalso
              have h0 : ((ls.set x.toNat lot').getD y.toNat []).length ≠ 0 := fun e => gg.ne (List.length_eq_zero_iff.mp e)
              obtain ⟨f1, -⟩ := lots_one _ gg.mem (by first | lia | omega)
              have := List.contains_iff_mem.mp hin
              rw [f1, List.mem_singleton] at this
              rw [← this] at f1
              exact hq f1
          obtain ⟨R2, F2⟩ := put_ok (t := (y, true, (i : Int) + 1)) (rs := [(x, true, v)]) R1 ⟨hy0, hyN⟩ (GL.single iv) hsub hlt (fun z h => (G.bx z h).1) (fun z h => (G.by' z h).1)
          have hyl : y.toNat < (ls.set x.toNat lot').length := by rw [R1.len]; exact hyN
          have qx : pick ((ls.set x.toNat lot').set y.toNat [(i : Int) + 1]) xs = (pick ls xs).set i lot' := by
            rw [pick_ne (fun z h => (G.bx z h).1) hy0 (fun h => G.dis y h hym), px]
          have qy : pick ((ls.set x.toNat lot').set y.toNat [(i : Int) + 1]) ys = (pick ls ys).set (v - 1).toNat [(i : Int) + 1] := by
            rw [pick_set G.ndy (fun z h => (G.by' z h).1) hye hyl, py]
          have fit2 : ∀ Rl, Bij xs.length Rl → FitR xs.length (pick ls xs) (pick ls ys) Rl → FitR xs.length (pick ((ls.set x.toNat lot').set y.toNat [(i : Int) + 1]) xs) (pick ((ls.set x.toNat lot').set y.toNat [(i : Int) + 1]) ys) Rl := fun Rl B h => by
            have h1 := fit1 Rl h
            rw [px, py] at h1
            rw [qx, qy]
            refine fit_F hi (by rw [pick_len]; exact hvy) ?_ B h1
            rw [getD_set_self (by rw [pick_len]; exact hi), e3]
            exact e1
          obtain ⟨S', ls', nI, o, t2, l2, R3, W⟩ := simI G xt (i + 1) _ _ (deeds ++ nJ ++ [(y, lawSpans ((ls.set x.toNat lot').getD y.toNat []), (y, true, (i : Int) + 1), [(x, true, v)])]) hx' R2
          rw [qx, qy] at l2
          refine ⟨S', ls', nJ ++ ([(y, lawSpans ((ls.set x.toNat lot').getD y.toNat []), (y, true, (i : Int) + 1), [(x, true, v)])] ++ nI), o, ?_, ?_, R3, Z.fwd.trans (F2.trans W.fwd), fun z w hw => sub1 z w (set_sub hsub z w (W.sub z w hw)), fun e Rl B h => W.fit e Rl B (fit2 Rl B h), fun e1 e2 Rl B h => W.bad e1 e2 Rl B (fit2 Rl B h), fun e => by simp at e, fun e => by simp at e, fun e => ?_, W.ko⟩
          · rw [← t2]
            simp only [Option.isNone_none, if_true]
            rw [ent]
            simp
          · rw [l2]
            simp only [List.append_assoc]
          · obtain ⟨a1, a2⟩ := W.ok e
            obtain ⟨b1, b2⟩ := Z.ok rfl
            exact ⟨a1.trans b1, a2.trans b2⟩
      · rw [if_neg hl]
        have hl' : (lot'.length == 1) = false := by simpa using hl
        rw [hl']
        obtain ⟨S', ls', nI, o, t2, l2, R2, W⟩ := simI G xt (i + 1) S1 _ (deeds ++ nJ) hx' R1
        rw [px, py, List.append_assoc] at l2
        refine ⟨S', ls', nJ ++ nI, o, ?_, l2, R2, Z.fwd.trans W.fwd, fun z w hw => sub1 z w (W.sub z w hw), fun e Rl B h => W.fit e Rl B (fit1 Rl h), fun e1 e2 Rl B h => W.bad e1 e2 Rl B (fit1 Rl h), fun e => ?_, fun e e' i' h1 h2 => ?_, fun e => ?_, W.ko⟩
        · rw [← t2]
          rfl
        · obtain ⟨ea, eb⟩ := List.append_eq_nil_iff.mp e
          rw [W.idle eb, Z.idle ea, set_getD]
        · obtain ⟨ea, eb⟩ := List.append_eq_nil_iff.mp e
          by_cases h3 : i' = i
          · subst h3; exact cons0 ea
          · have := W.cons eb e' i' (by first | lia | omega) h2
            rwa [Z.idle ea, set_getD] at this
        · obtain ⟨a1, a2⟩ := W.ok e
          obtain ⟨b1, b2⟩ := Z.ok rfl
          exact ⟨a1.trans b1, a2.trans b2⟩
end
section
-- U5
theorem turnInv {N : Nat} {xs ys : List Int} (G : Geo xs ys N) : TurnInv xs ys (fun S => ∃ ls, Rp N S ls xs ys) where
  small := fun S ⟨ls, R⟩ => R.small G.nN
  inRow := fun S ⟨ls, R⟩ x hx => by rw [R.doms, List.length_map, R.len]; exact G.bx x hx
  inBack := fun S ⟨ls, R⟩ y hy => by rw [R.doms, List.length_map, R.len]; exact G.by' y hy
  val := fun S ⟨ls, R⟩ x hx h => by
    have g := R.gl (G.bx x hx).2
    rw [R.dom, lots_fixed _ g.mem] at h
    obtain ⟨e1, e2⟩ := lots_one _ g.mem (by simpa using h)
    rw [R.dom, e2]
    have hv : (ls.getD x.toNat []).headD 0 ∈ ls.getD x.toNat [] := by
      have : (ls.getD x.toNat []).headD 0 ∈ [(ls.getD x.toNat []).headD 0] := by simp
      rwa [← e1] at this
    exact ⟨(vs4_bd (lots_vs _ g.mem _ hv)).1, R.wx x hx _ hv⟩
  ent := fun S ⟨ls, R⟩ x hx j rs h => by
    obtain ⟨hx0, hxN⟩ := G.bx x hx
    have g := R.gl hxN
    rw [enter_strike R ⟨hx0, hxN⟩ (by first | lia | omega)] at h ⊢
    by_cases c : (ls.getD x.toNat []).contains ((j : Int) + 1) = true
    · rw [if_pos c] at h ⊢
      by_cases d : ls.getD x.toNat [] = [(j : Int) + 1]
      · rw [if_pos d] at h; cases h
      · rw [if_neg d]
        have jv := lots_vs _ g.mem _ (List.contains_iff_mem.mp c)
        have hr := lots_rem _ g.mem _ jv c
        exact ⟨_, (put_ok R ⟨hx0, hxN⟩ (g.strike jv d) (fun v h => (List.mem_filter.mp h).1) (by first | lia | omega) (fun z h => (G.bx z h).1) (fun z h => (G.by' z h).1)).1⟩
    · rw [if_neg c]; exact ⟨ls, R⟩
  ent2 := fun S ⟨ls, R⟩ y hy i rs h => by
    obtain ⟨hy0, hyN⟩ := G.by' y hy
    have g := R.gl hyN
    rw [enter_force R ⟨hy0, hyN⟩ (by first | lia | omega)] at h ⊢
    by_cases c : (ls.getD y.toNat []).contains ((i : Int) + 1) = true
    · rw [if_pos c] at h ⊢
      by_cases d : ls.getD y.toNat [] = [(i : Int) + 1]
      · rw [if_pos d]; exact ⟨ls, R⟩
      · rw [if_neg d]
        have hm := List.contains_iff_mem.mp c
        have iv := lots_vs _ g.mem _ hm
        refine ⟨_, (put_ok R ⟨hy0, hyN⟩ (GL.single iv) (fun v h => by rw [List.mem_singleton] at h; subst h; exact hm) ?_ (fun z h => (G.bx z h).1) (fun z h => (G.by' z h).1)).1⟩
        rcases Nat.lt_or_ge 1 (ls.getD y.toNat []).length with h | h
        · exact h
        · exfalso
          have h0 : (ls.getD y.toNat []).length ≠ 0 := fun e => g.ne (List.length_eq_zero_iff.mp e)
          obtain ⟨f1, -⟩ := lots_one _ g.mem (by first | lia | omega)
          rw [f1, List.mem_singleton] at hm
          rw [← hm] at f1
          exact d f1
    · rw [if_neg c] at h; cases h
  hb := by have := G.ly.2; first | lia | omega

noncomputable def okAt (r0 r1 : Lots) (p : List Int) (i : Nat) : Bool := (r0.getD i []).contains (p.getD i 0) && (!(p.take i).contains (p.getD i 0) && (r1.getD (p.getD i 0 - 1).toNat []).contains ((i : Int) + 1))
noncomputable def okFrom (r0 r1 : Lots) (p : List Int) : Nat → Nat → Bool
  | _, 0 => true
  | i, k + 1 => okAt r0 r1 p i && okFrom r0 r1 p (i + 1) k
noncomputable def allW : Nat → List Int → Lots
  | 0, row => [row]
  | k + 1, row => vs4.flatMap fun v => allW k (row ++ [v])
theorem flatMap_cg {α β : Type} {f g : α → List β} : ∀ {l : List α}, (∀ a ∈ l, f a = g a) → l.flatMap f = l.flatMap g
  | [], _ => rfl
  | a :: l, h => by rw [List.flatMap_cons, List.flatMap_cons, h a (by simp), flatMap_cg fun b hb => h b (by simp [hb])]
theorem flatMap_fl {α β : Type} {f : α → List β} {c : α → Bool} : ∀ {l : List α}, (l.filter c).flatMap f = l.flatMap fun v => if c v = true then f v else []
  | [] => rfl
  | a :: l => by
    rw [List.filter_cons, List.flatMap_cons]
    cases q : c a with
    | true => rw [if_pos rfl, if_pos rfl, List.flatMap_cons, flatMap_fl]
    | false => rw [if_neg (by simp), if_neg (by simp), flatMap_fl, List.nil_append]
theorem allW_pre : ∀ (k : Nat) (row p : List Int), p ∈ allW k row → p.length = row.length + k ∧ p.take row.length = row ∧ ∀ v ∈ p, v ∈ row ∨ v ∈ vs4
  | 0, row, p, h => by
    have : p = row := by simpa [allW] using h
    subst this
    exact ⟨by simp, by simp, fun v hv => .inl hv⟩
  | k + 1, row, p, h => by
    obtain ⟨v, hv, hp⟩ := List.mem_flatMap.mp h
    obtain ⟨h1, h2, h3⟩ := allW_pre k _ p hp
    rw [List.length_append, List.length_singleton] at h1 h2
    refine ⟨by first | lia | omega, ?_, fun w hw => ?_⟩
    · have := congrArg (List.take row.length) h2
      rw [List.take_take, Nat.min_eq_left (by first | lia | omega), List.take_left] at this
      exact this
    · rcases h3 w hw with h | h
      · rcases List.mem_append.mp h with h | h
        · exact .inl h
        · rw [List.mem_singleton] at h; subst h; exact .inr hv
      · exact .inr h
theorem pairsD_all {r0 r1 : Lots} (hn : r0.length = r1.length) (hg : ∀ l ∈ r0, l ∈ lots16) : ∀ (k : Nat) (row : List Int), pairsD r0 r1 k row = (allW k row).filter fun p => okFrom r0 r1 p row.length k
  | 0, row => by rw [pairsD, if_pos hn]; rfl
  | k + 1, row => by
    rw [pairsD]
    have hl : r0.getD row.length [] ∈ lots16 := by
      by_cases h : row.length < r0.length
      · exact hg _ (getD_mem h)
      · rw [List.getD_eq_getElem?_getD, List.getElem?_eq_none (by first | lia | omega)]; simp [lots16]
    have e0 := lots_filter _ hl
    rw [show (r0.getD row.length []).flatMap (fun v => if row.contains v = false ∧ (r1.getD (v - 1).toNat []).contains ((row.length : Int) + 1) = true then pairsD r0 r1 k (row ++ [v]) else []) = vs4.flatMap (fun v => if (r0.getD row.length []).contains v = true then (if row.contains v = false ∧ (r1.getD (v - 1).toNat []).contains ((row.length : Int) + 1) = true then pairsD r0 r1 k (row ++ [v]) else []) else []) by
      conv => lhs; rw [e0]
      rw [flatMap_fl]]
    rw [allW, List.filter_flatMap]
    refine flatMap_cg fun v hv => ?_
    have hc : ∀ p ∈ allW k (row ++ [v]), okFrom r0 r1 p row.length (k + 1) = (((r0.getD row.length []).contains v && (!row.contains v && (r1.getD (v - 1).toNat []).contains ((row.length : Int) + 1))) && okFrom r0 r1 p (row ++ [v]).length k) := by
      intro p hp
      obtain ⟨h1, h2, -⟩ := allW_pre k _ p hp
      rw [List.length_append, List.length_singleton] at h1 h2 ⊢
      have g : p.getD row.length 0 = v := by
        have := congrArg (fun l => l[row.length]?) h2
        simp only [List.getElem?_take, List.getElem?_append_right (Nat.le_refl row.length)] at this
        rw [if_pos (by first | lia | omega)] at this
        exact getD_get (this.trans (by simp))
      have t : p.take row.length = row := by
        have := congrArg (List.take row.length) h2
        rw [List.take_take, Nat.min_eq_left (by first | lia | omega), List.take_left] at this
        exact this
      show (okAt r0 r1 p row.length && okFrom r0 r1 p (row.length + 1) k) = _
      unfold okAt
      rw [g, t]
    rw [List.filter_congr hc]
    cases q1 : (r0.getD row.length []).contains v with
    | false =>
      rw [if_neg (by simp)]
      symm
      rw [List.filter_eq_nil_iff]
      intro p _; simp
    | true =>
      rw [if_pos rfl]
      by_cases c : row.contains v = false ∧ (r1.getD (v - 1).toNat []).contains ((row.length : Int) + 1) = true
      · rw [if_pos c, pairsD_all hn hg k, c.1, c.2]
        simp
      · rw [if_neg c]
        symm
        rw [List.filter_eq_nil_iff]
        intro p _ e
        simp only [Bool.true_and, Bool.and_eq_true, Bool.not_eq_true'] at e
        exact c e.1
theorem pairsD_ne {r0 r1 : Lots} (hn : r0.length ≠ r1.length) : ∀ (k : Nat) (row : List Int), pairsD r0 r1 k row = []
  | 0, row => by rw [pairsD, if_neg hn]
  | k + 1, row => by
    rw [pairsD, List.flatMap_eq_nil_iff]
    intro v _
    rw [pairsD_ne hn k]
    split <;> rfl
noncomputable def surB (n : Nat) : Bool := (allW n []).all fun p => !((List.range n).all fun i => !(p.take i).contains (p.getD i 0)) || (!(p.all fun v => decide (v ≤ (n : Int))) || (List.range n).all fun j => (List.range n).any fun i => p.getD i 0 == (j : Int) + 1)
theorem surB2 : surB 2 = true := by decide +kernel
theorem surB3 : surB 3 = true := by decide +kernel
theorem surB4 : surB 4 = true := by decide +kernel
noncomputable abbrev Rel (p : List Int) (i j : Nat) : Prop := i < p.length ∧ p.getD i 0 = (j : Int) + 1
theorem okFrom_all {r0 r1 : Lots} {p : List Int} : ∀ (k i : Nat), okFrom r0 r1 p i k = true ↔ ∀ a, i ≤ a → a < i + k → okAt r0 r1 p a = true
  | 0, i => ⟨fun _ a h1 h2 => by first | lia | omega, fun _ => rfl⟩
  | k + 1, i => by
    show (okAt r0 r1 p i && okFrom r0 r1 p (i + 1) k) = true ↔ _
    rw [Bool.and_eq_true, okFrom_all k (i + 1)]
    constructor
    · rintro ⟨h1, h2⟩ a ha hb
      by_cases e : a = i
      · subst e; exact h1
      · exact h2 a (by first | lia | omega) (by first | lia | omega)
    · intro h
      exact ⟨h i (by first | lia | omega) (by first | lia | omega), fun a ha hb => h a (by first | lia | omega) (by first | lia | omega)⟩
theorem sur_of {n : Nat} (hn : 2 ≤ n ∧ n ≤ 4) {p : List Int} (hp : p ∈ allW n []) (h1 : ∀ i, i < n → (p.take i).contains (p.getD i 0) = false) (h2 : ∀ v ∈ p, v ≤ (n : Int)) : ∀ j, j < n → ∃ i, i < n ∧ p.getD i 0 = (j : Int) + 1 := by
  have hs : surB n = true := by
    have : n = 2 ∨ n = 3 ∨ n = 4 := by first | lia | omega
    rcases this with rfl | rfl | rfl
    · exact surB2
    · exact surB3
    · exact surB4
  have := List.all_eq_true.mp hs p hp
  have e1 : ((List.range n).all fun i => !(p.take i).contains (p.getD i 0)) = true := by
    rw [List.all_eq_true]; intro i hi; rw [h1 i (List.mem_range.mp hi)]; rfl
  have e2 : (p.all fun v => decide (v ≤ (n : Int))) = true := by
    rw [List.all_eq_true]; intro v hv; exact decide_eq_true (h2 v hv)
  rw [e1, e2] at this
  simp only [Bool.not_true, Bool.false_or, List.all_eq_true, List.any_eq_true, List.mem_range, beq_iff_eq] at this
  exact this
theorem okAt_iff {r0 r1 : Lots} {p : List Int} {i : Nat} : okAt r0 r1 p i = true ↔ p.getD i 0 ∈ r0.getD i [] ∧ (p.take i).contains (p.getD i 0) = false ∧ ((i : Int) + 1) ∈ r1.getD (p.getD i 0 - 1).toNat [] := by
  unfold okAt
  rw [Bool.and_eq_true, Bool.and_eq_true, List.contains_iff_mem, List.contains_iff_mem, Bool.not_eq_true']
theorem ok_fit {n : Nat} (hn : 2 ≤ n ∧ n ≤ 4) {r0 r1 : Lots} (b : ∀ i, ∀ v ∈ r0.getD i [], 1 ≤ v ∧ v ≤ (n : Int)) {p : List Int} (hp : p ∈ allW n []) (h : okFrom r0 r1 p 0 n = true) : Bij n (Rel p) ∧ FitR n r0 r1 (Rel p) := by
  have h := (okFrom_all n 0).mp h
  have hl : p.length = n := by have := (allW_pre n [] p hp).1; simpa using this
  have h' : ∀ i, i < n → p.getD i 0 ∈ r0.getD i [] ∧ (p.take i).contains (p.getD i 0) = false ∧ ((i : Int) + 1) ∈ r1.getD (p.getD i 0 - 1).toNat [] := fun i hi => okAt_iff.mp (h i (by first | lia | omega) (by first | lia | omega))
  refine ⟨⟨fun i hi => ?_, fun j hj => ?_, fun i j j' r r' => ?_, fun i i' j r r' => ?_⟩, fun i j hi hj r => ?_⟩
  · have := b i _ (h' i hi).1
    exact ⟨(p.getD i 0 - 1).toNat, by first | lia | omega, by first | lia | omega, by first | lia | omega⟩
  · obtain ⟨i, hi, e⟩ := sur_of hn hp (fun i hi => (h' i hi).2.1) (fun v hv => by
      obtain ⟨k, hk, e⟩ := List.getElem_of_mem hv
      have := b k _ (h' k (by first | lia | omega)).1
      rw [show p.getD k 0 = v from getD_get (by rw [List.getElem?_eq_getElem hk, e])] at this
      exact this.2) j hj
    exact ⟨i, hi, by first | lia | omega, e⟩
  · have a1 := r.2; have a2 := r'.2; first | lia | omega
  · have key : ∀ a a' : Nat, a < a' → a' < n → p.getD a 0 = p.getD a' 0 → False := fun a a' h1 h2 e => by
      have q := (h' a' h2).2.1
      rw [← e] at q
      have : p.getD a 0 ∈ p.take a' := by
        have hg : (p.take a')[a]? = some (p.getD a 0) := by
          rw [List.getElem?_take, if_pos h1, List.getD_eq_getElem?_getD, List.getElem?_eq_getElem (by first | lia | omega)]; rfl
        exact List.mem_of_getElem? hg
      rw [List.contains_iff_mem.mpr this] at q
      cases q
    obtain ⟨a1, a2⟩ := r
    obtain ⟨b1, b2⟩ := r'
    rcases Nat.lt_trichotomy i i' with h | h | h
    · exact absurd (a2.trans b2.symm) (fun e => key i i' h (by first | lia | omega) e)
    · exact h
    · exact absurd (b2.trans a2.symm) (fun e => key i' i h (by first | lia | omega) e)
  · obtain ⟨g1, g2, g3⟩ := h' i hi
    rw [r.2] at g1 g3
    refine ⟨g1, ?_⟩
    rwa [show ((j : Int) + 1 - 1).toNat = j by first | lia | omega] at g3
theorem fit_ok {n : Nat} (hn : 2 ≤ n ∧ n ≤ 4) {r0 r1 l0 l1 : Lots} (b : ∀ i, ∀ v ∈ r0.getD i [], 1 ≤ v ∧ v ≤ (n : Int)) {p : List Int} (hp : p ∈ allW n []) (h : okFrom r0 r1 p 0 n = true) (f : FitR n l0 l1 (Rel p)) : okFrom l0 l1 p 0 n = true := by
  have h := (okFrom_all n 0).mp h
  have hl : p.length = n := by have := (allW_pre n [] p hp).1; simpa using this
  refine (okFrom_all n 0).mpr fun i h1 h2 => okAt_iff.mpr ?_
  obtain ⟨g1, g2, g3⟩ := okAt_iff.mp (h i h1 h2)
  have := b i _ g1
  obtain ⟨f1, f2⟩ := f i (p.getD i 0 - 1).toNat (by first | lia | omega) (by first | lia | omega) ⟨by first | lia | omega, by first | lia | omega⟩
  refine ⟨?_, g2, f2⟩
  rwa [show (((p.getD i 0 - 1).toNat : Nat) : Int) + 1 = p.getD i 0 by first | lia | omega] at f1
theorem pairsD_same {n : Nat} (hn : 2 ≤ n ∧ n ≤ 4) {r0 r1 l0 l1 : Lots} (n0 : r0.length = n) (m0 : l0.length = n) (n1 : r1.length = l1.length) (hg : ∀ l ∈ r0, l ∈ lots16) (hg' : ∀ l ∈ l0, l ∈ lots16)
    (b : r1.length = n → ∀ i, ∀ v ∈ r0.getD i [], 1 ≤ v ∧ v ≤ (n : Int)) (b' : r1.length = n → ∀ i, ∀ v ∈ l0.getD i [], 1 ≤ v ∧ v ≤ (n : Int)) (f : r1.length = n → ∀ R, Bij n R → (FitR n r0 r1 R ↔ FitR n l0 l1 R)) :
    pairsD l0 l1 l0.length [] = pairsD r0 r1 r0.length [] := by
  rw [n0, m0]
  by_cases e : r1.length = n
  · rw [pairsD_all (by first | lia | omega) hg, pairsD_all (by first | lia | omega) hg']
    refine List.filter_congr fun p hp => ?_
    rw [Bool.eq_iff_iff]
    constructor
    · intro h
      obtain ⟨B, F⟩ := ok_fit hn (b' e) hp h
      exact fit_ok hn (b' e) hp h ((f e _ B).mpr F)
    · intro h
      obtain ⟨B, F⟩ := ok_fit hn (b e) hp h
      exact fit_ok hn (b e) hp h ((f e _ B).mp F)
  · rw [pairsD_ne (by first | lia | omega), pairsD_ne (by first | lia | omega)]
theorem pairsD_none {n : Nat} (hn : 2 ≤ n ∧ n ≤ 4) {r0 r1 : Lots} (n0 : r0.length = n) (hg : ∀ l ∈ r0, l ∈ lots16)
    (b : r1.length = n → ∀ i, ∀ v ∈ r0.getD i [], 1 ≤ v ∧ v ≤ (n : Int)) (f : r1.length = n → ∀ R, Bij n R → ¬ FitR n r0 r1 R) : pairsD r0 r1 r0.length [] = [] := by
  rw [n0]
  by_cases e : r1.length = n
  · rw [pairsD_all (by first | lia | omega) hg, List.filter_eq_nil_iff]
    intro p hp h
    obtain ⟨B, F⟩ := ok_fit hn (b e) hp h
    exact f e _ B F
  · exact pairsD_ne (by first | lia | omega) _ _
end
section
-- U6
theorem waysI_mem {w : Int × Int} : ∀ {r : Lots} {k : Nat}, w ∈ waysI k r ↔ ∃ i v, i < r.length ∧ v ∈ r.getD i [] ∧ w = (((k + i : Nat) : Int), v - 1)
  | [], k => by simp [waysI]
  | l :: r, k => by
    rw [waysI, List.mem_append, waysI_mem, List.mem_map]
    constructor
    · rintro (⟨v, hv, e⟩ | ⟨i, v, hi, hv, e⟩)
      · exact ⟨0, v, by simp, hv, e.symm⟩
      · exact ⟨i + 1, v, by simpa using hi, hv, by rw [e]; congr 2; first | lia | omega⟩
    · rintro ⟨i, v, hi, hv, e⟩
      cases i with
      | zero => exact .inl ⟨v, hv, e.symm⟩
      | succ i => exact .inr ⟨i, v, by simpa using hi, hv, by rw [e]; congr 2; first | lia | omega⟩
theorem waysJ_mem {w : Int × Int} : ∀ {r : Lots} {k : Nat}, w ∈ waysJ k r ↔ ∃ i v, i < r.length ∧ v ∈ r.getD i [] ∧ w = (v - 1, ((k + i : Nat) : Int))
  | [], k => by simp [waysJ]
  | l :: r, k => by
    rw [waysJ, List.mem_append, waysJ_mem, List.mem_map]
    constructor
    · rintro (⟨v, hv, e⟩ | ⟨i, v, hi, hv, e⟩)
      · exact ⟨0, v, by simp, hv, e.symm⟩
      · exact ⟨i + 1, v, by simpa using hi, hv, by rw [e]; congr 2; first | lia | omega⟩
    · rintro ⟨i, v, hi, hv, e⟩
      cases i with
      | zero => exact .inl ⟨v, hv, e.symm⟩
      | succ i => exact .inr ⟨i, v, by simpa using hi, hv, by rw [e]; congr 2; first | lia | omega⟩
theorem nd_map {α β : Type} {f : α → β} (hf : ∀ a b, f a = f b → a = b) : ∀ {l : List α}, l.Nodup → (l.map f).Nodup
  | [], _ => by simp
  | a :: l, h => by
    rw [List.nodup_cons] at h
    rw [List.map_cons, List.nodup_cons]
    refine ⟨fun hm => ?_, nd_map hf h.2⟩
    obtain ⟨b, hb, e⟩ := List.mem_map.mp hm
    have := hf _ _ e
    subst this
    exact h.1 hb
theorem waysI_nd : ∀ {r : Lots} (k : Nat), (∀ l ∈ r, l.Nodup) → (waysI k r).Nodup
  | [], k, _ => by simp [waysI]
  | l :: r, k, h => by
    rw [waysI, List.nodup_append]
    refine ⟨nd_map (fun a b e => by have := congrArg Prod.snd e; dsimp at this; first | lia | omega) (h l (by simp)), waysI_nd (k + 1) (fun l hl => h l (by simp [hl])), fun a ha b hb e => ?_⟩
    obtain ⟨v, hv, ea⟩ := List.mem_map.mp ha
    obtain ⟨i, w, _, _, eb⟩ := waysI_mem.mp hb
    have := congrArg Prod.fst (ea.trans (e.trans eb))
    dsimp at this
    first | lia | omega
theorem waysJ_nd : ∀ {r : Lots} (k : Nat), (∀ l ∈ r, l.Nodup) → (waysJ k r).Nodup
  | [], k, _ => by simp [waysJ]
  | l :: r, k, h => by
    rw [waysJ, List.nodup_append]
    refine ⟨nd_map (fun a b e => by have := congrArg Prod.fst e; dsimp at this; first | lia | omega) (h l (by simp)), waysJ_nd (k + 1) (fun l hl => h l (by simp [hl])), fun a ha b hb e => ?_⟩
    obtain ⟨v, hv, ea⟩ := List.mem_map.mp ha
    obtain ⟨i, w, _, _, eb⟩ := waysJ_mem.mp hb
    have := congrArg Prod.snd (ea.trans (e.trans eb))
    dsimp at this
    first | lia | omega
theorem sum_bd : ∀ {r : Lots}, (∀ l ∈ r, 1 ≤ l.length ∧ l.length ≤ 4) → r.length ≤ (r.map List.length).sum ∧ (r.map List.length).sum ≤ 4 * r.length
  | [], _ => by simp
  | l :: r, h => by
    have h1 := sum_bd fun x hx => h x (List.mem_cons_of_mem l hx)
    have h2 := h l (by simp)
    simp only [List.map_cons, List.sum_cons, List.length_cons]
    first | lia | omega
/-- each way has its way back -/
noncomputable def ConsD (row back : Lots) : Prop := ∀ i, i < row.length → ∀ v ∈ row.getD i [], ((i : Int) + 1) ∈ back.getD (v - 1).toNat []
theorem ways_same {r0 r1 : Lots} (b0 : ∀ i, ∀ v ∈ r0.getD i [], 1 ≤ v ∧ v ≤ (r1.length : Int)) (b1 : ∀ i, ∀ v ∈ r1.getD i [], 1 ≤ v ∧ v ≤ (r0.length : Int)) (h0 : ConsD r0 r1) (h1 : ConsD r1 r0) (w : Int × Int) : w ∈ waysI 0 r0 ↔ w ∈ waysJ 0 r1 := by
  rw [waysI_mem, waysJ_mem]
  constructor
  · rintro ⟨i, v, hi, hv, rfl⟩
    have := b0 i v hv
    refine ⟨(v - 1).toNat, (i : Int) + 1, by first | lia | omega, h0 i hi v hv, ?_⟩
    refine Prod.ext ?_ ?_ <;> dsimp <;> first | lia | omega
  · rintro ⟨j, v, hj, hv, rfl⟩
    have := b1 j v hv
    refine ⟨(v - 1).toNat, (j : Int) + 1, by first | lia | omega, h1 j hj v hv, ?_⟩
    refine Prod.ext ?_ ?_ <;> dsimp <;> first | lia | omega
structure Sym (xs ys : List Int) (ls ls' : Lots) (o : Option (List Lit)) : Prop where
  fit : xs.length = ys.length → ∀ R, Bij xs.length R → (FitR xs.length (pick ls xs) (pick ls ys) R ↔ FitR xs.length (pick ls' xs) (pick ls' ys) R)
  bad : o ≠ none → xs.length = ys.length → ∀ R, Bij xs.length R → ¬ FitR xs.length (pick ls xs) (pick ls ys) R
theorem pick_sub {ls ls' : Lots} (h : ∀ z : Nat, ∀ v ∈ ls'.getD z [], v ∈ ls.getD z []) {xs : List Int} (i : Nat) : ∀ v ∈ (pick ls' xs).getD i [], v ∈ (pick ls xs).getD i [] := by
  intro v hv
  by_cases hi : i < xs.length
  · have hx : xs[i]? = some xs[i] := List.getElem?_eq_getElem hi
    rw [pick_get hx] at hv ⊢
    exact h _ v hv
  · rw [pick_out (by first | lia | omega)] at hv
    cases hv
theorem IOut.sym {N i : Nat} {S S' : SS} {xs ys : List Int} {ls ls' : Lots} {new : List Ent} {o : Option (List Lit)} (W : IOut N i S S' xs ys ls ls' new o) : Sym xs ys ls ls' o :=
  ⟨fun e R B => ⟨fun h => W.fit e R B h, fun h i j hi hj r => ⟨pick_sub W.sub i _ (h i j hi hj r).1, pick_sub W.sub j _ (h i j hi hj r).2⟩⟩, W.bad⟩
theorem Sym.flip {xs ys : List Int} {ls ls' : Lots} {o : Option (List Lit)} (Z : Sym xs ys ls ls' o) : Sym ys xs ls ls' o :=
  ⟨fun e R B => by
    rw [e] at B ⊢
    have := Z.fit e.symm _ B.flip
    exact ⟨fun h => (this.mp h.flip).flip, fun h => (this.mpr h.flip).flip⟩, fun h e R B f => by
    rw [e] at B f
    exact Z.bad h e.symm _ B.flip f.flip⟩
theorem Rp.pickG {N : Nat} {S : SS} {ls : Lots} {xs ys : List Int} (R : Rp N S ls xs ys) (G : Geo xs ys N) : (∀ l ∈ pick ls xs, GL l) ∧ (∀ i, ∀ v ∈ (pick ls xs).getD i [], 1 ≤ v ∧ v ≤ (ys.length : Int)) := by
  refine ⟨fun l hl => ?_, fun i v hv => ?_⟩
  · obtain ⟨x, hx, rfl⟩ := List.mem_map.mp hl
    exact R.gl (G.bx x hx).2
  · by_cases hi : i < xs.length
    · have hx : xs[i]? = some xs[i] := List.getElem?_eq_getElem hi
      rw [pick_get hx] at hv
      have hm := List.mem_of_getElem? hx
      exact ⟨(vs4_bd (lots_vs _ (R.gl (G.bx _ hm).2).mem v hv)).1, R.wx _ hm v hv⟩
    · rw [pick_out (by first | lia | omega)] at hv
      cases hv
theorem Rp.lw {N : Nat} {S : SS} {ls : Lots} {xs ys : List Int} (R : Rp N S ls xs ys) (G : Geo xs ys N) : LW (pick ls xs) (pick ls ys) := by
  have g0 := R.pickG G
  have g1 := R.flip.pickG G.flip
  have key : ∀ {r : Lots} {k : Nat}, (∀ i, ∀ v ∈ r.getD i [], 1 ≤ v ∧ v ≤ (k : Int)) → ∀ l ∈ r, ∀ v ∈ l, 1 ≤ v ∧ v ≤ (k : Int) := fun h l hl v hv => by
    obtain ⟨i, hi, e⟩ := List.getElem_of_mem hl
    exact h i v (by rw [getD_get (List.getElem?_eq_getElem hi), e]; exact hv)
  exact ⟨by rw [pick_len]; exact G.lx.2, by rw [pick_len]; exact G.ly.2, fun l hl => (lots_len l (g0.1 l hl).mem).1, fun l hl => (lots_len l (g1.1 l hl).mem).1, by rw [pick_len]; exact key g0.2, by rw [pick_len]; exact key g1.2⟩
theorem Rp.lots {N : Nat} {S : SS} {ls : Lots} {xs ys : List Int} (R : Rp N S ls xs ys) (G : Geo xs ys N) : xs.map (fun x => lotOf (S.dom x)) = pick ls xs := by
  unfold pick
  refine List.map_congr_left fun x hx => ?_
  rw [R.dom]
  exact lots_lot _ (R.gl (G.bx x hx).2).mem
theorem dok_of {ls : Lots} (h : ∀ l ∈ ls, GL l) : ∀ l ∈ ls.map lawSpans, l.length ≤ 400 ∧ (∀ p ∈ l, -1000 ≤ p.1 ∧ p.1 ≤ p.2 + 1 ∧ p.2 ≤ 1000) ∧ (lotOf l).length ≤ 10000 := by
  intro d hd
  obtain ⟨l, hl, rfl⟩ := List.mem_map.mp hd
  have g := h l hl
  refine ⟨by have := (lots_len l g.mem).2; first | lia | omega, fun p hp => ?_, ?_⟩
  · have := lots_bd l g.mem p hp; first | lia | omega
  · rw [lots_lot l g.mem]; have := (lots_len l g.mem).1; first | lia | omega
theorem wd_of {N : Nat} {S : SS} {ls : Lots} {xs ys : List Int} (R : Rp N S ls xs ys) (G : Geo xs ys N) : (waysI 0 (pick ls xs)).Nodup ∧ (waysJ 0 (pick ls ys)).Nodup ∧ (2 ≤ (waysI 0 (pick ls xs)).length ∧ (waysI 0 (pick ls xs)).length < 64) ∧ 2 ≤ (waysJ 0 (pick ls ys)).length ∧ (waysJ 0 (pick ls ys)).length < 64 := by
  have g0 := (R.pickG G).1
  have g1 := (R.flip.pickG G.flip).1
  have hb : ∀ {r : Lots}, (∀ l ∈ r, GL l) → ∀ l ∈ r, 1 ≤ l.length ∧ l.length ≤ 4 := fun g l hl => ⟨by
    have : l.length ≠ 0 := fun e => (g l hl).ne (List.length_eq_zero_iff.mp e)
    omega, (lots_len l (g l hl).mem).1⟩
  have s0 := sum_bd (hb g0)
  have s1 := sum_bd (hb g1)
  rw [pick_len] at s0 s1
  have := G.lx
  have := G.ly
  rw [waysI_len, waysJ_len]
  exact ⟨waysI_nd 0 fun l hl => lots_nodup l (g0 l hl).mem, waysJ_nd 0 fun l hl => lots_nodup l (g1 l hl).mem, by first | lia | omega, by first | lia | omega⟩
end
section
-- U7
structure LInv (N : Nat) (s0 s1 : List Int) (fl : Lots) (S : SS) (r0 r1 : Lots) (at' : Bool) (idle : Int) : Prop where
  ls : ∃ ls, Rp N S ls s0 s1 ∧ r0 = pick ls s0 ∧ r1 = pick ls s1
  fail : S.failed = false
  marks : S.marks = [0]
  und : undo S.trail S.doms = fl.map lawSpans
  firsts : S.firsts = fl.map lawSpans
  ents : ∀ e ∈ S.trail, 0 ≤ e.1 ∧ e.1.toNat < N
  i0 : 0 ≤ idle
  cons : 1 ≤ idle → ConsD (sel at' r1 r0) (sel at' r0 r1)
theorem spans_getD {fl : Lots} {k : Nat} : (fl.map lawSpans).getD k [] = lawSpans (fl.getD k []) := by
  rw [List.getD_eq_getElem?_getD, List.getElem?_map, List.getD_eq_getElem?_getD]
  cases fl[k]? <;> rfl
theorem lots_pick {N : Nat} {fl : Lots} (hfl : ∀ l ∈ fl, GL l) (hfn : fl.length = N) {xs : List Int} (hb : ∀ x ∈ xs, 0 ≤ x ∧ x.toNat < N) : xs.map (fun x => lotOf ((fl.map lawSpans).getD x.toNat [])) = pick fl xs := by
  unfold pick
  refine List.map_congr_left fun x hx => ?_
  rw [spans_getD]
  exact lots_lot _ (hfl _ (getD_mem (by rw [hfn]; exact (hb x hx).2))).mem
theorem fin_of {N : Nat} {s0 s1 : List Int} (G : Geo s0 s1 N) {fl ls : Lots} (hfl : ∀ l ∈ fl, GL l) (hfn : fl.length = N) {S : SS} (R : Rp N S ls s0 s1) (hm : S.marks = [0]) (hu : undo S.trail S.doms = fl.map lawSpans) (hf : S.firsts = fl.map lawSpans)
    (he : ∀ e ∈ S.trail, 0 ≤ e.1 ∧ e.1.toNat < N) : FinOk S s0 s1 (pick fl s0) (pick fl s1) where
  small := R.small G.nN
  marks := hm
  tr := fun e h => by rw [R.doms, List.length_map, R.len]; exact he e h
  ne := by
    rw [hf]
    cases q : (fl.map lawSpans).contains [] with
    | false => rfl
    | true =>
      obtain ⟨l, hl, e⟩ := List.mem_map.mp (List.contains_iff_mem.mp q)
      exact absurd ((lots_nil l (hfl l hl).mem).mp e) (hfl l hl).ne
  x0 := fun x h => by rw [R.doms, List.length_map, R.len]; exact G.bx x h
  x1 := fun x h => by rw [R.doms, List.length_map, R.len]; exact G.by' x h
  dok := by rw [hu]; exact dok_of hfl
  lots := by rw [hu, lots_pick hfl hfn G.bx, lots_pick hfl hfn G.by']
theorem linv_fin {N : Nat} {s0 s1 : List Int} (G : Geo s0 s1 N) {fl : Lots} (hfl : ∀ l ∈ fl, GL l) (hfn : fl.length = N) : ∀ S r0 r1 at' idle, LInv N s0 s1 fl S r0 r1 at' idle → FinOk S s0 s1 (pick fl s0) (pick fl s1) := by
  intro S r0 r1 at' idle I
  obtain ⟨ls, R, -, -⟩ := I.ls
  exact fin_of G hfl hfn R I.marks I.und I.firsts I.ents
structure Out (N : Nat) (S S' : SS) (s0 s1 : List Int) (at' : Bool) (ls ls' : Lots) (new : List Ent) (o : Option (List Lit)) : Prop where
  t : turnI (sel at' s1 s0) 0 (sel at' s0 s1) S = (o.isNone, S')
  l : lawI (sel at' s1 s0) 0 (sel at' s0 s1) (pick ls (sel at' s0 s1)) (pick ls (sel at' s1 s0)) [] = ⟨pick ls' (sel at' s0 s1), pick ls' (sel at' s1 s0), new, o⟩
  R : Rp N S' ls' s0 s1
  fwd : Fwd N S S' new
  sym : Sym s0 s1 ls ls' o
  idle : new = [] → ls' = ls
  cons : new = [] → o = none → ConsD (pick ls (sel at' s0 s1)) (pick ls (sel at' s1 s0))
  ok : o = none → S'.failed = S.failed ∧ S'.clash = S.clash
  ko : ∀ cl, o = some cl → S'.failed = true ∧ S'.clash = cl
theorem main_out {N : Nat} {s0 s1 : List Int} (G : Geo s0 s1 N) {S : SS} {ls : Lots} (R : Rp N S ls s0 s1) (at' : Bool) : ∃ S' ls' new o, Out N S S' s0 s1 at' ls ls' new o := by
  cases at' with
  | false =>
    obtain ⟨S', ls', new, o, t, l, R', W⟩ := simI G s0 0 S ls [] rfl R
    exact ⟨S', ls', new, o, t, l, R', W.fwd, W.sym, W.idle, fun e1 e2 i hi v hv => W.cons e1 e2 i (by first | lia | omega) (by rw [← pick_len (ls := ls)]; exact hi) v hv, W.ok, W.ko⟩
  | true =>
    obtain ⟨S', ls', new, o, t, l, R', W⟩ := simI G.flip s1 0 S ls [] rfl R.flip
    exact ⟨S', ls', new, o, t, l, R'.flip, W.fwd, W.sym.flip, W.idle, fun e1 e2 i hi v hv => W.cons e1 e2 i (by first | lia | omega) (by rw [← pick_len (ls := ls)]; exact hi) v hv, W.ok, W.ko⟩
theorem sel_pick {ls : Lots} {s0 s1 : List Int} {b : Bool} : sel b (pick ls s0) (pick ls s1) = pick ls (sel b s0 s1) := by cases b <;> rfl
theorem linv_step {N : Nat} {s0 s1 : List Int} (G : Geo s0 s1 N) {fl : Lots} (hfl : ∀ l ∈ fl, GL l) (hfn : fl.length = N) : ∀ S r0 r1 at' idle, LInv N s0 s1 fl S r0 r1 at' idle → ∃ S' res P, LapOk S S' s0 s1 r0 r1 at' idle res P ∧ FinOk S' s0 s1 (pick fl s0) (pick fl s1) ∧ (res.clash = none → LInv N s0 s1 fl S' (res.l0 at') (res.l1 at') (!at') (if res.deeds = [] then idle + 1 else 0)) := by
  intro S r0 r1 at' idle I
  obtain ⟨ls, R, rfl, rfl⟩ := I.ls
  obtain ⟨S', ls', new, o, W⟩ := main_out G R at'
  have e0 : (⟨pick ls' (sel at' s0 s1), pick ls' (sel at' s1 s0), new, o⟩ : TR).l0 at' = pick ls' s0 := by cases at' <;> rfl
  have e1 : (⟨pick ls' (sel at' s0 s1), pick ls' (sel at' s1 s0), new, o⟩ : TR).l1 at' = pick ls' s1 := by cases at' <;> rfl
  have g0 := R.pickG G
  have g0' := W.R.pickG G
  have g1' := W.R.flip.pickG G.flip
  have inD : ∀ {s : List Int}, (∀ x ∈ s, 0 ≤ x ∧ x.toNat < N) → ∀ x ∈ s, 0 ≤ x ∧ x.toNat < S'.doms.length := fun h x hx => by rw [W.R.doms, List.length_map, W.R.len]; exact h x hx
  have dk := dok_of W.R.good
  refine ⟨S', ⟨pick ls' (sel at' s0 s1), pick ls' (sel at' s1 s0), new, o⟩, fun S => ∃ ls, Rp N S ls (sel at' s0 s1) (sel at' s1 s0), ?_, fin_of G hfl hfn W.R (W.fwd.marks.trans I.marks) (W.fwd.undo.trans I.und) (W.fwd.firsts.trans I.firsts) (fun e he => ?_), fun ho => ?_⟩
  · constructor
    case hP => cases at' with
      | false => exact ⟨ls, R⟩
      | true => exact ⟨ls, R.flip⟩
    case T => cases at' with
      | false => exact turnInv G
      | true => exact turnInv G.flip
    case l0 => exact pick_len
    case l1 => exact pick_len
    case b0 => exact G.lx.2
    case b1 => exact G.ly.2
    case lw => exact R.lw G
    case lw' => rw [e0, e1]; exact W.R.lw G
    case hres => rw [sel_pick, sel_pick]; exact W.l
    case hT => exact W.t
    case small => exact R.small G.nN
    case small' => exact W.R.small G.nN
    case x0 => exact inD G.bx
    case x1 => exact inD G.by'
    case dok =>
      rw [W.R.doms]
      exact fun l hl => (dk l hl).2
    case htr => exact W.fwd.trail
    case lots =>
      rw [W.R.lots G, W.R.flip.lots G.flip]
      cases at' <;> rfl
    case failed =>
      show S'.failed = !o.isNone
      cases o with
      | none => exact (W.ok rfl).1.trans I.fail
      | some cl => exact (W.ko cl rfl).1
    case clash => exact fun cl h => (W.ko cl h).2
    case pnone =>
      intro h
      exact pairsD_none G.lx pick_len (fun l hl => (g0.1 l hl).mem) (fun e i v hv => by rw [pick_len] at e; rw [← e]; exact g0.2 i v hv) (fun e => by rw [pick_len] at e; exact W.sym.bad h e.symm)
    case wd =>
      intro _
      rw [e0, e1]
      exact wd_of W.R G
    case hw =>
      intro ho hd hi
      rw [e0, e1]
      have hd : new = [] := hd
      have c1 := W.cons hd ho
      have c2 := I.cons (by first | lia | omega)
      rw [sel_pick, sel_pick] at c2
      rw [W.idle hd]
      refine ways_same (fun i v hv => by rw [pick_len]; exact g0.2 i v hv) (fun i v hv => by rw [pick_len]; exact (R.flip.pickG G.flip).2 i v hv) ?_ ?_
      · cases at' with
        | false => exact c1
        | true => exact c2
      · cases at' with
        | false => exact c2
        | true => exact c1
    case psame =>
      intro _
      rw [e0, e1]
      exact pairsD_same G.lx pick_len pick_len (by rw [pick_len, pick_len]) (fun l hl => (g0.1 l hl).mem) (fun l hl => (g0'.1 l hl).mem)
        (fun e i v hv => by rw [pick_len] at e; rw [← e]; exact g0.2 i v hv) (fun e i v hv => by rw [pick_len] at e; rw [← e]; exact g0'.2 i v hv) (fun e => by rw [pick_len] at e; exact W.sym.fit e.symm)
  · rw [W.fwd.trail] at he
    rcases List.mem_append.mp he with h | h
    · exact I.ents e h
    · exact W.fwd.ents e h
  · rw [e0, e1]
    refine ⟨⟨ls', W.R, rfl, rfl⟩, ?_, W.fwd.marks.trans I.marks, W.fwd.undo.trans I.und, W.fwd.firsts.trans I.firsts, fun e he => ?_, ?_, ?_⟩
    · exact (W.ok ho).1.trans I.fail
    · rw [W.fwd.trail] at he
      rcases List.mem_append.mp he with h | h
      · exact I.ents e h
      · exact W.fwd.ents e h
    · have := I.i0
      split <;> first | lia | omega
    · by_cases hd : new = []
      · intro _
        have := W.cons hd ho
        rw [sel_pick, sel_pick, W.idle hd]
        cases at' with
        | false => exact this
        | true => exact this
      · intro h
        have e : (if new = [] then idle + 1 else 0) = (0 : Int) := if_neg hd
        have h : 1 ≤ (if new = [] then idle + 1 else 0) := h
        rw [e] at h
        first | lia | omega
end
section
-- V1
theorem look_map_ne {k x : Int} {d : MV} (h : x ≠ k) : ∀ {l : List (Int × MV)}, (l.map fun kv => if kv.1 = k then (kv.1, d) else kv).lookup x = l.lookup x
  | [] => rfl
  | (y, e) :: r => by
    rw [List.map_cons]
    by_cases q : y = k
    · subst q
      have hx : (x == y) = false := by simpa using h
      rw [if_pos rfl, List.lookup_cons, List.lookup_cons, hx]
      exact look_map_ne h
    · rw [if_neg q, List.lookup_cons, List.lookup_cons, look_map_ne h]
theorem look_map_self {k : Int} {d : MV} : ∀ {l : List (Int × MV)}, (l.any fun kv => decide (kv.1 = k)) = true → (l.map fun kv => if kv.1 = k then (kv.1, d) else kv).lookup k = some d
  | [], h => by simp at h
  | (y, e) :: r, h => by
    rw [List.map_cons]
    by_cases q : y = k
    · subst q
      rw [if_pos rfl, List.lookup_cons, show (y == y) = true by simp]
    · have hx : (k == y) = false := by simpa using fun e : k = y => q e.symm
      rw [if_neg q, List.lookup_cons, hx]
      refine look_map_self ?_
      rw [List.any_cons] at h
      simpa [q] using h
theorem look_none {k : Int} : ∀ {l : List (Int × MV)}, (l.any fun kv => decide (kv.1 = k)) = false → l.lookup k = none
  | [], _ => rfl
  | (y, e) :: r, h => by
    rw [List.any_cons, Bool.or_eq_false_iff] at h
    have hx : (k == y) = false := by
      have := of_decide_eq_false h.1
      simpa using fun e : k = y => this e.symm
    rw [List.lookup_cons, hx]
    exact look_none h.2
theorem stored_ne {kvs : List (Int × MV)} {k x : Int} {d : MV} (h : x ≠ k) : (storedM kvs k d).lookup x = kvs.lookup x := by
  have hx : (x == k) = false := by simpa using h
  unfold storedM
  split
  · exact look_map_ne h
  · rw [List.lookup_append, List.lookup_cons, hx, List.lookup_nil, Option.or_none]
theorem stored_self {kvs : List (Int × MV)} {k : Int} {d : MV} : (storedM kvs k d).lookup k = some d := by
  unfold storedM
  split
  · rename_i h; exact look_map_self h
  · rename_i h
    rw [List.lookup_append, look_none (by cases q : (kvs.any fun kv => decide (kv.1 = k)) with | false => rfl | true => exact absurd q h), List.lookup_cons, show (k == k) = true by simp]
    rfl
theorem merged_out {x : Int} : ∀ {ns : List Int} {ds : List MV} {kvs : List (Int × MV)}, x ∉ ns → (mergedM kvs (ns.zip ds)).lookup x = kvs.lookup x
  | [], _, _, _ => rfl
  | k :: ns, [], _, _ => rfl
  | k :: ns, d :: ds, kvs, h => by
    have h1 : x ≠ k := fun e => h (by simp [e])
    show (mergedM (storedM kvs k d) (ns.zip ds)).lookup x = _
    rw [merged_out fun q => h (by simp [q]), stored_ne h1]
theorem merged_in {x : Int} {e : MV} : ∀ {ns : List Int} {ds : List MV} {kvs : List (Int × MV)} {i : Nat}, ns.Nodup → ns[i]? = some x → ds[i]? = some e → (mergedM kvs (ns.zip ds)).lookup x = some e
  | [], _, _, _, _, h, _ => by simp at h
  | k :: ns, [], _, _, _, _, h => by simp at h
  | k :: ns, d :: ds, kvs, 0, nd, h1, h2 => by
    rw [List.nodup_cons] at nd
    have e1 : k = x := by simpa using h1
    have e2 : d = e := by simpa using h2
    subst e1; subst e2
    show (mergedM (storedM kvs k d) (ns.zip ds)).lookup k = _
    rw [merged_out nd.1, stored_self]
  | k :: ns, d :: ds, kvs, i + 1, nd, h1, h2 => by
    rw [List.nodup_cons] at nd
    show (mergedM (storedM kvs k d) (ns.zip ds)).lookup x = _
    exact merged_in nd.2 (by simpa using h1) (by simpa using h2)
theorem merged_len : ∀ {ns : List Int} {ds : List MV} {kvs : List (Int × MV)}, (mergedM kvs (ns.zip ds)).length ≤ kvs.length + ns.length
  | [], _, _ => by simp [mergedM]
  | k :: ns, [], _ => by simp [mergedM]
  | k :: ns, d :: ds, kvs => by
    show (mergedM (storedM kvs k d) (ns.zip ds)).length ≤ _
    have := merged_len (ns := ns) (ds := ds) (kvs := storedM kvs k d)
    have := stored_len (kvs := kvs) (k := k) (d := d)
    rw [List.length_cons]
    first | lia | omega
theorem HSt.on {A : Ad} {S : SS} {H H' : HV} (hS : HSt A S H) (k : ∀ a, a ∈ A.l → H' a = H a) : HSt A S H' :=
  ⟨(k _ (by simp [Ad.l])).trans hS.dx, (k _ (by simp [Ad.l])).trans hS.d, (k _ (by simp [Ad.l])).trans hS.f, (k _ (by simp [Ad.l])).trans hS.t, (k _ (by simp [Ad.l])).trans hS.m, (k _ (by simp [Ad.l])).trans hS.n, hS.nd⟩
theorem HSt.ne {A : Ad} {S : SS} {H : HV} (hS : HSt A S H) {a : Addr} (e : H a = none) : a ∉ A.l := fun hm => by
  simp only [Ad.l, List.mem_cons, List.not_mem_nil, or_false] at hm
  rcases hm with rfl | rfl | rfl | rfl | rfl | rfl
  · rw [hS.dx] at e; cases e
  · rw [hS.d] at e; cases e
  · rw [hS.f] at e; cases e
  · rw [hS.t] at e; cases e
  · rw [hS.m] at e; cases e
  · rw [hS.n] at e; cases e
theorem drop_cons {α : Type} {l r : List α} {k : Nat} {d : α} (h : d :: r = l.drop k) : l[k]? = some d ∧ r = l.drop (k + 1) := by
  constructor
  · have : (l.drop k)[0]? = some d := by rw [← h]; rfl
    rwa [List.getElem?_drop, Nat.add_zero] at this
  · have : (d :: r).tail = (l.drop k).tail := by rw [h]
    rw [List.tail_drop] at this
    exact this
theorem tot_le : ∀ {ls : Lots}, (∀ l ∈ ls, l.length ≤ 4) → tot ls ≤ 4 * ls.length
  | [], _ => by simp [tot]
  | l :: ls, h => by
    have h1 := tot_le fun x hx => h x (List.mem_cons_of_mem l hx)
    have h2 := h l (by simp)
    simp only [tot, List.map_cons, List.sum_cons, List.length_cons] at h1 ⊢
    first | lia | omega
/-- the state at the loop's head -/
theorem linv_init {N : Nat} {s0 s1 : List Int} (G : Geo s0 s1 N) {fl : Lots} (hfl : ∀ l ∈ fl, GL l) (hfn : fl.length = N)
    (hw0 : ∀ x ∈ s0, ∀ v ∈ fl.getD x.toNat [], v ≤ (s1.length : Int)) (hw1 : ∀ x ∈ s1, ∀ v ∈ fl.getD x.toNat [], v ≤ (s0.length : Int)) (at' : Bool) :
    LInv N s0 s1 fl ⟨fl.map lawSpans, fl.map lawSpans, [], [0], [], false, []⟩ (pick fl s0) (pick fl s1) at' 0 where
  ls := ⟨fl, ⟨rfl, hfn, hfl, hw0, hw1, by
    have := tot_le fun l hl => (lots_len l (hfl l hl).mem).1
    have := G.nN
    show 0 + _ ≤ 32
    omega, by show 0 ≤ 0; first | lia | omega, by have := G.nN; show (fl.map lawSpans).length ≤ 8; rw [List.length_map]; first | lia | omega, by show 1 ≤ 1; first | lia | omega, by show 0 ≤ 400; first | lia | omega⟩, rfl, rfl⟩
  fail := rfl
  marks := rfl
  und := rfl
  firsts := rfl
  ents := fun e h => by cases h
  i0 := by first | lia | omega
  cons := fun h => by first | lia | omega
end
section
-- V2
section
variable {c : Cx} {n : Nat} {env : Env} {m : Loc} {H : HV}
theorem WFor_cons {t : Expr} {body : List Stmt} {need : HV → Prop} {d : MV} {ds : List MV} {K : FM → Loc → HV → Prop} (h : WA c n env (tn 3 t) t d m H fun m₂ H₂ => WXs c n env body m₂ H₂ fun f m₃ H₃ => match f with
    | .next => need H₃ ∧ WFor c n env t body need ds m₃ H₃ K
    | .cont => need H₃ ∧ WFor c n env t body need ds m₃ H₃ K
    | .brk => K .next m₃ H₃
    | .ret d => K (.ret d) m₃ H₃) : WFor c n env t body need (d :: ds) m H K := h
theorem WFor_nil {t : Expr} {body : List Stmt} {need : HV → Prop} {K : FM → Loc → HV → Prop} (h : K .next m H) : WFor c n env t body need [] m H K := h
theorem dom_of {ns : List Int} {fl : Lots} {ds : List MV} {Q : Addr → Prop} {kvs : List (Int × MV)} (nd : ns.Nodup) (f : F2 (RL1 Q H) ds (pick fl ns)) {x : Int} (hx : x ∈ ns) : ∃ a, (mergedM kvs (ns.zip ds)).lookup x = some (.ref a) ∧ Q a ∧ H a = some (.list (intsM (fl.getD x.toNat []))) := by
  obtain ⟨i, hi, e⟩ := List.getElem_of_mem hx
  have hxi : ns[i]? = some x := by rw [List.getElem?_eq_getElem hi, e]
  have hp : (pick fl ns)[i]? = some (fl.getD x.toNat []) := by unfold pick; rw [List.getElem?_map, hxi]; rfl
  obtain ⟨a, e1, q, e2⟩ := lot_at f hp
  exact ⟨a, merged_in nd hxi e1, q, e2⟩
theorem F2_len {α β : Type} {R : α → β → Prop} {l : List α} {r : List β} (f : F2 R l r) : l.length = r.length := by
  induction f with
  | nil => rfl
  | cons _ _ ih => rw [List.length_cons, List.length_cons, ih]
inductive Tail2I (N : Nat) (A : Ad) (fl : Lots) (H1 : HV) (dA fa hA : Addr) (s0 s1 : List Int) (ds : List MV) (m : Loc) (H' : HV) : Prop
  | mk (k : Nat) (h0 : ds = (rngM 0 N).drop k) (h1 : k ≤ N) (h2 : HSt A ⟨(fl.take k).map lawSpans, (fl.take k).map lawSpans, [], [], [], false, []⟩ H') (h3 : Same A H1 H') (h4 : Mine.L "store_now" A.v m) (h5 : Mine.L "doms" (.ref dA) m) (h6 : Mine.L "scopes" (.tup [.tup (intsM s0), .tup (intsM s1)]) m) (h7 : Mine.L "first" (.ref fa) m) (h8 : Mine.L "hand" (.ref hA) m)
theorem c_tail2 (z : Z2 c) {L0 : Addr} {A : Ad} {N : Nat} {s0 s1 : List Int} (G : Geo s0 s1 N) {fl : Lots} (hfl : ∀ l ∈ fl, GL l) (hfn : fl.length = N)
    (hw0 : ∀ x ∈ s0, ∀ v ∈ fl.getD x.toNat [], v ≤ (s1.length : Int)) (hw1 : ∀ x ∈ s1, ∀ v ∈ fl.getD x.toNat [], v ≤ (s0.length : Int))
    (cov : ∀ k : Nat, k < N → (k : Int) ∈ s0 ∨ (k : Int) ∈ s1) (hN : s0.length + s1.length = N)
    {hA cA dA : Addr} {cells : List Int} {s t : Int} {fd : MV} (hS : HSt A SS.empty H) (hh : Hand hA cA cells s t H) (hs : s ≤ 1000) (hz : cells.length ≤ 1000) (hAA : hA ∉ A.l) (cAA : cA ∉ A.l) (hd : H dA = some (.imap [])) (hdA : dA ∉ A.l)
    (hfirst : RL3 (fun a => a ∉ A.l ∧ a ≠ hA ∧ a ≠ dA) H fd [pick fl s0, pick fl s1])
    (m1 : Mine.L "store_now" A.v m) (m2 : Mine.L "doms" (.ref dA) m) (m4 : Mine.L "scopes" (.tup [.tup (intsM s0), .tup (intsM s1)]) m) (m5 : Mine.L "many" (.int s0.length) m) (m6 : Mine.L "much" (.int s1.length) m) (m7 : Mine.L "first" fd m) (m8 : Mine.L "hand" (.ref hA) m) :
    WXs c (n + 21) (lawEnv c.w.params L0) (lawTail2 c.w.params) m H (retM fun d _ => d = .bool true) := by
  have zz := z.toZ
  have hf := hfirst
  obtain ⟨fa, fds, rfl, ⟨fq, -, fqd⟩, hfa, F⟩ := hf
  cases F with
  | cons R0 F =>
  cases F with
  | cons R1 F =>
  cases F with
  | nil =>
  obtain ⟨a0, ds0, rfl, ⟨q0, -, q0d⟩, h0, F0⟩ := R0
  obtain ⟨a1, ds1, rfl, ⟨q1, -, q1d⟩, h1, F1⟩ := R1
  have n0 : ds0.length = s0.length := by rw [F2_len F0, pick_len]
  have n1 : ds1.length = s1.length := by rw [F2_len F1, pick_len]
  have b0 := G.lx
  have b1 := G.ly
  have nhd : hA ≠ dA := by rintro rfl; have := hh.hand; rw [this] at hd; cases hd
  have ncd : cA ≠ dA := by rintro rfl; have := hh.cells; rw [this] at hd; cases hd
  refine WXs_cons ?_
  refine WX_For (tg := fun _ => True) (WI_of ?_) trivial
  refine WE_CallT zz Boot.«range» ?_
  repeat walk_at "m"
  refine WC_range1 ⟨_, _, .rng (k := 2) (by decide) (by decide) (by decide), ?_⟩
  rw [show rngM 0 2 = [.int 0, .int 1] from rfl]
  refine WFor_cons ?_
  walk_at "m"
  refine WXs_cons ?_
  refine WX_Expr ?_
  refine WE_updzip ?_
  repeat walk_at "m"
  refine ⟨_, _, rfl, hd, ?_⟩
  refine WE_builtin zz.toOk ⟨rfl, ?_⟩ Boot.«zip» (zz.gn (by kernel_rfl))
  repeat walk_at "m"
  refine W2_subT (j := 0) rfl rfl ?_ (by decide)
  repeat walk_at "m"
  refine W2_subL (d := .ref a0) hfa (by decide) rfl ?_ (by decide)
  repeat walk_at "m"
  refine ⟨_, _, _, _, rfl, h0, by first | lia | omega, by first | lia | omega, by first | lia | omega, by show 0 ≤ 100; first | lia | omega, hd, ?_⟩
  repeat walk_at "m"
  refine ⟨trivial, ?_⟩
  refine WFor_cons ?_
  walk_at "m"
  refine WXs_cons ?_
  refine WX_Expr ?_
  refine WE_updzip ?_
  repeat walk_at "m"
  refine ⟨_, _, rfl, HV.set_self, ?_⟩
  refine WE_builtin zz.toOk ⟨rfl, ?_⟩ Boot.«zip» (zz.gn (by kernel_rfl))
  repeat walk_at "m"
  refine W2_subT (j := 1) rfl rfl ?_ (by decide)
  repeat walk_at "m"
  refine W2_subL (d := .ref a1) ((HV.set_ne fqd).trans hfa) (by decide) rfl ?_ (by decide)
  repeat walk_at "m"
  refine ⟨_, _, _, _, rfl, (HV.set_ne q1d).trans h1, by first | lia | omega, by first | lia | omega, by first | lia | omega, by have := merged_len (ns := s0) (ds := ds0) (kvs := []); show _ ≤ 100; simp at this; first | lia | omega, HV.set_self, ?_⟩
  rw [HV.set_set]
  have dk : ∀ k : Nat, k < N → ∃ a, (mergedM (mergedM [] (s0.zip ds0)) (s1.zip ds1)).lookup (k : Int) = some (.ref a) ∧ (a ∉ A.l ∧ a ≠ hA ∧ a ≠ dA) ∧ H a = some (.list (intsM (fl.getD k []))) := by
    intro k hk
    by_cases hm : (k : Int) ∈ s1
    · have := dom_of (kvs := mergedM [] (s0.zip ds0)) G.ndy F1 hm
      simpa using this
    · have := dom_of (kvs := []) G.ndx F0 ((cov k hk).resolve_right hm)
      rw [merged_out hm]
      simpa using this
  generalize mergedM (mergedM [] (s0.zip ds0)) (s1.zip ds1) = kvs at dk
  have hS1 : HSt A SS.empty (H.set dA (.imap kvs)) := hS.on fun a ha => HV.set_ne (by rintro rfl; exact hdA ha)
  have first1 : RL3 (fun a => a ∉ A.l ∧ a ≠ hA ∧ a ≠ dA) (H.set dA (.imap kvs)) (.ref fa) [pick fl s0, pick fl s1] := by
    exact RL3.mono hfirst (fun a o q e => (HV.set_ne q.2.2).trans e) fun a q _ => q
  have hh1 : Hand hA cA cells s t (H.set dA (.imap kvs)) := ⟨(HV.set_ne nhd).trans hh.hand, (HV.set_ne ncd).trans hh.cells, hh.s0, hh.s1⟩
  have hd1 : (H.set dA (.imap kvs)) dA = some (.imap kvs) := HV.set_self
  have dk1 : ∀ k : Nat, k < N → ∃ a, kvs.lookup (k : Int) = some (.ref a) ∧ a ∉ A.l ∧ (H.set dA (.imap kvs)) a = some (.list (intsM (fl.getD k []))) := fun k hk => by
    obtain ⟨a, e1, ⟨e2, e3, e4⟩, e5⟩ := dk k hk
    exact ⟨a, e1, e2, (HV.set_ne e4).trans e5⟩
  clear hS hd hh hfirst hfa h0 h1 F0 F1 dk
  generalize H.set dA (.imap kvs) = H1 at hS1 first1 hh1 hd1 dk1
  repeat walk_at "m"
  refine ⟨trivial, ?_⟩
  refine WFor_nil ?_
  refine WXs_cons ?_
  refine WX_For (tg := fun _ => True) (WI_of ?_) trivial
  refine WE_CallT zz Boot.«range» ?_
  repeat walk_at "m"
  refine WC_range1 ⟨_, _, .rng (k := N) (by first | lia | omega) (by decide) (by first | lia | omega), ?_⟩
  refine WFor_ind (Tail2I N A fl H1 dA fa hA s0 s1) ?_ ?_ _ _ _ ⟨0, rfl, by first | lia | omega, hS1, .refl, m1, m2, m4, m7, m8⟩
  · rintro m H' ⟨k, e, hk, hS2, sm, m1, m2, m4, m7, m8⟩
    have hkN : k = N := by
      have := congrArg List.length e
      rw [List.length_drop, rngM_length] at this
      simp at this
      first | lia | omega
    subst hkN
    have hb := G.nN
    rw [List.take_of_length_le (by first | lia | omega)] at hS2
    repeat walk_at "m"
    refine WE_CallK zz (f := 337) ?_ (by kernel_rfl) (by kernel_rfl)
    repeat walk_at "m"
    refine W2_subT (j := 0) rfl rfl ?_ (by decide)
    repeat walk_at "m"
    refine W2_subT (j := 1) rfl rfl ?_ (by decide)
    repeat walk_at "m"
    refine c_inverse z (by first | lia | omega) (by first | lia | omega) fun ix idx ikv H4 n4 hi hit k4 => ?_
    have hS4 := hS2.ext k4
    have hh4 : Hand hA cA cells s t H4 := ⟨k4 _ _ ((sm hA hAA).trans hh1.hand), k4 _ _ ((sm cA cAA).trans hh1.cells), hh1.s0, hh1.s1⟩
    have idxA : idx ∉ A.l := hS2.ne n4
    have nih : idx ≠ hA := by rintro rfl; rw [sm _ hAA, hh1.hand] at n4; cases n4
    have first4 : RL3 (fun a => a ∉ A.l ∧ a ≠ hA) H4 (.ref fa) [pick fl s0, pick fl s1] := RL3.mono first1 (fun a o q e => k4 _ _ ((sm a q.1).trans e)) fun a q _ => ⟨q.1, q.2.1⟩
    repeat walk_at "m"
    refine WE_CallK zz (f := 346) ?_ (by kernel_rfl) (by kernel_rfl)
    repeat walk_at "m"
    refine c_pick zz hh4 hz (by decide) (by decide) fun r t' r0 r1 => ?_
    have hS5 : HSt A _ (H4.set hA (.smap (handM cA (s + 1) t'))) := hS4.on fun a ha => HV.set_ne (by rintro rfl; exact hAA ha)
    have first5 : RL3 (fun a => a ∉ A.l) (H4.set hA (.smap (handM cA (s + 1) t'))) (.ref fa) [pick fl s0, pick fl s1] := RL3.mono first4 (fun a o q e => (HV.set_ne q.2).trans e) fun a q _ => q.1
    have hi5 : (H4.set hA (.smap (handM cA (s + 1) t'))) idx = some (.sdict ikv) := (HV.set_ne nih).trans hi
    obtain ⟨at', rfl⟩ : ∃ b, r = atI b := by
      have : r = 0 ∨ r = 1 := by first | lia | omega
      rcases this with rfl | rfl
      · exact ⟨false, rfl⟩
      · exact ⟨true, rfl⟩
    generalize H4.set hA (.smap (handM cA (s + 1) t')) = H5 at hS5 first5 hi5
    clear hS4 hh4 first4 hS2 first1 hh1 hd1 dk1 hS1 hi k4 n4
    repeat walk_at "m"
    refine WE_Method ?_
    repeat walk_at "m"
    refine GM_instZ zz (f := 220) hS5.dx rfl (by kernel_rfl) ⟨zz.kp, ?_⟩
    repeat walk_at "m"
    refine c_push zz hS5 ⟨by show (fl.map lawSpans).length ≤ 100; rw [List.length_map]; first | lia | omega, by show (fl.map lawSpans).length ≤ 100; rw [List.length_map]; first | lia | omega, by show 0 ≤ 1000; first | lia | omega, by show 0 ≤ 100; first | lia | omega, by show 0 ≤ 100; first | lia | omega, fun d hd => by
      obtain ⟨l, hl, rfl⟩ := List.mem_map.mp hd
      have := (lots_len l (hfl l hl).mem).2
      omega, by show 0 ≤ 500; first | lia | omega⟩ fun H6 hS6 sm6 => ?_
    have first6 : RL3 (fun a => a ∉ A.l) H6 (.ref fa) [pick fl s0, pick fl s1] := RL3.mono first5 (fun a o q e => (sm6 a q).trans e) fun a q _ => q
    exact c_tail3 (n := n) z (linv_step G hfl hfn) (linv_fin G hfl hfn) (linv_init G hfl hfn hw0 hw1 at') b0.2 b1.2 hS6 first6 first6 ((sm6 _ idxA).trans hi5) hit idxA m1 rfl rfl m4 rfl rfl m7
  · rintro d ds m H' ⟨k, e, hk, hS2, sm, m1, m2, m4, m7, m8⟩
    obtain ⟨e1, e2⟩ := drop_cons e
    obtain ⟨hkN, rfl⟩ := rngM_get e1
    obtain ⟨a, l1, l2, l3⟩ := dk1 k hkN
    have gk : GL (fl.getD k []) := hfl _ (getD_mem (by first | lia | omega))
    walk_at "m"
    refine WXs_cons ?_
    refine WX_Expr ?_
    refine WE_Method ?_
    repeat walk_at "m"
    refine GM_instZ zz (f := 115) hS2.dx rfl (by kernel_rfl) ⟨zz.kp, ?_⟩
    refine WEs_cons (WE_CallK zz (f := 353) ?_ (by kernel_rfl) (by kernel_rfl))
    repeat walk_at "m"
    refine W2_subI (x := 0 + (k : Int)) ((sm dA hdA).trans hd1) (by rw [Int.zero_add]; exact l1) ?_
    repeat walk_at "m"
    refine (c_spans zz ((sm a l2).trans l3) (by have := (lots_len _ gk.mem).1; first | lia | omega) ?_)
    repeat walk_at "m"
    refine c_newvar zz hS2 ⟨by show ((fl.take k).map lawSpans).length ≤ 100; rw [List.length_map, List.length_take]; have := G.nN; first | lia | omega, by show ((fl.take k).map lawSpans).length ≤ 100; rw [List.length_map, List.length_take]; have := G.nN; first | lia | omega, by show 0 ≤ 1000; first | lia | omega, by show 0 ≤ 100; first | lia | omega, by show 0 ≤ 100; first | lia | omega, fun d hd => by
      obtain ⟨l, hl, rfl⟩ := List.mem_map.mp hd
      have := (lots_len l (hfl l (List.mem_of_mem_take hl)).mem).2
      omega, by show 0 ≤ 500; first | lia | omega⟩ (fun e => gk.ne ((lots_nil _ gk.mem).mp e)) fun H3 hS3 sm3 => ?_
    repeat walk_at "m"
    refine ⟨trivial, k + 1, e2, by first | lia | omega, ?_, sm.trans sm3, m1, m2, m4, m7, m8⟩
    have et : (fl.take (k + 1)).map lawSpans = (fl.take k).map lawSpans ++ [lawSpans (fl.getD k [])] := by
      rw [List.take_add_one, List.map_append, List.getD_eq_getElem?_getD, List.getElem?_eq_getElem (by first | lia | omega)]
      rfl
    rw [et]
    exact hS3
end
end
section
-- V3
noncomputable def bitB (mask : Int) (v : Int) : Bool := decide ((mask.fdiv (2 ^ (v - 1).toNat)).fmod 2 = 1)
noncomputable def vsAll (W : Nat) : List Int := (List.range W).map fun (i : Nat) => (1 : Int) + (i : Int)
noncomputable def vsOf (W : Nat) (mask : Int) : List Int := (vsAll W).filter (bitB mask)
theorem vsOf_fact : ∀ W ∈ [2, 3, 4], ∀ k ∈ List.range 16, 1 ≤ k → k < 2 ^ W → vsOf W (k : Int) ∈ lots16 ∧ vsOf W (k : Int) ≠ [] ∧ ∀ v ∈ vsOf W (k : Int), v ≤ (W : Int) := by decide +kernel
theorem vsOf_ok {W : Nat} (hW : 2 ≤ W ∧ W ≤ 4) {x : Int} (h1 : 1 ≤ x) (h2 : x < 2 ^ W) : GL (vsOf W x) ∧ ∀ v ∈ vsOf W x, v ≤ (W : Int) := by
  have hw : W = 2 ∨ W = 3 ∨ W = 4 := by (first | lia | omega)
  have hb : x.toNat < 2 ^ W := by
    have : (x.toNat : Int) < ((2 ^ W : Nat) : Int) := by rw [Int.toNat_of_nonneg (by (first | lia | omega))]; push_cast; exact h2
    exact Int.ofNat_lt.mp this
  have h16 : x.toNat < 16 := by rcases hw with rfl | rfl | rfl <;> first | lia | omega
  have := vsOf_fact W (by rcases hw with rfl | rfl | rfl <;> decide) x.toNat (List.mem_range.mpr h16) (by (first | lia | omega)) hb
  rw [Int.toNat_of_nonneg (by (first | lia | omega))] at this
  exact ⟨⟨this.1, this.2.1⟩, this.2.2⟩
theorem rngM_ints {W : Nat} : rngM 1 W = intsM (vsAll W) := by
  unfold rngM intsM vsAll; rw [List.map_map]; rfl
section
variable {c : Cx} {n : Nat} {env : Env} {m : Loc} {H : HV}
noncomputable def lawMask (p : Params) : List Stmt := (fun (t e : Expr) (b : List Stmt) (o : List Stmt) (q : Pos) (r : List Stmt) (_ : lawTail1 p = .For t e b o q :: r) => b) _ _ _ _ _ _ rfl
inductive MaskA (hA cA : Addr) (cells : List Int) (s t : Int) (M W : Nat) (H : HV) (ds : List MV) (H₁ : HV) (acc : List MV) : Prop
  | mk (k : Nat) (t' : Int) (xs : List Int) (h0 : ds = (rngM 0 M).drop k) (h1 : k ≤ M) (h2 : Hand hA cA cells (s + k) t' H₁) (h3 : Keep (fun a => a ≠ hA) H H₁) (h4 : acc = intsM xs) (h5 : xs.length = k) (h6 : ∀ x ∈ xs, 1 ≤ x ∧ x < 2 ^ W)
inductive MaskB (xs : List Int) (k W : Nat) (hA fa : Addr) (H2 : HV) (ds : List MV) (H₁ : HV) (acc : List MV) : Prop
  | mk (i : Nat) (lots : Lots) (h0 : ds = (intsM xs).drop i) (h1 : i ≤ k) (h2 : (∀ a o, H2 a = some o → H₁ a = some o)) (h3 : F2 (RL1 (fun a => a ≠ hA ∧ a ≠ fa) H₁) acc lots) (h4 : lots.length = i) (h5 : ∀ l ∈ lots, GL l ∧ ∀ v ∈ l, v ≤ (W : Int))
inductive MaskC (W : Nat) (x : Int) (H3 : HV) (ds : List MV) (H₁ : HV) (ac : List MV) : Prop
  | mk (l₁ : List Int) (l₂ : List Int) (h0 : vsAll W = l₁ ++ l₂) (h1 : ds = intsM l₂) (h2 : ac = intsM (l₁.filter (bitB x))) (h3 : H₁ = H3)
theorem c_masks (z : Z c) {L0 : Addr} {M W : Nat} (hM : 2 ≤ M ∧ M ≤ 4) (hW : 2 ≤ W ∧ W ≤ 4) {hA cA fa : Addr} {cells : List Int} {s t : Int} {fds : List MV} {done : List Lots} {K : FM → Loc → HV → Prop}
    (hh : Hand hA cA cells s t H) (hs : s ≤ 900) (hz : cells.length ≤ 1000) (ncf : cA ≠ fa) (hf : H fa = some (.list fds)) (hF : F2 (RL2 (fun a => a ≠ hA ∧ a ≠ fa) H) fds done) (hd : done.length ≤ 10)
    (m1 : Mine.L "long" (.int M) m) (m2 : Mine.L "wide" (.int W) m) (m3 : Mine.L "hand" (.ref hA) m) (m4 : Mine.L "first" (.ref fa) m)
    (h : ∀ p H' t' fd (lots : Lots), lots.length = M → (∀ l ∈ lots, GL l ∧ ∀ v ∈ l, v ≤ (W : Int)) → Hand hA cA cells (s + M) t' H' → H' fa = some (.list (fds ++ [fd])) → F2 (RL2 (fun a => a ≠ hA ∧ a ≠ fa) H') (fds ++ [fd]) (done ++ [lots]) → K .next (("masks", .ref p) :: m) H') :
    WXs c (n + 20) (lawEnv c.w.params L0) (lawMask c.w.params) m H K := by
  have s0 := hh.s0
  have nfh : fa ≠ hA := by rintro rfl; have := hh.hand; rw [hf] at this; cases this
  have hfd : fds.length = done.length := F2_len hF
  have hpw : (4 : Int) ≤ 2 ^ W ∧ (2 : Int) ^ W ≤ 16 := by
    have hw : W = 2 ∨ W = 3 ∨ W = 4 := by (first | lia | omega)
    rcases hw with rfl | rfl | rfl <;> decide
  refine WXs_cons ?_
  refine WX_AssignComp (tg := fun _ => True) (xs := ["k"]) (WI_of ?_) (by kernel_rfl)
  refine WE_CallT z Boot.«range» ?_
  repeat walk_at "m"
  refine WC_range1 ⟨_, _, .rng (k := M) (by (first | lia | omega)) (by decide) (by (first | lia | omega)), fun cells1 C => WGo1 trivial ?_⟩
  refine WCp_ind (MaskA hA cA cells s t M W H) ?_ ?_ _ _ _ ⟨0, t, [], rfl, by (first | lia | omega), by simpa using hh, fun _ _ _ e => e, rfl, rfl, by simp⟩
  · rintro H1 acc ⟨k, t', xs, e, hk, hh1, kp, rfl, hx, hb⟩ p hp bp
    have hkN : k = M := by
      have := congrArg List.length e
      rw [List.length_drop, rngM_length] at this
      simp at this
      first | lia | omega
    subst hkN
    have hf1 := keep_set (o := .list (intsM xs)) hp _ _ (kp _ _ nfh hf)
    have kp2 : Keep (fun a => a ≠ hA) H (H1.set p (.list (intsM xs))) := fun a o q e => keep_set hp _ _ (kp a o q e)
    have hh2 : Hand hA cA cells (s + k) t' (H1.set p (.list (intsM xs))) := ⟨keep_set hp _ _ hh1.hand, keep_set hp _ _ hh1.cells, hh1.s0, hh1.s1⟩
    have hp2 : (H1.set p (.list (intsM xs))) p = some (.list (intsM xs)) := HV.set_self
    generalize H1.set p (.list (intsM xs)) = H2 at hf1 kp2 hh2 hp2
    refine WXs_cons ?_
    refine WX_Expr ?_
    refine WE_append ?_
    walk_at "m"
    refine ⟨_, _, rfl, hf1, ?_⟩
    refine WE_Comp (tg := fun _ => True) (xs := ["mask"]) (WI_of ?_) (by kernel_rfl)
    walk_at "m"
    refine ⟨_, _, .list hp2, fun cells2 C2 => WGo1 trivial ?_⟩
    refine WCp_ind (MaskB xs k W hA fa H2) ?_ ?_ _ _ _ ⟨0, [], rfl, by (first | lia | omega), fun _ _ e => e, .nil, rfl, by simp⟩
    · rintro H3 acc ⟨i, lots, e, hi, k3, F, hl, hg⟩ r hr br
      have hik : i = k := by
        have := congrArg List.length e
        rw [List.length_drop, intsM, List.length_map] at this
        simp at this
        first | lia | omega
      subst hik
      have k4 : ∀ a o, H2 a = some o → (H3.set r (.list acc)) a = some o := fun a o e => keep_set hr _ _ (k3 a o e)
      have hf4 := k4 _ _ hf1
      have nr : r ≠ fa := by rintro rfl; rw [k3 _ _ hf1] at hr; cases hr
      have nrh : r ≠ hA := by rintro rfl; rw [k3 _ _ hh2.hand] at hr; cases hr
      refine ⟨_, hf4, by (first | lia | omega), ?_⟩
      repeat walk_at "m"
      have kz : ∀ a o, a ≠ fa → (H3.set r (.list acc)) a = some o → ((H3.set r (.list acc)).set fa (.list (fds ++ [.ref r]))) a = some o := fun a o q e => (HV.set_ne q).trans e
      refine h p _ t' (.ref r) lots hl hg ⟨kz _ _ (Ne.symm nfh) (k4 _ _ hh2.hand), kz _ _ ncf (k4 _ _ hh2.cells), hh2.s0, hh2.s1⟩ HV.set_self ?_
      · refine F2.append ?_ (.cons ?_ .nil)
        · exact hF.mono fun d l q => RL2.mono q (fun a o w e => kz _ _ w.2 (k4 _ _ (kp2 a o w.1 e))) fun a w _ => w
        · refine ⟨r, acc, rfl, ⟨nrh, nr⟩, kz _ _ nr HV.set_self, F.mono fun d l q => RL1.mono q (fun a o w e => kz _ _ w.2 (keep_set hr _ _ e)) fun a w _ => w⟩
    · rintro d ds H3 acc ⟨i, lots, e, hi, k3, F, hl, hg⟩
      obtain ⟨e1, e2⟩ := drop_cons e
      have hix : i < xs.length := by
        have := (List.getElem?_eq_some_iff.mp e1).1
        rwa [intsM, List.length_map] at this
      have ed : d = .int xs[i] := by
        rw [intsM, List.getElem?_map, List.getElem?_eq_getElem hix] at e1
        exact (Option.some.inj e1).symm
      have hbx := hb xs[i] (List.getElem_mem hix)
      generalize xs[i] = x at ed hbx
      subst ed
      have c1 : Mine.L "wide" (.int W) (capM ({ kind := .function, names := [(".0", .local), ("mask", .cell), ("range", .globalImplicit), ("wide", .free)], isGenerator := false, isCoroutine := false } : Scope) (("masks", MV.ref p) :: m)) := capM_some rfl m2
      walk_at "m"
      refine ⟨ext_cons (capM_none rfl) ext_refl, ?_⟩
      walk_at "m"
      refine ite_tt ?_
      refine WE_Comp (tg := fun _ => True) (xs := ["v"]) (WI_of ?_) (by kernel_rfl)
      refine WE_CallT z Boot.«range» ?_
      walk_at "m"
      walk_at "m"
      walk_at "m"
      walk_at "m"
      refine WE_cell ?_ c1
      repeat walk_at "m"
      refine WC_range2 ⟨_, _, .rng (k := W) (by (first | lia | omega)) (by decide) (by (first | lia | omega)), fun cells3 C3 => WGo1 trivial ?_⟩
      have c3 : Mine.L "mask" (.int x) (capM ({ kind := .function, names := [(".0", .local), ("v", .local), ("mask", .free)], isGenerator := false, isCoroutine := false } : Scope) (("mask", MV.int x) :: capM ({ kind := .function, names := [(".0", .local), ("mask", .cell), ("range", .globalImplicit), ("wide", .free)], isGenerator := false, isCoroutine := false } : Scope) (("masks", MV.ref p) :: m))) := capM_some rfl rfl
      rw [rngM_ints]
      refine WCp_ind (MaskC W x H3) ?_ ?_ _ _ _ ⟨[], vsAll W, rfl, rfl, rfl, rfl⟩
      · rintro H4 ac ⟨l₁, l₂, e, e3, rfl, rfl⟩ r hr br
        have : l₂ = [] := by cases l₂ with | nil => rfl | cons _ _ => cases e3
        subst this
        rw [List.append_nil] at e
        subst e
        obtain ⟨g1, g2⟩ := vsOf_ok hW hbx.1 hbx.2
        have nr : r ≠ fa := by rintro rfl; rw [k3 _ _ hf1] at hr; cases hr
        have nrh : r ≠ hA := by rintro rfl; rw [k3 _ _ hh2.hand] at hr; cases hr
        refine ⟨by rw [F2_len F]; (first | lia | omega), keep_set hr _ _ (k3 _ _ hp2), i + 1, lots ++ [vsOf W x], e2, by (first | lia | omega), fun a o e => keep_set hr _ _ (k3 a o e), (F.mono fun d l q => RL1.mono q (keep_of (keep_set hr)) fun a w _ => w).append (.cons ⟨r, rfl, ⟨nrh, nr⟩, HV.set_self⟩ .nil), by simp [hl], fun l h => ?_⟩
        rcases List.mem_append.mp h with h | h
        · exact hg l h
        · rw [List.mem_singleton] at h; subst h; exact ⟨g1, g2⟩
      · rintro d ds H4 ac ⟨l₁, l₂, e, e3, rfl, rfl⟩
        cases l₂ with
        | nil => cases e3
        | cons v l₂ =>
        cases e3
        have hv : 1 ≤ v ∧ v ≤ 4 := by
          have : v ∈ vsAll W := by rw [e]; simp
          obtain ⟨j, hj, rfl⟩ := List.mem_map.mp this
          rw [List.mem_range] at hj
          first | lia | omega
        have hlen : l₁.length ≤ 4 := by
          have := congrArg List.length e
          rw [vsAll, List.length_map, List.length_range, List.length_append] at this
          first | lia | omega
        have hp4 : (1 : Int) ≤ 2 ^ (v - 1).toNat ∧ (2 : Int) ^ (v - 1).toNat ≤ 8 := by
          have : v = 1 ∨ v = 2 ∨ v = 3 ∨ v = 4 := by (first | lia | omega)
          rcases this with rfl | rfl | rfl | rfl <;> decide
        walk_at "m"
        refine ⟨ext_cons (capM_none rfl) ext_refl, ?_⟩
        repeat walk_at "m"
        refine W2_pow ?_ (by (first | lia | omega)) (by
          have : Builtin.Int.intBits 2 = 2 := by decide
          rw [this]; (first | lia | omega))
        refine W2_div ?_ (by (first | lia | omega)) (by (first | lia | omega))
        repeat walk_at "m"
        refine W2_mod ?_ (by decide)
        repeat walk_at "m"
        have spl : vsAll W = (l₁ ++ [v]) ++ l₂ := by rw [e]; simp
        refine ite_b (fun hb => ?_) (fun hb => ?_)
        · repeat walk_at "m"
          refine ⟨by rw [intsM, List.length_map]; have := List.length_filter_le (bitB x) l₁; (first | lia | omega), trivial, l₁ ++ [v], l₂, spl, rfl, ?_, rfl⟩
          rw [List.filter_append, List.filter_cons, show bitB x v = true from hb]
          simp [intsM]
        · refine ⟨trivial, l₁ ++ [v], l₂, spl, rfl, ?_, rfl⟩
          rw [List.filter_append, List.filter_cons, show bitB x v = false from hb]
          simp
  · rintro d ds H1 acc ⟨k, t', xs, e, hk, hh1, kp, rfl, hx, hb⟩
    obtain ⟨e1, e2⟩ := drop_cons e
    obtain ⟨hkM, rfl⟩ := rngM_get e1
    have c1 : Mine.L "wide" (.int W) (capM ({ kind := .function, names := [(".0", .local), ("k", .local), ("_law_pick", .globalImplicit), ("hand", .free), ("wide", .free)], isGenerator := false, isCoroutine := false } : Scope) m) := capM_some rfl m2
    have c2 : Mine.L "hand" (.ref hA) (capM ({ kind := .function, names := [(".0", .local), ("k", .local), ("_law_pick", .globalImplicit), ("hand", .free), ("wide", .free)], isGenerator := false, isCoroutine := false } : Scope) m) := capM_some rfl m3
    repeat walk_at "m"
    refine ⟨ext_cons (capM_none rfl) ext_refl, ?_⟩
    repeat walk_at "m"
    refine WE_CallK z (f := 346) ?_ (by kernel_rfl) (by kernel_rfl)
    refine WEs_cons (WE_cell ?_ c2)
    walk_at "m"
    walk_at "m"
    walk_at "m"
    walk_at "m"
    refine WE_cell ?_ c1
    refine W2_pow ?_ (by (first | lia | omega)) (by
      have : Builtin.Int.intBits 2 = 2 := by decide
      rw [this]; (first | lia | omega))
    rw [Int.toNat_natCast]
    repeat walk_at "m"
    refine c_pick z hh1 hz (by (first | lia | omega)) (by (first | lia | omega)) fun r t2 r0 r1 => ?_
    repeat walk_at "m"
    refine ⟨by rw [intsM, List.length_map]; (first | lia | omega), trivial, k + 1, t2, xs ++ [1 + r], e2, by (first | lia | omega), ?_, ?_, by simp [intsM], by simp [hx], ?_⟩
    · refine ⟨by rw [HV.set_self, show s + ((k + 1 : Nat) : Int) = s + k + 1 by (first | lia | omega)], ?_, by (first | lia | omega), by (first | lia | omega)⟩
      refine (HV.set_ne ?_).trans hh1.cells
      rintro rfl
      have := hh1.cells
      rw [hh1.hand] at this
      cases this
    · exact fun a o q e => (HV.set_ne q).trans (kp a o q e)
    · intro x hx
      rcases List.mem_append.mp hx with hx | hx
      · exact hb x hx
      · rw [List.mem_singleton] at hx; subst hx; (first | lia | omega)
end
end
section
-- V4
noncomputable def rngI (a : Int) (k : Nat) : List Int := (List.range k).map fun (i : Nat) => a + (i : Int)
theorem rngM_int {a : Int} {k : Nat} : rngM a k = intsM (rngI a k) := by
  unfold rngM intsM rngI; rw [List.map_map]; rfl
theorem rngI_len {a : Int} {k : Nat} : (rngI a k).length = k := by simp [rngI]
theorem rngI_mem {a x : Int} {k : Nat} : x ∈ rngI a k ↔ a ≤ x ∧ x < a + k := by
  unfold rngI
  rw [List.mem_map]
  constructor
  · rintro ⟨i, hi, rfl⟩
    rw [List.mem_range] at hi
    first | lia | omega
  · rintro ⟨h1, h2⟩
    exact ⟨(x - a).toNat, List.mem_range.mpr (by (first | lia | omega)), by (first | lia | omega)⟩
theorem rngI_nd {a : Int} {k : Nat} : (rngI a k).Nodup := by
  have key : ∀ {l : List Nat}, l.Nodup → (l.map fun (i : Nat) => a + (i : Int)).Nodup := by
    intro l
    induction l with
    | nil => intro _; simp
    | cons b l ih =>
      intro h
      rw [List.nodup_cons] at h
      rw [List.map_cons, List.nodup_cons]
      refine ⟨fun hm => ?_, ih h.2⟩
      obtain ⟨j, hj, e⟩ := List.mem_map.mp hm
      have : j = b := by (first | lia | omega)
      subst this
      exact h.1 hj
  exact key List.nodup_range
theorem pick_left {l0 l1 : Lots} {k : Nat} (h : l0.length = k) : pick (l0 ++ l1) (rngI 0 k) = l0 := by
  refine List.ext_getElem? fun i => ?_
  unfold pick rngI
  rw [List.map_map, List.getElem?_map]
  by_cases hi : i < k
  · rw [List.getElem?_range hi]
    simp only [Option.map_some, Function.comp]
    rw [show ((0 : Int) + (i : Int)).toNat = i by (first | lia | omega), List.getD_eq_getElem?_getD, List.getElem?_append_left (by (first | lia | omega)), List.getElem?_eq_getElem (by (first | lia | omega))]
    rfl
  · rw [List.getElem?_eq_none (by simpa using hi), List.getElem?_eq_none (by (first | lia | omega))]
    rfl
theorem pick_right {l0 l1 : Lots} {j k : Nat} (h0 : l0.length = j) (h : l1.length = k) : pick (l0 ++ l1) (rngI (j : Int) k) = l1 := by
  refine List.ext_getElem? fun i => ?_
  unfold pick rngI
  rw [List.map_map, List.getElem?_map]
  by_cases hi : i < k
  · rw [List.getElem?_range hi]
    simp only [Option.map_some, Function.comp]
    rw [show ((j : Int) + (i : Int)).toNat = j + i by (first | lia | omega), List.getD_eq_getElem?_getD, List.getElem?_append_right (by (first | lia | omega)), show j + i - l0.length = i by (first | lia | omega), List.getElem?_eq_getElem (by (first | lia | omega))]
    rfl
  · rw [List.getElem?_eq_none (by simpa using hi), List.getElem?_eq_none (by (first | lia | omega))]
    rfl
structure SetOk (N : Nat) (s0 s1 : List Int) (fl l0 l1 : Lots) : Prop where
  G : Geo s0 s1 N
  hfl : ∀ l ∈ fl, GL l
  hfn : fl.length = N
  p0 : pick fl s0 = l0
  p1 : pick fl s1 = l1
  hw0 : ∀ x ∈ s0, ∀ v ∈ fl.getD x.toNat [], v ≤ (s1.length : Int)
  hw1 : ∀ x ∈ s1, ∀ v ∈ fl.getD x.toNat [], v ≤ (s0.length : Int)
  cov : ∀ k : Nat, k < N → (k : Int) ∈ s0 ∨ (k : Int) ∈ s1
  hN : s0.length + s1.length = N
theorem set_ok {M W : Nat} (hM : 2 ≤ M ∧ M ≤ 4) (hW : 2 ≤ W ∧ W ≤ 4) {l0 l1 : Lots} (n0 : l0.length = M) (n1 : l1.length = W) (g0 : ∀ l ∈ l0, GL l ∧ ∀ v ∈ l, v ≤ (W : Int)) (g1 : ∀ l ∈ l1, GL l ∧ ∀ v ∈ l, v ≤ (M : Int)) {a b : Nat} {fl : Lots}
    (hfl : ∀ l ∈ fl, l ∈ l0 ∨ l ∈ l1) (hfn : fl.length = M + W) (p0 : pick fl (rngI a M) = l0) (p1 : pick fl (rngI b W) = l1) (hab : (a = 0 ∧ b = M) ∨ (a = W ∧ b = 0)) : SetOk (M + W) (rngI a M) (rngI b W) fl l0 l1 where
  G := ⟨rngI_nd, rngI_nd, fun x h1 h2 => by rw [rngI_mem] at h1 h2; (first | lia | omega), fun x h => by rw [rngI_mem] at h; (first | lia | omega), fun x h => by rw [rngI_mem] at h; (first | lia | omega), by rw [rngI_len]; exact hM, by rw [rngI_len]; exact hW, by (first | lia | omega)⟩
  hfl := fun l h => by
    rcases hfl l h with h | h
    · exact (g0 l h).1
    · exact (g1 l h).1
  hfn := hfn
  p0 := p0
  p1 := p1
  hw0 := fun x hx v hv => by
    rw [rngI_len]
    exact (g0 _ (by rw [← p0]; exact List.mem_map.mpr ⟨x, hx, rfl⟩)).2 v hv
  hw1 := fun x hx v hv => by
    rw [rngI_len]
    exact (g1 _ (by rw [← p1]; exact List.mem_map.mpr ⟨x, hx, rfl⟩)).2 v hv
  cov := fun k hk => by rw [rngI_mem, rngI_mem]; (first | lia | omega)
  hN := by rw [rngI_len, rngI_len]
theorem set_ok' {M W : Nat} (hM : 2 ≤ M ∧ M ≤ 4) (hW : 2 ≤ W ∧ W ≤ 4) {l0 l1 : Lots} (n0 : l0.length = M) (n1 : l1.length = W) (g0 : ∀ l ∈ l0, GL l ∧ ∀ v ∈ l, v ≤ (W : Int)) (g1 : ∀ l ∈ l1, GL l ∧ ∀ v ∈ l, v ≤ (M : Int)) {sh lo : Int} (h : (sh = 0 ∧ lo = M) ∨ (sh = W ∧ lo = 0)) : ∃ fl, SetOk (M + W) (rngI sh M) (rngI lo W) fl l0 l1 := by
  rcases h with ⟨rfl, rfl⟩ | ⟨rfl, rfl⟩
  · exact ⟨l0 ++ l1, set_ok (a := 0) (b := M) hM hW n0 n1 g0 g1 (fun l h => List.mem_append.mp h) (by rw [List.length_append]; (first | lia | omega)) (pick_left n0) (pick_right n0 n1) (.inl ⟨rfl, rfl⟩)⟩
  · exact ⟨l1 ++ l0, set_ok (a := W) (b := 0) hM hW n0 n1 g0 g1 (fun l h => (List.mem_append.mp h).symm) (by rw [List.length_append]; (first | lia | omega)) (pick_right n1 n0) (pick_left n1) (.inr ⟨rfl, rfl⟩)⟩
section
variable {c : Cx} {n : Nat} {env : Env} {m : Loc} {H : HV}
noncomputable def lawTail1b (p : Params) : List Stmt := (fun (b : List Stmt) (_ : (lawTail1 p).drop 2 = b) => b) (_ :: _) rfl
theorem c_tail1b (z : Z2 c) {L0 : Addr} {M W : Nat} (hM : 2 ≤ M ∧ M ≤ 4) (hW : 2 ≤ W ∧ W ≤ 4) {l0 l1 : Lots} (n0 : l0.length = M) (n1 : l1.length = W) (g0 : ∀ l ∈ l0, GL l ∧ ∀ v ∈ l, v ≤ (W : Int)) (g1 : ∀ l ∈ l1, GL l ∧ ∀ v ∈ l, v ≤ (M : Int)) {sh lo : Int} (hab : (sh = 0 ∧ lo = M) ∨ (sh = W ∧ lo = 0))
    {hA cA : Addr} {cells : List Int} {s t : Int} {fd : MV} (hh : Hand hA cA cells s t H) (hs : s ≤ 1000) (hz : cells.length ≤ 1000) (hfirst : RL3 (fun a => a ≠ hA) H fd [l0, l1])
    (m1 : Mine.L "many" (.int M) m) (m2 : Mine.L "much" (.int W) m) (m3 : Mine.L "shift" (.int sh) m) (m4 : Mine.L "low" (.int lo) m) (m5 : Mine.L "first" fd m) (m6 : Mine.L "hand" (.ref hA) m) :
    WXs c (n + 21) (lawEnv c.w.params L0) (lawTail1b c.w.params) m H (retM fun d _ => d = .bool true) := by
  have zz := z.toZ
  obtain ⟨fl, B⟩ := set_ok' hM hW n0 n1 g0 g1 hab
  refine WXs_cons ?_
  repeat walk_at "m"
  refine WE_CallT zz Boot.«tuple» ?_
  repeat walk_at "m"
  refine WE_CallT zz Boot.«range» ?_
  repeat walk_at "m"
  refine WC_range2 ?_
  repeat walk_at "m"
  refine WC_tuple_range (k := M) rfl (by (first | lia | omega)) (by (first | lia | omega)) (by (first | lia | omega)) ?_
  rw [rngM_int]
  repeat walk_at "m"
  refine WE_CallT zz Boot.«tuple» ?_
  repeat walk_at "m"
  refine WE_CallT zz Boot.«range» ?_
  repeat walk_at "m"
  refine WC_range2 ?_
  repeat walk_at "m"
  refine WC_tuple_range (k := W) rfl (by (first | lia | omega)) (by (first | lia | omega)) (by (first | lia | omega)) ?_
  rw [rngM_int]
  repeat walk_at "m"
  refine WE_CallK zz (f := 244) ?_ (by kernel_rfl) (by kernel_rfl)
  repeat walk_at "m"
  refine c_store zz fun A H1 hS hn k1 => ?_
  repeat walk_at "m"
  refine WE_Dict0 fun dA hdA bdA => ?_
  iterate 8 walk_at "m"
  have k2 : ∀ a o, H a = some o → (H1.set dA (.imap [])) a = some o := fun a o e => keep_set hdA _ _ (k1 a o e)
  have hd0 : H dA = none := by
    cases q : H dA with
    | none => rfl
    | some o => rw [k1 _ _ q] at hdA; cases hdA
  have hS2 := hS.ext (keep_set (o := .imap []) hdA)
  have nA : ∀ a, H a ≠ none → a ∉ A.l := fun a h hm => h (hn a hm)
  refine c_tail2 (n := n) z B.G B.hfl B.hfn B.hw0 B.hw1 B.cov B.hN (dA := dA) hS2 (hA := hA) (cA := cA) ⟨k2 _ _ hh.hand, k2 _ _ hh.cells, hh.s0, hh.s1⟩ hs hz (nA _ (by rw [hh.hand]; simp)) (nA _ (by rw [hh.cells]; simp)) HV.set_self (hS.ne hdA) (fd := fd) ?_ rfl rfl rfl (by rw [rngI_len]; exact m1) (by rw [rngI_len]; exact m2) m5 m6
  rw [B.p0, B.p1]
  exact RL3.mono hfirst (fun a o q e => k2 a o e) fun a q h => ⟨nA a h, q, by rintro rfl; exact h hd0⟩
theorem c_tail1 (z : Z2 c) {L0 : Addr} {M W : Nat} (hM : 2 ≤ M ∧ M ≤ 4) (hW : 2 ≤ W ∧ W ≤ 4) {sh : Int} (hsh : sh = 0 ∨ sh = W)
    {hA cA fa : Addr} {cells : List Int} {s t : Int} (hh : Hand hA cA cells s t H) (hs : s ≤ 100) (hz : cells.length ≤ 1000) (ncf : cA ≠ fa) (hf : H fa = some (.list []))
    (m1 : Mine.L "many" (.int M) m) (m2 : Mine.L "much" (.int W) m) (m3 : Mine.L "shift" (.int sh) m) (m5 : Mine.L "first" (.ref fa) m) (m6 : Mine.L "hand" (.ref hA) m) :
    WXs c (n + 21) (lawEnv c.w.params L0) (lawTail1 c.w.params) m H (retM fun d _ => d = .bool true) := by
  have zz := z.toZ
  refine WXs_cons ?_
  refine WX_For (tg := fun _ => True) (WI_of ?_) trivial
  repeat walk_at "m"
  refine ⟨_, _, .tup, ?_⟩
  refine WFor_cons ?_
  walk_at "m"
  walk_at "m"
  walk_at "m"
  walk_at "m"
  walk_at "m"
  walk_at "m"
  refine c_masks (n := n) zz hM hW hh (by (first | lia | omega)) hz ncf hf .nil (by show 0 ≤ 10; (first | lia | omega)) rfl rfl m6 m5 fun p1 H1 t1 d1 l0 n0 g0 hh1 hf1 F1 => ?_
  refine ⟨trivial, WFor_cons ?_⟩
  iterate 6 walk_at "m"
  refine c_masks (n := n) zz hW hM hh1 (by (first | lia | omega)) hz ncf hf1 F1 (by simp) rfl rfl m6 m5 fun p2 H2 t2 d2 l1 n1 g1 hh2 hf2 F2 => ?_
  refine ⟨trivial, WFor_nil ?_⟩
  have nfh : fa ≠ hA := by rintro rfl; have := hh.hand; rw [hf] at this; cases this
  have first2 : RL3 (fun a => a ≠ hA) H2 (.ref fa) [l0, l1] := ⟨fa, _, rfl, nfh, hf2, F2.mono fun d l q => RL2.mono q (fun a o _ e => e) fun a q _ => q.1⟩
  refine WXs_cons ?_
  repeat walk_at "m"
  refine ite_dec (fun hc => ?_) (fun hc => ?_)
  · walk_at "m"
    walk_at "m"
    refine c_tail1b (n := n) z hM hW n0 n1 g0 g1 (.inl ⟨hc, rfl⟩) hh2 (by (first | lia | omega)) hz first2 m1 m2 m3 rfl m5 m6
  · walk_at "m"
    walk_at "m"
    refine c_tail1b (n := n) z hM hW n0 n1 g0 g1 (.inr ⟨hsh.resolve_left hc, rfl⟩) hh2 (by (first | lia | omega)) hz first2 m1 m2 m3 rfl m5 m6
end
end
section
-- V5
section
variable {c : Cx} {n : Nat} {env : Env} {m : Loc} {H : HV}
noncomputable def lawBody4 (p : Params) : List Stmt := (fun (b : List Stmt) (_ : (lawBody p).drop 4 = b) => b) (_ :: _) rfl
theorem c_body4 (z : Z2 c) {L0 : Addr} {M W : Nat} (hM : 2 ≤ M ∧ M ≤ 4) (hW : 2 ≤ W ∧ W ≤ 4) {hA cA : Addr} {cells : List Int} {s t : Int} (hh : Hand hA cA cells s t H) (hs : s ≤ 50) (hz : cells.length ≤ 1000)
    (m1 : Mine.L "many" (.int M) m) (m2 : Mine.L "much" (.int W) m) (m6 : Mine.L "hand" (.ref hA) m) :
    WXs c (n + 21) (lawEnv c.w.params L0) (lawBody4 c.w.params) m H (retM fun d _ => d = .bool true) := by
  have zz := z.toZ
  have ncA : cA ≠ hA := by rintro rfl; have := hh.hand; rw [hh.cells] at this; cases this
  refine WXs_cons ?_
  refine WX_Swap (names := ["shift", "first"]) ?_
  repeat walk_at "m"
  refine WE_CallK zz (f := 346) ?_ (by kernel_rfl) (by kernel_rfl)
  repeat walk_at "m"
  refine c_pick zz hh hz (by decide) (by decide) fun r t' r0 r1 => ?_
  have s0 := hh.s0
  have hh1 : Hand hA cA cells (s + 1) t' (H.set hA (.smap (handM cA (s + 1) t'))) := ⟨HV.set_self, (HV.set_ne ncA).trans hh.cells, by (first | lia | omega), by (first | lia | omega)⟩
  generalize H.set hA (.smap (handM cA (s + 1) t')) = H1 at hh1
  repeat walk_at "m"
  refine W2_mul ?_ (by (first | lia | omega))
  repeat walk_at "m"
  intro E hE bE
  repeat walk_at "m"
  refine ⟨_, rfl, rfl, ?_⟩
  have hsh : r * (W : Int) = 0 ∨ r * (W : Int) = W := by
    have : r = 0 ∨ r = 1 := by (first | lia | omega)
    rcases this with rfl | rfl
    · exact .inl (by simp)
    · exact .inr (by simp)
  exact c_tail1 (n := n) z hM hW hsh (hA := hA) (cA := cA) ⟨keep_set hE _ _ hh1.hand, keep_set hE _ _ hh1.cells, hh1.s0, hh1.s1⟩ (by (first | lia | omega)) hz (by rintro rfl; rw [hh1.cells] at hE; cases hE) HV.set_self m1 m2 rfl rfl m6
inductive CellI (xs : List Int) (H1 : HV) (ds : List MV) (H₁ : HV) (acc : List MV) : Prop
  | mk (k : Nat) (cs : List Int) (h0 : ds = (intsM xs).drop k) (h1 : k ≤ xs.length) (h2 : H₁ = H1) (h3 : acc = intsM cs) (h4 : cs.length = k) (h5 : ∀ x ∈ cs, 0 ≤ x ∧ x ≤ 1000003)
theorem c_law (z : Z2 c) {script : List Int} (hl : script.length ≤ 63) : WC c (n + 22) (.ref 375) [.flist (intsM script)] H fun d _ => d = .bool true := by
  have zz := z.toZ
  refine WC_at zz (names := ["script"]) rfl rfl rfl rfl (by kernel_rfl) (one fun a => by rfl) rfl (by decide) (by rfl) (fun L hL bL => ?_)
  refine WXs_cons ?_
  refine WX_AssignComp (tg := fun _ => True) (xs := ["cell"]) (WI_of ?_) (by kernel_rfl)
  repeat walk_at "m"
  refine ⟨_, _, .base, by rw [intsM, List.length_map]; (first | lia | omega), rfl, by decide, fun l hl0 bl => ?_⟩
  have ek : (intsM script).take (50 : Int).toNat = intsM (script.take 50) := by
    unfold intsM; rw [List.map_take]; rfl
  rw [ek]
  have hxs : (script.take 50).length ≤ 50 := by rw [List.length_take]; (first | lia | omega)
  generalize script.take 50 = xs at hxs
  refine ⟨_, _, .list HV.set_self, fun cells1 C => WGo1 trivial ?_⟩
  have hl1 : (H.set l (.list (intsM xs))) l = some (.list (intsM xs)) := HV.set_self
  generalize H.set l (.list (intsM xs)) = H1 at hl1
  refine WCp_ind (CellI xs H1) ?_ ?_ _ _ _ ⟨0, [], rfl, by (first | lia | omega), rfl, rfl, rfl, by simp⟩
  · rintro H2 acc ⟨k, cs, e, hk, rfl, rfl, hc, hb⟩ cA hcA bcA
    have hcs : (H2.set cA (.list (intsM cs))) cA = some (.list (intsM cs)) := HV.set_self
    generalize H2.set cA (.list (intsM cs)) = H3 at hcs
    refine WXs_cons ?_
    refine WX_Assign ?_
    refine WE_Dict3 ?_
    repeat walk_at "m"
    refine WE_CallB zz Boot.«sum» ?_
    repeat walk_at "m"
    refine WC_sum hcs (by (first | lia | omega)) hb ?_
    repeat walk_at "m"
    refine W2_mod ?_ (by decide)
    intro hA hhA bhA
    have hh : Hand hA cA cs 0 ((5 + cs.sum).fmod 1021) (H3.set hA (.smap (handM cA 0 ((5 + cs.sum).fmod 1021)))) := ⟨HV.set_self, keep_set hhA _ _ hcs, by (first | lia | omega), by (first | lia | omega)⟩
    show WA _ _ _ _ _ _ _ (H3.set hA (.smap (handM cA 0 ((5 + cs.sum).fmod 1021)))) _
    generalize (5 + cs.sum).fmod 1021 = t at hh
    generalize H3.set hA (.smap (handM cA 0 t)) = H4 at hh
    have ncA : cA ≠ hA := by rintro rfl; have := hh.hand; rw [hh.cells] at this; cases this
    have hz : cs.length ≤ 1000 := by (first | lia | omega)
    repeat walk_at "m"
    refine WE_CallK zz (f := 346) ?_ (by kernel_rfl) (by kernel_rfl)
    repeat walk_at "m"
    refine c_pick zz hh hz (by decide) (by decide) fun r1 t1 a1 b1 => ?_
    have hh1 : Hand hA cA cs (0 + 1) t1 (H4.set hA (.smap (handM cA (0 + 1) t1))) := ⟨HV.set_self, (HV.set_ne ncA).trans hh.cells, by (first | lia | omega), by (first | lia | omega)⟩
    generalize H4.set hA (.smap (handM cA (0 + 1) t1)) = H5 at hh1
    clear hh
    repeat walk_at "m"
    obtain ⟨M, eM⟩ : ∃ M : Nat, 2 + r1 = M := ⟨(2 + r1).toNat, by (first | lia | omega)⟩
    rw [eM]
    repeat walk_at "m"
    refine WE_CallK zz (f := 346) ?_ (by kernel_rfl) (by kernel_rfl)
    repeat walk_at "m"
    refine c_pick zz hh1 hz (by decide) (by decide) fun r2 t2 a2 b2 => ?_
    have hh2 : Hand hA cA cs (0 + 1 + 1) t2 (H5.set hA (.smap (handM cA (0 + 1 + 1) t2))) := ⟨HV.set_self, (HV.set_ne ncA).trans hh1.cells, by (first | lia | omega), by (first | lia | omega)⟩
    generalize H5.set hA (.smap (handM cA (0 + 1 + 1) t2)) = H6 at hh2
    clear hh1
    repeat walk_at "m"
    refine ite_dec (fun hc => ?_) (fun hc => ?_)
    · walk_at "m"
      walk_at "m"
      exact c_body4 (n := n) z (M := M) (W := M) (by (first | lia | omega)) (by (first | lia | omega)) hh2 (by (first | lia | omega)) hz rfl rfl rfl
    · walk_at "m"
      walk_at "m"
      refine WE_CallK zz (f := 346) ?_ (by kernel_rfl) (by kernel_rfl)
      repeat walk_at "m"
      refine c_pick zz hh2 hz (by decide) (by decide) fun r3 t3 a3 b3 => ?_
      have hh3 : Hand hA cA cs (0 + 1 + 1 + 1) t3 (H6.set hA (.smap (handM cA (0 + 1 + 1 + 1) t3))) := ⟨HV.set_self, (HV.set_ne ncA).trans hh2.cells, by (first | lia | omega), by (first | lia | omega)⟩
      generalize H6.set hA (.smap (handM cA (0 + 1 + 1 + 1) t3)) = H7 at hh3
      walk_at "m"
      obtain ⟨W, eW⟩ : ∃ W : Nat, 2 + r3 = W := ⟨(2 + r3).toNat, by (first | lia | omega)⟩
      rw [eW]
      walk_at "m"
      exact c_body4 (n := n) z (M := M) (W := W) (by (first | lia | omega)) (by (first | lia | omega)) hh3 (by (first | lia | omega)) hz rfl rfl rfl
  · rintro d ds H2 acc ⟨k, cs, e, hk, rfl, rfl, hc, hb⟩
    obtain ⟨e1, e2⟩ := drop_cons e
    have hix : k < xs.length := by
      have := (List.getElem?_eq_some_iff.mp e1).1
      rwa [intsM, List.length_map] at this
    have ed : d = .int xs[k] := by
      rw [intsM, List.getElem?_map, List.getElem?_eq_getElem hix] at e1
      exact (Option.some.inj e1).symm
    generalize xs[k] = x at ed
    subst ed
    repeat walk_at "m"
    refine ⟨ext_cons (by rfl) ext_refl, ?_⟩
    repeat walk_at "m"
    refine WE_CallB zz Boot.«abs» ?_
    repeat walk_at "m"
    refine WC_abs ?_
    repeat walk_at "m"
    refine W2_mod ?_ (by decide)
    have h1 := Int.fmod_nonneg_of_pos (if x < 0 then -x else x) (show (0 : Int) < 1000003 by decide)
    have h2 := Int.fmod_lt_of_pos (if x < 0 then -x else x) (show (0 : Int) < 1000003 by decide)
    refine ⟨by rw [intsM, List.length_map]; (first | lia | omega), hl1, k + 1, cs ++ [(if x < 0 then -x else x).fmod 1000003], e2, by (first | lia | omega), rfl, by simp [intsM], by simp [hc], fun y hy => ?_⟩
    rcases List.mem_append.mp hy with hy | hy
    · exact hb y hy
    · rw [List.mem_singleton] at hy; subst hy; (first | lia | omega)
end
end
section
-- W1
theorem intsVR {c : Cx} {h : Heap} : ∀ {vs : List Value} {ns : List Int}, IntsAre vs ns → VRs c h vs (intsM ns)
  | _, _, .nil => .nil
  | _, _, .cons n t r => .cons (.int n t) (intsVR r)
theorem law_post {r : OpenLaw} {w : World} {s₀ s₁ : Shared} {mg mb : Str → Option Value} {p : Program} {loose : List Str} {mean : ExcName → Option Value} (T : Top p loose mean mg mb s₁.heap) (KX : (KF w.params).In s₁.heap) (hg : s₁.gens = #[])
    (hfile : ((r.row.prog.main.file : Str) == ("/claim/cut.py" : Str)) = true) (hsup : (r.row.prog.main.scope.names.lookup ("super" : Str)).isSome = false)
    {l : Addr} {ws : List Value} {script : List Int} {fa : Addr} (hL : s₁.heap.IsList l ws.toArray) (hI : IntsAre ws script) (hn : script.length ≤ 63) (hfa : fa = 375) {E : Value → Shared → Prop} {args : List WData} :
    wpAny (model r.row.prog w) callerA (call (.ref fa) [.ref l]) (fun v s' => GoodWG r.row.claim (classAt s₀.heap) (ExcName.means s₀.heap) args s₁ (.ok (.ret v)) s') E s₁ := by
  subst hfa
  have z : Z2 ⟨r.row.prog, w, KF w.params, s₁.heap, p, loose, mg, mb⟩ := { top := topRead_of T, kin := KX, hK := rfl, file := hfile, noSuper := hsup }
  obtain ⟨o, h1, h2, k, h3⟩ := hL
  refine wpAny_mono ((c_law (n := 0) (H := fun _ => none) z hn) callerA s₁ [.ref l] ⟨rfl, by decide, by decide⟩ ⟨fun _ _ e => e, fun _ _ e => (by cases e), fun _ _ e => (by cases e)⟩ (.cons (.flist h1 h1 h2 h3 (intsVR hI)) .nil)) ?_ fun _ _ x => x.elim
  rintro v s' ⟨d, H', sh, vr, st, rfl⟩
  cases vr
  refine GoodW.toG ⟨.inl ⟨_, .bool true, [], rfl, fun _ => ?_, .bool true, ?_, fun _ => ⟨List.nodup_nil, fun a h => by cases h⟩⟩, fun b o e => st.keep b o e rfl id, ?_, ?_⟩
  · rfl
  · kernel_rfl
  · obtain ⟨h, tk, rfl⟩ := st.same; rfl
  · obtain ⟨h, tk, rfl⟩ := st.same; exact hg
end
end Mine
open PySem PySem.W PyProof.Rows
set_option maxRecDepth 100000 in
set_option maxHeartbeats 8000000 in
theorem PySem.Challenge.cw_pc0033_01_holds : PySem.Challenge.rw_pc0033_01.Holds := by
  refine Mine.hdS fun d kwd hn => ?_
  intro w s₀ s₁ mg mb G Y fa o pm cd doc dV kV ho hd' hcd hD hmg hg args vals as hpre hlay hrd hwl hlo
  have KX : (Mine.KF w.params).In s₁.heap := Y
  refine Ground.open G ?_
  intro T B D TE TW
  wrow_args hpre hlay hrd hwl hlo
  refine Mine.law_post T KX hg (by rfl) (by rfl) (by assumption) (by assumption) (by omega) ?_
  have e := mg_of KX T.g (n := "law") (v := .ref 375) (by rfl)
  rw [hn] at hmg
  have e2 := e.symm.trans hmg
  cases e2
  rfl
