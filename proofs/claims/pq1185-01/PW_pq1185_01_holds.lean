import PyProof.Rows.All
import Wide.All
import OpenK.AllK
import Wide.FinOn
import PySem.Challenge.RW_pq1185_01
open PySem PySem.W PyProof.Rows
set_option Elab.async false
set_option maxRecDepth 100000
set_option maxHeartbeats 8000000
set_option rowWalk.seconds 0
namespace Mine
/-- the program without the five rows that name its files -/
noncomputable def vw : Program := { PySem.Challenge.pw_pq1185_01 with main := { PySem.Challenge.pw_pq1185_01.main with body := ((((PySem.Challenge.pw_pq1185_01.main.body.eraseIdx 49).eraseIdx 43).eraseIdx 10).eraseIdx 3).eraseIdx 1 } }
noncomputable abbrev tpProg : Program := PySem.Challenge.pw_pq1185_01
noncomputable def tpAnno : Option Value := some (.ref 6)
/-- the environment of the text's top -/
noncomputable def tpEnv : Env := { scope := PySem.Challenge.pw_pq1185_01.main.scope, locals := mainNs, globals := mainNs, cells := [], code := .ref 13, frame := some 14 }
noncomputable def tpBody : List Stmt := behindTheImports tpProg
noncomputable def tpCode : Code := .body tpBody tpEnv
noncomputable def tpSts (a m : Nat) : List Stmt := (tpBody.drop a).take m
noncomputable abbrev tpEn (P : Params) (x : Str) (n : Nat) (v : Value) : DictEntry := DictEntry.mk (PyData.keyHash P x) (.str x n) v
/-- the objects of the top that the written-out part of the heap does not hold -/
noncomputable def tpOdds (P : Params) : List (Nat × Obj) := [
  (11, Obj.mk (Value.type "tuple") none (Data.seq #[] 0) #[]),
  (12, Obj.mk .none none (Data.fields #[(.int 1 0), (.int 0 0), (.ref 20), (.int 5 0), (.int 0 0), (.ref 27), (.int 20 0), (.int 0 0), (.ref 34), (.int 22 0), (.int 0 0), (.ref 41), (.int 49 0), (.int 0 0), (.ref 126), (.int 62 0), (.int 0 0), (.ref 162), (.int 64 0), (.int 0 0), (.ref 169), (.int 66 0), (.int 0 0), (.ref 176), (.int 71 0), (.int 0 0), (.ref 183), (.int 76 0), (.int 0 0), (.ref 190), (.int 78 0), (.int 0 0), (.ref 197), (.int 85 0), (.int 0 0), (.ref 204), (.int 91 0), (.int 0 0), (.ref 211), (.int 99 0), (.int 0 0), (.ref 218), (.int 109 0), (.int 0 0), (.ref 225), (.int 113 0), (.int 0 0), (.ref 232), (.int 118 0), (.int 0 0), (.ref 239), (.int 126 0), (.int 0 0), (.ref 246), (.int 137 0), (.int 0 0), (.ref 253), (.int 142 0), (.int 0 0), (.ref 260), (.int 164 0), (.int 0 0), (.ref 267), (.int 175 0), (.int 0 0), (.ref 277), (.int 179 0), (.int 0 0), (.ref 284), (.int 200 0), (.int 0 0), (.ref 356), (.int 204 0), (.int 0 0), (.ref 361), (.int 206 0), (.int 0 0), (.ref 368), (.int 212 0), (.int 0 0), (.ref 375), (.int 217 0), (.int 0 0), (.ref 382), (.int 219 0), (.int 0 0), (.ref 389), (.int 226 0), (.int 0 0), (.ref 396), (.int 228 0), (.int 0 0), (.ref 403), (.int 246 0), (.int 0 0), (.ref 410), (.int 266 0), (.int 0 0), (.ref 415)]) #[]),
  (13, Obj.mk (Value.type "code") none (Data.fields #[(.str "<module>" 182), (.str "<module>" 183), (.str "/claim/cut.py" 184), (.int 1 0), (.int 0 0), (.int 0 0), (.int 0 0), (.int 0 0), (.ref 11), (Value.bool false), (.int 181 0), (.ref 12), .none, .none, .none, .none, (.int 185 0), (.int 1 0), (.str "/claim/cut.py" 186)]) #[]),
  (14, Obj.mk (Value.type "frame") none Data.plain #[(some (.ref 13)), (some (.ref 3)), (some (.ref 3)), none, (some (.str "__main__" 164)), none, (some (.ref 0))]),
  (121, Obj.mk (Value.type "tuple") none (Data.seq #[] 0) #[]),
  (122, Obj.mk (Value.type "builtin_function_or_method") none (Data.fields #[(Value.builtin "type.__prepare__"), (Value.type "type")]) #[]),
  (123, Obj.mk (Value.type "dict") none (Data.dict #[(tpEn P "__module__" 446 (.str "termcore.keyboard" 230)), (tpEn P "__qualname__" 448 (.str "Key" 447)), (tpEn P "__firstlineno__" 450 (.int 49 449)), (tpEn P "__init__" 462 (.ref 135)), (tpEn P "with_held" 470 (.ref 142)), (tpEn P "told" 477 (.ref 149)), (tpEn P "__static_attributes__" 482 (.ref 150))] 7) #[]),
  (124, Obj.mk (Value.type "tuple") none (Data.seq #[] 0) #[]),
  (125, Obj.mk .none none (Data.fields #[(.int 51 0), (.int 4 0), (.ref 134), (.int 57 0), (.int 4 0), (.ref 141), (.int 60 0), (.int 4 0), (.ref 148)]) #[]),
  (126, Obj.mk (Value.type "code") none (Data.fields #[(.str "Key" 441), (.str "Key" 442), (.str "/claim/cut.py" 443), (.int 49 0), (.int 0 0), (.int 0 0), (.int 0 0), (.int 0 0), (.ref 124), (Value.bool false), (.int 181 0), (.ref 125), .none, .none, .none, .none, (.int 444 0), (.int 49 0), (.str "/claim/cut.py" 445)]) #[]),
  (127, Obj.mk (Value.type "frame") none Data.plain #[(some (.ref 126)), (some (.ref 3)), (some (.ref 123)), none, (some (.str "termcore.keyboard" 230)), none, (some (.ref 0))]),
  (155, Obj.mk (Value.type "super") none (Data.fields #[(.ref 152), (.ref 152), (.ref 152)]) #[]),
  (156, Obj.mk (Value.type "builtin_function_or_method") none (Data.fields #[(Value.builtin "object.__init_subclass__"), (.ref 152)]) #[]),
  (279, Obj.mk (Value.type "tuple") none (Data.seq #[] 0) #[]),
  (280, Obj.mk (Value.type "builtin_function_or_method") none (Data.fields #[(Value.builtin "type.__prepare__"), (Value.type "type")]) #[]),
  (281, Obj.mk (Value.type "dict") none (Data.dict #[(tpEn P "__module__" 683 (.str "termcore.modes" 651)), (tpEn P "__qualname__" 685 (.str "Modes" 684)), (tpEn P "__firstlineno__" 687 (.int 179 686)), (tpEn P "__init__" 695 (.ref 292)), (tpEn P "is_on" 703 (.ref 299)), (tpEn P "set" 713 (.ref 306)), (tpEn P "__static_attributes__" 716 (.ref 307))] 7) #[]),
  (282, Obj.mk (Value.type "tuple") none (Data.seq #[] 0) #[]),
  (283, Obj.mk .none none (Data.fields #[(.int 181 0), (.int 4 0), (.ref 291), (.int 187 0), (.int 4 0), (.ref 298), (.int 190 0), (.int 4 0), (.ref 305)]) #[]),
  (284, Obj.mk (Value.type "code") none (Data.fields #[(.str "Modes" 678), (.str "Modes" 679), (.str "/claim/cut.py" 680), (.int 179 0), (.int 0 0), (.int 0 0), (.int 0 0), (.int 0 0), (.ref 282), (Value.bool false), (.int 181 0), (.ref 283), .none, .none, .none, .none, (.int 681 0), (.int 179 0), (.str "/claim/cut.py" 682)]) #[]),
  (285, Obj.mk (Value.type "frame") none Data.plain #[(some (.ref 284)), (some (.ref 3)), (some (.ref 281)), none, (some (.str "termcore.modes" 651)), none, (some (.ref 0))]),
  (312, Obj.mk (Value.type "super") none (Data.fields #[(.ref 309), (.ref 309), (.ref 309)]) #[]),
  (313, Obj.mk (Value.type "builtin_function_or_method") none (Data.fields #[(Value.builtin "object.__init_subclass__"), (.ref 309)]) #[])]
/-- what stands at an address that the written-out part leaves out: a function's bare record, two places ahead of the function, or an empty cell -/
noncomputable def tpGap (a : Nat) : List (Nat × Obj) → Obj
  | (b, _) :: (_, ⟨_, _, .func f, _⟩) :: _ => match Nat.beq b (Nat.succ a) with
    | true => ⟨.none, none, .func ⟨f.name, f.qualname, f.params, f.body, f.scope, 0, [], .none, .none, .none, .none, none, .none, .none, 0⟩, #[]⟩
    | false => ⟨.none, none, .fields #[], #[]⟩
  | _ => ⟨.none, none, .fields #[], #[]⟩
/-- the objects from the address a on -/
noncomputable def tpFill : Nat → Nat → List (Nat × Obj) → List (Nat × Obj) → List Obj
  | 0, _, _, _ => []
  | n + 1, a, ks, os => match ks with
    | [] => []
    | (b, o) :: ks' => match Nat.beq b a with
      | true => o :: tpFill n (Nat.succ a) ks' os
      | false => match os with
        | [] => tpGap a ks :: tpFill n (Nat.succ a) ks []
        | (c, o') :: os' => match Nat.beq c a with
          | true => o' :: tpFill n (Nat.succ a) ks os'
          | false => tpGap a ks :: tpFill n (Nat.succ a) ks os
noncomputable def tpMain (k : Nat) (nm : Value) : List (Nat × Obj) → Obj
  | _ :: (_, ⟨c, d, .dict es _, sl⟩) :: _ => ⟨c, d, .dict ⟨match es.toList.take k with | e :: r => ⟨e.hash, e.key, nm⟩ :: r | [] => []⟩ k, sl⟩
  | _ => default
noncomputable def tpCodes : List Value := [(.int 1 0), (.int 0 0), (.ref 20), (.int 5 0), (.int 0 0), (.ref 27), (.int 20 0), (.int 0 0), (.ref 34), (.int 22 0), (.int 0 0), (.ref 41), (.int 49 0), (.int 0 0), (.ref 126), (.int 62 0), (.int 0 0), (.ref 162), (.int 64 0), (.int 0 0), (.ref 169), (.int 66 0), (.int 0 0), (.ref 176), (.int 71 0), (.int 0 0), (.ref 183), (.int 76 0), (.int 0 0), (.ref 190), (.int 78 0), (.int 0 0), (.ref 197), (.int 85 0), (.int 0 0), (.ref 204), (.int 91 0), (.int 0 0), (.ref 211), (.int 99 0), (.int 0 0), (.ref 218), (.int 109 0), (.int 0 0), (.ref 225), (.int 113 0), (.int 0 0), (.ref 232), (.int 118 0), (.int 0 0), (.ref 239), (.int 126 0), (.int 0 0), (.ref 246), (.int 137 0), (.int 0 0), (.ref 253), (.int 142 0), (.int 0 0), (.ref 260), (.int 164 0), (.int 0 0), (.ref 267), (.int 175 0), (.int 0 0), (.ref 277), (.int 179 0), (.int 0 0), (.ref 284), (.int 200 0), (.int 0 0), (.ref 356), (.int 204 0), (.int 0 0), (.ref 361), (.int 206 0), (.int 0 0), (.ref 368), (.int 212 0), (.int 0 0), (.ref 375), (.int 217 0), (.int 0 0), (.ref 382), (.int 219 0), (.int 0 0), (.ref 389), (.int 226 0), (.int 0 0), (.ref 396), (.int 228 0), (.int 0 0), (.ref 403), (.int 246 0), (.int 0 0), (.ref 410), (.int 266 0), (.int 0 0), (.ref 415)]
/-- the heap behind a statement of the top: n objects, k names of the top, f rows of its codes -/
noncomputable def tpHeap (K : Params → Frag) (P : Params) (n k f : Nat) (nm : Value) : Heap :=
  ⟨⟨((((boot_heap P).objs.toList ++ tpFill 406 11 ((K P).drop 2) (tpOdds P)).take n).set 3 (tpMain k nm (K P))).set 12 ⟨.none, none, .fields ⟨tpCodes.take f⟩, #[]⟩⟩, (boot_heap P).life⟩
noncomputable abbrev tpAt (K : Params → Frag) (w : World) (os : OsState) (n k f : Nat) (nm : Value) (t : Nat) : Shared := ⟨tpHeap K w.params n k f nm, ⟨[]⟩, boot_drawn, t, os⟩
noncomputable abbrev tpQ : Pos := ⟨0, 0, 0, 0⟩
noncomputable abbrev tpLook (s : Shared) := openSeen vw [Str.ofString "Key"] (importedModules tpProg.main.body) (fun s => xlAt vw [] s && recOk (RowW.records PySem.Challenge.rw_pq1185_01.row.toRowW) s) true s
noncomputable abbrev tpGood := openGood vw [Str.ofString "Key"]
theorem tp_cut : tpBody = tpSts 0 23 ++ (tpSts 23 4 ++ (tpSts 27 16 ++ (tpSts 43 6 ++ (tpSts 49 15 ++ [])))) := by kernel_rfl
theorem tp_run {w : World} {sb sa s0 s1 s2 s3 s4 s5 : Shared} (tp_pre : topGo treeTable tpProg w 11 tpAnno 12 sb (topStub tpProg) = some (sa, ⟨denote treeTable (.body tpBody tpEnv), tpCode, tpQ, [topFrame tpQ]⟩))
    (tp_blk : segRun treeTable tpProg w 11 tpAnno 1 1 sa (blockOf tpBody tpEnv tpCode tpQ [topFrame tpQ]) = some (.next, s0, tpCode, tpQ))
    (h1 : segRun treeTable tpProg w 11 tpAnno 1 413 s0 (piecesOf (tpSts 0 23) tpEnv tpCode ⟨0, 0, 0, 0⟩ [topFrame tpQ]) = some (.next, s1, tpCode, ⟨45, 0, 45, 11⟩))
    (h2 : segRun treeTable tpProg w 11 tpAnno 1 536 s1 (piecesOf (tpSts 23 4) tpEnv tpCode ⟨45, 0, 45, 11⟩ [topFrame tpQ]) = some (.next, s2, tpCode, ⟨49, 0, 61, 60⟩))
    (h3 : segRun treeTable tpProg w 11 tpAnno 1 514 s2 (piecesOf (tpSts 27 16) tpEnv tpCode ⟨49, 0, 61, 60⟩ [topFrame tpQ]) = some (.next, s3, tpCode, ⟨164, 0, 170, 60⟩))
    (h4 : segRun treeTable tpProg w 11 tpAnno 1 371 s3 (piecesOf (tpSts 43 6) tpEnv tpCode ⟨164, 0, 170, 60⟩ [topFrame tpQ]) = some (.next, s4, tpCode, ⟨179, 0, 194, 33⟩))
    (h5 : segRun treeTable tpProg w 11 tpAnno 1 504 s4 (piecesOf (tpSts 49 15) tpEnv tpCode ⟨179, 0, 194, 33⟩ [topFrame tpQ]) = some (.next, s5, tpCode, ⟨266, 0, 279, 15⟩))
    (tp_fin : topRun treeTable tpProg w 11 tpAnno 2 s5 ⟨doneF .next, tpCode, ⟨266, 0, 279, 15⟩, [topFrame tpQ]⟩ = some s5) : topRun treeTable tpProg w 11 tpAnno (12 + (1 + (413 + (536 + (514 + (371 + (504 + (2)))))))) sb (topStub tpProg) = some s5 := by
  refine go_top tp_pre (piece_block tp_blk ?_)
  rw [tp_cut]
  exact piece_app h1 (piece_app h2 (piece_app h3 (piece_app h4 (piece_app h5 (piece_nil tp_fin)))))
theorem tp_pair {α₁ α₂ α₃ α₄ α₅ α₆ α₇ α₈ α₉ : Type} {x y : α₁ × α₂ × α₃ × α₄ × α₅ × α₆ × α₇ × α₈ × α₉} (h1 : x.1 = y.1) (h2 : x.2.1 = y.2.1) (h3 : x.2.2.1 = y.2.2.1) (h4 : x.2.2.2.1 = y.2.2.2.1) (h5 : x.2.2.2.2.1 = y.2.2.2.2.1) (h6 : x.2.2.2.2.2.1 = y.2.2.2.2.2.1) (h7 : x.2.2.2.2.2.2.1 = y.2.2.2.2.2.2.1) (h8 : x.2.2.2.2.2.2.2.1 = y.2.2.2.2.2.2.2.1) (h9 : x.2.2.2.2.2.2.2.2 = y.2.2.2.2.2.2.2.2) : x = y :=
  Prod.ext h1 (Prod.ext h2 (Prod.ext h3 (Prod.ext h4 (Prod.ext h5 (Prod.ext h6 (Prod.ext h7 (Prod.ext h8 h9)))))))
theorem tp_open : ∀ w : World, (fencedOpening treeTable tpProg w 4792).map (fun s => (s.heap, s.gens, s.drawn, s.toks)) = some (boot_heap w.params, ⟨[]⟩, boot_drawn, boot_toks) :=
  boot_open (by kernel_rfl) (by decide) (fun _ => by kernel_rfl)
theorem tp_size (w : World) : ((boot_heap w.params).isNs mainGlobals && (⟨[]⟩ : Array GenState).size == 0, (boot_heap w.params).objs.size, (boot_heap w.params).nsMap mainGlobals "__annotations__") = (true, 11, tpAnno) := by kernel_rfl
theorem road_said : noRoadLSs { strict := !(importedModules PySem.Challenge.rw_pq1185_01.prog.main.body).all cThrough.contains, foot := none, bare := (["vars", "dir", "locals"] : List Str).filter (readsOut PySem.Challenge.rw_pq1185_01.prog PySem.Challenge.rw_pq1185_01.prog.main.body) } PySem.Challenge.rw_pq1185_01.prog.main.body = true := by
  rw [PySem.W.Fast.te8326940854005059898]
  kernel_rfl
theorem meet_said : namesMeet PySem.Challenge.rw_pq1185_01.prog PySem.Challenge.rw_pq1185_01.prog.main.body (fun _ n => attrL n) = true := by
  rw [PySem.W.Fast.te17119622794617984870]
  kernel_rfl
theorem looks_said : looksOpen PySem.Challenge.rw_pq1185_01.prog = true := by
  unfold looksOpen
  rw [road_said, meet_said, PySem.W.Fast.te8377067652309620493, PySem.W.Fast.te18344453789297297638]
  kernel_rfl
theorem looks_said' : PySem.W.Fast.tw12908688711261696721 (PySem.W.Fast.tw2368527892694137696 PySem.Challenge.rw_pq1185_01).prog = true := by
  rw [← PySem.W.Fast.te12908688711261696721]
  exact looks_said
theorem row_said : PySem.W.Fast.tw17960256430627541270 (PySem.W.Fast.tw2368527892694137696 PySem.Challenge.rw_pq1185_01) = true := by
  unfold PySem.W.Fast.tw17960256430627541270 PySem.W.Fast.tw2436336058641802641
  rw [looks_said']
  kernel_rfl
theorem law_said : PySem.Challenge.rw_pq1185_01.wellSaid = true := by
  rw [PySem.W.Fast.te9446332074065402090]
  unfold PySem.W.Fast.tw9446332074065402090
  rw [row_said]
  kernel_rfl
/-- the row holds if its top is as looked at and its call is walked -/
theorem tp_row {H : Hook} {d : DefRec} {kwd : List (Str × Expr)} (hd : defOf vw PySem.Challenge.rw_pq1185_01.row.name = some (d, kwd)) (hp : PySem.Challenge.rw_pq1185_01.row.prog.theDef PySem.Challenge.rw_pq1185_01.row.name = some (d.params, d.body, d.scope)) (hk : kwWritten? d.params.kwonlyargs d.params.kw_defaults = some kwd)
    (said : PySem.Challenge.rw_pq1185_01.row.wellSaid = true) (hw : PySem.Challenge.rw_pq1185_01.row.toRowW.promised)
    (h : LeftO PySem.Challenge.rw_pq1185_01.row.prog vw [Str.ofString "Key"] (fun s => xlAt vw [] s && recOk (RowW.records PySem.Challenge.rw_pq1185_01.row.toRowW) s) H.obs H.val 4792 ∧ WalkO vw [Str.ofString "Key"] (XL vw []) H.says PySem.Challenge.rw_pq1185_01.row.toRowW d kwd fun f vs => PySem.call f vs) : PySem.Challenge.rw_pq1185_01.row.Holds :=
  holds_open h.1 H.of H.keeps (fun s e => xl_of s (Bool.and_eq_true_iff.mp e).1) XL.keeps hd hp hk (fun s e => recFacts_of (Bool.and_eq_true_iff.mp e).2) (by rfl) said (by decide +kernel) ⟨rfl, rfl, rfl, rfl, rfl, by decide +kernel⟩ hw h.2
section
local macro_rules | `(tactic| o_law) => `(tactic| refine holds_law law_said fun said => ?_)
local macro_rules | `(tactic| o_head $H) => `(tactic| (refine tp_row (H := $H) (by rfl) (by rfl) (by rfl) (by assumption) ?hw ?hc))
open_top hd for PySem.Challenge.rw_pq1185_01
end
theorem tp_pre (w : World) (os : OsState) : topGo treeTable tpProg w 11 tpAnno 12 ⟨boot_heap w.params, ⟨[]⟩, boot_drawn, boot_toks, os⟩ (topStub tpProg) = some ((tpAt Mine.hd.heap_1 w os 15 9 0 (.str "__main__" 164) 187), ⟨denote treeTable (.body tpBody tpEnv), tpCode, tpQ, [topFrame tpQ]⟩) := by
  rw [PySem.W.Fast.te15667345088766844465, PySem.W.Fast.te11892475500146522536, PySem.W.Fast.te14364793385576792824]
  kernel_rfl
theorem tp_blk (w : World) (os : OsState) : segRun treeTable tpProg w 11 tpAnno 1 1 (tpAt Mine.hd.heap_1 w os 15 9 0 (.str "__main__" 164) 187) (blockOf tpBody tpEnv tpCode tpQ [topFrame tpQ]) = some (.next, (tpAt Mine.hd.heap_1 w os 15 9 0 (.str "__main__" 164) 187), tpCode, tpQ) := by
  unfold blockOf
  rw [PySem.W.Fast.te14374325043358763698, PySem.W.Fast.te1066825118222455980, PySem.W.Fast.te14364793385576792824]
  kernel_rfl
theorem tp_seg1 (w : World) (os : OsState) : segRun treeTable tpProg w 11 tpAnno 1 413 (tpAt Mine.hd.heap_1 w os 15 9 0 (.str "__main__" 164) 187) (piecesOf (tpSts 0 23) tpEnv tpCode ⟨0, 0, 0, 0⟩ [topFrame tpQ]) = some (.next, (tpAt Mine.hd.heap_1 w os 75 29 12 (.str "termcore.keyboard" 230) 314), tpCode, ⟨45, 0, 45, 11⟩) := by
  unfold piecesOf
  rw [PySem.W.Fast.te14374325043358763698, PySem.W.Fast.te12563942051412417395, PySem.W.Fast.te14364793385576792824]
  kernel_rfl
theorem tp_seg2 (w : World) (os : OsState) : segRun treeTable tpProg w 11 tpAnno 1 536 (tpAt Mine.hd.heap_1 w os 75 29 12 (.str "termcore.keyboard" 230) 314) (piecesOf (tpSts 23 4) tpEnv tpCode ⟨45, 0, 45, 11⟩ [topFrame tpQ]) = some (.next, (tpAt Mine.hd.heap_1 w os 157 33 15 (.str "termcore.keyboard" 230) 490), tpCode, ⟨49, 0, 61, 60⟩) := by
  unfold piecesOf
  rw [PySem.W.Fast.te14374325043358763698, PySem.W.Fast.te12563942051412417395, PySem.W.Fast.te14364793385576792824]
  kernel_rfl
theorem tp_seg3 (w : World) (os : OsState) : segRun treeTable tpProg w 11 tpAnno 1 514 (tpAt Mine.hd.heap_1 w os 157 33 15 (.str "termcore.keyboard" 230) 490) (piecesOf (tpSts 27 16) tpEnv tpCode ⟨49, 0, 61, 60⟩ [topFrame tpQ]) = some (.next, (tpAt Mine.hd.heap_1 w os 269 49 63 (.str "termcore.keyboard" 230) 651), tpCode, ⟨164, 0, 170, 60⟩) := by
  unfold piecesOf
  rw [PySem.W.Fast.te14374325043358763698, PySem.W.Fast.te12563942051412417395, PySem.W.Fast.te14364793385576792824]
  kernel_rfl
theorem tp_seg4 (w : World) (os : OsState) : segRun treeTable tpProg w 11 tpAnno 1 371 (tpAt Mine.hd.heap_1 w os 269 49 63 (.str "termcore.keyboard" 230) 651) (piecesOf (tpSts 43 6) tpEnv tpCode ⟨164, 0, 170, 60⟩ [topFrame tpQ]) = some (.next, (tpAt Mine.hd.heap_1 w os 314 54 69 (.str "termcore.modes" 651) 724), tpCode, ⟨179, 0, 194, 33⟩) := by
  unfold piecesOf
  rw [PySem.W.Fast.te14374325043358763698, PySem.W.Fast.te12563942051412417395, PySem.W.Fast.te14364793385576792824]
  kernel_rfl
theorem tp_seg5 (w : World) (os : OsState) : segRun treeTable tpProg w 11 tpAnno 1 504 (tpAt Mine.hd.heap_1 w os 314 54 69 (.str "termcore.modes" 651) 724) (piecesOf (tpSts 49 15) tpEnv tpCode ⟨179, 0, 194, 33⟩ [topFrame tpQ]) = some (.next, (tpAt Mine.hd.heap_1 w os 417 68 99 (.str "law_pq1185_01" 724) 902), tpCode, ⟨266, 0, 279, 15⟩) := by
  unfold piecesOf
  rw [PySem.W.Fast.te14374325043358763698, PySem.W.Fast.te12563942051412417395, PySem.W.Fast.te14364793385576792824]
  kernel_rfl
theorem tp_fin (w : World) (os : OsState) : topRun treeTable tpProg w 11 tpAnno 2 (tpAt Mine.hd.heap_1 w os 417 68 99 (.str "law_pq1185_01" 724) 902) ⟨doneF .next, tpCode, ⟨266, 0, 279, 15⟩, [topFrame tpQ]⟩ = some (tpAt Mine.hd.heap_1 w os 417 68 99 (.str "law_pq1185_01" 724) 902) := by
  rw [PySem.W.Fast.te14082659384304107361, PySem.W.Fast.te14364793385576792824]
  kernel_rfl
theorem tp_laid (w : World) (os : OsState) : (staticsOk (importedModules tpProg.main.body) (boot_heap w.params) (tpAt Mine.hd.heap_1 w os 417 68 99 (.str "law_pq1185_01" 724) 902).heap && namesBound tpProg (tpAt Mine.hd.heap_1 w os 417 68 99 (.str "law_pq1185_01" 724) 902).heap && gensDone (tpAt Mine.hd.heap_1 w os 417 68 99 (.str "law_pq1185_01" 724) 902) && laidKept (boot_heap w.params) (tpAt Mine.hd.heap_1 w os 417 68 99 (.str "law_pq1185_01" 724) 902).heap) = true := by
  kernel_rfl
theorem tp_look1 (w : World) (os : OsState) : (tpLook (tpAt Mine.hd.heap_1 w os 417 68 99 (.str "law_pq1185_01" 724) 902)).1 = tpGood.1 := by
  unfold tpLook tpGood openGood
  rw [PySem.W.Fast.te4187177175401517315]
  unfold PySem.W.Fast.tw4187177175401517315
  dsimp only
  kernel_rfl
theorem tp_look2 (w : World) (os : OsState) : (tpLook (tpAt Mine.hd.heap_1 w os 417 68 99 (.str "law_pq1185_01" 724) 902)).2.1 = tpGood.2.1 := by
  unfold tpLook tpGood openGood
  rw [PySem.W.Fast.te4187177175401517315]
  unfold PySem.W.Fast.tw4187177175401517315
  dsimp only
  kernel_rfl
theorem tp_look3 (w : World) (os : OsState) : (tpLook (tpAt Mine.hd.heap_1 w os 417 68 99 (.str "law_pq1185_01" 724) 902)).2.2.1 = tpGood.2.2.1 := by
  unfold tpLook tpGood openGood
  rw [PySem.W.Fast.te4187177175401517315]
  unfold PySem.W.Fast.tw4187177175401517315
  dsimp only
  kernel_rfl
theorem tp_look4 (w : World) (os : OsState) : (tpLook (tpAt Mine.hd.heap_1 w os 417 68 99 (.str "law_pq1185_01" 724) 902)).2.2.2.1 = tpGood.2.2.2.1 := by
  unfold tpLook tpGood openGood
  rw [PySem.W.Fast.te4187177175401517315]
  unfold PySem.W.Fast.tw4187177175401517315
  dsimp only
  kernel_rfl
theorem tp_look5 (w : World) (os : OsState) : (tpLook (tpAt Mine.hd.heap_1 w os 417 68 99 (.str "law_pq1185_01" 724) 902)).2.2.2.2.1 = tpGood.2.2.2.2.1 := by
  unfold tpLook tpGood openGood
  rw [PySem.W.Fast.te4187177175401517315]
  unfold PySem.W.Fast.tw4187177175401517315
  dsimp only
  kernel_rfl
theorem tp_look6 (w : World) (os : OsState) : (tpLook (tpAt Mine.hd.heap_1 w os 417 68 99 (.str "law_pq1185_01" 724) 902)).2.2.2.2.2.1 = tpGood.2.2.2.2.2.1 := by
  unfold tpLook tpGood openGood
  rw [PySem.W.Fast.te4187177175401517315]
  unfold PySem.W.Fast.tw4187177175401517315
  dsimp only
  kernel_rfl
theorem tp_look7 (w : World) (os : OsState) : (tpLook (tpAt Mine.hd.heap_1 w os 417 68 99 (.str "law_pq1185_01" 724) 902)).2.2.2.2.2.2.1 = tpGood.2.2.2.2.2.2.1 := by
  unfold tpLook tpGood openGood
  rw [PySem.W.Fast.te4187177175401517315]
  unfold PySem.W.Fast.tw4187177175401517315
  dsimp only
  kernel_rfl
theorem tp_look8 (w : World) (os : OsState) : (tpLook (tpAt Mine.hd.heap_1 w os 417 68 99 (.str "law_pq1185_01" 724) 902)).2.2.2.2.2.2.2.1 = tpGood.2.2.2.2.2.2.2.1 := by
  unfold tpLook tpGood openGood
  rw [PySem.W.Fast.te4187177175401517315]
  unfold PySem.W.Fast.tw4187177175401517315
  dsimp only
  kernel_rfl
theorem tp_look9 (w : World) (os : OsState) : (tpLook (tpAt Mine.hd.heap_1 w os 417 68 99 (.str "law_pq1185_01" 724) 902)).2.2.2.2.2.2.2.2 = tpGood.2.2.2.2.2.2.2.2 := by
  unfold tpLook tpGood openGood
  rw [PySem.W.Fast.te4187177175401517315]
  unfold PySem.W.Fast.tw4187177175401517315
  dsimp only
  kernel_rfl
theorem tp_held (w : World) (os : OsState) : ((Mine.hd.heap_1 w.params).map (·.1)).map (tpAt Mine.hd.heap_1 w os 417 68 99 (.str "law_pq1185_01" 724) 902).heap.get? = (Mine.hd.heap_1 w.params).map fun p => some p.2 := by
  kernel_rfl
theorem tp_left {as : List Addr} {e : ∀ P, as = (Mine.hd.heap_1 P).map (·.1)} : LeftO PySem.Challenge.rw_pq1185_01.row.prog vw [Str.ofString "Key"] (fun s => xlAt vw [] s && recOk (RowW.records PySem.Challenge.rw_pq1185_01.row.toRowW) s) (Hook.obs (kHook Mine.hd.heap_1 as e)) (Hook.val (kHook Mine.hd.heap_1 as e)) 4792 := by
  refine LeftO.of_pieces (H₀ := boot_heap) (H₁ := fun P => tpHeap Mine.hd.heap_1 P 417 68 99 (.str "law_pq1185_01" 724)) (gs₀ := ⟨[]⟩) (gs₁ := ⟨[]⟩) (d₀ := boot_drawn) (d₁ := boot_drawn) (k₀ := boot_toks) (k₁ := 902) (m₀ := 11) (ann := tpAnno) (M := 12 + (1 + (413 + (536 + (514 + (371 + (504 + (2)))))))) tp_open tp_size (fun w os => tp_run (tp_pre w os) (tp_blk w os) (tp_seg1 w os) (tp_seg2 w os) (tp_seg3 w os) (tp_seg4 w os) (tp_seg5 w os) (tp_fin w os)) (by decide) (fun w => funext fun os => looks_pair (tp_laid w os) (looks_pair (tp_pair (tp_look1 w os) (tp_look2 w os) (tp_look3 w os) (tp_look4 w os) (tp_look5 w os) (tp_look6 w os) (tp_look7 w os) (tp_look8 w os) (tp_look9 w os)) ?_))
  exact (congrArg (List.map (tpAt Mine.hd.heap_1 w os 417 68 99 (.str "law_pq1185_01" 724) 902).heap.get?) (e w.params)).trans (tp_held w os)
theorem tp_of {A B C : Prop} (h : A ∧ B → C) (a : A) : B → C := fun b => h ⟨a, b⟩
end Mine
section
open PySem.Calls
namespace Mine
open Builtin
theorem bj_slot : Slot "bytes" "join" "bytes.join" :=
  .of (owner := "bytes") (n := "join") (by rw [typeLookup_type, builtinLookup_eq_fast]; kernel_rfl) (by decide +kernel) (by decide +kernel) (by decide +kernel)
    (by first | exact .inl (by decide +kernel) | exact .inr (by decide +kernel)) (by rw [isSubtype_type]; kernel_rfl)
theorem bj_type : typeOf (.builtin "bytes.join") = pure (.type "method_descriptor") := by show builtinType _ = _; rw [builtinType_eq_fast]; kernel_rfl
theorem bj_entry : entryFor table "bytes.join" = some Builtin.«bytes.join» := entryFor_of_tree (by kernel_rfl)
theorem bj_args (a b : Value) : argsOk "bytes.join" ⟨[a, b], []⟩ := by
  unfold argsOk; rw [signature?_of (id := "bytes.join") (n := ['n', 'i', 'o', 'j']) (o := ['s', 'e', 't', 'y', 'b']) (by kernel_rfl) FB.owner_bytes]; kernel_rfl
theorem bj_take {id : String} {b : Array UInt8} {t : Tok} : Bytes.takeBufferQuiet? id (.bytes b t) 0 = pure (some (b, none)) := by
  unfold Bytes.takeBufferQuiet? Bytes.takeBuffer?
  have e : ((0 : Int) == Bytes.fullReadOnly) = false := by decide +kernel
  rw [KBy.special_eq KBy.look_buffer, KBy.own_buffer, e, KBy.buffer_eq]
  kernel_rfl
theorem bj_pay {b : Array UInt8} {t : Tok} : Bytes.payload (.bytes b t) = pure b := rfl
theorem bj_self {a b : Value} {id : String} : selfAndOne id ⟨[a, b], []⟩ = pure (a, b) := rfl
theorem bj_seq {M : Model} {A : Around} {E : Value → Shared → Prop} {s : Shared} {l : Addr} {xs : Array Value} {Q : Option (Array Value) → Shared → Prop} (hl : s.heap.IsList l xs) (h : Q (some xs) s) :
    wpAny M A (seqItems? (.ref l)) Q E s := by
  obtain ⟨o, ho, hc, n, hd⟩ := hl
  unfold seqItems?
  refine wpAny_bind (wpAny_load ho ?_)
  rw [hd]
  exact wpAny_pure h
theorem bj_items {M : Model} {A : Around} {E : Value → Shared → Prop} {s : Shared} {l : Addr} {xs : Array Value} {Q : Value → Shared → Prop} (hl : s.heap.IsList l xs) (h : Q (.ref l) s) :
    wpAny M A (Bytes.joinItems (.ref l)) Q E s := by
  unfold Bytes.joinItems
  obtain ⟨o, ho, hc, n, hd⟩ := hl
  refine wpAny_bind (wpAny_typeOf (T := "list") ⟨o, ho, hc⟩ ?_)
  refine wpAny_ite ?_
  rw [if_pos (by decide)]
  exact wpAny_pure h

theorem bj_range {β : Type} (n : Nat) (b : β) (f : Nat → β → Sem (ForInStep β)) : forIn [:n] b f = forIn (List.range' 0 n 1) b f := by
  rw [Std.Legacy.Range.forIn_eq_forIn_range']
  have hsz : ([:n] : Std.Legacy.Range).size = n := by simp [Std.Legacy.Range.size]
  show forIn (List.range' 0 ([:n] : Std.Legacy.Range).size 1) b f = _
  rw [hsz]
theorem bj_turn {M : Model} {A : Around} {E : Value → Shared → Prop} {s : Shared} {β : Type} {l : List Nat} {x : Nat} {b : β} {f : Nat → β → Sem (ForInStep β)} {Q : β → Shared → Prop}
    (h : wpAny M A (f x b) (fun r s' => match r with | .done b' => Q b' s' | .yield b' => wpAny M A (forIn l b' f) Q E s') E s) : wpAny M A (forIn (x :: l) b f) Q E s := by
  rw [List.forIn_cons]
  refine wpAny_bind (wpAny_mono h (fun r s' hr => ?_) fun _ _ e => e)
  cases r with
  | done b' => exact wpAny_pure hr
  | yield b' => exact hr
theorem bj_no {α : Type} {M : Model} {A : Around} {E : Value → Shared → Prop} {s : Shared} {c : Bool} {a b : Sem α} {Q : α → Shared → Prop} (hc : c = false) (h : wpAny M A b Q E s) : wpAny M A (if c = true then a else b) Q E s := by
  subst hc
  exact h
theorem bj_go {M : Model} {A : Around} {E : Value → Shared → Prop} {s : Shared} {Q : Unit → Shared → Prop} {keep : List Value} (h : Q () s) : ∀ taken : List (Value × Option Value), (∀ p ∈ taken, p.2 = none) → wpAny M A (Bytes.joinLetGo taken keep) Q E s
  | [], _ => by
    unfold Bytes.joinLetGo
    exact wpAny_pure h
  | (x, none) :: r, hp => by
    unfold Bytes.joinLetGo
    dsimp only
    refine wpAny_bind (wpAny_letGo ?_)
    exact bj_go h r fun p hm => hp p (List.mem_cons_of_mem _ hm)
  | (x, some _) :: r, hp => nomatch hp _ (List.mem_cons_self ..)
theorem meets_join2 (sep x y : Array UInt8) (t tx ty : Tok) (l : Addr) (hz : sep.size + x.size + y.size ≤ 16777216) :
    Meets («bytes.join» ⟨[.bytes sep t, .ref l], []⟩) (fun _ R s => s.heap.IsList l #[.bytes x tx, .bytes y ty] ∧ ∀ t' k, R (.ok (.ret (.bytes (x ++ sep ++ y) t'))) { s with toks := k }) := by
  refine .of_wp fun prog w A R s hS => ?_
  obtain ⟨hl, h⟩ := hS
  show wpAny _ _ (Bytes.joinM .bytes ⟨[.bytes sep t, .ref l], []⟩) _ _ s
  unfold Bytes.joinM
  refine wpAny_bind (wpAny_of_eq bj_self ?_)
  dsimp only
  refine wpAny_bind (bj_items hl ?_)
  refine wpAny_bind (bj_seq hl ?_)
  dsimp only
  refine wpAny_ite ?_
  rw [if_pos (by decide)]
  show wpAny _ _ (forIn [:2] _ _ >>= fun r => _) _ _ s
  refine wpAny_bind ?_
  rw [bj_range]
  show wpAny _ _ (forIn [0, 1] _ _) _ _ s
  iterate 2
    refine bj_turn ?_
    refine wpAny_bind (bj_seq hl ?_)
    dsimp only
    refine bj_no (by rfl) ?_
    refine wpAny_bind (wpAny_holding (wpAny_of_eq bj_take ?_))
    dsimp only
    refine wpAny_bind (bj_seq hl ?_)
    dsimp only
    refine bj_no (by rfl) ?_
    refine wpAny_pure ?_
    dsimp only
  rw [List.forIn_nil]
  refine wpAny_pure ?_
  refine wpAny_bind (wpAny_of_eq bj_pay ?_)
  refine bj_no ?_ ?_
  · unfold Bytes.tooLong
    rw [sizeLine_eq]
    refine decide_eq_false ?_
    simp <;> omega
  have hj : Bytes.joined sep [x, y] = x ++ sep ++ y := by simp [Bytes.joined, List.zipIdx]
  refine wpAny_bind ?_
  show wpAny _ _ (mkBytes (Bytes.joined sep [x, y])) _ _ s
  rw [hj]
  refine wpAny_mkBytes ?_ (by rw [sizeLine_eq]; simp <;> omega)
  refine wpAny_bind (wpAny_holding (wpAny_point ?_))
  refine wpAny_bind (bj_go ?_ _ (by simp))
  exact wpAny_pure ⟨_, rfl, h _ _⟩
theorem meets_join3 (sep x y z : Array UInt8) (t tx ty tz : Tok) (l : Addr) (hz : sep.size + sep.size + x.size + y.size + z.size ≤ 16777216) :
    Meets («bytes.join» ⟨[.bytes sep t, .ref l], []⟩) (fun _ R s => s.heap.IsList l #[.bytes x tx, .bytes y ty, .bytes z tz] ∧ ∀ t' k, R (.ok (.ret (.bytes (x ++ sep ++ y ++ sep ++ z) t'))) { s with toks := k }) := by
  refine .of_wp fun prog w A R s hS => ?_
  obtain ⟨hl, h⟩ := hS
  show wpAny _ _ (Bytes.joinM .bytes ⟨[.bytes sep t, .ref l], []⟩) _ _ s
  unfold Bytes.joinM
  refine wpAny_bind (wpAny_of_eq bj_self ?_)
  dsimp only
  refine wpAny_bind (bj_items hl ?_)
  refine wpAny_bind (bj_seq hl ?_)
  dsimp only
  refine wpAny_ite ?_
  rw [if_pos (by decide)]
  show wpAny _ _ (forIn [:3] _ _ >>= fun r => _) _ _ s
  refine wpAny_bind ?_
  rw [bj_range]
  show wpAny _ _ (forIn [0, 1, 2] _ _) _ _ s
  iterate 3
    refine bj_turn ?_
    refine wpAny_bind (bj_seq hl ?_)
    dsimp only
    refine bj_no (by rfl) ?_
    refine wpAny_bind (wpAny_holding (wpAny_of_eq bj_take ?_))
    dsimp only
    refine wpAny_bind (bj_seq hl ?_)
    dsimp only
    refine bj_no (by rfl) ?_
    refine wpAny_pure ?_
    dsimp only
  rw [List.forIn_nil]
  refine wpAny_pure ?_
  refine wpAny_bind (wpAny_of_eq bj_pay ?_)
  refine bj_no ?_ ?_
  · unfold Bytes.tooLong
    rw [sizeLine_eq]
    refine decide_eq_false ?_
    simp <;> omega
  have hj : Bytes.joined sep [x, y, z] = x ++ sep ++ y ++ sep ++ z := by simp [Bytes.joined, List.zipIdx]
  refine wpAny_bind ?_
  show wpAny _ _ (mkBytes (Bytes.joined sep [x, y, z])) _ _ s
  rw [hj]
  refine wpAny_mkBytes ?_ (by rw [sizeLine_eq]; simp <;> omega)
  refine wpAny_bind (wpAny_holding (wpAny_point ?_))
  refine wpAny_bind (bj_go ?_ _ (by simp))
  exact wpAny_pure ⟨_, rfl, h _ _⟩
theorem meets_join0 (sep  : Array UInt8) (t  : Tok) (l : Addr) (hz : sep.size ≤ 16777216) :
    Meets («bytes.join» ⟨[.bytes sep t, .ref l], []⟩) (fun _ R s => s.heap.IsList l #[] ∧ ∀ t' k, R (.ok (.ret (.bytes (#[]) t'))) { s with toks := k }) := by
  refine .of_wp fun prog w A R s hS => ?_
  obtain ⟨hl, h⟩ := hS
  show wpAny _ _ (Bytes.joinM .bytes ⟨[.bytes sep t, .ref l], []⟩) _ _ s
  unfold Bytes.joinM
  refine wpAny_bind (wpAny_of_eq bj_self ?_)
  dsimp only
  refine wpAny_bind (bj_items hl ?_)
  refine wpAny_bind (bj_seq hl ?_)
  dsimp only
  refine wpAny_ite ?_
  rw [if_pos (by decide)]
  show wpAny _ _ (forIn [:0] _ _ >>= fun r => _) _ _ s
  refine wpAny_bind ?_
  rw [bj_range]
  show wpAny _ _ (forIn [] _ _) _ _ s
  rw [List.forIn_nil]
  refine wpAny_pure ?_
  refine wpAny_bind (wpAny_of_eq bj_pay ?_)
  refine bj_no ?_ ?_
  · unfold Bytes.tooLong
    rw [sizeLine_eq]
    refine decide_eq_false ?_
    simp <;> omega
  have hj : Bytes.joined sep [] = #[] := by simp [Bytes.joined, List.zipIdx]
  refine wpAny_bind ?_
  show wpAny _ _ (mkBytes (Bytes.joined sep [])) _ _ s
  rw [hj]
  refine wpAny_mkBytes ?_ (by rw [sizeLine_eq]; simp <;> omega)
  refine wpAny_bind (wpAny_holding (wpAny_point ?_))
  refine wpAny_bind (bj_go ?_ _ (by simp))
  exact wpAny_pure ⟨_, rfl, h _ _⟩

theorem meets_join1 (sep x : Array UInt8) (t tx : Tok) (l : Addr) :
    Meets («bytes.join» ⟨[.bytes sep t, .ref l], []⟩) (fun _ R s => s.heap.IsList l #[.bytes x tx] ∧ R (.ok (.ret (.bytes x tx))) s) := by
  refine .of_wp fun prog w A R s hS => ?_
  obtain ⟨hl, h⟩ := hS
  show wpAny _ _ (Bytes.joinM .bytes ⟨[.bytes sep t, .ref l], []⟩) _ _ s
  unfold Bytes.joinM
  refine wpAny_bind (wpAny_of_eq bj_self ?_)
  dsimp only
  refine wpAny_bind (bj_items hl ?_)
  refine wpAny_bind (bj_seq hl ?_)
  dsimp only
  refine wpAny_ite ?_
  rw [if_pos (by decide)]
  refine wpAny_bind (wpAny_typeOf (typeIs_bytes _ _ _) ?_)
  refine wpAny_ite ?_
  rw [if_pos (by decide)]
  refine wpAny_bind (wpAny_rule ?_)
  exact wpAny_bind (wpAny_pure (wpAny_pure ⟨_, rfl, h⟩))
section
variable {prog : Program} {w : World} {A : Around} {E : Value → Shared → Prop} {s : Shared} {sep x y z : Array UInt8} {t tx ty tz : Tok} {l : Addr} {Q : Value → Shared → Prop}
theorem join0 (hl : s.heap.IsList l #[]) (hz : sep.size ≤ 16777216) (h : ∀ t' k, Q (.bytes #[] t') { s with toks := k }) : wpAny (model prog w) A (call (.builtin "bytes.join") [.bytes sep t, .ref l]) Q E s :=
  call_meets bj_slot (typeIs_bytes _ _ _) bj_entry (bj_args _ _) (meets_join0 sep t l hz) ⟨hl, h⟩
theorem join1 (hl : s.heap.IsList l #[.bytes x tx]) (h : ∀ t' k, Q (.bytes x t') { s with toks := k }) : wpAny (model prog w) A (call (.builtin "bytes.join") [.bytes sep t, .ref l]) Q E s :=
  call_meets bj_slot (typeIs_bytes _ _ _) bj_entry (bj_args _ _) (meets_join1 sep x t tx l) ⟨hl, h tx s.toks⟩
theorem join2 (hl : s.heap.IsList l #[.bytes x tx, .bytes y ty]) (hz : sep.size + x.size + y.size ≤ 16777216) (h : ∀ t' k, Q (.bytes (x ++ sep ++ y) t') { s with toks := k }) : wpAny (model prog w) A (call (.builtin "bytes.join") [.bytes sep t, .ref l]) Q E s :=
  call_meets bj_slot (typeIs_bytes _ _ _) bj_entry (bj_args _ _) (meets_join2 sep x y t tx ty l hz) ⟨hl, h⟩
theorem join3 (hl : s.heap.IsList l #[.bytes x tx, .bytes y ty, .bytes z tz]) (hz : sep.size + sep.size + x.size + y.size + z.size ≤ 16777216) (h : ∀ t' k, Q (.bytes (x ++ sep ++ y ++ sep ++ z) t') { s with toks := k }) : wpAny (model prog w) A (call (.builtin "bytes.join") [.bytes sep t, .ref l]) Q E s :=
  call_meets bj_slot (typeIs_bytes _ _ _) bj_entry (bj_args _ _) (meets_join3 sep x y z t tx ty tz l hz) ⟨hl, h⟩
theorem join_meth {M : Model} {pl : Sem Bool} {R : Value × List Value → Shared → Prop} (h : R (.builtin "bytes.join", [.bytes sep t]) s) : wpAny M A (getMethod (.bytes sep t) "join" pl) R E s := by
  with_reducible exact KBd.method_of (.bytes sep t) (typeIs_bytes _ _ _) bj_slot bj_type KBd.noRef h
end
end Mine
end
namespace Mine
abbrev Led := List (Addr × Obj)
abbrev BA := Array UInt8
abbrev Mean := ExcName → Option Value
abbrev SMap := Str → Option Value
/-- a call of the def at f gives, without raising, a value of which R holds; the ledger is as it was -/
def Tri (w : World) (mean : Mean) (mg mb : SMap) (d : Nat) (f : Addr) (vs : List Value) (news : Led) (R : Value → Prop) : Prop :=
  ∀ (dp un : Nat) (gd : Option (List Code)) (cn : Str) (cs : Scope) (a : Addr) (ccd : Value) (cl : List (Str × Addr)) (outer : List Env) (A₀ : Around) (base h₀ : Heap) (L : Addr) (m : Str → Option Value) (s : Shared) (Q E : Value → Shared → Prop),
    Below A₀ base outer h₀ → Fr h₀ L s.heap m → (Mine.hd.heap_1 w.params).In h₀ → News h₀ L s.heap news → Top Mine.vw (looseW Mine.vw [Str.ofString "Key"]) mean mg mb h₀ → cs.kind = .function →
    dp + d < recursionLimit → un + 8 * d < cLine →
    (∀ r h' tk', R r → Fr h₀ L h' m → News h₀ L h' news → Q r { s with heap := h', toks := tk' }) →
    wpAny (model PySem.Challenge.rw_pq1185_01.row.prog w) (ktrTop dp un gd cn cs L a ccd cl outer) (call (.ref f) vs) Q E s
section
variable {w : World} {mean : Mean} {mg mb : SMap} {d : Nat} {f : Addr} {vs : List Value} {news : Led} {R : Value → Prop}
  {dp un : Nat} {gd : Option (List Code)} {cn : Str} {cs : Scope} {a : Addr} {ccd : Value} {cl : List (Str × Addr)} {outer : List Env} {A₀ : Around} {base h₀ : Heap} {L : Addr} {m : Str → Option Value} {s : Shared} {Q E : Value → Shared → Prop}
theorem Tri.use (C : Tri w mean mg mb d f vs news R) (B : Below A₀ base outer h₀) (F : Fr h₀ L s.heap m) (X : (Mine.hd.heap_1 w.params).In h₀) (N : News h₀ L s.heap news)
    (T : Top Mine.vw (looseW Mine.vw [Str.ofString "Key"]) mean mg mb h₀) (hk : cs.kind = .function) (hd : dp + d < recursionLimit) (hu : un + 8 * d < cLine)
    (hret : ∀ r h' tk', R r → Fr h₀ L h' m → News h₀ L h' news → Q r { s with heap := h', toks := tk' }) :
    wpAny (model PySem.Challenge.rw_pq1185_01.row.prog w) (ktrTop dp un gd cn cs L a ccd cl outer) (call (.ref f) vs) Q E s :=
  C _ _ _ _ _ _ _ _ _ _ _ _ _ _ _ _ _ B F X N T hk hd hu hret
end
/-- bytes, with a bound on their number -/
def IsB (b : BA) (n : Nat) (r : Value) : Prop := b.size ≤ n ∧ ∃ t, r = .bytes b t
def IsI (i : Int) (r : Value) : Prop := ∃ t, r = .int i t
def IsO (i : Option Int) (r : Value) : Prop := match i with | some i => ∃ t, r = .int i t | none => r = .none
def IsT (b : Bool) (r : Value) : Prop := r = .bool b
theorem whl_split {p : Prop} [Decidable p] {T F : Prop} (t : p → T) (f : ¬ p → F) : WhlIf (decide p) T F := by
  by_cases h : p
  · exact WhlIf.yes (decide_eq_true h) (t h)
  · exact WhlIf.no (decide_eq_false h) (f h)
theorem fd10 (x : Int) : x.fdiv 10 = x / 10 := Int.fdiv_eq_ediv_of_nonneg x (by decide)
theorem fm10 (x : Int) : x.fmod 10 = x % 10 := Int.fmod_eq_emod_of_nonneg x (by decide)
theorem fd64 (x : Int) : x.fdiv 64 = x / 64 := Int.fdiv_eq_ediv_of_nonneg x (by decide)
theorem fm64 (x : Int) : x.fmod 64 = x % 64 := Int.fmod_eq_emod_of_nonneg x (by decide)
theorem fd4096 (x : Int) : x.fdiv 4096 = x / 4096 := Int.fdiv_eq_ediv_of_nonneg x (by decide)
theorem fd2 (x : Int) : x.fdiv 2 = x / 2 := Int.fdiv_eq_ediv_of_nonneg x (by decide)
theorem fm2 (x : Int) : x.fmod 2 = x % 2 := Int.fmod_eq_emod_of_nonneg x (by decide)
theorem fd4 (x : Int) : x.fdiv 4 = x / 4 := Int.fdiv_eq_ediv_of_nonneg x (by decide)
theorem fm4 (x : Int) : x.fmod 4 = x % 4 := Int.fmod_eq_emod_of_nonneg x (by decide)
theorem fd8 (x : Int) : x.fdiv 8 = x / 8 := Int.fdiv_eq_ediv_of_nonneg x (by decide)
theorem fd16 (x : Int) : x.fdiv 16 = x / 16 := Int.fdiv_eq_ediv_of_nonneg x (by decide)
theorem fm32 (x : Int) : x.fmod 32 = x % 32 := Int.fmod_eq_emod_of_nonneg x (by decide)
def decL (n : Int) : List Int :=
  if n < 10 then [48 + n % 10] else if n < 100 then [48 + n / 10 % 10, 48 + n % 10] else if n < 1000 then [48 + n / 10 / 10 % 10, 48 + n / 10 % 10, 48 + n % 10]
  else if n < 10000 then [48 + n / 10 / 10 / 10 % 10, 48 + n / 10 / 10 % 10, 48 + n / 10 % 10, 48 + n % 10]
  else [48 + n / 10 / 10 / 10 / 10 % 10, 48 + n / 10 / 10 / 10 % 10, 48 + n / 10 / 10 % 10, 48 + n / 10 % 10, 48 + n % 10]
def decB (n : Int) : BA := byteArr (decL n)
theorem decB_size (n : Int) : (decB n).size ≤ 5 := by
  unfold decB decL
  rw [byteArr_size]
  split
  · simp
  · split
    · simp
    · split
      · simp
      · split <;> simp
end Mine
namespace Mine
theorem IsT.out {b : Bool} {r : Value} (h : IsT b r) : r = .bool b := h
end Mine
namespace Mine
def CodeOk (n : Int) : Prop := n = 97 ∨ n = 122 ∨ n = 109 ∨ n = 65 ∨ n = 90 ∨ n = 77 ∨ n = 48 ∨ n = 233 ∨ n = 12354 ∨ n = 33
theorem CodeOk.lo {n : Int} (h : CodeOk n) : 0 ≤ n := by
  rcases h with e | e | e | e | e | e | e | e | e | e <;> (subst e; decide)
theorem CodeOk.hi {n : Int} (h : CodeOk n) : n < 55296 := by
  rcases h with e | e | e | e | e | e | e | e | e | e <;> (subst e; decide)
def sigB (n : Int) : BA := if n < 128 then byteArr [n] else if n < 2048 then byteArr [192 + n / 64, 128 + n % 64] else byteArr [224 + n / 4096, 128 + n / 64 % 64, 128 + n % 64]
theorem sigB_size (n : Int) : (sigB n).size ≤ 3 := by
  unfold sigB
  split
  · simp [byteArr_size]
  · split <;> simp [byteArr_size]
end Mine
namespace Mine
theorem allLt_at {d : Addr} : ∀ {l : List (Addr × Obj)}, AllLt d l → ∀ p ∈ l, p.1 < d := by
  intro l
  induction l with
  | nil => intro _ p hp; exact absurd hp List.not_mem_nil
  | cons x r ih =>
    intro h p hp
    rcases List.mem_cons.mp hp with e | e
    · rw [e]; exact h.1
    · exact ih h.2 p e
theorem unr_end {h₀ h' : Heap} {L I : Addr} {s₁ : Shared} {tk : Nat} {o : Obj} {m' : Str → Option Value} {news : List (Addr × Obj)} {rest : (Str → Option Value) → List (Addr × Obj) → Prop} (F : Fr h₀ L h' m') (N : News h₀ L h' ((I, o) :: news)) (lt : AllLt I news) (r : rest m' news) :
    UnrEndW h₀ L s₁ [(I, o)] (fun m n => SubL [] n ∧ rest m n) { s₁ with heap := h', toks := tk } := by
  refine ⟨h', tk, m', news, rfl, F, N, ?_, trivial, r⟩
  intro p hp q hq
  rw [List.mem_singleton.mp hq]
  exact Nat.ne_of_lt (allLt_at lt p hp)
end Mine
namespace Mine
theorem IsO.split {o : Option Int} {r : Value} (h : IsO o r) {P : Prop} (hn : o = none → r = .none → P) (hs : ∀ i t, o = some i → r = .int i t → P) : P := by
  cases o with
  | none => exact hn rfl h
  | some i => obtain ⟨t, e⟩ := h; exact hs i t rfl e
def numOf : List (BA × Int) → BA → Option Int
  | [], _ => none
  | (k, v) :: r, nm => if (k.toList == nm.toList) = true then some v else numOf r nm
def rowsL : List (BA × Int) := [(#[85, 112], 65), (#[68, 111, 119, 110], 66), (#[82, 105, 103, 104, 116], 67), (#[76, 101, 102, 116], 68), (#[69, 110, 100], 70), (#[72, 111, 109, 101], 72), (#[70, 49], 80), (#[70, 50], 81), (#[70, 51], 82), (#[70, 52], 83)]
def rowsN : List (BA × Int) := [(#[73, 110, 115, 101, 114, 116], 2), (#[68, 101, 108, 101, 116, 101], 3), (#[80, 97, 103, 101, 85, 112], 5), (#[80, 97, 103, 101, 68, 111, 119, 110], 6), (#[70, 53], 15), (#[70, 54], 17), (#[70, 55], 18), (#[70, 56], 19), (#[70, 57], 20), (#[70, 49, 48], 21), (#[70, 49, 49], 23), (#[70, 49, 50], 24), (#[70, 49, 51], 25), (#[70, 49, 52], 26), (#[70, 49, 53], 28), (#[70, 49, 54], 29), (#[70, 49, 55], 31), (#[70, 49, 56], 32), (#[70, 49, 57], 33), (#[70, 50, 48], 34)]
def rowsC : List (BA × Int) := [(#[84, 97, 98], 9), (#[69, 110, 116, 101, 114], 13), (#[69, 115, 99, 97, 112, 101], 27), (#[66, 83, 112, 97, 99, 101], 127)]
/-- the keypad's rows: name, final, plain, code -/
def padOf : List (BA × Int × Int × Int) → BA → Option (Int × Int × Int)
  | [], _ => none
  | (k, v) :: r, nm => if (k.toList == nm.toList) = true then some v else padOf r nm
def rowsP : List (BA × Int × Int × Int) := [(#[75, 80, 48], 112, 48, 57399), (#[75, 80, 49], 113, 49, 57400), (#[75, 80, 50], 114, 50, 57401), (#[75, 80, 51], 115, 51, 57402), (#[75, 80, 52], 116, 52, 57403), (#[75, 80, 53], 117, 53, 57404), (#[75, 80, 54], 118, 54, 57405), (#[75, 80, 55], 119, 55, 57406), (#[75, 80, 56], 120, 56, 57407), (#[75, 80, 57], 121, 57, 57408), (#[75, 80, 46], 110, 46, 57409), (#[75, 80, 47], 111, 47, 57410), (#[75, 80, 42], 106, 42, 57411), (#[75, 80, 45], 109, 45, 57412), (#[75, 80, 43], 107, 43, 57413), (#[75, 80, 69, 110, 116, 101, 114], 77, 13, 57414), (#[75, 80, 61], 88, 61, 57415), (#[75, 80, 44], 108, 44, 57416)]
end Mine
namespace Mine
/-- the same, where the call may leave objects of its own in the ledger -/
def TriX (w : World) (mean : Mean) (mg mb : SMap) (d : Nat) (f : Addr) (vs : List Value) (news : Led) (R : Value → Led → Prop) : Prop :=
  ∀ (dp un : Nat) (gd : Option (List Code)) (cn : Str) (cs : Scope) (a : Addr) (ccd : Value) (cl : List (Str × Addr)) (outer : List Env) (A₀ : Around) (base h₀ : Heap) (L : Addr) (m : Str → Option Value) (s : Shared) (Q E : Value → Shared → Prop),
    Below A₀ base outer h₀ → Fr h₀ L s.heap m → (Mine.hd.heap_1 w.params).In h₀ → News h₀ L s.heap news → Top Mine.vw (looseW Mine.vw [Str.ofString "Key"]) mean mg mb h₀ → cs.kind = .function →
    dp + d < recursionLimit → un + 8 * d < cLine →
    (∀ r ex h' tk', R r ex → Fr h₀ L h' m → News h₀ L h' (ex ++ news) → (∀ p ∈ ex, ∀ q ∈ news, q.1 < p.1) → Q r { s with heap := h', toks := tk' }) →
    wpAny (model PySem.Challenge.rw_pq1185_01.row.prog w) (ktrTop dp un gd cn cs L a ccd cl outer) (call (.ref f) vs) Q E s
section
variable {w : World} {mean : Mean} {mg mb : SMap} {d : Nat} {f : Addr} {vs : List Value} {news : Led} {R : Value → Led → Prop}
  {dp un : Nat} {gd : Option (List Code)} {cn : Str} {cs : Scope} {a : Addr} {ccd : Value} {cl : List (Str × Addr)} {outer : List Env} {A₀ : Around} {base h₀ : Heap} {L : Addr} {m : Str → Option Value} {s : Shared} {Q E : Value → Shared → Prop}
theorem TriX.use (C : TriX w mean mg mb d f vs news R) (B : Below A₀ base outer h₀) (F : Fr h₀ L s.heap m) (X : (Mine.hd.heap_1 w.params).In h₀) (N : News h₀ L s.heap news)
    (T : Top Mine.vw (looseW Mine.vw [Str.ofString "Key"]) mean mg mb h₀) (hk : cs.kind = .function) (hd : dp + d < recursionLimit) (hu : un + 8 * d < cLine)
    (hret : ∀ r ex h' tk', R r ex → Fr h₀ L h' m → News h₀ L h' (ex ++ news) → (∀ p ∈ ex, ∀ q ∈ news, q.1 < p.1) → Q r { s with heap := h', toks := tk' }) :
    wpAny (model PySem.Challenge.rw_pq1185_01.row.prog w) (ktrTop dp un gd cn cs L a ccd cl outer) (call (.ref f) vs) Q E s :=
  C _ _ _ _ _ _ _ _ _ _ _ _ _ _ _ _ _ B F X N T hk hd hu hret
end
abbrev kEnt (P : Params) (n : Str) (t : Tok) (v : Value) : DictEntry := { hash := PyData.keyHash P n, key := Value.str n t, val := v }
abbrev keyObj (P : Params) (n1 n2 n3 n4 : Tok) (nm : BA) (tn : Tok) (c : Int) (tc : Tok) (h : Int) (th : Tok) (e : Int) (te : Tok) : Obj :=
  dictOf [kEnt P (Str.ofString "name") n1 (.bytes nm tn), kEnt P (Str.ofString "code") n2 (.int c tc), kEnt P (Str.ofString "held") n3 (.int h th), kEnt P (Str.ofString "event") n4 (.int e te)] 4
abbrev modObj (P : Params) (m1 m2 : Tok) (sd kd : Addr) : Obj :=
  dictOf [kEnt P (Str.ofString "states") m1 (.ref sd), kEnt P (Str.ofString "kept") m2 (.ref kd)] 2
abbrev staObj (P : Params) (w1 w2 w3 w4 w5 w6 w7 : Tok) (nl ba : Bool) : Obj :=
  dictOf [kEnt P (Str.ofString "send_receive") w1 (.bool true), kEnt P (Str.ofString "autowrap") w2 (.bool true), kEnt P (Str.ofString "autorepeat") w3 (.bool true), kEnt P (Str.ofString "show_cursor") w4 (.bool true),
    kEnt P (Str.ofString "num_lock") w5 (.bool true), kEnt P (Str.ofString "newline") w6 (.bool nl), kEnt P (Str.ofString "backarrow") w7 (.bool ba)] 7
abbrev tup3 (f p c : Int) (tf tp tc : Tok) : Obj := ⟨.type "tuple", none, .seq #[.int f tf, .int p tp, .int c tc] 0, #[]⟩
def PadIs (o : Option (Int × Int × Int)) (r : Value) (ex : Led) : Prop := match o with
  | none => r = .none ∧ ex = []
  | some (f, p, c) => ∃ a tf tp tc, r = .ref a ∧ ex = [(a, tup3 f p c tf tp tc)]
theorem PadIs.split {o : Option (Int × Int × Int)} {r : Value} {ex : Led} (h : PadIs o r ex) {P : Prop} (hn : o = none → r = .none → ex = [] → P)
    (hs : ∀ f p c a tf tp tc, o = some (f, p, c) → r = .ref a → ex = [(a, tup3 f p c tf tp tc)] → P) : P := by
  match o, h with
  | none, h => exact hn rfl h.1 h.2
  | some (f, p, c), ⟨a, tf, tp, tc, e1, e2⟩ => exact hs f p c a tf tp tc rfl e1 e2
theorem one_lt {x : Addr × Obj} {news : Led} (h : ∀ q ∈ news, q.1 < x.1) : ∀ p ∈ [x], ∀ q ∈ news, q.1 < p.1 := by
  intro p hp
  rw [List.mem_singleton.mp hp]
  exact h
theorem ite_go {p : Prop} [Decidable p] {A B : Prop} (t : p → A) (f : ¬ p → B) : if p then A else B := by
  by_cases h : p
  · rw [if_pos h]; exact t h
  · rw [if_neg h]; exact f h
theorem news_drop1 {h₀ h : Heap} {L : Addr} {a b : Addr × Obj} {news : Led} (N : News h₀ L h (a :: b :: news)) : News h₀ L h ([a] ++ news) := fun p hp => N p (by
  rcases List.mem_cons.mp hp with e | e
  · rw [e]; exact .head _
  · exact .tail _ (.tail _ e))
theorem iB1 {a b : Int} : ((a == b) = true) = (a = b) := propext beq_iff_eq
theorem iB2 {a b : Int} : ((a == b) = false) = ¬ (a = b) := propext beq_eq_false_iff_ne
theorem iB3 {a b : Int} : ((a != b) = true) = ¬ (a = b) := propext bne_iff_ne
theorem iB4 {a b : Int} : ((a != b) = false) = (a = b) := propext (by rw [bne_eq_false_iff_eq])
def heldK (g e f : Int) : BA :=
  if g = 0 ∧ (Builtin.bitAnd f 2 = 0 ∨ e = 1) then #[] else if (Builtin.bitAnd f 2 = 0 ∨ e = 1) then decB (1 + g) else decB (1 + g) ++ (#[58] ++ decB e)
theorem heldK_size (g e f : Int) : (heldK g e f).size ≤ 11 := by
  have h1 := decB_size (1 + g)
  have h2 := decB_size e
  unfold heldK
  split
  · simp
  · split
    · omega
    · simp only [Array.size_append, List.size_toArray, List.length_cons, List.length_nil]; omega
end Mine
namespace Mine
def csi (b fin : BA) : BA := #[27, 91] ++ b ++ fin
theorem csi_size {b fin : BA} {n k : Nat} (hb : b.size ≤ n) (hf : fin.size ≤ k) : (csi b fin).size ≤ 2 + n + k := by
  unfold csi
  simp only [Array.size_append, List.size_toArray, List.length_cons, List.length_nil]; omega
end Mine
namespace Mine
def metaK (b : BA) (h : Int) : BA := if Builtin.bitAnd h 2 = 0 then b else #[27] ++ b
theorem metaK_size {b : BA} {h : Int} {n : Nat} (hb : b.size ≤ n) : (metaK b h).size ≤ n + 1 := by
  unfold metaK
  split
  · omega
  · simp only [Array.size_append, List.size_toArray, List.length_cons, List.length_nil]; omega
end Mine
namespace Mine
abbrev staK (nl ba : Bool) : List (Str × Value) := [(Str.ofString "send_receive", .bool true), (Str.ofString "autowrap", .bool true), (Str.ofString "autorepeat", .bool true), (Str.ofString "show_cursor", .bool true),
  (Str.ofString "num_lock", .bool true), (Str.ofString "newline", .bool nl), (Str.ofString "backarrow", .bool ba)]
abbrev StaDict (w : World) (so : Obj) (nl ba : Bool) : Prop := so.IsDictOf (PySem.strKind PySem.Challenge.rw_pq1185_01.row.prog w) (staK nl ba)
end Mine
namespace Mine
def IsOB (o : Option BA) (n : Nat) (r : Value) : Prop := match o with | some b => IsB b n r | none => r = .none
theorem IsOB.split {o : Option BA} {n : Nat} {r : Value} (h : IsOB o n r) {P : Prop} (hn : o = none → r = .none → P) (hs : ∀ b t, o = some b → b.size ≤ n → r = .bytes b t → P) : P := by
  cases o with
  | none => exact hn rfl h
  | some b => obtain ⟨z, t, e⟩ := h; exact hs b t rfl z e
theorem padOf_of {P : Int → Int → Int → Prop} {nm : BA} : ∀ {rows : List (BA × Int × Int × Int)} {f p c : Int}, (∀ r ∈ rows, P r.2.1 r.2.2.1 r.2.2.2) → padOf rows nm = some (f, p, c) → P f p c
  | [], _, _, _, _, e => nomatch e
  | (k, v) :: rows, f, p, c, h, e => by
    unfold padOf at e
    split at e
    · cases e; exact h _ (.head _)
    · exact padOf_of (fun r hr => h r (.tail _ hr)) e
theorem padOf_bound {nm : BA} {f p c : Int} (e : padOf rowsP nm = some (f, p, c)) : 0 ≤ f ∧ f < 256 ∧ 0 ≤ p ∧ p < 256 ∧ 57399 ≤ c ∧ c < 57417 :=
  padOf_of (P := fun f p c => 0 ≤ f ∧ f < 256 ∧ 0 ≤ p ∧ p < 256 ∧ 57399 ≤ c ∧ c < 57417) (by decide +kernel) e
def paddedK (nm : BA) (h : Int) (nl : Bool) : Option BA := match padOf rowsP nm with
  | none => none
  | some (_, p, _) => some (metaK (if (nm.toList == [75, 80, 69, 110, 116, 101, 114]) = true ∧ nl = true then #[13, 10] else byteArr [p]) h)
def codedK (nm : BA) (h : Int) (nl ba : Bool) : BA :=
  metaK (if (nm.toList == [84, 97, 98]) = true then (if Builtin.bitAnd h 1 = 0 then #[9] else #[27, 91, 90]) else if (nm.toList == [69, 110, 116, 101, 114]) = true then (if nl = true then #[13, 10] else #[13])
    else if (nm.toList == [69, 115, 99, 97, 112, 101]) = true then #[27] else if (ba != (Builtin.bitAnd h 4 != 0)) = true then #[8] else #[127]) h
def signedK (c h : Int) : BA := metaK (if Builtin.bitAnd h 4 = 0 then sigB c else byteArr [c - 96]) h
end Mine
namespace Mine
theorem mem_asMem {a : Addr × Obj} {l : Led} (h : a ∈ l) : List.Mem a l := h
end Mine
namespace Mine
theorem codedK_size (nm : BA) (h : Int) (nl ba : Bool) : (codedK nm h nl ba).size ≤ 5 := by
  unfold codedK
  refine metaK_size (n := 4) ?_
  repeat (first | decide | split)
theorem signedK_size (c h : Int) : (signedK c h).size ≤ 5 := by
  unfold signedK
  refine metaK_size (n := 4) ?_
  split
  · exact Nat.le_trans (sigB_size c) (by decide)
  · simp [byteArr_size]
theorem padded_size (nm : BA) (h : Int) (nl : Bool) (p : Int) : (metaK (if (nm.toList == [75, 80, 69, 110, 116, 101, 114]) = true ∧ nl = true then #[13, 10] else byteArr [p]) h).size ≤ 5 := by
  refine metaK_size (n := 4) ?_
  split
  · decide
  · simp [byteArr_size]
end Mine
namespace Mine
def uK (first told text : BA) : BA :=
  if (text.toList == (#[] : BA).toList) = true then (if (told.toList == (#[] : BA).toList) = true then csi first #[117] else csi (first ++ #[59] ++ told) #[117]) else csi (first ++ #[59] ++ told ++ #[59] ++ text) #[117]
def firstK (code : Int) (sh : Option Int) (f : Int) : BA := match sh with
  | none => decB code
  | some s => if Builtin.bitAnd f 4 = 0 then decB code else decB code ++ #[58] ++ decB s
theorem firstK_size (code : Int) (sh : Option Int) (f : Int) : (firstK code sh f).size ≤ 11 := by
  have h1 := decB_size code
  unfold firstK
  split
  · omega
  · rename_i s
    have h2 := decB_size s
    split
    · omega
    · simp only [Array.size_append, List.size_toArray, List.length_cons, List.length_nil]; omega
theorem uK_size {a b c : BA} (ha : a.size ≤ 11) (hb : b.size ≤ 11) (hc : c.size ≤ 5) : (uK a b c).size ≤ 40 := by
  unfold uK csi
  split
  · split
    · simp only [Array.size_append, List.size_toArray, List.length_cons, List.length_nil]; omega
    · simp only [Array.size_append, List.size_toArray, List.length_cons, List.length_nil]; omega
  · simp only [Array.size_append, List.size_toArray, List.length_cons, List.length_nil]; omega
theorem decB_ne {n : Int} : (decB n).toList ≠ [] := by
  intro h
  have : (decB n).size = 0 := by rw [← Array.length_toList, h]; rfl
  revert this
  unfold decB decL
  rw [byteArr_size]
  split
  · simp
  · split
    · simp
    · split
      · simp
      · split <;> simp
theorem app_ne {a b : BA} (h : a.toList ≠ []) : (a ++ b).toList ≠ [] := by
  rw [Array.toList_append]
  intro e
  exact h (List.append_eq_nil_iff.mp e).1
theorem whl_splitB {c : Bool} {T F : Prop} (t : c = true → T) (f : c = false → F) : WhlIf c T F := by
  cases c with
  | true => exact WhlIf.yes rfl (t rfl)
  | false => exact WhlIf.no rfl (f rfl)
end Mine
namespace Mine
def asEverK (nm : BA) (c h e : Int) (nl ba : Bool) : BA :=
  if e = 3 then #[] else if (nm.toList == []) = true then signedK c h else match paddedK nm h nl with
    | none => codedK nm h nl ba
    | some b => b
def namedK (code : Int) (plain : Option BA) (h e f : Int) : BA :=
  match plain with
  | none => uK (firstK code none f) (heldK h e f) #[]
  | some p => if h = 0 ∧ Builtin.bitAnd f 8 = 0 then (if e = 3 then #[] else p) else uK (firstK code none f) (heldK h e f) #[]
def signK (c h e f : Int) : BA :=
  if Builtin.bitAnd h (Builtin.bitOr 4 2) = 0 ∧ Builtin.bitAnd f 8 = 0 then (if e = 3 then #[] else sigB c)
  else uK (if 65 ≤ c ∧ c ≤ 90 then firstK (c + 32) (some c) f else if (97 ≤ c ∧ c ≤ 122) ∧ ¬ Builtin.bitAnd h 1 = 0 then firstK c (some (c - 32)) f else firstK c none f)
    (if 65 ≤ c ∧ c ≤ 90 then heldK (Builtin.bitOr h 1) e f else heldK h e f)
    (if Builtin.bitAnd h (Builtin.bitOr 4 2) = 0 ∧ ¬ Builtin.bitAnd f 16 = 0 ∧ ¬ e = 3 then decB c else #[])
theorem bitOr1_all : ∀ k ∈ List.range 8, 0 ≤ Builtin.bitOr (k : Int) 1 ∧ Builtin.bitOr (k : Int) 1 ≤ 7 := by decide +kernel
theorem bitOr1 {h : Int} (h0 : 0 ≤ h) (h1 : h ≤ 7) : 0 ≤ Builtin.bitOr h 1 ∧ Builtin.bitOr h 1 ≤ 7 := by
  obtain ⟨k, rfl⟩ := Int.eq_ofNat_of_zero_le h0
  exact bitOr1_all k (List.mem_range.mpr (by omega))
end Mine
namespace Mine
theorem paddedK_size {nm b : BA} {h : Int} {nl : Bool} (e : paddedK nm h nl = some b) : b.size ≤ 5 := by
  unfold paddedK at e
  split at e
  · cases e
  · cases e
    exact padded_size _ _ _ _
theorem asEverK_size (nm : BA) (c h e : Int) (nl ba : Bool) : (asEverK nm c h e nl ba).size ≤ 5 := by
  unfold asEverK
  split
  · decide
  · split
    · exact signedK_size _ _
    · split
      · exact codedK_size _ _ _ _
      · rename_i hb
        exact paddedK_size hb
theorem sigB_size5 (c : Int) : (sigB c).size ≤ 40 := Nat.le_trans (sigB_size c) (by decide)
theorem namedK_size_n (cd h e f : Int) : (namedK cd none h e f).size ≤ 40 := uK_size (firstK_size _ _ _) (heldK_size _ _ _) (by decide)
theorem namedK_size_s {cd h e f : Int} {p : BA} (hp : p.size ≤ 5) : (namedK cd (some p) h e f).size ≤ 40 := by
  unfold namedK
  dsimp only []
  split
  · split
    · decide
    · omega
  · exact uK_size (firstK_size _ _ _) (heldK_size _ _ _) (by decide)
theorem signK_size (c h e f : Int) : (signK c h e f).size ≤ 40 := by
  unfold signK
  split
  · split
    · decide
    · exact sigB_size5 c
  · refine uK_size ?_ ?_ ?_
    · repeat (first | exact firstK_size _ _ _ | split)
    · repeat (first | exact heldK_size _ _ _ | split)
    · split
      · exact decB_size c
      · decide
end Mine
namespace Mine
def csiK (a told fin : BA) : BA := if (told.toList == []) = true then csi a fin else csi (a ++ #[59] ++ told) fin
theorem csiK_size {a told fin : BA} (ha : a.size ≤ 5) (ht : told.size ≤ 11) (hf : fin.size ≤ 1) : (csiK a told fin).size ≤ 40 := by
  unfold csiK csi
  split
  · simp only [Array.size_append, List.size_toArray, List.length_cons, List.length_nil]; omega
  · simp only [Array.size_append, List.size_toArray, List.length_cons, List.length_nil]; omega
def kk (f : Int) (nm : BA) (c h e : Int) (nl ba : Bool) : BA :=
  if e = 3 ∧ Builtin.bitAnd f 2 = 0 then #[] else
  if (nm.toList == [70, 51]) = true then csiK #[49, 51] (heldK h e f) #[126] else
  match numOf rowsL nm with
  | some l => if ((heldK h e f).toList == []) = true then csi #[] (byteArr [l]) else csi (#[49] ++ #[59] ++ heldK h e f) (byteArr [l])
  | none => match numOf rowsN nm with
    | some n => csiK (decB n) (heldK h e f) #[126]
    | none =>
      if Builtin.bitAnd f (Builtin.bitOr 1 8) = 0 then asEverK nm c h e nl ba else
      if (nm.toList == []) = true then signK c h e f else
      match padOf rowsP nm with
      | some (_, p, cd) => namedK cd (if (nm.toList == [75, 80, 69, 110, 116, 101, 114]) = true then none else some (byteArr [p])) h e f
      | none => match numOf rowsC nm with
        | none => #[]
        | some cd => namedK cd (if (nm.toList == [69, 115, 99, 97, 112, 101]) = true then none else some (codedK nm 0 nl ba)) h e f
theorem kk_size (f : Int) (nm : BA) (c h e : Int) (nl ba : Bool) : (kk f nm c h e nl ba).size ≤ 40 := by
  unfold kk
  split
  · decide
  · split
    · exact csiK_size (by decide) (heldK_size _ _ _) (by decide)
    · split
      · rename_i l _
        have h1 := heldK_size h e f
        split
        · unfold csi
          simp only [Array.size_append, List.size_toArray, List.length_cons, List.length_nil, byteArr_size]; omega
        · unfold csi
          simp only [Array.size_append, List.size_toArray, List.length_cons, List.length_nil, byteArr_size]; omega
      · split
        · exact csiK_size (decB_size _) (heldK_size _ _ _) (by decide)
        · split
          · exact Nat.le_trans (asEverK_size _ _ _ _ _ _) (by decide)
          · split
            · exact signK_size _ _ _ _
            · split
              · split
                · exact namedK_size_n _ _ _ _
                · exact namedK_size_s (by simp [byteArr_size])
              · split
                · decide
                · split
                  · exact namedK_size_n _ _ _ _
                  · exact namedK_size_s (codedK_size _ _ _ _)
theorem numOf_of {P : Int → Prop} {nm : BA} : ∀ {rows : List (BA × Int)} {v : Int}, (∀ r ∈ rows, P r.2) → numOf rows nm = some v → P v
  | [], _, _, e => nomatch e
  | (k, v) :: rows, c, h, e => by
    unfold numOf at e
    split at e
    · cases e; exact h _ (.head _)
    · exact numOf_of (fun r hr => h r (.tail _ hr)) e
theorem numL_bound {nm : BA} {v : Int} (e : numOf rowsL nm = some v) : 0 ≤ v ∧ v < 256 := numOf_of (P := fun v => 0 ≤ v ∧ v < 256) (by decide +kernel) e
theorem numN_bound {nm : BA} {v : Int} (e : numOf rowsN nm = some v) : 0 ≤ v ∧ v < 256 := numOf_of (P := fun v => 0 ≤ v ∧ v < 256) (by decide +kernel) e
theorem numC_bound {nm : BA} {v : Int} (e : numOf rowsC nm = some v) : 0 ≤ v ∧ v < 256 := numOf_of (P := fun v => 0 ≤ v ∧ v < 256) (by decide +kernel) e
end Mine
namespace Mine
def NameOk (nm : BA) : Prop := (nm.toList == []) = true ∨ numOf rowsL nm ≠ none ∨ numOf rowsN nm ≠ none ∨ padOf rowsP nm ≠ none ∨ numOf rowsC nm ≠ none
theorem nameOk_no {nm : BA} (h : NameOk nm) (h1 : (nm.toList == []) = false) (h2 : numOf rowsL nm = none) (h3 : numOf rowsN nm = none) (h4 : padOf rowsP nm = none) (h5 : numOf rowsC nm = none) : False := by
  rcases h with h | h | h | h | h
  · rw [h1] at h; cases h
  · exact h h2
  · exact h h3
  · exact h h4
  · exact h h5
end Mine
namespace Mine
def IsKey (P : Params) (nm : BA) (c h e : Int) (r : Value) (ex : Led) : Prop :=
  ∃ x d n1 n2 n3 n4 t1 t2 t3 t4, r = .ref x ∧ ex = [(x, instObj 152 d), (d, keyObj P n1 n2 n3 n4 nm t1 c t2 h t3 e t4)] ∧ @LT.lt Nat _ d x
theorem bneT {a b : List UInt8} (h : (a != b) = true) : (a == b) = false := by
  cases e : a == b with
  | true => rw [bne, e] at h; cases h
  | false => rfl
theorem bneF {a b : List UInt8} (h : (a != b) = false) : (a == b) = true := by
  cases e : a == b with
  | false => rw [bne, e] at h; cases h
  | true => rfl
end Mine
namespace Mine
theorem two_lt {x d : Addr} {a b : Obj} {news : Led} (h : ∀ q ∈ news, @LT.lt Nat _ q.1 d) (hx : @LT.lt Nat _ d x) : ∀ p ∈ ([(x, a), (d, b)] : Led), ∀ q ∈ news, q.1 < p.1 := by
  intro p hp q hq
  rcases List.mem_cons.mp hp with e | e
  · rw [e]; exact Nat.lt_trans (h q hq) hx
  · rw [List.mem_singleton.mp e]; exact h q hq
end Mine
namespace Mine
theorem room_e {dp D n : Nat} (h : dp + D < n) : dp < n := Nat.lt_of_le_of_lt (Nat.le_add_right dp D) h
theorem room_c {dp D d n : Nat} (h : dp + D < n) (hle : d + 1 ≤ D) : dp + 1 + d < n := by
  refine Nat.lt_of_le_of_lt ?_ h
  rw [Nat.add_assoc, Nat.add_comm 1 d]
  exact Nat.add_le_add_left hle dp
theorem unit_c {un D d n : Nat} (h : un + 8 * D < n) (hle : 3 + 8 * d ≤ 8 * D) : un + 3 + 8 * d < n := by
  refine Nat.lt_of_le_of_lt ?_ h
  rw [Nat.add_assoc]
  exact Nat.add_le_add_left hle un
theorem le9 {g : Int} (h : 0 ≤ g ∧ g ≤ 7) : 0 ≤ g ∧ g ≤ 9 := ⟨h.1, Int.le_trans h.2 (by decide)⟩
end Mine
namespace Mine
theorem dg_all : ∀ n ∈ List.range 10, (Nat.digitChar n).toNat = 48 + n := by decide
theorem dg {n : Nat} (h : n < 10) : (Nat.digitChar n).toNat = 48 + n := dg_all n (List.mem_range.mpr h)
theorem decL_step {n : Int} (h1 : n < 100000) (h0 : ¬ n < 10) : decL n = decL (n / 10) ++ [48 + n % 10] := by
  unfold decL
  rw [if_neg h0]
  by_cases h2 : n < 100
  · rw [if_pos h2, if_pos (show n / 10 < 10 by omega)]; rfl
  · rw [if_neg h2, if_neg (show ¬ n / 10 < 10 by omega)]
    clear h0
    by_cases h3 : n < 1000
    · rw [if_pos h3, if_pos (show n / 10 < 100 by omega)]; rfl
    · rw [if_neg h3, if_neg (show ¬ n / 10 < 100 by omega)]
      clear h2
      by_cases h4 : n < 10000
      · rw [if_pos h4, if_pos (show n / 10 < 1000 by omega)]; rfl
      · rw [if_neg h4, if_neg (show ¬ n / 10 < 1000 by omega), if_pos (show n / 10 < 10000 by omega)]; rfl
theorem tdig (k : Nat) (h : k < 100000) : ((Nat.toDigits 10 k).map Char.toNat) = (decL (k : Int)).map Int.toNat := by
  induction k using Nat.strongRecOn with
  | ind k ih =>
    by_cases h1 : k < 10
    · rw [Nat.toDigits_of_lt_base h1]
      unfold decL
      rw [if_pos (show (k : Int) < 10 from Int.ofNat_lt.mpr h1)]
      show [(Nat.digitChar k).toNat] = [Int.toNat (48 + (k : Int) % 10)]
      rw [dg h1, show Int.toNat (48 + (k : Int) % 10) = 48 + k by omega]
    · rw [Nat.toDigits_of_base_le (by decide) (Nat.le_of_not_lt h1), decL_step (show (k : Int) < 100000 from Int.ofNat_lt.mpr h) (fun (q : (k : Int) < 10) => h1 (Int.ofNat_lt.mp q)), List.map_append, List.map_append, ih (k / 10) (Nat.div_lt_self (by omega) (by decide)) (Nat.lt_of_le_of_lt (Nat.div_le_self k 10) h)]
      refine congrArg (fun x => (decL ((k : Int) / 10)).map Int.toNat ++ x) ?_
      show [(Nat.digitChar (k % 10)).toNat] = [Int.toNat (48 + (k : Int) % 10)]
      rw [dg (Nat.mod_lt k (by decide)), show Int.toNat (48 + (k : Int) % 10) = 48 + k % 10 by omega]
theorem text_dec {n : Int} (h0 : 0 ≤ n) (h1 : n < 100000) : Str.ofString (toString n) = ⟨((decL n).map Int.toNat).toArray⟩ := by
  obtain ⟨k, rfl⟩ := Int.eq_ofNat_of_zero_le h0
  rw [Str.ofString_eq_toList, ← tdig k (by omega)]
  have : (toString (k : Int)).toList = Nat.toDigits 10 k := by
    rw [Int.toString_eq_repr]
    show (Nat.repr k).toList = _
    exact Nat.toList_repr
  rw [this]
/-- the list comprehension over a text of signs below 128: its turns, one by one -/
def LcsSrc (prog : Program) (w : World) (A : Around) (h₀ : Heap) (L : Addr) (m : Str → Option Value) (env : Env) (elt : Expr) (x : Str) (scope : Scope) (cl : List (Str × Addr)) (Q : Value → Shared → Prop) (xv : Value) (s₁ : Shared) : Prop :=
  ∃ (cs : List Nat) (t : Tok) (news : Led), xv = .str ⟨cs.toArray⟩ t ∧ A.handled = none ∧ Fr h₀ L s₁.heap m ∧ News h₀ L s₁.heap news ∧ (cs.all (· < 128) = true) ∧ cs.length ≤ 8 ∧
    ∀ g : Heap, LCg.CompRest prog w A h₀ L m env elt x scope cl { s₁ with heap := g } (fun _ => True) (fun i v => ∃ t, v = .str ⟨#[cs[i]!]⟩ t) (LCg.FinE h₀ L m { s₁ with heap := g } Q) cs.length 0 [] news
section
variable {prog : Program} {w : World} {A : Around} {E : Value → Shared → Prop} {s : Shared} {h₀ : Heap} {L : Addr} {m : Str → Option Value} {env : Env}
theorem LcsSrc.of {elt : Expr} {x : Str} {scope : Scope} {cl : List (Str × Addr)} {Q : Value → Shared → Prop} {y : Str} {cs : List Nat} {t : Tok} {news : Led} {s₁ : Shared} {n : Nat}
    (hy : y = ⟨cs.toArray⟩) (hh : A.handled = none) (F : Fr h₀ L s₁.heap m) (N : News h₀ L s₁.heap news) (ha : cs.all (· < 128) = true) (hn : cs.length = n) (hz : n ≤ 8)
    (h : ∀ g : Heap, LCg.CompRest prog w A h₀ L m env elt x scope cl { s₁ with heap := g } (fun _ => True) (fun i v => ∃ t, v = .str ⟨#[cs[i]!]⟩ t) (LCg.FinE h₀ L m { s₁ with heap := g } Q) n 0 [] news) :
    LcsSrc prog w A h₀ L m env elt x scope cl Q (.str y t) s₁ := by
  subst hy
  subst hn
  exact ⟨cs, t, news, rfl, hh, F, N, ha, hz, h⟩
theorem lcs_comp {elt iter : Expr} {x : Str} {px : Pos} {scope : Scope} {cl : List (Str × Addr)} {pos : Pos} {Q : Value → Shared → Prop} (F₀ : Fr h₀ L s.heap m)
    (hclos : closureFor scope env = pure cl) (hcell : ∀ y ∈ scope.names, y.2 ≠ .cell) (hkind : scope.kind = .function)
    (hnames : ∀ y ∈ scope.names, y.2 = .local → scope.names.lookup y.1 = some .local) (hx : scope.names.lookup x = some .local)
    (h : wpAny (model prog w) A (eval iter env) (LcsSrc prog w A h₀ L m env elt x scope cl Q) E s)
    (hs : ∀ x, foldedSetIterable iter env x = pure x := by intro _; rfl) :
    wpAny (model prog w) A (eval (.ListComp elt [⟨.Name x px, iter, [], 0⟩] scope pos) env) Q E s := by
  rw [eval_ListComp]
  refine wpAny_comprehension_free (use := none) rfl hs hclos hkind hnames (wpAny_mono h (fun xv s₁ h₁ => ?_) fun _ _ e => e)
  obtain ⟨cs, t, news, rfl, hh, F, N, ha, hz, R⟩ := h₁
  have hall : (⟨cs.toArray⟩ : Str).cps.all (· < 128) = true := by
    show cs.toArray.all (· < 128) = true
    rw [List.all_toArray]
    exact ha
  refine wpAny_pyIter_ascii hall ?_
  have hsize : (⟨cs.toArray⟩ : Str).cps.size = cs.length := by simp
  have W := Walks.strAscii (prog := prog) (w := w) (A := A) hh s₁.heap.objs.size ⟨cs.toArray⟩ t
  rw [hsize] at W
  refine LCg.block_U (P := fun i v => ∃ t, v = .str ⟨#[cs[i]!]⟩ t) (S := fun _ => True) (n := cs.length) (St := fun i h => h.IsStrIter s₁.heap.objs.size "str_ascii_iterator" ⟨cs.toArray⟩ t i)
    ⟨W.sub, W.frame, ?_, W.done, W.self⟩ (Nat.le_trans hz (by rw [sizeLine_eq]; decide)) ?_ ?_ hcell hkind hx ?_ ?_
    (F.keeps fun _ _ e => Heap.get?_push_of_some _ e) (N.grown fun _ _ e => Heap.get?_push_of_some _ e) (Nat.ne_of_lt F.ns.lt) (next_is_new F) (fun p hp => Nat.ne_of_lt (Heap.lt_size (N p hp).1)) trivial (R _) ?_
  · intro i s' Q' E' hi st hQ
    refine W.item i s' Q' E' hi st fun v h' tk hP => hQ v h' tk ?_
    obtain ⟨c, u, hc, rfl⟩ := hP
    refine ⟨u, ?_⟩
    have : cs[i]? = some c := by simpa using hc
    have : cs[i]! = c := by simp [List.getElem!_eq_getElem?_getD, this]
    rw [this]
  · intro i h st
    obtain ⟨o, ho, r⟩ := st
    exact ⟨o, ho⟩
  · intro i h h' o nw st e e' _ _ _
    obtain ⟨o', ho, r⟩ := st
    rw [e] at ho
    cases ho
    exact ⟨o, e', r⟩
  · exact ⟨_, Heap.get?_push_size _ rfl, rfl, rfl⟩
  · intro b hb
    rw [List.mem_singleton.mp hb]
    show s₁.heap.objs.size < (s₁.heap.push _).objs.size
    rw [Heap.size_push]; exact Nat.lt_succ_self _
  · intro D C h tk m' ys news' F' N' o1 hn hC₀ hD₀ hCL hDL hCD offC fin
    refine ⟨m', hn, fun h'' hs'' => fin D h'' tk (F'.change hs'' hCL hC₀) (fun p hp => ?_) o1⟩
    refine ⟨hs''.extBut _ _ ?_ (N' p hp).1, (N' p hp).2⟩
    rcases List.mem_cons.mp hp with rfl | hp
    · exact Ne.symm hCD
    · exact offC p hp
end
end Mine
namespace Mine
theorem decL_cases (n : Int) : (decL n = [48 + n % 10]) ∨ (decL n = [48 + n / 10 % 10, 48 + n % 10]) ∨ (decL n = [48 + n / 10 / 10 % 10, 48 + n / 10 % 10, 48 + n % 10])
    ∨ (decL n = [48 + n / 10 / 10 / 10 % 10, 48 + n / 10 / 10 % 10, 48 + n / 10 % 10, 48 + n % 10]) ∨ (decL n = [48 + n / 10 / 10 / 10 / 10 % 10, 48 + n / 10 / 10 / 10 % 10, 48 + n / 10 / 10 % 10, 48 + n / 10 % 10, 48 + n % 10]) := by
  unfold decL
  by_cases h1 : n < 10
  · exact .inl (by rw [if_pos h1])
  · by_cases h2 : n < 100
    · exact .inr (.inl (by rw [if_neg h1, if_pos h2]))
    · by_cases h3 : n < 1000
      · exact .inr (.inr (.inl (by rw [if_neg h1, if_neg h2, if_pos h3])))
      · by_cases h4 : n < 10000
        · exact .inr (.inr (.inr (.inl (by rw [if_neg h1, if_neg h2, if_neg h3, if_pos h4]))))
        · exact .inr (.inr (.inr (.inr (by rw [if_neg h1, if_neg h2, if_neg h3, if_neg h4]))))
theorem text_lit {n : Int} {l : List Int} (h0 : 0 ≤ n) (h1 : n < 100000) (e : decL n = l) : Str.ofString (toString n) = ⟨(l.map Int.toNat).toArray⟩ := by
  rw [text_dec h0 h1, e]
theorem byteArr_nat (l : List Int) : byteArr (l.map fun x => ((Int.toNat x : Nat) : Int)) = byteArr l := by
  unfold byteArr
  rw [List.map_map]
  rfl
theorem byteArr_dec {l : List Int} {n : Int} (e : decL n = l) : byteArr (l.map fun x => ((Int.toNat x : Nat) : Int)) = decB n := by
  rw [byteArr_nat, decB, e]
end Mine
namespace Mine
theorem comp_end {h₀ : Heap} {L I C D : Addr} {m : Str → Option Value} {s₁ : Shared} {oI oC oD : Obj} {S : Led → Prop} {rest : Value → Led → Prop} {y : Value} {h' : Heap} {tk : Nat} {news : Led}
    (F : Fr h₀ L h' m) (N : News h₀ L h' ((I, oI) :: (C, oC) :: (D, oD) :: news)) (off : LCg.Off3 I C D news) (hS : S news) (r : rest y news) :
    LCg.CompEnd h₀ L m s₁ I oI C oC D oD S rest y { s₁ with heap := h', toks := tk } := LCg.CompEnd.intro F N news (fun _ h => h) off hS r
end Mine
namespace Mine
def lheldK (g e f : Int) : BA :=
  if f / 2 % 2 = 1 ∧ 1 < e then decB (1 + g) ++ (#[58] ++ decB e) else if g = 0 then #[] else decB (1 + g)
theorem lheldK_size (g e f : Int) : (lheldK g e f).size ≤ 11 := by
  have h1 := decB_size (1 + g)
  have h2 := decB_size e
  unfold lheldK
  split
  · simp only [Array.size_append, List.size_toArray, List.length_cons, List.length_nil]; omega
  · split
    · simp
    · omega
def lsF0 (c : Int) : BA := if 65 ≤ c ∧ c ≤ 90 then decB (c + 32) else decB c
def lsF1 (c h f : Int) : BA := if f / 4 % 2 = 1 then (if 65 ≤ c ∧ c ≤ 90 then lsF0 c ++ #[58] ++ decB c else if (97 ≤ c ∧ c ≤ 122) ∧ h % 2 = 1 then lsF0 c ++ #[58] ++ decB (c - 32) else lsF0 c) else lsF0 c
def lsT (c h e f : Int) : BA := if f / 16 = 1 ∧ h / 2 = 0 ∧ e < 3 then decB c else #[]
def lsignK (c h e f : Int) : BA := uK (lsF1 c h f) (if 65 ≤ c ∧ c ≤ 90 then lheldK (h + 1) e f else lheldK h e f) (lsT c h e f)
theorem lsF0_size (c : Int) : (lsF0 c).size ≤ 5 := by
  unfold lsF0
  split
  · exact decB_size _
  · exact decB_size _
theorem lsF1_size (c h f : Int) : (lsF1 c h f).size ≤ 11 := by
  have h1 := lsF0_size c
  have h2 := decB_size c
  have h3 := decB_size (c - 32)
  unfold lsF1
  repeat (first | (simp only [Array.size_append, List.size_toArray, List.length_cons, List.length_nil]; omega) | omega | split)
theorem lsT_size (c h e f : Int) : (lsT c h e f).size ≤ 5 := by
  have h2 := decB_size c
  unfold lsT
  repeat (first | decide | omega | split)
end Mine
namespace Mine
theorem lsignK_size (c h e f : Int) : (lsignK c h e f).size ≤ 40 := by
  have h4 := lheldK_size (h + 1) e f
  have h5 := lheldK_size h e f
  unfold lsignK
  refine uK_size (lsF1_size c h f) ?_ (lsT_size c h e f)
  repeat (first | omega | split)
end Mine
namespace Mine
/-- the same, where the call alters one object of the ledger and may leave objects of its own -/
def TriG (w : World) (mean : Mean) (mg mb : SMap) (d : Nat) (f : Addr) (vs : List Value) (news : Led) (g : Obj → Led) (R : Value → Led → Obj → Prop) : Prop :=
  ∀ (dp un : Nat) (gd : Option (List Code)) (cn : Str) (cs : Scope) (a : Addr) (ccd : Value) (cl : List (Str × Addr)) (outer : List Env) (A₀ : Around) (base h₀ : Heap) (L : Addr) (m : Str → Option Value) (s : Shared) (Q E : Value → Shared → Prop),
    Below A₀ base outer h₀ → Fr h₀ L s.heap m → (Mine.hd.heap_1 w.params).In h₀ → News h₀ L s.heap news → Top Mine.vw (looseW Mine.vw [Str.ofString "Key"]) mean mg mb h₀ → cs.kind = .function →
    dp + d < recursionLimit → un + 8 * d < cLine →
    (∀ r ex o h' tk', R r ex o → Fr h₀ L h' m → News h₀ L h' (ex ++ g o) → (∀ p ∈ ex, ∀ q ∈ news, q.1 < p.1) → Q r { s with heap := h', toks := tk' }) →
    wpAny (model PySem.Challenge.rw_pq1185_01.row.prog w) (ktrTop dp un gd cn cs L a ccd cl outer) (call (.ref f) vs) Q E s
section
variable {w : World} {mean : Mean} {mg mb : SMap} {d : Nat} {f : Addr} {vs : List Value} {news : Led} {g : Obj → Led} {R : Value → Led → Obj → Prop}
  {dp un : Nat} {gd : Option (List Code)} {cn : Str} {cs : Scope} {a : Addr} {ccd : Value} {cl : List (Str × Addr)} {outer : List Env} {A₀ : Around} {base h₀ : Heap} {L : Addr} {m : Str → Option Value} {s : Shared} {Q E : Value → Shared → Prop}
theorem TriG.use (C : TriG w mean mg mb d f vs news g R) (B : Below A₀ base outer h₀) (F : Fr h₀ L s.heap m) (X : (Mine.hd.heap_1 w.params).In h₀) (N : News h₀ L s.heap news)
    (T : Top Mine.vw (looseW Mine.vw [Str.ofString "Key"]) mean mg mb h₀) (hk : cs.kind = .function) (hd : dp + d < recursionLimit) (hu : un + 8 * d < cLine)
    (hret : ∀ r ex o h' tk', R r ex o → Fr h₀ L h' m → News h₀ L h' (ex ++ g o) → (∀ p ∈ ex, ∀ q ∈ news, q.1 < p.1) → Q r { s with heap := h', toks := tk' }) :
    wpAny (model PySem.Challenge.rw_pq1185_01.row.prog w) (ktrTop dp un gd cn cs L a ccd cl outer) (call (.ref f) vs) Q E s :=
  C _ _ _ _ _ _ _ _ _ _ _ _ _ _ _ _ _ B F X N T hk hd hu hret
end
theorem updF_upd {d : Addr} {o : Obj} {news : Led} {g : Obj → Led} (U : UpdF d o news g) (o' : Obj) : Upd d o o' news (g o') := by
  induction U with
  | head h => exact .head h
  | tail h _ ih => exact .tail h ih
theorem updF_mem {d : Addr} {o : Obj} {news : Led} {g : Obj → Led} (U : UpdF d o news g) : (d, o) ∈ news := by
  induction U with
  | head h => exact .head _
  | tail h _ ih => exact .tail _ ih
/-- what stood beside the altered object stands yet -/
theorem updF_keep {d b : Addr} {o q : Obj} {news : Led} {g : Obj → Led} (U : UpdF d o news g) (hb : b ≠ d) (h : (b, q) ∈ news) (o' : Obj) : (b, q) ∈ g o' := by
  induction U with
  | head _ =>
    rcases List.mem_cons.mp h with e | e
    · cases e; exact absurd rfl hb
    · exact .tail _ e
  | tail _ _ ih =>
    rcases List.mem_cons.mp h with e | e
    · rw [e]; exact .head _
    · exact .tail _ (ih e)
theorem updF_at {d : Addr} {o : Obj} {news : Led} {g : Obj → Led} (U : UpdF d o news g) (o' : Obj) : (d, o') ∈ g o' := by
  induction U with
  | head _ => exact .head _
  | tail _ _ ih => exact .tail _ ih
/-- the altered ledger may be altered again -/
theorem updF_again {d : Addr} {o : Obj} {news : Led} {g : Obj → Led} (U : UpdF d o news g) (o' : Obj) : UpdF d o' (g o') g := by
  induction U with
  | head h => exact .head h
  | tail h _ ih => exact .tail h ih
def IsDraw (at0 many : Int) (r : Value) (ex : Led) (o : Obj) : Prop := ∃ v t ta k, r = .int v t ∧ ex = [] ∧ o = W.listOf #[.int (at0 + 1) ta] k ∧ 0 ≤ v ∧ v < many
end Mine
namespace Mine
theorem fmod_lo {x m : Int} (h : 1 ≤ m) : 0 ≤ x.fmod m := by
  rw [Int.fmod_eq_emod_of_nonneg x (by omega)]
  exact Int.emod_nonneg x (by omega)
theorem fmod_hi {x m : Int} (h : 1 ≤ m) : x.fmod m < m := by
  rw [Int.fmod_eq_emod_of_nonneg x (by omega)]
  exact Int.emod_lt_of_pos x (by omega)
end Mine
namespace Mine
def plainK (nm : BA) (nl ba : Bool) : BA :=
  if (nm.toList == [84, 97, 98]) = true then #[9] else if (nm.toList == [69, 110, 116, 101, 114]) = true then (if nl = true then #[13, 10] else #[13]) else if (nm.toList == [66, 83, 112, 97, 99, 101]) = true then (if ba = true then #[8] else #[127]) else #[27]
end Mine
namespace Mine
section
variable {prog : Program} {w : World} {A : Around} {E : Value → Shared → Prop} {s : Shared} {env : Env} {h₀ : Heap} {L d : Addr} {m : Str → Option Value} {news : Led} {g : Obj → Led} {o : Obj} {Q : Value → Shared → Prop}
theorem made_bytes {vs : List (Value × Value)} {kvs kvs' : List (List UInt8 × Value)} (F : Fr h₀ L s.heap m) (N : News h₀ L s.heap news) (U : UpdF d o news g) (hd : o.IsDictOf (bytesKind prog w) []) (hc : PySem.Carries (bytesKind prog w) vs kvs) (hmg : merged [] kvs = kvs')
    (h : ∀ h' o', Fr h₀ L h' m → News h₀ L h' (g o') → o'.IsDictOf (bytesKind prog w) kvs' → Q (.ref d) { s with heap := h', toks := s.toks + vs.length }) : KdnMade prog w (bytesKind prog w) d Q vs s := by
  obtain ⟨pre, post, rfl, hg, a, b⟩ := U.split
  have hm := N (d, o) (List.mem_append_right _ (.head _))
  refine ⟨kvs, hc, Heap.dictOf_iff.mpr ⟨o, hm.1, hd⟩, fun h' hmm hs => ?_⟩
  rw [hmg] at hmm
  obtain ⟨o', ho', hd'⟩ := Heap.dictOf_iff.mp hmm
  exact h h' o' (F.change hs hm.2.1 hm.2.2) (hg o' ▸ N.setIn a b hs ho') hd'
theorem item_bytes {value slice : PySem.Expr} {b : BA} {t : Tok} {v : Value} {kvs : List (List UInt8 × Value)} (N : News h₀ L s.heap news) (hp : (d, o) ∈ news) (hd : o.IsDictOf (bytesKind prog w) kvs) (hl : valueAt kvs b.toList = some v) (h : Q v { s with toks := s.toks + 1 })
    (hs : subscripted slice false (.ref d) (.bytes b t) = operate [.ref d, .bytes b t] (getItem (.ref d) (.bytes b t)) := by with_unfolding_all rfl) :
    wpAny (model prog w) A (subscriptTail value slice (.ref d) (.bytes b t)) Q E s :=
  have hD := kda_dict N hp hd
  tail_any hD.typeIs slot_dict_getitem.lookup (wpAny_getItem_of (bytesKind_is prog w b.toList t) hD.mapOf hl h) hs
end
end Mine
namespace Mine
theorem head_lt {d : Addr} {o : Obj} {r : Led} (h : ∀ p ∈ r, @LT.lt Nat _ p.1 d) : UpdF d o ((d, o) :: r) (fun o' => (d, o') :: r) := .head fun p hp => Nat.ne_of_lt (h p hp)
theorem plainK_size (nm : BA) (nl ba : Bool) : (plainK nm nl ba).size ≤ 2 := by
  unfold plainK
  repeat (first | decide | split)
end Mine
namespace Mine
def bPairs : List (Value × Value) → List (List UInt8 × Value)
  | [] => []
  | (k, v) :: r => (match k with | .bytes b _ => b.toList | _ => [], v) :: bPairs r
section
variable {prog : Program} {w : World} {A : Around} {E : Value → Shared → Prop} {s : Shared} {env : Env} {h₀ : Heap} {L d : Addr} {m : Str → Option Value} {news : Led} {g : Obj → Led} {o : Obj} {Q : Value → Shared → Prop}
theorem made_pairs {vs : List (Value × Value)} (F : Fr h₀ L s.heap m) (N : News h₀ L s.heap news) (U : UpdF d o news g) (hd : o.IsDictOf (bytesKind prog w) []) (hc : PySem.Carries (bytesKind prog w) vs (bPairs vs))
    (h : ∀ h' o', Fr h₀ L h' m → News h₀ L h' (g o') → o'.IsDictOf (bytesKind prog w) (merged [] (bPairs vs)) → Q (.ref d) { s with heap := h', toks := s.toks + vs.length }) : KdnMade prog w (bytesKind prog w) d Q vs s :=
  made_bytes F N U hd hc rfl h
end
end Mine
namespace Mine
/-- a tuple of the ledger or of the top -/
def RowAt (P : Params) (news : Led) (a : Addr) (vs : Array Value) : Prop := ∃ o : Obj, o.cls = .type "tuple" ∧ (∃ n, o.data = .seq vs n) ∧ ((a, o) ∈ news ∨ (Mine.hd.heap_1 P).lookup a = some o)
theorem RowAt.up {P : Params} {news : Led} {a : Addr} {vs : Array Value} {x : Addr × Obj} (R : RowAt P news a vs) : RowAt P (x :: news) a vs := by
  obtain ⟨o, h1, h2, h3 | h3⟩ := R
  · exact ⟨o, h1, h2, .inl (List.mem_cons_of_mem _ h3)⟩
  · exact ⟨o, h1, h2, .inr h3⟩
theorem row_item {w : World} {A : Around} {E : Value → Shared → Prop} {s : Shared} {h₀ : Heap} {L a : Addr} {m : Str → Option Value} {news : Led} {value slice : PySem.Expr} {vs : Array Value} {k : Int} {u : Tok} {j : Nat} {x : Value} {Q : Value → Shared → Prop}
    (N : News h₀ L s.heap news) (F : Fr h₀ L s.heap m) (X : (Mine.hd.heap_1 w.params).In h₀) (R : RowAt w.params news a vs) (hlo : -(2 ^ 63) ≤ k) (hhi : k < 2 ^ 63) (hj : seqIndex? k vs.size = some j) (hx : vs[j]? = some x) (h : Q x s)
    (hs : subscripted slice false (.ref a) (.int k u) = operate [.ref a, .int k u] (getItem (.ref a) (.int k u)) := by with_unfolding_all rfl) :
    wpAny (model PySem.Challenge.rw_pq1185_01.row.prog w) A (subscriptTail value slice (.ref a) (.int k u)) Q E s := by
  have ht : IsTup s.heap a vs := by
    obtain ⟨o, h1, h2, h3 | h3⟩ := R
    · exact ⟨o, (N _ h3).1, h1, h2⟩
    · exact ⟨o, F.keep _ _ (X _ _ h3), h1, h2⟩
  exact tail_any ht.typeIs slot_tuple_getitem.lookup (getItem_tuple ht hlo hhi hj hx h) hs
def dueL (fin : BA) (h e f : Int) : BA :=
  if e = 3 ∧ f / 2 % 2 = 0 then #[] else if ((lheldK h e f).toList == []) = true then #[27, 91] ++ #[] ++ fin else #[27, 91] ++ (#[49, 59] ++ lheldK h e f) ++ fin
def dueF (n h e f : Int) : BA :=
  if e = 3 ∧ f / 2 % 2 = 0 then #[] else if ((lheldK h e f).toList == []) = true then #[27, 91] ++ decB n ++ #[] ++ #[126] else #[27, 91] ++ decB n ++ (#[59] ++ lheldK h e f) ++ #[126]
def dueS (c h e f : Int) (pl : BA) : BA :=
  if e = 3 ∧ f / 2 % 2 = 0 then #[] else if ¬ f % 2 = 1 ∧ ¬ f / 8 % 2 = 1 then (if e < 3 then pl else #[])
  else if h / 2 = 0 ∧ ¬ f / 8 % 2 = 1 then (if e < 3 then sigB c else #[]) else lsignK c h e f
def dueN (ever : Bool) (cd h e f : Int) (pl : BA) : BA :=
  if e = 3 ∧ f / 2 % 2 = 0 then #[] else if ¬ f % 2 = 1 ∧ ¬ f / 8 % 2 = 1 then (if e < 3 then pl else #[])
  else if h = 0 ∧ ¬ f / 8 % 2 = 1 ∧ ¬ ever = true then (if e < 3 then pl else #[]) else uK (decB cd) (lheldK h e f) #[]
end Mine
namespace Mine
def everB (nm : BA) : Bool := (nm.toList == [69, 115, 99, 97, 112, 101]) || (nm.toList == [75, 80, 69, 110, 116, 101, 114])
end Mine
namespace Mine
theorem ite_strT {x y : Str} {A B : Prop} (h : (x == y) = true) (a : A) : if (x == y) = true then A else B := by rw [if_pos h]; exact a
theorem ite_strF {x y : Str} {A B : Prop} (h : (x == y) = false) (b : B) : if (x == y) = true then A else B := by rw [if_neg (ne_true_of_eq_false h)]; exact b
/-- a tuple of two of the ledger or of the top -/
def PairAt (P : Params) (news : Led) (a : Addr) (x y : Value) : Prop := RowAt P news a #[x, y]
theorem PairAt.up {P : Params} {news : Led} {a : Addr} {v v' : Value} {x : Addr × Obj} (R : PairAt P news a v v') : PairAt P (x :: news) a v v' := RowAt.up R
section
variable {w : World} {A : Around} {E : Value → Shared → Prop} {s : Shared} {h₀ : Heap} {L a : Addr} {m : Str → Option Value} {news : Led} {value slice : PySem.Expr} {u : Tok} {x y : Value} {Q : Value → Shared → Prop}
theorem pair_fst (N : News h₀ L s.heap news) (F : Fr h₀ L s.heap m) (X : (Mine.hd.heap_1 w.params).In h₀) (R : PairAt w.params news a x y) (h : Q x s)
    (hs : subscripted slice false (.ref a) (.int 0 u) = operate [.ref a, .int 0 u] (getItem (.ref a) (.int 0 u)) := by with_unfolding_all rfl) :
    wpAny (model PySem.Challenge.rw_pq1185_01.row.prog w) A (subscriptTail value slice (.ref a) (.int 0 u)) Q E s :=
  row_item N F X R (by decide) (by decide) rfl rfl h hs
theorem pair_snd (N : News h₀ L s.heap news) (F : Fr h₀ L s.heap m) (X : (Mine.hd.heap_1 w.params).In h₀) (R : PairAt w.params news a x y) (h : Q y s)
    (hs : subscripted slice false (.ref a) (.int 1 u) = operate [.ref a, .int 1 u] (getItem (.ref a) (.int 1 u)) := by with_unfolding_all rfl) :
    wpAny (model PySem.Challenge.rw_pq1185_01.row.prog w) A (subscriptTail value slice (.ref a) (.int 1 u)) Q E s :=
  row_item N F X R (by decide) (by decide) rfl rfl h hs
end
/-- a cut behind a statement: where it goes on, C holds of the state; where it returns, what was asked is asked -/
def CutP (C : Shared → Prop) (Q : Flow → Shared → Prop) (fl : Flow) (s : Shared) : Prop := match fl with
  | .next => C s
  | fl => Q fl s
def CutC {X : Type} (s : Shared) (g : Heap) (L : Addr) (μ : X → Str → Option Value) (news : Led) (P : X → Prop) (s' : Shared) : Prop :=
  ∃ h' tk' x, s' = { s with heap := h', toks := tk' } ∧ Fr g L h' (μ x) ∧ News g L h' news ∧ P x
theorem cut_go {M : Model} {A : Around} {st : Stmt} {env : Env} {Q : Flow → Shared → Prop} {E : Value → Shared → Prop} {s : Shared} {X : Type} {g : Heap} {L : Addr} (μ : X → Str → Option Value) {news : Led} (P : X → Prop)
    (h : wpAny M A (exec st env) (CutP (CutC s g L μ news P) Q) E s)
    (k : ∀ h' tk' x, Fr g L h' (μ x) → News g L h' news → P x → Q .next { s with heap := h', toks := tk' }) : wpAny M A (exec st env) Q E s := by
  refine wpAny_mono h (fun fl s' hq => ?_) fun _ _ e => e
  cases fl with
  | next =>
    obtain ⟨h', tk', x, rfl, F, N, p⟩ := hq
    exact k h' tk' x F N p
  | ret v => exact hq
  | brk => exact hq
  | cont => exact hq
theorem cut_end {X : Type} {s : Shared} {g : Heap} {L : Addr} {μ : X → Str → Option Value} {news news' : Led} {P : X → Prop} {Q : Flow → Shared → Prop} {h' : Heap} {tk' : Nat} {m : Str → Option Value}
    (F : Fr g L h' m) (N : News g L h' news') (hn : ∀ p ∈ news, p ∈ news') (x : X) (e : m = μ x) (p : P x) : CutP (CutC s g L μ news P) Q .next { s with heap := h', toks := tk' } := by
  subst e
  exact ⟨h', tk', x, rfl, F, fun p hp => N p (hn p hp), p⟩
end Mine
namespace Mine
theorem cut_same {M : Model} {A : Around} {st : Stmt} {env : Env} {Q : Flow → Shared → Prop} {E : Value → Shared → Prop} {s : Shared} {g : Heap} {L : Addr} {m : Str → Option Value} {news : Led} (P : Prop)
    (_ : Fr g L s.heap m) (_ : News g L s.heap news)
    (h : wpAny M A (exec st env) (CutP (CutC s g L (fun _ : Unit => m) news (fun _ => P)) Q) E s)
    (k : ∀ h' tk', Fr g L h' m → News g L h' news → P → Q .next { s with heap := h', toks := tk' }) : wpAny M A (exec st env) Q E s :=
  cut_go _ _ h fun h' tk' _ F N p => k h' tk' F N p
theorem cut_one {M : Model} {A : Around} {st : Stmt} {env : Env} {Q : Flow → Shared → Prop} {E : Value → Shared → Prop} {s : Shared} {g : Heap} {L : Addr} {m : Str → Option Value} {news : Led} (n : Str) (b : BA)
    (_ : Fr g L s.heap m) (_ : News g L s.heap news)
    (h : wpAny M A (exec st env) (CutP (CutC s g L (fun (x : Tok × BA) y => if y = n then some (.bytes x.2 x.1) else m y) news (fun x => x.2 = b)) Q) E s)
    (k : ∀ h' tk' t, Fr g L h' (fun y => if y = n then some (.bytes b t) else m y) → News g L h' news → Q .next { s with heap := h', toks := tk' }) : wpAny M A (exec st env) Q E s :=
  cut_go _ _ h fun h' tk' x F N p => by
    obtain ⟨t, b'⟩ := x
    dsimp only at F p
    subst p
    exact k h' tk' t F N
theorem cut_three {M : Model} {A : Around} {st : Stmt} {env : Env} {Q : Flow → Shared → Prop} {E : Value → Shared → Prop} {s : Shared} {g : Heap} {L : Addr} {m : Str → Option Value} {news : Led} (n1 n2 n3 : Str) (b : BA) (c d : Bool)
    (_ : Fr g L s.heap m) (_ : News g L s.heap news)
    (h : wpAny M A (exec st env) (CutP (CutC s g L (fun (x : Tok × BA × Bool × Bool) y => if y = n1 then some (.bytes x.2.1 x.1) else if y = n2 then some (.bool x.2.2.1) else if y = n3 then some (.bool x.2.2.2) else m y) news (fun x => x.2.1 = b ∧ x.2.2.1 = c ∧ x.2.2.2 = d)) Q) E s)
    (k : ∀ h' tk' t, Fr g L h' (fun y => if y = n1 then some (.bytes b t) else if y = n2 then some (.bool c) else if y = n3 then some (.bool d) else m y) → News g L h' news → Q .next { s with heap := h', toks := tk' }) : wpAny M A (exec st env) Q E s :=
  cut_go _ _ h fun h' tk' x F N p => by
    obtain ⟨t, b', c', d'⟩ := x
    dsimp only at F p
    obtain ⟨rfl, rfl, rfl⟩ := p
    exact k h' tk' t F N
theorem cut_two {M : Model} {A : Around} {st : Stmt} {env : Env} {Q : Flow → Shared → Prop} {E : Value → Shared → Prop} {s : Shared} {g : Heap} {L : Addr} {m : Str → Option Value} {news : Led} (n2 n3 : Str) (c d : Bool)
    (_ : Fr g L s.heap m) (_ : News g L s.heap news)
    (h : wpAny M A (exec st env) (CutP (CutC s g L (fun (x : Bool × Bool) y => if y = n2 then some (.bool x.1) else if y = n3 then some (.bool x.2) else m y) news (fun x => x.1 = c ∧ x.2 = d)) Q) E s)
    (k : ∀ h' tk', Fr g L h' (fun y => if y = n2 then some (.bool c) else if y = n3 then some (.bool d) else m y) → News g L h' news → Q .next { s with heap := h', toks := tk' }) : wpAny M A (exec st env) Q E s :=
  cut_go _ _ h fun h' tk' x F N p => by
    obtain ⟨c', d'⟩ := x
    dsimp only at F p
    obtain ⟨rfl, rfl⟩ := p
    exact k h' tk' F N
end Mine
namespace Mine
theorem dueL_size {fin : BA} {h e f : Int} (hf : fin.size ≤ 1) : (dueL fin h e f).size ≤ 40 := by
  have h1 := lheldK_size h e f
  unfold dueL
  repeat (first | decide | (simp only [Array.size_append, List.size_toArray, List.length_cons, List.length_nil]; omega) | split)
theorem dueF_size {n h e f : Int} : (dueF n h e f).size ≤ 40 := by
  have h1 := lheldK_size h e f
  have h2 := decB_size n
  unfold dueF
  repeat (first | decide | (simp only [Array.size_append, List.size_toArray, List.length_cons, List.length_nil]; omega) | split)
theorem dueS_size {c h e f : Int} {pl : BA} (hp : pl.size ≤ 5) : (dueS c h e f pl).size ≤ 40 := by
  have h1 := lsignK_size c h e f
  have h2 := sigB_size5 c
  unfold dueS
  repeat (first | decide | omega | split)
theorem dueN_size {ev : Bool} {cd h e f : Int} {pl : BA} (hp : pl.size ≤ 5) : (dueN ev cd h e f pl).size ≤ 40 := by
  have h1 : (uK (decB cd) (lheldK h e f) #[]).size ≤ 40 := uK_size (Nat.le_trans (decB_size cd) (by decide)) (lheldK_size _ _ _) (by decide)
  unfold dueN
  repeat (first | decide | omega | split)
end Mine
namespace Mine
theorem in_pairB {prog : Program} {w : World} {A : Around} {E : Value → Shared → Prop} {s : Shared} {h₀ : Heap} {L D : Addr} {news : Led} {o : Obj} {nm b1 b2 : BA} {t t1 t2 : Tok} {n : Nat} {Q : Value → Shared → Prop}
    (N : News h₀ L s.heap news) (hm : (D, o) ∈ news) (hc : o.cls = .type "tuple") (hd : o.data = .seq #[.bytes b1 t1, .bytes b2 t2] n)
    (h : Q (.bool ((nm.toList == b1.toList) || (nm.toList == b2.toList))) s) : wpAny (model prog w) A (compareOp .In (.bytes nm t) (.ref D)) Q E s := by
  refine SeqAt.in_tupleAt (items := #[.bytes b1 t1, .bytes b2 t2]) (fun y => match y with | .bytes b _ => decide (b.toList = nm.toList) | _ => false) ⟨o, (N _ hm).1, hc, n, hd⟩ ?_ ?_
  · intro y hy
    simp only [Array.mem_def, List.mem_cons, List.not_mem_nil, or_false] at hy
    rcases hy with e | e
    · subst e
      exact fun prog w E Q hq => eqBool_bytes hq
    · subst e
      exact fun prog w E Q hq => eqBool_bytes hq
  · have e : ((#[Value.bytes b1 t1, Value.bytes b2 t2] : Array Value).any fun y => match y with | .bytes b _ => decide (b.toList = nm.toList) | _ => false) = ((nm.toList == b1.toList) || (nm.toList == b2.toList)) := by
      rw [Bool.eq_iff_iff]
      simp only [List.any_toArray, List.any_cons, List.any_nil, Bool.or_false, Bool.or_eq_true, decide_eq_true_eq, beq_iff_eq]
      constructor
      · rintro (x | x)
        · exact .inl x.symm
        · exact .inr x.symm
      · rintro (x | x)
        · exact .inl x.symm
        · exact .inr x.symm
    rw [e]
    exact h
end Mine
namespace Mine
theorem reput {n : Str} {v v0 : Value} {m0 : Str → Option Value} : (fun y => if y = n then some v else if y = n then some v0 else m0 y) = (fun y => if y = n then some v else m0 y) := by
  funext y
  by_cases h : y = n
  · rw [if_pos h, if_pos h]
  · rw [if_neg h, if_neg h, if_neg h]
theorem cut_re {M : Model} {A : Around} {st : Stmt} {env : Env} {Q : Flow → Shared → Prop} {E : Value → Shared → Prop} {s : Shared} {g : Heap} {L : Addr} {m : Str → Option Value} {news : Led} {n : Str} {v0 : Value} (b : BA)
    (_ : Fr g L s.heap (fun y => if y = n then some v0 else m y)) (_ : News g L s.heap news)
    (h : wpAny M A (exec st env) (CutP (CutC s g L (fun (x : Tok × BA) y => if y = n then some (.bytes x.2 x.1) else m y) news (fun x => x.2 = b)) Q) E s)
    (k : ∀ h' tk' t, Fr g L h' (fun y => if y = n then some (.bytes b t) else m y) → News g L h' news → Q .next { s with heap := h', toks := tk' }) : wpAny M A (exec st env) Q E s :=
  cut_go _ _ h fun h' tk' x F N p => by
    obtain ⟨t, b'⟩ := x
    dsimp only at F p
    subst p
    exact k h' tk' t F N
end Mine
namespace Mine
section
variable {s : Shared} {g : Heap} {L : Addr} {m : Str → Option Value} {news news' : Led} {Q : Flow → Shared → Prop} {h' : Heap} {tk' : Nat} {n n1 n2 n3 : Str} {b b' : BA} {t : Tok} {v0 : Value} {c c' d d' : Bool}
theorem cut_end0 {P : Prop} (F : Fr g L h' m) (N : News g L h' news') (hn : ∀ p ∈ news, p ∈ news') (p : P) : CutP (CutC s g L (fun _ : Unit => m) news (fun _ => P)) Q .next { s with heap := h', toks := tk' } :=
  cut_end F N hn () rfl p
theorem cut_end1 (F : Fr g L h' (fun y => if y = n then some (.bytes b' t) else m y)) (N : News g L h' news') (hn : ∀ p ∈ news, p ∈ news') (e : b' = b) :
    CutP (CutC s g L (fun (x : Tok × BA) y => if y = n then some (.bytes x.2 x.1) else m y) news (fun x => x.2 = b)) Q .next { s with heap := h', toks := tk' } := cut_end F N hn (t, b') rfl e
theorem cut_end1r (F : Fr g L h' (fun y => if y = n then some (.bytes b' t) else if y = n then some v0 else m y)) (N : News g L h' news') (hn : ∀ p ∈ news, p ∈ news') (e : b' = b) :
    CutP (CutC s g L (fun (x : Tok × BA) y => if y = n then some (.bytes x.2 x.1) else m y) news (fun x => x.2 = b)) Q .next { s with heap := h', toks := tk' } := cut_end1 (reput ▸ F) N hn e
theorem cut_end2 (F : Fr g L h' (fun y => if y = n2 then some (.bool c') else if y = n3 then some (.bool d') else m y)) (N : News g L h' news') (hn : ∀ p ∈ news, p ∈ news') (e : c' = c ∧ d' = d) :
    CutP (CutC s g L (fun (x : Bool × Bool) y => if y = n2 then some (.bool x.1) else if y = n3 then some (.bool x.2) else m y) news (fun x => x.1 = c ∧ x.2 = d)) Q .next { s with heap := h', toks := tk' } := cut_end F N hn (c', d') rfl e
theorem cut_end3 (F : Fr g L h' (fun y => if y = n1 then some (.bytes b' t) else if y = n2 then some (.bool c') else if y = n3 then some (.bool d') else m y)) (N : News g L h' news') (hn : ∀ p ∈ news, p ∈ news') (e : b' = b ∧ c' = c ∧ d' = d) :
    CutP (CutC s g L (fun (x : Tok × BA × Bool × Bool) y => if y = n1 then some (.bytes x.2.1 x.1) else if y = n2 then some (.bool x.2.2.1) else if y = n3 then some (.bool x.2.2.2) else m y) news (fun x => x.2.1 = b ∧ x.2.2.1 = c ∧ x.2.2.2 = d)) Q .next { s with heap := h', toks := tk' } :=
  cut_end F N hn (t, b', c', d') rfl e
end
end Mine
namespace Mine
def CutD {X : Type} (s : Shared) (g : Heap) (L : Addr) (μ : X → Str → Option Value) (ν : X → Led) (P : X → Prop) (s' : Shared) : Prop :=
  ∃ h' tk' x, s' = { s with heap := h', toks := tk' } ∧ Fr g L h' (μ x) ∧ News g L h' (ν x) ∧ P x
theorem cutD_go {M : Model} {A : Around} {st : Stmt} {env : Env} {Q : Flow → Shared → Prop} {E : Value → Shared → Prop} {s : Shared} {X : Type} {g : Heap} {L : Addr} (μ : X → Str → Option Value) (ν : X → Led) (P : X → Prop)
    (h : wpAny M A (exec st env) (CutP (CutD s g L μ ν P) Q) E s)
    (k : ∀ h' tk' x, Fr g L h' (μ x) → News g L h' (ν x) → P x → Q .next { s with heap := h', toks := tk' }) : wpAny M A (exec st env) Q E s := by
  refine wpAny_mono h (fun fl s' hq => ?_) fun _ _ e => e
  cases fl with
  | next =>
    obtain ⟨h', tk', x, rfl, F, N, p⟩ := hq
    exact k h' tk' x F N p
  | ret v => exact hq
  | brk => exact hq
  | cont => exact hq
section
variable {M : Model} {A : Around} {st : Stmt} {env : Env} {Q : Flow → Shared → Prop} {E : Value → Shared → Prop} {s : Shared} {g : Heap} {L : Addr} {m : Str → Option Value} {news news' : Led} {h' : Heap} {tk' : Nat}
abbrev spotO (a : Int) (ta : Tok) (k : Nat) : Obj := W.listOf #[.int a ta] k
/-- two names made of draws -/
theorem cut_draws (n1 n2 : Str) (u : Obj → Led) (a : Int) (P : Int → Int → Prop) (_ : Fr g L s.heap m)
    (h : wpAny M A (exec st env) (CutP (CutD s g L (fun (x : (Int × Tok) × (Int × Tok) × Tok × Nat) y => if y = n1 then some (.int x.1.1 x.1.2) else if y = n2 then some (.int x.2.1.1 x.2.1.2) else m y) (fun x => u (spotO a x.2.2.1 x.2.2.2)) (fun x => P x.1.1 x.2.1.1)) Q) E s)
    (k : ∀ h' tk' v1 t1 v2 t2 ta k, Fr g L h' (fun y => if y = n1 then some (.int v1 t1) else if y = n2 then some (.int v2 t2) else m y) → News g L h' (u (spotO a ta k)) → P v1 v2 → Q .next { s with heap := h', toks := tk' }) : wpAny M A (exec st env) Q E s :=
  cutD_go _ _ _ h fun h' tk' x F N p => by
    obtain ⟨⟨v1, t1⟩, ⟨v2, t2⟩, ta, kk⟩ := x
    exact k h' tk' v1 t1 v2 t2 ta kk F N p
theorem cut_endD {n1 n2 : Str} {u : Obj → Led} {a a' : Int} {P : (Int × Tok) × (Int × Tok) × Tok × Nat → Prop} {v1 v2 : Int} {t1 t2 ta : Tok} {k : Nat} (F : Fr g L h' (fun y => if y = n1 then some (.int v1 t1) else if y = n2 then some (.int v2 t2) else m y)) (N : News g L h' news) (hn : ∀ p ∈ u (spotO a' ta k), p ∈ news) (e : a' = a) (p : P ((v1, t1), (v2, t2), ta, k)) :
    CutP (CutD s g L (fun (x : (Int × Tok) × (Int × Tok) × Tok × Nat) y => if y = n1 then some (.int x.1.1 x.1.2) else if y = n2 then some (.int x.2.1.1 x.2.1.2) else m y) (fun x => u (spotO a x.2.2.1 x.2.2.2)) P) Q .next { s with heap := h', toks := tk' } := by
  subst e
  exact ⟨h', tk', ((v1, t1), (v2, t2), ta, k), rfl, F, fun p hp => N p (hn p hp), p⟩
/-- one name made of a draw -/
theorem cut_draw1 (n1 : Str) (u : Obj → Led) (a : Int) (P : Int → Prop) (_ : Fr g L s.heap m)
    (h : wpAny M A (exec st env) (CutP (CutD s g L (fun (x : (Int × Tok) × Tok × Nat) y => if y = n1 then some (.int x.1.1 x.1.2) else m y) (fun x => u (spotO a x.2.1 x.2.2)) (fun x => P x.1.1)) Q) E s)
    (k : ∀ h' tk' v1 t1 ta k, Fr g L h' (fun y => if y = n1 then some (.int v1 t1) else m y) → News g L h' (u (spotO a ta k)) → P v1 → Q .next { s with heap := h', toks := tk' }) : wpAny M A (exec st env) Q E s :=
  cutD_go _ _ _ h fun h' tk' x F N p => by
    obtain ⟨⟨v1, t1⟩, ta, kk⟩ := x
    exact k h' tk' v1 t1 ta kk F N p
theorem cut_endD1 {n1 : Str} {u : Obj → Led} {a a' : Int} {P : (Int × Tok) × Tok × Nat → Prop} {v1 : Int} {t1 ta : Tok} {k : Nat} (F : Fr g L h' (fun y => if y = n1 then some (.int v1 t1) else m y)) (N : News g L h' news) (hn : ∀ p ∈ u (spotO a' ta k), p ∈ news) (e : a' = a) (p : P ((v1, t1), ta, k)) :
    CutP (CutD s g L (fun (x : (Int × Tok) × Tok × Nat) y => if y = n1 then some (.int x.1.1 x.1.2) else m y) (fun x => u (spotO a x.2.1 x.2.2)) P) Q .next { s with heap := h', toks := tk' } := by
  subst e
  exact ⟨h', tk', ((v1, t1), ta, k), rfl, F, fun p hp => N p (hn p hp), p⟩
theorem cut_int (n : Str) (P : Int → Prop) (_ : Fr g L s.heap m) (_ : News g L s.heap news)
    (h : wpAny M A (exec st env) (CutP (CutC s g L (fun (x : Tok × Int) y => if y = n then some (.int x.2 x.1) else m y) news (fun x => P x.2)) Q) E s)
    (k : ∀ h' tk' t v, Fr g L h' (fun y => if y = n then some (.int v t) else m y) → News g L h' news → P v → Q .next { s with heap := h', toks := tk' }) : wpAny M A (exec st env) Q E s :=
  cut_go _ _ h fun h' tk' x F N p => k h' tk' x.1 x.2 F N p
theorem cut_intr {n : Str} {v0 : Value} (P : Int → Prop) (_ : Fr g L s.heap (fun y => if y = n then some v0 else m y)) (_ : News g L s.heap news)
    (h : wpAny M A (exec st env) (CutP (CutC s g L (fun (x : Tok × Int) y => if y = n then some (.int x.2 x.1) else m y) news (fun x => P x.2)) Q) E s)
    (k : ∀ h' tk' t v, Fr g L h' (fun y => if y = n then some (.int v t) else m y) → News g L h' news → P v → Q .next { s with heap := h', toks := tk' }) : wpAny M A (exec st env) Q E s :=
  cut_go _ _ h fun h' tk' x F N p => k h' tk' x.1 x.2 F N p
theorem cut_endI {n : Str} {P : Tok × Int → Prop} {v : Int} {t : Tok} (F : Fr g L h' (fun y => if y = n then some (.int v t) else m y)) (N : News g L h' news') (hn : ∀ p ∈ news, p ∈ news') (p : P (t, v)) :
    CutP (CutC s g L (fun (x : Tok × Int) y => if y = n then some (.int x.2 x.1) else m y) news P) Q .next { s with heap := h', toks := tk' } := cut_end F N hn (t, v) rfl p
theorem cut_endIr {n : Str} {P : Tok × Int → Prop} {v : Int} {t : Tok} {v0 : Value} (F : Fr g L h' (fun y => if y = n then some (.int v t) else if y = n then some v0 else m y)) (N : News g L h' news') (hn : ∀ p ∈ news, p ∈ news') (p : P (t, v)) :
    CutP (CutC s g L (fun (x : Tok × Int) y => if y = n then some (.int x.2 x.1) else m y) news P) Q .next { s with heap := h', toks := tk' } := cut_endI (reput ▸ F) N hn p
end
end Mine
namespace Mine
theorem bits8 {v : Int} (h0 : 0 ≤ v) (h1 : v < 8) : v = 0 ∨ v = 1 ∨ v = 2 ∨ v = 3 ∨ v = 4 ∨ v = 5 ∨ v = 6 ∨ v = 7 := by omega
section
variable {prog : Program} {w : World} {A : Around} {E : Value → Shared → Prop} {s : Shared} {value slice : PySem.Expr} {l : Addr} {u : Tok} {v : Int} {Q : Value → Shared → Prop}
theorem sub3 (h0 : 0 ≤ v) (h1 : v < 3) (a : wpAny (model prog w) A (subscriptTail value slice (.ref l) (.int 0 u)) Q E s) (b : wpAny (model prog w) A (subscriptTail value slice (.ref l) (.int 1 u)) Q E s) (c : wpAny (model prog w) A (subscriptTail value slice (.ref l) (.int 2 u)) Q E s) :
    wpAny (model prog w) A (subscriptTail value slice (.ref l) (.int v u)) Q E s := by
  have : v = 0 ∨ v = 1 ∨ v = 2 := by omega
  rcases this with e | e | e <;> subst e <;> assumption
theorem sub4 (h0 : 0 ≤ v) (h1 : v < 4) (a : wpAny (model prog w) A (subscriptTail value slice (.ref l) (.int 0 u)) Q E s) (b : wpAny (model prog w) A (subscriptTail value slice (.ref l) (.int 1 u)) Q E s) (c : wpAny (model prog w) A (subscriptTail value slice (.ref l) (.int 2 u)) Q E s)
    (d : wpAny (model prog w) A (subscriptTail value slice (.ref l) (.int 3 u)) Q E s) :
    wpAny (model prog w) A (subscriptTail value slice (.ref l) (.int v u)) Q E s := by
  have : v = 0 ∨ v = 1 ∨ v = 2 ∨ v = 3 := by omega
  rcases this with e | e | e | e <;> subst e <;> assumption
end
end Mine
namespace Mine
abbrev tup2 (a b : Value) : Obj := { cls := .type "tuple", data := .seq #[a, b] }
abbrev tup4 (a b c d : Value) : Obj := { cls := .type "tuple", data := .seq #[a, b, c, d] }
def esc (h : Int) : BA := if h / 2 % 2 = 1 then #[27] else #[]
def SignIs (hc : Bool) (c h : Int) (pl : BA) : Prop := 0 ≤ h ∧ h ≤ 7 ∧
  (((c = 97 ∨ c = 122 ∨ c = 109) ∧ (h % 2 = 1 → 4 ≤ h) ∧ (hc = true ∨ h % 2 = 0) ∧ pl = esc h ++ (if 4 ≤ h then byteArr [c % 32] else sigB c))
  ∨ ((c = 65 ∨ c = 90 ∨ c = 77) ∧ (h = 0 ∨ h = 2) ∧ pl = esc h ++ sigB c)
  ∨ ((c = 48 ∨ c = 233 ∨ c = 12354 ∨ c = 33) ∧ (hc = true ∨ h = 0 ∨ h = 2) ∧ pl = esc h ++ sigB c))
def rowsLL : List (BA × BA) := [(#[85, 112], #[65]), (#[68, 111, 119, 110], #[66]), (#[82, 105, 103, 104, 116], #[67]), (#[76, 101, 102, 116], #[68]), (#[69, 110, 100], #[70]), (#[72, 111, 109, 101], #[72]), (#[70, 49], #[80]), (#[70, 50], #[81]), (#[70, 52], #[83])]
def rowsFF : List (BA × Int) := [(#[73, 110, 115, 101, 114, 116], 2), (#[68, 101, 108, 101, 116, 101], 3), (#[80, 97, 103, 101, 85, 112], 5), (#[80, 97, 103, 101, 68, 111, 119, 110], 6), (#[70, 51], 13), (#[70, 53], 15), (#[70, 54], 17), (#[70, 55], 18), (#[70, 56], 19), (#[70, 57], 20), (#[70, 49, 48], 21), (#[70, 49, 49], 23), (#[70, 49, 50], 24), (#[70, 49, 51], 25), (#[70, 49, 52], 26), (#[70, 49, 53], 28), (#[70, 49, 54], 29), (#[70, 49, 55], 31), (#[70, 49, 56], 32), (#[70, 49, 57], 33), (#[70, 50, 48], 34)]
def padS : List UInt8 := [48, 49, 50, 51, 52, 53, 54, 55, 56, 57, 46, 47, 42, 45, 43, 13, 61, 44]
inductive KeyIs (P : Params) (hc nl ba : Bool) : Value → Led → Prop
  | sign {a ra : Addr} {ts tb tc th tp : Tok} {c h : Int} {pl : BA} : @LT.lt Nat _ ra a → SignIs hc c h pl → KeyIs P hc nl ba (.ref a) [(a, tup4 (.str (Str.ofString "sign") ts) (.ref ra) (.int h th) (.bytes pl tp)), (ra, tup2 (.bytes #[] tb) (.int c tc))]
  | letter {a ra : Addr} {ts tn tf th tp : Tok} {h : Int} {nm fin : BA} : PairAt P [] ra (.bytes nm tn) (.bytes fin tf) → (nm, fin) ∈ rowsLL → 0 ≤ h ∧ h ≤ 7 → KeyIs P hc nl ba (.ref a) [(a, tup4 (.str (Str.ofString "letter") ts) (.ref ra) (.int h th) (.bytes #[] tp))]
  | figure {a ra : Addr} {ts tn tf th tp : Tok} {h n : Int} {nm : BA} : PairAt P [] ra (.bytes nm tn) (.int n tf) → (nm, n) ∈ rowsFF → 0 ≤ h ∧ h ≤ 7 → KeyIs P hc nl ba (.ref a) [(a, tup4 (.str (Str.ofString "figure") ts) (.ref ra) (.int h th) (.bytes #[] tp))]
  | coded {a ra : Addr} {ts tn tf th tp : Tok} {h n : Int} {nm : BA} : PairAt P [] ra (.bytes nm tn) (.int n tf) → (nm, n) ∈ rowsC → (0 ≤ h ∧ h ≤ 7) ∧ (hc = true ∨ h = 0) → KeyIs P hc nl ba (.ref a) [(a, tup4 (.str (Str.ofString "named") ts) (.ref ra) (.int h th) (.bytes (plainK nm nl ba) tp))]
  | pad {a ra : Addr} {ts tb tc th tp : Tok} {i h : Int} {nm : BA} : @LT.lt Nat _ ra a → 0 ≤ i ∧ i < 18 → (hc = true ∨ i < 15) → (0 ≤ h ∧ h ≤ 7) ∧ (hc = true ∨ h = 0) → (i = 15 ∧ nm = #[75, 80, 69, 110, 116, 101, 114] ∨ ¬ i = 15 ∧ nm = #[75, 80] ++ ((padS.drop i.toNat).take 1).toArray) →
      KeyIs P hc nl ba (.ref a) [(a, tup4 (.str (Str.ofString "named") ts) (.ref ra) (.int h th) (.bytes ((padS.drop i.toNat).take 1).toArray tp)), (ra, tup2 (.bytes nm tb) (.int (57399 + i) tc))]
def IsKeyed (P : Params) (hc nl ba : Bool) (at0 : Int) (r : Value) (ex : Led) (o : Obj) : Prop := ∃ at' ta k, o = spotO at' ta k ∧ at0 ≤ at' ∧ at' ≤ at0 + 3 ∧ KeyIs P hc nl ba r ex
end Mine
namespace Mine
theorem octK_size (c h : Int) : (if 4 ≤ h then byteArr [c % 32] else sigB c).size ≤ 3 := by
  split
  · simp [byteArr_size]
  · exact sigB_size c
end Mine
namespace Mine
theorem sp_far {d sp : Addr} {q o : Obj} {news : Led} {g : Obj → Led} (U : UpdF sp q news g) (h : ∀ p ∈ g o, p.1 < d) : @Ne Nat d sp := Nat.ne_of_gt (h _ (updF_at U o))
theorem sp_far0 {d sp : Addr} {q o : Obj} {news : Led} {g : Obj → Led} (U : UpdF sp q news g) (h : AllLt d (g o)) : @Ne Nat d sp := Nat.ne_of_gt (allLt_at h _ (updF_at U o))
end Mine
namespace Mine
def SgP (c0 h c g : Int) (v : Value) : Prop :=
  ((65 ≤ c0 ∧ c0 ≤ 90) ∧ c = c0 + 32 ∧ g = Builtin.bitOr h 1 ∧ ∃ t, v = .int c0 t) ∨
  (¬ (65 ≤ c0 ∧ c0 ≤ 90) ∧ ((97 ≤ c0 ∧ c0 ≤ 122) ∧ ¬ Builtin.bitAnd h 1 = 0) ∧ c = c0 ∧ g = h ∧ ∃ t, v = .int (c0 - 32) t) ∨
  (¬ (65 ≤ c0 ∧ c0 ≤ 90) ∧ ¬ ((97 ≤ c0 ∧ c0 ≤ 122) ∧ ¬ Builtin.bitAnd h 1 = 0) ∧ c = c0 ∧ g = h ∧ v = .none)
section
variable {M : Model} {A : Around} {st : Stmt} {env : Env} {Q : Flow → Shared → Prop} {E : Value → Shared → Prop} {s : Shared} {g : Heap} {L : Addr} {m m' : Str → Option Value} {news news' : Led} {h' : Heap} {tk' : Nat}
abbrev sgM (m : Str → Option Value) (x : (Int × Tok) × (Int × Tok) × Value) (y : Str) : Option Value := if y = Str.ofString "code" then some (.int x.1.1 x.1.2) else if y = Str.ofString "held" then some (.int x.2.1.1 x.2.1.2) else if y = Str.ofString "shifted" then some x.2.2 else m y
theorem cut_sg (P : Int → Int → Value → Prop) (_ : Fr g L s.heap m) (_ : News g L s.heap news)
    (h : wpAny M A (exec st env) (CutP (CutC s g L (sgM m) news (fun x => P x.1.1 x.2.1.1 x.2.2)) Q) E s)
    (k : ∀ h' tk' c tc d td v, Fr g L h' (fun y => if y = Str.ofString "code" then some (.int c tc) else if y = Str.ofString "held" then some (.int d td) else if y = Str.ofString "shifted" then some v else m y) → News g L h' news → P c d v → Q .next { s with heap := h', toks := tk' }) : wpAny M A (exec st env) Q E s :=
  cut_go _ _ h fun h' tk' x F N p => k h' tk' x.1.1 x.1.2 x.2.1.1 x.2.1.2 x.2.2 F N p
theorem cut_endS {P : Int → Int → Value → Prop} {c d : Int} {tc td : Tok} {v : Value} (F : Fr g L h' m') (N : News g L h' news') (hn : ∀ p ∈ news, p ∈ news') (e : ∀ y, m' y = sgM m ((c, tc), (d, td), v) y) (p : P c d v) :
    CutP (CutC s g L (sgM m) news (fun x => P x.1.1 x.2.1.1 x.2.2)) Q .next { s with heap := h', toks := tk' } := by
  have e' : m' = sgM m ((c, tc), (d, td), v) := funext e
  subst e'
  exact cut_end F N hn ((c, tc), (d, td), v) rfl p
end
section
variable {M : Model} {A : Around} {st : Stmt} {env : Env} {Q : Flow → Shared → Prop} {E : Value → Shared → Prop} {s : Shared} {g : Heap} {L : Addr} {m : Str → Option Value} {news news' : Led} {h' : Heap} {tk' : Nat}
theorem cut_bool (n : Str) (c : Bool) (_ : Fr g L s.heap m) (_ : News g L s.heap news)
    (h : wpAny M A (exec st env) (CutP (CutC s g L (fun (x : Bool) y => if y = n then some (.bool x) else m y) news (fun x => x = c)) Q) E s)
    (k : ∀ h' tk', Fr g L h' (fun y => if y = n then some (.bool c) else m y) → News g L h' news → Q .next { s with heap := h', toks := tk' }) : wpAny M A (exec st env) Q E s :=
  cut_go _ _ h fun h' tk' x F N p => by
    subst p
    exact k h' tk' F N
theorem cut_endB {n : Str} {b c : Bool} (F : Fr g L h' (fun y => if y = n then some (.bool b) else m y)) (N : News g L h' news') (hn : ∀ p ∈ news, p ∈ news') (e : b = c) :
    CutP (CutC s g L (fun (x : Bool) y => if y = n then some (.bool x) else m y) news (fun x => x = c)) Q .next { s with heap := h', toks := tk' } := cut_end F N hn b rfl e
end
end Mine
namespace Mine
abbrev tupN (l : List Value) : Obj := ⟨.type "tuple", none, .seq l.toArray 0, #[]⟩
theorem top_letters {P : Params} : (Mine.hd.heap_1 P).lookup 323 = some (tupN [.ref 314, .ref 315, .ref 316, .ref 317, .ref 318, .ref 319, .ref 320, .ref 321, .ref 322]) := by rfl
theorem top_figures {P : Params} : (Mine.hd.heap_1 P).lookup 345 = some (tupN [.ref 324, .ref 325, .ref 326, .ref 327, .ref 328, .ref 329, .ref 330, .ref 331, .ref 332, .ref 333, .ref 334, .ref 335, .ref 336, .ref 337, .ref 338, .ref 339, .ref 340, .ref 341, .ref 342, .ref 343, .ref 344]) := by rfl
theorem top_coded {P : Params} : (Mine.hd.heap_1 P).lookup 350 = some (tupN [.ref 346, .ref 347, .ref 348, .ref 349]) := by rfl
theorem pair_top {P : Params} {ra : Addr} {x y : Value} (e : (Mine.hd.heap_1 P).lookup ra = some (tupN [x, y])) : PairAt P [] ra x y := ⟨_, rfl, ⟨_, rfl⟩, .inr e⟩
def LetRow (P : Params) (v : Value) : Prop := ∃ ra nm fin tn tf, v = .ref ra ∧ PairAt P [] ra (.bytes nm tn) (.bytes fin tf) ∧ (nm, fin) ∈ rowsLL
def FigRow (P : Params) (v : Value) : Prop := ∃ ra nm n tn tf, v = .ref ra ∧ PairAt P [] ra (.bytes nm tn) (.int n tf) ∧ (nm, n) ∈ rowsFF
def CodRow (P : Params) (v : Value) : Prop := ∃ ra nm n tn tf, v = .ref ra ∧ PairAt P [] ra (.bytes nm tn) (.int n tf) ∧ (nm, n) ∈ rowsC
theorem let_rows {P : Params} : ∀ v ∈ ([.ref 314, .ref 315, .ref 316, .ref 317, .ref 318, .ref 319, .ref 320, .ref 321, .ref 322] : List Value), LetRow P v := by
  intro v hv
  simp only [List.mem_cons, List.not_mem_nil, or_false] at hv
  rcases hv with e | e | e | e | e | e | e | e | e <;> (subst e; exact ⟨_, _, _, _, _, rfl, pair_top (by rfl), by decide +kernel⟩)
theorem fig_rows {P : Params} : ∀ v ∈ ([.ref 324, .ref 325, .ref 326, .ref 327, .ref 328, .ref 329, .ref 330, .ref 331, .ref 332, .ref 333, .ref 334, .ref 335, .ref 336, .ref 337, .ref 338, .ref 339, .ref 340, .ref 341, .ref 342, .ref 343, .ref 344] : List Value), FigRow P v := by
  intro v hv
  simp only [List.mem_cons, List.not_mem_nil, or_false] at hv
  rcases hv with e | e | e | e | e | e | e | e | e | e | e | e | e | e | e | e | e | e | e | e | e <;> (subst e; exact ⟨_, _, _, _, _, rfl, pair_top (by rfl), by decide +kernel⟩)
theorem cod_rows {P : Params} : ∀ v ∈ ([.ref 346, .ref 347, .ref 348, .ref 349] : List Value), CodRow P v := by
  intro v hv
  simp only [List.mem_cons, List.not_mem_nil, or_false] at hv
  rcases hv with e | e | e | e <;> (subst e; exact ⟨_, _, _, _, _, rfl, pair_top (by rfl), by decide +kernel⟩)
section
variable {w : World} {A : Around} {E : Value → Shared → Prop} {s : Shared} {h₀ : Heap} {L a : Addr} {m : Str → Option Value} {value slice : PySem.Expr} {u : Tok} {Q : Value → Shared → Prop} {v : Int} {l : List Value} {R : Value → Prop}
theorem top_row (F : Fr h₀ L s.heap m) (X : (Mine.hd.heap_1 w.params).In h₀) (hl : (Mine.hd.heap_1 w.params).lookup a = some (tupN l)) (hR : ∀ x ∈ l, R x) (h0 : 0 ≤ v) (h1 : v < l.length) (hz : l.length ≤ 30) (h : ∀ x, R x → Q x s)
    (hs : subscripted slice false (.ref a) (.int v u) = operate [.ref a, .int v u] (getItem (.ref a) (.int v u)) := by with_unfolding_all rfl) :
    wpAny (model PySem.Challenge.rw_pq1185_01.row.prog w) A (subscriptTail value slice (.ref a) (.int v u)) Q E s := by
  have hlt : v.toNat < l.length := by omega
  have hj : seqIndex? v l.length = some v.toNat := by
    unfold seqIndex?
    have n1 : ¬ v < 0 := by omega
    simp only [n1, if_false]
    rw [if_pos (by simp only [Bool.and_eq_true, decide_eq_true_eq]; omega)]
  exact item_tupleT (l := l) ⟨_, F.keep _ _ (X _ _ hl), rfl, 0, rfl⟩ (by omega) (by omega) hj (List.getElem?_eq_getElem hlt) (h _ (hR _ (List.getElem_mem hlt))) hs
end
end Mine
namespace Mine
theorem PairAt.nil {P : Params} {news : Led} {a : Addr} {x y : Value} (R : PairAt P [] a x y) : PairAt P news a x y := by
  obtain ⟨o, h1, h2, h3 | h3⟩ := R
  · exact absurd h3 List.not_mem_nil
  · exact ⟨o, h1, h2, .inr h3⟩
theorem cod_names {nm : BA} {n : Int} (h : (nm, n) ∈ rowsC) : nm = #[84, 97, 98] ∨ nm = #[69, 110, 116, 101, 114] ∨ nm = #[66, 83, 112, 97, 99, 101] ∨ nm = #[69, 115, 99, 97, 112, 101] := by
  simp only [rowsC, List.mem_cons, Prod.mk.injEq, List.not_mem_nil, or_false] at h
  rcases h with h | h | h | h
  · exact .inl h.1
  · exact .inr (.inl h.1)
  · exact .inr (.inr (.inr h.1))
  · exact .inr (.inr (.inl h.1))
def padP (v : Int) : BA := ((padS.drop v.toNat).take 1).toArray
theorem padP_size (v : Int) : (padP v).size ≤ 1 := by
  unfold padP
  simp only [List.size_toArray, List.length_take]
  omega
abbrev padA : BA := #[48, 49, 50, 51, 52, 53, 54, 55, 56, 57, 46, 47, 42, 45, 43, 13, 61, 44]
theorem pad_slices : ∀ k ∈ List.range 18, KBy.whole padA (some (k : Int)) (some ((k : Int) + 1)) = false ∧ KBy.picked padA (some (k : Int)) (some ((k : Int) + 1)) = padP (k : Int) := by decide +kernel
theorem pad_slice {v : Int} (h0 : 0 ≤ v) (h1 : v < 18) : KBy.whole padA (some v) (some (v + 1)) = false ∧ KBy.picked padA (some v) (some (v + 1)) = padP v := by
  obtain ⟨k, rfl⟩ := Int.eq_ofNat_of_zero_le h0
  exact pad_slices k (List.mem_range.mpr (Int.ofNat_lt.mp h1))
theorem slice_pad {prog : Program} {w : World} {A : Around} {E : Value → Shared → Prop} {s : Shared} {value slice : PySem.Expr} {t t1 t2 : Tok} {h₀ : Heap} {L : Addr} {m : PySem.Str → Option Value} {news : Led} {v : Int} {Q : Value → Shared → Prop}
    (hF : Fr h₀ L s.heap m) (hN : News h₀ L s.heap news) (h0 : 0 ≤ v) (h1 : v < 18)
    (h : ∀ h' t' k, Fr h₀ L h' m → News h₀ L h' news → Q (.bytes (padP v) t') { s with heap := h', toks := k })
    (hs : subscripted slice false (.bytes padA t) (.ref s.heap.objs.size) = operate [.ref s.heap.objs.size, .bytes padA t] (getItem (.bytes padA t) (.ref s.heap.objs.size)) := by with_unfolding_all rfl)
    (ht : ∀ r, letTemporaryGo value (.bytes padA t) r = pure () := by intro _; with_unfolding_all rfl) :
    wpAny (model prog w) A (subscriptTail value slice (.bytes padA t) (.ref s.heap.objs.size)) Q E { s with heap := s.heap.push { cls := .type "slice", data := .fields #[.int v t1, .int (v + 1) t2, .none] } } := by
  have hp := pad_slice h0 h1
  refine KBy.slice_N hF hN (lo := some v) (hi := some (v + 1)) (by constructor) (by constructor) hp.1 ?_ ?_ hs ht
  · rw [hp.2]; exact Nat.le_trans (padP_size v) (by decide)
  · intro h' t' k F' N'
    rw [hp.2]
    exact h h' t' k F' N'
end Mine
namespace Mine
section
variable {w : World} {A : Around} {E : Value → Shared → Prop} {s : Shared} {h₀ : Heap} {L : Addr} {m : Str → Option Value} {value slice : PySem.Expr} {u : Tok} {Q : Value → Shared → Prop} {v : Int}
theorem top_let (F : Fr h₀ L s.heap m) (X : (Mine.hd.heap_1 w.params).In h₀) (h0 : 0 ≤ v) (h1 : v < 9) (h : ∀ ra nm fin tn tf, PairAt w.params [] ra (.bytes nm tn) (.bytes fin tf) → (nm, fin) ∈ rowsLL → Q (.ref ra) s)
    (hs : subscripted slice false (.ref 323) (.int v u) = operate [.ref 323, .int v u] (getItem (.ref 323) (.int v u)) := by with_unfolding_all rfl) :
    wpAny (model PySem.Challenge.rw_pq1185_01.row.prog w) A (subscriptTail value slice (.ref 323) (.int v u)) Q E s :=
  top_row F X top_letters let_rows h0 h1 (by decide) (fun x hx => by obtain ⟨ra, nm, fin, tn, tf, rfl, p, q⟩ := hx; exact h ra nm fin tn tf p q) hs
theorem top_fig (F : Fr h₀ L s.heap m) (X : (Mine.hd.heap_1 w.params).In h₀) (h0 : 0 ≤ v) (h1 : v < 21) (h : ∀ ra nm n tn tf, PairAt w.params [] ra (.bytes nm tn) (.int n tf) → (nm, n) ∈ rowsFF → Q (.ref ra) s)
    (hs : subscripted slice false (.ref 345) (.int v u) = operate [.ref 345, .int v u] (getItem (.ref 345) (.int v u)) := by with_unfolding_all rfl) :
    wpAny (model PySem.Challenge.rw_pq1185_01.row.prog w) A (subscriptTail value slice (.ref 345) (.int v u)) Q E s :=
  top_row F X top_figures fig_rows h0 h1 (by decide) (fun x hx => by obtain ⟨ra, nm, fin, tn, tf, rfl, p, q⟩ := hx; exact h ra nm fin tn tf p q) hs
theorem top_cod (F : Fr h₀ L s.heap m) (X : (Mine.hd.heap_1 w.params).In h₀) (h0 : 0 ≤ v) (h1 : v < 4) (h : ∀ ra nm n tn tf, PairAt w.params [] ra (.bytes nm tn) (.int n tf) → (nm, n) ∈ rowsC → (nm = #[84, 97, 98] ∨ nm = #[69, 110, 116, 101, 114] ∨ nm = #[66, 83, 112, 97, 99, 101] ∨ nm = #[69, 115, 99, 97, 112, 101]) → Q (.ref ra) s)
    (hs : subscripted slice false (.ref 350) (.int v u) = operate [.ref 350, .int v u] (getItem (.ref 350) (.int v u)) := by with_unfolding_all rfl) :
    wpAny (model PySem.Challenge.rw_pq1185_01.row.prog w) A (subscriptTail value slice (.ref 350) (.int v u)) Q E s :=
  top_row F X top_coded cod_rows h0 h1 (by decide) (fun x hx => by obtain ⟨ra, nm, fin, tn, tf, rfl, p, q⟩ := hx; exact h ra nm fin tn tf p q (cod_names q)) hs
end
end Mine
namespace Mine
theorem updF_addr {sp : Addr} {q0 : Obj} {news : Led} {g : Obj → Led} (U : UpdF sp q0 news g) (o : Obj) : ∀ q ∈ news, ∃ q' ∈ g o, q'.1 = q.1 := by
  induction U with
  | head _ =>
    intro q hq
    rcases List.mem_cons.mp hq with e | e
    · exact ⟨_, .head _, by rw [e]⟩
    · exact ⟨q, .tail _ e, rfl⟩
  | tail _ _ ih =>
    intro q hq
    rcases List.mem_cons.mp hq with e | e
    · exact ⟨q, by rw [e]; exact .head _, rfl⟩
    · obtain ⟨q', h, e'⟩ := ih q e
      exact ⟨q', .tail _ h, e'⟩
theorem ord_all {sp d : Addr} {q0 o : Obj} {news : Led} {g : Obj → Led} (U : UpdF sp q0 news g) (h : ∀ p ∈ g o, p.1 < d) : ∀ q ∈ news, @LT.lt Nat _ q.1 d := by
  intro q hq
  obtain ⟨q', h', e⟩ := updF_addr U o q hq
  rw [← e]
  exact h q' h'
end Mine
namespace Mine
/-- what Modes() leaves: the object, its dict, the dict of its states, another one -/
def IsModes (w : World) (r : Value) (ex : Led) : Prop := ∃ mo md sd kd m1 m2 so ko, r = .ref mo ∧ ex = [(kd, ko), (sd, so), (mo, instObj 309 md), (md, modObj w.params m1 m2 sd kd)] ∧ (@LT.lt Nat _ md mo ∧ @LT.lt Nat _ mo sd ∧ @LT.lt Nat _ sd kd) ∧ (sd == sysModules) = false ∧
  so.IsDictOf (PySem.strKind PySem.Challenge.rw_pq1185_01.row.prog w) [(Str.ofString "send_receive", .bool true), (Str.ofString "autowrap", .bool true), (Str.ofString "autorepeat", .bool true), (Str.ofString "show_cursor", .bool true), (Str.ofString "num_lock", .bool true)]
theorem four_lt {k s m d : Addr} {a b c e : Obj} {news : Led} (h : ∀ q ∈ news, @LT.lt Nat _ q.1 d) (o : @LT.lt Nat _ d m ∧ @LT.lt Nat _ m s ∧ @LT.lt Nat _ s k) : ∀ p ∈ ([(k, a), (s, b), (m, c), (d, e)] : Led), ∀ q ∈ news, q.1 < p.1 := by
  intro p hp q hq
  have hq' := h q hq
  simp only [List.mem_cons, List.not_mem_nil, or_false] at hp
  rcases hp with e | e | e | e <;> subst e <;> (show @LT.lt Nat _ q.1 _) <;> omega
end Mine
namespace Mine
def RowQ (h₀ : Heap) (L : Addr) (K : (Str → Option Value) → Prop) (news : Led) (I : Addr) (oI : Obj) (J : Prop) (s : Shared) (Q : Flow → Shared → Prop) (fl : Flow) (s' : Shared) : Prop := match fl with
  | .next => ∃ h' tk' m', s' = { s with heap := h', toks := tk' } ∧ Fr h₀ L h' m' ∧ News h₀ L h' ((I, oI) :: news) ∧ K m' ∧ J
  | .ret v => Q (.ret v) s'
  | _ => False
theorem rowQ_end {h₀ h' : Heap} {L : Addr} {K : (Str → Option Value) → Prop} {news : Led} {I : Addr} {oI : Obj} {J : Prop} {s : Shared} {Q : Flow → Shared → Prop} {tk' : Nat} {m' : Str → Option Value}
    (F : Fr h₀ L h' m') (N : News h₀ L h' ((I, oI) :: news)) (hK : K m') (hJ : J) : RowQ h₀ L K news I oI J s Q .next { s with heap := h', toks := tk' } := ⟨h', tk', m', rfl, F, N, hK, hJ⟩
section
variable {prog : Program} {w : World} {A : Around} {E : Value → Shared → Prop} {s : Shared} {env : Env} {h₀ : Heap} {target : PySem.Expr} {body : List Stmt} {Q : Flow → Shared → Prop}
theorem turn_rows {ax : Addr} {vs : List Value} {m₀ : Str → Option Value} {news : Led} (K : (Str → Option Value) → Prop) (J : Nat → Prop)
    (hh : A.handled = none) (hl : h₀.IsTuple ax vs.toArray) (F : Fr h₀ env.locals s.heap m₀) (N : News h₀ env.locals s.heap news) (hK : K m₀) (hJ : J 0)
    (turn : ∀ i v m h tk I oI, vs[i]? = some v → J i → (∀ p ∈ news, p.1 ≠ I) → K m → Fr h₀ env.locals h m → News h₀ env.locals h ((I, oI) :: news) →
      wpAny (model prog w) A (assign target env v) (fun _ s₂ => wpAny (model prog w) A (execs body env) (RowQ h₀ env.locals K news I oI (J (i + 1)) { s with heap := h, toks := tk } Q) E s₂) E { s with heap := h, toks := tk })
    (done : ∀ h tk m, J vs.length → Fr h₀ env.locals h m → News h₀ env.locals h news → Q .next { s with heap := h, toks := tk }) :
    wpAny (model prog w) A (pyIter (.ref ax)) (fun it s₂ => TurnsAt prog w A h₀ env target body Q E it s₂) E s := by
  obtain ⟨ol, hol, hlr⟩ := id hl
  have hls : s.heap.IsTuple ax vs.toArray := ⟨ol, F.keep _ _ hol, hlr⟩
  have hlt : ax < s.heap.objs.size := Heap.lt_size (F.keep _ _ hol)
  have hne : ax ≠ s.heap.objs.size := Nat.ne_of_lt hlt
  refine wpAny_pyIter_tuple hls ?_
  refine ⟨s.heap.objs.size, [s.heap.objs.size, ax], [s.heap.objs.size], vs.toArray.size, _, _, _, m₀, news, fun i m nx => nx = news ∧ J i ∧ K m, rfl,
    KTurns.ofWalks (Walks.tuple hh s.heap.objs.size ax hne vs.toArray) (fun i v s Q E st q => letGo_tupleiter st.1 q), ?_, ?_, ?_, ?_, F.push _, (fun p hp => ⟨Heap.get?_push_of_some _ (N p hp).1, (N p hp).2⟩), ⟨rfl, hJ, hK⟩, ?_, ?_⟩
  · intro hI
    rcases List.mem_cons.mp hI with e | hI
    · exact absurd F.ns.lt (e ▸ Nat.lt_irrefl _)
    · obtain ⟨oL, a1, a2, hL, _⟩ := F.ns
      have e := List.mem_singleton.mp hI
      have hab := F.above
      rw [e] at hab
      exact absurd (Heap.lt_size hol) (Nat.not_lt.mpr hab)
  · intro b hb
    rw [List.mem_singleton.mp hb]
    exact next_is_new F
  · intro p hp hI
    exact absurd (Heap.lt_size (N p hp).1) ((List.mem_singleton.mp hI) ▸ Nat.lt_irrefl _)
  · exact ⟨⟨_, Heap.get?_push_size _ rfl, rfl, rfl⟩, hls.at fun o e => Heap.get?_push_of_some _ e⟩
  · intro i v m₁ news₁ h₁ tk₁ own hin hPi hj hoff hown hget hall hst₁ F₁ N₁
    obtain ⟨rfl, hJ', hK'⟩ := hj
    obtain ⟨⟨oI, hoI, hr⟩, _⟩ := hst₁
    have hinI := hall _ (List.mem_cons_self ..) (next_is_new F) oI hoI
    have hvi : vs[i]? = some v := by simpa using hPi
    refine wpAny_mono (turn i v m₁ h₁ tk₁ s.heap.objs.size oI hvi hJ' (fun p hp e => hoff p hp (List.mem_singleton.mpr e)) hK' F₁ ?_) (fun _ s₂ h₂ => wpAny_mono h₂ (fun fl s₃ hq => ?_) fun _ _ e => e) fun _ _ e => e
    · intro p hp
      rcases List.mem_cons.mp hp with e | hp
      · rw [e]; exact N₁ _ (List.mem_append_left _ hinI)
      · exact N₁ _ (List.mem_append_right _ hp)
    · cases fl with
      | ret v => exact .ret hq
      | brk => exact hq.elim
      | cont => exact hq.elim
      | next =>
        obtain ⟨h', tk', m', e, F', N', hK2, hJ2⟩ := hq
        refine .next ⟨rfl, h', tk', m', news₁, e, F', ?_, hoff, rfl, hJ2, hK2⟩
        intro p hp
        rcases List.mem_append.mp hp with hp | hp
        · have e1 := hown p hp
          have e2 := hget p hp
          have hn := (N₁ p (List.mem_append_left _ hp)).2.2
          rcases List.mem_cons.mp e1 with e3 | e3
          · obtain ⟨pa, po⟩ := p
            cases e3
            have e2' : h₁.get? s.heap.objs.size = some po := e2
            rw [hoI] at e2'
            cases e2'
            exact N' _ (.head _)
          · rw [List.mem_singleton.mp e3, hol] at hn
            cases hn
        · exact N' _ (.tail _ hp)
  · intro h' tk m' news' F' N' _ hj
    obtain ⟨rfl, hJ', _⟩ := hj
    rw [show vs.toArray.size = vs.length by simp] at hJ'
    exact done h' tk m' hJ' F' N'
end
inductive RowsAre (P : Params) : List Value → List (BA × Int) → Prop
  | nil : RowsAre P [] []
  | cons {ra : Addr} {k : BA} {x : Int} {tk tx : Tok} {vs : List Value} {rows : List (BA × Int)} : (Mine.hd.heap_1 P).lookup ra = some (tupN [.bytes k tk, .int x tx]) → RowsAre P vs rows → RowsAre P (.ref ra :: vs) ((k, x) :: rows)
theorem RowsAre.get {P : Params} {vs : List Value} {rows : List (BA × Int)} (R : RowsAre P vs rows) (nm : BA) : ∀ {i : Nat} {v : Value}, vs[i]? = some v → ∃ ra k x tk tx, v = .ref ra ∧ (Mine.hd.heap_1 P).lookup ra = some (tupN [.bytes k tk, .int x tx]) ∧ numOf (rows.drop i) nm = (if (k.toList == nm.toList) = true then some x else numOf (rows.drop (i + 1)) nm) := by
  induction R with
  | nil => intro i v h; cases h
  | cons hr _ ih =>
    intro i v h
    cases i with
    | zero =>
      cases h
      exact ⟨_, _, _, _, _, rfl, hr, rfl⟩
    | succ i => exact ih h
theorem RowsAre.length {P : Params} {vs : List Value} {rows : List (BA × Int)} (R : RowsAre P vs rows) : vs.length = rows.length := by
  induction R with
  | nil => rfl
  | cons _ _ ih => exact congrArg (· + 1) ih
def NumTab (P : Params) (a : Addr) (rows : List (BA × Int)) : Prop := ∃ vs, (Mine.hd.heap_1 P).lookup a = some (tupN vs) ∧ RowsAre P vs rows
theorem tab_53 {P : Params} : NumTab P 53 rowsL := ⟨_, rfl, .cons rfl (.cons rfl (.cons rfl (.cons rfl (.cons rfl (.cons rfl (.cons rfl (.cons rfl (.cons rfl (.cons rfl (.nil))))))))))⟩
theorem tab_74 {P : Params} : NumTab P 74 rowsN := ⟨_, rfl, .cons rfl (.cons rfl (.cons rfl (.cons rfl (.cons rfl (.cons rfl (.cons rfl (.cons rfl (.cons rfl (.cons rfl (.cons rfl (.cons rfl (.cons rfl (.cons rfl (.cons rfl (.cons rfl (.cons rfl (.cons rfl (.cons rfl (.cons rfl (.nil))))))))))))))))))))⟩
theorem tab_79 {P : Params} : NumTab P 79 rowsC := ⟨_, rfl, .cons rfl (.cons rfl (.cons rfl (.cons rfl (.nil))))⟩
theorem keep_name {n : Str} {v : Value} {m : Str → Option Value} (h : m n = some v) : m = fun y => if y = n then some v else m y := by
  funext y
  by_cases e : y = n
  · rw [if_pos e, e, h]
  · rw [if_neg e]
theorem IsO.splitN {rows : List (BA × Int)} {nm : BA} {r : Value} (h : IsO (numOf rows nm) r) (hB : ∀ v, numOf rows nm = some v → 0 ≤ v ∧ v < 256) {P : Prop} (hn : numOf rows nm = none → r = .none → P) (hs : ∀ i t, numOf rows nm = some i → r = .int i t → 0 ≤ i → i < 256 → P) : P :=
  h.split hn fun i t e1 e2 => hs i t e1 e2 (hB i e1).1 (hB i e1).2
inductive PadsAre (P : Params) : List Value → List (BA × Int × Int × Int) → Prop
  | nil : PadsAre P [] []
  | cons {ra : Addr} {k : BA} {x y z : Int} {tk tx ty tz : Tok} {vs : List Value} {rows : List (BA × Int × Int × Int)} : (Mine.hd.heap_1 P).lookup ra = some (tupN [.bytes k tk, .int x tx, .int y ty, .int z tz]) → PadsAre P vs rows → PadsAre P (.ref ra :: vs) ((k, x, y, z) :: rows)
theorem PadsAre.get {P : Params} {vs : List Value} {rows : List (BA × Int × Int × Int)} (R : PadsAre P vs rows) (nm : BA) : ∀ {i : Nat} {v : Value}, vs[i]? = some v → ∃ ra k x y z tk tx ty tz, v = .ref ra ∧ (Mine.hd.heap_1 P).lookup ra = some (tupN [.bytes k tk, .int x tx, .int y ty, .int z tz]) ∧ padOf (rows.drop i) nm = (if (k.toList == nm.toList) = true then some (x, y, z) else padOf (rows.drop (i + 1)) nm) := by
  induction R with
  | nil => intro i v h; cases h
  | cons hr _ ih =>
    intro i v h
    cases i with
    | zero =>
      cases h
      exact ⟨_, _, _, _, _, _, _, _, _, rfl, hr, rfl⟩
    | succ i => exact ih h
theorem PadsAre.length {P : Params} {vs : List Value} {rows : List (BA × Int × Int × Int)} (R : PadsAre P vs rows) : vs.length = rows.length := by
  induction R with
  | nil => rfl
  | cons _ _ ih => exact congrArg (· + 1) ih
theorem tab_98 {P : Params} : ∃ vs, (Mine.hd.heap_1 P).lookup 98 = some (tupN vs) ∧ PadsAre P vs rowsP := ⟨_, rfl, .cons rfl (.cons rfl (.cons rfl (.cons rfl (.cons rfl (.cons rfl (.cons rfl (.cons rfl (.cons rfl (.cons rfl (.cons rfl (.cons rfl (.cons rfl (.cons rfl (.cons rfl (.cons rfl (.cons rfl (.cons rfl (.nil))))))))))))))))))⟩
end Mine
namespace Mine
theorem fbits {f : Int} (h0 : 0 ≤ f) (h1 : f < 32) : (Builtin.bitAnd f 2 = 0 ↔ f / 2 % 2 = 0) ∧ (Builtin.bitAnd f 4 = 0 ↔ f / 4 % 2 = 0) ∧ (Builtin.bitAnd f 8 = 0 ↔ f / 8 % 2 = 0) ∧ (Builtin.bitAnd f 16 = 0 ↔ f / 16 = 0)
    ∧ (Builtin.bitAnd f (Builtin.bitOr 1 8) = 0 ↔ f % 2 = 0 ∧ f / 8 % 2 = 0) := by
  have key : ∀ n : Fin 32, (Builtin.bitAnd (n.val : Int) 2 = 0 ↔ (n.val : Int) / 2 % 2 = 0) ∧ (Builtin.bitAnd (n.val : Int) 4 = 0 ↔ (n.val : Int) / 4 % 2 = 0) ∧ (Builtin.bitAnd (n.val : Int) 8 = 0 ↔ (n.val : Int) / 8 % 2 = 0) ∧ (Builtin.bitAnd (n.val : Int) 16 = 0 ↔ (n.val : Int) / 16 = 0)
    ∧ (Builtin.bitAnd (n.val : Int) (Builtin.bitOr 1 8) = 0 ↔ (n.val : Int) % 2 = 0 ∧ (n.val : Int) / 8 % 2 = 0) := by decide +kernel
  obtain ⟨k, rfl⟩ := Int.eq_ofNat_of_zero_le h0
  exact key ⟨k, by omega⟩
theorem hbits {h : Int} (h0 : 0 ≤ h) (h1 : h < 8) : (Builtin.bitAnd h 1 = 0 ↔ h % 2 = 0) ∧ (Builtin.bitAnd h 2 = 0 ↔ h / 2 % 2 = 0) ∧ (Builtin.bitAnd h 4 = 0 ↔ h < 4) ∧ (Builtin.bitAnd h (Builtin.bitOr 4 2) = 0 ↔ h / 2 = 0) ∧ (h % 2 = 0 → Builtin.bitOr h 1 = h + 1) := by
  have key : ∀ n : Fin 8, (Builtin.bitAnd (n.val : Int) 1 = 0 ↔ (n.val : Int) % 2 = 0) ∧ (Builtin.bitAnd (n.val : Int) 2 = 0 ↔ (n.val : Int) / 2 % 2 = 0) ∧ (Builtin.bitAnd (n.val : Int) 4 = 0 ↔ (n.val : Int) < 4) ∧ (Builtin.bitAnd (n.val : Int) (Builtin.bitOr 4 2) = 0 ↔ (n.val : Int) / 2 = 0) ∧ ((n.val : Int) % 2 = 0 → Builtin.bitOr (n.val : Int) 1 = (n.val : Int) + 1) := by decide +kernel
  obtain ⟨k, rfl⟩ := Int.eq_ofNat_of_zero_le h0
  exact key ⟨k, by omega⟩
theorem z2 {x : Int} : (x % 2 = 0) = (¬ x % 2 = 1) := propext ⟨fun h => by omega, fun h => by omega⟩
theorem z16 {f : Int} (f0 : 0 ≤ f) (f1 : f < 32) : (f / 16 = 0) = (¬ f / 16 = 1) := propext ⟨fun h => by omega, fun h => by omega⟩
theorem lt3 {e : Int} (he : 1 ≤ e ∧ e ≤ 3) : (e < 3) = (¬ e = 3) := propext ⟨fun h => by omega, fun h => by omega⟩
theorem ne1 {e : Int} (he : 1 ≤ e ∧ e ≤ 3) : (e = 1) = (¬ 1 < e) := propext ⟨fun h => by omega, fun h => by omega⟩
theorem held_eq {g e f : Int} (f0 : 0 ≤ f) (f1 : f < 32) (he : 1 ≤ e ∧ e ≤ 3) : heldK g e f = lheldK g e f := by
  have hb := (fbits f0 f1).1
  unfold heldK lheldK
  simp only [hb, z2, ne1 he]
  clear hb f0 f1 he
  by_cases h1 : f / 2 % 2 = 1
  · by_cases h3 : 1 < e
    · rw [if_neg (fun x => x.2.elim (fun y => y h1) (fun y => y h3)), if_neg (fun x => x.elim (fun y => y h1) (fun y => y h3)), if_pos ⟨h1, h3⟩]
    · rw [if_neg (c := f / 2 % 2 = 1 ∧ 1 < e) (fun x => h3 x.2)]
      by_cases h2 : g = 0
      · rw [if_pos ⟨h2, .inr h3⟩, if_pos h2]
      · rw [if_neg (fun x => h2 x.1), if_pos (.inr h3), if_neg h2]
  · rw [if_neg (c := f / 2 % 2 = 1 ∧ 1 < e) (fun x => h1 x.1)]
    by_cases h2 : g = 0
    · rw [if_pos ⟨h2, .inl h1⟩, if_pos h2]
    · rw [if_neg (fun x => h2 x.1), if_pos (.inl h1), if_neg h2]
theorem ll_key : ∀ r ∈ rowsLL, (r.1.toList == [70, 51]) = false ∧ (numOf rowsL r.1).map (fun l => byteArr [l]) = some r.2 := by decide +kernel
theorem dueL_eq {nm fin : BA} {h e f : Int} {nl ba : Bool} (hm : (nm, fin) ∈ rowsLL) (f0 : 0 ≤ f) (f1 : f < 32) (he : 1 ≤ e ∧ e ≤ 3) : kk f nm 0 h e nl ba = dueL fin h e f := by
  have hb := (fbits f0 f1).1
  obtain ⟨k1, k2⟩ := ll_key _ hm
  dsimp only at k1 k2
  unfold kk dueL
  rw [held_eq f0 f1 he]
  simp only [hb]
  by_cases h1 : e = 3 ∧ f / 2 % 2 = 0
  · rw [if_pos h1, if_pos h1]
  · rw [if_neg h1, if_neg h1, if_neg (ne_true_of_eq_false k1)]
    cases q : numOf rowsL nm with
    | none => rw [q] at k2; cases k2
    | some l =>
      rw [q] at k2
      cases k2
      dsimp only []
      split
      · rfl
      · rfl
theorem ff_key : ∀ r ∈ rowsFF, ((r.1.toList == [70, 51]) = true ∧ r.2 = 13) ∨ ((r.1.toList == [70, 51]) = false ∧ numOf rowsL r.1 = none ∧ numOf rowsN r.1 = some r.2) := by decide +kernel
theorem dueF_eq {nm : BA} {n h e f : Int} {nl ba : Bool} (hm : (nm, n) ∈ rowsFF) (f0 : 0 ≤ f) (f1 : f < 32) (he : 1 ≤ e ∧ e ≤ 3) : kk f nm 0 h e nl ba = dueF n h e f := by
  have hb := (fbits f0 f1).1
  have key := ff_key _ hm
  dsimp only at key
  unfold kk dueF csiK
  rw [held_eq f0 f1 he]
  simp only [hb]
  by_cases h1 : e = 3 ∧ f / 2 % 2 = 0
  · rw [if_pos h1, if_pos h1]
  · rw [if_neg h1, if_neg h1]
    rcases key with ⟨k1, k2⟩ | ⟨k1, k2, k3⟩
    · subst k2
      rw [if_pos k1]
      have e13 : decB 13 = #[49, 51] := by decide +kernel
      rw [e13]
      unfold csi
      split
      · rfl
      · simp only [Array.append_assoc]
    · rw [if_neg (ne_true_of_eq_false k1), k2, k3]
      dsimp only []
      unfold csi
      split
      · simp only [Array.append_assoc, Array.empty_append]
      · simp only [Array.append_assoc]
theorem nil_rows : numOf rowsL #[] = none ∧ numOf rowsN #[] = none := by decide +kernel
theorem first_eq {cd f : Int} : firstK cd none f = decB cd := rfl
theorem sg_a : ∀ c ∈ ([97, 122, 109] : List Int), ∀ h ∈ ([0, 1, 2, 3, 4, 5, 6, 7] : List Int), h % 2 = 0 → signedK c h = esc h ++ (if 4 ≤ h then byteArr [c % 32] else sigB c) := by decide +kernel
theorem sg_b : ∀ c ∈ ([65, 90, 77, 48, 233, 12354, 33] : List Int), ∀ h ∈ ([0, 2] : List Int), signedK c h = esc h ++ sigB c := by decide +kernel
theorem in2 {h : Int} (hh : h = 0 ∨ h = 2) : h ∈ ([0, 2] : List Int) := by
  rcases hh with e | e <;> (subst e; decide)
theorem in8 {h : Int} (h0 : 0 ≤ h) (h1 : h ≤ 7) : h ∈ ([0, 1, 2, 3, 4, 5, 6, 7] : List Int) := by
  simp only [List.mem_cons, List.not_mem_nil, or_false]
  omega
theorem signed_eq {hc : Bool} {c h : Int} {pl : BA} (hs : SignIs hc c h pl) (hn : hc = false) : signedK c h = pl := by
  subst hn
  obtain ⟨h0, h1, hs⟩ := hs
  have h8 := in8 h0 h1
  clear h0 h1
  rcases hs with ⟨hcc, _, ht, e⟩ | ⟨hcc, hh, e⟩ | ⟨hcc, hh, e⟩
  · rw [e]
    refine sg_a c ?_ h h8 (ht.resolve_left (by decide))
    rcases hcc with q | q | q <;> (subst q; decide)
  · rw [e]
    refine sg_b c ?_ h (in2 hh)
    rcases hcc with q | q | q <;> (subst q; decide)
  · rw [e]
    refine sg_b c ?_ h (in2 (hh.resolve_left (by decide)))
    rcases hcc with q | q | q | q <;> (subst q; decide)
theorem sign_eq {hc : Bool} {c h e f : Int} {pl : BA} (hs : SignIs hc c h pl) (f0 : 0 ≤ f) (f1 : f < 32) (he : 1 ≤ e ∧ e ≤ 3) : signK c h e f = (if h / 2 = 0 ∧ ¬ f / 8 % 2 = 1 then (if e < 3 then sigB c else #[]) else lsignK c h e f) := by
  obtain ⟨h0, h1, hs⟩ := hs
  obtain ⟨hb1, hb2, hb3, hb4, hb5⟩ := hbits h0 (Int.lt_of_le_of_lt h1 (by decide))
  obtain ⟨hf1, hf2, hf3, hf4, hf5⟩ := fbits f0 f1
  unfold signK lsignK lsF1 lsF0 lsT
  simp only [firstK, hb1, hb4, hf2, hf3, hf4, held_eq f0 f1 he, z2, z16 f0 f1, lt3 he, Decidable.not_not]
  have hb5' : (65 ≤ c ∧ c ≤ 90) → Builtin.bitOr h 1 = h + 1 := fun n1 => hb5 (by
    rcases hs with ⟨q, _⟩ | ⟨_, q, _⟩ | ⟨q, _⟩
    · rcases q with q | q | q <;> (subst q; exact absurd n1.2 (by decide))
    · rcases q with q | q <;> (subst q; decide)
    · rcases q with q | q | q | q <;> (subst q; first | exact absurd n1.2 (by decide) | exact absurd n1.1 (by decide)))
  clear hb1 hb2 hb3 hb4 hb5 hf1 hf2 hf3 hf4 hf5 hs f0 f1 h0 h1 he
  by_cases hp : h / 2 = 0 ∧ ¬ f / 8 % 2 = 1
  · rw [if_pos hp, if_pos hp]
    by_cases h3 : e = 3
    · rw [if_pos h3, if_neg (fun x => x h3)]
    · rw [if_neg h3, if_pos h3]
  · rw [if_neg hp, if_neg hp]
    have ht : (if h / 2 = 0 ∧ f / 16 = 1 ∧ ¬ e = 3 then decB c else #[]) = (if f / 16 = 1 ∧ h / 2 = 0 ∧ ¬ e = 3 then decB c else #[]) := by
      by_cases h3 : f / 16 = 1 ∧ h / 2 = 0 ∧ ¬ e = 3
      · rw [if_pos ⟨h3.2.1, h3.1, h3.2.2⟩, if_pos h3]
      · rw [if_neg (fun x => h3 ⟨x.2.1, x.1, x.2.2⟩), if_neg h3]
    rw [ht]
    by_cases n1 : 65 ≤ c ∧ c ≤ 90
    · rw [hb5' n1]
      simp only [n1, if_true, and_self]
      by_cases h4 : f / 4 % 2 = 1
      · rw [if_neg (fun x => x h4), if_pos h4]
      · rw [if_pos h4, if_neg h4]
    · simp only [n1, if_false]
      by_cases n2 : (97 ≤ c ∧ c ≤ 122) ∧ h % 2 = 1
      · rw [if_pos n2, if_pos n2]
        by_cases h4 : f / 4 % 2 = 1
        · rw [if_neg (fun x => x h4), if_pos h4]
        · rw [if_pos h4, if_neg h4]
      · simp only [if_neg n2, ite_self]
theorem dueS_eq {hc : Bool} {c h e f : Int} {pl : BA} {nl ba : Bool} (hs : SignIs hc c h pl) (hd : hc = decide (f % 2 = 1 ∨ f / 8 % 2 = 1)) (f0 : 0 ≤ f) (f1 : f < 32) (he : 1 ≤ e ∧ e ≤ 3) : kk f #[] c h e nl ba = dueS c h e f pl := by
  obtain ⟨hf1, _, _, _, hf5⟩ := fbits f0 f1
  unfold kk dueS
  rw [nil_rows.1, nil_rows.2, ← sign_eq hs f0 f1 he]
  simp only [hf1, hf5, lt3 he]
  clear hf1 hf5
  by_cases h1 : e = 3 ∧ f / 2 % 2 = 0
  · rw [if_pos h1, if_pos h1]
  · rw [if_neg h1, if_neg h1, if_neg (by decide)]
    by_cases h2 : ¬ f % 2 = 1 ∧ ¬ f / 8 % 2 = 1
    · rw [if_pos h2, if_pos (c := f % 2 = 0 ∧ f / 8 % 2 = 0) (by rw [z2, z2]; exact h2)]
      have hn : hc = false := by rw [hd]; exact decide_eq_false (fun x => x.elim h2.1 h2.2)
      unfold asEverK
      by_cases h3 : e = 3
      · rw [if_pos h3, if_neg (fun x => x h3)]
      · rw [if_neg h3, if_pos (by decide), if_pos h3, signed_eq hs hn]
    · rw [if_neg h2, if_neg (c := f % 2 = 0 ∧ f / 8 % 2 = 0) (by rw [z2, z2]; exact h2), if_pos (by decide)]
theorem coded_key : ∀ r ∈ rowsC, ∀ nl ba : Bool, codedK r.1 0 nl ba = plainK r.1 nl ba := by decide +kernel
theorem coded_eq {nm : BA} {n : Int} {nl ba : Bool} (hm : (nm, n) ∈ rowsC) : codedK nm 0 nl ba = plainK nm nl ba := coded_key _ hm nl ba
theorem named_eq {cd h e f : Int} {ev : Bool} {p : BA} (f0 : 0 ≤ f) (f1 : f < 32) (he : 1 ≤ e ∧ e ≤ 3) : namedK cd (if ev = true then none else some p) h e f = (if h = 0 ∧ ¬ f / 8 % 2 = 1 ∧ ¬ ev = true then (if e < 3 then p else #[]) else uK (decB cd) (lheldK h e f) #[]) := by
  have hf := (fbits f0 f1).2.2.1
  unfold namedK
  simp only [lt3 he, hf, z2]
  cases ev with
  | true =>
    rw [if_pos rfl, if_neg (fun hh => hh.2.2 rfl), held_eq f0 f1 he]
    rfl
  | false =>
    simp only [Bool.false_eq_true, if_false, not_false_eq_true, and_true]
    by_cases h1 : h = 0 ∧ ¬ f / 8 % 2 = 1
    · rw [if_pos h1, if_pos h1]
      by_cases h3 : e = 3
      · rw [if_pos h3, if_neg (fun x => x h3)]
      · rw [if_neg h3, if_pos h3]
    · rw [if_neg h1, if_neg h1, held_eq f0 f1 he]
      rfl
theorem cc_key : ∀ r ∈ rowsC, (r.1.toList == [70, 51]) = false ∧ numOf rowsL r.1 = none ∧ numOf rowsN r.1 = none ∧ (r.1.toList == []) = false ∧ padOf rowsP r.1 = none ∧ numOf rowsC r.1 = some r.2 ∧ (r.1.toList == [69, 115, 99, 97, 112, 101]) = everB r.1 := by decide +kernel
theorem no_codes {hc : Bool} {f : Int} (hd : hc = decide (f % 2 = 1 ∨ f / 8 % 2 = 1)) (h2 : ¬ f % 2 = 1 ∧ ¬ f / 8 % 2 = 1) : ¬ hc = true := by
  rw [hd]
  exact fun x => (of_decide_eq_true x).elim h2.1 h2.2
theorem dueC_eq {hc : Bool} {nm : BA} {n h e f : Int} {nl ba : Bool} (hm : (nm, n) ∈ rowsC) (hh : hc = true ∨ h = 0) (hd : hc = decide (f % 2 = 1 ∨ f / 8 % 2 = 1)) (f0 : 0 ≤ f) (f1 : f < 32) (he : 1 ≤ e ∧ e ≤ 3) :
    kk f nm 0 h e nl ba = dueN (everB nm) n h e f (plainK nm nl ba) := by
  obtain ⟨hf1, _, _, _, hf5⟩ := fbits f0 f1
  obtain ⟨k1, k2, k3, k4, k5, k6, k7⟩ := cc_key _ hm
  dsimp only at k1 k2 k3 k4 k5 k6 k7
  unfold kk dueN
  rw [k2, k3, k5, k6, k7, coded_eq hm, ← named_eq f0 f1 he]
  simp only [hf1, hf5, lt3 he]
  clear hf1 hf5
  by_cases h1 : e = 3 ∧ f / 2 % 2 = 0
  · rw [if_pos h1, if_pos h1]
  · rw [if_neg h1, if_neg h1, if_neg (ne_true_of_eq_false k1)]
    by_cases h2 : ¬ f % 2 = 1 ∧ ¬ f / 8 % 2 = 1
    · rw [if_pos h2, if_pos (c := f % 2 = 0 ∧ f / 8 % 2 = 0) (by rw [z2, z2]; exact h2)]
      have h00 : h = 0 := hh.resolve_left (no_codes hd h2)
      subst h00
      have hpd : paddedK nm 0 nl = none := by unfold paddedK; rw [k5]
      unfold asEverK
      rw [hpd, coded_eq hm]
      dsimp only []
      by_cases h3 : e = 3
      · rw [if_pos h3, if_neg (fun x => x h3)]
      · rw [if_neg h3, if_neg (ne_true_of_eq_false k4), if_pos h3]
    · rw [if_neg h2, if_neg (c := f % 2 = 0 ∧ f / 8 % 2 = 0) (by rw [z2, z2]; exact h2), if_neg (ne_true_of_eq_false k4)]
def padNm (i : Nat) : BA := if i = 15 then #[75, 80, 69, 110, 116, 101, 114] else #[75, 80] ++ ((padS.drop i).take 1).toArray
theorem pad_key : ∀ i ∈ List.range 18, ((padNm i).toList == [70, 51]) = false ∧ numOf rowsL (padNm i) = none ∧ numOf rowsN (padNm i) = none ∧ ((padNm i).toList == []) = false
    ∧ (padOf rowsP (padNm i)).map (fun x => (byteArr [x.2.1], x.2.2)) = some (((padS.drop i).take 1).toArray, 57399 + (i : Int)) ∧ ((padNm i).toList == [75, 80, 69, 110, 116, 101, 114]) = everB (padNm i) ∧ (i < 15 → everB (padNm i) = false) := by decide +kernel
theorem pad_nm {i : Int} {nm : BA} (hn : i = 15 ∧ nm = #[75, 80, 69, 110, 116, 101, 114] ∨ ¬ i = 15 ∧ nm = #[75, 80] ++ ((padS.drop i.toNat).take 1).toArray) (hi : 0 ≤ i) : nm = padNm i.toNat := by
  unfold padNm
  rcases hn with ⟨h1, h2⟩ | ⟨h1, h2⟩
  · rw [if_pos (by omega), h2]
  · rw [if_neg (by omega), h2]
theorem duePad_eq {hc : Bool} {nm : BA} {i h e f : Int} {nl ba : Bool} (hi : 0 ≤ i ∧ i < 18) (hj : hc = true ∨ i < 15) (hnm : i = 15 ∧ nm = #[75, 80, 69, 110, 116, 101, 114] ∨ ¬ i = 15 ∧ nm = #[75, 80] ++ ((padS.drop i.toNat).take 1).toArray) (hh : hc = true ∨ h = 0)
    (hd : hc = decide (f % 2 = 1 ∨ f / 8 % 2 = 1)) (f0 : 0 ≤ f) (f1 : f < 32) (he : 1 ≤ e ∧ e ≤ 3) :
    kk f nm 0 h e nl ba = dueN (everB nm) (57399 + i) h e f ((padS.drop i.toNat).take 1).toArray := by
  obtain ⟨hf1, _, _, _, hf5⟩ := fbits f0 f1
  obtain ⟨k1, k2, k3, k4, k5, k7, k8⟩ := pad_key i.toNat (List.mem_range.mpr (by omega))
  rw [← pad_nm hnm hi.1] at k1 k2 k3 k4 k5 k7 k8
  rw [Int.toNat_of_nonneg hi.1] at k5
  cases q : padOf rowsP nm with
  | none => rw [q] at k5; cases k5
  | some r =>
    obtain ⟨a, p, cd⟩ := r
    rw [q] at k5
    have k5' := Option.some.inj k5
    have k6 : byteArr [p] = ((padS.drop i.toNat).take 1).toArray := congrArg Prod.fst k5'
    have k9 : cd = 57399 + i := congrArg Prod.snd k5'
    subst k9
    unfold kk dueN
    rw [k2, k3, q, k7, ← k6, ← named_eq f0 f1 he]
    simp only [hf1, hf5, lt3 he]
    clear hf1 hf5
    by_cases h1 : e = 3 ∧ f / 2 % 2 = 0
    · rw [if_pos h1, if_pos h1]
    · rw [if_neg h1, if_neg h1, if_neg (ne_true_of_eq_false k1)]
      by_cases h2 : ¬ f % 2 = 1 ∧ ¬ f / 8 % 2 = 1
      · rw [if_pos h2, if_pos (c := f % 2 = 0 ∧ f / 8 % 2 = 0) (by rw [z2, z2]; exact h2)]
        have hx := no_codes hd h2
        have h00 : h = 0 := hh.resolve_left hx
        have hi15 : i < 15 := hj.resolve_left hx
        subst h00
        have hpd : paddedK nm 0 nl = some (byteArr [p]) := by
          unfold paddedK
          rw [q]
          dsimp only []
          rw [k7, k8 (by omega), if_neg (fun hh => absurd hh.1 (by decide))]
          rfl
        unfold asEverK
        rw [hpd]
        dsimp only []
        by_cases h3 : e = 3
        · rw [if_pos h3, if_neg (fun x => x h3)]
        · rw [if_neg h3, if_neg (ne_true_of_eq_false k4), if_pos h3]
      · rw [if_neg h2, if_neg (c := f % 2 = 0 ∧ f / 8 % 2 = 0) (by rw [z2, z2]; exact h2), if_neg (ne_true_of_eq_false k4)]
end Mine
namespace Mine
def Keeps (hc : Bool) (wy mo : Addr) (f : Int) (tf : Tok) (m : Str → Option Value) : Prop := m (Str.ofString "has_codes") = some (.bool hc) ∧ m (Str.ofString "ways") = some (.ref wy) ∧ m (Str.ofString "flags") = some (.int f tf) ∧ m (Str.ofString "modes") = some (.ref mo)
theorem keeps_map {hc : Bool} {wy mo : Addr} {f : Int} {tf : Tok} {m : Str → Option Value} (K : Keeps hc wy mo f tf m) (y : Str) :
    (if y = Str.ofString "has_codes" then some (.bool hc) else if y = Str.ofString "ways" then some (.ref wy) else if y = Str.ofString "flags" then some (.int f tf) else if y = Str.ofString "modes" then some (.ref mo) else m y) = m y := by
  obtain ⟨k1, k2, k3, k4⟩ := K
  by_cases h1 : y = Str.ofString "has_codes"
  · rw [if_pos h1, h1, k1]
  · rw [if_neg h1]
    by_cases h2 : y = Str.ofString "ways"
    · rw [if_pos h2, h2, k2]
    · rw [if_neg h2]
      by_cases h3 : y = Str.ofString "flags"
      · rw [if_pos h3, h3, k3]
      · rw [if_neg h3]
        by_cases h4 : y = Str.ofString "modes"
        · rw [if_pos h4, h4, k4]
        · rw [if_neg h4]

def TurnQ (h₀ : Heap) (L : Addr) (K : (Str → Option Value) → Prop) (led : Int → Tok → Nat → Led) (I : Addr) (oI : Obj) (top : Int) (s : Shared) (fl : Flow) (s' : Shared) : Prop := match fl with
  | .next => ∃ h' tk' m' a ta ks, s' = { s with heap := h', toks := tk' } ∧ Fr h₀ L h' m' ∧ News h₀ L h' ((I, oI) :: led a ta ks) ∧ (0 ≤ a ∧ a ≤ top) ∧ K m'
  | _ => False
section
variable {prog : Program} {w : World} {A : Around} {E : Value → Shared → Prop} {s : Shared} {env : Env} {h₀ : Heap} {x : Str} {body : List Stmt} {Q : Flow → Shared → Prop}
theorem turn_range {r : Addr} {t₀ u₀ v₀ : Tok} {m₀ : Str → Option Value} (led : Int → Tok → Nat → Led) (adr : List Addr) (K : (Str → Option Value) → Prop) {a : Int} {ta : Tok} {ks : Nat}
    (hh : A.handled = none) (hr : IsRange s.heap r 0 4 1 t₀ u₀ v₀) (F : Fr h₀ env.locals s.heap m₀) (N : News h₀ env.locals s.heap (led a ta ks)) (hadr : ∀ a ta ks, (led a ta ks).map (·.1) = adr) (hx : ∀ m v, K m → K (fun y => if y = x then some v else m y)) (hK : K m₀) (ha : 0 ≤ a ∧ a ≤ 3)
    (turn : ∀ (m : Str → Option Value) (a : Int) (ta : Tok) (ks : Nat) (k : Int) (t : Tok) h tk (I : Addr) (oI : Obj), (∀ b ∈ adr, b ≠ I) → (0 ≤ a ∧ a ≤ 15) → K m → Fr h₀ env.locals h (fun y => if y = x then some (.int k t) else m y) → News h₀ env.locals h ((I, oI) :: led a ta ks) →
      wpAny (model prog w) A (execs body env) (TurnQ h₀ env.locals K led I oI (a + 4) { s with heap := h, toks := tk }) E { s with heap := h, toks := tk })
    (done : ∀ h tk m news, Fr h₀ env.locals h m → News h₀ env.locals h news → Q .next { s with heap := h, toks := tk }) :
    wpAny (model prog w) A (pyIter (.ref r)) (fun it s₂ => LoopAtV prog w A h₀ env x body Q E it s₂) E s := by
  refine wpAny_pyIter_range hr (by decide +kernel) ?_
  have hn : Builtin.Range.rangeSize 0 4 1 = ((4 : Nat) : Int) := by decide +kernel
  have W : Walks prog w A s.heap.objs.size [s.heap.objs.size] [s.heap.objs.size] 4 (fun i v => i < 4 ∧ ∃ t, v = .int (0 + i * 1) t)
      (fun i h => IsRangeIter h s.heap.objs.size (0 + (i : Nat) * 1) (((4 : Nat) : Int) - (i : Nat)) 1) := (Walks.range hh _ 0 1 4).bound
  refine ⟨s.heap.objs.size, [s.heap.objs.size], [s.heap.objs.size], 4, _, _, m₀, led a ta ks, fun i m nx => ∃ a ta ks, nx = led a ta ks ∧ (0 ≤ a ∧ a ≤ 3 + 4 * (i : Int)) ∧ K m, rfl, W, ?_, ?_, ?_, ?_, F.push _, (fun p hp => ⟨Heap.get?_push_of_some _ (N p hp).1, (N p hp).2⟩), ⟨a, ta, ks, rfl, by omega, hK⟩, ?_, ?_⟩
  · intro hm
    exact absurd F.ns.lt ((List.mem_singleton.mp hm) ▸ Nat.lt_irrefl _)
  · intro b hb
    rw [List.mem_singleton.mp hb]
    exact next_is_new F
  · intro p hp hI
    exact absurd (Heap.lt_size (N p hp).1) ((List.mem_singleton.mp hI) ▸ Nat.lt_irrefl _)
  · show IsRangeIter _ _ _ _ _
    rw [hn]
    simpa using Heap.get?_push_size _ rfl
  · rintro i v m₁ news₁ s₁ own ⟨h, tk, rfl⟩ hi ⟨_, t, rfl⟩ ⟨a, ta, ks, rfl, ha', hK'⟩ hnw hsub hget hall hst F₁ N₁
    obtain ⟨oI, hoI⟩ : ∃ oI, h.get? s.heap.objs.size = some oI := ⟨_, hst⟩
    have hin := hall _ (List.mem_singleton.mpr rfl) (next_is_new F) oI hoI
    have hadr' : ∀ a ta ks, ∀ p ∈ led a ta ks, p.1 ≠ s.heap.objs.size := by
      intro a9 ta9 ks9 p hp e
      have h1 : p.1 ∈ (led a ta ks).map (·.1) := by
        rw [hadr, ← hadr a9 ta9 ks9]
        exact List.mem_map_of_mem hp
      obtain ⟨q, hq, hqe⟩ := List.mem_map.mp h1
      exact hnw q hq (by rw [hqe, e]; exact List.mem_singleton.mpr rfl)
    refine wpAny_mono (turn m₁ a ta ks _ t h tk s.heap.objs.size oI ?_ ⟨ha'.1, by omega⟩ hK' F₁ ?_) (fun fl s' hq => ?_) fun _ _ e => e
    · intro b hb e
      rw [← hadr a ta ks] at hb
      obtain ⟨q, hq, hqe⟩ := List.mem_map.mp hb
      exact hadr' a ta ks q hq (hqe.trans e)
    · intro p hp
      rcases List.mem_cons.mp hp with e | hp
      · rw [e]; exact N₁ _ (List.mem_append_left _ hin)
      · exact N₁ _ (List.mem_append_right _ hp)
    · cases fl with
      | next =>
        obtain ⟨h', tk', m', a', ta', ks', e, F', N', hb, hK2⟩ := hq
        refine ⟨rfl, h', tk', m', led a' ta' ks', e, F', ?_, ?_, a', ta', ks', rfl, ⟨hb.1, by omega⟩, hK2⟩
        · intro p hp
          rcases List.mem_append.mp hp with hp | hp
          · have e1 := List.mem_singleton.mp (hsub p hp)
            have e2 := hget p hp
            have e3 : p = (s.heap.objs.size, oI) := by
              obtain ⟨pa, po⟩ := p
              cases e1
              have e2' : h.get? s.heap.objs.size = some po := e2
              rw [hoI] at e2'
              cases e2'
              rfl
            rw [e3]
            exact N' _ (.head _)
          · exact N' _ (.tail _ hp)
        · intro p hp hI
          exact hadr' a' ta' ks' p hp (List.mem_singleton.mp hI)
      | ret v => exact hq.elim
      | brk => exact hq.elim
      | cont => exact hq.elim
  · intro h' tk m' news' F' N' _ hJ
    exact done h' tk m' news' F' N'
end
end Mine
namespace Mine
theorem ll_facts : ∀ r ∈ rowsLL, NameOk r.1 ∧ (r.1.toList == []) = false ∧ r.2.size ≤ 1 := by unfold NameOk; decide +kernel
theorem ff_facts : ∀ r ∈ rowsFF, NameOk r.1 ∧ (r.1.toList == []) = false ∧ 0 ≤ r.2 ∧ r.2 < 100000 := by unfold NameOk; decide +kernel
theorem cc_facts : ∀ r ∈ rowsC, NameOk r.1 ∧ (r.1.toList == []) = false ∧ 0 ≤ r.2 ∧ r.2 < 100000 := by unfold NameOk; decide +kernel
theorem pp_facts : ∀ i ∈ List.range 18, NameOk (padNm i) ∧ ((padNm i).toList == []) = false := by unfold NameOk; decide +kernel
theorem pad_facts {i : Int} {nm : BA} (hi : 0 ≤ i ∧ i < 18) (hn : i = 15 ∧ nm = #[75, 80, 69, 110, 116, 101, 114] ∨ ¬ i = 15 ∧ nm = #[75, 80] ++ ((padS.drop i.toNat).take 1).toArray) : NameOk nm ∧ (nm.toList == []) = false := by
  rw [pad_nm hn hi.1]
  exact pp_facts _ (List.mem_range.mpr (by omega))
theorem no_cc {nm : BA} {c f h : Int} (hn : (nm.toList == []) = false) : (nm.toList == []) = true → CodeOk c ∧ (Builtin.bitAnd f (Builtin.bitOr 1 8) = 0 → (Builtin.bitAnd h 4 = 0 ∨ (97 ≤ c ∧ c ≤ 122))) := by
  intro h
  rw [hn] at h
  cases h
theorem f9_all : ∀ f ∈ List.range 32, Builtin.bitAnd (f : Int) (Builtin.bitOr 1 8) = 0 → decide ((f : Int) % 2 = 1 ∨ (f : Int) / 8 % 2 = 1) = false := by decide +kernel
theorem sign_code {hc : Bool} {c h : Int} {pl : BA} (S : SignIs hc c h pl) : CodeOk c := by
  rcases S.2.2 with ⟨q, _⟩ | ⟨q, _⟩ | ⟨q, _⟩
  · rcases q with q | q | q <;> (subst q; unfold CodeOk; decide)
  · rcases q with q | q | q <;> (subst q; unfold CodeOk; decide)
  · rcases q with q | q | q | q <;> (subst q; unfold CodeOk; decide)
theorem sign_size {hc : Bool} {c h : Int} {pl : BA} (S : SignIs hc c h pl) : pl.size ≤ 5 := by
  have e : (esc h).size ≤ 1 := by unfold esc; split <;> decide
  have o1 := octK_size c h
  have o2 := sigB_size c
  rcases S.2.2 with x | x | x
  · rw [x.2.2.2, Array.size_append]; omega
  · rw [x.2.2, Array.size_append]; omega
  · rw [x.2.2, Array.size_append]; omega
theorem sign_cc {hc : Bool} {c h f : Int} {pl : BA} (S : SignIs hc c h pl) (hh : hc = decide (f % 2 = 1 ∨ f / 8 % 2 = 1)) (hf : 1 ≤ f ∧ f ≤ 31) :
    ((#[] : BA).toList == []) = true → CodeOk c ∧ (Builtin.bitAnd f (Builtin.bitOr 1 8) = 0 → (Builtin.bitAnd h 4 = 0 ∨ (97 ≤ c ∧ c ≤ 122))) := by
  intro _
  refine ⟨sign_code S, fun e => ?_⟩
  have hb : hc = false := by
    rw [hh]
    have := f9_all f.toNat (List.mem_range.mpr (by omega))
    rw [show ((f.toNat : Nat) : Int) = f by omega] at this
    exact this e
  rcases S.2.2 with x | x | x
  · exact .inr (by omega)
  · refine .inl ?_
    rcases x.2.1 with e | e <;> (rw [e]; decide +kernel)
  · refine .inl ?_
    rcases x.2.1 with e | e | e
    · rw [hb] at e; cases e
    · rw [e]; decide +kernel
    · rw [e]; decide +kernel
end Mine
namespace Mine
local macro_rules | `(tactic| k_mem) => `(tactic| (with_reducible refine mem_asMem ?_; ktr_member))
local macro_rules | `(tactic| ktr_room) => `(tactic| first | exact room_e (by assumption) | exact room_c (by assumption) (by decide))
local macro_rules | `(tactic| ktr_units) => `(tactic| exact unit_c (by assumption) (by decide))
local macro_rules | `(tactic| walk_at "ite") => `(tactic| (with_reducible refine ite_go ?_ ?_ <;> (intro hi'; (try simp only [decide_eq_true_eq, Bool.not_eq_true', decide_eq_false_iff_not, Bool.and_eq_true, Bool.or_eq_true, Bool.not_eq_true, Decidable.not_not, ne_eq, iB1, iB2, iB3, iB4, fd2, fm2, fd4, fm4, fd8, fd16, fm32, Bool.false_eq_true, Bool.true_eq_false, not_true_eq_false, not_false_eq_true] at hi'); first | (exfalso; omega) | skip)))
local macro_rules | `(tactic| walk_at "execs nil") => `(tactic| (k_here; refine wpAny_execs_nil ?_))
local macro_rules | `(tactic| walk_at "execs cons") => `(tactic| (k_here; (try dsimp only); k_gentoks))
theorem c_dec {w : World} {mean : Mean} {mg mb : SMap} {news : Led} {n : Int} {t : Tok} (h0 : 0 ≤ n) (h1 : n < 100000) :
    Tri w mean mg mb 1 28 [.int n t] news (IsB (decB n) 5) := by
  w_top off
  intro dp un gd cn cs a ccd cl outer A₀ base h₀ L m s Q E B F X N T hk hd hu hret
  refine wpAny_call ?_
  k_dflt (refine' code_def ?k1 ?k2 ?k3 ?k4 ?k5 ?kA ?kF ?kK ?k6 ?k7 ?k8 ?k9 ?kB ?_ ?c2 ?c3 ?c4 ?c5; (case kA => exact rfl); (case kF => exact rfl); (case kK => assumption); (case k1 => k_asm); (case k2 => k_asm); (case k3 => k_asm); (case k4 => k_asm); (case k5 => k_asm); (case k6 => k_is); (case k7 => k_is); (case k8 => ktr_room); (case k9 => first | exact BindsTo.of_eq rfl | exact binds_K (by k_in) rfl (by k_is) rfl rfl rfl); (case c5 => decide); (case kB => exact locs rfl); (case c2 => exact rfl); (case c3 => exact rfl); (case c4 => exact rfl); k_whole; intro g' L' h' FG' F' N' B' X' T'; (try dsimp only); (try k_lift B'); (try k_fold))
  (repeat' (first | (with_reducible ((with_reducible show wpAny _ _ (call (Value.type "bytes") [Value.ref _]) _ _ _); k_dflt (refine' KBa.make_K ?kbaF ?kbaN ?kbah ?kbal ?kbai ?kbar ?kban ?_; (case kbaF => k_asm); (case kbaN => k_asm); (case kbah => rfl); (case kbal => exact News.isList (by k_asm) (by k_mem)); (case kbai => repeat constructor); (case kbar => first | (intro q hq; simp only [List.mem_cons, List.not_mem_nil, or_false, fm10, fd10, fd64, fm64, fd4096, fm32] at hq; omega) | ((rename CodeOk _ => hc); (rcases hc with hc | hc | hc | hc | hc | hc | hc | hc | hc | hc) <;> (subst hc; first | (exfalso; omega) | (unfold KBa.In; decide +kernel)))); (case kban => kba_size)); intro _ _ _ F' N' _)) | (with_reducible ((with_reducible show WhlIf _ _ _); ((simp only [fd10]); refine whl_split ?_ ?_ <;> (intro hw'; (first | (exfalso; omega) | skip))))) | (with_reducible ((with_reducible show WhlIf _ _ _); (with_reducible refine whl_splitB ?_ ?_ <;> (intro hw'; (first | (exfalso; exact absurd (eq_of_beq hw') decB_ne) | (exfalso; exact absurd (eq_of_beq hw') firstK_ne) | (exfalso; exact absurd (eq_of_beq hw') (app_ne (app_ne decB_ne))) | skip))))) | (k_unfold; (try dsimp only)) | (k_end; kc_close) | walk1 | (dsimp only; walk1) | (leave1; walk_say "STEP leave1"; (try dsimp only)) | fail "no step"))
  all_goals (refine' hret _ _ _ ?hR ?hF ?hN; (case hF => k_asm); (case hN => (refine' cb_drop ?cbN ?cbS; (case cbN => assumption); (case cbS => (intro p9 hp9; (repeat first | with_reducible exact hp9 | with_reducible refine List.mem_cons_of_mem _ ?_))))); (case hR => ((refine ⟨decB_size n, _, congrArg (fun b => Value.bytes b _) ?_⟩; simp only [fd10, fm10, decB, decL]; (repeat (first | rw [if_pos (by omega)] | rw [if_neg (by omega)]))))))
theorem c_is_sign {w : World} {mean : Mean} {mg mb : SMap} {news : Led} {n : Int} {t : Tok} (h0 : 0 ≤ n) (h1 : n < 55296) :
    Tri w mean mg mb 1 35 [.int n t] news (IsT true) := by
  w_top off
  intro dp un gd cn cs a ccd cl outer A₀ base h₀ L m s Q E B F X N T hk hd hu hret
  refine wpAny_call ?_
  k_dflt (refine' code_def ?k1 ?k2 ?k3 ?k4 ?k5 ?kA ?kF ?kK ?k6 ?k7 ?k8 ?k9 ?kB ?_ ?c2 ?c3 ?c4 ?c5; (case kA => exact rfl); (case kF => exact rfl); (case kK => assumption); (case k1 => k_asm); (case k2 => k_asm); (case k3 => k_asm); (case k4 => k_asm); (case k5 => k_asm); (case k6 => k_is); (case k7 => k_is); (case k8 => ktr_room); (case k9 => first | exact BindsTo.of_eq rfl | exact binds_K (by k_in) rfl (by k_is) rfl rfl rfl); (case c5 => decide); (case kB => exact locs rfl); (case c2 => exact rfl); (case c3 => exact rfl); (case c4 => exact rfl); k_whole; intro g' L' h' FG' F' N' B' X' T'; (try dsimp only); (try k_lift B'); (try k_fold))
  (repeat' (first | (k_unfold; (try dsimp only)) | (k_end; kc_close) | walk1 | (dsimp only; walk1) | (leave1; walk_say "STEP leave1"; (try dsimp only)) | fail "no step"))
  all_goals (refine' hret _ _ _ ?hR ?hF ?hN; (case hF => k_asm); (case hN => (refine' cb_drop ?cbN ?cbS; (case cbN => assumption); (case cbS => (intro p9 hp9; (repeat first | with_reducible exact hp9 | with_reducible refine List.mem_cons_of_mem _ ?_))))); (case hR => ((refine congrArg Value.bool ?_; rw [Bool.eq_iff_iff]; (simp only [decide_eq_true_eq, Bool.false_eq_true, Bool.not_eq_true', decide_eq_false_iff_not, Bool.and_eq_true, true_iff, iff_true, iff_false, false_iff]); omega))))
theorem c_capital {w : World} {mean : Mean} {mg mb : SMap} {news : Led} {n : Int} {t : Tok}  :
    Tri w mean mg mb 1 163 [.int n t] news (IsT (decide (65 ≤ n ∧ n ≤ 90))) := by
  w_top off
  intro dp un gd cn cs a ccd cl outer A₀ base h₀ L m s Q E B F X N T hk hd hu hret
  refine wpAny_call ?_
  k_dflt (refine' code_def ?k1 ?k2 ?k3 ?k4 ?k5 ?kA ?kF ?kK ?k6 ?k7 ?k8 ?k9 ?kB ?_ ?c2 ?c3 ?c4 ?c5; (case kA => exact rfl); (case kF => exact rfl); (case kK => assumption); (case k1 => k_asm); (case k2 => k_asm); (case k3 => k_asm); (case k4 => k_asm); (case k5 => k_asm); (case k6 => k_is); (case k7 => k_is); (case k8 => ktr_room); (case k9 => first | exact BindsTo.of_eq rfl | exact binds_K (by k_in) rfl (by k_is) rfl rfl rfl); (case c5 => decide); (case kB => exact locs rfl); (case c2 => exact rfl); (case c3 => exact rfl); (case c4 => exact rfl); k_whole; intro g' L' h' FG' F' N' B' X' T'; (try dsimp only); (try k_lift B'); (try k_fold))
  (repeat' (first | (k_unfold; (try dsimp only)) | (k_end; kc_close) | walk1 | (dsimp only; walk1) | (leave1; walk_say "STEP leave1"; (try dsimp only)) | fail "no step"))
  all_goals (refine' hret _ _ _ ?hR ?hF ?hN; (case hF => k_asm); (case hN => (refine' cb_drop ?cbN ?cbS; (case cbN => assumption); (case cbS => (intro p9 hp9; (repeat first | with_reducible exact hp9 | with_reducible refine List.mem_cons_of_mem _ ?_))))); (case hR => ((refine congrArg Value.bool ?_; rw [Bool.eq_iff_iff]; (simp only [decide_eq_true_eq, Bool.false_eq_true, Bool.not_eq_true', decide_eq_false_iff_not, Bool.and_eq_true, true_iff, iff_true, iff_false, false_iff]); omega))))
theorem c_small {w : World} {mean : Mean} {mg mb : SMap} {news : Led} {n : Int} {t : Tok}  :
    Tri w mean mg mb 1 170 [.int n t] news (IsT (decide (97 ≤ n ∧ n ≤ 122))) := by
  w_top off
  intro dp un gd cn cs a ccd cl outer A₀ base h₀ L m s Q E B F X N T hk hd hu hret
  refine wpAny_call ?_
  k_dflt (refine' code_def ?k1 ?k2 ?k3 ?k4 ?k5 ?kA ?kF ?kK ?k6 ?k7 ?k8 ?k9 ?kB ?_ ?c2 ?c3 ?c4 ?c5; (case kA => exact rfl); (case kF => exact rfl); (case kK => assumption); (case k1 => k_asm); (case k2 => k_asm); (case k3 => k_asm); (case k4 => k_asm); (case k5 => k_asm); (case k6 => k_is); (case k7 => k_is); (case k8 => ktr_room); (case k9 => first | exact BindsTo.of_eq rfl | exact binds_K (by k_in) rfl (by k_is) rfl rfl rfl); (case c5 => decide); (case kB => exact locs rfl); (case c2 => exact rfl); (case c3 => exact rfl); (case c4 => exact rfl); k_whole; intro g' L' h' FG' F' N' B' X' T'; (try dsimp only); (try k_lift B'); (try k_fold))
  (repeat' (first | (k_unfold; (try dsimp only)) | (k_end; kc_close) | walk1 | (dsimp only; walk1) | (leave1; walk_say "STEP leave1"; (try dsimp only)) | fail "no step"))
  all_goals (refine' hret _ _ _ ?hR ?hF ?hN; (case hF => k_asm); (case hN => (refine' cb_drop ?cbN ?cbS; (case cbN => assumption); (case cbS => (intro p9 hp9; (repeat first | with_reducible exact hp9 | with_reducible refine List.mem_cons_of_mem _ ?_))))); (case hR => ((refine congrArg Value.bool ?_; rw [Bool.eq_iff_iff]; (simp only [decide_eq_true_eq, Bool.false_eq_true, Bool.not_eq_true', decide_eq_false_iff_not, Bool.and_eq_true, true_iff, iff_true, iff_false, false_iff]); omega))))
theorem c_utf8 {w : World} {mean : Mean} {mg mb : SMap} {news : Led} {n : Int} {t : Tok} (hc : CodeOk n) :
    Tri w mean mg mb 2 42 [.int n t] news (IsB (sigB n) 3) := by
  w_top off
  intro dp un gd cn cs a ccd cl outer A₀ base h₀ L m s Q E B F X N T hk hd hu hret
  refine wpAny_call ?_
  k_dflt (refine' code_def ?k1 ?k2 ?k3 ?k4 ?k5 ?kA ?kF ?kK ?k6 ?k7 ?k8 ?k9 ?kB ?_ ?c2 ?c3 ?c4 ?c5; (case kA => exact rfl); (case kF => exact rfl); (case kK => assumption); (case k1 => k_asm); (case k2 => k_asm); (case k3 => k_asm); (case k4 => k_asm); (case k5 => k_asm); (case k6 => k_is); (case k7 => k_is); (case k8 => ktr_room); (case k9 => first | exact BindsTo.of_eq rfl | exact binds_K (by k_in) rfl (by k_is) rfl rfl rfl); (case c5 => decide); (case kB => exact locs rfl); (case c2 => exact rfl); (case c3 => exact rfl); (case c4 => exact rfl); k_whole; intro g' L' h' FG' F' N' B' X' T'; (try dsimp only); (try k_lift B'); (try k_fold))
  have h0 := CodeOk.lo hc
  have h1 := CodeOk.hi hc
  (repeat' (first | ((with_reducible show wpAny _ _ (call (Value.ref 35) [Value.int _ _]) _ _ _); k_dflt (refine' Tri.use (c_is_sign ?p_h0 ?p_h1) ?k1 ?k2 ?k3 ?k4 ?k5 ?kK ?kd ?ku ?_; (case k1 => k_asm); (case k2 => k_asm); (case k3 => k_asm); (case k4 => k_asm); (case k5 => k_asm); (case kK => first | exact rfl | assumption); (case kd => ktr_room); (case ku => ktr_units); (case p_h0 => (first | with_reducible assumption | decide | exact le9 (by with_reducible assumption) | omega)); (case p_h1 => (first | with_reducible assumption | decide | exact le9 (by with_reducible assumption) | omega)); skip; intro r9 h9 tk9 hR F9 N9; (have e9 := IsT.out hR; subst e9; clear hR); (try dsimp only))) | (with_reducible ((with_reducible show wpAny _ _ (call (Value.type "bytes") [Value.ref _]) _ _ _); k_dflt (refine' KBa.make_K ?kbaF ?kbaN ?kbah ?kbal ?kbai ?kbar ?kban ?_; (case kbaF => k_asm); (case kbaN => k_asm); (case kbah => rfl); (case kbal => exact News.isList (by k_asm) (by k_mem)); (case kbai => repeat constructor); (case kbar => first | (intro q hq; simp only [List.mem_cons, List.not_mem_nil, or_false, fm10, fd10, fd64, fm64, fd4096, fm32] at hq; omega) | ((rename CodeOk _ => hc); (rcases hc with hc | hc | hc | hc | hc | hc | hc | hc | hc | hc) <;> (subst hc; first | (exfalso; omega) | (unfold KBa.In; decide +kernel)))); (case kban => kba_size)); intro _ _ _ F' N' _)) | (k_unfold; (try dsimp only)) | (k_end; kc_close) | walk1 | (dsimp only; walk1) | (leave1; walk_say "STEP leave1"; (try dsimp only)) | fail "no step"))
  all_goals (refine' hret _ _ _ ?hR ?hF ?hN; (case hF => k_asm); (case hN => (refine' cb_drop ?cbN ?cbS; (case cbN => assumption); (case cbS => (intro p9 hp9; (repeat first | with_reducible exact hp9 | with_reducible refine List.mem_cons_of_mem _ ?_))))); (case hR => ((refine ⟨sigB_size n, _, congrArg (fun b => Value.bytes b _) ?_⟩; rcases hc with hc | hc | hc | hc | hc | hc | hc | hc | hc | hc <;> (subst hc; first | (exfalso; omega) | decide +kernel)))))
theorem c_lsigns {w : World} {mean : Mean} {mg mb : SMap} {news : Led} {n : Int} {t : Tok} (h0 : 0 ≤ n) (h1 : n < 55296) :
    Tri w mean mg mb 1 369 [.int n t] news (IsB (sigB n) 3) := by
  w_top off
  intro dp un gd cn cs a ccd cl outer A₀ base h₀ L m s Q E B F X N T hk hd hu hret
  refine wpAny_call ?_
  k_dflt (refine' code_def ?k1 ?k2 ?k3 ?k4 ?k5 ?kA ?kF ?kK ?k6 ?k7 ?k8 ?k9 ?kB ?_ ?c2 ?c3 ?c4 ?c5; (case kA => exact rfl); (case kF => exact rfl); (case kK => assumption); (case k1 => k_asm); (case k2 => k_asm); (case k3 => k_asm); (case k4 => k_asm); (case k5 => k_asm); (case k6 => k_is); (case k7 => k_is); (case k8 => ktr_room); (case k9 => first | exact BindsTo.of_eq rfl | exact binds_K (by k_in) rfl (by k_is) rfl rfl rfl); (case c5 => decide); (case kB => exact locs rfl); (case c2 => exact rfl); (case c3 => exact rfl); (case c4 => exact rfl); k_whole; intro g' L' h' FG' F' N' B' X' T'; (try dsimp only); (try k_lift B'); (try k_fold))
  (repeat' (first | (with_reducible ((with_reducible show wpAny _ _ (call (Value.type "bytes") [Value.ref _]) _ _ _); k_dflt (refine' KBa.make_K ?kbaF ?kbaN ?kbah ?kbal ?kbai ?kbar ?kban ?_; (case kbaF => k_asm); (case kbaN => k_asm); (case kbah => rfl); (case kbal => exact News.isList (by k_asm) (by k_mem)); (case kbai => repeat constructor); (case kbar => first | (intro q hq; simp only [List.mem_cons, List.not_mem_nil, or_false, fm10, fd10, fd64, fm64, fd4096, fm32] at hq; omega) | ((rename CodeOk _ => hc); (rcases hc with hc | hc | hc | hc | hc | hc | hc | hc | hc | hc) <;> (subst hc; first | (exfalso; omega) | (unfold KBa.In; decide +kernel)))); (case kban => kba_size)); intro _ _ _ F' N' _)) | (k_unfold; (try dsimp only)) | (k_end; kc_close) | walk1 | (dsimp only; walk1) | (leave1; walk_say "STEP leave1"; (try dsimp only)) | fail "no step"))
  all_goals (refine' hret _ _ _ ?hR ?hF ?hN; (case hF => k_asm); (case hN => (refine' cb_drop ?cbN ?cbS; (case cbN => assumption); (case cbS => (intro p9 hp9; (repeat first | with_reducible exact hp9 | with_reducible refine List.mem_cons_of_mem _ ?_))))); (case hR => ((refine ⟨sigB_size n, _, congrArg (fun b => Value.bytes b _) ?_⟩; simp only [fd64, fm64, fd4096, sigB]; (repeat (first | rw [if_pos (by omega)] | rw [if_neg (by omega)]))))))
theorem c_num {w : World} {mean : Mean} {mg mb : SMap} {news : Led} {a : Addr} {rows : List (BA × Int)} {nm : BA} {t : Tok} (ht : NumTab w.params a rows) :
    Tri w mean mg mb 1 177 [.ref a, .bytes nm t] news (IsO (numOf rows nm)) := by
  w_top off
  intro dp un gd cn cs a ccd cl outer A₀ base h₀ L m s Q E B F X N T hk hd hu hret
  refine wpAny_call ?_
  k_dflt (refine' code_def ?k1 ?k2 ?k3 ?k4 ?k5 ?kA ?kF ?kK ?k6 ?k7 ?k8 ?k9 ?kB ?_ ?c2 ?c3 ?c4 ?c5; (case kA => exact rfl); (case kF => exact rfl); (case kK => assumption); (case k1 => k_asm); (case k2 => k_asm); (case k3 => k_asm); (case k4 => k_asm); (case k5 => k_asm); (case k6 => k_is); (case k7 => k_is); (case k8 => ktr_room); (case k9 => first | exact BindsTo.of_eq rfl | exact binds_K (by k_in) rfl (by k_is) rfl rfl rfl); (case c5 => decide); (case kB => exact locs rfl); (case c2 => exact rfl); (case c3 => exact rfl); (case c4 => exact rfl); k_whole; intro g' L' h' FG' F' N' B' X' T'; (try dsimp only); (try k_lift B'); (try k_fold))
  obtain ⟨vs, hv0, hr⟩ := ht
  (repeat' (first | (with_reducible ((with_reducible show wpAny _ _ (exec (Stmt.For _ _ _ _ _) _) _ _ _); ((rename Fr _ _ _ _ => lF'); (with_unfolding_all refine' For_turns lF' ?_; k_whole)))) | (k_unfold; (try dsimp only)) | (k_end; kc_close) | walk1 | (dsimp only; walk1) | (leave1; walk_say "STEP leave1"; (try dsimp only)) | fail "no step"))
  refine' turn_rows (vs := vs) (fun m => m (Str.ofString "name") = some (.bytes nm t)) (fun i => numOf (rows.drop i) nm = numOf rows nm) ?trH ?trL ?trF ?trN ?trK ?trJ ?trT ?trD
  case trH => exact rfl
  case trL => exact ⟨_, X' _ _ hv0, rfl, 0, rfl⟩
  case trF => assumption
  case trN => assumption
  case trK => exact rfl
  case trJ => exact rfl
  case trT =>
    intro i v m h tk I oI hv hJ hI K F9 N9
    obtain ⟨ra, k, x, tk, tx, ev, hra, e⟩ := hr.get nm hv
    subst ev
    rw [keep_name K] at F9
    have hT : IsTup h ra #[.bytes k tk, .int x tx] := ⟨_, F9.keep _ _ (X' _ _ hra), rfl, 0, rfl⟩
    (repeat' (first | (with_reducible ((with_reducible show wpAny _ _ (exec (Stmt.For _ _ _ _ _) _) _ _ _); ((rename Fr _ _ _ _ => lF'); (with_unfolding_all refine' For_turns lF' ?_; k_whole)))) | (k_unfold; (try dsimp only)) | (k_end; kc_close) | walk1 | (dsimp only; walk1) | (leave1; walk_say "STEP leave1"; (try dsimp only)) | fail "no step"))
    · dsimp only
      unfold RowQ
      dsimp only
      (repeat' (first | (with_reducible ((with_reducible show wpAny _ _ (exec (Stmt.For _ _ _ _ _) _) _ _ _); ((rename Fr _ _ _ _ => lF'); (with_unfolding_all refine' For_turns lF' ?_; k_whole)))) | (k_unfold; (try dsimp only)) | (k_end; kc_close) | walk1 | (dsimp only; walk1) | (leave1; walk_say "STEP leave1"; (try dsimp only)) | fail "no step"))
      (refine' hret _ _ _ ?hR ?hF ?hN; (case hF => k_asm); (case hN => (refine' cb_drop ?cbN ?cbS; (case cbN => assumption); (case cbS => (intro p9 hp9; (repeat first | with_reducible exact hp9 | with_reducible refine List.mem_cons_of_mem _ ?_))))); (case hR => (rw [← hJ, e, if_pos (by with_reducible assumption)]; exact ⟨_, rfl⟩)))
    · refine' rowQ_end ?rqF ?rqN ?rqK ?rqJ
      case rqF => assumption
      case rqN => assumption
      case rqK => exact rfl
      case rqJ => exact (if_neg (ne_true_of_eq_false (by with_reducible assumption)) ▸ e).symm.trans hJ
  case trD =>
    intro h tk m hJ F9 N9
    rw [hr.length, List.drop_length] at hJ
    (repeat' (first | (with_reducible ((with_reducible show wpAny _ _ (exec (Stmt.For _ _ _ _ _) _) _ _ _); ((rename Fr _ _ _ _ => lF'); (with_unfolding_all refine' For_turns lF' ?_; k_whole)))) | (k_unfold; (try dsimp only)) | (k_end; kc_close) | walk1 | (dsimp only; walk1) | (leave1; walk_say "STEP leave1"; (try dsimp only)) | fail "no step"))
    (refine' hret _ _ _ ?hR ?hF ?hN; (case hF => k_asm); (case hN => (refine' cb_drop ?cbN ?cbS; (case cbN => assumption); (case cbS => (intro p9 hp9; (repeat first | with_reducible exact hp9 | with_reducible refine List.mem_cons_of_mem _ ?_))))); (case hR => (rw [← hJ]; exact rfl)))
  all_goals (refine' hret _ _ _ ?hR ?hF ?hN; (case hF => k_asm); (case hN => (refine' cb_drop ?cbN ?cbS; (case cbN => assumption); (case cbS => (intro p9 hp9; (repeat first | with_reducible exact hp9 | with_reducible refine List.mem_cons_of_mem _ ?_))))); (case hR => (skip)))
theorem c_pad {w : World} {mean : Mean} {mg mb : SMap} {news : Led} {nm : BA} {t : Tok}  :
    TriX w mean mg mb 1 184 [.bytes nm t] news (PadIs (padOf rowsP nm)) := by
  w_top off
  intro dp un gd cn cs a ccd cl outer A₀ base h₀ L m s Q E B F X N T hk hd hu hret
  refine wpAny_call ?_
  k_dflt (refine' code_def ?k1 ?k2 ?k3 ?k4 ?k5 ?kA ?kF ?kK ?k6 ?k7 ?k8 ?k9 ?kB ?_ ?c2 ?c3 ?c4 ?c5; (case kA => exact rfl); (case kF => exact rfl); (case kK => assumption); (case k1 => k_asm); (case k2 => k_asm); (case k3 => k_asm); (case k4 => k_asm); (case k5 => k_asm); (case k6 => k_is); (case k7 => k_is); (case k8 => ktr_room); (case k9 => first | exact BindsTo.of_eq rfl | exact binds_K (by k_in) rfl (by k_is) rfl rfl rfl); (case c5 => decide); (case kB => exact locs rfl); (case c2 => exact rfl); (case c3 => exact rfl); (case c4 => exact rfl); k_whole; intro g' L' h' FG' F' N' B' X' T'; (try dsimp only); (try k_lift B'); (try k_fold))
  obtain ⟨vs, hv0, hr⟩ := tab_98 (P := w.params)
  repeat ((fail_if_success (with_reducible refine (?_ : wpAny _ _ (pyIter (Value.ref _)) _ _ _))); focus walk1)
  refine' turn_rows (vs := vs) (fun m => m (Str.ofString "name") = some (.bytes nm t)) (fun i => padOf (rowsP.drop i) nm = padOf rowsP nm) ?trH ?trL ?trF ?trN ?trK ?trJ ?trT ?trD
  case trH => exact rfl
  case trL => exact ⟨_, X' _ _ hv0, rfl, 0, rfl⟩
  case trF => assumption
  case trN => assumption
  case trK => exact rfl
  case trJ => exact rfl
  case trT =>
    intro i v m h tk I oI hv hJ hI K F9 N9
    obtain ⟨ra, k, x, y, z, tk, tx, ty, tz, ev, hra, e⟩ := hr.get nm hv
    subst ev
    rw [keep_name K] at F9
    have hT : IsTup h ra #[.bytes k tk, .int x tx, .int y ty, .int z tz] := ⟨_, F9.keep _ _ (X' _ _ hra), rfl, 0, rfl⟩
    (repeat' (first | (with_reducible ((with_reducible show wpAny _ _ (exec (Stmt.For _ _ _ _ _) _) _ _ _); ((rename Fr _ _ _ _ => lF'); (with_unfolding_all refine' For_turns lF' ?_; k_whole)))) | (k_unfold; (try dsimp only)) | (k_end; kc_close) | walk1 | (dsimp only; walk1) | (leave1; walk_say "STEP leave1"; (try dsimp only)) | fail "no step"))
    · dsimp only
      unfold RowQ
      dsimp only
      (repeat' (first | (with_reducible ((with_reducible show wpAny _ _ (exec (Stmt.For _ _ _ _ _) _) _ _ _); ((rename Fr _ _ _ _ => lF'); (with_unfolding_all refine' For_turns lF' ?_; k_whole)))) | (k_unfold; (try dsimp only)) | (k_end; kc_close) | walk1 | (dsimp only; walk1) | (leave1; walk_say "STEP leave1"; (try dsimp only)) | fail "no step"))
      (refine' hret (.ref _) [_] _ _ ?hR ?hF ?hN (one_lt ?hL); (case hN => exact news_drop1 (by assumption)); (case hF => k_asm); (case hL => ((rename _ ∧ AllLt _ _ => l9); exact allLt_at l9.2)); (case hR => (rw [← hJ, e, if_pos (by with_reducible assumption)]; exact ⟨_, _, _, _, rfl, rfl⟩)))
    · refine' rowQ_end ?rqF ?rqN ?rqK ?rqJ
      case rqF => assumption
      case rqN => assumption
      case rqK => exact rfl
      case rqJ => exact (if_neg (ne_true_of_eq_false (by with_reducible assumption)) ▸ e).symm.trans hJ
  case trD =>
    intro h tk m hJ F9 N9
    rw [hr.length, List.drop_length] at hJ
    (repeat' (first | (with_reducible ((with_reducible show wpAny _ _ (exec (Stmt.For _ _ _ _ _) _) _ _ _); ((rename Fr _ _ _ _ => lF'); (with_unfolding_all refine' For_turns lF' ?_; k_whole)))) | (k_unfold; (try dsimp only)) | (k_end; kc_close) | walk1 | (dsimp only; walk1) | (leave1; walk_say "STEP leave1"; (try dsimp only)) | fail "no step"))
    (refine' hret _ [] _ _ ?hR ?hF ?hN (fun _ h => nomatch h); (case hF => k_asm); (case hN => (rw [List.nil_append]; assumption)); (case hR => (rw [← hJ]; exact ⟨rfl, rfl⟩)))
  all_goals (skip)
theorem c_kheld {w : World} {mean : Mean} {mg mb : SMap} {news : Led} {x dx : Addr} {n1 n2 n3 n4 tn tc th te : Tok} {nm : BA} {c h e : Int} {g f : Int} {tg tf : Tok} (hx : (x, instObj 152 dx) ∈ news) (hdx : (dx, keyObj w.params n1 n2 n3 n4 nm tn c tc h th e te) ∈ news) (hg : 0 ≤ g ∧ g ≤ 9) (he : 1 ≤ e ∧ e ≤ 3) :
    Tri w mean mg mb 2 233 [.int g tg, .ref x, .int f tf] news (IsB (heldK g e f) 11) := by
  w_top off
  intro dp un gd cn cs a ccd cl outer A₀ base h₀ L m s Q E B F X N T hk hd hu hret
  refine wpAny_call ?_
  k_dflt (refine' code_def ?k1 ?k2 ?k3 ?k4 ?k5 ?kA ?kF ?kK ?k6 ?k7 ?k8 ?k9 ?kB ?_ ?c2 ?c3 ?c4 ?c5; (case kA => exact rfl); (case kF => exact rfl); (case kK => assumption); (case k1 => k_asm); (case k2 => k_asm); (case k3 => k_asm); (case k4 => k_asm); (case k5 => k_asm); (case k6 => k_is); (case k7 => k_is); (case k8 => ktr_room); (case k9 => first | exact BindsTo.of_eq rfl | exact binds_K (by k_in) rfl (by k_is) rfl rfl rfl); (case c5 => decide); (case kB => exact locs rfl); (case c2 => exact rfl); (case c3 => exact rfl); (case c4 => exact rfl); k_whole; intro g' L' h' FG' F' N' B' X' T'; (try dsimp only); (try k_lift B'); (try k_fold))
  (repeat' (first | ((with_reducible show wpAny _ _ (call (Value.ref 28) [Value.int _ _]) _ _ _); k_dflt (refine' Tri.use (c_dec ?p_h0 ?p_h1) ?k1 ?k2 ?k3 ?k4 ?k5 ?kK ?kd ?ku ?_; (case k1 => k_asm); (case k2 => k_asm); (case k3 => k_asm); (case k4 => k_asm); (case k5 => k_asm); (case kK => first | exact rfl | assumption); (case kd => ktr_room); (case ku => ktr_units); (case p_h0 => (first | with_reducible assumption | decide | exact le9 (by with_reducible assumption) | omega)); (case p_h1 => (first | with_reducible assumption | decide | exact le9 (by with_reducible assumption) | omega)); skip; intro r9 h9 tk9 hR F9 N9; (obtain ⟨hz9, t9, e9⟩ := hR; subst e9); (try dsimp only))) | (with_reducible ((with_reducible show wpAny _ _ (binaryOp Operator.Add (Value.bytes _ _) (Value.bytes _ _)) _ _ _); (refine' KBy.add_bytes ?bsz ?_; (case bsz => ((try simp only [Array.size_append, List.size_toArray, List.length_cons, List.length_nil, byteArr_size]); omega))); intro _ _)) | (k_unfold; (try dsimp only)) | (k_end; kc_close) | walk1 | (dsimp only; walk1) | (leave1; walk_say "STEP leave1"; (try dsimp only)) | fail "no step"))
  all_goals (refine' hret _ _ _ ?hR ?hF ?hN; (case hF => k_asm); (case hN => (refine' cb_drop ?cbN ?cbS; (case cbN => assumption); (case cbS => (intro p9 hp9; (repeat first | with_reducible exact hp9 | with_reducible refine List.mem_cons_of_mem _ ?_))))); (case hR => ((refine ⟨heldK_size _ _ _, _, congrArg (fun b => Value.bytes b _) ?_⟩; (try simp only [Array.append_empty]); unfold heldK; (repeat (first | rw [if_pos (by omega)] | rw [if_neg (by omega)])); try rfl))))
theorem c_csi0 {w : World} {mean : Mean} {mg mb : SMap} {news : Led} {l : Addr} { fin : BA} { tf : Tok} {k : Nat} (hl : (l, W.listOf #[] k) ∈ news) (hf : fin.size ≤ 1) :
    Tri w mean mg mb 1 191 [.ref l, .bytes fin tf] news (IsB (csi (#[]) fin) 80) := by
  w_top off
  intro dp un gd cn cs a ccd cl outer A₀ base h₀ L m s Q E B F X N T hk hd hu hret
  refine wpAny_call ?_
  k_dflt (refine' code_def ?k1 ?k2 ?k3 ?k4 ?k5 ?kA ?kF ?kK ?k6 ?k7 ?k8 ?k9 ?kB ?_ ?c2 ?c3 ?c4 ?c5; (case kA => exact rfl); (case kF => exact rfl); (case kK => assumption); (case k1 => k_asm); (case k2 => k_asm); (case k3 => k_asm); (case k4 => k_asm); (case k5 => k_asm); (case k6 => k_is); (case k7 => k_is); (case k8 => ktr_room); (case k9 => first | exact BindsTo.of_eq rfl | exact binds_K (by k_in) rfl (by k_is) rfl rfl rfl); (case c5 => decide); (case kB => exact locs rfl); (case c2 => exact rfl); (case c3 => exact rfl); (case c4 => exact rfl); k_whole; intro g' L' h' FG' F' N' B' X' T'; (try dsimp only); (try k_lift B'); (try k_fold))
  (repeat' (first | (with_reducible ((with_reducible show wpAny _ _ (binaryOp Operator.Add (Value.bytes _ _) (Value.bytes _ _)) _ _ _); (refine' KBy.add_bytes ?bsz ?_; (case bsz => ((try simp only [Array.size_append, List.size_toArray, List.length_cons, List.length_nil, byteArr_size]); omega))); intro _ _)) | (with_reducible ((with_reducible show wpAny _ _ (call (Value.builtin "bytes.join") [Value.bytes _ _, Value.ref _]) _ _ _); k_dflt (first | (refine' join2 ?jl ?js ?_; (case jl => exact News.isList (by k_asm) (by k_mem)); (case js => (simp; omega))) | (refine' join1 ?jl ?_; (case jl => exact News.isList (by k_asm) (by k_mem))) | (refine' join3 ?jl ?js ?_; (case jl => exact News.isList (by k_asm) (by k_mem)); (case js => (simp; omega))) | (refine' join0 ?jl ?js ?_; (case jl => exact News.isList (by k_asm) (by k_mem)); (case js => simp))); intro _ _)) | (with_reducible ((with_reducible refine join_meth ?_))) | (k_unfold; (try dsimp only)) | (k_end; kc_close) | walk1 | (dsimp only; walk1) | (leave1; walk_say "STEP leave1"; (try dsimp only)) | fail "no step"))
  all_goals (refine' hret _ _ _ ?hR ?hF ?hN; (case hF => k_asm); (case hN => (refine' cb_drop ?cbN ?cbS; (case cbN => assumption); (case cbS => (intro p9 hp9; (repeat first | with_reducible exact hp9 | with_reducible refine List.mem_cons_of_mem _ ?_))))); (case hR => ((refine ⟨?hsz, _, congrArg (fun b => Value.bytes b _) ?hb⟩; (case hsz => ((try unfold csi); (try simp only [Array.size_append, List.size_toArray, List.length_cons, List.length_nil]); omega)); (case hb => rfl)))))
theorem c_csi1 {w : World} {mean : Mean} {mg mb : SMap} {news : Led} {l : Addr} {x fin : BA} {tx tf : Tok} {k : Nat} (hl : (l, W.listOf #[.bytes x tx] k) ∈ news) (hx : x.size ≤ 20) (hf : fin.size ≤ 1) :
    Tri w mean mg mb 1 191 [.ref l, .bytes fin tf] news (IsB (csi (x) fin) 80) := by
  w_top off
  intro dp un gd cn cs a ccd cl outer A₀ base h₀ L m s Q E B F X N T hk hd hu hret
  refine wpAny_call ?_
  k_dflt (refine' code_def ?k1 ?k2 ?k3 ?k4 ?k5 ?kA ?kF ?kK ?k6 ?k7 ?k8 ?k9 ?kB ?_ ?c2 ?c3 ?c4 ?c5; (case kA => exact rfl); (case kF => exact rfl); (case kK => assumption); (case k1 => k_asm); (case k2 => k_asm); (case k3 => k_asm); (case k4 => k_asm); (case k5 => k_asm); (case k6 => k_is); (case k7 => k_is); (case k8 => ktr_room); (case k9 => first | exact BindsTo.of_eq rfl | exact binds_K (by k_in) rfl (by k_is) rfl rfl rfl); (case c5 => decide); (case kB => exact locs rfl); (case c2 => exact rfl); (case c3 => exact rfl); (case c4 => exact rfl); k_whole; intro g' L' h' FG' F' N' B' X' T'; (try dsimp only); (try k_lift B'); (try k_fold))
  (repeat' (first | (with_reducible ((with_reducible show wpAny _ _ (binaryOp Operator.Add (Value.bytes _ _) (Value.bytes _ _)) _ _ _); (refine' KBy.add_bytes ?bsz ?_; (case bsz => ((try simp only [Array.size_append, List.size_toArray, List.length_cons, List.length_nil, byteArr_size]); omega))); intro _ _)) | (with_reducible ((with_reducible show wpAny _ _ (call (Value.builtin "bytes.join") [Value.bytes _ _, Value.ref _]) _ _ _); k_dflt (first | (refine' join2 ?jl ?js ?_; (case jl => exact News.isList (by k_asm) (by k_mem)); (case js => (simp; omega))) | (refine' join1 ?jl ?_; (case jl => exact News.isList (by k_asm) (by k_mem))) | (refine' join3 ?jl ?js ?_; (case jl => exact News.isList (by k_asm) (by k_mem)); (case js => (simp; omega))) | (refine' join0 ?jl ?js ?_; (case jl => exact News.isList (by k_asm) (by k_mem)); (case js => simp))); intro _ _)) | (with_reducible ((with_reducible refine join_meth ?_))) | (k_unfold; (try dsimp only)) | (k_end; kc_close) | walk1 | (dsimp only; walk1) | (leave1; walk_say "STEP leave1"; (try dsimp only)) | fail "no step"))
  all_goals (refine' hret _ _ _ ?hR ?hF ?hN; (case hF => k_asm); (case hN => (refine' cb_drop ?cbN ?cbS; (case cbN => assumption); (case cbS => (intro p9 hp9; (repeat first | with_reducible exact hp9 | with_reducible refine List.mem_cons_of_mem _ ?_))))); (case hR => ((refine ⟨?hsz, _, congrArg (fun b => Value.bytes b _) ?hb⟩; (case hsz => ((try unfold csi); (try simp only [Array.size_append, List.size_toArray, List.length_cons, List.length_nil]); omega)); (case hb => rfl)))))
theorem c_csi2 {w : World} {mean : Mean} {mg mb : SMap} {news : Led} {l : Addr} {x y fin : BA} {tx ty tf : Tok} {k : Nat} (hl : (l, W.listOf #[.bytes x tx, .bytes y ty] k) ∈ news) (hx : x.size ≤ 20) (hy : y.size ≤ 20) (hf : fin.size ≤ 1) :
    Tri w mean mg mb 1 191 [.ref l, .bytes fin tf] news (IsB (csi (x ++ #[59] ++ y) fin) 80) := by
  w_top off
  intro dp un gd cn cs a ccd cl outer A₀ base h₀ L m s Q E B F X N T hk hd hu hret
  refine wpAny_call ?_
  k_dflt (refine' code_def ?k1 ?k2 ?k3 ?k4 ?k5 ?kA ?kF ?kK ?k6 ?k7 ?k8 ?k9 ?kB ?_ ?c2 ?c3 ?c4 ?c5; (case kA => exact rfl); (case kF => exact rfl); (case kK => assumption); (case k1 => k_asm); (case k2 => k_asm); (case k3 => k_asm); (case k4 => k_asm); (case k5 => k_asm); (case k6 => k_is); (case k7 => k_is); (case k8 => ktr_room); (case k9 => first | exact BindsTo.of_eq rfl | exact binds_K (by k_in) rfl (by k_is) rfl rfl rfl); (case c5 => decide); (case kB => exact locs rfl); (case c2 => exact rfl); (case c3 => exact rfl); (case c4 => exact rfl); k_whole; intro g' L' h' FG' F' N' B' X' T'; (try dsimp only); (try k_lift B'); (try k_fold))
  (repeat' (first | (with_reducible ((with_reducible show wpAny _ _ (binaryOp Operator.Add (Value.bytes _ _) (Value.bytes _ _)) _ _ _); (refine' KBy.add_bytes ?bsz ?_; (case bsz => ((try simp only [Array.size_append, List.size_toArray, List.length_cons, List.length_nil, byteArr_size]); omega))); intro _ _)) | (with_reducible ((with_reducible show wpAny _ _ (call (Value.builtin "bytes.join") [Value.bytes _ _, Value.ref _]) _ _ _); k_dflt (first | (refine' join2 ?jl ?js ?_; (case jl => exact News.isList (by k_asm) (by k_mem)); (case js => (simp; omega))) | (refine' join1 ?jl ?_; (case jl => exact News.isList (by k_asm) (by k_mem))) | (refine' join3 ?jl ?js ?_; (case jl => exact News.isList (by k_asm) (by k_mem)); (case js => (simp; omega))) | (refine' join0 ?jl ?js ?_; (case jl => exact News.isList (by k_asm) (by k_mem)); (case js => simp))); intro _ _)) | (with_reducible ((with_reducible refine join_meth ?_))) | (k_unfold; (try dsimp only)) | (k_end; kc_close) | walk1 | (dsimp only; walk1) | (leave1; walk_say "STEP leave1"; (try dsimp only)) | fail "no step"))
  all_goals (refine' hret _ _ _ ?hR ?hF ?hN; (case hF => k_asm); (case hN => (refine' cb_drop ?cbN ?cbS; (case cbN => assumption); (case cbS => (intro p9 hp9; (repeat first | with_reducible exact hp9 | with_reducible refine List.mem_cons_of_mem _ ?_))))); (case hR => ((refine ⟨?hsz, _, congrArg (fun b => Value.bytes b _) ?hb⟩; (case hsz => ((try unfold csi); (try simp only [Array.size_append, List.size_toArray, List.length_cons, List.length_nil]); omega)); (case hb => rfl)))))
theorem c_csi3 {w : World} {mean : Mean} {mg mb : SMap} {news : Led} {l : Addr} {x y z fin : BA} {tx ty tz tf : Tok} {k : Nat} (hl : (l, W.listOf #[.bytes x tx, .bytes y ty, .bytes z tz] k) ∈ news) (hx : x.size ≤ 20) (hy : y.size ≤ 20) (hz : z.size ≤ 20) (hf : fin.size ≤ 1) :
    Tri w mean mg mb 1 191 [.ref l, .bytes fin tf] news (IsB (csi (x ++ #[59] ++ y ++ #[59] ++ z) fin) 80) := by
  w_top off
  intro dp un gd cn cs a ccd cl outer A₀ base h₀ L m s Q E B F X N T hk hd hu hret
  refine wpAny_call ?_
  k_dflt (refine' code_def ?k1 ?k2 ?k3 ?k4 ?k5 ?kA ?kF ?kK ?k6 ?k7 ?k8 ?k9 ?kB ?_ ?c2 ?c3 ?c4 ?c5; (case kA => exact rfl); (case kF => exact rfl); (case kK => assumption); (case k1 => k_asm); (case k2 => k_asm); (case k3 => k_asm); (case k4 => k_asm); (case k5 => k_asm); (case k6 => k_is); (case k7 => k_is); (case k8 => ktr_room); (case k9 => first | exact BindsTo.of_eq rfl | exact binds_K (by k_in) rfl (by k_is) rfl rfl rfl); (case c5 => decide); (case kB => exact locs rfl); (case c2 => exact rfl); (case c3 => exact rfl); (case c4 => exact rfl); k_whole; intro g' L' h' FG' F' N' B' X' T'; (try dsimp only); (try k_lift B'); (try k_fold))
  (repeat' (first | (with_reducible ((with_reducible show wpAny _ _ (binaryOp Operator.Add (Value.bytes _ _) (Value.bytes _ _)) _ _ _); (refine' KBy.add_bytes ?bsz ?_; (case bsz => ((try simp only [Array.size_append, List.size_toArray, List.length_cons, List.length_nil, byteArr_size]); omega))); intro _ _)) | (with_reducible ((with_reducible show wpAny _ _ (call (Value.builtin "bytes.join") [Value.bytes _ _, Value.ref _]) _ _ _); k_dflt (first | (refine' join2 ?jl ?js ?_; (case jl => exact News.isList (by k_asm) (by k_mem)); (case js => (simp; omega))) | (refine' join1 ?jl ?_; (case jl => exact News.isList (by k_asm) (by k_mem))) | (refine' join3 ?jl ?js ?_; (case jl => exact News.isList (by k_asm) (by k_mem)); (case js => (simp; omega))) | (refine' join0 ?jl ?js ?_; (case jl => exact News.isList (by k_asm) (by k_mem)); (case js => simp))); intro _ _)) | (with_reducible ((with_reducible refine join_meth ?_))) | (k_unfold; (try dsimp only)) | (k_end; kc_close) | walk1 | (dsimp only; walk1) | (leave1; walk_say "STEP leave1"; (try dsimp only)) | fail "no step"))
  all_goals (refine' hret _ _ _ ?hR ?hF ?hN; (case hF => k_asm); (case hN => (refine' cb_drop ?cbN ?cbS; (case cbN => assumption); (case cbS => (intro p9 hp9; (repeat first | with_reducible exact hp9 | with_reducible refine List.mem_cons_of_mem _ ?_))))); (case hR => ((refine ⟨?hsz, _, congrArg (fun b => Value.bytes b _) ?hb⟩; (case hsz => ((try unfold csi); (try simp only [Array.size_append, List.size_toArray, List.length_cons, List.length_nil]); omega)); (case hb => rfl)))))
theorem c_ison_newline {w : World} {mean : Mean} {mg mb : SMap} {news : Led} {mo md sd kd : Addr} {m1 m2 : Tok} {so : Obj} {nl ba : Bool} {t : Tok} (hmo : (mo, instObj 309 md) ∈ news) (hmd : (md, modObj w.params m1 m2 sd kd) ∈ news) (hsd : (sd, so) ∈ news) (hlo : (sd == sysModules) = false) (hst : StaDict w so nl ba) :
    Tri w mean mg mb 1 299 [.ref mo, .str (Str.ofString "newline") t] news (IsT nl) := by
  w_top off
  intro dp un gd cn cs a ccd cl outer A₀ base h₀ L m s Q E B F X N T hk hd hu hret
  refine wpAny_call ?_
  k_dflt (refine' code_def ?k1 ?k2 ?k3 ?k4 ?k5 ?kA ?kF ?kK ?k6 ?k7 ?k8 ?k9 ?kB ?_ ?c2 ?c3 ?c4 ?c5; (case kA => exact rfl); (case kF => exact rfl); (case kK => assumption); (case k1 => k_asm); (case k2 => k_asm); (case k3 => k_asm); (case k4 => k_asm); (case k5 => k_asm); (case k6 => k_is); (case k7 => k_is); (case k8 => ktr_room); (case k9 => first | exact BindsTo.of_eq rfl | exact binds_K (by k_in) rfl (by k_is) rfl rfl rfl); (case c5 => decide); (case kB => exact locs rfl); (case c2 => exact rfl); (case c3 => exact rfl); (case c4 => exact rfl); k_whole; intro g' L' h' FG' F' N' B' X' T'; (try dsimp only); (try k_lift B'); (try k_fold))
  (repeat' (first | (with_reducible ((with_reducible show wpAny _ _ (call (Value.builtin "dict.get") _ _) _ _ _); (k_dflt (first | refine kdg_get2 (knd := PySem.strKind _ _) (by k_asm) (by k_mem) (by assumption) (by assumption) (strKind_is _ _ _ _) (some _) (by rfl) ?_ | refine kdg_get2 (knd := PySem.strKind _ _) (by k_asm) (by k_mem) (by assumption) (by assumption) (strKind_is _ _ _ _) none (by rfl) ?_); (try dsimp only [Option.getD])))) | (with_reducible ((with_reducible show wpAny _ _ (getMethod (Value.ref _) (Str.ofString "get") _) _ _ _); k_dflt (refine kdg_method (knd := PySem.strKind _ _) (by k_asm) (by k_mem) (by assumption) ?_))) | (k_unfold; (try dsimp only)) | (k_end; kc_close) | walk1 | (dsimp only; walk1) | (leave1; walk_say "STEP leave1"; (try dsimp only)) | fail "no step"))
  all_goals (refine' hret _ _ _ ?hR ?hF ?hN; (case hF => k_asm); (case hN => (refine' cb_drop ?cbN ?cbS; (case cbN => assumption); (case cbS => (intro p9 hp9; (repeat first | with_reducible exact hp9 | with_reducible refine List.mem_cons_of_mem _ ?_))))); (case hR => (exact rfl)))
theorem c_ison_backarrow {w : World} {mean : Mean} {mg mb : SMap} {news : Led} {mo md sd kd : Addr} {m1 m2 : Tok} {so : Obj} {nl ba : Bool} {t : Tok} (hmo : (mo, instObj 309 md) ∈ news) (hmd : (md, modObj w.params m1 m2 sd kd) ∈ news) (hsd : (sd, so) ∈ news) (hlo : (sd == sysModules) = false) (hst : StaDict w so nl ba) :
    Tri w mean mg mb 1 299 [.ref mo, .str (Str.ofString "backarrow") t] news (IsT ba) := by
  w_top off
  intro dp un gd cn cs a ccd cl outer A₀ base h₀ L m s Q E B F X N T hk hd hu hret
  refine wpAny_call ?_
  k_dflt (refine' code_def ?k1 ?k2 ?k3 ?k4 ?k5 ?kA ?kF ?kK ?k6 ?k7 ?k8 ?k9 ?kB ?_ ?c2 ?c3 ?c4 ?c5; (case kA => exact rfl); (case kF => exact rfl); (case kK => assumption); (case k1 => k_asm); (case k2 => k_asm); (case k3 => k_asm); (case k4 => k_asm); (case k5 => k_asm); (case k6 => k_is); (case k7 => k_is); (case k8 => ktr_room); (case k9 => first | exact BindsTo.of_eq rfl | exact binds_K (by k_in) rfl (by k_is) rfl rfl rfl); (case c5 => decide); (case kB => exact locs rfl); (case c2 => exact rfl); (case c3 => exact rfl); (case c4 => exact rfl); k_whole; intro g' L' h' FG' F' N' B' X' T'; (try dsimp only); (try k_lift B'); (try k_fold))
  (repeat' (first | (with_reducible ((with_reducible show wpAny _ _ (call (Value.builtin "dict.get") _ _) _ _ _); (k_dflt (first | refine kdg_get2 (knd := PySem.strKind _ _) (by k_asm) (by k_mem) (by assumption) (by assumption) (strKind_is _ _ _ _) (some _) (by rfl) ?_ | refine kdg_get2 (knd := PySem.strKind _ _) (by k_asm) (by k_mem) (by assumption) (by assumption) (strKind_is _ _ _ _) none (by rfl) ?_); (try dsimp only [Option.getD])))) | (with_reducible ((with_reducible show wpAny _ _ (getMethod (Value.ref _) (Str.ofString "get") _) _ _ _); k_dflt (refine kdg_method (knd := PySem.strKind _ _) (by k_asm) (by k_mem) (by assumption) ?_))) | (k_unfold; (try dsimp only)) | (k_end; kc_close) | walk1 | (dsimp only; walk1) | (leave1; walk_say "STEP leave1"; (try dsimp only)) | fail "no step"))
  all_goals (refine' hret _ _ _ ?hR ?hF ?hN; (case hF => k_asm); (case hN => (refine' cb_drop ?cbN ?cbS; (case cbN => assumption); (case cbS => (intro p9 hp9; (repeat first | with_reducible exact hp9 | with_reducible refine List.mem_cons_of_mem _ ?_))))); (case hR => (exact rfl)))
theorem c_ison_app_keypad {w : World} {mean : Mean} {mg mb : SMap} {news : Led} {mo md sd kd : Addr} {m1 m2 : Tok} {so : Obj} {nl ba : Bool} {t : Tok} (hmo : (mo, instObj 309 md) ∈ news) (hmd : (md, modObj w.params m1 m2 sd kd) ∈ news) (hsd : (sd, so) ∈ news) (hlo : (sd == sysModules) = false) (hst : StaDict w so nl ba) :
    Tri w mean mg mb 1 299 [.ref mo, .str (Str.ofString "app_keypad") t] news (IsT false) := by
  w_top off
  intro dp un gd cn cs a ccd cl outer A₀ base h₀ L m s Q E B F X N T hk hd hu hret
  refine wpAny_call ?_
  k_dflt (refine' code_def ?k1 ?k2 ?k3 ?k4 ?k5 ?kA ?kF ?kK ?k6 ?k7 ?k8 ?k9 ?kB ?_ ?c2 ?c3 ?c4 ?c5; (case kA => exact rfl); (case kF => exact rfl); (case kK => assumption); (case k1 => k_asm); (case k2 => k_asm); (case k3 => k_asm); (case k4 => k_asm); (case k5 => k_asm); (case k6 => k_is); (case k7 => k_is); (case k8 => ktr_room); (case k9 => first | exact BindsTo.of_eq rfl | exact binds_K (by k_in) rfl (by k_is) rfl rfl rfl); (case c5 => decide); (case kB => exact locs rfl); (case c2 => exact rfl); (case c3 => exact rfl); (case c4 => exact rfl); k_whole; intro g' L' h' FG' F' N' B' X' T'; (try dsimp only); (try k_lift B'); (try k_fold))
  (repeat' (first | (with_reducible ((with_reducible show wpAny _ _ (call (Value.builtin "dict.get") _ _) _ _ _); (k_dflt (first | refine kdg_get2 (knd := PySem.strKind _ _) (by k_asm) (by k_mem) (by assumption) (by assumption) (strKind_is _ _ _ _) (some _) (by rfl) ?_ | refine kdg_get2 (knd := PySem.strKind _ _) (by k_asm) (by k_mem) (by assumption) (by assumption) (strKind_is _ _ _ _) none (by rfl) ?_); (try dsimp only [Option.getD])))) | (with_reducible ((with_reducible show wpAny _ _ (getMethod (Value.ref _) (Str.ofString "get") _) _ _ _); k_dflt (refine kdg_method (knd := PySem.strKind _ _) (by k_asm) (by k_mem) (by assumption) ?_))) | (k_unfold; (try dsimp only)) | (k_end; kc_close) | walk1 | (dsimp only; walk1) | (leave1; walk_say "STEP leave1"; (try dsimp only)) | fail "no step"))
  all_goals (refine' hret _ _ _ ?hR ?hF ?hN; (case hF => k_asm); (case hN => (refine' cb_drop ?cbN ?cbS; (case cbN => assumption); (case cbS => (intro p9 hp9; (repeat first | with_reducible exact hp9 | with_reducible refine List.mem_cons_of_mem _ ?_))))); (case hR => (exact rfl)))
theorem c_ison_meta_eight {w : World} {mean : Mean} {mg mb : SMap} {news : Led} {mo md sd kd : Addr} {m1 m2 : Tok} {so : Obj} {nl ba : Bool} {t : Tok} (hmo : (mo, instObj 309 md) ∈ news) (hmd : (md, modObj w.params m1 m2 sd kd) ∈ news) (hsd : (sd, so) ∈ news) (hlo : (sd == sysModules) = false) (hst : StaDict w so nl ba) :
    Tri w mean mg mb 1 299 [.ref mo, .str (Str.ofString "meta_eight") t] news (IsT false) := by
  w_top off
  intro dp un gd cn cs a ccd cl outer A₀ base h₀ L m s Q E B F X N T hk hd hu hret
  refine wpAny_call ?_
  k_dflt (refine' code_def ?k1 ?k2 ?k3 ?k4 ?k5 ?kA ?kF ?kK ?k6 ?k7 ?k8 ?k9 ?kB ?_ ?c2 ?c3 ?c4 ?c5; (case kA => exact rfl); (case kF => exact rfl); (case kK => assumption); (case k1 => k_asm); (case k2 => k_asm); (case k3 => k_asm); (case k4 => k_asm); (case k5 => k_asm); (case k6 => k_is); (case k7 => k_is); (case k8 => ktr_room); (case k9 => first | exact BindsTo.of_eq rfl | exact binds_K (by k_in) rfl (by k_is) rfl rfl rfl); (case c5 => decide); (case kB => exact locs rfl); (case c2 => exact rfl); (case c3 => exact rfl); (case c4 => exact rfl); k_whole; intro g' L' h' FG' F' N' B' X' T'; (try dsimp only); (try k_lift B'); (try k_fold))
  (repeat' (first | (with_reducible ((with_reducible show wpAny _ _ (call (Value.builtin "dict.get") _ _) _ _ _); (k_dflt (first | refine kdg_get2 (knd := PySem.strKind _ _) (by k_asm) (by k_mem) (by assumption) (by assumption) (strKind_is _ _ _ _) (some _) (by rfl) ?_ | refine kdg_get2 (knd := PySem.strKind _ _) (by k_asm) (by k_mem) (by assumption) (by assumption) (strKind_is _ _ _ _) none (by rfl) ?_); (try dsimp only [Option.getD])))) | (with_reducible ((with_reducible show wpAny _ _ (getMethod (Value.ref _) (Str.ofString "get") _) _ _ _); k_dflt (refine kdg_method (knd := PySem.strKind _ _) (by k_asm) (by k_mem) (by assumption) ?_))) | (k_unfold; (try dsimp only)) | (k_end; kc_close) | walk1 | (dsimp only; walk1) | (leave1; walk_say "STEP leave1"; (try dsimp only)) | fail "no step"))
  all_goals (refine' hret _ _ _ ?hR ?hF ?hN; (case hF => k_asm); (case hN => (refine' cb_drop ?cbN ?cbS; (case cbN => assumption); (case cbS => (intro p9 hp9; (repeat first | with_reducible exact hp9 | with_reducible refine List.mem_cons_of_mem _ ?_))))); (case hR => (exact rfl)))
theorem c_meta {w : World} {mean : Mean} {mg mb : SMap} {news : Led} {mo md sd kd : Addr} {m1 m2 : Tok} {so : Obj} {nl ba : Bool} {b : BA} {tb th : Tok} {h : Int} (hmo : (mo, instObj 309 md) ∈ news) (hmd : (md, modObj w.params m1 m2 sd kd) ∈ news) (hsd : (sd, so) ∈ news) (hlo : (sd == sysModules) = false) (hst : StaDict w so nl ba) (hb : b.size ≤ 4) :
    Tri w mean mg mb 3 205 [.bytes b tb, .int h th, .ref mo] news (IsB (metaK b h) 5) := by
  w_top off
  intro dp un gd cn cs a ccd cl outer A₀ base h₀ L m s Q E B F X N T hk hd hu hret
  refine wpAny_call ?_
  k_dflt (refine' code_def ?k1 ?k2 ?k3 ?k4 ?k5 ?kA ?kF ?kK ?k6 ?k7 ?k8 ?k9 ?kB ?_ ?c2 ?c3 ?c4 ?c5; (case kA => exact rfl); (case kF => exact rfl); (case kK => assumption); (case k1 => k_asm); (case k2 => k_asm); (case k3 => k_asm); (case k4 => k_asm); (case k5 => k_asm); (case k6 => k_is); (case k7 => k_is); (case k8 => ktr_room); (case k9 => first | exact BindsTo.of_eq rfl | exact binds_K (by k_in) rfl (by k_is) rfl rfl rfl); (case c5 => decide); (case kB => exact locs rfl); (case c2 => exact rfl); (case c3 => exact rfl); (case c4 => exact rfl); k_whole; intro g' L' h' FG' F' N' B' X' T'; (try dsimp only); (try k_lift B'); (try k_fold))
  (repeat' (first | ((with_reducible show wpAny _ _ (call (Value.ref 299) [Value.ref _, Value.str (Str.ofString "meta_eight") _]) _ _ _); k_dflt (refine' Tri.use (c_ison_meta_eight ?p_hmo ?p_hmd ?p_hsd ?p_hlo ?p_hst) ?k1 ?k2 ?k3 ?k4 ?k5 ?kK ?kd ?ku ?_; (case k1 => k_asm); (case k2 => k_asm); (case k3 => k_asm); (case k4 => k_asm); (case k5 => k_asm); (case kK => first | exact rfl | assumption); (case kd => ktr_room); (case ku => ktr_units); (case p_hmo => k_mem); (case p_hmd => k_mem); (case p_hsd => k_mem); (case p_hlo => k_asm); (case p_hst => assumption); skip; intro r9 h9 tk9 hR F9 N9; (have e9 := IsT.out hR; subst e9; clear hR); (try dsimp only))) | (with_reducible ((with_reducible show wpAny _ _ (binaryOp Operator.Add (Value.bytes _ _) (Value.bytes _ _)) _ _ _); (refine' KBy.add_bytes ?bsz ?_; (case bsz => ((try simp only [Array.size_append, List.size_toArray, List.length_cons, List.length_nil, byteArr_size]); omega))); intro _ _)) | (k_unfold; (try dsimp only)) | (k_end; kc_close) | walk1 | (dsimp only; walk1) | (leave1; walk_say "STEP leave1"; (try dsimp only)) | fail "no step"))
  all_goals (refine' hret _ _ _ ?hR ?hF ?hN; (case hF => k_asm); (case hN => (refine' cb_drop ?cbN ?cbS; (case cbN => assumption); (case cbS => (intro p9 hp9; (repeat first | with_reducible exact hp9 | with_reducible refine List.mem_cons_of_mem _ ?_))))); (case hR => ((refine ⟨metaK_size hb, _, congrArg (fun b => Value.bytes b _) ?_⟩; unfold metaK; (repeat (first | rw [if_pos (by omega)] | rw [if_neg (by omega)]))))))
theorem c_ctl {w : World} {mean : Mean} {mg mb : SMap} {news : Led} {n : Int} {t : Tok} (h0 : 97 ≤ n) (h1 : n ≤ 122) :
    Tri w mean mg mb 2 198 [.int n t] news (IsI (n - 96)) := by
  w_top off
  intro dp un gd cn cs a ccd cl outer A₀ base h₀ L m s Q E B F X N T hk hd hu hret
  refine wpAny_call ?_
  k_dflt (refine' code_def ?k1 ?k2 ?k3 ?k4 ?k5 ?kA ?kF ?kK ?k6 ?k7 ?k8 ?k9 ?kB ?_ ?c2 ?c3 ?c4 ?c5; (case kA => exact rfl); (case kF => exact rfl); (case kK => assumption); (case k1 => k_asm); (case k2 => k_asm); (case k3 => k_asm); (case k4 => k_asm); (case k5 => k_asm); (case k6 => k_is); (case k7 => k_is); (case k8 => ktr_room); (case k9 => first | exact BindsTo.of_eq rfl | exact binds_K (by k_in) rfl (by k_is) rfl rfl rfl); (case c5 => decide); (case kB => exact locs rfl); (case c2 => exact rfl); (case c3 => exact rfl); (case c4 => exact rfl); k_whole; intro g' L' h' FG' F' N' B' X' T'; (try dsimp only); (try k_lift B'); (try k_fold))
  (repeat' (first | ((with_reducible show wpAny _ _ (call (Value.ref 170) [Value.int _ _]) _ _ _); k_dflt (refine' Tri.use (c_small ) ?k1 ?k2 ?k3 ?k4 ?k5 ?kK ?kd ?ku ?_; (case k1 => k_asm); (case k2 => k_asm); (case k3 => k_asm); (case k4 => k_asm); (case k5 => k_asm); (case kK => first | exact rfl | assumption); (case kd => ktr_room); (case ku => ktr_units);  skip; intro r9 h9 tk9 hR F9 N9; (have e9 := IsT.out hR; subst e9; clear hR); (try dsimp only))) | (k_unfold; (try dsimp only)) | (k_end; kc_close) | walk1 | (dsimp only; walk1) | (leave1; walk_say "STEP leave1"; (try dsimp only)) | fail "no step"))
  all_goals (refine' hret _ _ _ ?hR ?hF ?hN; (case hF => k_asm); (case hN => (refine' cb_drop ?cbN ?cbS; (case cbN => assumption); (case cbS => (intro p9 hp9; (repeat first | with_reducible exact hp9 | with_reducible refine List.mem_cons_of_mem _ ?_))))); (case hR => (exact ⟨_, rfl⟩)))
theorem c_padded {w : World} {mean : Mean} {mg mb : SMap} {news : Led} {x dx : Addr} {n1 n2 n3 n4 tn tc th te : Tok} {nm : BA} {c h e : Int} {mo md sd kd : Addr} {m1 m2 : Tok} {so : Obj} {nl ba : Bool} (hx : (x, instObj 152 dx) ∈ news) (hdx : (dx, keyObj w.params n1 n2 n3 n4 nm tn c tc h th e te) ∈ news) (hmo : (mo, instObj 309 md) ∈ news) (hmd : (md, modObj w.params m1 m2 sd kd) ∈ news) (hsd : (sd, so) ∈ news) (hlo : (sd == sysModules) = false) (hst : StaDict w so nl ba) :
    Tri w mean mg mb 6 212 [.ref x, .ref mo] news (IsOB (paddedK nm h nl) 5) := by
  w_top off
  intro dp un gd cn cs a ccd cl outer A₀ base h₀ L m s Q E B F X N T hk hd hu hret
  refine wpAny_call ?_
  k_dflt (refine' code_def ?k1 ?k2 ?k3 ?k4 ?k5 ?kA ?kF ?kK ?k6 ?k7 ?k8 ?k9 ?kB ?_ ?c2 ?c3 ?c4 ?c5; (case kA => exact rfl); (case kF => exact rfl); (case kK => assumption); (case k1 => k_asm); (case k2 => k_asm); (case k3 => k_asm); (case k4 => k_asm); (case k5 => k_asm); (case k6 => k_is); (case k7 => k_is); (case k8 => ktr_room); (case k9 => first | exact BindsTo.of_eq rfl | exact binds_K (by k_in) rfl (by k_is) rfl rfl rfl); (case c5 => decide); (case kB => exact locs rfl); (case c2 => exact rfl); (case c3 => exact rfl); (case c4 => exact rfl); k_whole; intro g' L' h' FG' F' N' B' X' T'; (try dsimp only); (try k_lift B'); (try k_fold))
  (repeat' (first | ((with_reducible show wpAny _ _ (call (Value.ref 184) [Value.bytes _ _]) _ _ _); k_dflt (refine' TriX.use (c_pad ) ?k1 ?k2 ?k3 ?k4 ?k5 ?kK ?kd ?ku ?_; (case k1 => k_asm); (case k2 => k_asm); (case k3 => k_asm); (case k4 => k_asm); (case k5 => k_asm); (case kK => first | exact rfl | assumption); (case kd => ktr_room); (case ku => ktr_units);  skip; intro r9 x9 h9 tk9 hR F9 N9 l9; (refine PadIs.split hR (fun hO9 e9 e8 => ?_) (fun f9 p9 c9 a9 tf9 tp9 tc9 hO9 e9 e8 => ?_) <;> subst e9 <;> subst e8 <;> (try simp only [List.nil_append, List.cons_append, List.mem_singleton, forall_eq] at N9 l9) <;> (try (obtain ⟨zA9, zB9, zC9, zD9, zE9, zF9⟩ := padOf_bound hO9))); (try dsimp only))) | ((with_reducible show wpAny _ _ (call (Value.ref 299) [Value.ref _, Value.str (Str.ofString "newline") _]) _ _ _); k_dflt (refine' Tri.use (c_ison_newline ?p_hmo ?p_hmd ?p_hsd ?p_hlo ?p_hst) ?k1 ?k2 ?k3 ?k4 ?k5 ?kK ?kd ?ku ?_; (case k1 => k_asm); (case k2 => k_asm); (case k3 => k_asm); (case k4 => k_asm); (case k5 => k_asm); (case kK => first | exact rfl | assumption); (case kd => ktr_room); (case ku => ktr_units); (case p_hmo => k_mem); (case p_hmd => k_mem); (case p_hsd => k_mem); (case p_hlo => k_asm); (case p_hst => assumption); skip; intro r9 h9 tk9 hR F9 N9; (have e9 := IsT.out hR; subst e9; clear hR); (try dsimp only))) | ((with_reducible show wpAny _ _ (call (Value.ref 299) [Value.ref _, Value.str (Str.ofString "app_keypad") _]) _ _ _); k_dflt (refine' Tri.use (c_ison_app_keypad ?p_hmo ?p_hmd ?p_hsd ?p_hlo ?p_hst) ?k1 ?k2 ?k3 ?k4 ?k5 ?kK ?kd ?ku ?_; (case k1 => k_asm); (case k2 => k_asm); (case k3 => k_asm); (case k4 => k_asm); (case k5 => k_asm); (case kK => first | exact rfl | assumption); (case kd => ktr_room); (case ku => ktr_units); (case p_hmo => k_mem); (case p_hmd => k_mem); (case p_hsd => k_mem); (case p_hlo => k_asm); (case p_hst => assumption); skip; intro r9 h9 tk9 hR F9 N9; (have e9 := IsT.out hR; subst e9; clear hR); (try dsimp only))) | ((with_reducible show wpAny _ _ (call (Value.ref 205) [Value.bytes _ _, Value.int _ _, Value.ref _]) _ _ _); k_dflt (refine' Tri.use (c_meta ?p_hmo ?p_hmd ?p_hsd ?p_hlo ?p_hst ?p_hb) ?k1 ?k2 ?k3 ?k4 ?k5 ?kK ?kd ?ku ?_; (case k1 => k_asm); (case k2 => k_asm); (case k3 => k_asm); (case k4 => k_asm); (case k5 => k_asm); (case kK => first | exact rfl | assumption); (case kd => ktr_room); (case ku => ktr_units); (case p_hmo => k_mem); (case p_hmd => k_mem); (case p_hsd => k_mem); (case p_hlo => k_asm); (case p_hst => assumption); (case p_hb => (first | omega | ((try simp only [Array.size_append, List.size_toArray, List.length_cons, List.length_nil, byteArr_size]); omega) | exact Nat.le_trans (by assumption) (by decide))); skip; intro r9 h9 tk9 hR F9 N9; (obtain ⟨hz9, t9, e9⟩ := hR; subst e9); (try dsimp only))) | (with_reducible ((with_reducible show wpAny _ _ (call (Value.type "bytes") [Value.ref _]) _ _ _); k_dflt (refine' KBa.make_K ?kbaF ?kbaN ?kbah ?kbal ?kbai ?kbar ?kban ?_; (case kbaF => k_asm); (case kbaN => k_asm); (case kbah => rfl); (case kbal => exact News.isList (by k_asm) (by k_mem)); (case kbai => repeat constructor); (case kbar => first | (intro q hq; simp only [List.mem_cons, List.not_mem_nil, or_false, fm10, fd10, fd64, fm64, fd4096, fm32] at hq; omega) | ((rename CodeOk _ => hc); (rcases hc with hc | hc | hc | hc | hc | hc | hc | hc | hc | hc) <;> (subst hc; first | (exfalso; omega) | (unfold KBa.In; decide +kernel)))); (case kban => kba_size)); intro _ _ _ F' N' _)) | (k_unfold; (try dsimp only)) | (k_end; kc_close) | walk1 | (dsimp only; walk1) | (leave1; walk_say "STEP leave1"; (try dsimp only)) | fail "no step"))
  all_goals (refine' hret _ _ _ ?hR ?hF ?hN; (case hF => k_asm); (case hN => (refine' cb_drop ?cbN ?cbS; (case cbN => assumption); (case cbS => (intro p9 hp9; (repeat first | with_reducible exact hp9 | with_reducible refine List.mem_cons_of_mem _ ?_))))); (case hR => (((rename padOf rowsP nm = _ => hO); unfold paddedK; rw [hO]; first | exact rfl | (refine ⟨padded_size _ _ _ _, _, congrArg (fun b => Value.bytes b _) ?_⟩; (first | rw [if_pos ⟨by with_reducible assumption, by with_reducible assumption⟩] | rw [if_neg (fun hh => absurd hh.1 (ne_true_of_eq_false (by with_reducible assumption)))] | rw [if_neg (fun hh => absurd hh.2 (ne_true_of_eq_false (by with_reducible assumption)))]))))))
theorem c_coded {w : World} {mean : Mean} {mg mb : SMap} {news : Led} {x dx : Addr} {n1 n2 n3 n4 tn tc th te : Tok} {nm : BA} {c h e : Int} {mo md sd kd : Addr} {m1 m2 : Tok} {so : Obj} {nl ba : Bool} (hx : (x, instObj 152 dx) ∈ news) (hdx : (dx, keyObj w.params n1 n2 n3 n4 nm tn c tc h th e te) ∈ news) (hmo : (mo, instObj 309 md) ∈ news) (hmd : (md, modObj w.params m1 m2 sd kd) ∈ news) (hsd : (sd, so) ∈ news) (hlo : (sd == sysModules) = false) (hst : StaDict w so nl ba) :
    Tri w mean mg mb 6 219 [.ref x, .ref mo] news (IsB (codedK nm h nl ba) 5) := by
  w_top off
  intro dp un gd cn cs a ccd cl outer A₀ base h₀ L m s Q E B F X N T hk hd hu hret
  refine wpAny_call ?_
  k_dflt (refine' code_def ?k1 ?k2 ?k3 ?k4 ?k5 ?kA ?kF ?kK ?k6 ?k7 ?k8 ?k9 ?kB ?_ ?c2 ?c3 ?c4 ?c5; (case kA => exact rfl); (case kF => exact rfl); (case kK => assumption); (case k1 => k_asm); (case k2 => k_asm); (case k3 => k_asm); (case k4 => k_asm); (case k5 => k_asm); (case k6 => k_is); (case k7 => k_is); (case k8 => ktr_room); (case k9 => first | exact BindsTo.of_eq rfl | exact binds_K (by k_in) rfl (by k_is) rfl rfl rfl); (case c5 => decide); (case kB => exact locs rfl); (case c2 => exact rfl); (case c3 => exact rfl); (case c4 => exact rfl); k_whole; intro g' L' h' FG' F' N' B' X' T'; (try dsimp only); (try k_lift B'); (try k_fold))
  (repeat' (first | ((with_reducible show wpAny _ _ (call (Value.ref 299) [Value.ref _, Value.str (Str.ofString "newline") _]) _ _ _); k_dflt (refine' Tri.use (c_ison_newline ?p_hmo ?p_hmd ?p_hsd ?p_hlo ?p_hst) ?k1 ?k2 ?k3 ?k4 ?k5 ?kK ?kd ?ku ?_; (case k1 => k_asm); (case k2 => k_asm); (case k3 => k_asm); (case k4 => k_asm); (case k5 => k_asm); (case kK => first | exact rfl | assumption); (case kd => ktr_room); (case ku => ktr_units); (case p_hmo => k_mem); (case p_hmd => k_mem); (case p_hsd => k_mem); (case p_hlo => k_asm); (case p_hst => assumption); skip; intro r9 h9 tk9 hR F9 N9; (have e9 := IsT.out hR; subst e9; clear hR); (try dsimp only))) | ((with_reducible show wpAny _ _ (call (Value.ref 299) [Value.ref _, Value.str (Str.ofString "backarrow") _]) _ _ _); k_dflt (refine' Tri.use (c_ison_backarrow ?p_hmo ?p_hmd ?p_hsd ?p_hlo ?p_hst) ?k1 ?k2 ?k3 ?k4 ?k5 ?kK ?kd ?ku ?_; (case k1 => k_asm); (case k2 => k_asm); (case k3 => k_asm); (case k4 => k_asm); (case k5 => k_asm); (case kK => first | exact rfl | assumption); (case kd => ktr_room); (case ku => ktr_units); (case p_hmo => k_mem); (case p_hmd => k_mem); (case p_hsd => k_mem); (case p_hlo => k_asm); (case p_hst => assumption); skip; intro r9 h9 tk9 hR F9 N9; (have e9 := IsT.out hR; subst e9; clear hR); (try dsimp only))) | ((with_reducible show wpAny _ _ (call (Value.ref 205) [Value.bytes _ _, Value.int _ _, Value.ref _]) _ _ _); k_dflt (refine' Tri.use (c_meta ?p_hmo ?p_hmd ?p_hsd ?p_hlo ?p_hst ?p_hb) ?k1 ?k2 ?k3 ?k4 ?k5 ?kK ?kd ?ku ?_; (case k1 => k_asm); (case k2 => k_asm); (case k3 => k_asm); (case k4 => k_asm); (case k5 => k_asm); (case kK => first | exact rfl | assumption); (case kd => ktr_room); (case ku => ktr_units); (case p_hmo => k_mem); (case p_hmd => k_mem); (case p_hsd => k_mem); (case p_hlo => k_asm); (case p_hst => assumption); (case p_hb => (first | omega | ((try simp only [Array.size_append, List.size_toArray, List.length_cons, List.length_nil, byteArr_size]); omega) | exact Nat.le_trans (by assumption) (by decide))); skip; intro r9 h9 tk9 hR F9 N9; (obtain ⟨hz9, t9, e9⟩ := hR; subst e9); (try dsimp only))) | (k_unfold; (try dsimp only)) | (k_end; kc_close) | walk1 | (dsimp only; walk1) | (leave1; walk_say "STEP leave1"; (try dsimp only)) | fail "no step"))
  all_goals (refine' hret _ _ _ ?hR ?hF ?hN; (case hF => k_asm); (case hN => (refine' cb_drop ?cbN ?cbS; (case cbN => assumption); (case cbS => (intro p9 hp9; (repeat first | with_reducible exact hp9 | with_reducible refine List.mem_cons_of_mem _ ?_))))); (case hR => ((refine ⟨codedK_size _ _ _ _, _, congrArg (fun b => Value.bytes b _) ?_⟩; unfold codedK; (repeat (first | rw [if_pos (by with_reducible assumption)] | rw [if_neg (by with_reducible assumption)] | rw [if_neg (ne_true_of_eq_false (by with_reducible assumption))]))))))
theorem c_signed {w : World} {mean : Mean} {mg mb : SMap} {news : Led} {x dx : Addr} {n1 n2 n3 n4 tn tc th te : Tok} {nm : BA} {c h e : Int} {mo md sd kd : Addr} {m1 m2 : Tok} {so : Obj} {nl ba : Bool} (hx : (x, instObj 152 dx) ∈ news) (hdx : (dx, keyObj w.params n1 n2 n3 n4 nm tn c tc h th e te) ∈ news) (hmo : (mo, instObj 309 md) ∈ news) (hmd : (md, modObj w.params m1 m2 sd kd) ∈ news) (hsd : (sd, so) ∈ news) (hlo : (sd == sysModules) = false) (hst : StaDict w so nl ba) (hc : CodeOk c) (hh : Builtin.bitAnd h 4 = 0 ∨ (97 ≤ c ∧ c ≤ 122)) :
    Tri w mean mg mb 6 226 [.ref x, .ref mo] news (IsB (signedK c h) 5) := by
  w_top off
  intro dp un gd cn cs a ccd cl outer A₀ base h₀ L m s Q E B F X N T hk hd hu hret
  refine wpAny_call ?_
  k_dflt (refine' code_def ?k1 ?k2 ?k3 ?k4 ?k5 ?kA ?kF ?kK ?k6 ?k7 ?k8 ?k9 ?kB ?_ ?c2 ?c3 ?c4 ?c5; (case kA => exact rfl); (case kF => exact rfl); (case kK => assumption); (case k1 => k_asm); (case k2 => k_asm); (case k3 => k_asm); (case k4 => k_asm); (case k5 => k_asm); (case k6 => k_is); (case k7 => k_is); (case k8 => ktr_room); (case k9 => first | exact BindsTo.of_eq rfl | exact binds_K (by k_in) rfl (by k_is) rfl rfl rfl); (case c5 => decide); (case kB => exact locs rfl); (case c2 => exact rfl); (case c3 => exact rfl); (case c4 => exact rfl); k_whole; intro g' L' h' FG' F' N' B' X' T'; (try dsimp only); (try k_lift B'); (try k_fold))
  (repeat' (first | ((with_reducible show wpAny _ _ (call (Value.ref 198) [Value.int _ _]) _ _ _); k_dflt (refine' Tri.use (c_ctl ?p_h0 ?p_h1) ?k1 ?k2 ?k3 ?k4 ?k5 ?kK ?kd ?ku ?_; (case k1 => k_asm); (case k2 => k_asm); (case k3 => k_asm); (case k4 => k_asm); (case k5 => k_asm); (case kK => first | exact rfl | assumption); (case kd => ktr_room); (case ku => ktr_units); (case p_h0 => (first | with_reducible assumption | decide | exact le9 (by with_reducible assumption) | omega)); (case p_h1 => (first | with_reducible assumption | decide | exact le9 (by with_reducible assumption) | omega)); skip; intro r9 h9 tk9 hR F9 N9; (obtain ⟨t9, e9⟩ := hR; subst e9); (try dsimp only))) | ((with_reducible show wpAny _ _ (call (Value.ref 42) [Value.int _ _]) _ _ _); k_dflt (refine' Tri.use (c_utf8 ?p_hc) ?k1 ?k2 ?k3 ?k4 ?k5 ?kK ?kd ?ku ?_; (case k1 => k_asm); (case k2 => k_asm); (case k3 => k_asm); (case k4 => k_asm); (case k5 => k_asm); (case kK => first | exact rfl | assumption); (case kd => ktr_room); (case ku => ktr_units); (case p_hc => assumption); skip; intro r9 h9 tk9 hR F9 N9; (obtain ⟨hz9, t9, e9⟩ := hR; subst e9); (try dsimp only))) | ((with_reducible show wpAny _ _ (call (Value.ref 205) [Value.bytes _ _, Value.int _ _, Value.ref _]) _ _ _); k_dflt (refine' Tri.use (c_meta ?p_hmo ?p_hmd ?p_hsd ?p_hlo ?p_hst ?p_hb) ?k1 ?k2 ?k3 ?k4 ?k5 ?kK ?kd ?ku ?_; (case k1 => k_asm); (case k2 => k_asm); (case k3 => k_asm); (case k4 => k_asm); (case k5 => k_asm); (case kK => first | exact rfl | assumption); (case kd => ktr_room); (case ku => ktr_units); (case p_hmo => k_mem); (case p_hmd => k_mem); (case p_hsd => k_mem); (case p_hlo => k_asm); (case p_hst => assumption); (case p_hb => (first | omega | ((try simp only [Array.size_append, List.size_toArray, List.length_cons, List.length_nil, byteArr_size]); omega) | exact Nat.le_trans (by assumption) (by decide))); skip; intro r9 h9 tk9 hR F9 N9; (obtain ⟨hz9, t9, e9⟩ := hR; subst e9); (try dsimp only))) | (with_reducible ((with_reducible show wpAny _ _ (call (Value.type "bytes") [Value.ref _]) _ _ _); k_dflt (refine' KBa.make_K ?kbaF ?kbaN ?kbah ?kbal ?kbai ?kbar ?kban ?_; (case kbaF => k_asm); (case kbaN => k_asm); (case kbah => rfl); (case kbal => exact News.isList (by k_asm) (by k_mem)); (case kbai => repeat constructor); (case kbar => first | (intro q hq; simp only [List.mem_cons, List.not_mem_nil, or_false, fm10, fd10, fd64, fm64, fd4096, fm32] at hq; omega) | ((rename CodeOk _ => hc); (rcases hc with hc | hc | hc | hc | hc | hc | hc | hc | hc | hc) <;> (subst hc; first | (exfalso; omega) | (unfold KBa.In; decide +kernel)))); (case kban => kba_size)); intro _ _ _ F' N' _)) | (k_unfold; (try dsimp only)) | (k_end; kc_close) | walk1 | (dsimp only; walk1) | (leave1; walk_say "STEP leave1"; (try dsimp only)) | fail "no step"))
  all_goals (refine' hret _ _ _ ?hR ?hF ?hN; (case hF => k_asm); (case hN => (refine' cb_drop ?cbN ?cbS; (case cbN => assumption); (case cbS => (intro p9 hp9; (repeat first | with_reducible exact hp9 | with_reducible refine List.mem_cons_of_mem _ ?_))))); (case hR => ((refine ⟨signedK_size _ _, _, congrArg (fun b => Value.bytes b _) ?_⟩; unfold signedK; (repeat (first | rw [if_pos (by with_reducible assumption)] | rw [if_neg (by with_reducible assumption)] | rw [if_neg (ne_true_of_eq_false (by with_reducible assumption))]))))))
theorem firstK_ne {cd : Int} {sh : Option Int} {f : Int} : (firstK cd sh f).toList ≠ (#[] : BA).toList := by
  unfold firstK
  split
  · exact decB_ne
  · split
    · exact decB_ne
    · exact app_ne (app_ne decB_ne)
inductive ShIs : Option Int → Value → Prop
  | no : ShIs none .none
  | yes {n : Int} {t : Tok} : 0 ≤ n → n < 100000 → ShIs (some n) (.int n t)
theorem c_ku {w : World} {mean : Mean} {mg mb : SMap} {news : Led} {x dx : Addr} {n1 n2 n3 n4 tn tc th te : Tok} {nm : BA} {c h e : Int} {sh : Option Int} {sv : Value} {cd g f : Int} {tcd tg tf : Tok} {text : BA} {tt : Tok} (hx : (x, instObj 152 dx) ∈ news) (hdx : (dx, keyObj w.params n1 n2 n3 n4 nm tn c tc h th e te) ∈ news) (hsv : ShIs sh sv) (hcd0 : 0 ≤ cd) (hcd1 : cd < 100000) (hg : 0 ≤ g ∧ g ≤ 9) (he : 1 ≤ e ∧ e ≤ 3) (ht : text.size ≤ 5) :
    Tri w mean mg mb 4 240 [.int cd tcd, sv, .ref x, .int g tg, .int f tf, .bytes text tt] news (IsB (uK (firstK cd sh f) (heldK g e f) text) 40) := by
  w_top off
  intro dp un gd cn cs a ccd cl outer A₀ base h₀ L m s Q E B F X N T hk hd hu hret
  refine wpAny_call ?_
  k_dflt (refine' code_def ?k1 ?k2 ?k3 ?k4 ?k5 ?kA ?kF ?kK ?k6 ?k7 ?k8 ?k9 ?kB ?_ ?c2 ?c3 ?c4 ?c5; (case kA => exact rfl); (case kF => exact rfl); (case kK => assumption); (case k1 => k_asm); (case k2 => k_asm); (case k3 => k_asm); (case k4 => k_asm); (case k5 => k_asm); (case k6 => k_is); (case k7 => k_is); (case k8 => ktr_room); (case k9 => first | exact BindsTo.of_eq rfl | exact binds_K (by k_in) rfl (by k_is) rfl rfl rfl); (case c5 => decide); (case kB => exact locs rfl); (case c2 => exact rfl); (case c3 => exact rfl); (case c4 => exact rfl); k_whole; intro g' L' h' FG' F' N' B' X' T'; (try dsimp only); (try k_lift B'); (try k_fold))
  have hz4 := firstK_size cd sh f
  repeat ((fail_if_success (with_reducible refine cut_re (st := Stmt.If _ _ _ _) (firstK cd sh f) (by with_reducible assumption) (by with_reducible assumption) ?_ ?_)); focus (first | ((with_reducible show wpAny _ _ (call (Value.ref 28) [Value.int _ _]) _ _ _); k_dflt (refine' Tri.use (c_dec ?p_h0 ?p_h1) ?k1 ?k2 ?k3 ?k4 ?k5 ?kK ?kd ?ku ?_; (case k1 => k_asm); (case k2 => k_asm); (case k3 => k_asm); (case k4 => k_asm); (case k5 => k_asm); (case kK => first | exact rfl | assumption); (case kd => ktr_room); (case ku => ktr_units); (case p_h0 => (first | with_reducible assumption | decide | exact le9 (by with_reducible assumption) | omega)); (case p_h1 => (first | with_reducible assumption | decide | exact le9 (by with_reducible assumption) | omega)); skip; intro r9 h9 tk9 hR F9 N9; (obtain ⟨hz9, t9, e9⟩ := hR; subst e9); (try dsimp only))) | ((with_reducible show wpAny _ _ (call (Value.ref 233) [Value.int _ _, Value.ref _, Value.int _ _]) _ _ _); k_dflt (refine' Tri.use (c_kheld ?p_hx ?p_hdx ?p_hg ?p_he) ?k1 ?k2 ?k3 ?k4 ?k5 ?kK ?kd ?ku ?_; (case k1 => k_asm); (case k2 => k_asm); (case k3 => k_asm); (case k4 => k_asm); (case k5 => k_asm); (case kK => first | exact rfl | assumption); (case kd => ktr_room); (case ku => ktr_units); (case p_hx => k_mem); (case p_hdx => k_mem); (case p_hg => (first | with_reducible assumption | decide | exact le9 (by with_reducible assumption) | omega)); (case p_he => (first | with_reducible assumption | decide | exact le9 (by with_reducible assumption) | omega)); skip; intro r9 h9 tk9 hR F9 N9; (obtain ⟨hz9, t9, e9⟩ := hR; subst e9); (try dsimp only))) | ((with_reducible show wpAny _ _ (call (Value.ref 191) [Value.ref _, Value.bytes _ _]) _ _ _); k_dflt (refine' Tri.use (c_csi1 ?p_hl ?p_hx ?p_hf) ?k1 ?k2 ?k3 ?k4 ?k5 ?kK ?kd ?ku ?_; (case k1 => k_asm); (case k2 => k_asm); (case k3 => k_asm); (case k4 => k_asm); (case k5 => k_asm); (case kK => first | exact rfl | assumption); (case kd => ktr_room); (case ku => ktr_units); (case p_hl => k_mem); (case p_hx => (first | omega | ((try simp only [Array.size_append, List.size_toArray, List.length_cons, List.length_nil, byteArr_size]); omega) | exact Nat.le_trans (by assumption) (by decide))); (case p_hf => (first | omega | ((try simp only [Array.size_append, List.size_toArray, List.length_cons, List.length_nil, byteArr_size]); omega) | exact Nat.le_trans (by assumption) (by decide))); skip; intro r9 h9 tk9 hR F9 N9; (obtain ⟨hz9, t9, e9⟩ := hR; subst e9); (try dsimp only))) | ((with_reducible show wpAny _ _ (call (Value.ref 191) [Value.ref _, Value.bytes _ _]) _ _ _); k_dflt (refine' Tri.use (c_csi2 ?p_hl ?p_hx ?p_hy ?p_hf) ?k1 ?k2 ?k3 ?k4 ?k5 ?kK ?kd ?ku ?_; (case k1 => k_asm); (case k2 => k_asm); (case k3 => k_asm); (case k4 => k_asm); (case k5 => k_asm); (case kK => first | exact rfl | assumption); (case kd => ktr_room); (case ku => ktr_units); (case p_hl => k_mem); (case p_hx => (first | omega | ((try simp only [Array.size_append, List.size_toArray, List.length_cons, List.length_nil, byteArr_size]); omega) | exact Nat.le_trans (by assumption) (by decide))); (case p_hy => (first | omega | ((try simp only [Array.size_append, List.size_toArray, List.length_cons, List.length_nil, byteArr_size]); omega) | exact Nat.le_trans (by assumption) (by decide))); (case p_hf => (first | omega | ((try simp only [Array.size_append, List.size_toArray, List.length_cons, List.length_nil, byteArr_size]); omega) | exact Nat.le_trans (by assumption) (by decide))); skip; intro r9 h9 tk9 hR F9 N9; (obtain ⟨hz9, t9, e9⟩ := hR; subst e9); (try dsimp only))) | ((with_reducible show wpAny _ _ (call (Value.ref 191) [Value.ref _, Value.bytes _ _]) _ _ _); k_dflt (refine' Tri.use (c_csi3 ?p_hl ?p_hx ?p_hy ?p_hz ?p_hf) ?k1 ?k2 ?k3 ?k4 ?k5 ?kK ?kd ?ku ?_; (case k1 => k_asm); (case k2 => k_asm); (case k3 => k_asm); (case k4 => k_asm); (case k5 => k_asm); (case kK => first | exact rfl | assumption); (case kd => ktr_room); (case ku => ktr_units); (case p_hl => k_mem); (case p_hx => (first | omega | ((try simp only [Array.size_append, List.size_toArray, List.length_cons, List.length_nil, byteArr_size]); omega) | exact Nat.le_trans (by assumption) (by decide))); (case p_hy => (first | omega | ((try simp only [Array.size_append, List.size_toArray, List.length_cons, List.length_nil, byteArr_size]); omega) | exact Nat.le_trans (by assumption) (by decide))); (case p_hz => (first | omega | ((try simp only [Array.size_append, List.size_toArray, List.length_cons, List.length_nil, byteArr_size]); omega) | exact Nat.le_trans (by assumption) (by decide))); (case p_hf => (first | omega | ((try simp only [Array.size_append, List.size_toArray, List.length_cons, List.length_nil, byteArr_size]); omega) | exact Nat.le_trans (by assumption) (by decide))); skip; intro r9 h9 tk9 hR F9 N9; (obtain ⟨hz9, t9, e9⟩ := hR; subst e9); (try dsimp only))) | (with_reducible ((with_reducible show CutP _ _ (Flow.ret _) _); (unfold CutP); (try dsimp only))) | (with_reducible ((first | (with_reducible refine' cut_end0 ?ceF ?ceN ?ceD ?ceP; (case ceF => with_reducible assumption); (case ceN => with_reducible assumption)) | (with_reducible refine' cut_end1 ?ceF ?ceN ?ceD ?ceP; (case ceF => with_reducible assumption); (case ceN => with_reducible assumption)) | (with_reducible refine' cut_end1r ?ceF ?ceN ?ceD ?ceP; (case ceF => with_reducible assumption); (case ceN => with_reducible assumption)) | (with_reducible refine' cut_end2 ?ceF ?ceN ?ceD ?ceP; (case ceF => with_reducible assumption); (case ceN => with_reducible assumption)) | (with_reducible refine' cut_end3 ?ceF ?ceN ?ceD ?ceP; (case ceF => with_reducible assumption); (case ceN => with_reducible assumption))); (case ceD => (intro p9 hp9; (repeat first | with_reducible exact hp9 | with_reducible refine List.mem_cons_of_mem _ ?_))); (case ceP => first | (with_reducible exact rfl) | k_dflt (exact rfl) | ((unfold firstK); (try dsimp only []); first | (rw [if_pos (by with_reducible assumption)]) | (rw [if_neg (by with_reducible assumption)])) | with_reducible assumption | rfl | omega | (refine ⟨?_, ?_, ?_⟩ <;> first | rfl | (rw [Bool.eq_iff_iff]; (simp only [decide_eq_true_eq, Bool.false_eq_true, Bool.not_eq_true', decide_eq_false_iff_not, Bool.and_eq_true, Bool.or_eq_true, true_iff, iff_true, iff_false, false_iff, beq_iff_eq, fd8, fm2, fd2]) <;> omega)) | (refine ⟨?_, ?_⟩ <;> first | rfl | (rw [Bool.eq_iff_iff]; (simp only [decide_eq_true_eq, Bool.false_eq_true, Bool.not_eq_true', decide_eq_false_iff_not, Bool.and_eq_true, Bool.or_eq_true, true_iff, iff_true, iff_false, false_iff, beq_iff_eq, fd8, fm2, fd2]) <;> omega)) | fail "cut: its fact"))) | (with_reducible ((with_reducible show wpAny _ _ (binaryOp Operator.Add (Value.bytes _ _) (Value.bytes _ _)) _ _ _); (refine' KBy.add_bytes ?bsz ?_; (case bsz => ((try simp only [Array.size_append, List.size_toArray, List.length_cons, List.length_nil, byteArr_size]); omega))); intro _ _)) | (with_reducible ((with_reducible show WhlIf _ _ _); ((simp only [fd10]); refine whl_split ?_ ?_ <;> (intro hw'; (first | (exfalso; omega) | skip))))) | (with_reducible ((with_reducible show WhlIf _ _ _); (with_reducible refine whl_splitB ?_ ?_ <;> (intro hw'; (first | (exfalso; exact absurd (eq_of_beq hw') decB_ne) | (exfalso; exact absurd (eq_of_beq hw') firstK_ne) | (exfalso; exact absurd (eq_of_beq hw') (app_ne (app_ne decB_ne))) | skip))))) | walk1))
  with_reducible refine cut_re (st := Stmt.If _ _ _ _) (firstK cd sh f) (by with_reducible assumption) (by with_reducible assumption) ?_ ?_
  rotate_left
  intro h4' tk4' t4' F4' N4'
  (try dsimp only)
  rotate_left
  · cases hsv <;> (repeat' (first | ((with_reducible show wpAny _ _ (call (Value.ref 28) [Value.int _ _]) _ _ _); k_dflt (refine' Tri.use (c_dec ?p_h0 ?p_h1) ?k1 ?k2 ?k3 ?k4 ?k5 ?kK ?kd ?ku ?_; (case k1 => k_asm); (case k2 => k_asm); (case k3 => k_asm); (case k4 => k_asm); (case k5 => k_asm); (case kK => first | exact rfl | assumption); (case kd => ktr_room); (case ku => ktr_units); (case p_h0 => (first | with_reducible assumption | decide | exact le9 (by with_reducible assumption) | omega)); (case p_h1 => (first | with_reducible assumption | decide | exact le9 (by with_reducible assumption) | omega)); skip; intro r9 h9 tk9 hR F9 N9; (obtain ⟨hz9, t9, e9⟩ := hR; subst e9); (try dsimp only))) | ((with_reducible show wpAny _ _ (call (Value.ref 233) [Value.int _ _, Value.ref _, Value.int _ _]) _ _ _); k_dflt (refine' Tri.use (c_kheld ?p_hx ?p_hdx ?p_hg ?p_he) ?k1 ?k2 ?k3 ?k4 ?k5 ?kK ?kd ?ku ?_; (case k1 => k_asm); (case k2 => k_asm); (case k3 => k_asm); (case k4 => k_asm); (case k5 => k_asm); (case kK => first | exact rfl | assumption); (case kd => ktr_room); (case ku => ktr_units); (case p_hx => k_mem); (case p_hdx => k_mem); (case p_hg => (first | with_reducible assumption | decide | exact le9 (by with_reducible assumption) | omega)); (case p_he => (first | with_reducible assumption | decide | exact le9 (by with_reducible assumption) | omega)); skip; intro r9 h9 tk9 hR F9 N9; (obtain ⟨hz9, t9, e9⟩ := hR; subst e9); (try dsimp only))) | ((with_reducible show wpAny _ _ (call (Value.ref 191) [Value.ref _, Value.bytes _ _]) _ _ _); k_dflt (refine' Tri.use (c_csi1 ?p_hl ?p_hx ?p_hf) ?k1 ?k2 ?k3 ?k4 ?k5 ?kK ?kd ?ku ?_; (case k1 => k_asm); (case k2 => k_asm); (case k3 => k_asm); (case k4 => k_asm); (case k5 => k_asm); (case kK => first | exact rfl | assumption); (case kd => ktr_room); (case ku => ktr_units); (case p_hl => k_mem); (case p_hx => (first | omega | ((try simp only [Array.size_append, List.size_toArray, List.length_cons, List.length_nil, byteArr_size]); omega) | exact Nat.le_trans (by assumption) (by decide))); (case p_hf => (first | omega | ((try simp only [Array.size_append, List.size_toArray, List.length_cons, List.length_nil, byteArr_size]); omega) | exact Nat.le_trans (by assumption) (by decide))); skip; intro r9 h9 tk9 hR F9 N9; (obtain ⟨hz9, t9, e9⟩ := hR; subst e9); (try dsimp only))) | ((with_reducible show wpAny _ _ (call (Value.ref 191) [Value.ref _, Value.bytes _ _]) _ _ _); k_dflt (refine' Tri.use (c_csi2 ?p_hl ?p_hx ?p_hy ?p_hf) ?k1 ?k2 ?k3 ?k4 ?k5 ?kK ?kd ?ku ?_; (case k1 => k_asm); (case k2 => k_asm); (case k3 => k_asm); (case k4 => k_asm); (case k5 => k_asm); (case kK => first | exact rfl | assumption); (case kd => ktr_room); (case ku => ktr_units); (case p_hl => k_mem); (case p_hx => (first | omega | ((try simp only [Array.size_append, List.size_toArray, List.length_cons, List.length_nil, byteArr_size]); omega) | exact Nat.le_trans (by assumption) (by decide))); (case p_hy => (first | omega | ((try simp only [Array.size_append, List.size_toArray, List.length_cons, List.length_nil, byteArr_size]); omega) | exact Nat.le_trans (by assumption) (by decide))); (case p_hf => (first | omega | ((try simp only [Array.size_append, List.size_toArray, List.length_cons, List.length_nil, byteArr_size]); omega) | exact Nat.le_trans (by assumption) (by decide))); skip; intro r9 h9 tk9 hR F9 N9; (obtain ⟨hz9, t9, e9⟩ := hR; subst e9); (try dsimp only))) | ((with_reducible show wpAny _ _ (call (Value.ref 191) [Value.ref _, Value.bytes _ _]) _ _ _); k_dflt (refine' Tri.use (c_csi3 ?p_hl ?p_hx ?p_hy ?p_hz ?p_hf) ?k1 ?k2 ?k3 ?k4 ?k5 ?kK ?kd ?ku ?_; (case k1 => k_asm); (case k2 => k_asm); (case k3 => k_asm); (case k4 => k_asm); (case k5 => k_asm); (case kK => first | exact rfl | assumption); (case kd => ktr_room); (case ku => ktr_units); (case p_hl => k_mem); (case p_hx => (first | omega | ((try simp only [Array.size_append, List.size_toArray, List.length_cons, List.length_nil, byteArr_size]); omega) | exact Nat.le_trans (by assumption) (by decide))); (case p_hy => (first | omega | ((try simp only [Array.size_append, List.size_toArray, List.length_cons, List.length_nil, byteArr_size]); omega) | exact Nat.le_trans (by assumption) (by decide))); (case p_hz => (first | omega | ((try simp only [Array.size_append, List.size_toArray, List.length_cons, List.length_nil, byteArr_size]); omega) | exact Nat.le_trans (by assumption) (by decide))); (case p_hf => (first | omega | ((try simp only [Array.size_append, List.size_toArray, List.length_cons, List.length_nil, byteArr_size]); omega) | exact Nat.le_trans (by assumption) (by decide))); skip; intro r9 h9 tk9 hR F9 N9; (obtain ⟨hz9, t9, e9⟩ := hR; subst e9); (try dsimp only))) | (with_reducible ((with_reducible show CutP _ _ (Flow.ret _) _); (unfold CutP); (try dsimp only))) | (with_reducible ((first | (with_reducible refine' cut_end0 ?ceF ?ceN ?ceD ?ceP; (case ceF => with_reducible assumption); (case ceN => with_reducible assumption)) | (with_reducible refine' cut_end1 ?ceF ?ceN ?ceD ?ceP; (case ceF => with_reducible assumption); (case ceN => with_reducible assumption)) | (with_reducible refine' cut_end1r ?ceF ?ceN ?ceD ?ceP; (case ceF => with_reducible assumption); (case ceN => with_reducible assumption)) | (with_reducible refine' cut_end2 ?ceF ?ceN ?ceD ?ceP; (case ceF => with_reducible assumption); (case ceN => with_reducible assumption)) | (with_reducible refine' cut_end3 ?ceF ?ceN ?ceD ?ceP; (case ceF => with_reducible assumption); (case ceN => with_reducible assumption))); (case ceD => (intro p9 hp9; (repeat first | with_reducible exact hp9 | with_reducible refine List.mem_cons_of_mem _ ?_))); (case ceP => first | (with_reducible exact rfl) | k_dflt (exact rfl) | ((unfold firstK); (try dsimp only []); first | (rw [if_pos (by with_reducible assumption)]) | (rw [if_neg (by with_reducible assumption)])) | with_reducible assumption | rfl | omega | (refine ⟨?_, ?_, ?_⟩ <;> first | rfl | (rw [Bool.eq_iff_iff]; (simp only [decide_eq_true_eq, Bool.false_eq_true, Bool.not_eq_true', decide_eq_false_iff_not, Bool.and_eq_true, Bool.or_eq_true, true_iff, iff_true, iff_false, false_iff, beq_iff_eq, fd8, fm2, fd2]) <;> omega)) | (refine ⟨?_, ?_⟩ <;> first | rfl | (rw [Bool.eq_iff_iff]; (simp only [decide_eq_true_eq, Bool.false_eq_true, Bool.not_eq_true', decide_eq_false_iff_not, Bool.and_eq_true, Bool.or_eq_true, true_iff, iff_true, iff_false, false_iff, beq_iff_eq, fd8, fm2, fd2]) <;> omega)) | fail "cut: its fact"))) | (with_reducible ((with_reducible show wpAny _ _ (binaryOp Operator.Add (Value.bytes _ _) (Value.bytes _ _)) _ _ _); (refine' KBy.add_bytes ?bsz ?_; (case bsz => ((try simp only [Array.size_append, List.size_toArray, List.length_cons, List.length_nil, byteArr_size]); omega))); intro _ _)) | (with_reducible ((with_reducible show WhlIf _ _ _); ((simp only [fd10]); refine whl_split ?_ ?_ <;> (intro hw'; (first | (exfalso; omega) | skip))))) | (with_reducible ((with_reducible show WhlIf _ _ _); (with_reducible refine whl_splitB ?_ ?_ <;> (intro hw'; (first | (exfalso; exact absurd (eq_of_beq hw') decB_ne) | (exfalso; exact absurd (eq_of_beq hw') firstK_ne) | (exfalso; exact absurd (eq_of_beq hw') (app_ne (app_ne decB_ne))) | skip))))) | (k_unfold; (try dsimp only)) | (k_end; kc_close) | walk1 | (dsimp only; walk1) | (leave1; walk_say "STEP leave1"; (try dsimp only)) | fail "no step"))
  (repeat' (first | ((with_reducible show wpAny _ _ (call (Value.ref 28) [Value.int _ _]) _ _ _); k_dflt (refine' Tri.use (c_dec ?p_h0 ?p_h1) ?k1 ?k2 ?k3 ?k4 ?k5 ?kK ?kd ?ku ?_; (case k1 => k_asm); (case k2 => k_asm); (case k3 => k_asm); (case k4 => k_asm); (case k5 => k_asm); (case kK => first | exact rfl | assumption); (case kd => ktr_room); (case ku => ktr_units); (case p_h0 => (first | with_reducible assumption | decide | exact le9 (by with_reducible assumption) | omega)); (case p_h1 => (first | with_reducible assumption | decide | exact le9 (by with_reducible assumption) | omega)); skip; intro r9 h9 tk9 hR F9 N9; (obtain ⟨hz9, t9, e9⟩ := hR; subst e9); (try dsimp only))) | ((with_reducible show wpAny _ _ (call (Value.ref 233) [Value.int _ _, Value.ref _, Value.int _ _]) _ _ _); k_dflt (refine' Tri.use (c_kheld ?p_hx ?p_hdx ?p_hg ?p_he) ?k1 ?k2 ?k3 ?k4 ?k5 ?kK ?kd ?ku ?_; (case k1 => k_asm); (case k2 => k_asm); (case k3 => k_asm); (case k4 => k_asm); (case k5 => k_asm); (case kK => first | exact rfl | assumption); (case kd => ktr_room); (case ku => ktr_units); (case p_hx => k_mem); (case p_hdx => k_mem); (case p_hg => (first | with_reducible assumption | decide | exact le9 (by with_reducible assumption) | omega)); (case p_he => (first | with_reducible assumption | decide | exact le9 (by with_reducible assumption) | omega)); skip; intro r9 h9 tk9 hR F9 N9; (obtain ⟨hz9, t9, e9⟩ := hR; subst e9); (try dsimp only))) | ((with_reducible show wpAny _ _ (call (Value.ref 191) [Value.ref _, Value.bytes _ _]) _ _ _); k_dflt (refine' Tri.use (c_csi1 ?p_hl ?p_hx ?p_hf) ?k1 ?k2 ?k3 ?k4 ?k5 ?kK ?kd ?ku ?_; (case k1 => k_asm); (case k2 => k_asm); (case k3 => k_asm); (case k4 => k_asm); (case k5 => k_asm); (case kK => first | exact rfl | assumption); (case kd => ktr_room); (case ku => ktr_units); (case p_hl => k_mem); (case p_hx => (first | omega | ((try simp only [Array.size_append, List.size_toArray, List.length_cons, List.length_nil, byteArr_size]); omega) | exact Nat.le_trans (by assumption) (by decide))); (case p_hf => (first | omega | ((try simp only [Array.size_append, List.size_toArray, List.length_cons, List.length_nil, byteArr_size]); omega) | exact Nat.le_trans (by assumption) (by decide))); skip; intro r9 h9 tk9 hR F9 N9; (obtain ⟨hz9, t9, e9⟩ := hR; subst e9); (try dsimp only))) | ((with_reducible show wpAny _ _ (call (Value.ref 191) [Value.ref _, Value.bytes _ _]) _ _ _); k_dflt (refine' Tri.use (c_csi2 ?p_hl ?p_hx ?p_hy ?p_hf) ?k1 ?k2 ?k3 ?k4 ?k5 ?kK ?kd ?ku ?_; (case k1 => k_asm); (case k2 => k_asm); (case k3 => k_asm); (case k4 => k_asm); (case k5 => k_asm); (case kK => first | exact rfl | assumption); (case kd => ktr_room); (case ku => ktr_units); (case p_hl => k_mem); (case p_hx => (first | omega | ((try simp only [Array.size_append, List.size_toArray, List.length_cons, List.length_nil, byteArr_size]); omega) | exact Nat.le_trans (by assumption) (by decide))); (case p_hy => (first | omega | ((try simp only [Array.size_append, List.size_toArray, List.length_cons, List.length_nil, byteArr_size]); omega) | exact Nat.le_trans (by assumption) (by decide))); (case p_hf => (first | omega | ((try simp only [Array.size_append, List.size_toArray, List.length_cons, List.length_nil, byteArr_size]); omega) | exact Nat.le_trans (by assumption) (by decide))); skip; intro r9 h9 tk9 hR F9 N9; (obtain ⟨hz9, t9, e9⟩ := hR; subst e9); (try dsimp only))) | ((with_reducible show wpAny _ _ (call (Value.ref 191) [Value.ref _, Value.bytes _ _]) _ _ _); k_dflt (refine' Tri.use (c_csi3 ?p_hl ?p_hx ?p_hy ?p_hz ?p_hf) ?k1 ?k2 ?k3 ?k4 ?k5 ?kK ?kd ?ku ?_; (case k1 => k_asm); (case k2 => k_asm); (case k3 => k_asm); (case k4 => k_asm); (case k5 => k_asm); (case kK => first | exact rfl | assumption); (case kd => ktr_room); (case ku => ktr_units); (case p_hl => k_mem); (case p_hx => (first | omega | ((try simp only [Array.size_append, List.size_toArray, List.length_cons, List.length_nil, byteArr_size]); omega) | exact Nat.le_trans (by assumption) (by decide))); (case p_hy => (first | omega | ((try simp only [Array.size_append, List.size_toArray, List.length_cons, List.length_nil, byteArr_size]); omega) | exact Nat.le_trans (by assumption) (by decide))); (case p_hz => (first | omega | ((try simp only [Array.size_append, List.size_toArray, List.length_cons, List.length_nil, byteArr_size]); omega) | exact Nat.le_trans (by assumption) (by decide))); (case p_hf => (first | omega | ((try simp only [Array.size_append, List.size_toArray, List.length_cons, List.length_nil, byteArr_size]); omega) | exact Nat.le_trans (by assumption) (by decide))); skip; intro r9 h9 tk9 hR F9 N9; (obtain ⟨hz9, t9, e9⟩ := hR; subst e9); (try dsimp only))) | (with_reducible ((with_reducible show CutP _ _ (Flow.ret _) _); (unfold CutP); (try dsimp only))) | (with_reducible ((first | (with_reducible refine' cut_end0 ?ceF ?ceN ?ceD ?ceP; (case ceF => with_reducible assumption); (case ceN => with_reducible assumption)) | (with_reducible refine' cut_end1 ?ceF ?ceN ?ceD ?ceP; (case ceF => with_reducible assumption); (case ceN => with_reducible assumption)) | (with_reducible refine' cut_end1r ?ceF ?ceN ?ceD ?ceP; (case ceF => with_reducible assumption); (case ceN => with_reducible assumption)) | (with_reducible refine' cut_end2 ?ceF ?ceN ?ceD ?ceP; (case ceF => with_reducible assumption); (case ceN => with_reducible assumption)) | (with_reducible refine' cut_end3 ?ceF ?ceN ?ceD ?ceP; (case ceF => with_reducible assumption); (case ceN => with_reducible assumption))); (case ceD => (intro p9 hp9; (repeat first | with_reducible exact hp9 | with_reducible refine List.mem_cons_of_mem _ ?_))); (case ceP => first | (with_reducible exact rfl) | k_dflt (exact rfl) | ((unfold firstK); (try dsimp only []); first | (rw [if_pos (by with_reducible assumption)]) | (rw [if_neg (by with_reducible assumption)])) | with_reducible assumption | rfl | omega | (refine ⟨?_, ?_, ?_⟩ <;> first | rfl | (rw [Bool.eq_iff_iff]; (simp only [decide_eq_true_eq, Bool.false_eq_true, Bool.not_eq_true', decide_eq_false_iff_not, Bool.and_eq_true, Bool.or_eq_true, true_iff, iff_true, iff_false, false_iff, beq_iff_eq, fd8, fm2, fd2]) <;> omega)) | (refine ⟨?_, ?_⟩ <;> first | rfl | (rw [Bool.eq_iff_iff]; (simp only [decide_eq_true_eq, Bool.false_eq_true, Bool.not_eq_true', decide_eq_false_iff_not, Bool.and_eq_true, Bool.or_eq_true, true_iff, iff_true, iff_false, false_iff, beq_iff_eq, fd8, fm2, fd2]) <;> omega)) | fail "cut: its fact"))) | (with_reducible ((with_reducible show wpAny _ _ (binaryOp Operator.Add (Value.bytes _ _) (Value.bytes _ _)) _ _ _); (refine' KBy.add_bytes ?bsz ?_; (case bsz => ((try simp only [Array.size_append, List.size_toArray, List.length_cons, List.length_nil, byteArr_size]); omega))); intro _ _)) | (with_reducible ((with_reducible show WhlIf _ _ _); ((simp only [fd10]); refine whl_split ?_ ?_ <;> (intro hw'; (first | (exfalso; omega) | skip))))) | (with_reducible ((with_reducible show WhlIf _ _ _); (with_reducible refine whl_splitB ?_ ?_ <;> (intro hw'; (first | (exfalso; exact absurd (eq_of_beq hw') decB_ne) | (exfalso; exact absurd (eq_of_beq hw') firstK_ne) | (exfalso; exact absurd (eq_of_beq hw') (app_ne (app_ne decB_ne))) | skip))))) | (k_unfold; (try dsimp only)) | (k_end; kc_close) | walk1 | (dsimp only; walk1) | (leave1; walk_say "STEP leave1"; (try dsimp only)) | fail "no step"))
  all_goals (refine' hret _ _ _ ?hR ?hF ?hN; (case hF => k_asm); (case hN => (refine' cb_drop ?cbN ?cbS; (case cbN => assumption); (case cbS => (intro p9 hp9; (repeat first | with_reducible exact hp9 | with_reducible refine List.mem_cons_of_mem _ ?_))))); (case hR => ((refine ⟨uK_size (firstK_size _ _ _) (heldK_size _ _ _) ht, _, congrArg (fun b => Value.bytes b _) ?_⟩; unfold uK; (repeat (first | rw [if_pos (by with_reducible assumption)] | rw [if_neg (by with_reducible assumption)] | rw [if_neg (ne_true_of_eq_false (by with_reducible assumption))]))))))
theorem c_asever {w : World} {mean : Mean} {mg mb : SMap} {news : Led} {x dx : Addr} {n1 n2 n3 n4 tn tc th te : Tok} {nm : BA} {c h e : Int} {mo md sd kd : Addr} {m1 m2 : Tok} {so : Obj} {nl ba : Bool} (hx : (x, instObj 152 dx) ∈ news) (hdx : (dx, keyObj w.params n1 n2 n3 n4 nm tn c tc h th e te) ∈ news) (hmo : (mo, instObj 309 md) ∈ news) (hmd : (md, modObj w.params m1 m2 sd kd) ∈ news) (hsd : (sd, so) ∈ news) (hlo : (sd == sysModules) = false) (hst : StaDict w so nl ba) (hcc : (nm.toList == []) = true → CodeOk c ∧ (Builtin.bitAnd h 4 = 0 ∨ (97 ≤ c ∧ c ≤ 122))) :
    Tri w mean mg mb 8 268 [.ref x, .ref mo] news (IsB (asEverK nm c h e nl ba) 5) := by
  w_top off
  intro dp un gd cn cs a ccd cl outer A₀ base h₀ L m s Q E B F X N T hk hd hu hret
  refine wpAny_call ?_
  k_dflt (refine' code_def ?k1 ?k2 ?k3 ?k4 ?k5 ?kA ?kF ?kK ?k6 ?k7 ?k8 ?k9 ?kB ?_ ?c2 ?c3 ?c4 ?c5; (case kA => exact rfl); (case kF => exact rfl); (case kK => assumption); (case k1 => k_asm); (case k2 => k_asm); (case k3 => k_asm); (case k4 => k_asm); (case k5 => k_asm); (case k6 => k_is); (case k7 => k_is); (case k8 => ktr_room); (case k9 => first | exact BindsTo.of_eq rfl | exact binds_K (by k_in) rfl (by k_is) rfl rfl rfl); (case c5 => decide); (case kB => exact locs rfl); (case c2 => exact rfl); (case c3 => exact rfl); (case c4 => exact rfl); k_whole; intro g' L' h' FG' F' N' B' X' T'; (try dsimp only); (try k_lift B'); (try k_fold))
  (repeat' (first | ((with_reducible show wpAny _ _ (call (Value.ref 226) [Value.ref _, Value.ref _]) _ _ _); k_dflt (refine' Tri.use (c_signed ?p_hx ?p_hdx ?p_hmo ?p_hmd ?p_hsd ?p_hlo ?p_hst ?p_hc ?p_hh) ?k1 ?k2 ?k3 ?k4 ?k5 ?kK ?kd ?ku ?_; (case k1 => k_asm); (case k2 => k_asm); (case k3 => k_asm); (case k4 => k_asm); (case k5 => k_asm); (case kK => first | exact rfl | assumption); (case kd => ktr_room); (case ku => ktr_units); (case p_hx => k_mem); (case p_hdx => k_mem); (case p_hmo => k_mem); (case p_hmd => k_mem); (case p_hsd => k_mem); (case p_hlo => k_asm); (case p_hst => assumption); (case p_hc => first | assumption | ((rename _ → CodeOk _ ∧ _ => hh9); exact (hh9 (by with_reducible assumption)).1)); (case p_hh => first | assumption | ((rename _ → CodeOk _ ∧ _ => hh9); exact (hh9 (by with_reducible assumption)).2)); skip; intro r9 h9 tk9 hR F9 N9; (obtain ⟨hz9, t9, e9⟩ := hR; subst e9); (try dsimp only))) | ((with_reducible show wpAny _ _ (call (Value.ref 212) [Value.ref _, Value.ref _]) _ _ _); k_dflt (refine' Tri.use (c_padded ?p_hx ?p_hdx ?p_hmo ?p_hmd ?p_hsd ?p_hlo ?p_hst) ?k1 ?k2 ?k3 ?k4 ?k5 ?kK ?kd ?ku ?_; (case k1 => k_asm); (case k2 => k_asm); (case k3 => k_asm); (case k4 => k_asm); (case k5 => k_asm); (case kK => first | exact rfl | assumption); (case kd => ktr_room); (case ku => ktr_units); (case p_hx => k_mem); (case p_hdx => k_mem); (case p_hmo => k_mem); (case p_hmd => k_mem); (case p_hsd => k_mem); (case p_hlo => k_asm); (case p_hst => assumption); skip; intro r9 h9 tk9 hR F9 N9; (refine IsOB.split hR (fun hO9 e9 => ?_) (fun b9 t9 hO9 hz9 e9 => ?_) <;> subst e9); (try dsimp only))) | ((with_reducible show wpAny _ _ (call (Value.ref 219) [Value.ref _, Value.ref _]) _ _ _); k_dflt (refine' Tri.use (c_coded ?p_hx ?p_hdx ?p_hmo ?p_hmd ?p_hsd ?p_hlo ?p_hst) ?k1 ?k2 ?k3 ?k4 ?k5 ?kK ?kd ?ku ?_; (case k1 => k_asm); (case k2 => k_asm); (case k3 => k_asm); (case k4 => k_asm); (case k5 => k_asm); (case kK => first | exact rfl | assumption); (case kd => ktr_room); (case ku => ktr_units); (case p_hx => k_mem); (case p_hdx => k_mem); (case p_hmo => k_mem); (case p_hmd => k_mem); (case p_hsd => k_mem); (case p_hlo => k_asm); (case p_hst => assumption); skip; intro r9 h9 tk9 hR F9 N9; (obtain ⟨hz9, t9, e9⟩ := hR; subst e9); (try dsimp only))) | (k_unfold; (try dsimp only)) | (k_end; kc_close) | walk1 | (dsimp only; walk1) | (leave1; walk_say "STEP leave1"; (try dsimp only)) | fail "no step"))
  all_goals (refine' hret _ _ _ ?hR ?hF ?hN; (case hF => k_asm); (case hN => (refine' cb_drop ?cbN ?cbS; (case cbN => assumption); (case cbS => (intro p9 hp9; (repeat first | with_reducible exact hp9 | with_reducible refine List.mem_cons_of_mem _ ?_))))); (case hR => ((refine ⟨asEverK_size _ _ _ _ _ _, _, congrArg (fun b => Value.bytes b _) ?_⟩; unfold asEverK; (repeat (first | rw [if_pos (by with_reducible assumption)] | rw [if_neg (by with_reducible assumption)] | rw [if_neg (ne_true_of_eq_false (by with_reducible assumption))] | ((rename paddedK _ _ _ = _ => hP9); rw [hP9]; try dsimp only [])))))))
theorem c_kn_n {w : World} {mean : Mean} {mg mb : SMap} {news : Led} {x dx : Addr} {n1 n2 n3 n4 tn tc th te : Tok} {nm : BA} {c h e : Int} {cd f : Int} {tcd tf : Tok} (hx : (x, instObj 152 dx) ∈ news) (hdx : (dx, keyObj w.params n1 n2 n3 n4 nm tn c tc h th e te) ∈ news) (hg : 0 ≤ h ∧ h ≤ 7) (he : 1 ≤ e ∧ e ≤ 3) (hcd0 : 0 ≤ cd) (hcd1 : cd < 100000) :
    Tri w mean mg mb 5 254 [.ref x, .int cd tcd, .none, .int f tf] news (IsB (namedK cd none h e f) 40) := by
  w_top off
  intro dp un gd cn cs a ccd cl outer A₀ base h₀ L m s Q E B F X N T hk hd hu hret
  refine wpAny_call ?_
  k_dflt (refine' code_def ?k1 ?k2 ?k3 ?k4 ?k5 ?kA ?kF ?kK ?k6 ?k7 ?k8 ?k9 ?kB ?_ ?c2 ?c3 ?c4 ?c5; (case kA => exact rfl); (case kF => exact rfl); (case kK => assumption); (case k1 => k_asm); (case k2 => k_asm); (case k3 => k_asm); (case k4 => k_asm); (case k5 => k_asm); (case k6 => k_is); (case k7 => k_is); (case k8 => ktr_room); (case k9 => first | exact BindsTo.of_eq rfl | exact binds_K (by k_in) rfl (by k_is) rfl rfl rfl); (case c5 => decide); (case kB => exact locs rfl); (case c2 => exact rfl); (case c3 => exact rfl); (case c4 => exact rfl); k_whole; intro g' L' h' FG' F' N' B' X' T'; (try dsimp only); (try k_lift B'); (try k_fold))
  (repeat' (first | ((with_reducible show wpAny _ _ (call (Value.ref 240) [Value.int _ _, _, Value.ref _, Value.int _ _, Value.int _ _, Value.bytes _ _]) _ _ _); k_dflt (refine' Tri.use (c_ku ?p_hx ?p_hdx ?p_hsv ?p_hcd0 ?p_hcd1 ?p_hg ?p_he ?p_ht) ?k1 ?k2 ?k3 ?k4 ?k5 ?kK ?kd ?ku ?_; (case k1 => k_asm); (case k2 => k_asm); (case k3 => k_asm); (case k4 => k_asm); (case k5 => k_asm); (case kK => first | exact rfl | assumption); (case kd => ktr_room); (case ku => ktr_units); (case p_hx => k_mem); (case p_hdx => k_mem); (case p_hsv => (first | exact .no | exact .yes (by (first | with_reducible assumption | decide | exact le9 (by with_reducible assumption) | omega)) (by (first | with_reducible assumption | decide | exact le9 (by with_reducible assumption) | omega)))); (case p_hcd0 => (first | with_reducible assumption | decide | exact le9 (by with_reducible assumption) | omega)); (case p_hcd1 => (first | with_reducible assumption | decide | exact le9 (by with_reducible assumption) | omega)); (case p_hg => (first | with_reducible assumption | decide | exact le9 (by with_reducible assumption) | omega)); (case p_he => (first | with_reducible assumption | decide | exact le9 (by with_reducible assumption) | omega)); (case p_ht => (first | omega | ((try simp only [Array.size_append, List.size_toArray, List.length_cons, List.length_nil, byteArr_size]); omega) | exact Nat.le_trans (by assumption) (by decide))); skip; intro r9 h9 tk9 hR F9 N9; (obtain ⟨hz9, t9, e9⟩ := hR; subst e9); (try dsimp only))) | (k_unfold; (try dsimp only)) | (k_end; kc_close) | walk1 | (dsimp only; walk1) | (leave1; walk_say "STEP leave1"; (try dsimp only)) | fail "no step"))
  all_goals (refine' hret _ _ _ ?hR ?hF ?hN; (case hF => k_asm); (case hN => (refine' cb_drop ?cbN ?cbS; (case cbN => assumption); (case cbS => (intro p9 hp9; (repeat first | with_reducible exact hp9 | with_reducible refine List.mem_cons_of_mem _ ?_))))); (case hR => ((refine ⟨namedK_size_n _ _ _ _, _, congrArg (fun b => Value.bytes b _) ?_⟩; unfold namedK; (try dsimp only []); (repeat (first | rw [if_pos (by omega)] | rw [if_neg (by omega)])); try rfl))))
theorem c_kn_s {w : World} {mean : Mean} {mg mb : SMap} {news : Led} {x dx : Addr} {n1 n2 n3 n4 tn tc th te : Tok} {nm : BA} {c h e : Int} {pl : BA} {tpl : Tok} {cd f : Int} {tcd tf : Tok} (hx : (x, instObj 152 dx) ∈ news) (hdx : (dx, keyObj w.params n1 n2 n3 n4 nm tn c tc h th e te) ∈ news) (hg : 0 ≤ h ∧ h ≤ 7) (he : 1 ≤ e ∧ e ≤ 3) (hcd0 : 0 ≤ cd) (hcd1 : cd < 100000) (hpl : pl.size ≤ 5) :
    Tri w mean mg mb 5 254 [.ref x, .int cd tcd, .bytes pl tpl, .int f tf] news (IsB (namedK cd (some pl) h e f) 40) := by
  w_top off
  intro dp un gd cn cs a ccd cl outer A₀ base h₀ L m s Q E B F X N T hk hd hu hret
  refine wpAny_call ?_
  k_dflt (refine' code_def ?k1 ?k2 ?k3 ?k4 ?k5 ?kA ?kF ?kK ?k6 ?k7 ?k8 ?k9 ?kB ?_ ?c2 ?c3 ?c4 ?c5; (case kA => exact rfl); (case kF => exact rfl); (case kK => assumption); (case k1 => k_asm); (case k2 => k_asm); (case k3 => k_asm); (case k4 => k_asm); (case k5 => k_asm); (case k6 => k_is); (case k7 => k_is); (case k8 => ktr_room); (case k9 => first | exact BindsTo.of_eq rfl | exact binds_K (by k_in) rfl (by k_is) rfl rfl rfl); (case c5 => decide); (case kB => exact locs rfl); (case c2 => exact rfl); (case c3 => exact rfl); (case c4 => exact rfl); k_whole; intro g' L' h' FG' F' N' B' X' T'; (try dsimp only); (try k_lift B'); (try k_fold))
  (repeat' (first | ((with_reducible show wpAny _ _ (call (Value.ref 240) [Value.int _ _, _, Value.ref _, Value.int _ _, Value.int _ _, Value.bytes _ _]) _ _ _); k_dflt (refine' Tri.use (c_ku ?p_hx ?p_hdx ?p_hsv ?p_hcd0 ?p_hcd1 ?p_hg ?p_he ?p_ht) ?k1 ?k2 ?k3 ?k4 ?k5 ?kK ?kd ?ku ?_; (case k1 => k_asm); (case k2 => k_asm); (case k3 => k_asm); (case k4 => k_asm); (case k5 => k_asm); (case kK => first | exact rfl | assumption); (case kd => ktr_room); (case ku => ktr_units); (case p_hx => k_mem); (case p_hdx => k_mem); (case p_hsv => (first | exact .no | exact .yes (by (first | with_reducible assumption | decide | exact le9 (by with_reducible assumption) | omega)) (by (first | with_reducible assumption | decide | exact le9 (by with_reducible assumption) | omega)))); (case p_hcd0 => (first | with_reducible assumption | decide | exact le9 (by with_reducible assumption) | omega)); (case p_hcd1 => (first | with_reducible assumption | decide | exact le9 (by with_reducible assumption) | omega)); (case p_hg => (first | with_reducible assumption | decide | exact le9 (by with_reducible assumption) | omega)); (case p_he => (first | with_reducible assumption | decide | exact le9 (by with_reducible assumption) | omega)); (case p_ht => (first | omega | ((try simp only [Array.size_append, List.size_toArray, List.length_cons, List.length_nil, byteArr_size]); omega) | exact Nat.le_trans (by assumption) (by decide))); skip; intro r9 h9 tk9 hR F9 N9; (obtain ⟨hz9, t9, e9⟩ := hR; subst e9); (try dsimp only))) | (k_unfold; (try dsimp only)) | (k_end; kc_close) | walk1 | (dsimp only; walk1) | (leave1; walk_say "STEP leave1"; (try dsimp only)) | fail "no step"))
  all_goals (refine' hret _ _ _ ?hR ?hF ?hN; (case hF => k_asm); (case hN => (refine' cb_drop ?cbN ?cbS; (case cbN => assumption); (case cbS => (intro p9 hp9; (repeat first | with_reducible exact hp9 | with_reducible refine List.mem_cons_of_mem _ ?_))))); (case hR => ((refine ⟨namedK_size_s hpl, _, congrArg (fun b => Value.bytes b _) ?_⟩; unfold namedK; (try dsimp only []); (repeat (first | rw [if_pos (by omega)] | rw [if_neg (by omega)])); try rfl))))
theorem c_ksign {w : World} {mean : Mean} {mg mb : SMap} {news : Led} {x dx : Addr} {n1 n2 n3 n4 tn tc th te : Tok} {nm : BA} {c h e : Int} {f : Int} {tf : Tok} (hx : (x, instObj 152 dx) ∈ news) (hdx : (dx, keyObj w.params n1 n2 n3 n4 nm tn c tc h th e te) ∈ news) (hg : 0 ≤ h ∧ h ≤ 7) (he : 1 ≤ e ∧ e ≤ 3) (hc : CodeOk c) :
    Tri w mean mg mb 5 247 [.ref x, .int f tf] news (IsB (signK c h e f) 40) := by
  w_top off
  intro dp un gd cn cs a ccd cl outer A₀ base h₀ L m s Q E B F X N T hk hd hu hret
  refine wpAny_call ?_
  k_dflt (refine' code_def ?k1 ?k2 ?k3 ?k4 ?k5 ?kA ?kF ?kK ?k6 ?k7 ?k8 ?k9 ?kB ?_ ?c2 ?c3 ?c4 ?c5; (case kA => exact rfl); (case kF => exact rfl); (case kK => assumption); (case k1 => k_asm); (case k2 => k_asm); (case k3 => k_asm); (case k4 => k_asm); (case k5 => k_asm); (case k6 => k_is); (case k7 => k_is); (case k8 => ktr_room); (case k9 => first | exact BindsTo.of_eq rfl | exact binds_K (by k_in) rfl (by k_is) rfl rfl rfl); (case c5 => decide); (case kB => exact locs rfl); (case c2 => exact rfl); (case c3 => exact rfl); (case c4 => exact rfl); k_whole; intro g' L' h' FG' F' N' B' X' T'; (try dsimp only); (try k_lift B'); (try k_fold))
  have h0 := CodeOk.lo hc
  have h1 := CodeOk.hi hc
  have h2 := bitOr1 hg.1 hg.2
  repeat ((fail_if_success (with_reducible refine cut_sg (st := Stmt.If _ _ _ _) (SgP c h) (by with_reducible assumption) (by with_reducible assumption) ?_ ?_)); focus walk1)
  with_reducible refine cut_sg (st := Stmt.If _ _ _ _) (SgP c h) (by with_reducible assumption) (by with_reducible assumption) ?_ ?_
  rotate_left
  intro h2' tk2' c2 tc2 d2 td2 v2 F2' N2' p2x
  (try dsimp only)
  repeat ((fail_if_success (with_reducible refine cut_same (st := Stmt.If _ _ _ _) (¬ (Builtin.bitAnd h (Builtin.bitOr 4 2) = 0 ∧ Builtin.bitAnd f 8 = 0)) (by with_reducible assumption) (by with_reducible assumption) ?_ ?_)); focus walk1)
  with_reducible refine cut_same (st := Stmt.If _ _ _ _) (¬ (Builtin.bitAnd h (Builtin.bitOr 4 2) = 0 ∧ Builtin.bitAnd f 8 = 0)) (by with_reducible assumption) (by with_reducible assumption) ?_ ?_
  rotate_left
  intro h3' tk3' F3' N3' p3x
  (try dsimp only)
  repeat ((fail_if_success (with_reducible refine cut_bool (Str.ofString "has_text") (decide (Builtin.bitAnd h (Builtin.bitOr 4 2) = 0 ∧ ¬ Builtin.bitAnd f 16 = 0 ∧ ¬ e = 3)) (by with_reducible assumption) (by with_reducible assumption) ?_ ?_)); focus walk1)
  with_reducible refine cut_bool (Str.ofString "has_text") (decide (Builtin.bitAnd h (Builtin.bitOr 4 2) = 0 ∧ ¬ Builtin.bitAnd f 16 = 0 ∧ ¬ e = 3)) (by with_reducible assumption) (by with_reducible assumption) ?_ ?_
  rotate_left
  intro h4' tk4' F4' N4'
  (try dsimp only)
  rcases p2x with ⟨z1, z2, z3, tv, z4⟩ | ⟨z0, z1, z2, z3, tv, z4⟩ | ⟨z0, z1, z2, z3, z4⟩ <;> subst z2 <;> subst z3 <;> subst z4
  all_goals (repeat' (first | ((with_reducible show wpAny _ _ (call (Value.ref 163) [Value.int _ _]) _ _ _); k_dflt (refine' Tri.use (c_capital ) ?k1 ?k2 ?k3 ?k4 ?k5 ?kK ?kd ?ku ?_; (case k1 => k_asm); (case k2 => k_asm); (case k3 => k_asm); (case k4 => k_asm); (case k5 => k_asm); (case kK => first | exact rfl | assumption); (case kd => ktr_room); (case ku => ktr_units);  skip; intro r9 h9 tk9 hR F9 N9; (have e9 := IsT.out hR; subst e9; clear hR); (try dsimp only))) | ((with_reducible show wpAny _ _ (call (Value.ref 170) [Value.int _ _]) _ _ _); k_dflt (refine' Tri.use (c_small ) ?k1 ?k2 ?k3 ?k4 ?k5 ?kK ?kd ?ku ?_; (case k1 => k_asm); (case k2 => k_asm); (case k3 => k_asm); (case k4 => k_asm); (case k5 => k_asm); (case kK => first | exact rfl | assumption); (case kd => ktr_room); (case ku => ktr_units);  skip; intro r9 h9 tk9 hR F9 N9; (have e9 := IsT.out hR; subst e9; clear hR); (try dsimp only))) | ((with_reducible show wpAny _ _ (call (Value.ref 42) [Value.int _ _]) _ _ _); k_dflt (refine' Tri.use (c_utf8 ?p_hc) ?k1 ?k2 ?k3 ?k4 ?k5 ?kK ?kd ?ku ?_; (case k1 => k_asm); (case k2 => k_asm); (case k3 => k_asm); (case k4 => k_asm); (case k5 => k_asm); (case kK => first | exact rfl | assumption); (case kd => ktr_room); (case ku => ktr_units); (case p_hc => assumption); skip; intro r9 h9 tk9 hR F9 N9; (obtain ⟨hz9, t9, e9⟩ := hR; subst e9); (try dsimp only))) | ((with_reducible show wpAny _ _ (call (Value.ref 28) [Value.int _ _]) _ _ _); k_dflt (refine' Tri.use (c_dec ?p_h0 ?p_h1) ?k1 ?k2 ?k3 ?k4 ?k5 ?kK ?kd ?ku ?_; (case k1 => k_asm); (case k2 => k_asm); (case k3 => k_asm); (case k4 => k_asm); (case k5 => k_asm); (case kK => first | exact rfl | assumption); (case kd => ktr_room); (case ku => ktr_units); (case p_h0 => (first | with_reducible assumption | decide | exact le9 (by with_reducible assumption) | omega)); (case p_h1 => (first | with_reducible assumption | decide | exact le9 (by with_reducible assumption) | omega)); skip; intro r9 h9 tk9 hR F9 N9; (obtain ⟨hz9, t9, e9⟩ := hR; subst e9); (try dsimp only))) | ((with_reducible show wpAny _ _ (call (Value.ref 240) [Value.int _ _, _, Value.ref _, Value.int _ _, Value.int _ _, Value.bytes _ _]) _ _ _); k_dflt (refine' Tri.use (c_ku ?p_hx ?p_hdx ?p_hsv ?p_hcd0 ?p_hcd1 ?p_hg ?p_he ?p_ht) ?k1 ?k2 ?k3 ?k4 ?k5 ?kK ?kd ?ku ?_; (case k1 => k_asm); (case k2 => k_asm); (case k3 => k_asm); (case k4 => k_asm); (case k5 => k_asm); (case kK => first | exact rfl | assumption); (case kd => ktr_room); (case ku => ktr_units); (case p_hx => k_mem); (case p_hdx => k_mem); (case p_hsv => (first | exact .no | exact .yes (by (first | with_reducible assumption | decide | exact le9 (by with_reducible assumption) | omega)) (by (first | with_reducible assumption | decide | exact le9 (by with_reducible assumption) | omega)))); (case p_hcd0 => (first | with_reducible assumption | decide | exact le9 (by with_reducible assumption) | omega)); (case p_hcd1 => (first | with_reducible assumption | decide | exact le9 (by with_reducible assumption) | omega)); (case p_hg => (first | with_reducible assumption | decide | exact le9 (by with_reducible assumption) | omega)); (case p_he => (first | with_reducible assumption | decide | exact le9 (by with_reducible assumption) | omega)); (case p_ht => (first | omega | ((try simp only [Array.size_append, List.size_toArray, List.length_cons, List.length_nil, byteArr_size]); omega) | exact Nat.le_trans (by assumption) (by decide))); skip; intro r9 h9 tk9 hR F9 N9; (obtain ⟨hz9, t9, e9⟩ := hR; subst e9); (try dsimp only))) | (with_reducible (with_reducible refine' cut_endB ?ceF ?ceN ?ceD ?ceE; (case ceF => with_reducible assumption); (case ceN => with_reducible assumption); (case ceD => (intro p9 hp9; exact hp9)); (case ceE => first | rfl | ((rw [Bool.eq_iff_iff]); (simp only [decide_eq_true_eq, iB1, iB3]); omega) | (rw [Bool.eq_iff_iff]; (simp only [decide_eq_true_eq, Bool.false_eq_true, Bool.not_eq_true', decide_eq_false_iff_not, Bool.and_eq_true, Bool.or_eq_true, true_iff, iff_true, iff_false, false_iff, beq_iff_eq, fd8, fm2, fd2]) <;> omega)))) | (with_reducible (with_reducible refine' cut_endS (P := SgP _ _) ?ceF ?ceN ?ceD ?ceE ?ceP; (case ceF => with_reducible assumption); (case ceN => with_reducible assumption); (case ceD => (intro p9 hp9; (repeat first | with_reducible exact hp9 | with_reducible refine List.mem_cons_of_mem _ ?_))); (case ceE => (intro y9; (by_cases y1 : y9 = Str.ofString "code"); (subst y1; with_unfolding_all exact rfl); (by_cases y2 : y9 = Str.ofString "held"); (subst y2; with_unfolding_all exact rfl); (by_cases y3 : y9 = Str.ofString "shifted"); (subst y3; with_unfolding_all exact rfl); (simp only [sgM, y1, y2, y3, if_false]))); (case ceP => (unfold SgP; first | exact .inl ⟨⟨by omega, by omega⟩, rfl, rfl, _, rfl⟩ | exact .inr (.inl ⟨by omega, ⟨⟨by omega, by omega⟩, by with_reducible assumption⟩, rfl, rfl, _, rfl⟩) | exact .inr (.inr ⟨by omega, by omega, rfl, rfl, rfl⟩))))) | (with_reducible ((with_reducible show CutP _ _ (Flow.ret _) _); (unfold CutP); (try dsimp only))) | (with_reducible ((first | (with_reducible refine' cut_end0 ?ceF ?ceN ?ceD ?ceP; (case ceF => with_reducible assumption); (case ceN => with_reducible assumption)) | (with_reducible refine' cut_end1 ?ceF ?ceN ?ceD ?ceP; (case ceF => with_reducible assumption); (case ceN => with_reducible assumption)) | (with_reducible refine' cut_end1r ?ceF ?ceN ?ceD ?ceP; (case ceF => with_reducible assumption); (case ceN => with_reducible assumption)) | (with_reducible refine' cut_end2 ?ceF ?ceN ?ceD ?ceP; (case ceF => with_reducible assumption); (case ceN => with_reducible assumption)) | (with_reducible refine' cut_end3 ?ceF ?ceN ?ceD ?ceP; (case ceF => with_reducible assumption); (case ceN => with_reducible assumption))); (case ceD => (intro p9 hp9; (repeat first | with_reducible exact hp9 | with_reducible refine List.mem_cons_of_mem _ ?_))); (case ceP => first | with_reducible assumption | rfl | omega | (refine ⟨?_, ?_, ?_⟩ <;> first | rfl | (rw [Bool.eq_iff_iff]; (simp only [decide_eq_true_eq, Bool.false_eq_true, Bool.not_eq_true', decide_eq_false_iff_not, Bool.and_eq_true, Bool.or_eq_true, true_iff, iff_true, iff_false, false_iff, beq_iff_eq, fd8, fm2, fd2]) <;> omega)) | (refine ⟨?_, ?_⟩ <;> first | rfl | (rw [Bool.eq_iff_iff]; (simp only [decide_eq_true_eq, Bool.false_eq_true, Bool.not_eq_true', decide_eq_false_iff_not, Bool.and_eq_true, Bool.or_eq_true, true_iff, iff_true, iff_false, false_iff, beq_iff_eq, fd8, fm2, fd2]) <;> omega)) | fail "cut: its fact"))) | (k_unfold; (try dsimp only)) | (k_end; kc_close) | walk1 | (dsimp only; walk1) | (leave1; walk_say "STEP leave1"; (try dsimp only)) | fail "no step"))
  all_goals (refine' hret _ _ _ ?hR ?hF ?hN; (case hF => k_asm); (case hN => (refine' cb_drop ?cbN ?cbS; (case cbN => assumption); (case cbS => (intro p9 hp9; (repeat first | with_reducible exact hp9 | with_reducible refine List.mem_cons_of_mem _ ?_))))); (case hR => ((refine ⟨signK_size _ _ _ _, _, congrArg (fun b => Value.bytes b _) ?_⟩; unfold signK; (repeat (first | rw [if_pos (by omega)] | rw [if_neg (by omega)])); try rfl))))
theorem c_key2 {w : World} {mean : Mean} {mg mb : SMap} {news : Led} {nm : BA} {c : Int} {ta tb : Tok}  :
    TriX w mean mg mb 2 152 [.bytes nm ta, .int c tb] news (IsKey w.params nm c 0 1) := by
  w_top off
  intro dp un gd cn cs a ccd cl outer A₀ base h₀ L m s Q E B F X N T hk hd hu hret
  k_here
  k_dflt (refine' call_cls ?k1 ?k2 ?k3 ?k4 ?k5 ?k6 ?_; (case k1 => k_asm); (case k2 => k_asm); (case k3 => k_asm); (case k4 => k_is); (case k5 => k_is); (case k6 => k_is); k_whole; intro x' d' h' F' N' l1 l2; (try k_lt l1); (try k_lt2 l2); (try k_sweep))
  k_dflt (refine' code_def ?k1 ?k2 ?k3 ?k4 ?k5 ?kA ?kF ?kK ?k6 ?k7 ?k8 ?k9 ?kB ?_ ?c2 ?c3 ?c4 ?c5; (case kA => exact rfl); (case kF => exact rfl); (case kK => assumption); (case k1 => k_asm); (case k2 => k_asm); (case k3 => k_asm); (case k4 => k_asm); (case k5 => k_asm); (case k6 => k_is); (case k7 => k_is); (case k8 => ktr_room); (case k9 => first | exact BindsTo.of_eq rfl | exact binds_K (by k_in) rfl (by k_is) rfl rfl rfl); (case c5 => decide); (case kB => exact locs rfl); (case c2 => exact rfl); (case c3 => exact rfl); (case c4 => exact rfl); k_whole; intro g' L' h' FG' F' N' B' X' T'; (try dsimp only); (try k_lift B'); (try k_fold))
  (repeat' (first | (k_unfold; (try dsimp only)) | (k_end; kc_close) | walk1 | (dsimp only; walk1) | (leave1; walk_say "STEP leave1"; (try dsimp only)) | fail "no step"))
  all_goals ((refine' hret (.ref _) [_, _] _ _ ?hR ?hF ?hN ?hO; (case hN => assumption); (case hR => exact ⟨_, _, _, _, _, _, _, _, _, _, rfl, rfl, l2⟩); (case hF => k_asm); (case hO => exact two_lt l1 l2)))
theorem c_key4 {w : World} {mean : Mean} {mg mb : SMap} {news : Led} {nm : BA} {c : Int} {ta tb : Tok} {h e : Int} {td te : Tok}  :
    TriX w mean mg mb 2 152 [.bytes nm ta, .int c tb, .int h td, .int e te] news (IsKey w.params nm c h e) := by
  w_top off
  intro dp un gd cn cs a ccd cl outer A₀ base h₀ L m s Q E B F X N T hk hd hu hret
  k_here
  k_dflt (refine' call_cls ?k1 ?k2 ?k3 ?k4 ?k5 ?k6 ?_; (case k1 => k_asm); (case k2 => k_asm); (case k3 => k_asm); (case k4 => k_is); (case k5 => k_is); (case k6 => k_is); k_whole; intro x' d' h' F' N' l1 l2; (try k_lt l1); (try k_lt2 l2); (try k_sweep))
  k_dflt (refine' code_def ?k1 ?k2 ?k3 ?k4 ?k5 ?kA ?kF ?kK ?k6 ?k7 ?k8 ?k9 ?kB ?_ ?c2 ?c3 ?c4 ?c5; (case kA => exact rfl); (case kF => exact rfl); (case kK => assumption); (case k1 => k_asm); (case k2 => k_asm); (case k3 => k_asm); (case k4 => k_asm); (case k5 => k_asm); (case k6 => k_is); (case k7 => k_is); (case k8 => ktr_room); (case k9 => first | exact BindsTo.of_eq rfl | exact binds_K (by k_in) rfl (by k_is) rfl rfl rfl); (case c5 => decide); (case kB => exact locs rfl); (case c2 => exact rfl); (case c3 => exact rfl); (case c4 => exact rfl); k_whole; intro g' L' h' FG' F' N' B' X' T'; (try dsimp only); (try k_lift B'); (try k_fold))
  (repeat' (first | (k_unfold; (try dsimp only)) | (k_end; kc_close) | walk1 | (dsimp only; walk1) | (leave1; walk_say "STEP leave1"; (try dsimp only)) | fail "no step"))
  all_goals ((refine' hret (.ref _) [_, _] _ _ ?hR ?hF ?hN ?hO; (case hN => assumption); (case hR => exact ⟨_, _, _, _, _, _, _, _, _, _, rfl, rfl, l2⟩); (case hF => k_asm); (case hO => exact two_lt l1 l2)))
theorem c_kitty {w : World} {mean : Mean} {mg mb : SMap} {news : Led} {x dx : Addr} {n1 n2 n3 n4 tn tc th te : Tok} {nm : BA} {c h e : Int} {mo md sd kd : Addr} {m1 m2 : Tok} {so : Obj} {nl ba : Bool} {f : Int} {tf : Tok} (hx : (x, instObj 152 dx) ∈ news) (hdx : (dx, keyObj w.params n1 n2 n3 n4 nm tn c tc h th e te) ∈ news) (hmo : (mo, instObj 309 md) ∈ news) (hmd : (md, modObj w.params m1 m2 sd kd) ∈ news) (hsd : (sd, so) ∈ news) (hlo : (sd == sysModules) = false) (hst : StaDict w so nl ba) (hg : 0 ≤ h ∧ h ≤ 7) (he : 1 ≤ e ∧ e ≤ 3) (hcc : (nm.toList == []) = true → CodeOk c ∧ (Builtin.bitAnd f (Builtin.bitOr 1 8) = 0 → (Builtin.bitAnd h 4 = 0 ∨ (97 ≤ c ∧ c ≤ 122)))) (hnm : NameOk nm) :
    Tri w mean mg mb 10 261 [.ref x, .ref mo, .int f tf] news (IsB (kk f nm c h e nl ba) 40) := by
  w_top off
  intro dp un gd cn cs a ccd cl outer A₀ base h₀ L m s Q E B F X N T hk hd hu hret
  refine wpAny_call ?_
  k_dflt (refine' code_def ?k1 ?k2 ?k3 ?k4 ?k5 ?kA ?kF ?kK ?k6 ?k7 ?k8 ?k9 ?kB ?_ ?c2 ?c3 ?c4 ?c5; (case kA => exact rfl); (case kF => exact rfl); (case kK => assumption); (case k1 => k_asm); (case k2 => k_asm); (case k3 => k_asm); (case k4 => k_asm); (case k5 => k_asm); (case k6 => k_is); (case k7 => k_is); (case k8 => ktr_room); (case k9 => first | exact BindsTo.of_eq rfl | exact binds_K (by k_in) rfl (by k_is) rfl rfl rfl); (case c5 => decide); (case kB => exact locs rfl); (case c2 => exact rfl); (case c3 => exact rfl); (case c4 => exact rfl); k_whole; intro g' L' h' FG' F' N' B' X' T'; (try dsimp only); (try k_lift B'); (try k_fold))
  repeat ((fail_if_success (with_reducible refine cut_same (¬ (e = 3 ∧ Builtin.bitAnd f 2 = 0)) (by with_reducible assumption) (by with_reducible assumption) ?_ ?_)); focus walk1)
  with_reducible refine cut_same (¬ (e = 3 ∧ Builtin.bitAnd f 2 = 0)) (by with_reducible assumption) (by with_reducible assumption) ?_ ?_
  rotate_left
  intro h2' tk2' F2' N2' p2'
  (try dsimp only)
  all_goals (repeat' (first | ((with_reducible show wpAny _ _ (call (Value.ref 233) [Value.int _ _, Value.ref _, Value.int _ _]) _ _ _); k_dflt (refine' Tri.use (c_kheld ?p_hx ?p_hdx ?p_hg ?p_he) ?k1 ?k2 ?k3 ?k4 ?k5 ?kK ?kd ?ku ?_; (case k1 => k_asm); (case k2 => k_asm); (case k3 => k_asm); (case k4 => k_asm); (case k5 => k_asm); (case kK => first | exact rfl | assumption); (case kd => ktr_room); (case ku => ktr_units); (case p_hx => k_mem); (case p_hdx => k_mem); (case p_hg => (first | with_reducible assumption | decide | exact le9 (by with_reducible assumption) | omega)); (case p_he => (first | with_reducible assumption | decide | exact le9 (by with_reducible assumption) | omega)); skip; intro r9 h9 tk9 hR F9 N9; (obtain ⟨hz9, t9, e9⟩ := hR; subst e9); (try dsimp only))) | ((with_reducible show wpAny _ _ (call (Value.ref 191) [Value.ref _, Value.bytes _ _]) _ _ _); k_dflt (refine' Tri.use (c_csi0 ?p_hl ?p_hf) ?k1 ?k2 ?k3 ?k4 ?k5 ?kK ?kd ?ku ?_; (case k1 => k_asm); (case k2 => k_asm); (case k3 => k_asm); (case k4 => k_asm); (case k5 => k_asm); (case kK => first | exact rfl | assumption); (case kd => ktr_room); (case ku => ktr_units); (case p_hl => k_mem); (case p_hf => (first | omega | ((try simp only [Array.size_append, List.size_toArray, List.length_cons, List.length_nil, byteArr_size]); omega) | exact Nat.le_trans (by assumption) (by decide))); skip; intro r9 h9 tk9 hR F9 N9; (obtain ⟨hz9, t9, e9⟩ := hR; subst e9); (try dsimp only))) | ((with_reducible show wpAny _ _ (call (Value.ref 191) [Value.ref _, Value.bytes _ _]) _ _ _); k_dflt (refine' Tri.use (c_csi1 ?p_hl ?p_hx ?p_hf) ?k1 ?k2 ?k3 ?k4 ?k5 ?kK ?kd ?ku ?_; (case k1 => k_asm); (case k2 => k_asm); (case k3 => k_asm); (case k4 => k_asm); (case k5 => k_asm); (case kK => first | exact rfl | assumption); (case kd => ktr_room); (case ku => ktr_units); (case p_hl => k_mem); (case p_hx => (first | omega | ((try simp only [Array.size_append, List.size_toArray, List.length_cons, List.length_nil, byteArr_size]); omega) | exact Nat.le_trans (by assumption) (by decide))); (case p_hf => (first | omega | ((try simp only [Array.size_append, List.size_toArray, List.length_cons, List.length_nil, byteArr_size]); omega) | exact Nat.le_trans (by assumption) (by decide))); skip; intro r9 h9 tk9 hR F9 N9; (obtain ⟨hz9, t9, e9⟩ := hR; subst e9); (try dsimp only))) | ((with_reducible show wpAny _ _ (call (Value.ref 191) [Value.ref _, Value.bytes _ _]) _ _ _); k_dflt (refine' Tri.use (c_csi2 ?p_hl ?p_hx ?p_hy ?p_hf) ?k1 ?k2 ?k3 ?k4 ?k5 ?kK ?kd ?ku ?_; (case k1 => k_asm); (case k2 => k_asm); (case k3 => k_asm); (case k4 => k_asm); (case k5 => k_asm); (case kK => first | exact rfl | assumption); (case kd => ktr_room); (case ku => ktr_units); (case p_hl => k_mem); (case p_hx => (first | omega | ((try simp only [Array.size_append, List.size_toArray, List.length_cons, List.length_nil, byteArr_size]); omega) | exact Nat.le_trans (by assumption) (by decide))); (case p_hy => (first | omega | ((try simp only [Array.size_append, List.size_toArray, List.length_cons, List.length_nil, byteArr_size]); omega) | exact Nat.le_trans (by assumption) (by decide))); (case p_hf => (first | omega | ((try simp only [Array.size_append, List.size_toArray, List.length_cons, List.length_nil, byteArr_size]); omega) | exact Nat.le_trans (by assumption) (by decide))); skip; intro r9 h9 tk9 hR F9 N9; (obtain ⟨hz9, t9, e9⟩ := hR; subst e9); (try dsimp only))) | ((with_reducible show wpAny _ _ (call (Value.ref 28) [Value.int _ _]) _ _ _); k_dflt (refine' Tri.use (c_dec ?p_h0 ?p_h1) ?k1 ?k2 ?k3 ?k4 ?k5 ?kK ?kd ?ku ?_; (case k1 => k_asm); (case k2 => k_asm); (case k3 => k_asm); (case k4 => k_asm); (case k5 => k_asm); (case kK => first | exact rfl | assumption); (case kd => ktr_room); (case ku => ktr_units); (case p_h0 => (first | with_reducible assumption | decide | exact le9 (by with_reducible assumption) | omega)); (case p_h1 => (first | with_reducible assumption | decide | exact le9 (by with_reducible assumption) | omega)); skip; intro r9 h9 tk9 hR F9 N9; (obtain ⟨hz9, t9, e9⟩ := hR; subst e9); (try dsimp only))) | ((with_reducible show wpAny _ _ (call (Value.ref 268) [Value.ref _, Value.ref _]) _ _ _); k_dflt (refine' Tri.use (c_asever ?p_hx ?p_hdx ?p_hmo ?p_hmd ?p_hsd ?p_hlo ?p_hst ?p_hcc) ?k1 ?k2 ?k3 ?k4 ?k5 ?kK ?kd ?ku ?_; (case k1 => k_asm); (case k2 => k_asm); (case k3 => k_asm); (case k4 => k_asm); (case k5 => k_asm); (case kK => first | exact rfl | assumption); (case kd => ktr_room); (case ku => ktr_units); (case p_hx => k_mem); (case p_hdx => k_mem); (case p_hmo => k_mem); (case p_hmd => k_mem); (case p_hsd => k_mem); (case p_hlo => k_asm); (case p_hst => assumption); (case p_hcc => first | assumption | ((rename _ → CodeOk _ ∧ _ => hh9); exact fun hz8 => ⟨(hh9 hz8).1, (hh9 hz8).2 (by with_reducible assumption)⟩)); skip; intro r9 h9 tk9 hR F9 N9; (obtain ⟨hz9, t9, e9⟩ := hR; subst e9); (try dsimp only))) | ((with_reducible show wpAny _ _ (call (Value.ref 247) [Value.ref _, Value.int _ _]) _ _ _); k_dflt (refine' Tri.use (c_ksign ?p_hx ?p_hdx ?p_hg ?p_he ?p_hc) ?k1 ?k2 ?k3 ?k4 ?k5 ?kK ?kd ?ku ?_; (case k1 => k_asm); (case k2 => k_asm); (case k3 => k_asm); (case k4 => k_asm); (case k5 => k_asm); (case kK => first | exact rfl | assumption); (case kd => ktr_room); (case ku => ktr_units); (case p_hx => k_mem); (case p_hdx => k_mem); (case p_hg => (first | with_reducible assumption | decide | exact le9 (by with_reducible assumption) | omega)); (case p_he => (first | with_reducible assumption | decide | exact le9 (by with_reducible assumption) | omega)); (case p_hc => first | assumption | ((rename _ → CodeOk _ ∧ _ => hh9); exact (hh9 (by with_reducible assumption)).1)); skip; intro r9 h9 tk9 hR F9 N9; (obtain ⟨hz9, t9, e9⟩ := hR; subst e9); (try dsimp only))) | ((with_reducible show wpAny _ _ (call (Value.ref 184) [Value.bytes _ _]) _ _ _); k_dflt (refine' TriX.use (c_pad ) ?k1 ?k2 ?k3 ?k4 ?k5 ?kK ?kd ?ku ?_; (case k1 => k_asm); (case k2 => k_asm); (case k3 => k_asm); (case k4 => k_asm); (case k5 => k_asm); (case kK => first | exact rfl | assumption); (case kd => ktr_room); (case ku => ktr_units);  skip; intro r9 x9 h9 tk9 hR F9 N9 l9; (refine PadIs.split hR (fun hO9 e9 e8 => ?_) (fun f9 p9 c9 a9 tf9 tp9 tc9 hO9 e9 e8 => ?_) <;> subst e9 <;> subst e8 <;> (try simp only [List.nil_append, List.cons_append, List.mem_singleton, forall_eq] at N9 l9) <;> (try (obtain ⟨zA9, zB9, zC9, zD9, zE9, zF9⟩ := padOf_bound hO9))); (try dsimp only))) | ((with_reducible show wpAny _ _ (call (Value.ref 254) [Value.ref _, Value.int _ _, Value.none, Value.int _ _]) _ _ _); k_dflt (refine' Tri.use (c_kn_n ?p_hx ?p_hdx ?p_hg ?p_he ?p_hcd0 ?p_hcd1) ?k1 ?k2 ?k3 ?k4 ?k5 ?kK ?kd ?ku ?_; (case k1 => k_asm); (case k2 => k_asm); (case k3 => k_asm); (case k4 => k_asm); (case k5 => k_asm); (case kK => first | exact rfl | assumption); (case kd => ktr_room); (case ku => ktr_units); (case p_hx => k_mem); (case p_hdx => k_mem); (case p_hg => (first | with_reducible assumption | decide | exact le9 (by with_reducible assumption) | omega)); (case p_he => (first | with_reducible assumption | decide | exact le9 (by with_reducible assumption) | omega)); (case p_hcd0 => (first | with_reducible assumption | decide | exact le9 (by with_reducible assumption) | omega)); (case p_hcd1 => (first | with_reducible assumption | decide | exact le9 (by with_reducible assumption) | omega)); skip; intro r9 h9 tk9 hR F9 N9; (obtain ⟨hz9, t9, e9⟩ := hR; subst e9); (try dsimp only))) | ((with_reducible show wpAny _ _ (call (Value.ref 254) [Value.ref _, Value.int _ _, Value.bytes _ _, Value.int _ _]) _ _ _); k_dflt (refine' Tri.use (c_kn_s ?p_hx ?p_hdx ?p_hg ?p_he ?p_hcd0 ?p_hcd1 ?p_hpl) ?k1 ?k2 ?k3 ?k4 ?k5 ?kK ?kd ?ku ?_; (case k1 => k_asm); (case k2 => k_asm); (case k3 => k_asm); (case k4 => k_asm); (case k5 => k_asm); (case kK => first | exact rfl | assumption); (case kd => ktr_room); (case ku => ktr_units); (case p_hx => k_mem); (case p_hdx => k_mem); (case p_hg => (first | with_reducible assumption | decide | exact le9 (by with_reducible assumption) | omega)); (case p_he => (first | with_reducible assumption | decide | exact le9 (by with_reducible assumption) | omega)); (case p_hcd0 => (first | with_reducible assumption | decide | exact le9 (by with_reducible assumption) | omega)); (case p_hcd1 => (first | with_reducible assumption | decide | exact le9 (by with_reducible assumption) | omega)); (case p_hpl => (first | omega | ((try simp only [Array.size_append, List.size_toArray, List.length_cons, List.length_nil, byteArr_size]); omega) | exact Nat.le_trans (by assumption) (by decide))); skip; intro r9 h9 tk9 hR F9 N9; (obtain ⟨hz9, t9, e9⟩ := hR; subst e9); (try dsimp only))) | ((with_reducible show wpAny _ _ (call (Value.ref 219) [Value.ref _, Value.ref _]) _ _ _); k_dflt (refine' Tri.use (c_coded ?p_hx ?p_hdx ?p_hmo ?p_hmd ?p_hsd ?p_hlo ?p_hst) ?k1 ?k2 ?k3 ?k4 ?k5 ?kK ?kd ?ku ?_; (case k1 => k_asm); (case k2 => k_asm); (case k3 => k_asm); (case k4 => k_asm); (case k5 => k_asm); (case kK => first | exact rfl | assumption); (case kd => ktr_room); (case ku => ktr_units); (case p_hx => k_mem); (case p_hdx => k_mem); (case p_hmo => k_mem); (case p_hmd => k_mem); (case p_hsd => k_mem); (case p_hlo => k_asm); (case p_hst => assumption); skip; intro r9 h9 tk9 hR F9 N9; (obtain ⟨hz9, t9, e9⟩ := hR; subst e9); (try dsimp only))) | ((with_reducible show wpAny _ _ (call (Value.ref 152) [Value.bytes _ _, Value.int _ _]) _ _ _); k_dflt (refine' TriX.use (c_key2 ) ?k1 ?k2 ?k3 ?k4 ?k5 ?kK ?kd ?ku ?_; (case k1 => k_asm); (case k2 => k_asm); (case k3 => k_asm); (case k4 => k_asm); (case k5 => k_asm); (case kK => first | exact rfl | assumption); (case kd => ktr_room); (case ku => ktr_units);  skip; intro r9 x9 h9 tk9 hR F9 N9 l9; (obtain ⟨x9, d9, n19, n29, n39, n49, t19, t29, t39, t49, e9, e8, o9⟩ := hR; subst e9; subst e8; (try simp only [List.nil_append, List.cons_append, List.mem_cons, List.not_mem_nil, or_false, forall_eq_or_imp, forall_eq] at N9 l9); (try (obtain ⟨la9, lb9⟩ := l9))); (try dsimp only))) | ((with_reducible show wpAny _ _ (call (Value.ref 177) [Value.ref _, Value.bytes _ _]) _ _ _); k_dflt (refine' Tri.use (c_num ?p_ht) ?k1 ?k2 ?k3 ?k4 ?k5 ?kK ?kd ?ku ?_; (case k1 => k_asm); (case k2 => k_asm); (case k3 => k_asm); (case k4 => k_asm); (case k5 => k_asm); (case kK => first | exact rfl | assumption); (case kd => ktr_room); (case ku => ktr_units); (case p_ht => first | exact tab_53 | exact tab_74 | exact tab_79); skip; intro r9 h9 tk9 hR F9 N9; (refine IsO.splitN hR (by first | exact fun _ => numL_bound | exact fun _ => numN_bound | exact fun _ => numC_bound) (fun hO9 e9 => ?_) (fun i9 t9 hO9 e9 zA9 zB9 => ?_) <;> subst e9 <;> (try (exact (nameOk_no (by assumption) (by assumption) (by assumption) (by assumption) (by assumption) (by assumption)).elim))); (try dsimp only))) | (with_reducible ((with_reducible show CutP _ _ (Flow.ret _) _); (unfold CutP); (try dsimp only))) | (with_reducible ((first | (with_reducible refine' cut_end0 ?ceF ?ceN ?ceD ?ceP; (case ceF => with_reducible assumption); (case ceN => with_reducible assumption)) | (with_reducible refine' cut_end1 ?ceF ?ceN ?ceD ?ceP; (case ceF => with_reducible assumption); (case ceN => with_reducible assumption)) | (with_reducible refine' cut_end1r ?ceF ?ceN ?ceD ?ceP; (case ceF => with_reducible assumption); (case ceN => with_reducible assumption)) | (with_reducible refine' cut_end2 ?ceF ?ceN ?ceD ?ceP; (case ceF => with_reducible assumption); (case ceN => with_reducible assumption)) | (with_reducible refine' cut_end3 ?ceF ?ceN ?ceD ?ceP; (case ceF => with_reducible assumption); (case ceN => with_reducible assumption))); (case ceD => (intro p9 hp9; (repeat first | with_reducible exact hp9 | with_reducible refine List.mem_cons_of_mem _ ?_))); (case ceP => first | with_reducible assumption | rfl | omega | (refine ⟨?_, ?_, ?_⟩ <;> first | rfl | (rw [Bool.eq_iff_iff]; (simp only [decide_eq_true_eq, Bool.false_eq_true, Bool.not_eq_true', decide_eq_false_iff_not, Bool.and_eq_true, Bool.or_eq_true, true_iff, iff_true, iff_false, false_iff, beq_iff_eq, fd8, fm2, fd2]) <;> omega)) | (refine ⟨?_, ?_⟩ <;> first | rfl | (rw [Bool.eq_iff_iff]; (simp only [decide_eq_true_eq, Bool.false_eq_true, Bool.not_eq_true', decide_eq_false_iff_not, Bool.and_eq_true, Bool.or_eq_true, true_iff, iff_true, iff_false, false_iff, beq_iff_eq, fd8, fm2, fd2]) <;> omega)) | fail "cut: its fact"))) | (with_reducible ((with_reducible show wpAny _ _ (call (Value.type "bytes") [Value.ref _]) _ _ _); k_dflt (refine' KBa.make_K ?kbaF ?kbaN ?kbah ?kbal ?kbai ?kbar ?kban ?_; (case kbaF => k_asm); (case kbaN => k_asm); (case kbah => rfl); (case kbal => exact News.isList (by k_asm) (by k_mem)); (case kbai => repeat constructor); (case kbar => first | (intro q hq; simp only [List.mem_cons, List.not_mem_nil, or_false, fm10, fd10, fd64, fm64, fd4096, fm32] at hq; omega) | ((rename CodeOk _ => hc); (rcases hc with hc | hc | hc | hc | hc | hc | hc | hc | hc | hc) <;> (subst hc; first | (exfalso; omega) | (unfold KBa.In; decide +kernel)))); (case kban => kba_size)); intro _ _ _ F' N' _)) | (k_unfold; (try dsimp only)) | (k_end; kc_close) | walk1 | (dsimp only; walk1) | (leave1; walk_say "STEP leave1"; (try dsimp only)) | fail "no step"))
  all_goals (refine' hret _ _ _ ?hR ?hF ?hN; (case hF => k_asm); (case hN => (refine' cb_drop ?cbN ?cbS; (case cbN => assumption); (case cbS => (intro p9 hp9; (repeat first | with_reducible exact hp9 | with_reducible refine List.mem_cons_of_mem _ ?_))))); (case hR => ((refine ⟨kk_size _ _ _ _ _ _ _, _, congrArg (fun b => Value.bytes b _) ?_⟩; unfold kk csiK; (repeat (first | rw [if_pos (by with_reducible assumption)] | rw [if_neg (by with_reducible assumption)] | rw [if_neg (ne_true_of_eq_false (by with_reducible assumption))] | rw [if_neg (ne_true_of_eq_false (bneT (by with_reducible assumption)))] | rw [if_pos (bneF (by with_reducible assumption))] | ((rename numOf rowsL _ = _ => hP9); rw [hP9]; try dsimp only []) | ((rename numOf rowsN _ = _ => hP9); rw [hP9]; try dsimp only []) | ((rename numOf rowsC _ = _ => hP9); rw [hP9]; try dsimp only []) | ((rename padOf _ _ = _ => hP9); rw [hP9]; try dsimp only []) | rw [if_pos (by omega)] | rw [if_neg (by omega)])); (all_goals (try rfl)); (all_goals (rename padOf _ _ = _ => hP8; rw [hP8]))))))
theorem c_lnumber {w : World} {mean : Mean} {mg mb : SMap} {news : Led} {n : Int} {t : Tok} (h0 : 0 ≤ n) (h1 : n < 100000) :
    Tri w mean mg mb 1 362 [.int n t] news (IsB (decB n) 5) := by
  w_top off
  intro dp un gd cn cs a ccd cl outer A₀ base h₀ L m s Q E B F X N T hk hd hu hret
  refine wpAny_call ?_
  k_dflt (refine' code_def ?k1 ?k2 ?k3 ?k4 ?k5 ?kA ?kF ?kK ?k6 ?k7 ?k8 ?k9 ?kB ?_ ?c2 ?c3 ?c4 ?c5; (case kA => exact rfl); (case kF => exact rfl); (case kK => assumption); (case k1 => k_asm); (case k2 => k_asm); (case k3 => k_asm); (case k4 => k_asm); (case k5 => k_asm); (case k6 => k_is); (case k7 => k_is); (case k8 => ktr_room); (case k9 => first | exact BindsTo.of_eq rfl | exact binds_K (by k_in) rfl (by k_is) rfl rfl rfl); (case c5 => decide); (case kB => exact locs rfl); (case c2 => exact rfl); (case c3 => exact rfl); (case c4 => exact rfl); k_whole; intro g' L' h' FG' F' N' B' X' T'; (try dsimp only); (try k_lift B'); (try k_fold))
  rcases (decL_cases n) with hz | hz | hz | hz | hz <;> (repeat' (first | (with_reducible ((with_reducible show wpAny _ _ (call (Value.builtin "ord") _ _) _ _ _); ((with_unfolding_all refine P.ord_of_char ?_)))) | (with_reducible ((with_reducible show LCg.FinE _ _ _ _ _ _ _); ((unfold LCg.FinE); intro D' h' tk' F' N' o1'; (simp only [List.nil_append, List.cons_append, List.map_cons, List.map_nil, List.getElem!_cons_zero, List.getElem!_cons_succ, Nat.zero_add, Nat.reduceAdd] at N'); (try dsimp only)))) | (with_reducible ((with_reducible show LCg.CompEnd _ _ _ _ _ _ _ _ _ _ _ _ _ _); (with_unfolding_all refine' comp_end ?ceF ?ceN ?ceO ?ceS ?_; (case ceF => assumption); (case ceN => assumption); (case ceO => assumption); (case ceS => exact True.intro)))) | (with_reducible ((with_reducible refine (?_ : LcsSrc _ _ _ _ _ _ _ _ _ _ _ _ _ _)); ((with_unfolding_all first | refine LcsSrc.of (n := 1) (text_lit (by assumption) (by assumption) (by assumption)) (by rfl) (by k_asm) (by k_asm) ?lsA (by rfl) (by decide) ?_ | refine LcsSrc.of (n := 2) (text_lit (by assumption) (by assumption) (by assumption)) (by rfl) (by k_asm) (by k_asm) ?lsA (by rfl) (by decide) ?_ | refine LcsSrc.of (n := 3) (text_lit (by assumption) (by assumption) (by assumption)) (by rfl) (by k_asm) (by k_asm) ?lsA (by rfl) (by decide) ?_ | refine LcsSrc.of (n := 4) (text_lit (by assumption) (by assumption) (by assumption)) (by rfl) (by k_asm) (by k_asm) ?lsA (by rfl) (by decide) ?_ | refine LcsSrc.of (n := 5) (text_lit (by assumption) (by assumption) (by assumption)) (by rfl) (by k_asm) (by k_asm) ?lsA (by rfl) (by decide) ?_); (case lsA => (simp <;> omega)); intro g'))) | (with_reducible ((with_reducible show wpAny _ _ (eval (Expr.ListComp (Expr.Call (Expr.Name (Str.ofString "ord") _) _ _ _) _ _ _) _) _ _ _); k_dflt (refine lcs_comp (F₀ := by k_asm) (by rfl) (by decide) (by rfl) (by decide) (by rfl) ?_))) | (with_reducible ((with_reducible show wpAny _ _ (call (Value.type "bytes") [Value.ref _]) _ _ _); k_dflt (refine' KBa.make_K ?kbaF ?kbaN ?kbah ?kbal ?kbai ?kbar ?kban ?_; (case kbaF => k_asm); (case kbaN => k_asm); (case kbah => rfl); (case kbal => exact News.isList (by k_asm) (by k_mem)); (case kbai => repeat constructor); (case kbar => first | (intro q hq; simp only [List.mem_cons, List.not_mem_nil, or_false, fm10, fd10, fd64, fm64, fd4096, fm32] at hq; omega) | ((rename CodeOk _ => hc); (rcases hc with hc | hc | hc | hc | hc | hc | hc | hc | hc | hc) <;> (subst hc; first | (exfalso; omega) | (unfold KBa.In; decide +kernel)))); (case kban => kba_size)); intro _ _ _ F' N' _)) | (k_unfold; (try dsimp only)) | (k_end; kc_close) | walk1 | (dsimp only; walk1) | (leave1; walk_say "STEP leave1"; (try dsimp only)) | fail "no step"))
  all_goals (refine' hret _ _ _ ?hR ?hF ?hN; (case hF => k_asm); (case hN => (refine' cb_drop ?cbN ?cbS; (case cbN => assumption); (case cbS => (intro p9 hp9; (repeat first | with_reducible exact hp9 | with_reducible refine List.mem_cons_of_mem _ ?_))))); (case hR => ((refine ⟨decB_size n, _, congrArg (fun b => Value.bytes b _) ?_⟩; exact byteArr_dec hz))))
theorem c_lheld {w : World} {mean : Mean} {mg mb : SMap} {news : Led} {g e f : Int} {tg te tf : Tok} (hg : 0 ≤ g ∧ g ≤ 9) (he : 1 ≤ e ∧ e ≤ 3) :
    Tri w mean mg mb 2 376 [.int g tg, .int e te, .int f tf] news (IsB (lheldK g e f) 11) := by
  w_top off
  intro dp un gd cn cs a ccd cl outer A₀ base h₀ L m s Q E B F X N T hk hd hu hret
  refine wpAny_call ?_
  k_dflt (refine' code_def ?k1 ?k2 ?k3 ?k4 ?k5 ?kA ?kF ?kK ?k6 ?k7 ?k8 ?k9 ?kB ?_ ?c2 ?c3 ?c4 ?c5; (case kA => exact rfl); (case kF => exact rfl); (case kK => assumption); (case k1 => k_asm); (case k2 => k_asm); (case k3 => k_asm); (case k4 => k_asm); (case k5 => k_asm); (case k6 => k_is); (case k7 => k_is); (case k8 => ktr_room); (case k9 => first | exact BindsTo.of_eq rfl | exact binds_K (by k_in) rfl (by k_is) rfl rfl rfl); (case c5 => decide); (case kB => exact locs rfl); (case c2 => exact rfl); (case c3 => exact rfl); (case c4 => exact rfl); k_whole; intro g' L' h' FG' F' N' B' X' T'; (try dsimp only); (try k_lift B'); (try k_fold))
  (repeat' (first | ((with_reducible show wpAny _ _ (call (Value.ref 362) [Value.int _ _]) _ _ _); k_dflt (refine' Tri.use (c_lnumber ?p_h0 ?p_h1) ?k1 ?k2 ?k3 ?k4 ?k5 ?kK ?kd ?ku ?_; (case k1 => k_asm); (case k2 => k_asm); (case k3 => k_asm); (case k4 => k_asm); (case k5 => k_asm); (case kK => first | exact rfl | assumption); (case kd => ktr_room); (case ku => ktr_units); (case p_h0 => (first | with_reducible assumption | decide | exact le9 (by with_reducible assumption) | omega)); (case p_h1 => (first | with_reducible assumption | decide | exact le9 (by with_reducible assumption) | omega)); skip; intro r9 h9 tk9 hR F9 N9; (obtain ⟨hz9, t9, e9⟩ := hR; subst e9); (try dsimp only))) | (with_reducible ((with_reducible show wpAny _ _ (binaryOp Operator.Add (Value.bytes _ _) (Value.bytes _ _)) _ _ _); (refine' KBy.add_bytes ?bsz ?_; (case bsz => ((try simp only [Array.size_append, List.size_toArray, List.length_cons, List.length_nil, byteArr_size]); omega))); intro _ _)) | (k_unfold; (try dsimp only)) | (k_end; kc_close) | walk1 | (dsimp only; walk1) | (leave1; walk_say "STEP leave1"; (try dsimp only)) | fail "no step"))
  all_goals (refine' hret _ _ _ ?hR ?hF ?hN; (case hF => k_asm); (case hN => (refine' cb_drop ?cbN ?cbS; (case cbN => assumption); (case cbS => (intro p9 hp9; (repeat first | with_reducible exact hp9 | with_reducible refine List.mem_cons_of_mem _ ?_))))); (case hR => ((refine ⟨lheldK_size _ _ _, _, congrArg (fun b => Value.bytes b _) ?_⟩; (try simp only [Array.append_empty]); unfold lheldK; (repeat (first | rw [if_pos (by omega)] | rw [if_neg (by omega)])); try rfl))))
theorem c_lu {w : World} {mean : Mean} {mg mb : SMap} {news : Led} {a b c : BA} {ta tb tc : Tok} (ha : a.size ≤ 11) (hb : b.size ≤ 11) (hc : c.size ≤ 5) :
    Tri w mean mg mb 1 383 [.bytes a ta, .bytes b tb, .bytes c tc] news (IsB (uK a b c) 40) := by
  w_top off
  intro dp un gd cn cs a ccd cl outer A₀ base h₀ L m s Q E B F X N T hk hd hu hret
  refine wpAny_call ?_
  k_dflt (refine' code_def ?k1 ?k2 ?k3 ?k4 ?k5 ?kA ?kF ?kK ?k6 ?k7 ?k8 ?k9 ?kB ?_ ?c2 ?c3 ?c4 ?c5; (case kA => exact rfl); (case kF => exact rfl); (case kK => assumption); (case k1 => k_asm); (case k2 => k_asm); (case k3 => k_asm); (case k4 => k_asm); (case k5 => k_asm); (case k6 => k_is); (case k7 => k_is); (case k8 => ktr_room); (case k9 => first | exact BindsTo.of_eq rfl | exact binds_K (by k_in) rfl (by k_is) rfl rfl rfl); (case c5 => decide); (case kB => exact locs rfl); (case c2 => exact rfl); (case c3 => exact rfl); (case c4 => exact rfl); k_whole; intro g' L' h' FG' F' N' B' X' T'; (try dsimp only); (try k_lift B'); (try k_fold))
  (repeat' (first | (with_reducible ((with_reducible show wpAny _ _ (binaryOp Operator.Add (Value.bytes _ _) (Value.bytes _ _)) _ _ _); (refine' KBy.add_bytes ?bsz ?_; (case bsz => ((try simp only [Array.size_append, List.size_toArray, List.length_cons, List.length_nil, byteArr_size]); omega))); intro _ _)) | (with_reducible ((with_reducible show wpAny _ _ (call (Value.builtin "bytes.join") [Value.bytes _ _, Value.ref _]) _ _ _); k_dflt (first | (refine' join2 ?jl ?js ?_; (case jl => exact News.isList (by k_asm) (by k_mem)); (case js => (simp; omega))) | (refine' join1 ?jl ?_; (case jl => exact News.isList (by k_asm) (by k_mem))) | (refine' join3 ?jl ?js ?_; (case jl => exact News.isList (by k_asm) (by k_mem)); (case js => (simp; omega))) | (refine' join0 ?jl ?js ?_; (case jl => exact News.isList (by k_asm) (by k_mem)); (case js => simp))); intro _ _)) | (with_reducible ((with_reducible refine join_meth ?_))) | (k_unfold; (try dsimp only)) | (k_end; kc_close) | walk1 | (dsimp only; walk1) | (leave1; walk_say "STEP leave1"; (try dsimp only)) | fail "no step"))
  all_goals (refine' hret _ _ _ ?hR ?hF ?hN; (case hF => k_asm); (case hN => (refine' cb_drop ?cbN ?cbS; (case cbN => assumption); (case cbS => (intro p9 hp9; (repeat first | with_reducible exact hp9 | with_reducible refine List.mem_cons_of_mem _ ?_))))); (case hR => ((refine ⟨uK_size ha hb hc, _, congrArg (fun b => Value.bytes b _) ?_⟩; unfold uK; (repeat (first | rw [if_neg (ne_true_of_eq_false (bneT (by assumption)))] | rw [if_pos (bneF (by assumption))])); rfl))))
theorem c_lsign {w : World} {mean : Mean} {mg mb : SMap} {news : Led} {c h e f : Int} {tc th te tf : Tok} (hc : CodeOk c) (hh : 0 ≤ h ∧ h ≤ 7) (he : 1 ≤ e ∧ e ≤ 3) :
    Tri w mean mg mb 4 390 [.int c tc, .int h th, .int e te, .int f tf] news (IsB (lsignK c h e f) 40) := by
  w_top off
  intro dp un gd cn cs a ccd cl outer A₀ base h₀ L m s Q E B F X N T hk hd hu hret
  refine wpAny_call ?_
  k_dflt (refine' code_def ?k1 ?k2 ?k3 ?k4 ?k5 ?kA ?kF ?kK ?k6 ?k7 ?k8 ?k9 ?kB ?_ ?c2 ?c3 ?c4 ?c5; (case kA => exact rfl); (case kF => exact rfl); (case kK => assumption); (case k1 => k_asm); (case k2 => k_asm); (case k3 => k_asm); (case k4 => k_asm); (case k5 => k_asm); (case k6 => k_is); (case k7 => k_is); (case k8 => ktr_room); (case k9 => first | exact BindsTo.of_eq rfl | exact binds_K (by k_in) rfl (by k_is) rfl rfl rfl); (case c5 => decide); (case kB => exact locs rfl); (case c2 => exact rfl); (case c3 => exact rfl); (case c4 => exact rfl); k_whole; intro g' L' h' FG' F' N' B' X' T'; (try dsimp only); (try k_lift B'); (try k_fold))
  have h0 := CodeOk.lo hc
  have h1 := CodeOk.hi hc
  have hz8 := lsF0_size c
  have hz7 := lsF1_size c h f
  have hz6 := lsT_size c h e f
  repeat ((fail_if_success (refine cut_two (Str.ofString "is_capital") (Str.ofString "is_free") (decide (65 ≤ c ∧ c ≤ 90)) (decide (h / 2 = 0)) (by with_reducible assumption) (by with_reducible assumption) ?_ ?_)); focus walk1)
  refine cut_two (Str.ofString "is_capital") (Str.ofString "is_free") (decide (65 ≤ c ∧ c ≤ 90)) (decide (h / 2 = 0)) (by with_reducible assumption) (by with_reducible assumption) ?_ ?_
  rotate_left
  intro h2' tk2' F2' N2'
  (try dsimp only)
  repeat ((fail_if_success (refine cut_one (Str.ofString "first") (lsF0 c) (by with_reducible assumption) (by with_reducible assumption) ?_ ?_)); focus walk1)
  refine cut_one (Str.ofString "first") (lsF0 c) (by with_reducible assumption) (by with_reducible assumption) ?_ ?_
  rotate_left
  intro h3' tk3' t3' F3' N3'
  (try dsimp only)
  repeat ((fail_if_success (refine cut_re (lsF1 c h f) (by with_reducible assumption) (by with_reducible assumption) ?_ ?_)); focus walk1)
  refine cut_re (lsF1 c h f) (by with_reducible assumption) (by with_reducible assumption) ?_ ?_
  rotate_left
  intro h4' tk4' t4' F4' N4'
  (try dsimp only)
  repeat ((fail_if_success (refine cut_one (Str.ofString "text") (lsT c h e f) (by with_reducible assumption) (by with_reducible assumption) ?_ ?_)); focus walk1)
  refine cut_one (Str.ofString "text") (lsT c h e f) (by with_reducible assumption) (by with_reducible assumption) ?_ ?_
  rotate_left
  intro h5' tk5' t5' F5' N5'
  (try dsimp only)
  all_goals (repeat' (first | ((with_reducible show wpAny _ _ (call (Value.ref 362) [Value.int _ _]) _ _ _); k_dflt (refine' Tri.use (c_lnumber ?p_h0 ?p_h1) ?k1 ?k2 ?k3 ?k4 ?k5 ?kK ?kd ?ku ?_; (case k1 => k_asm); (case k2 => k_asm); (case k3 => k_asm); (case k4 => k_asm); (case k5 => k_asm); (case kK => first | exact rfl | assumption); (case kd => ktr_room); (case ku => ktr_units); (case p_h0 => (first | with_reducible assumption | decide | exact le9 (by with_reducible assumption) | omega)); (case p_h1 => (first | with_reducible assumption | decide | exact le9 (by with_reducible assumption) | omega)); skip; intro r9 h9 tk9 hR F9 N9; (obtain ⟨hz9, t9, e9⟩ := hR; subst e9); (try dsimp only))) | ((with_reducible show wpAny _ _ (call (Value.ref 376) [Value.int _ _, Value.int _ _, Value.int _ _]) _ _ _); k_dflt (refine' Tri.use (c_lheld ?p_hg ?p_he) ?k1 ?k2 ?k3 ?k4 ?k5 ?kK ?kd ?ku ?_; (case k1 => k_asm); (case k2 => k_asm); (case k3 => k_asm); (case k4 => k_asm); (case k5 => k_asm); (case kK => first | exact rfl | assumption); (case kd => ktr_room); (case ku => ktr_units); (case p_hg => (first | with_reducible assumption | decide | exact le9 (by with_reducible assumption) | omega)); (case p_he => (first | with_reducible assumption | decide | exact le9 (by with_reducible assumption) | omega)); skip; intro r9 h9 tk9 hR F9 N9; (obtain ⟨hz9, t9, e9⟩ := hR; subst e9); (try dsimp only))) | ((with_reducible show wpAny _ _ (call (Value.ref 383) [Value.bytes _ _, Value.bytes _ _, Value.bytes _ _]) _ _ _); k_dflt (refine' Tri.use (c_lu ?p_ha ?p_hb ?p_hc) ?k1 ?k2 ?k3 ?k4 ?k5 ?kK ?kd ?ku ?_; (case k1 => k_asm); (case k2 => k_asm); (case k3 => k_asm); (case k4 => k_asm); (case k5 => k_asm); (case kK => first | exact rfl | assumption); (case kd => ktr_room); (case ku => ktr_units); (case p_ha => (first | omega | ((try simp only [Array.size_append, List.size_toArray, List.length_cons, List.length_nil, byteArr_size]); omega) | exact Nat.le_trans (by assumption) (by decide))); (case p_hb => (first | omega | ((try simp only [Array.size_append, List.size_toArray, List.length_cons, List.length_nil, byteArr_size]); omega) | exact Nat.le_trans (by assumption) (by decide))); (case p_hc => (first | omega | ((try simp only [Array.size_append, List.size_toArray, List.length_cons, List.length_nil, byteArr_size]); omega) | exact Nat.le_trans (by assumption) (by decide))); skip; intro r9 h9 tk9 hR F9 N9; (obtain ⟨hz9, t9, e9⟩ := hR; subst e9); (try dsimp only))) | (with_reducible ((with_reducible show CutP _ _ (Flow.ret _) _); (unfold CutP); (try dsimp only))) | (with_reducible ((first | (with_reducible refine' cut_end0 ?ceF ?ceN ?ceD ?ceP; (case ceF => with_reducible assumption); (case ceN => with_reducible assumption)) | (with_reducible refine' cut_end1 ?ceF ?ceN ?ceD ?ceP; (case ceF => with_reducible assumption); (case ceN => with_reducible assumption)) | (with_reducible refine' cut_end1r ?ceF ?ceN ?ceD ?ceP; (case ceF => with_reducible assumption); (case ceN => with_reducible assumption)) | (with_reducible refine' cut_end2 ?ceF ?ceN ?ceD ?ceP; (case ceF => with_reducible assumption); (case ceN => with_reducible assumption)) | (with_reducible refine' cut_end3 ?ceF ?ceN ?ceD ?ceP; (case ceF => with_reducible assumption); (case ceN => with_reducible assumption))); (case ceD => (intro p9 hp9; (repeat first | with_reducible exact hp9 | with_reducible refine List.mem_cons_of_mem _ ?_))); (case ceP => first | (with_reducible exact rfl) | ((try unfold lsT); (try unfold lsF1); (try unfold lsF0); (repeat' (first | with_reducible rfl | (exfalso; omega) | split)); done) | with_reducible assumption | rfl | omega | (refine ⟨?_, ?_, ?_⟩ <;> first | rfl | (rw [Bool.eq_iff_iff]; (simp only [decide_eq_true_eq, Bool.false_eq_true, Bool.not_eq_true', decide_eq_false_iff_not, Bool.and_eq_true, Bool.or_eq_true, true_iff, iff_true, iff_false, false_iff, beq_iff_eq, fd8, fm2, fd2]) <;> omega)) | (refine ⟨?_, ?_⟩ <;> first | rfl | (rw [Bool.eq_iff_iff]; (simp only [decide_eq_true_eq, Bool.false_eq_true, Bool.not_eq_true', decide_eq_false_iff_not, Bool.and_eq_true, Bool.or_eq_true, true_iff, iff_true, iff_false, false_iff, beq_iff_eq, fd8, fm2, fd2]) <;> omega)) | fail "cut: its fact"))) | (with_reducible ((with_reducible show wpAny _ _ (binaryOp Operator.Add (Value.bytes _ _) (Value.bytes _ _)) _ _ _); (refine' KBy.add_bytes ?bsz ?_; (case bsz => ((try simp only [Array.size_append, List.size_toArray, List.length_cons, List.length_nil, byteArr_size]); omega))); intro _ _)) | (k_unfold; (try dsimp only)) | (k_end; kc_close) | walk1 | (dsimp only; walk1) | (leave1; walk_say "STEP leave1"; (try dsimp only)) | fail "no step"))
  all_goals (refine' hret _ _ _ ?hR ?hF ?hN; (case hF => k_asm); (case hN => (refine' cb_drop ?cbN ?cbS; (case cbN => assumption); (case cbS => (intro p9 hp9; (repeat first | with_reducible exact hp9 | with_reducible refine List.mem_cons_of_mem _ ?_))))); (case hR => ((refine ⟨lsignK_size _ _ _ _, _, congrArg (fun b => Value.bytes b _) ?_⟩; unfold lsignK; (repeat (first | rw [if_pos (by omega)] | rw [if_neg (by omega)])); try rfl))))
local macro_rules | `(tactic| k_mem) => `(tactic| (with_reducible exact updF_keep (by assumption) (by assumption) (by assumption) _))
local macro_rules | `(tactic| k_upd) => `(tactic| (with_reducible exact updF_upd (by assumption) _))
theorem c_draw {w : World} {mean : Mean} {mg mb : SMap} {news : Led} {cl sp : Addr} {ys : List Value} {ns : List Int} {at0 many : Int} {ta tm : Tok} {k : Nat} {g : Obj → Led} (hcl : (cl, LCg.lst ys) ∈ news) (hys : IntsAre ys ns) (hyl : ys.length ≤ 40) (hsp : (sp, W.listOf #[.int at0 ta] k) ∈ news) (hU : UpdF sp (W.listOf #[.int at0 ta] k) news g) (ha : 0 ≤ at0 ∧ at0 < 1000) (hm : 1 ≤ many) (hne : @Ne Nat cl sp) :
    TriG w mean mg mb 1 357 [.ref cl, .ref sp, .int many tm] news g (IsDraw at0 many) := by
  w_top off
  intro dp un gd cn cs a ccd cl outer A₀ base h₀ L m s Q E B F X N T hk hd hu hret
  refine wpAny_call ?_
  k_dflt (refine' code_def ?k1 ?k2 ?k3 ?k4 ?k5 ?kA ?kF ?kK ?k6 ?k7 ?k8 ?k9 ?kB ?_ ?c2 ?c3 ?c4 ?c5; (case kA => exact rfl); (case kF => exact rfl); (case kK => assumption); (case k1 => k_asm); (case k2 => k_asm); (case k3 => k_asm); (case k4 => k_asm); (case k5 => k_asm); (case k6 => k_is); (case k7 => k_is); (case k8 => ktr_room); (case k9 => first | exact BindsTo.of_eq rfl | exact binds_K (by k_in) rfl (by k_is) rfl rfl rfl); (case c5 => decide); (case kB => exact locs rfl); (case c2 => exact rfl); (case c3 => exact rfl); (case c4 => exact rfl); k_whole; intro g' L' h' FG' F' N' B' X' T'; (try dsimp only); (try k_lift B'); (try k_fold))
  (repeat' (first | (with_reducible ((with_reducible show wpAny _ _ (call (Value.builtin "len") [Value.ref _]) _ _ _); k_dflt (refine' PyProof.Rows.len_list ?il ?i0 ?_; (case il => exact News.isList (by k_asm) (by k_mem)); (case i0 => ((try simp only [List.size_toArray]); omega))))) | (with_reducible ((with_reducible show wpAny _ _ (subscriptTail (Expr.Name (Str.ofString "script") _) _ (Value.ref _) (Value.int _ _)) _ _ _); (rename IntsAre _ _ => iv'); k_dflt (refine' item_list_ints ?il iv' ?i0 ?i1 ?i2 ?_; (case il => exact News.isList (by k_asm) (by k_mem)); (case i0 => omega); (case i1 => (have il' := iv'.length; (try simp only [List.size_toArray] at *); omega)); (case i2 => omega); intro t8'))) | (with_reducible ((with_reducible show wpAny _ _ (subscriptTail (Expr.Name (Str.ofString "spot") _) _ (Value.ref _) (Value.int _ _)) _ _ _); k_dflt (refine' PyProof.Rows.item_list (x := Value.int _ _) ?il ?i0 ?i1 ?ix ?_; (case il => exact News.isList (by k_asm) (by k_mem)); (case i0 => decide); (case i1 => decide); (case ix => rfl)))) | (k_unfold; (try dsimp only)) | (k_end; kc_close) | walk1 | (dsimp only; walk1) | (leave1; walk_say "STEP leave1"; (try dsimp only)) | fail "no step"))
  all_goals ((refine' hret _ [] _ _ _ ?hR ?hF ?hN (fun _ h => nomatch h); (case hF => k_asm); (case hN => (rw [List.nil_append]; assumption)); (case hR => exact ⟨_, _, _, _, rfl, rfl, rfl, fmod_lo hm, fmod_hi hm⟩)))
theorem c_lplain {w : World} {mean : Mean} {mg mb : SMap} {news : Led} {nm : BA} {t : Tok} {nl ba : Bool} (hnm : nm = #[84, 97, 98] ∨ nm = #[69, 110, 116, 101, 114] ∨ nm = #[66, 83, 112, 97, 99, 101] ∨ nm = #[69, 115, 99, 97, 112, 101]) :
    Tri w mean mg mb 1 397 [.bytes nm t, .bool nl, .bool ba] news (IsB (plainK nm nl ba) 2) := by
  w_top off
  intro dp un gd cn cs a ccd cl outer A₀ base h₀ L m s Q E B F X N T hk hd hu hret
  refine wpAny_call ?_
  k_dflt (refine' code_def ?k1 ?k2 ?k3 ?k4 ?k5 ?kA ?kF ?kK ?k6 ?k7 ?k8 ?k9 ?kB ?_ ?c2 ?c3 ?c4 ?c5; (case kA => exact rfl); (case kF => exact rfl); (case kK => assumption); (case k1 => k_asm); (case k2 => k_asm); (case k3 => k_asm); (case k4 => k_asm); (case k5 => k_asm); (case k6 => k_is); (case k7 => k_is); (case k8 => ktr_room); (case k9 => first | exact BindsTo.of_eq rfl | exact binds_K (by k_in) rfl (by k_is) rfl rfl rfl); (case c5 => decide); (case kB => exact locs rfl); (case c2 => exact rfl); (case c3 => exact rfl); (case c4 => exact rfl); k_whole; intro g' L' h' FG' F' N' B' X' T'; (try dsimp only); (try k_lift B'); (try k_fold))
  (repeat' (first | (with_reducible ((with_reducible show wpAny _ _ (subscriptTail _ _ (Value.ref _) (Value.bytes _ _)) _ _ _); (rename _ = _ ∨ _ = _ ∨ _ = _ ∨ _ = _ => hnm9); (rcases hnm9 with h9 | h9 | h9 | h9) <;> (subst h9; k_dflt (refine' item_bytes ?ibN ?ibP ?ibD ?ibL ?_; (case ibN => k_asm); (case ibP => exact List.mem_cons_self); (case ibD => assumption); (case ibL => rfl))))) | (with_reducible ((with_reducible show KdnMade _ _ _ _ _ _ _); (k_dflt (refine' made_pairs ?F ?N ?U ?d ?c ?_; (case F => k_asm); (case N => k_asm); (case U => exact head_lt (by assumption)); (case d => assumption); (case c => exact ⟨rfl, rfl, rfl, rfl, rfl, rfl, rfl, rfl, trivial⟩)); intro h' o' F' N' hd'))) | (with_reducible ((with_reducible show wpAny _ _ (eval (Expr.Dict (_ :: _ :: _ :: _ :: []) _ _) _) _ _ _); k_dflt (refine' kdn_eval (knd := bytesKind _ _) ?F ?N (TopRead.nolimit ?T) ?a ?b ?c ?e ?_; (case F => k_asm); (case N => k_asm); (case T => k_asm); (case a => rfl); (case b => rfl); (case c => exact List.cons_ne_nil _ _); (case e => decide)); intro d' h' o' F' N' l1 lo' hd')) | (k_unfold; (try dsimp only)) | (k_end; kc_close) | walk1 | (dsimp only; walk1) | (leave1; walk_say "STEP leave1"; (try dsimp only)) | fail "no step"))
  all_goals (refine' hret _ _ _ ?hR ?hF ?hN; (case hF => k_asm); (case hN => (refine' cb_drop ?cbN ?cbS; (case cbN => assumption); (case cbS => (intro p9 hp9; (repeat first | with_reducible exact hp9 | with_reducible refine List.mem_cons_of_mem _ ?_))))); (case hR => ((refine ⟨plainK_size _ _ _, _, congrArg (fun b => Value.bytes b _) ?_⟩; unfold plainK; (repeat (first | rfl | rw [if_pos (by first | decide | assumption)] | rw [if_neg (by first | decide | exact ne_true_of_eq_false (by assumption))]))))))
inductive DueIs (P : Params) (news : Led) (ra : Addr) (h e f : Int) (pl : BA) : Str → BA → Prop
  | letter {nm fin : BA} {tn tv : Tok} : PairAt P news ra (.bytes nm tn) (.bytes fin tv) → fin.size ≤ 1 → DueIs P news ra h e f pl (Str.ofString "letter") (dueL fin h e f)
  | figure {nm : BA} {n : Int} {tn tv : Tok} : PairAt P news ra (.bytes nm tn) (.int n tv) → 0 ≤ n ∧ n < 100000 → DueIs P news ra h e f pl (Str.ofString "figure") (dueF n h e f)
  | sign {nm : BA} {c : Int} {tn tv : Tok} : PairAt P news ra (.bytes nm tn) (.int c tv) → CodeOk c → DueIs P news ra h e f pl (Str.ofString "sign") (dueS c h e f pl)
  | named {nm : BA} {n : Int} {tn tv : Tok} : PairAt P news ra (.bytes nm tn) (.int n tv) → 0 ≤ n ∧ n < 100000 → DueIs P news ra h e f pl (Str.ofString "named") (dueN (everB nm) n h e f pl)
theorem c_due {w : World} {mean : Mean} {mg mb : SMap} {news : Led} {ra : Addr} {h e f : Int} {ts th te tf tpl : Tok} {pl : BA} {so : Str} {out : BA} (hD : DueIs w.params news ra h e f pl so out) (hh : 0 ≤ h ∧ h ≤ 7) (he : 1 ≤ e ∧ e ≤ 3) (hpl : pl.size ≤ 5) :
    Tri w mean mg mb 5 404 [.str so ts, .ref ra, .int h th, .int e te, .int f tf, .bytes pl tpl] news (IsB out 40) := by
  w_top off
  intro dp un gd cn cs a ccd cl outer A₀ base h₀ L m s Q E B F X N T hk hd hu hret
  refine wpAny_call ?_
  k_dflt (refine' code_def ?k1 ?k2 ?k3 ?k4 ?k5 ?kA ?kF ?kK ?k6 ?k7 ?k8 ?k9 ?kB ?_ ?c2 ?c3 ?c4 ?c5; (case kA => exact rfl); (case kF => exact rfl); (case kK => assumption); (case k1 => k_asm); (case k2 => k_asm); (case k3 => k_asm); (case k4 => k_asm); (case k5 => k_asm); (case k6 => k_is); (case k7 => k_is); (case k8 => ktr_room); (case k9 => first | exact BindsTo.of_eq rfl | exact binds_K (by k_in) rfl (by k_is) rfl rfl rfl); (case c5 => decide); (case kB => exact locs rfl); (case c2 => exact rfl); (case c3 => exact rfl); (case c4 => exact rfl); k_whole; intro g' L' h' FG' F' N' B' X' T'; (try dsimp only); (try k_lift B'); (try k_fold))
  have hz8 := lheldK_size h e f
  repeat ((fail_if_success (refine cut_same (¬ (e = 3 ∧ f / 2 % 2 = 0)) (by with_reducible assumption) (by with_reducible assumption) ?_ ?_)); focus walk1)
  refine cut_same (¬ (e = 3 ∧ f / 2 % 2 = 0)) (by with_reducible assumption) (by with_reducible assumption) ?_ ?_
  rotate_left
  intro h2' tk2' F2' N2' p2'
  (try dsimp only)
  repeat ((fail_if_success (refine cut_three (Str.ofString "told") (Str.ofString "has_codes") (Str.ofString "has_all") (lheldK h e f) (decide (f % 2 = 1 ∨ f / 8 % 2 = 1)) (decide (f / 8 % 2 = 1)) (by with_reducible assumption) (by with_reducible assumption) ?_ ?_)); focus walk1)
  refine cut_three (Str.ofString "told") (Str.ofString "has_codes") (Str.ofString "has_all") (lheldK h e f) (decide (f % 2 = 1 ∨ f / 8 % 2 = 1)) (decide (f / 8 % 2 = 1)) (by with_reducible assumption) (by with_reducible assumption) ?_ ?_
  rotate_left
  intro h3' tk3' t3' F3' N3'
  (try dsimp only)
  rcases hD with ⟨hrow, hfin⟩ | ⟨hrow, hn⟩ | ⟨hrow, hc⟩ | ⟨hrow, hn⟩
  all_goals (try (have h0 := CodeOk.lo hc; have h1 := CodeOk.hi hc))
  all_goals (repeat' (first | ((with_reducible show wpAny _ _ (call (Value.ref 376) [Value.int _ _, Value.int _ _, Value.int _ _]) _ _ _); k_dflt (refine' Tri.use (c_lheld ?p_hg ?p_he) ?k1 ?k2 ?k3 ?k4 ?k5 ?kK ?kd ?ku ?_; (case k1 => k_asm); (case k2 => k_asm); (case k3 => k_asm); (case k4 => k_asm); (case k5 => k_asm); (case kK => first | exact rfl | assumption); (case kd => ktr_room); (case ku => ktr_units); (case p_hg => (first | with_reducible assumption | decide | exact le9 (by with_reducible assumption) | omega)); (case p_he => (first | with_reducible assumption | decide | exact le9 (by with_reducible assumption) | omega)); skip; intro r9 h9 tk9 hR F9 N9; (obtain ⟨hz9, t9, e9⟩ := hR; subst e9); (try dsimp only))) | ((with_reducible show wpAny _ _ (call (Value.ref 362) [Value.int _ _]) _ _ _); k_dflt (refine' Tri.use (c_lnumber ?p_h0 ?p_h1) ?k1 ?k2 ?k3 ?k4 ?k5 ?kK ?kd ?ku ?_; (case k1 => k_asm); (case k2 => k_asm); (case k3 => k_asm); (case k4 => k_asm); (case k5 => k_asm); (case kK => first | exact rfl | assumption); (case kd => ktr_room); (case ku => ktr_units); (case p_h0 => (first | with_reducible assumption | decide | exact le9 (by with_reducible assumption) | omega)); (case p_h1 => (first | with_reducible assumption | decide | exact le9 (by with_reducible assumption) | omega)); skip; intro r9 h9 tk9 hR F9 N9; (obtain ⟨hz9, t9, e9⟩ := hR; subst e9); (try dsimp only))) | ((with_reducible show wpAny _ _ (call (Value.ref 383) [Value.bytes _ _, Value.bytes _ _, Value.bytes _ _]) _ _ _); k_dflt (refine' Tri.use (c_lu ?p_ha ?p_hb ?p_hc) ?k1 ?k2 ?k3 ?k4 ?k5 ?kK ?kd ?ku ?_; (case k1 => k_asm); (case k2 => k_asm); (case k3 => k_asm); (case k4 => k_asm); (case k5 => k_asm); (case kK => first | exact rfl | assumption); (case kd => ktr_room); (case ku => ktr_units); (case p_ha => (first | omega | ((try simp only [Array.size_append, List.size_toArray, List.length_cons, List.length_nil, byteArr_size]); omega) | exact Nat.le_trans (by assumption) (by decide))); (case p_hb => (first | omega | ((try simp only [Array.size_append, List.size_toArray, List.length_cons, List.length_nil, byteArr_size]); omega) | exact Nat.le_trans (by assumption) (by decide))); (case p_hc => (first | omega | ((try simp only [Array.size_append, List.size_toArray, List.length_cons, List.length_nil, byteArr_size]); omega) | exact Nat.le_trans (by assumption) (by decide))); skip; intro r9 h9 tk9 hR F9 N9; (obtain ⟨hz9, t9, e9⟩ := hR; subst e9); (try dsimp only))) | ((with_reducible show wpAny _ _ (call (Value.ref 369) [Value.int _ _]) _ _ _); k_dflt (refine' Tri.use (c_lsigns ?p_h0 ?p_h1) ?k1 ?k2 ?k3 ?k4 ?k5 ?kK ?kd ?ku ?_; (case k1 => k_asm); (case k2 => k_asm); (case k3 => k_asm); (case k4 => k_asm); (case k5 => k_asm); (case kK => first | exact rfl | assumption); (case kd => ktr_room); (case ku => ktr_units); (case p_h0 => (first | with_reducible assumption | decide | exact le9 (by with_reducible assumption) | omega)); (case p_h1 => (first | with_reducible assumption | decide | exact le9 (by with_reducible assumption) | omega)); skip; intro r9 h9 tk9 hR F9 N9; (obtain ⟨hz9, t9, e9⟩ := hR; subst e9); (try dsimp only))) | ((with_reducible show wpAny _ _ (call (Value.ref 390) [Value.int _ _, Value.int _ _, Value.int _ _, Value.int _ _]) _ _ _); k_dflt (refine' Tri.use (c_lsign ?p_hc ?p_hh ?p_he) ?k1 ?k2 ?k3 ?k4 ?k5 ?kK ?kd ?ku ?_; (case k1 => k_asm); (case k2 => k_asm); (case k3 => k_asm); (case k4 => k_asm); (case k5 => k_asm); (case kK => first | exact rfl | assumption); (case kd => ktr_room); (case ku => ktr_units); (case p_hc => first | assumption | ((rename _ → CodeOk _ ∧ _ => hh9); exact (hh9 (by with_reducible assumption)).1)); (case p_hh => (first | with_reducible assumption | decide | exact le9 (by with_reducible assumption) | omega)); (case p_he => (first | with_reducible assumption | decide | exact le9 (by with_reducible assumption) | omega)); skip; intro r9 h9 tk9 hR F9 N9; (obtain ⟨hz9, t9, e9⟩ := hR; subst e9); (try dsimp only))) | (with_reducible ((with_reducible show CutP _ _ (Flow.ret _) _); (unfold CutP); (try dsimp only))) | (with_reducible ((first | (with_reducible refine' cut_end0 ?ceF ?ceN ?ceD ?ceP; (case ceF => with_reducible assumption); (case ceN => with_reducible assumption)) | (with_reducible refine' cut_end1 ?ceF ?ceN ?ceD ?ceP; (case ceF => with_reducible assumption); (case ceN => with_reducible assumption)) | (with_reducible refine' cut_end1r ?ceF ?ceN ?ceD ?ceP; (case ceF => with_reducible assumption); (case ceN => with_reducible assumption)) | (with_reducible refine' cut_end2 ?ceF ?ceN ?ceD ?ceP; (case ceF => with_reducible assumption); (case ceN => with_reducible assumption)) | (with_reducible refine' cut_end3 ?ceF ?ceN ?ceD ?ceP; (case ceF => with_reducible assumption); (case ceN => with_reducible assumption))); (case ceD => (intro p9 hp9; (repeat first | with_reducible exact hp9 | with_reducible refine List.mem_cons_of_mem _ ?_))); (case ceP => first | with_reducible assumption | rfl | omega | (refine ⟨?_, ?_, ?_⟩ <;> first | rfl | (rw [Bool.eq_iff_iff]; (simp only [decide_eq_true_eq, Bool.false_eq_true, Bool.not_eq_true', decide_eq_false_iff_not, Bool.and_eq_true, Bool.or_eq_true, true_iff, iff_true, iff_false, false_iff, beq_iff_eq, fd8, fm2, fd2]) <;> omega)) | (refine ⟨?_, ?_⟩ <;> first | rfl | (rw [Bool.eq_iff_iff]; (simp only [decide_eq_true_eq, Bool.false_eq_true, Bool.not_eq_true', decide_eq_false_iff_not, Bool.and_eq_true, Bool.or_eq_true, true_iff, iff_true, iff_false, false_iff, beq_iff_eq, fd8, fm2, fd2]) <;> omega)) | fail "cut: its fact"))) | (with_reducible ((with_reducible show wpAny _ _ (compareOp CmpOp.In (Value.bytes _ _) (Value.ref _)) _ _ _); k_dflt (refine' in_pairB ?ibN ?ibM ?ibC ?ibD ?_; (case ibN => k_asm); (case ibM => exact List.mem_cons_self); (case ibC => rfl); (case ibD => rfl)))) | (with_reducible (with_reducible first | (refine ite_strT (x := Str.ofString _) (y := Str.ofString _) (by decide +kernel) ?_) | (refine ite_strF (x := Str.ofString _) (y := Str.ofString _) (by decide +kernel) ?_))) | (with_reducible ((with_reducible show wpAny _ _ (subscriptTail _ _ (Value.ref _) (Value.int _ _)) _ _ _); k_dflt (first | (with_reducible refine' pair_fst ?riN ?riF ?riX ?riR ?_ ?riS) | (with_reducible refine' pair_snd ?riN ?riF ?riX ?riR ?_ ?riS)); (case riS => with_unfolding_all rfl); (case riN => k_asm); (case riF => k_asm); (case riX => k_asm); (case riR => first | with_reducible assumption | exact PairAt.up (by with_reducible assumption) | exact PairAt.up (PairAt.up (by with_reducible assumption))))) | (with_reducible ((with_reducible show wpAny _ _ (binaryOp Operator.Add (Value.bytes _ _) (Value.bytes _ _)) _ _ _); (refine' KBy.add_bytes ?bsz ?_; (case bsz => ((try simp only [Array.size_append, List.size_toArray, List.length_cons, List.length_nil, byteArr_size]); omega))); intro _ _)) | (k_unfold; (try dsimp only)) | (k_end; kc_close) | walk1 | (dsimp only; walk1) | (leave1; walk_say "STEP leave1"; (try dsimp only)) | fail "no step"))
  all_goals (refine' hret _ _ _ ?hR ?hF ?hN; (case hF => k_asm); (case hN => (refine' cb_drop ?cbN ?cbS; (case cbN => assumption); (case cbS => (intro p9 hp9; (repeat first | with_reducible exact hp9 | with_reducible refine List.mem_cons_of_mem _ ?_))))); (case hR => ((first | (first | (refine ⟨dueL_size hfin, _, congrArg (fun b => Value.bytes b _) ?_⟩; unfold dueL; (repeat (first | rw [if_pos (by with_reducible assumption)] | rw [if_neg (by with_reducible assumption)] | rw [if_neg (ne_true_of_eq_false (by with_reducible assumption))] | rw [if_neg (ne_true_of_eq_false (bneT (by with_reducible assumption)))] | rw [if_pos (bneF (by with_reducible assumption))] | rw [if_pos (by omega)] | rw [if_neg (by omega)])); try rfl; done) | (refine ⟨dueF_size, _, congrArg (fun b => Value.bytes b _) ?_⟩; unfold dueF; (repeat (first | rw [if_pos (by with_reducible assumption)] | rw [if_neg (by with_reducible assumption)] | rw [if_neg (ne_true_of_eq_false (by with_reducible assumption))] | rw [if_neg (ne_true_of_eq_false (bneT (by with_reducible assumption)))] | rw [if_pos (bneF (by with_reducible assumption))] | rw [if_pos (by omega)] | rw [if_neg (by omega)])); try rfl; done) | (refine ⟨dueS_size hpl, _, congrArg (fun b => Value.bytes b _) ?_⟩; unfold dueS; (repeat (first | rw [if_pos (by with_reducible assumption)] | rw [if_neg (by with_reducible assumption)] | rw [if_neg (ne_true_of_eq_false (by with_reducible assumption))] | rw [if_neg (ne_true_of_eq_false (bneT (by with_reducible assumption)))] | rw [if_pos (bneF (by with_reducible assumption))] | rw [if_pos (by omega)] | rw [if_neg (by omega)])); try rfl; done) | (refine ⟨dueN_size hpl, _, congrArg (fun b => Value.bytes b _) ?_⟩; unfold dueN; (repeat (first | rw [if_pos (by omega)] | rw [if_neg (by omega)] | rw [if_pos ⟨by omega, by omega, ne_true_of_eq_false (by assumption)⟩] | rw [if_neg (fun hh => absurd (eq_false_of_ne_true hh.2.2) (by assumption))])); try rfl; done)) | (rcases hD with ⟨hrow, hfin⟩ | ⟨hrow, hn⟩ | ⟨hrow, hc⟩ | ⟨hrow, hn⟩ <;> (first | (refine ⟨dueL_size hfin, _, congrArg (fun b => Value.bytes b _) ?_⟩; unfold dueL; (repeat (first | rw [if_pos (by with_reducible assumption)] | rw [if_neg (by with_reducible assumption)] | rw [if_neg (ne_true_of_eq_false (by with_reducible assumption))] | rw [if_neg (ne_true_of_eq_false (bneT (by with_reducible assumption)))] | rw [if_pos (bneF (by with_reducible assumption))] | rw [if_pos (by omega)] | rw [if_neg (by omega)])); try rfl; done) | (refine ⟨dueF_size, _, congrArg (fun b => Value.bytes b _) ?_⟩; unfold dueF; (repeat (first | rw [if_pos (by with_reducible assumption)] | rw [if_neg (by with_reducible assumption)] | rw [if_neg (ne_true_of_eq_false (by with_reducible assumption))] | rw [if_neg (ne_true_of_eq_false (bneT (by with_reducible assumption)))] | rw [if_pos (bneF (by with_reducible assumption))] | rw [if_pos (by omega)] | rw [if_neg (by omega)])); try rfl; done) | (refine ⟨dueS_size hpl, _, congrArg (fun b => Value.bytes b _) ?_⟩; unfold dueS; (repeat (first | rw [if_pos (by with_reducible assumption)] | rw [if_neg (by with_reducible assumption)] | rw [if_neg (ne_true_of_eq_false (by with_reducible assumption))] | rw [if_neg (ne_true_of_eq_false (bneT (by with_reducible assumption)))] | rw [if_pos (bneF (by with_reducible assumption))] | rw [if_pos (by omega)] | rw [if_neg (by omega)])); try rfl; done) | (refine ⟨dueN_size hpl, _, congrArg (fun b => Value.bytes b _) ?_⟩; unfold dueN; (repeat (first | rw [if_pos (by omega)] | rw [if_neg (by omega)] | rw [if_pos ⟨by omega, by omega, ne_true_of_eq_false (by assumption)⟩] | rw [if_neg (fun hh => absurd (eq_false_of_ne_true hh.2.2) (by assumption))])); try rfl; done)))))))
local macro_rules | `(tactic| k_mem) => `(tactic| (with_reducible first | exact updF_at (by assumption) _ | exact updF_keep (by assumption) (by assumption) (by assumption) _ | (refine mem_asMem ?_; first | exact updF_at (by assumption) _ | exact updF_keep (by assumption) (by assumption) (by assumption) _)))
local macro_rules | `(tactic| k_updF) => `(tactic| first | (with_reducible assumption) | (with_reducible exact updF_again (by assumption) _) | (refine' UpdF.tail ?uA ?uB; (case uA => first | exact sp_far (by assumption) (by assumption) | exact sp_far0 (by assumption) (by assumption) | exact sp_far0 (by assumption) (And.right (by assumption)) | exact sp_far0 (by assumption) (And.right (And.right (by assumption))) | exact sp_far0 (by assumption) (And.right (And.right (And.right (by assumption)))) | k_ne); (case uB => k_updF)))
theorem c_lkey {w : World} {mean : Mean} {mg mb : SMap} {news : Led} {cl sp wy : Addr} {ys : List Value} {ns : List Int} {at0 : Int} {ta : Tok} {k kw : Nat} {hc nl ba : Bool} {g : Obj → Led} (hcl : (cl, LCg.lst ys) ∈ news) (hys : IntsAre ys ns) (hyl : ys.length ≤ 40) (hsp : (sp, W.listOf #[.int at0 ta] k) ∈ news) (hU : UpdF sp (W.listOf #[.int at0 ta] k) news g) (ha : 0 ≤ at0 ∧ at0 < 900) (hne : @Ne Nat cl sp) (hwy : (wy, W.listOf #[.bool nl, .bool ba] kw) ∈ news) (hwn : @Ne Nat wy sp) :
    TriG w mean mg mb 3 411 [.ref cl, .ref sp, .bool hc, .ref wy] news g (IsKeyed w.params hc nl ba at0) := by
  w_top off
  intro dp un gd cn cs a ccd cl outer A₀ base h₀ L m s Q E B F X N T hk hd hu hret
  refine wpAny_call ?_
  k_dflt (refine' code_def ?k1 ?k2 ?k3 ?k4 ?k5 ?kA ?kF ?kK ?k6 ?k7 ?k8 ?k9 ?kB ?_ ?c2 ?c3 ?c4 ?c5; (case kA => exact rfl); (case kF => exact rfl); (case kK => assumption); (case k1 => k_asm); (case k2 => k_asm); (case k3 => k_asm); (case k4 => k_asm); (case k5 => k_asm); (case k6 => k_is); (case k7 => k_is); (case k8 => ktr_room); (case k9 => first | exact BindsTo.of_eq rfl | exact binds_K (by k_in) rfl (by k_is) rfl rfl rfl); (case c5 => decide); (case kB => exact locs rfl); (case c2 => exact rfl); (case c3 => exact rfl); (case c4 => exact rfl); k_whole; intro g' L' h' FG' F' N' B' X' T'; (try dsimp only); (try k_lift B'); (try k_fold))
  have ha0 : 0 ≤ at0 ∧ at0 < 1000 := by omega
  have ha1 : 0 ≤ at0 + 1 ∧ at0 + 1 < 1000 := by omega
  have ha2 : 0 ≤ at0 + 1 + 1 ∧ at0 + 1 + 1 < 1000 := by omega
  have ha3 : 0 ≤ at0 + 2 ∧ at0 + 2 < 1000 := by omega
  repeat ((fail_if_success (with_reducible refine cut_draws (Str.ofString "sort") (Str.ofString "held") g (at0 + 2) (fun v1 v2 => 0 ≤ v1 ∧ v1 < 8 ∧ 0 ≤ v2 ∧ v2 < 8) (by with_reducible assumption) ?_ ?_)); focus walk1)
  with_reducible refine cut_draws (Str.ofString "sort") (Str.ofString "held") g (at0 + 2) (fun v1 v2 => 0 ≤ v1 ∧ v1 < 8 ∧ 0 ≤ v2 ∧ v2 < 8) (by with_reducible assumption) ?_ ?_
  rotate_left
  intro h2' tk2' v1 t1 v2 t2 ta2 k2 F2' N2' p2'
  (try dsimp only)
  rcases bits8 p2'.1 p2'.2.1 with hv | hv | hv | hv | hv | hv | hv | hv <;> subst hv
  repeat ((fail_if_success (with_reducible refine cut_draw1 (st := Stmt.Assign [PySem.Expr.Name (Str.ofString "code") _] _ _) (Str.ofString "code") g (at0 + 3) (fun c => c = 97 ∨ c = 122 ∨ c = 109) (by with_reducible assumption) ?_ ?_)); focus walk1)
  with_reducible refine cut_draw1 (st := Stmt.Assign [PySem.Expr.Name (Str.ofString "code") _] _ _) (Str.ofString "code") g (at0 + 3) (fun c => c = 97 ∨ c = 122 ∨ c = 109) (by with_reducible assumption) ?_ ?_
  rotate_left
  intro h3x tk3x c3 tc3 ta3 k3 F3x N3x p3x
  (try dsimp only)
  (try dsimp only at p3x)
  have hcl3 : 0 ≤ c3 := by (rcases p3x with e | e | e <;> (subst e; decide))
  have hcu3 : c3 < 55296 := by (rcases p3x with e | e | e <;> (subst e; decide))
  repeat ((fail_if_success (with_reducible refine cut_int (st := Stmt.Assign [PySem.Expr.Name (Str.ofString "held") _] _ _) (Str.ofString "held") (fun v => (0 ≤ v ∧ v ≤ 7) ∧ (v % 2 = 1 → 4 ≤ v)) (by with_reducible assumption) (by with_reducible assumption) ?_ ?_)); focus walk1)
  with_reducible refine cut_int (st := Stmt.Assign [PySem.Expr.Name (Str.ofString "held") _] _ _) (Str.ofString "held") (fun v => (0 ≤ v ∧ v ≤ 7) ∧ (v % 2 = 1 → 4 ≤ v)) (by with_reducible assumption) (by with_reducible assumption) ?_ ?_
  rotate_left
  intro h4x tk4x t4 v4 F4x N4x p4x
  (try dsimp only)
  (try dsimp only at p4x)
  repeat ((fail_if_success (with_reducible refine cut_intr (st := Stmt.If _ _ _ _) (n := Str.ofString "held") (fun v => ((0 ≤ v ∧ v ≤ 7) ∧ (v % 2 = 1 → 4 ≤ v)) ∧ (hc = true ∨ v % 2 = 0)) (by with_reducible assumption) (by with_reducible assumption) ?_ ?_)); focus walk1)
  with_reducible refine cut_intr (st := Stmt.If _ _ _ _) (n := Str.ofString "held") (fun v => ((0 ≤ v ∧ v ≤ 7) ∧ (v % 2 = 1 → 4 ≤ v)) ∧ (hc = true ∨ v % 2 = 0)) (by with_reducible assumption) (by with_reducible assumption) ?_ ?_
  rotate_left
  intro h5x tk5x t5 v5 F5x N5x p5x
  (try dsimp only)
  (try dsimp only at p5x)
  repeat ((fail_if_success (with_reducible refine cut_one (st := Stmt.Assign [PySem.Expr.Name (Str.ofString "octet") _] _ _) (Str.ofString "octet") (if 4 ≤ v5 then byteArr [c3 % 32] else sigB c3) (by with_reducible assumption) (by with_reducible assumption) ?_ ?_)); focus walk1)
  with_reducible refine cut_one (st := Stmt.Assign [PySem.Expr.Name (Str.ofString "octet") _] _ _) (Str.ofString "octet") (if 4 ≤ v5 then byteArr [c3 % 32] else sigB c3) (by with_reducible assumption) (by with_reducible assumption) ?_ ?_
  rotate_left
  intro h6x tk6x t6 F6x N6x
  (try dsimp only)
  have hz6 := octK_size c3 v5
  rotate_left
  repeat ((fail_if_success (with_reducible refine cut_draw1 (st := Stmt.Assign [PySem.Expr.Name (Str.ofString "code") _] _ _) (Str.ofString "code") g (at0 + 3) (fun c => c = 65 ∨ c = 90 ∨ c = 77) (by with_reducible assumption) ?_ ?_)); focus walk1)
  with_reducible refine cut_draw1 (st := Stmt.Assign [PySem.Expr.Name (Str.ofString "code") _] _ _) (Str.ofString "code") g (at0 + 3) (fun c => c = 65 ∨ c = 90 ∨ c = 77) (by with_reducible assumption) ?_ ?_
  rotate_left
  intro h3x tk3x c3 tc3 ta3 k3 F3x N3x p3x
  (try dsimp only)
  (try dsimp only at p3x)
  have hcl3 : 0 ≤ c3 := by (rcases p3x with e | e | e <;> (subst e; decide))
  have hcu3 : c3 < 55296 := by (rcases p3x with e | e | e <;> (subst e; decide))
  repeat ((fail_if_success (with_reducible refine cut_int (st := Stmt.Assign [PySem.Expr.Name (Str.ofString "held") _] _ _) (Str.ofString "held") (fun v => v = 0 ∨ v = 2) (by with_reducible assumption) (by with_reducible assumption) ?_ ?_)); focus walk1)
  with_reducible refine cut_int (st := Stmt.Assign [PySem.Expr.Name (Str.ofString "held") _] _ _) (Str.ofString "held") (fun v => v = 0 ∨ v = 2) (by with_reducible assumption) (by with_reducible assumption) ?_ ?_
  rotate_left
  intro h4x tk4x t4 v4 F4x N4x p4x
  (try dsimp only)
  (try dsimp only at p4x)
  repeat ((fail_if_success (with_reducible refine cut_intr (st := Stmt.If _ _ _ _) (n := Str.ofString "held") (fun v => v = 0 ∨ v = 2) (by with_reducible assumption) (by with_reducible assumption) ?_ ?_)); focus walk1)
  with_reducible refine cut_intr (st := Stmt.If _ _ _ _) (n := Str.ofString "held") (fun v => v = 0 ∨ v = 2) (by with_reducible assumption) (by with_reducible assumption) ?_ ?_
  rotate_left
  intro h5x tk5x t5 v5 F5x N5x p5x
  (try dsimp only)
  (try dsimp only at p5x)
  repeat ((fail_if_success (with_reducible refine cut_one (st := Stmt.Assign [PySem.Expr.Name (Str.ofString "octet") _] _ _) (Str.ofString "octet") (sigB c3) (by with_reducible assumption) (by with_reducible assumption) ?_ ?_)); focus walk1)
  with_reducible refine cut_one (st := Stmt.Assign [PySem.Expr.Name (Str.ofString "octet") _] _ _) (Str.ofString "octet") (sigB c3) (by with_reducible assumption) (by with_reducible assumption) ?_ ?_
  rotate_left
  intro h6x tk6x t6 F6x N6x
  (try dsimp only)
  have hz6 := sigB_size c3
  rotate_left
  repeat ((fail_if_success (with_reducible refine cut_draw1 (st := Stmt.Assign [PySem.Expr.Name (Str.ofString "code") _] _ _) (Str.ofString "code") g (at0 + 3) (fun c => c = 48 ∨ c = 233 ∨ c = 12354 ∨ c = 33) (by with_reducible assumption) ?_ ?_)); focus walk1)
  with_reducible refine cut_draw1 (st := Stmt.Assign [PySem.Expr.Name (Str.ofString "code") _] _ _) (Str.ofString "code") g (at0 + 3) (fun c => c = 48 ∨ c = 233 ∨ c = 12354 ∨ c = 33) (by with_reducible assumption) ?_ ?_
  rotate_left
  intro h3x tk3x c3 tc3 ta3 k3 F3x N3x p3x
  (try dsimp only)
  (try dsimp only at p3x)
  have hcl3 : 0 ≤ c3 := by (rcases p3x with e | e | e | e <;> (subst e; decide))
  have hcu3 : c3 < 55296 := by (rcases p3x with e | e | e | e <;> (subst e; decide))
  repeat ((fail_if_success (with_reducible refine cut_int (st := Stmt.Assign [PySem.Expr.Name (Str.ofString "held") _] _ _) (Str.ofString "held") (fun v => 0 ≤ v ∧ v ≤ 7) (by with_reducible assumption) (by with_reducible assumption) ?_ ?_)); focus walk1)
  with_reducible refine cut_int (st := Stmt.Assign [PySem.Expr.Name (Str.ofString "held") _] _ _) (Str.ofString "held") (fun v => 0 ≤ v ∧ v ≤ 7) (by with_reducible assumption) (by with_reducible assumption) ?_ ?_
  rotate_left
  intro h4x tk4x t4 v4 F4x N4x p4x
  (try dsimp only)
  (try dsimp only at p4x)
  repeat ((fail_if_success (with_reducible refine cut_intr (st := Stmt.If _ _ _ _) (n := Str.ofString "held") (fun v => (0 ≤ v ∧ v ≤ 7) ∧ (hc = true ∨ v = 0 ∨ v = 2)) (by with_reducible assumption) (by with_reducible assumption) ?_ ?_)); focus walk1)
  with_reducible refine cut_intr (st := Stmt.If _ _ _ _) (n := Str.ofString "held") (fun v => (0 ≤ v ∧ v ≤ 7) ∧ (hc = true ∨ v = 0 ∨ v = 2)) (by with_reducible assumption) (by with_reducible assumption) ?_ ?_
  rotate_left
  intro h5x tk5x t5 v5 F5x N5x p5x
  (try dsimp only)
  (try dsimp only at p5x)
  repeat ((fail_if_success (with_reducible refine cut_one (st := Stmt.Assign [PySem.Expr.Name (Str.ofString "octet") _] _ _) (Str.ofString "octet") (sigB c3) (by with_reducible assumption) (by with_reducible assumption) ?_ ?_)); focus walk1)
  with_reducible refine cut_one (st := Stmt.Assign [PySem.Expr.Name (Str.ofString "octet") _] _ _) (Str.ofString "octet") (sigB c3) (by with_reducible assumption) (by with_reducible assumption) ?_ ?_
  rotate_left
  intro h6x tk6x t6 F6x N6x
  (try dsimp only)
  have hz6 := sigB_size c3
  rotate_left
  rotate_left
  rotate_left
  repeat ((fail_if_success (with_reducible refine cut_int (st := Stmt.Assign [PySem.Expr.Name (Str.ofString "held") _] _ _) (Str.ofString "held") (fun v => (0 ≤ v ∧ v ≤ 7) ∧ (hc = true ∨ v = 0)) (by with_reducible assumption) (by with_reducible assumption) ?_ ?_)); focus walk1)
  with_reducible refine cut_int (st := Stmt.Assign [PySem.Expr.Name (Str.ofString "held") _] _ _) (Str.ofString "held") (fun v => (0 ≤ v ∧ v ≤ 7) ∧ (hc = true ∨ v = 0)) (by with_reducible assumption) (by with_reducible assumption) ?_ ?_
  rotate_left
  intro h8x tk8x t8 v8 F8x N8x p8x
  (try dsimp only)
  (try dsimp only at p8x)
  rotate_left
  repeat ((fail_if_success (with_reducible refine cut_int (st := Stmt.Assign [PySem.Expr.Name (Str.ofString "held") _] _ _) (Str.ofString "held") (fun v => (0 ≤ v ∧ v ≤ 7) ∧ (hc = true ∨ v = 0)) (by with_reducible assumption) (by with_reducible assumption) ?_ ?_)); focus walk1)
  with_reducible refine cut_int (st := Stmt.Assign [PySem.Expr.Name (Str.ofString "held") _] _ _) (Str.ofString "held") (fun v => (0 ≤ v ∧ v ≤ 7) ∧ (hc = true ∨ v = 0)) (by with_reducible assumption) (by with_reducible assumption) ?_ ?_
  rotate_left
  intro h8x tk8x t8 v8 F8x N8x p8x
  (try dsimp only)
  (try dsimp only at p8x)
  repeat ((fail_if_success (with_reducible refine cut_draw1 (st := Stmt.Assign [PySem.Expr.Name (Str.ofString "at") _] _ _) (Str.ofString "at") g (at0 + 3) (fun v => (0 ≤ v ∧ v < 18) ∧ (hc = true ∨ v < 15)) (by with_reducible assumption) ?_ ?_)); focus walk1)
  with_reducible refine cut_draw1 (st := Stmt.Assign [PySem.Expr.Name (Str.ofString "at") _] _ _) (Str.ofString "at") g (at0 + 3) (fun v => (0 ≤ v ∧ v < 18) ∧ (hc = true ∨ v < 15)) (by with_reducible assumption) ?_ ?_
  rotate_left
  intro h7x tk7x v7 tc7 ta7 k7 F7x N7x p7x
  (try dsimp only)
  (try dsimp only at p7x)
  have hz7 := padP_size v7
  rotate_left
  all_goals (repeat' (first | ((with_reducible show wpAny _ _ (call (Value.ref 357) [Value.ref _, Value.ref _, Value.int _ _]) _ _ _); k_dflt (refine' TriG.use (c_draw ?p_hcl ?p_hys ?p_hyl ?p_hsp ?p_hU ?p_ha ?p_hm ?p_hne) ?k1 ?k2 ?k3 ?k4 ?k5 ?kK ?kd ?ku ?_; (case k1 => k_asm); (case k2 => k_asm); (case k3 => k_asm); (case k4 => k_asm); (case k5 => k_asm); (case kK => first | exact rfl | assumption); (case kd => ktr_room); (case ku => ktr_units); (case p_hcl => k_mem); (case p_hys => assumption); (case p_hyl => (first | omega | (rename _ = List.length (List.map _ (List.take 40 _)) => hl9; rw [List.length_map, List.length_take] at hl9; omega))); (case p_hsp => k_mem); (case p_hU => k_updF); (case p_ha => (first | with_reducible assumption | decide | exact le9 (by with_reducible assumption) | omega)); (case p_hm => (first | with_reducible assumption | decide | exact le9 (by with_reducible assumption) | omega)); (case p_hne => (first | assumption | k_ne | omega)); skip; intro r9 x9 q9 h9 tk9 hR F9 N9 l9; (obtain ⟨v9, t9, ta9, k9, e9, e8, e7, lo9, hi9⟩ := hR; subst e9; subst e8; subst e7; (try dsimp only [List.nil_append] at N9); clear l9; (try simp only [Int.reduceBEq, Bool.false_eq_true, reduceIte, Int.reduceAdd] at hi9)); (try dsimp only))) | ((with_reducible show wpAny _ _ (call (Value.ref 369) [Value.int _ _]) _ _ _); k_dflt (refine' Tri.use (c_lsigns ?p_h0 ?p_h1) ?k1 ?k2 ?k3 ?k4 ?k5 ?kK ?kd ?ku ?_; (case k1 => k_asm); (case k2 => k_asm); (case k3 => k_asm); (case k4 => k_asm); (case k5 => k_asm); (case kK => first | exact rfl | assumption); (case kd => ktr_room); (case ku => ktr_units); (case p_h0 => (first | with_reducible assumption | decide | exact le9 (by with_reducible assumption) | omega)); (case p_h1 => (first | with_reducible assumption | decide | exact le9 (by with_reducible assumption) | omega)); skip; intro r9 h9 tk9 hR F9 N9; (obtain ⟨hz9, t9, e9⟩ := hR; subst e9); (try dsimp only))) | ((with_reducible show wpAny _ _ (call (Value.ref 397) [Value.bytes _ _, Value.bool _, Value.bool _]) _ _ _); k_dflt (refine' Tri.use (c_lplain ?p_hnm) ?k1 ?k2 ?k3 ?k4 ?k5 ?kK ?kd ?ku ?_; (case k1 => k_asm); (case k2 => k_asm); (case k3 => k_asm); (case k4 => k_asm); (case k5 => k_asm); (case kK => first | exact rfl | assumption); (case kd => ktr_room); (case ku => ktr_units); (case p_hnm => assumption); skip; intro r9 h9 tk9 hR F9 N9; (obtain ⟨hz9, t9, e9⟩ := hR; subst e9); (try dsimp only))) | (with_reducible ((with_reducible show wpAny _ _ (subscriptTail _ (PySem.Expr.Slice _ _ none _) (Value.bytes padA _) (Value.ref _)) _ _ _); (refine' slice_pad (s := ⟨_, _, _, _, _⟩) ?spF ?spN ?spA ?spB ?_; (case spF => k_asm); (case spN => k_asm); (case spA => omega); (case spB => omega)); intro h8 t8 k8 F8 N8; (try dsimp only))) | (with_reducible ((with_reducible show wpAny _ _ (subscriptTail (PySem.Expr.Name (Str.ofString "ways") _) _ (Value.ref _) (Value.int _ _)) _ _ _); k_dflt (refine' PyProof.Rows.item_list (x := Value.bool _) ?il ?i0 ?i1 ?ix ?_; (case il => exact News.isList (by k_asm) (by k_mem)); (case i0 => decide); (case i1 => decide); (case ix => rfl)))) | (with_reducible ((with_reducible first | (show wpAny _ _ (subscriptTail (PySem.Expr.Name (Str.ofString "row") _) _ (Value.ref _) (Value.int _ _)) _ _ _; refine' pair_fst ?riN ?riF ?riX ?riR ?_ ?riS)); (case riS => with_unfolding_all rfl); (case riN => k_asm); (case riF => k_asm); (case riX => k_asm); (case riR => exact PairAt.nil (by with_reducible assumption)))) | (with_reducible ((with_reducible first | (refine' top_let ?trF ?trX ?trA ?trB ?_ ?trS) | (refine' top_fig ?trF ?trX ?trA ?trB ?_ ?trS) | (refine' top_cod ?trF ?trX ?trA ?trB ?_ ?trS)); (case trF => k_asm); (case trX => k_asm); (case trA => omega); (case trB => omega); (case trS => with_unfolding_all rfl); intro ra9 nm9 y9 tn9 tf9 hp9 hr9; (try intro hq9); (try dsimp only))) | (with_reducible ((with_reducible show wpAny _ _ (subscriptTail _ _ (Value.ref _) (Value.int _ _)) _ _ _); (fail_if_success (with_reducible refine (?_ : wpAny _ _ (subscriptTail _ _ (Value.ref _) (Value.int (OfNat.ofNat _) _)) _ _ _))); (with_reducible first | (refine sub3 (by omega) (by omega) ?_ ?_ ?_) | (refine sub4 (by omega) (by omega) ?_ ?_ ?_ ?_)))) | (with_reducible ((with_reducible show wpAny _ _ (subscriptTail _ _ (Value.ref _) (Value.int (OfNat.ofNat _) _)) _ _ _); k_dflt (first | (refine' item_tupleT (l := [_, _, _]) (x := Value.int _ _) (News.isTup ?itN ?itM) ?itA ?itB ?itJ ?itX ?_; (case itN => k_asm); (case itM => k_mem); (case itA => decide); (case itB => decide); (case itJ => rfl); (case itX => rfl)) | (refine' item_tupleT (l := [_, _, _]) (x := Value.ref _) (News.isTup ?itN ?itM) ?itA ?itB ?itJ ?itX ?_; (case itN => k_asm); (case itM => k_mem); (case itA => decide); (case itB => decide); (case itJ => rfl); (case itX => rfl)) | (refine' item_tupleT (l := [_, _, _, _]) (x := Value.int _ _) (News.isTup ?itN ?itM) ?itA ?itB ?itJ ?itX ?_; (case itN => k_asm); (case itM => k_mem); (case itA => decide); (case itB => decide); (case itJ => rfl); (case itX => rfl))))) | (with_reducible ((with_reducible first | (refine' cut_endI ?ceF ?ceN ?ceD ?ceP; (case ceF => with_reducible assumption)) | (refine' cut_endIr ?ceF ?ceN ?ceD ?ceP; (case ceF => with_reducible assumption))); (case ceN => with_reducible assumption); (case ceD => (intro p9 hp9; (repeat first | with_reducible exact hp9 | with_reducible refine List.mem_cons_of_mem _ ?_))); (case ceP => ((try dsimp only []); first | omega | ((try simp only [fd2, fm2, fd4, fm4]) <;> first | omega | (refine ⟨?_, ?_⟩ <;> first | omega | exact Or.inl (by with_reducible assumption) | exact Or.inl (eq_true_of_ne_false (by with_reducible assumption)) | exact Or.inr (by omega))))))) | (with_reducible (with_reducible refine' cut_endD1 ?ceF ?ceN ?ceD ?ceE ?ceP; (case ceF => with_reducible assumption); (case ceN => with_reducible assumption); (case ceD => (intro p9 hp9; (repeat first | with_reducible exact hp9 | with_reducible refine List.mem_cons_of_mem _ ?_))); (case ceE => omega); (case ceP => ((try dsimp only []); first | omega | ((try simp only [fd2, fm2, fd4, fm4]) <;> first | omega | (refine ⟨?_, ?_⟩ <;> first | omega | exact Or.inl (by with_reducible assumption) | exact Or.inl (eq_true_of_ne_false (by with_reducible assumption)) | exact Or.inr (by omega))))))) | (with_reducible (with_reducible refine' cut_endD ?ceF ?ceN ?ceD ?ceE ?ceP; (case ceF => with_reducible assumption); (case ceN => with_reducible assumption); (case ceD => (intro p9 hp9; (repeat first | with_reducible exact hp9 | with_reducible refine List.mem_cons_of_mem _ ?_))); (case ceE => omega); (case ceP => ((try dsimp only []); first | omega | ((try simp only [fd2, fm2, fd4, fm4]) <;> omega))))) | (with_reducible ((with_reducible show CutP _ _ (Flow.ret _) _); (unfold CutP); (try dsimp only))) | (with_reducible ((first | (with_reducible refine' cut_end0 ?ceF ?ceN ?ceD ?ceP; (case ceF => with_reducible assumption); (case ceN => with_reducible assumption)) | (with_reducible refine' cut_end1 ?ceF ?ceN ?ceD ?ceP; (case ceF => with_reducible assumption); (case ceN => with_reducible assumption)) | (with_reducible refine' cut_end1r ?ceF ?ceN ?ceD ?ceP; (case ceF => with_reducible assumption); (case ceN => with_reducible assumption)) | (with_reducible refine' cut_end2 ?ceF ?ceN ?ceD ?ceP; (case ceF => with_reducible assumption); (case ceN => with_reducible assumption)) | (with_reducible refine' cut_end3 ?ceF ?ceN ?ceD ?ceP; (case ceF => with_reducible assumption); (case ceN => with_reducible assumption))); (case ceD => (intro p9 hp9; (repeat first | with_reducible exact hp9 | with_reducible refine List.mem_cons_of_mem _ ?_))); (case ceP => first | (with_reducible exact rfl) | (simp only [fm32]; rw [if_pos (by omega)]; done) | (rw [if_neg (by omega)]; done) | with_reducible assumption | rfl | omega | (refine ⟨?_, ?_, ?_⟩ <;> first | rfl | (rw [Bool.eq_iff_iff]; (simp only [decide_eq_true_eq, Bool.false_eq_true, Bool.not_eq_true', decide_eq_false_iff_not, Bool.and_eq_true, Bool.or_eq_true, true_iff, iff_true, iff_false, false_iff, beq_iff_eq, fd8, fm2, fd2]) <;> omega)) | (refine ⟨?_, ?_⟩ <;> first | rfl | (rw [Bool.eq_iff_iff]; (simp only [decide_eq_true_eq, Bool.false_eq_true, Bool.not_eq_true', decide_eq_false_iff_not, Bool.and_eq_true, Bool.or_eq_true, true_iff, iff_true, iff_false, false_iff, beq_iff_eq, fd8, fm2, fd2]) <;> omega)) | fail "cut: its fact"))) | (with_reducible ((with_reducible show wpAny _ _ (binaryOp Operator.Add (Value.bytes _ _) (Value.bytes _ _)) _ _ _); (refine' KBy.add_bytes ?bsz ?_; (case bsz => ((try simp only [Array.size_append, List.size_toArray, List.length_cons, List.length_nil, byteArr_size]); omega))); intro _ _)) | (with_reducible ((with_reducible show wpAny _ _ (call (Value.type "bytes") [Value.ref _]) _ _ _); k_dflt (refine' KBa.make_K ?kbaF ?kbaN ?kbah ?kbal ?kbai ?kbar ?kban ?_; (case kbaF => k_asm); (case kbaN => k_asm); (case kbah => rfl); (case kbal => exact News.isList (by k_asm) (by k_mem)); (case kbai => repeat constructor); (case kbar => first | (intro q hq; simp only [List.mem_cons, List.not_mem_nil, or_false, fm10, fd10, fd64, fm64, fd4096, fm32] at hq; omega) | ((rename CodeOk _ => hc); (rcases hc with hc | hc | hc | hc | hc | hc | hc | hc | hc | hc) <;> (subst hc; first | (exfalso; omega) | (unfold KBa.In; decide +kernel)))); (case kban => kba_size)); intro _ _ _ F' N' _)) | (k_unfold; (try dsimp only)) | (k_end; kc_close) | walk1 | (dsimp only; walk1) | (leave1; walk_say "STEP leave1"; (try dsimp only)) | fail "no step"))
  all_goals ((first
    | (refine' hret (.ref _) [_] (spotO _ _ _) _ _ ?hR ?hF ?hN ?hO; (case hN => assumption); (case hF => k_asm); (case hO => exact one_lt (ord_all hU (by assumption))); (case hR => refine ⟨_, _, _, rfl, by omega, by omega, ?_⟩; first | exact KeyIs.letter (by assumption) (by assumption) ⟨by omega, by omega⟩ | exact KeyIs.figure (by assumption) (by assumption) ⟨by omega, by omega⟩ | exact KeyIs.coded (by assumption) (by assumption) p8x))
    | (refine' hret (.ref _) [_, _] (spotO _ _ _) _ _ ?hR ?hF ?hN ?hO; (case hN => assumption); (case hF => k_asm); (case hO => exact two_lt (ord_all hU (by assumption)) (And.left (by assumption))); (case hR => refine ⟨_, _, _, rfl, by omega, by omega, ?_⟩; first
      | exact KeyIs.pad (And.left (by assumption)) p7x.1 p7x.2 p8x (Or.inl ⟨by omega, rfl⟩)
      | exact KeyIs.pad (And.left (by assumption)) p7x.1 p7x.2 p8x (Or.inr ⟨by omega, rfl⟩)
      | exact KeyIs.sign (And.left (by assumption)) ⟨by omega, by omega, Or.inl ⟨p3x, by omega, p5x.2, by (refine congrArg (fun x => x ++ _) ?_; unfold esc; first | rw [if_pos (by omega)] | rw [if_neg (by omega)])⟩⟩
      | exact KeyIs.sign (And.left (by assumption)) ⟨by omega, by omega, Or.inr (Or.inl ⟨p3x, p5x, by (refine congrArg (fun x => x ++ _) ?_; unfold esc; first | rw [if_pos (by omega)] | rw [if_neg (by omega)])⟩)⟩
      | exact KeyIs.sign (And.left (by assumption)) ⟨by omega, by omega, Or.inr (Or.inr ⟨p3x, p5x.2, by (refine congrArg (fun x => x ++ _) ?_; unfold esc; first | rw [if_pos (by omega)] | rw [if_neg (by omega)])⟩)⟩))))
theorem c_modes {w : World} {mean : Mean} {mg mb : SMap} {news : Led}   :
    TriX w mean mg mb 2 309 [] news (IsModes w) := by
  w_top off
  intro dp un gd cn cs a ccd cl outer A₀ base h₀ L m s Q E B F X N T hk hd hu hret
  k_here
  k_dflt (refine' call_cls ?k1 ?k2 ?k3 ?k4 ?k5 ?k6 ?_; (case k1 => k_asm); (case k2 => k_asm); (case k3 => k_asm); (case k4 => k_is); (case k5 => k_is); (case k6 => k_is); k_whole; intro x' d' h' F' N' l1 l2; (try k_lt l1); (try k_lt2 l2); (try k_sweep))
  k_dflt (refine' code_def ?k1 ?k2 ?k3 ?k4 ?k5 ?kA ?kF ?kK ?k6 ?k7 ?k8 ?k9 ?kB ?_ ?c2 ?c3 ?c4 ?c5; (case kA => exact rfl); (case kF => exact rfl); (case kK => assumption); (case k1 => k_asm); (case k2 => k_asm); (case k3 => k_asm); (case k4 => k_asm); (case k5 => k_asm); (case k6 => k_is); (case k7 => k_is); (case k8 => ktr_room); (case k9 => first | exact BindsTo.of_eq rfl | exact binds_K (by k_in) rfl (by k_is) rfl rfl rfl); (case c5 => decide); (case kB => exact locs rfl); (case c2 => exact rfl); (case c3 => exact rfl); (case c4 => exact rfl); k_whole; intro g' L' h' FG' F' N' B' X' T'; (try dsimp only); (try k_lift B'); (try k_fold))
  (repeat' (first | (with_reducible ((with_reducible show wpAny _ _ (exec (Stmt.For _ _ _ _ _) _) _ _ _); ((rename Fr _ _ _ _ => lF'); (with_unfolding_all refine' For_turns lF' ?_; k_whole)))) | (((with_reducible show UnrEndW _ _ _ _ _ _); (refine' unr_end ?ueF ?ueN ?ueO ?_; (case ueF => assumption); (case ueN => assumption); (case ueO => first | assumption | exact allLt_of (by assumption) | exact And.right (by assumption))))) | (k_unfold; (try dsimp only)) | (k_end; kc_close) | walk1 | (dsimp only; walk1) | (leave1; walk_say "STEP leave1"; (try dsimp only)) | fail "no step"))
  all_goals ((refine' hret (.ref _) [_, _, _, _] _ _ ?hR ?hF ?hN ?hO; (case hN => assumption); (case hF => k_asm); (case hR => refine ⟨_, _, _, _, _, _, _, _, rfl, rfl, ⟨l2, by omega, by omega⟩, by assumption, by assumption⟩); (case hO => exact four_lt l1 ⟨l2, by omega, by omega⟩)))
theorem top_in {w : World} {A : Around} {E : Value → Shared → Prop} {s : Shared} {h₀ : Heap} {L a : Addr} {m : Str → Option Value} {x : Str} {u : Tok} {Q : Value → Shared → Prop} {l : List Value} {ys : List Str} {b : Bool}
    (F : Fr h₀ L s.heap m) (X : (Mine.hd.heap_1 w.params).In h₀) (hl : (Mine.hd.heap_1 w.params).lookup a = some (tupN l)) (hi : StrsAre l ys) (hb : ys.any (· == x) = b) (h : Q (.bool b) s) :
    wpAny (model PySem.Challenge.rw_pq1185_01.row.prog w) A (compareOp .In (.str x u) (.ref a)) Q E s := by
  subst hb
  exact in_tuple_strs (items := l.toArray) ⟨_, F.keep _ _ (X _ _ hl), rfl, 0, rfl⟩ hi h
def IsGroup (r : Value) (ex : Led) : Prop := ∃ a, r = .ref a ∧ ex = [(a, tupN [])]
theorem c_mgroup_newline {w : World} {mean : Mean} {mg mb : SMap} {news : Led} {tw : Tok}  :
    TriX w mean mg mb 1 278 [.str (Str.ofString "newline") tw] news (IsGroup) := by
  w_top off
  intro dp un gd cn cs a ccd cl outer A₀ base h₀ L m s Q E B F X N T hk hd hu hret
  refine wpAny_call ?_
  k_dflt (refine' code_def ?k1 ?k2 ?k3 ?k4 ?k5 ?kA ?kF ?kK ?k6 ?k7 ?k8 ?k9 ?kB ?_ ?c2 ?c3 ?c4 ?c5; (case kA => exact rfl); (case kF => exact rfl); (case kK => assumption); (case k1 => k_asm); (case k2 => k_asm); (case k3 => k_asm); (case k4 => k_asm); (case k5 => k_asm); (case k6 => k_is); (case k7 => k_is); (case k8 => ktr_room); (case k9 => first | exact BindsTo.of_eq rfl | exact binds_K (by k_in) rfl (by k_is) rfl rfl rfl); (case c5 => decide); (case kB => exact locs rfl); (case c2 => exact rfl); (case c3 => exact rfl); (case c4 => exact rfl); k_whole; intro g' L' h' FG' F' N' B' X' T'; (try dsimp only); (try k_lift B'); (try k_fold))
  (repeat' (first | (with_reducible ((with_reducible show wpAny _ _ (compareOp CmpOp.In (Value.str _ _) (Value.ref _)) _ _ _); (k_dflt (refine' top_in (b := false) ?tiF ?tiX ?tiL ?tiI ?tiB ?_; (case tiF => k_asm); (case tiX => k_asm); (case tiL => exact rfl); (case tiI => repeat constructor); (case tiB => decide))))) | (k_unfold; (try dsimp only)) | (k_end; kc_close) | walk1 | (dsimp only; walk1) | (leave1; walk_say "STEP leave1"; (try dsimp only)) | fail "no step"))
  all_goals ((refine' hret (.ref _) [_] _ _ ?hR ?hF ?hN (one_lt ?hL); (case hN => assumption); (case hF => k_asm); (case hL => assumption); (case hR => exact ⟨_, rfl, rfl⟩)))
theorem c_mgroup_backarrow {w : World} {mean : Mean} {mg mb : SMap} {news : Led} {tw : Tok}  :
    TriX w mean mg mb 1 278 [.str (Str.ofString "backarrow") tw] news (IsGroup) := by
  w_top off
  intro dp un gd cn cs a ccd cl outer A₀ base h₀ L m s Q E B F X N T hk hd hu hret
  refine wpAny_call ?_
  k_dflt (refine' code_def ?k1 ?k2 ?k3 ?k4 ?k5 ?kA ?kF ?kK ?k6 ?k7 ?k8 ?k9 ?kB ?_ ?c2 ?c3 ?c4 ?c5; (case kA => exact rfl); (case kF => exact rfl); (case kK => assumption); (case k1 => k_asm); (case k2 => k_asm); (case k3 => k_asm); (case k4 => k_asm); (case k5 => k_asm); (case k6 => k_is); (case k7 => k_is); (case k8 => ktr_room); (case k9 => first | exact BindsTo.of_eq rfl | exact binds_K (by k_in) rfl (by k_is) rfl rfl rfl); (case c5 => decide); (case kB => exact locs rfl); (case c2 => exact rfl); (case c3 => exact rfl); (case c4 => exact rfl); k_whole; intro g' L' h' FG' F' N' B' X' T'; (try dsimp only); (try k_lift B'); (try k_fold))
  (repeat' (first | (with_reducible ((with_reducible show wpAny _ _ (compareOp CmpOp.In (Value.str _ _) (Value.ref _)) _ _ _); (k_dflt (refine' top_in (b := false) ?tiF ?tiX ?tiL ?tiI ?tiB ?_; (case tiF => k_asm); (case tiX => k_asm); (case tiL => exact rfl); (case tiI => repeat constructor); (case tiB => decide))))) | (k_unfold; (try dsimp only)) | (k_end; kc_close) | walk1 | (dsimp only; walk1) | (leave1; walk_say "STEP leave1"; (try dsimp only)) | fail "no step"))
  all_goals ((refine' hret (.ref _) [_] _ _ ?hR ?hF ?hN (one_lt ?hL); (case hN => assumption); (case hF => k_asm); (case hL => assumption); (case hR => exact ⟨_, rfl, rfl⟩)))
def IsSet (w : World) (kvs : List (Str × Value)) (r : Value) (ex : Led) (o : Obj) : Prop := r = .none ∧ ex = [] ∧ o.IsDictOf (PySem.strKind PySem.Challenge.rw_pq1185_01.row.prog w) kvs
theorem c_mset_newline {w : World} {mean : Mean} {mg mb : SMap} {news : Led} {mo md sd kd : Addr} {m1 m2 : Tok} {so : Obj} {b : Bool} {tw : Tok} {g : Obj → Led} (hmo : (mo, instObj 309 md) ∈ news) (hmd : (md, modObj w.params m1 m2 sd kd) ∈ news) (hsd : (sd, so) ∈ news) (hlo : (sd == sysModules) = false) (hst : so.IsDictOf (PySem.strKind PySem.Challenge.rw_pq1185_01.row.prog w) [(Str.ofString "send_receive", .bool true), (Str.ofString "autowrap", .bool true), (Str.ofString "autorepeat", .bool true), (Str.ofString "show_cursor", .bool true), (Str.ofString "num_lock", .bool true)]) (hU : UpdF sd so news g) :
    TriG w mean mg mb 2 306 [.ref mo, .str (Str.ofString "newline") tw, .bool b] news g (IsSet w [(Str.ofString "send_receive", .bool true), (Str.ofString "autowrap", .bool true), (Str.ofString "autorepeat", .bool true), (Str.ofString "show_cursor", .bool true), (Str.ofString "num_lock", .bool true), (Str.ofString "newline", .bool b)]) := by
  w_top off
  intro dp un gd cn cs a ccd cl outer A₀ base h₀ L m s Q E B F X N T hk hd hu hret
  refine wpAny_call ?_
  k_dflt (refine' code_def ?k1 ?k2 ?k3 ?k4 ?k5 ?kA ?kF ?kK ?k6 ?k7 ?k8 ?k9 ?kB ?_ ?c2 ?c3 ?c4 ?c5; (case kA => exact rfl); (case kF => exact rfl); (case kK => assumption); (case k1 => k_asm); (case k2 => k_asm); (case k3 => k_asm); (case k4 => k_asm); (case k5 => k_asm); (case k6 => k_is); (case k7 => k_is); (case k8 => ktr_room); (case k9 => first | exact BindsTo.of_eq rfl | exact binds_K (by k_in) rfl (by k_is) rfl rfl rfl); (case c5 => decide); (case kB => exact locs rfl); (case c2 => exact rfl); (case c3 => exact rfl); (case c4 => exact rfl); k_whole; intro g' L' h' FG' F' N' B' X' T'; (try dsimp only); (try k_lift B'); (try k_fold))
  (repeat' (first | ((with_reducible show wpAny _ _ (call (Value.ref 278) [Value.str (Str.ofString "newline") _]) _ _ _); k_dflt (refine' TriX.use (c_mgroup_newline ) ?k1 ?k2 ?k3 ?k4 ?k5 ?kK ?kd ?ku ?_; (case k1 => k_asm); (case k2 => k_asm); (case k3 => k_asm); (case k4 => k_asm); (case k5 => k_asm); (case kK => first | exact rfl | assumption); (case kd => ktr_room); (case ku => ktr_units);  skip; intro r9 x9 h9 tk9 hR F9 N9 l9; (obtain ⟨a9, e9, e8⟩ := hR; subst e9; subst e8; (try simp only [List.nil_append, List.cons_append, List.mem_singleton, forall_eq] at N9 l9)); (try dsimp only))) | (with_reducible ((with_reducible show wpAny _ _ (exec (Stmt.For (PySem.Expr.Name (Str.ofString "other") _) _ _ _ _) _) _ _ _); (rename Fr _ _ _ _ => lF'); (with_unfolding_all refine' For_turns lF' ?_; k_whole))) | (with_reducible ((with_reducible show wpAny _ _ (setItem (Value.ref _) (Value.str _ _) _) _ _ _); (k_dflt (refine' kda_set (knd := PySem.strKind _ _) ?siF ?siN ?siU ?siD (strKind_is _ _ _ _) ?siZ ?_; (case siF => k_asm); (case siN => k_asm); (case siU => k_updF); (case siD => assumption); (case siZ => rw [sizeLine_eq]; exact Nat.le_of_ble_eq_true (by with_unfolding_all rfl))); intro h' o' F' N' hd'; (try dsimp only at N')))) | (k_unfold; (try dsimp only)) | (k_end; kc_close) | walk1 | (dsimp only; walk1) | (leave1; walk_say "STEP leave1"; (try dsimp only)) | fail "no step"))
  (k_dflt (refine' iter_tupTurns (vs := []) (n := 0) ?itH ?itF ?itN ?itM ?itC ?itD ?_))
  case itH => exact rfl
  case itF => k_asm
  case itN => k_asm
  case itM => exact .head _
  case itC => exact rfl
  case itD => exact rfl
  intro I9 hI9
  (with_unfolding_all refine ItemsRest.zero ?_)
  intro h8 tk8 F8 N8
  replace N8 := News.tail' N8
  (try dsimp only)
  all_goals (repeat' (first | ((with_reducible show wpAny _ _ (call (Value.ref 278) [Value.str (Str.ofString "newline") _]) _ _ _); k_dflt (refine' TriX.use (c_mgroup_newline ) ?k1 ?k2 ?k3 ?k4 ?k5 ?kK ?kd ?ku ?_; (case k1 => k_asm); (case k2 => k_asm); (case k3 => k_asm); (case k4 => k_asm); (case k5 => k_asm); (case kK => first | exact rfl | assumption); (case kd => ktr_room); (case ku => ktr_units);  skip; intro r9 x9 h9 tk9 hR F9 N9 l9; (obtain ⟨a9, e9, e8⟩ := hR; subst e9; subst e8; (try simp only [List.nil_append, List.cons_append, List.mem_singleton, forall_eq] at N9 l9)); (try dsimp only))) | (with_reducible ((with_reducible show wpAny _ _ (exec (Stmt.For (PySem.Expr.Name (Str.ofString "other") _) _ _ _ _) _) _ _ _); (rename Fr _ _ _ _ => lF'); (with_unfolding_all refine' For_turns lF' ?_; k_whole))) | (with_reducible ((with_reducible show wpAny _ _ (setItem (Value.ref _) (Value.str _ _) _) _ _ _); (k_dflt (refine' kda_set (knd := PySem.strKind _ _) ?siF ?siN ?siU ?siD (strKind_is _ _ _ _) ?siZ ?_; (case siF => k_asm); (case siN => k_asm); (case siU => k_updF); (case siD => assumption); (case siZ => rw [sizeLine_eq]; exact Nat.le_of_ble_eq_true (by with_unfolding_all rfl))); intro h' o' F' N' hd'; (try dsimp only at N')))) | (k_unfold; (try dsimp only)) | (k_end; kc_close) | walk1 | (dsimp only; walk1) | (leave1; walk_say "STEP leave1"; (try dsimp only)) | fail "no step"))
  all_goals ((refine' hret _ [] _ _ _ ?hR ?hF ?hN ?hO; (case hN => assumption); (case hF => k_asm); (case hR => exact ⟨rfl, rfl, by assumption⟩); (case hO => (intro p hp; exact absurd hp List.not_mem_nil))))
theorem c_mset_backarrow {w : World} {mean : Mean} {mg mb : SMap} {news : Led} {mo md sd kd : Addr} {m1 m2 : Tok} {so : Obj} {nl b : Bool} {tw : Tok} {g : Obj → Led} (hmo : (mo, instObj 309 md) ∈ news) (hmd : (md, modObj w.params m1 m2 sd kd) ∈ news) (hsd : (sd, so) ∈ news) (hlo : (sd == sysModules) = false) (hst : so.IsDictOf (PySem.strKind PySem.Challenge.rw_pq1185_01.row.prog w) [(Str.ofString "send_receive", .bool true), (Str.ofString "autowrap", .bool true), (Str.ofString "autorepeat", .bool true), (Str.ofString "show_cursor", .bool true), (Str.ofString "num_lock", .bool true), (Str.ofString "newline", .bool nl)]) (hU : UpdF sd so news g) :
    TriG w mean mg mb 2 306 [.ref mo, .str (Str.ofString "backarrow") tw, .bool b] news g (IsSet w [(Str.ofString "send_receive", .bool true), (Str.ofString "autowrap", .bool true), (Str.ofString "autorepeat", .bool true), (Str.ofString "show_cursor", .bool true), (Str.ofString "num_lock", .bool true), (Str.ofString "newline", .bool nl), (Str.ofString "backarrow", .bool b)]) := by
  w_top off
  intro dp un gd cn cs a ccd cl outer A₀ base h₀ L m s Q E B F X N T hk hd hu hret
  refine wpAny_call ?_
  k_dflt (refine' code_def ?k1 ?k2 ?k3 ?k4 ?k5 ?kA ?kF ?kK ?k6 ?k7 ?k8 ?k9 ?kB ?_ ?c2 ?c3 ?c4 ?c5; (case kA => exact rfl); (case kF => exact rfl); (case kK => assumption); (case k1 => k_asm); (case k2 => k_asm); (case k3 => k_asm); (case k4 => k_asm); (case k5 => k_asm); (case k6 => k_is); (case k7 => k_is); (case k8 => ktr_room); (case k9 => first | exact BindsTo.of_eq rfl | exact binds_K (by k_in) rfl (by k_is) rfl rfl rfl); (case c5 => decide); (case kB => exact locs rfl); (case c2 => exact rfl); (case c3 => exact rfl); (case c4 => exact rfl); k_whole; intro g' L' h' FG' F' N' B' X' T'; (try dsimp only); (try k_lift B'); (try k_fold))
  (repeat' (first | ((with_reducible show wpAny _ _ (call (Value.ref 278) [Value.str (Str.ofString "backarrow") _]) _ _ _); k_dflt (refine' TriX.use (c_mgroup_backarrow ) ?k1 ?k2 ?k3 ?k4 ?k5 ?kK ?kd ?ku ?_; (case k1 => k_asm); (case k2 => k_asm); (case k3 => k_asm); (case k4 => k_asm); (case k5 => k_asm); (case kK => first | exact rfl | assumption); (case kd => ktr_room); (case ku => ktr_units);  skip; intro r9 x9 h9 tk9 hR F9 N9 l9; (obtain ⟨a9, e9, e8⟩ := hR; subst e9; subst e8; (try simp only [List.nil_append, List.cons_append, List.mem_singleton, forall_eq] at N9 l9)); (try dsimp only))) | (with_reducible ((with_reducible show wpAny _ _ (exec (Stmt.For (PySem.Expr.Name (Str.ofString "other") _) _ _ _ _) _) _ _ _); (rename Fr _ _ _ _ => lF'); (with_unfolding_all refine' For_turns lF' ?_; k_whole))) | (with_reducible ((with_reducible show wpAny _ _ (setItem (Value.ref _) (Value.str _ _) _) _ _ _); (k_dflt (refine' kda_set (knd := PySem.strKind _ _) ?siF ?siN ?siU ?siD (strKind_is _ _ _ _) ?siZ ?_; (case siF => k_asm); (case siN => k_asm); (case siU => k_updF); (case siD => assumption); (case siZ => rw [sizeLine_eq]; exact Nat.le_of_ble_eq_true (by with_unfolding_all rfl))); intro h' o' F' N' hd'; (try dsimp only at N')))) | (k_unfold; (try dsimp only)) | (k_end; kc_close) | walk1 | (dsimp only; walk1) | (leave1; walk_say "STEP leave1"; (try dsimp only)) | fail "no step"))
  (k_dflt (refine' iter_tupTurns (vs := []) (n := 0) ?itH ?itF ?itN ?itM ?itC ?itD ?_))
  case itH => exact rfl
  case itF => k_asm
  case itN => k_asm
  case itM => exact .head _
  case itC => exact rfl
  case itD => exact rfl
  intro I9 hI9
  (with_unfolding_all refine ItemsRest.zero ?_)
  intro h8 tk8 F8 N8
  replace N8 := News.tail' N8
  (try dsimp only)
  all_goals (repeat' (first | ((with_reducible show wpAny _ _ (call (Value.ref 278) [Value.str (Str.ofString "backarrow") _]) _ _ _); k_dflt (refine' TriX.use (c_mgroup_backarrow ) ?k1 ?k2 ?k3 ?k4 ?k5 ?kK ?kd ?ku ?_; (case k1 => k_asm); (case k2 => k_asm); (case k3 => k_asm); (case k4 => k_asm); (case k5 => k_asm); (case kK => first | exact rfl | assumption); (case kd => ktr_room); (case ku => ktr_units);  skip; intro r9 x9 h9 tk9 hR F9 N9 l9; (obtain ⟨a9, e9, e8⟩ := hR; subst e9; subst e8; (try simp only [List.nil_append, List.cons_append, List.mem_singleton, forall_eq] at N9 l9)); (try dsimp only))) | (with_reducible ((with_reducible show wpAny _ _ (exec (Stmt.For (PySem.Expr.Name (Str.ofString "other") _) _ _ _ _) _) _ _ _); (rename Fr _ _ _ _ => lF'); (with_unfolding_all refine' For_turns lF' ?_; k_whole))) | (with_reducible ((with_reducible show wpAny _ _ (setItem (Value.ref _) (Value.str _ _) _) _ _ _); (k_dflt (refine' kda_set (knd := PySem.strKind _ _) ?siF ?siN ?siU ?siD (strKind_is _ _ _ _) ?siZ ?_; (case siF => k_asm); (case siN => k_asm); (case siU => k_updF); (case siD => assumption); (case siZ => rw [sizeLine_eq]; exact Nat.le_of_ble_eq_true (by with_unfolding_all rfl))); intro h' o' F' N' hd'; (try dsimp only at N')))) | (k_unfold; (try dsimp only)) | (k_end; kc_close) | walk1 | (dsimp only; walk1) | (leave1; walk_say "STEP leave1"; (try dsimp only)) | fail "no step"))
  all_goals ((refine' hret _ [] _ _ _ ?hR ?hF ?hN ?hO; (case hN => assumption); (case hF => k_asm); (case hR => exact ⟨rfl, rfl, by assumption⟩); (case hO => (intro p hp; exact absurd hp List.not_mem_nil))))
theorem fr_bindL {h₀ h : Heap} {L : Addr} {k : Str → Option NameKind} {binds : List (Str × Value)} {m : Str → Option Value} {n : Str} {v : Value} (F : Fr h₀ L h (bindL k binds m)) (hb : binds = [(n, v)]) (hk : k n = some .local) : Fr h₀ L h (fun y => if y = n then some v else m y) := by
  subst hb
  have e : bindL k [(n, v)] m = fun y => if y = n then some v else m y := by
    show (if k n = some .local then fun y => if y = n then some v else m y else m) = _
    rw [if_pos hk]
  rw [← e]
  exact F
/-- what is left to show behind the law's first statement -/
def H1 (scope : Scope) (body : List Stmt) : Prop := ∀ (L a : Addr) (ccd : Value) (Q : Flow → Shared → Prop) (E : Value → Shared → Prop) (w : World) (mean : Mean) (mg mb : SMap) (h₀ : Heap) (s : Shared) (sl : Value) (cl sp : Addr) (t0 : Tok) (ys : List Value) (ns : List Int) (o1 o2 : Obj),
      Fr h₀ L s.heap (fun y => if y = Str.ofString "script" then some sl else none) → News h₀ L s.heap [(sp, W.listOf #[.int 0 t0] 0), (cl, LCg.lst ys), (L + 1 + 1, o2), (L + 1, o1)] → Below callerA h₀ [] h₀ → (Mine.hd.heap_1 w.params).In h₀ → Top Mine.vw (looseW Mine.vw [Str.ofString "Key"]) mean mg mb h₀ →
      o1.data = .cell (some (.ref cl)) → o2.data = .cell (some (.ref sp)) → (@Ne Nat (L + 1 + 1) cl ∧ @Ne Nat (L + 1) cl) → (@LT.lt Nat _ cl sp ∧ @LT.lt Nat _ (L + 1 + 1) sp ∧ @LT.lt Nat _ (L + 1) sp) → IntsAre ys ns → ys.length ≤ 40 →
      PassesOwn (model PySem.Challenge.rw_pq1185_01.row.prog w) (callerA.deeper (envOfC (Str.ofString "law") scope L a ccd)) (envOfC (Str.ofString "law") scope L a ccd) E →
      (∀ h' tk' m' news', Fr h₀ L h' m' → News h₀ L h' news' → Q (.ret (.bool true)) { s with heap := h', toks := tk' }) →
      wpAny (model PySem.Challenge.rw_pq1185_01.row.prog w) (callerA.deeper (envOfC (Str.ofString "law") scope L a ccd)) (execs body (envOfC (Str.ofString "law") scope L a ccd)) Q E s
theorem law_clean {scope : Scope} {body : List Stmt} {L a : Addr} {ccd : Value} {Q : Flow → Shared → Prop} {E : Value → Shared → Prop} {w : World} {mean : Mean} {mg mb : SMap} {h₀ h : Heap} {s₁ : Shared} {tk : Nat} {sl : Value} {cl sp : Addr} {t0 : Tok} {ys : List Value} {ns : List Int} {o1 o2 : Obj} {news : Led}
    (F : Fr h₀ L h (fun y => if y = Str.ofString "script" then some sl else none)) (N : News h₀ L h news) (K0 : Below callerA h₀ [] h₀) (KX : (Mine.hd.heap_1 w.params).In h₀) (T : Top Mine.vw (looseW Mine.vw [Str.ofString "Key"]) mean mg mb h₀)
    (q1 : (sp, W.listOf #[.int 0 t0] 0) ∈ news) (q2 : (cl, LCg.lst ys) ∈ news) (q3 : (L + 1 + 1, o2) ∈ news) (q4 : (L + 1, o1) ∈ news) (d1 : o1.data = .cell (some (.ref cl))) (d2 : o2.data = .cell (some (.ref sp))) (l1 : @Ne Nat (L + 1 + 1) cl) (l1' : @Ne Nat (L + 1) cl) (l2 : @LT.lt Nat _ cl sp) (l3 : @LT.lt Nat _ (L + 1 + 1) sp) (hys : IntsAre ys ns) (hyl : ys.length ≤ 40)
    (hE : PassesOwn (model PySem.Challenge.rw_pq1185_01.row.prog w) (callerA.deeper (envOfC (Str.ofString "law") scope L a ccd)) (envOfC (Str.ofString "law") scope L a ccd) E)
    (hQ : ∀ h' tk' m' news', Fr h₀ L h' m' → News h₀ L h' news' → Q (.ret (.bool true)) { s₁ with heap := h', toks := tk' })
    (H : H1 scope body) :
    wpAny (model PySem.Challenge.rw_pq1185_01.row.prog w) (callerA.deeper (envOfC (Str.ofString "law") scope L a ccd)) (execs body (envOfC (Str.ofString "law") scope L a ccd)) Q E { s₁ with heap := h, toks := tk } :=
  H L a ccd Q E w mean mg mb h₀ { s₁ with heap := h, toks := tk } sl cl sp t0 ys ns o1 o2 F (fun p hp => N p (by
    rcases List.mem_cons.mp hp with e | hp
    · rw [e]; exact q1
    · rcases List.mem_cons.mp hp with e | hp
      · rw [e]; exact q2
      · rcases List.mem_cons.mp hp with e | hp
        · rw [e]; exact q3
        · rw [List.mem_singleton.mp hp]; exact q4)) K0 KX T d1 d2 ⟨l1, l1'⟩ ⟨l2, l3, Nat.lt_trans (Nat.lt_succ_self (L + 1)) l3⟩ hys hyl hE hQ
theorem ltN {ex news : Led} (h : ∀ p ∈ ex, ∀ q ∈ news, q.1 < p.1) : ∀ p ∈ ex, ∀ q ∈ news, @LT.lt Nat _ q.1 p.1 := h
def Far (L cl sp md mo sd kd wy : Nat) : Prop := (L + 1 + 1 ≠ cl ∧ L + 1 ≠ cl ∧ cl < sp ∧ L + 1 + 1 < sp ∧ L + 1 < sp) ∧ (sp < md ∧ md < mo ∧ mo < sd ∧ sd < kd) ∧ wy ≠ kd ∧ wy ≠ sd ∧ wy ≠ mo ∧ wy ≠ md ∧ wy ≠ sp ∧ wy ≠ cl ∧ wy ≠ L + 1 + 1 ∧ wy ≠ L + 1
/-- what the law's frame has made, from its third statement on -/
abbrev ledC (w : World) (wy kd sd mo md sp cl L : Addr) (b1 b2 : Bool) (kw : Nat) (ko so : Obj) (m1 m2 : Tok) (n : Int) (ta : Tok) (ks : Nat) (ys : List Value) (o2 o1 : Obj) : Led :=
  [(wy, W.listOf #[.bool b1, .bool b2] kw), (kd, ko), (sd, so), (mo, instObj 309 md), (md, modObj w.params m1 m2 sd kd), (sp, spotO n ta ks), (cl, LCg.lst ys), (L + 1 + 1, o2), (L + 1, o1)]
/-- what the law's frame has made, from its second statement on -/
abbrev ledB (w : World) (kd sd mo md sp cl L : Addr) (ko so : Obj) (m1 m2 : Tok) (n : Int) (ta : Tok) (ks : Nat) (ys : List Value) (o2 o1 : Obj) : Led :=
  [(kd, ko), (sd, so), (mo, instObj 309 md), (md, modObj w.params m1 m2 sd kd), (sp, spotO n ta ks), (cl, LCg.lst ys), (L + 1 + 1, o2), (L + 1, o1)]
abbrev FarB (L cl sp md mo sd kd : Nat) : Prop := (L + 1 + 1 ≠ cl ∧ L + 1 ≠ cl ∧ cl < sp ∧ L + 1 + 1 < sp ∧ L + 1 < sp) ∧ (sp < md ∧ md < mo ∧ mo < sd ∧ sd < kd)
/-- what is left to show behind the law's second statement -/
def H15 (scope : Scope) (body : List Stmt) : Prop := ∀ (L a : Addr) (ccd : Value) (Q : Flow → Shared → Prop) (E : Value → Shared → Prop) (w : World) (mean : Mean) (mg mb : SMap) (h₀ : Heap) (s : Shared) (sl : Value) (kd sd mo md sp cl : Addr) (ko so : Obj) (m1 m2 : Tok) (ta : Tok) (ks : Nat) (ys : List Value) (ns : List Int) (o1 o2 : Obj) (f : Int) (tf : Tok),
      Fr h₀ L s.heap (fun y => if y = Str.ofString "flags" then some (.int f tf) else if y = Str.ofString "modes" then some (.ref mo) else if y = Str.ofString "script" then some sl else none) →
      News h₀ L s.heap (ledB w kd sd mo md sp cl L ko so m1 m2 1 ta ks ys o2 o1) →
      Below callerA h₀ [] h₀ → (Mine.hd.heap_1 w.params).In h₀ → Top Mine.vw (looseW Mine.vw [Str.ofString "Key"]) mean mg mb h₀ →
      1 ≤ f ∧ f ≤ 31 → FarB L cl sp md mo sd kd → o1.data = .cell (some (.ref cl)) → o2.data = .cell (some (.ref sp)) → IntsAre ys ns → ys.length ≤ 40 →
      (sd == sysModules) = false → so.IsDictOf (PySem.strKind PySem.Challenge.rw_pq1185_01.row.prog w) [(Str.ofString "send_receive", .bool true), (Str.ofString "autowrap", .bool true), (Str.ofString "autorepeat", .bool true), (Str.ofString "show_cursor", .bool true), (Str.ofString "num_lock", .bool true)] →
      PassesOwn (model PySem.Challenge.rw_pq1185_01.row.prog w) (callerA.deeper (envOfC (Str.ofString "law") scope L a ccd)) (envOfC (Str.ofString "law") scope L a ccd) E →
      (∀ h' tk' m' news', Fr h₀ L h' m' → News h₀ L h' news' → Q (.ret (.bool true)) { s with heap := h', toks := tk' }) →
      wpAny (model PySem.Challenge.rw_pq1185_01.row.prog w) (callerA.deeper (envOfC (Str.ofString "law") scope L a ccd)) (execs body (envOfC (Str.ofString "law") scope L a ccd)) Q E s
theorem h15_go {scope : Scope} {body : List Stmt} {L a : Addr} {ccd : Value} {Q : Flow → Shared → Prop} {E : Value → Shared → Prop} {w : World} {mean : Mean} {mg mb : SMap} {h₀ : Heap} {s : Shared} {sl : Value} {kd sd mo md sp cl : Addr} {ko so : Obj} {m1 m2 : Tok} {n1 : Int} {ta : Tok} {ks : Nat} {ys : List Value} {ns : List Int} {o1 o2 : Obj} {f : Int} {tf : Tok} {jk : Addr × Obj}
    (H : H15 scope body) (F : Fr h₀ L s.heap (fun y => if y = Str.ofString "flags" then some (.int f tf) else if y = Str.ofString "modes" then some (.ref mo) else if y = Str.ofString "script" then some sl else none))
    (N : News h₀ L s.heap (jk :: ledB w kd sd mo md sp cl L ko so m1 m2 n1 ta ks ys o2 o1)) (e1 : n1 = 1) (K0 : Below callerA h₀ [] h₀) (KX : (Mine.hd.heap_1 w.params).In h₀) (T : Top Mine.vw (looseW Mine.vw [Str.ofString "Key"]) mean mg mb h₀)
    (hf : 1 ≤ f ∧ f ≤ 31) (far : FarB L cl sp md mo sd kd) (d1 : o1.data = .cell (some (.ref cl))) (d2 : o2.data = .cell (some (.ref sp))) (hys : IntsAre ys ns) (hyl : ys.length ≤ 40)
    (hlo : (sd == sysModules) = false) (hst : so.IsDictOf (PySem.strKind PySem.Challenge.rw_pq1185_01.row.prog w) [(Str.ofString "send_receive", .bool true), (Str.ofString "autowrap", .bool true), (Str.ofString "autorepeat", .bool true), (Str.ofString "show_cursor", .bool true), (Str.ofString "num_lock", .bool true)])
    (hE : PassesOwn (model PySem.Challenge.rw_pq1185_01.row.prog w) (callerA.deeper (envOfC (Str.ofString "law") scope L a ccd)) (envOfC (Str.ofString "law") scope L a ccd) E)
    (hQ : ∀ h' tk' m' news', Fr h₀ L h' m' → News h₀ L h' news' → Q (.ret (.bool true)) { s with heap := h', toks := tk' }) :
    wpAny (model PySem.Challenge.rw_pq1185_01.row.prog w) (callerA.deeper (envOfC (Str.ofString "law") scope L a ccd)) (execs body (envOfC (Str.ofString "law") scope L a ccd)) Q E s := by
  subst e1
  exact H _ _ _ _ _ _ _ _ _ _ _ _ _ _ _ _ _ _ _ _ _ _ _ _ _ _ _ _ _ _ F (fun p hp => N p (.tail _ hp)) K0 KX T hf far d1 d2 hys hyl hlo hst hE hQ
/-- what is left to show behind the law's third statement -/
def H2 (scope : Scope) (body : List Stmt) : Prop := ∀ (L a : Addr) (ccd : Value) (Q : Flow → Shared → Prop) (E : Value → Shared → Prop) (w : World) (mean : Mean) (mg mb : SMap) (h₀ : Heap) (s : Shared) (sl : Value) (wy kd sd mo md sp cl : Addr) (b1 b2 : Bool) (kw : Nat) (ko so : Obj) (m1 m2 : Tok) (ta : Tok) (ks : Nat) (ys : List Value) (ns : List Int) (o1 o2 : Obj) (f : Int) (tf : Tok),
      Fr h₀ L s.heap (fun y => if y = Str.ofString "ways" then some (.ref wy) else if y = Str.ofString "flags" then some (.int f tf) else if y = Str.ofString "modes" then some (.ref mo) else if y = Str.ofString "script" then some sl else none) →
      News h₀ L s.heap [(wy, W.listOf #[.bool b1, .bool b2] kw), (kd, ko), (sd, so), (mo, instObj 309 md), (md, modObj w.params m1 m2 sd kd), (sp, W.listOf #[.int 3 ta] ks), (cl, LCg.lst ys), (L + 1 + 1, o2), (L + 1, o1)] →
      Below callerA h₀ [] h₀ → (Mine.hd.heap_1 w.params).In h₀ → Top Mine.vw (looseW Mine.vw [Str.ofString "Key"]) mean mg mb h₀ →
      1 ≤ f ∧ f ≤ 31 → Far L cl sp md mo sd kd wy → o1.data = .cell (some (.ref cl)) → o2.data = .cell (some (.ref sp)) → IntsAre ys ns → ys.length ≤ 40 →
      (sd == sysModules) = false → so.IsDictOf (PySem.strKind PySem.Challenge.rw_pq1185_01.row.prog w) [(Str.ofString "send_receive", .bool true), (Str.ofString "autowrap", .bool true), (Str.ofString "autorepeat", .bool true), (Str.ofString "show_cursor", .bool true), (Str.ofString "num_lock", .bool true)] →
      PassesOwn (model PySem.Challenge.rw_pq1185_01.row.prog w) (callerA.deeper (envOfC (Str.ofString "law") scope L a ccd)) (envOfC (Str.ofString "law") scope L a ccd) E →
      (∀ h' tk' m' news', Fr h₀ L h' m' → News h₀ L h' news' → Q (.ret (.bool true)) { s with heap := h', toks := tk' }) →
      wpAny (model PySem.Challenge.rw_pq1185_01.row.prog w) (callerA.deeper (envOfC (Str.ofString "law") scope L a ccd)) (execs body (envOfC (Str.ofString "law") scope L a ccd)) Q E s
theorem law_clean2 {scope : Scope} {body : List Stmt} {L a : Addr} {ccd : Value} {Q : Flow → Shared → Prop} {E : Value → Shared → Prop} {w : World} {mean : Mean} {mg mb : SMap} {h₀ h : Heap} {s₁ : Shared} {tk : Nat} {sl : Value} {wy kd sd mo md sp cl : Addr} {b1 b2 : Bool} {ko so : Obj} {m1 m2 : Tok} {n3 : Int} {ta : Tok} {ks : Nat} {ys : List Value} {ns : List Int} {o1 o2 : Obj} {f : Int} {tf : Tok}
    (F : Fr h₀ L h (fun z => if z = Str.ofString "ways" then some (.ref wy) else (fun y => if y = Str.ofString "flags" then some (.int f tf) else if y = Str.ofString "modes" then some (.ref mo) else if y = Str.ofString "script" then some sl else none) z))
    (N : News h₀ L h ((wy, LCg.lst [.bool b1, .bool b2]) :: (kd, ko) :: (sd, so) :: (mo, instObj 309 md) :: (md, modObj w.params m1 m2 sd kd) :: (sp, W.listOf #[.int n3 ta] ks) :: (cl, LCg.lst ys) :: (L + 1 + 1, o2) :: [(L + 1, o1)]))
    (K0 : Below callerA h₀ [] h₀) (KX : (Mine.hd.heap_1 w.params).In h₀) (T : Top Mine.vw (looseW Mine.vw [Str.ofString "Key"]) mean mg mb h₀)
    (e3 : n3 = 3) (hf : 1 ≤ f ∧ f ≤ 31) (far : Far L cl sp md mo sd kd wy) (d1 : o1.data = .cell (some (.ref cl))) (d2 : o2.data = .cell (some (.ref sp))) (hys : IntsAre ys ns) (hyl : ys.length ≤ 40)
    (hlo : (sd == sysModules) = false) (hst : so.IsDictOf (PySem.strKind PySem.Challenge.rw_pq1185_01.row.prog w) [(Str.ofString "send_receive", .bool true), (Str.ofString "autowrap", .bool true), (Str.ofString "autorepeat", .bool true), (Str.ofString "show_cursor", .bool true), (Str.ofString "num_lock", .bool true)])
    (hE : PassesOwn (model PySem.Challenge.rw_pq1185_01.row.prog w) (callerA.deeper (envOfC (Str.ofString "law") scope L a ccd)) (envOfC (Str.ofString "law") scope L a ccd) E)
    (hQ : ∀ h' tk' m' news', Fr h₀ L h' m' → News h₀ L h' news' → Q (.ret (.bool true)) { s₁ with heap := h', toks := tk' })
    (H : H2 scope body) :
    wpAny (model PySem.Challenge.rw_pq1185_01.row.prog w) (callerA.deeper (envOfC (Str.ofString "law") scope L a ccd)) (execs body (envOfC (Str.ofString "law") scope L a ccd)) Q E { s₁ with heap := h, toks := tk } := by
  subst e3
  exact H L a ccd Q E w mean mg mb h₀ { s₁ with heap := h, toks := tk } sl wy kd sd mo md sp cl b1 b2 2 ko so m1 m2 ta ks ys ns o1 o2 f tf F N K0 KX T hf far d1 d2 hys hyl hlo hst hE hQ
local macro_rules | `(tactic| k_qdec) => `(tactic| kernel_rfl)
noncomputable def lawA1 : { p : Scope × List Stmt // H1 p.1 p.2 → PySem.Challenge.rw_pq1185_01.Holds } := by
  refine' ⟨(_, _), ?lawA1⟩
  case lawA1 =>
  intro HH
  refine Mine.tp_of Mine.hd Mine.tp_left ?_
  k_go0
  (rename Fr _ _ _ _ => FF)
  have F2 := fr_bindL FF rfl rfl
  clear FF
  all_goals try k_fold
  (iterate 37 (try (focus (first | (k_unfold; (try dsimp only)) | (k_end; wrow_close) | walk1 | (dsimp only; walk1) | (leave1; walk_say "STEP leave1"; try dsimp only)))))
  refine' law_clean ?lcF ?lcN ?lcK ?lcX ?lcT ?lc1 ?lc2 ?lc3 ?lc4 ?lcA ?lcB ?lc5 ?lc6 ?lc7 ?lc8 ?lcI ?lcL ?lcE ?lcQ ?lcH
  case lcF => assumption
  case lcN => assumption
  case lcK => assumption
  case lcX => assumption
  case lcT => assumption
  case lc1 => exact .tail _ (.head _)
  case lc2 => exact .tail _ (.tail _ (.head _))
  case lc3 => exact .tail _ (.tail _ (.tail _ (.tail _ (.head _))))
  case lc4 => exact .tail _ (.tail _ (.tail _ (.tail _ (.tail _ (.head _)))))
  case lcA => assumption
  case lcB => assumption
  case lc5 => omega
  case lc6 => omega
  case lc7 => omega
  case lc8 => omega
  case lcI => assumption
  case lcL => (rename _ = List.length (List.map _ (List.take 40 _)) => hl9; rw [List.length_map, List.length_take] at hl9; omega)
  case lcE => passes_own
  case lcQ => (intro h8 tk8 m8 n8 F8 N8; k_end; wrow_close)
  case lcH => exact HH
noncomputable def lawA2 : { p : Scope × List Stmt // H15 p.1 p.2 → H1 lawA1.1.1 lawA1.1.2 } := by
  w_top off
  refine' ⟨(_, _), ?lawA2⟩
  case lawA2 =>
  intro HH
  unfold lawA1
  dsimp only
  intro L a ccd Q E w mean mg mb h₀ s sl cl sp t0 ys ns o1 o2 F2 N2 K0 KX T d1 d2 l1 l2 hys hyl hE hQ
  (iterate 34 (focus (first | (k_unfold; (try dsimp only)) | (first | ((with_reducible show wpAny _ _ (call (Value.ref 309) _) _ _ _); k_dflt (refine' TriX.use (c_modes ) ?k1 ?k2 ?k3 ?k4 ?k5 ?kK ?kd ?ku ?_; (case k1 => k_asm); (case k2 => k_asm); (case k3 => k_asm); (case k4 => k_asm); (case k5 => k_asm); (case kK => first | exact rfl | assumption); (case kd => ktr_room); (case ku => ktr_units);  skip; intro r9 x9 h9 tk9 hR F9 N9 l9; (obtain ⟨mo9, md9, sd9, kd9, m19, m29, so9, ko9, e9, e8, o9, lo9, hd9⟩ := hR; subst e9; subst e8; have l8 := ltN l9; clear l9; (try simp only [List.nil_append, List.cons_append, List.mem_cons, List.not_mem_nil, or_false, forall_eq_or_imp, forall_eq] at N9 l8)); (try dsimp only))) | ((with_reducible show wpAny _ _ (call (Value.ref 357) [Value.ref _, Value.ref _, Value.int _ _]) _ _ _); k_dflt (refine' TriG.use (c_draw ?p_hcl ?p_hys ?p_hyl ?p_hsp ?p_hU ?p_ha ?p_hm ?p_hne) ?k1 ?k2 ?k3 ?k4 ?k5 ?kK ?kd ?ku ?_; (case k1 => k_asm); (case k2 => k_asm); (case k3 => k_asm); (case k4 => k_asm); (case k5 => k_asm); (case kK => first | exact rfl | assumption); (case kd => ktr_room); (case ku => ktr_units); (case p_hcl => k_mem); (case p_hys => assumption); (case p_hyl => (first | omega | (rename _ = List.length (List.map _ (List.take 40 _)) => hl9; rw [List.length_map, List.length_take] at hl9; omega))); (case p_hsp => k_mem); (case p_hU => k_updF); (case p_ha => (first | with_reducible assumption | decide | exact le9 (by with_reducible assumption) | omega)); (case p_hm => (first | with_reducible assumption | decide | exact le9 (by with_reducible assumption) | omega)); (case p_hne => (first | assumption | k_ne | omega)); skip; intro r9 x9 q9 h9 tk9 hR F9 N9 l9; (obtain ⟨v9, t9, ta9, k9, e9, e8, e7, lo9, hi9⟩ := hR; subst e9; subst e8; subst e7; (try dsimp only [List.nil_append] at N9); clear l9; (try simp only [Int.reduceBEq, Bool.false_eq_true, reduceIte, Int.reduceAdd] at hi9)); (try dsimp only))) | walk1) | (dsimp only; (first | ((with_reducible show wpAny _ _ (call (Value.ref 309) _) _ _ _); k_dflt (refine' TriX.use (c_modes ) ?k1 ?k2 ?k3 ?k4 ?k5 ?kK ?kd ?ku ?_; (case k1 => k_asm); (case k2 => k_asm); (case k3 => k_asm); (case k4 => k_asm); (case k5 => k_asm); (case kK => first | exact rfl | assumption); (case kd => ktr_room); (case ku => ktr_units);  skip; intro r9 x9 h9 tk9 hR F9 N9 l9; (obtain ⟨mo9, md9, sd9, kd9, m19, m29, so9, ko9, e9, e8, o9, lo9, hd9⟩ := hR; subst e9; subst e8; have l8 := ltN l9; clear l9; (try simp only [List.nil_append, List.cons_append, List.mem_cons, List.not_mem_nil, or_false, forall_eq_or_imp, forall_eq] at N9 l8)); (try dsimp only))) | ((with_reducible show wpAny _ _ (call (Value.ref 357) [Value.ref _, Value.ref _, Value.int _ _]) _ _ _); k_dflt (refine' TriG.use (c_draw ?p_hcl ?p_hys ?p_hyl ?p_hsp ?p_hU ?p_ha ?p_hm ?p_hne) ?k1 ?k2 ?k3 ?k4 ?k5 ?kK ?kd ?ku ?_; (case k1 => k_asm); (case k2 => k_asm); (case k3 => k_asm); (case k4 => k_asm); (case k5 => k_asm); (case kK => first | exact rfl | assumption); (case kd => ktr_room); (case ku => ktr_units); (case p_hcl => k_mem); (case p_hys => assumption); (case p_hyl => (first | omega | (rename _ = List.length (List.map _ (List.take 40 _)) => hl9; rw [List.length_map, List.length_take] at hl9; omega))); (case p_hsp => k_mem); (case p_hU => k_updF); (case p_ha => (first | with_reducible assumption | decide | exact le9 (by with_reducible assumption) | omega)); (case p_hm => (first | with_reducible assumption | decide | exact le9 (by with_reducible assumption) | omega)); (case p_hne => (first | assumption | k_ne | omega)); skip; intro r9 x9 q9 h9 tk9 hR F9 N9 l9; (obtain ⟨v9, t9, ta9, k9, e9, e8, e7, lo9, hi9⟩ := hR; subst e9; subst e8; subst e7; (try dsimp only [List.nil_append] at N9); clear l9; (try simp only [Int.reduceBEq, Bool.false_eq_true, reduceIte, Int.reduceAdd] at hi9)); (try dsimp only))) | walk1)))))
  rename_i F9 N9
  refine' h15_go ?ldH F9 N9 ?ld1 K0 KX T ?ldf ?ldr d1 d2 hys hyl ?ldl ?lds hE hQ
  case ld1 => rfl
  case ldf => omega
  case ldr => exact ⟨⟨l1.1, l1.2, l2.1, l2.2.1, l2.2.2⟩, by omega, by omega, by omega, by omega⟩
  case ldl => assumption
  case lds => assumption
  case ldH => exact HH
local macro_rules | `(tactic| walk_at "CompSrc") => `(tactic| (k_here; k_dflt (refine LCg.CompSrc.range (n := 2) (by rfl) (by k_asm) (by k_asm) (by assumption) (by first | decide | rfl) (by first | rfl | decide) (by first | size_fits | exact Nat.le_of_ble_eq_true rfl) ?_; intro g'; lcg_lit)))
local macro_rules | `(tactic| k_ne) => `(tactic| (refine neN ?_; (try dsimp only); first | with_reducible assumption | exact Ne.symm (by with_reducible assumption) | omega))
noncomputable def lawA : { p : Scope × List Stmt // H2 p.1 p.2 → H15 lawA2.1.1 lawA2.1.2 } := by
  w_top off
  refine' ⟨(_, _), ?lawA⟩
  case lawA =>
  intro HH
  unfold lawA2
  dsimp only
  intro L a ccd Q E w mean mg mb h₀ s sl kd sd mo md sp cl ko so m1 m2 ta ks ys ns o1 o2 f tf F2 N2 K0 KX T hf far d1 d2 hys hyl hlo hst hE hQ
  obtain ⟨⟨f1, f2, f3, f4, f5⟩, f6, f7, f8, f9⟩ := far
  have q1 : @Ne Nat cl sp := Nat.ne_of_lt f3
  have q2 : @Ne Nat (L + 1 + 1) sp := Nat.ne_of_lt f4
  have q3 : @Ne Nat (L + 1) sp := Nat.ne_of_lt f5
  have q4 : @Ne Nat md sp := Nat.ne_of_gt f6
  have q5 : @Ne Nat mo sp := Nat.ne_of_gt (Nat.lt_trans f6 f7)
  have q6 : @Ne Nat sd sp := Nat.ne_of_gt (Nat.lt_trans (Nat.lt_trans f6 f7) f8)
  have q7 : @Ne Nat kd sp := Nat.ne_of_gt (Nat.lt_trans (Nat.lt_trans (Nat.lt_trans f6 f7) f8) f9)
  repeat ((fail_if_success (with_reducible refine (?_ : wpAny _ _ (call (Value.ref _) _) _ _ _))); focus (first | (k_unfold; (try dsimp only)) | (first | ((with_reducible show wpAny _ _ (call (Value.ref 357) [Value.ref _, Value.ref _, Value.int _ _]) _ _ _); k_dflt (refine' TriG.use (c_draw ?p_hcl ?p_hys ?p_hyl ?p_hsp ?p_hU ?p_ha ?p_hm ?p_hne) ?k1 ?k2 ?k3 ?k4 ?k5 ?kK ?kd ?ku ?_; (case k1 => k_asm); (case k2 => k_asm); (case k3 => k_asm); (case k4 => k_asm); (case k5 => k_asm); (case kK => first | exact rfl | assumption); (case kd => ktr_room); (case ku => ktr_units); (case p_hcl => k_mem); (case p_hys => assumption); (case p_hyl => (first | omega | (rename _ = List.length (List.map _ (List.take 40 _)) => hl9; rw [List.length_map, List.length_take] at hl9; omega))); (case p_hsp => k_mem); (case p_hU => k_updF); (case p_ha => (first | with_reducible assumption | decide | exact le9 (by with_reducible assumption) | omega)); (case p_hm => (first | with_reducible assumption | decide | exact le9 (by with_reducible assumption) | omega)); (case p_hne => (first | assumption | k_ne | omega)); skip; intro r9 x9 q9 h9 tk9 hR F9 N9 l9; (obtain ⟨v9, t9, ta9, k9, e9, e8, e7, lo9, hi9⟩ := hR; subst e9; subst e8; subst e7; (try dsimp only [List.nil_append] at N9); clear l9; (try simp only [Int.reduceBEq, Bool.false_eq_true, reduceIte, Int.reduceAdd] at hi9)); (try dsimp only))) | (with_reducible ((with_reducible show wpAny _ _ (exec (Stmt.Assign [PySem.Expr.Name (Str.ofString "ways") _] _ _) _) _ _ _); k_dflt (refine LCg.Assign_ListComp_U (F₀ := by k_asm) (by rfl) (by with_unfolding_all rfl) (by rfl) (by decide) (by rfl) (by decide) (by rfl) (by rfl) (by rfl) ?_); k_dflt lcg_toSrc)) | walk1) | (dsimp only; (first | ((with_reducible show wpAny _ _ (call (Value.ref 357) [Value.ref _, Value.ref _, Value.int _ _]) _ _ _); k_dflt (refine' TriG.use (c_draw ?p_hcl ?p_hys ?p_hyl ?p_hsp ?p_hU ?p_ha ?p_hm ?p_hne) ?k1 ?k2 ?k3 ?k4 ?k5 ?kK ?kd ?ku ?_; (case k1 => k_asm); (case k2 => k_asm); (case k3 => k_asm); (case k4 => k_asm); (case k5 => k_asm); (case kK => first | exact rfl | assumption); (case kd => ktr_room); (case ku => ktr_units); (case p_hcl => k_mem); (case p_hys => assumption); (case p_hyl => (first | omega | (rename _ = List.length (List.map _ (List.take 40 _)) => hl9; rw [List.length_map, List.length_take] at hl9; omega))); (case p_hsp => k_mem); (case p_hU => k_updF); (case p_ha => (first | with_reducible assumption | decide | exact le9 (by with_reducible assumption) | omega)); (case p_hm => (first | with_reducible assumption | decide | exact le9 (by with_reducible assumption) | omega)); (case p_hne => (first | assumption | k_ne | omega)); skip; intro r9 x9 q9 h9 tk9 hR F9 N9 l9; (obtain ⟨v9, t9, ta9, k9, e9, e8, e7, lo9, hi9⟩ := hR; subst e9; subst e8; subst e7; (try dsimp only [List.nil_append] at N9); clear l9; (try simp only [Int.reduceBEq, Bool.false_eq_true, reduceIte, Int.reduceAdd] at hi9)); (try dsimp only))) | (with_reducible ((with_reducible show wpAny _ _ (exec (Stmt.Assign [PySem.Expr.Name (Str.ofString "ways") _] _ _) _) _ _ _); k_dflt (refine LCg.Assign_ListComp_U (F₀ := by k_asm) (by rfl) (by with_unfolding_all rfl) (by rfl) (by decide) (by rfl) (by decide) (by rfl) (by rfl) (by rfl) ?_); k_dflt lcg_toSrc)) | walk1))))
  (rename (_ ∧ _ ∧ _) ∧ (_ ∧ _ ∧ _) ∧ (_ ∧ _ ∧ _) ∧ (_ ∧ _ ∧ _) ∧ _ => off9)
  obtain ⟨⟨a1, a2, a3⟩, ⟨a4, a5, a6⟩, ⟨a7, a8, a9⟩, ⟨aa, ab, ac⟩, ⟨ad, ae, af⟩, ⟨ag, ah, ai⟩, ⟨aj, ak, al⟩, am, an, ao⟩ := off9
  (iterate 1 (focus (first | (k_unfold; (try dsimp only)) | (first | ((with_reducible show wpAny _ _ (call (Value.ref 357) [Value.ref _, Value.ref _, Value.int _ _]) _ _ _); k_dflt (refine' TriG.use (c_draw ?p_hcl ?p_hys ?p_hyl ?p_hsp ?p_hU ?p_ha ?p_hm ?p_hne) ?k1 ?k2 ?k3 ?k4 ?k5 ?kK ?kd ?ku ?_; (case k1 => k_asm); (case k2 => k_asm); (case k3 => k_asm); (case k4 => k_asm); (case k5 => k_asm); (case kK => first | exact rfl | assumption); (case kd => ktr_room); (case ku => ktr_units); (case p_hcl => k_mem); (case p_hys => assumption); (case p_hyl => (first | omega | (rename _ = List.length (List.map _ (List.take 40 _)) => hl9; rw [List.length_map, List.length_take] at hl9; omega))); (case p_hsp => k_mem); (case p_hU => k_updF); (case p_ha => (first | with_reducible assumption | decide | exact le9 (by with_reducible assumption) | omega)); (case p_hm => (first | with_reducible assumption | decide | exact le9 (by with_reducible assumption) | omega)); (case p_hne => (first | assumption | k_ne | omega)); skip; intro r9 x9 q9 h9 tk9 hR F9 N9 l9; (obtain ⟨v9, t9, ta9, k9, e9, e8, e7, lo9, hi9⟩ := hR; subst e9; subst e8; subst e7; (try dsimp only [List.nil_append] at N9); clear l9; (try simp only [Int.reduceBEq, Bool.false_eq_true, reduceIte, Int.reduceAdd] at hi9)); (try dsimp only))) | (with_reducible ((with_reducible show wpAny _ _ (exec (Stmt.Assign [PySem.Expr.Name (Str.ofString "ways") _] _ _) _) _ _ _); k_dflt (refine LCg.Assign_ListComp_U (F₀ := by k_asm) (by rfl) (by with_unfolding_all rfl) (by rfl) (by decide) (by rfl) (by decide) (by rfl) (by rfl) (by rfl) ?_); k_dflt lcg_toSrc)) | walk1) | (dsimp only; (first | ((with_reducible show wpAny _ _ (call (Value.ref 357) [Value.ref _, Value.ref _, Value.int _ _]) _ _ _); k_dflt (refine' TriG.use (c_draw ?p_hcl ?p_hys ?p_hyl ?p_hsp ?p_hU ?p_ha ?p_hm ?p_hne) ?k1 ?k2 ?k3 ?k4 ?k5 ?kK ?kd ?ku ?_; (case k1 => k_asm); (case k2 => k_asm); (case k3 => k_asm); (case k4 => k_asm); (case k5 => k_asm); (case kK => first | exact rfl | assumption); (case kd => ktr_room); (case ku => ktr_units); (case p_hcl => k_mem); (case p_hys => assumption); (case p_hyl => (first | omega | (rename _ = List.length (List.map _ (List.take 40 _)) => hl9; rw [List.length_map, List.length_take] at hl9; omega))); (case p_hsp => k_mem); (case p_hU => k_updF); (case p_ha => (first | with_reducible assumption | decide | exact le9 (by with_reducible assumption) | omega)); (case p_hm => (first | with_reducible assumption | decide | exact le9 (by with_reducible assumption) | omega)); (case p_hne => (first | assumption | k_ne | omega)); skip; intro r9 x9 q9 h9 tk9 hR F9 N9 l9; (obtain ⟨v9, t9, ta9, k9, e9, e8, e7, lo9, hi9⟩ := hR; subst e9; subst e8; subst e7; (try dsimp only [List.nil_append] at N9); clear l9; (try simp only [Int.reduceBEq, Bool.false_eq_true, reduceIte, Int.reduceAdd] at hi9)); (try dsimp only))) | (with_reducible ((with_reducible show wpAny _ _ (exec (Stmt.Assign [PySem.Expr.Name (Str.ofString "ways") _] _ _) _) _ _ _); k_dflt (refine LCg.Assign_ListComp_U (F₀ := by k_asm) (by rfl) (by with_unfolding_all rfl) (by rfl) (by decide) (by rfl) (by decide) (by rfl) (by rfl) (by rfl) ?_); k_dflt lcg_toSrc)) | walk1)))))
  repeat ((fail_if_success (with_reducible refine (?_ : wpAny _ _ (call (Value.ref _) _) _ _ _))); focus (first | (k_unfold; (try dsimp only)) | (first | ((with_reducible show wpAny _ _ (call (Value.ref 357) [Value.ref _, Value.ref _, Value.int _ _]) _ _ _); k_dflt (refine' TriG.use (c_draw ?p_hcl ?p_hys ?p_hyl ?p_hsp ?p_hU ?p_ha ?p_hm ?p_hne) ?k1 ?k2 ?k3 ?k4 ?k5 ?kK ?kd ?ku ?_; (case k1 => k_asm); (case k2 => k_asm); (case k3 => k_asm); (case k4 => k_asm); (case k5 => k_asm); (case kK => first | exact rfl | assumption); (case kd => ktr_room); (case ku => ktr_units); (case p_hcl => k_mem); (case p_hys => assumption); (case p_hyl => (first | omega | (rename _ = List.length (List.map _ (List.take 40 _)) => hl9; rw [List.length_map, List.length_take] at hl9; omega))); (case p_hsp => k_mem); (case p_hU => k_updF); (case p_ha => (first | with_reducible assumption | decide | exact le9 (by with_reducible assumption) | omega)); (case p_hm => (first | with_reducible assumption | decide | exact le9 (by with_reducible assumption) | omega)); (case p_hne => (first | assumption | k_ne | omega)); skip; intro r9 x9 q9 h9 tk9 hR F9 N9 l9; (obtain ⟨v9, t9, ta9, k9, e9, e8, e7, lo9, hi9⟩ := hR; subst e9; subst e8; subst e7; (try dsimp only [List.nil_append] at N9); clear l9; (try simp only [Int.reduceBEq, Bool.false_eq_true, reduceIte, Int.reduceAdd] at hi9)); (try dsimp only))) | (with_reducible ((with_reducible show wpAny _ _ (exec (Stmt.Assign [PySem.Expr.Name (Str.ofString "ways") _] _ _) _) _ _ _); k_dflt (refine LCg.Assign_ListComp_U (F₀ := by k_asm) (by rfl) (by with_unfolding_all rfl) (by rfl) (by decide) (by rfl) (by decide) (by rfl) (by rfl) (by rfl) ?_); k_dflt lcg_toSrc)) | walk1) | (dsimp only; (first | ((with_reducible show wpAny _ _ (call (Value.ref 357) [Value.ref _, Value.ref _, Value.int _ _]) _ _ _); k_dflt (refine' TriG.use (c_draw ?p_hcl ?p_hys ?p_hyl ?p_hsp ?p_hU ?p_ha ?p_hm ?p_hne) ?k1 ?k2 ?k3 ?k4 ?k5 ?kK ?kd ?ku ?_; (case k1 => k_asm); (case k2 => k_asm); (case k3 => k_asm); (case k4 => k_asm); (case k5 => k_asm); (case kK => first | exact rfl | assumption); (case kd => ktr_room); (case ku => ktr_units); (case p_hcl => k_mem); (case p_hys => assumption); (case p_hyl => (first | omega | (rename _ = List.length (List.map _ (List.take 40 _)) => hl9; rw [List.length_map, List.length_take] at hl9; omega))); (case p_hsp => k_mem); (case p_hU => k_updF); (case p_ha => (first | with_reducible assumption | decide | exact le9 (by with_reducible assumption) | omega)); (case p_hm => (first | with_reducible assumption | decide | exact le9 (by with_reducible assumption) | omega)); (case p_hne => (first | assumption | k_ne | omega)); skip; intro r9 x9 q9 h9 tk9 hR F9 N9 l9; (obtain ⟨v9, t9, ta9, k9, e9, e8, e7, lo9, hi9⟩ := hR; subst e9; subst e8; subst e7; (try dsimp only [List.nil_append] at N9); clear l9; (try simp only [Int.reduceBEq, Bool.false_eq_true, reduceIte, Int.reduceAdd] at hi9)); (try dsimp only))) | (with_reducible ((with_reducible show wpAny _ _ (exec (Stmt.Assign [PySem.Expr.Name (Str.ofString "ways") _] _ _) _) _ _ _); k_dflt (refine LCg.Assign_ListComp_U (F₀ := by k_asm) (by rfl) (by with_unfolding_all rfl) (by rfl) (by decide) (by rfl) (by decide) (by rfl) (by rfl) (by rfl) ?_); k_dflt lcg_toSrc)) | walk1))))
  (rename (_ ∧ _ ∧ _) ∧ (_ ∧ _ ∧ _) ∧ (_ ∧ _ ∧ _) ∧ (_ ∧ _ ∧ _) ∧ _ => off9)
  obtain ⟨⟨a1, a2, a3⟩, ⟨a4, a5, a6⟩, ⟨a7, a8, a9⟩, ⟨aa, ab, ac⟩, ⟨ad, ae, af⟩, ⟨ag, ah, ai⟩, ⟨aj, ak, al⟩, am, an, ao⟩ := off9
  (iterate 1 (focus (first | (k_unfold; (try dsimp only)) | (first | ((with_reducible show wpAny _ _ (call (Value.ref 357) [Value.ref _, Value.ref _, Value.int _ _]) _ _ _); k_dflt (refine' TriG.use (c_draw ?p_hcl ?p_hys ?p_hyl ?p_hsp ?p_hU ?p_ha ?p_hm ?p_hne) ?k1 ?k2 ?k3 ?k4 ?k5 ?kK ?kd ?ku ?_; (case k1 => k_asm); (case k2 => k_asm); (case k3 => k_asm); (case k4 => k_asm); (case k5 => k_asm); (case kK => first | exact rfl | assumption); (case kd => ktr_room); (case ku => ktr_units); (case p_hcl => k_mem); (case p_hys => assumption); (case p_hyl => (first | omega | (rename _ = List.length (List.map _ (List.take 40 _)) => hl9; rw [List.length_map, List.length_take] at hl9; omega))); (case p_hsp => k_mem); (case p_hU => k_updF); (case p_ha => (first | with_reducible assumption | decide | exact le9 (by with_reducible assumption) | omega)); (case p_hm => (first | with_reducible assumption | decide | exact le9 (by with_reducible assumption) | omega)); (case p_hne => (first | assumption | k_ne | omega)); skip; intro r9 x9 q9 h9 tk9 hR F9 N9 l9; (obtain ⟨v9, t9, ta9, k9, e9, e8, e7, lo9, hi9⟩ := hR; subst e9; subst e8; subst e7; (try dsimp only [List.nil_append] at N9); clear l9; (try simp only [Int.reduceBEq, Bool.false_eq_true, reduceIte, Int.reduceAdd] at hi9)); (try dsimp only))) | (with_reducible ((with_reducible show wpAny _ _ (exec (Stmt.Assign [PySem.Expr.Name (Str.ofString "ways") _] _ _) _) _ _ _); k_dflt (refine LCg.Assign_ListComp_U (F₀ := by k_asm) (by rfl) (by with_unfolding_all rfl) (by rfl) (by decide) (by rfl) (by decide) (by rfl) (by rfl) (by rfl) ?_); k_dflt lcg_toSrc)) | walk1) | (dsimp only; (first | ((with_reducible show wpAny _ _ (call (Value.ref 357) [Value.ref _, Value.ref _, Value.int _ _]) _ _ _); k_dflt (refine' TriG.use (c_draw ?p_hcl ?p_hys ?p_hyl ?p_hsp ?p_hU ?p_ha ?p_hm ?p_hne) ?k1 ?k2 ?k3 ?k4 ?k5 ?kK ?kd ?ku ?_; (case k1 => k_asm); (case k2 => k_asm); (case k3 => k_asm); (case k4 => k_asm); (case k5 => k_asm); (case kK => first | exact rfl | assumption); (case kd => ktr_room); (case ku => ktr_units); (case p_hcl => k_mem); (case p_hys => assumption); (case p_hyl => (first | omega | (rename _ = List.length (List.map _ (List.take 40 _)) => hl9; rw [List.length_map, List.length_take] at hl9; omega))); (case p_hsp => k_mem); (case p_hU => k_updF); (case p_ha => (first | with_reducible assumption | decide | exact le9 (by with_reducible assumption) | omega)); (case p_hm => (first | with_reducible assumption | decide | exact le9 (by with_reducible assumption) | omega)); (case p_hne => (first | assumption | k_ne | omega)); skip; intro r9 x9 q9 h9 tk9 hR F9 N9 l9; (obtain ⟨v9, t9, ta9, k9, e9, e8, e7, lo9, hi9⟩ := hR; subst e9; subst e8; subst e7; (try dsimp only [List.nil_append] at N9); clear l9; (try simp only [Int.reduceBEq, Bool.false_eq_true, reduceIte, Int.reduceAdd] at hi9)); (try dsimp only))) | (with_reducible ((with_reducible show wpAny _ _ (exec (Stmt.Assign [PySem.Expr.Name (Str.ofString "ways") _] _ _) _) _ _ _); k_dflt (refine LCg.Assign_ListComp_U (F₀ := by k_asm) (by rfl) (by with_unfolding_all rfl) (by rfl) (by decide) (by rfl) (by decide) (by rfl) (by rfl) (by rfl) ?_); k_dflt lcg_toSrc)) | walk1)))))
  (iterate 6 (focus (first | (k_unfold; (try dsimp only)) | (first | ((with_reducible show wpAny _ _ (call (Value.ref 357) [Value.ref _, Value.ref _, Value.int _ _]) _ _ _); k_dflt (refine' TriG.use (c_draw ?p_hcl ?p_hys ?p_hyl ?p_hsp ?p_hU ?p_ha ?p_hm ?p_hne) ?k1 ?k2 ?k3 ?k4 ?k5 ?kK ?kd ?ku ?_; (case k1 => k_asm); (case k2 => k_asm); (case k3 => k_asm); (case k4 => k_asm); (case k5 => k_asm); (case kK => first | exact rfl | assumption); (case kd => ktr_room); (case ku => ktr_units); (case p_hcl => k_mem); (case p_hys => assumption); (case p_hyl => (first | omega | (rename _ = List.length (List.map _ (List.take 40 _)) => hl9; rw [List.length_map, List.length_take] at hl9; omega))); (case p_hsp => k_mem); (case p_hU => k_updF); (case p_ha => (first | with_reducible assumption | decide | exact le9 (by with_reducible assumption) | omega)); (case p_hm => (first | with_reducible assumption | decide | exact le9 (by with_reducible assumption) | omega)); (case p_hne => (first | assumption | k_ne | omega)); skip; intro r9 x9 q9 h9 tk9 hR F9 N9 l9; (obtain ⟨v9, t9, ta9, k9, e9, e8, e7, lo9, hi9⟩ := hR; subst e9; subst e8; subst e7; (try dsimp only [List.nil_append] at N9); clear l9; (try simp only [Int.reduceBEq, Bool.false_eq_true, reduceIte, Int.reduceAdd] at hi9)); (try dsimp only))) | (with_reducible ((with_reducible show wpAny _ _ (exec (Stmt.Assign [PySem.Expr.Name (Str.ofString "ways") _] _ _) _) _ _ _); k_dflt (refine LCg.Assign_ListComp_U (F₀ := by k_asm) (by rfl) (by with_unfolding_all rfl) (by rfl) (by decide) (by rfl) (by decide) (by rfl) (by rfl) (by rfl) ?_); k_dflt lcg_toSrc)) | walk1) | (dsimp only; (first | ((with_reducible show wpAny _ _ (call (Value.ref 357) [Value.ref _, Value.ref _, Value.int _ _]) _ _ _); k_dflt (refine' TriG.use (c_draw ?p_hcl ?p_hys ?p_hyl ?p_hsp ?p_hU ?p_ha ?p_hm ?p_hne) ?k1 ?k2 ?k3 ?k4 ?k5 ?kK ?kd ?ku ?_; (case k1 => k_asm); (case k2 => k_asm); (case k3 => k_asm); (case k4 => k_asm); (case k5 => k_asm); (case kK => first | exact rfl | assumption); (case kd => ktr_room); (case ku => ktr_units); (case p_hcl => k_mem); (case p_hys => assumption); (case p_hyl => (first | omega | (rename _ = List.length (List.map _ (List.take 40 _)) => hl9; rw [List.length_map, List.length_take] at hl9; omega))); (case p_hsp => k_mem); (case p_hU => k_updF); (case p_ha => (first | with_reducible assumption | decide | exact le9 (by with_reducible assumption) | omega)); (case p_hm => (first | with_reducible assumption | decide | exact le9 (by with_reducible assumption) | omega)); (case p_hne => (first | assumption | k_ne | omega)); skip; intro r9 x9 q9 h9 tk9 hR F9 N9 l9; (obtain ⟨v9, t9, ta9, k9, e9, e8, e7, lo9, hi9⟩ := hR; subst e9; subst e8; subst e7; (try dsimp only [List.nil_append] at N9); clear l9; (try simp only [Int.reduceBEq, Bool.false_eq_true, reduceIte, Int.reduceAdd] at hi9)); (try dsimp only))) | (with_reducible ((with_reducible show wpAny _ _ (exec (Stmt.Assign [PySem.Expr.Name (Str.ofString "ways") _] _ _) _) _ _ _); k_dflt (refine LCg.Assign_ListComp_U (F₀ := by k_asm) (by rfl) (by with_unfolding_all rfl) (by rfl) (by decide) (by rfl) (by decide) (by rfl) (by rfl) (by rfl) ?_); k_dflt lcg_toSrc)) | walk1)))))
  rename_i D9 h9 tk9 F9 N9 o9
  refine' law_clean2 F9 N9 K0 KX T ?ld3 hf ?ldr d1 d2 hys hyl hlo hst hE hQ ?ldH
  case ld3 => rfl
  case ldr => exact ⟨⟨f1, f2, f3, f4, f5⟩, ⟨f6, f7, f8, f9⟩, Ne.symm o9.1, Ne.symm o9.2.1, Ne.symm o9.2.2.1, Ne.symm o9.2.2.2.1, Ne.symm o9.2.2.2.2.1, Ne.symm o9.2.2.2.2.2.1, Ne.symm o9.2.2.2.2.2.2.1, Ne.symm o9.2.2.2.2.2.2.2⟩
  case ldH => exact HH
/-- what is left to show behind the law's sixth statement -/
def H3 (scope : Scope) (body : List Stmt) : Prop := ∀ (L a : Addr) (ccd : Value) (Q : Flow → Shared → Prop) (E : Value → Shared → Prop) (w : World) (mean : Mean) (mg mb : SMap) (h₀ : Heap) (s : Shared) (sl : Value) (wy kd sd mo md sp cl : Addr) (nl ba hc : Bool) (kw : Nat) (ko so : Obj) (m1 m2 : Tok) (ta : Tok) (ks : Nat) (ys : List Value) (ns : List Int) (o1 o2 : Obj) (f : Int) (tf : Tok),
      Fr h₀ L s.heap (fun y => if y = Str.ofString "has_codes" then some (.bool hc) else if y = Str.ofString "ways" then some (.ref wy) else if y = Str.ofString "flags" then some (.int f tf) else if y = Str.ofString "modes" then some (.ref mo) else if y = Str.ofString "script" then some sl else none) →
      News h₀ L s.heap (ledC w wy kd sd mo md sp cl L nl ba kw ko so m1 m2 3 ta ks ys o2 o1) →
      Below callerA h₀ [] h₀ → (Mine.hd.heap_1 w.params).In h₀ → Top Mine.vw (looseW Mine.vw [Str.ofString "Key"]) mean mg mb h₀ →
      1 ≤ f ∧ f ≤ 31 → hc = decide (f % 2 = 1 ∨ f / 8 % 2 = 1) → Far L cl sp md mo sd kd wy → o1.data = .cell (some (.ref cl)) → o2.data = .cell (some (.ref sp)) → IntsAre ys ns → ys.length ≤ 40 →
      (sd == sysModules) = false → StaDict w so nl ba →
      PassesOwn (model PySem.Challenge.rw_pq1185_01.row.prog w) (callerA.deeper (envOfC (Str.ofString "law") scope L a ccd)) (envOfC (Str.ofString "law") scope L a ccd) E →
      (∀ h' tk' m' news', Fr h₀ L h' m' → News h₀ L h' news' → Q (.ret (.bool true)) { s with heap := h', toks := tk' }) →
      wpAny (model PySem.Challenge.rw_pq1185_01.row.prog w) (callerA.deeper (envOfC (Str.ofString "law") scope L a ccd)) (execs body (envOfC (Str.ofString "law") scope L a ccd)) Q E s
theorem h3_go {scope : Scope} {body : List Stmt} {L a : Addr} {ccd : Value} {Q : Flow → Shared → Prop} {E : Value → Shared → Prop} {w : World} {mean : Mean} {mg mb : SMap} {h₀ : Heap} {s : Shared} {sl : Value} {wy kd sd mo md sp cl : Addr} {nl ba hc : Bool} {kw : Nat} {ko so : Obj} {m1 m2 : Tok} {ta : Tok} {ks : Nat} {ys : List Value} {ns : List Int} {o1 o2 : Obj} {f : Int} {tf : Tok}
    (H : H3 scope body) :
    (Fr h₀ L s.heap (fun y => if y = Str.ofString "has_codes" then some (.bool hc) else if y = Str.ofString "ways" then some (.ref wy) else if y = Str.ofString "flags" then some (.int f tf) else if y = Str.ofString "modes" then some (.ref mo) else if y = Str.ofString "script" then some sl else none) → News h₀ L s.heap (ledC w wy kd sd mo md sp cl L nl ba kw ko so m1 m2 3 ta ks ys o2 o1) → Below callerA h₀ [] h₀ → (Mine.hd.heap_1 w.params).In h₀ → Top Mine.vw (looseW Mine.vw [Str.ofString "Key"]) mean mg mb h₀ → 1 ≤ f ∧ f ≤ 31 → hc = decide (f % 2 = 1 ∨ f / 8 % 2 = 1) → Far L cl sp md mo sd kd wy → o1.data = .cell (some (.ref cl)) → o2.data = .cell (some (.ref sp)) → IntsAre ys ns → ys.length ≤ 40 → (sd == sysModules) = false → StaDict w so nl ba → PassesOwn (model PySem.Challenge.rw_pq1185_01.row.prog w) (callerA.deeper (envOfC (Str.ofString "law") scope L a ccd)) (envOfC (Str.ofString "law") scope L a ccd) E → (∀ h' tk' m' news', Fr h₀ L h' m' → News h₀ L h' news' → Q (.ret (.bool true)) { s with heap := h', toks := tk' }) →
    wpAny (model PySem.Challenge.rw_pq1185_01.row.prog w) (callerA.deeper (envOfC (Str.ofString "law") scope L a ccd)) (execs body (envOfC (Str.ofString "law") scope L a ccd)) Q E s) :=
  H _ _ _ _ _ _ _ _ _ _ _ _ _ _ _ _ _ _ _ _ _ _ _ _ _ _ _ _ _ _ _ _ _ _ _
noncomputable def lawB : { p : Scope × List Stmt // H3 p.1 p.2 → H2 lawA.1.1 lawA.1.2 } := by
  w_top off
  refine' ⟨(_, _), ?lawB⟩
  case lawB =>
  intro HH
  unfold lawA
  dsimp only
  intro L a ccd Q E w mean mg mb h₀ s sl wy kd sd mo md sp cl b1 b2 kw ko so m1 m2 ta ks ys ns o1 o2 f tf F2 N2 K0 KX T hf far d1 d2 hys hyl hlo hst hE hQ
  have far0 := far
  obtain ⟨⟨f1, f2, f3, f4, f5⟩, ⟨f6, f7, f8, f9⟩, g1, g2, g3, g4, g5, g6, g7, g8⟩ := far
  have q1 : @Ne Nat cl sd := Nat.ne_of_lt (Nat.lt_trans (Nat.lt_trans (Nat.lt_trans f3 f6) f7) f8)
  have q2 : @Ne Nat (L + 1 + 1) sd := Nat.ne_of_lt (Nat.lt_trans (Nat.lt_trans (Nat.lt_trans f4 f6) f7) f8)
  have q3 : @Ne Nat (L + 1) sd := Nat.ne_of_lt (Nat.lt_trans (Nat.lt_trans (Nat.lt_trans f5 f6) f7) f8)
  have q4 : @Ne Nat sp sd := Nat.ne_of_lt (Nat.lt_trans (Nat.lt_trans f6 f7) f8)
  have q5 : @Ne Nat md sd := Nat.ne_of_lt (Nat.lt_trans f7 f8)
  have q6 : @Ne Nat mo sd := Nat.ne_of_lt f8
  have q7 : @Ne Nat kd sd := Nat.ne_of_gt f9
  (iterate 32 (focus (first | (k_unfold; (try dsimp only)) | (first | ((with_reducible show wpAny _ _ (call (Value.ref 306) [Value.ref _, Value.str (Str.ofString "newline") _, Value.bool _]) _ _ _); k_dflt (refine' TriG.use (c_mset_newline ?p_hmo ?p_hmd ?p_hsd ?p_hlo ?p_hst ?p_hU) ?k1 ?k2 ?k3 ?k4 ?k5 ?kK ?kd ?ku ?_; (case k1 => k_asm); (case k2 => k_asm); (case k3 => k_asm); (case k4 => k_asm); (case k5 => k_asm); (case kK => first | exact rfl | assumption); (case kd => ktr_room); (case ku => ktr_units); (case p_hmo => k_mem); (case p_hmd => k_mem); (case p_hsd => k_mem); (case p_hlo => k_asm); (case p_hst => assumption); (case p_hU => k_updF); skip; intro r9 x9 q9 h9 tk9 hR F9 N9 l9; (obtain ⟨e9, e8, hd9⟩ := hR; subst e9; subst e8; (try dsimp only [List.nil_append] at N9); clear l9); (try dsimp only))) | ((with_reducible show wpAny _ _ (call (Value.ref 306) [Value.ref _, Value.str (Str.ofString "backarrow") _, Value.bool _]) _ _ _); k_dflt (refine' TriG.use (c_mset_backarrow ?p_hmo ?p_hmd ?p_hsd ?p_hlo ?p_hst ?p_hU) ?k1 ?k2 ?k3 ?k4 ?k5 ?kK ?kd ?ku ?_; (case k1 => k_asm); (case k2 => k_asm); (case k3 => k_asm); (case k4 => k_asm); (case k5 => k_asm); (case kK => first | exact rfl | assumption); (case kd => ktr_room); (case ku => ktr_units); (case p_hmo => k_mem); (case p_hmd => k_mem); (case p_hsd => k_mem); (case p_hlo => k_asm); (case p_hst => assumption); (case p_hU => k_updF); skip; intro r9 x9 q9 h9 tk9 hR F9 N9 l9; (obtain ⟨e9, e8, hd9⟩ := hR; subst e9; subst e8; (try dsimp only [List.nil_append] at N9); clear l9); (try dsimp only))) | (with_reducible (with_reducible refine' cut_endB ?ceF ?ceN ?ceD ?ceE; (case ceF => with_reducible assumption); (case ceN => with_reducible assumption); (case ceD => (intro p9 hp9; exact hp9)); (case ceE => first | rfl | (rw [Bool.eq_iff_iff]; (simp only [decide_eq_true_eq, Bool.false_eq_true, Bool.not_eq_true', decide_eq_false_iff_not, Bool.and_eq_true, Bool.or_eq_true, true_iff, iff_true, iff_false, false_iff, beq_iff_eq, fd8, fm2, fd2]) <;> omega)))) | walk1) | (dsimp only; (first | ((with_reducible show wpAny _ _ (call (Value.ref 306) [Value.ref _, Value.str (Str.ofString "newline") _, Value.bool _]) _ _ _); k_dflt (refine' TriG.use (c_mset_newline ?p_hmo ?p_hmd ?p_hsd ?p_hlo ?p_hst ?p_hU) ?k1 ?k2 ?k3 ?k4 ?k5 ?kK ?kd ?ku ?_; (case k1 => k_asm); (case k2 => k_asm); (case k3 => k_asm); (case k4 => k_asm); (case k5 => k_asm); (case kK => first | exact rfl | assumption); (case kd => ktr_room); (case ku => ktr_units); (case p_hmo => k_mem); (case p_hmd => k_mem); (case p_hsd => k_mem); (case p_hlo => k_asm); (case p_hst => assumption); (case p_hU => k_updF); skip; intro r9 x9 q9 h9 tk9 hR F9 N9 l9; (obtain ⟨e9, e8, hd9⟩ := hR; subst e9; subst e8; (try dsimp only [List.nil_append] at N9); clear l9); (try dsimp only))) | ((with_reducible show wpAny _ _ (call (Value.ref 306) [Value.ref _, Value.str (Str.ofString "backarrow") _, Value.bool _]) _ _ _); k_dflt (refine' TriG.use (c_mset_backarrow ?p_hmo ?p_hmd ?p_hsd ?p_hlo ?p_hst ?p_hU) ?k1 ?k2 ?k3 ?k4 ?k5 ?kK ?kd ?ku ?_; (case k1 => k_asm); (case k2 => k_asm); (case k3 => k_asm); (case k4 => k_asm); (case k5 => k_asm); (case kK => first | exact rfl | assumption); (case kd => ktr_room); (case ku => ktr_units); (case p_hmo => k_mem); (case p_hmd => k_mem); (case p_hsd => k_mem); (case p_hlo => k_asm); (case p_hst => assumption); (case p_hU => k_updF); skip; intro r9 x9 q9 h9 tk9 hR F9 N9 l9; (obtain ⟨e9, e8, hd9⟩ := hR; subst e9; subst e8; (try dsimp only [List.nil_append] at N9); clear l9); (try dsimp only))) | (with_reducible (with_reducible refine' cut_endB ?ceF ?ceN ?ceD ?ceE; (case ceF => with_reducible assumption); (case ceN => with_reducible assumption); (case ceD => (intro p9 hp9; exact hp9)); (case ceE => first | rfl | (rw [Bool.eq_iff_iff]; (simp only [decide_eq_true_eq, Bool.false_eq_true, Bool.not_eq_true', decide_eq_false_iff_not, Bool.and_eq_true, Bool.or_eq_true, true_iff, iff_true, iff_false, false_iff, beq_iff_eq, fd8, fm2, fd2]) <;> omega)))) | walk1)))))
  (clear F2 N2 hst)
  repeat ((fail_if_success (with_reducible refine cut_bool (Str.ofString "has_codes") (decide (f % 2 = 1 ∨ f / 8 % 2 = 1)) (by with_reducible assumption) (by with_reducible assumption) ?_ ?_)); focus (first | ((with_reducible show wpAny _ _ (call (Value.ref 306) [Value.ref _, Value.str (Str.ofString "newline") _, Value.bool _]) _ _ _); k_dflt (refine' TriG.use (c_mset_newline ?p_hmo ?p_hmd ?p_hsd ?p_hlo ?p_hst ?p_hU) ?k1 ?k2 ?k3 ?k4 ?k5 ?kK ?kd ?ku ?_; (case k1 => k_asm); (case k2 => k_asm); (case k3 => k_asm); (case k4 => k_asm); (case k5 => k_asm); (case kK => first | exact rfl | assumption); (case kd => ktr_room); (case ku => ktr_units); (case p_hmo => k_mem); (case p_hmd => k_mem); (case p_hsd => k_mem); (case p_hlo => k_asm); (case p_hst => assumption); (case p_hU => k_updF); skip; intro r9 x9 q9 h9 tk9 hR F9 N9 l9; (obtain ⟨e9, e8, hd9⟩ := hR; subst e9; subst e8; (try dsimp only [List.nil_append] at N9); clear l9); (try dsimp only))) | ((with_reducible show wpAny _ _ (call (Value.ref 306) [Value.ref _, Value.str (Str.ofString "backarrow") _, Value.bool _]) _ _ _); k_dflt (refine' TriG.use (c_mset_backarrow ?p_hmo ?p_hmd ?p_hsd ?p_hlo ?p_hst ?p_hU) ?k1 ?k2 ?k3 ?k4 ?k5 ?kK ?kd ?ku ?_; (case k1 => k_asm); (case k2 => k_asm); (case k3 => k_asm); (case k4 => k_asm); (case k5 => k_asm); (case kK => first | exact rfl | assumption); (case kd => ktr_room); (case ku => ktr_units); (case p_hmo => k_mem); (case p_hmd => k_mem); (case p_hsd => k_mem); (case p_hlo => k_asm); (case p_hst => assumption); (case p_hU => k_updF); skip; intro r9 x9 q9 h9 tk9 hR F9 N9 l9; (obtain ⟨e9, e8, hd9⟩ := hR; subst e9; subst e8; (try dsimp only [List.nil_append] at N9); clear l9); (try dsimp only))) | (with_reducible (with_reducible refine' cut_endB ?ceF ?ceN ?ceD ?ceE; (case ceF => with_reducible assumption); (case ceN => with_reducible assumption); (case ceD => (intro p9 hp9; exact hp9)); (case ceE => first | rfl | (rw [Bool.eq_iff_iff]; (simp only [decide_eq_true_eq, Bool.false_eq_true, Bool.not_eq_true', decide_eq_false_iff_not, Bool.and_eq_true, Bool.or_eq_true, true_iff, iff_true, iff_false, false_iff, beq_iff_eq, fd8, fm2, fd2]) <;> omega)))) | walk1))
  with_reducible refine cut_bool (Str.ofString "has_codes") (decide (f % 2 = 1 ∨ f / 8 % 2 = 1)) (by with_reducible assumption) (by with_reducible assumption) ?_ ?_
  rotate_left
  intro h3 tk3 F3 N3
  refine' h3_go (s := { s with heap := h3, toks := tk3 }) ?lbH F3 N3 K0 KX T hf rfl far0 d1 d2 hys hyl hlo (by assumption) hE hQ
  case lbH => exact HH
  all_goals (repeat' (first | ((with_reducible show wpAny _ _ (call (Value.ref 306) [Value.ref _, Value.str (Str.ofString "newline") _, Value.bool _]) _ _ _); k_dflt (refine' TriG.use (c_mset_newline ?p_hmo ?p_hmd ?p_hsd ?p_hlo ?p_hst ?p_hU) ?k1 ?k2 ?k3 ?k4 ?k5 ?kK ?kd ?ku ?_; (case k1 => k_asm); (case k2 => k_asm); (case k3 => k_asm); (case k4 => k_asm); (case k5 => k_asm); (case kK => first | exact rfl | assumption); (case kd => ktr_room); (case ku => ktr_units); (case p_hmo => k_mem); (case p_hmd => k_mem); (case p_hsd => k_mem); (case p_hlo => k_asm); (case p_hst => assumption); (case p_hU => k_updF); skip; intro r9 x9 q9 h9 tk9 hR F9 N9 l9; (obtain ⟨e9, e8, hd9⟩ := hR; subst e9; subst e8; (try dsimp only [List.nil_append] at N9); clear l9); (try dsimp only))) | ((with_reducible show wpAny _ _ (call (Value.ref 306) [Value.ref _, Value.str (Str.ofString "backarrow") _, Value.bool _]) _ _ _); k_dflt (refine' TriG.use (c_mset_backarrow ?p_hmo ?p_hmd ?p_hsd ?p_hlo ?p_hst ?p_hU) ?k1 ?k2 ?k3 ?k4 ?k5 ?kK ?kd ?ku ?_; (case k1 => k_asm); (case k2 => k_asm); (case k3 => k_asm); (case k4 => k_asm); (case k5 => k_asm); (case kK => first | exact rfl | assumption); (case kd => ktr_room); (case ku => ktr_units); (case p_hmo => k_mem); (case p_hmd => k_mem); (case p_hsd => k_mem); (case p_hlo => k_asm); (case p_hst => assumption); (case p_hU => k_updF); skip; intro r9 x9 q9 h9 tk9 hR F9 N9 l9; (obtain ⟨e9, e8, hd9⟩ := hR; subst e9; subst e8; (try dsimp only [List.nil_append] at N9); clear l9); (try dsimp only))) | (with_reducible (with_reducible refine' cut_endB ?ceF ?ceN ?ceD ?ceE; (case ceF => with_reducible assumption); (case ceN => with_reducible assumption); (case ceD => (intro p9 hp9; exact hp9)); (case ceE => first | rfl | (rw [Bool.eq_iff_iff]; (simp only [decide_eq_true_eq, Bool.false_eq_true, Bool.not_eq_true', decide_eq_false_iff_not, Bool.and_eq_true, Bool.or_eq_true, true_iff, iff_true, iff_false, false_iff, beq_iff_eq, fd8, fm2, fd2]) <;> omega)))) | (k_unfold; (try dsimp only)) | (k_end; kc_close) | walk1 | (dsimp only; walk1) | (leave1; walk_say "STEP leave1"; (try dsimp only)) | fail "no step"))
/-- what is left to show of one turn -/
def H4 (scope : Scope) (body : List Stmt) : Prop := ∀ (L a : Addr) (ccd : Value) (E : Value → Shared → Prop) (w : World) (mean : Mean) (mg mb : SMap) (h₀ : Heap) (s : Shared) (wy kd sd mo md sp cl I : Addr) (nl ba hc : Bool) (kw : Nat) (ko so oI : Obj) (m1 m2 : Tok) (a0 : Int) (ta : Tok) (ks : Nat) (ys : List Value) (ns : List Int) (o1 o2 : Obj) (f : Int) (tf : Tok) (k : Int) (t : Tok) (m : Str → Option Value),
      Fr h₀ L s.heap (fun y => if y = Str.ofString "turn" then some (.int k t) else if y = Str.ofString "has_codes" then some (.bool hc) else if y = Str.ofString "ways" then some (.ref wy) else if y = Str.ofString "flags" then some (.int f tf) else if y = Str.ofString "modes" then some (.ref mo) else m y) →
      News h₀ L s.heap ((I, oI) :: ledC w wy kd sd mo md sp cl L nl ba kw ko so m1 m2 a0 ta ks ys o2 o1) →
      Below callerA h₀ [] h₀ → (Mine.hd.heap_1 w.params).In h₀ → Top Mine.vw (looseW Mine.vw [Str.ofString "Key"]) mean mg mb h₀ →
      1 ≤ f ∧ f ≤ 31 → hc = decide (f % 2 = 1 ∨ f / 8 % 2 = 1) → Far L cl sp md mo sd kd wy → (∀ b ∈ [wy, kd, sd, mo, md, sp, cl, L + 1 + 1, L + 1], b ≠ I) → o1.data = .cell (some (.ref cl)) → o2.data = .cell (some (.ref sp)) → IntsAre ys ns → ys.length ≤ 40 →
      (sd == sysModules) = false → StaDict w so nl ba → 0 ≤ a0 ∧ a0 ≤ 15 →
      PassesOwn (model PySem.Challenge.rw_pq1185_01.row.prog w) (callerA.deeper (envOfC (Str.ofString "law") scope L a ccd)) (envOfC (Str.ofString "law") scope L a ccd) E →
      wpAny (model PySem.Challenge.rw_pq1185_01.row.prog w) (callerA.deeper (envOfC (Str.ofString "law") scope L a ccd)) (execs body (envOfC (Str.ofString "law") scope L a ccd)) (TurnQ h₀ L (Keeps hc wy mo f tf) (fun a0 ta ks => ledC w wy kd sd mo md sp cl L nl ba kw ko so m1 m2 a0 ta ks ys o2 o1) I oI (a0 + 4) s) E s
theorem h4_go {scope : Scope} {body : List Stmt} {L a : Addr} {ccd : Value} {E : Value → Shared → Prop} {w : World} {mean : Mean} {mg mb : SMap} {h₀ : Heap} {s : Shared} {wy kd sd mo md sp cl I : Addr} {nl ba hc : Bool} {kw : Nat} {ko so oI : Obj} {m1 m2 : Tok} {a0 : Int} {ta : Tok} {ks : Nat} {ys : List Value} {ns : List Int} {o1 o2 : Obj} {f : Int} {tf : Tok} {k : Int} {t : Tok} {m : Str → Option Value}
    (H : H4 scope body) (F : Fr h₀ L s.heap (fun y => if y = Str.ofString "turn" then some (.int k t) else m y)) (K : Keeps hc wy mo f tf m)
    (N : News h₀ L s.heap ((I, oI) :: ledC w wy kd sd mo md sp cl L nl ba kw ko so m1 m2 a0 ta ks ys o2 o1)) (K0 : Below callerA h₀ [] h₀) (KX : (Mine.hd.heap_1 w.params).In h₀) (T : Top Mine.vw (looseW Mine.vw [Str.ofString "Key"]) mean mg mb h₀)
    (hf : 1 ≤ f ∧ f ≤ 31) (hh : hc = decide (f % 2 = 1 ∨ f / 8 % 2 = 1)) (far : Far L cl sp md mo sd kd wy) (hI : ∀ b ∈ [wy, kd, sd, mo, md, sp, cl, L + 1 + 1, L + 1], b ≠ I) (d1 : o1.data = .cell (some (.ref cl))) (d2 : o2.data = .cell (some (.ref sp))) (hys : IntsAre ys ns) (hyl : ys.length ≤ 40)
    (hlo : (sd == sysModules) = false) (hst : StaDict w so nl ba) (ha : 0 ≤ a0 ∧ a0 ≤ 15)
    (hE : PassesOwn (model PySem.Challenge.rw_pq1185_01.row.prog w) (callerA.deeper (envOfC (Str.ofString "law") scope L a ccd)) (envOfC (Str.ofString "law") scope L a ccd) E) :
    wpAny (model PySem.Challenge.rw_pq1185_01.row.prog w) (callerA.deeper (envOfC (Str.ofString "law") scope L a ccd)) (execs body (envOfC (Str.ofString "law") scope L a ccd)) (TurnQ h₀ L (Keeps hc wy mo f tf) (fun a0 ta ks => ledC w wy kd sd mo md sp cl L nl ba kw ko so m1 m2 a0 ta ks ys o2 o1) I oI (a0 + 4) s) E s := by
  have e : (fun y => if y = Str.ofString "turn" then some (.int k t) else m y) = (fun y => if y = Str.ofString "turn" then some (.int k t) else if y = Str.ofString "has_codes" then some (.bool hc) else if y = Str.ofString "ways" then some (.ref wy) else if y = Str.ofString "flags" then some (.int f tf) else if y = Str.ofString "modes" then some (.ref mo) else m y) := by
    funext y
    rw [keeps_map K y]
  exact H _ _ _ _ _ _ _ _ _ _ _ _ _ _ _ _ _ _ _ _ _ _ _ _ _ _ _ _ _ _ _ _ _ _ _ _ _ _ _ (e ▸ F) N K0 KX T hf hh far hI d1 d2 hys hyl hlo hst ha hE
noncomputable def lawC : { p : Scope × List Stmt // H4 p.1 p.2 → H3 lawB.1.1 lawB.1.2 } := by
  w_top off
  refine' ⟨(_, _), ?lawC⟩
  case lawC =>
  intro HH
  unfold lawB
  dsimp only
  intro L a ccd Q E w mean mg mb h₀ s sl wy kd sd mo md sp cl nl ba hc kw ko so m1 m2 ta ks ys ns o1 o2 f tf F2 N2 K0 KX T hf hh far d1 d2 hys hyl hlo hst hE hQ
  (iterate 9 (focus (first | (k_unfold; (try dsimp only)) | walk1 | (dsimp only; walk1))))
  refine' turn_range (fun a0 ta ks => ledC w wy kd sd mo md sp cl L nl ba kw ko so m1 m2 a0 ta ks ys o2 o1) [wy, kd, sd, mo, md, sp, cl, L + 1 + 1, L + 1] (Keeps hc wy mo f tf) ?trH ?trR ?trF ?trN ?trA ?trX ?trK ?trB ?trT ?trD
  case trH => exact rfl
  case trR => assumption
  case trF => assumption
  case trN => assumption
  case trA => (intro _ _ _; exact rfl)
  case trX => (intro m v K; exact ⟨K.1, K.2.1, K.2.2.1, K.2.2.2⟩)
  case trK => exact ⟨rfl, rfl, rfl, rfl⟩
  case trB => omega
  case trT =>
    intro m a0 ta ks k t h tk I oI hI ha K F N
    refine' h4_go (s := { s with heap := h, toks := tk }) ?lcH F K N K0 KX T hf hh far hI d1 d2 hys hyl hlo hst ha hE
    case lcH => exact HH
  case trD =>
    intro h8 tk8 m8 n8 F8 N8
    (try dsimp only)
    (repeat' (first | (k_unfold; (try dsimp only)) | (k_end; kc_close) | walk1 | (dsimp only; walk1) | (leave1; walk_say "STEP leave1"; (try dsimp only)) | fail "no step"))
    exact hQ _ _ _ _ F8 N8
abbrev atOf {h : Int} (_ : 0 ≤ h ∧ h ≤ 7) : Int := h
abbrev ofLt {i : Int} (_ : 0 ≤ i ∧ i < 18) : Int := i
theorem plainK_size' {nm : BA} {n : Int} (_ : (nm, n) ∈ rowsC) {nl ba : Bool} : (plainK nm nl ba).size ≤ 5 := Nat.le_trans (plainK_size nm nl ba) (by decide)
theorem turn_end {h₀ h' : Heap} {L : Addr} {K : (Str → Option Value) → Prop} {led : Int → Tok → Nat → Led} {I : Addr} {oI : Obj} {top : Int} {s : Shared} {tk' : Nat} {m' : Str → Option Value} {news : Led} {a : Int} {ta : Tok} {ks : Nat}
    (F : Fr h₀ L h' m') (N : News h₀ L h' news) (hn : ∀ p ∈ (I, oI) :: led a ta ks, p ∈ news) (ha : 0 ≤ a ∧ a ≤ top) (hK : K m') : TurnQ h₀ L K led I oI top s .next { s with heap := h', toks := tk' } :=
  ⟨h', tk', m', a, ta, ks, rfl, F, fun p hp => N p (hn p hp), ha, hK⟩
theorem ite_neF {a b : BA} {A B : Prop} (h : a = b) (k : B) : if (a.toList != b.toList) = true then A else B := by
  subst h
  have e : (a.toList != a.toList) = false := by rw [bne_eq_false_iff_eq]
  rw [if_neg (ne_true_of_eq_false e)]
  exact k
theorem lawD : H4 lawC.1.1 lawC.1.2 := by
  w_top off
  unfold lawC
  dsimp only
  intro L a ccd E w mean mg mb h₀ s wy kd sd mo md sp cl I nl ba hc kw ko so oI m1 m2 a0 ta ks ys ns o1 o2 f tf k t m F2 N2 K0 KX T hf hh far hI d1 d2 hys hyl hlo hst ha hE
  obtain ⟨⟨f1, f2, f3, f4, f5⟩, ⟨f6, f7, f8, f9⟩, g1, g2, g3, g4, g5, g6, g7, g8⟩ := far
  have b1 : @Ne Nat wy I := hI _ (.head _)
  have b2 : @Ne Nat kd I := hI _ (.tail _ (.head _))
  have b3 : @Ne Nat sd I := hI _ (.tail _ (.tail _ (.head _)))
  have b4 : @Ne Nat mo I := hI _ (.tail _ (.tail _ (.tail _ (.head _))))
  have b5 : @Ne Nat md I := hI _ (.tail _ (.tail _ (.tail _ (.tail _ (.head _)))))
  have b6 : @Ne Nat sp I := hI _ (.tail _ (.tail _ (.tail _ (.tail _ (.tail _ (.head _))))))
  have b7 : @Ne Nat cl I := hI _ (.tail _ (.tail _ (.tail _ (.tail _ (.tail _ (.tail _ (.head _)))))))
  clear hI
  have q1 : @Ne Nat cl sp := Nat.ne_of_lt f3
  have q2 : @Ne Nat (L + 1 + 1) sp := Nat.ne_of_lt f4
  have q3 : @Ne Nat (L + 1) sp := Nat.ne_of_lt f5
  have q4 : @Ne Nat md sp := Nat.ne_of_gt f6
  have q5 : @Ne Nat mo sp := Nat.ne_of_gt (Nat.lt_trans f6 f7)
  have q6 : @Ne Nat sd sp := Nat.ne_of_gt (Nat.lt_trans (Nat.lt_trans f6 f7) f8)
  have q7 : @Ne Nat kd sp := Nat.ne_of_gt (Nat.lt_trans (Nat.lt_trans (Nat.lt_trans f6 f7) f8) f9)
  (iterate 16 (focus (first | (k_unfold; (try dsimp only)) | (first | ((with_reducible show wpAny _ _ (call (Value.ref 357) [Value.ref _, Value.ref _, Value.int _ _]) _ _ _); k_dflt (refine' TriG.use (c_draw ?p_hcl ?p_hys ?p_hyl ?p_hsp ?p_hU ?p_ha ?p_hm ?p_hne) ?k1 ?k2 ?k3 ?k4 ?k5 ?kK ?kd ?ku ?_; (case k1 => k_asm); (case k2 => k_asm); (case k3 => k_asm); (case k4 => k_asm); (case k5 => k_asm); (case kK => first | exact rfl | assumption); (case kd => ktr_room); (case ku => ktr_units); (case p_hcl => k_mem); (case p_hys => assumption); (case p_hyl => (first | omega | (rename _ = List.length (List.map _ (List.take 40 _)) => hl9; rw [List.length_map, List.length_take] at hl9; omega))); (case p_hsp => k_mem); (case p_hU => k_updF); (case p_ha => (first | with_reducible assumption | decide | exact le9 (by with_reducible assumption) | omega)); (case p_hm => (first | with_reducible assumption | decide | exact le9 (by with_reducible assumption) | omega)); (case p_hne => (first | assumption | k_ne | omega)); skip; intro r9 x9 q9 h9 tk9 hR F9 N9 l9; (obtain ⟨v9, t9, ta9, k9, e9, e8, e7, lo9, hi9⟩ := hR; subst e9; subst e8; subst e7; (try dsimp only [List.nil_append] at N9); clear l9; (try simp only [Int.reduceBEq, Bool.false_eq_true, reduceIte, Int.reduceAdd] at hi9)); (try dsimp only))) | ((with_reducible show wpAny _ _ (call (Value.ref 411) [Value.ref _, Value.ref _, Value.bool _, Value.ref _]) _ _ _); k_dflt (refine' TriG.use (c_lkey ?p_hcl ?p_hys ?p_hyl ?p_hsp ?p_hU ?p_ha ?p_hne ?p_hwy ?p_hwn) ?k1 ?k2 ?k3 ?k4 ?k5 ?kK ?kd ?ku ?_; (case k1 => k_asm); (case k2 => k_asm); (case k3 => k_asm); (case k4 => k_asm); (case k5 => k_asm); (case kK => first | exact rfl | assumption); (case kd => ktr_room); (case ku => ktr_units); (case p_hcl => k_mem); (case p_hys => assumption); (case p_hyl => (first | omega | (rename _ = List.length (List.map _ (List.take 40 _)) => hl9; rw [List.length_map, List.length_take] at hl9; omega))); (case p_hsp => k_mem); (case p_hU => k_updF); (case p_ha => (first | with_reducible assumption | decide | exact le9 (by with_reducible assumption) | omega)); (case p_hne => (first | assumption | k_ne | omega)); (case p_hwy => k_mem); (case p_hwn => (first | assumption | k_ne | omega)); skip; intro r9 x9 q9 h9 tk9 hR F9 N9 l9; (obtain ⟨at9, ta9, k9, e7, lo9, hi9, K9⟩ := hR; subst e7; (try dsimp only at N9); have l8 := ltN l9; clear l9; (try dsimp only at l8); cases K9 <;> (simp only [ledC, List.nil_append, List.cons_append, List.mem_cons, List.not_mem_nil, or_false, forall_eq_or_imp, forall_eq] at N9 l8)); (try dsimp only))) | ((with_reducible show wpAny _ _ (call (Value.ref 152) [Value.bytes _ _, Value.int _ _, Value.int _ _, Value.int _ _]) _ _ _); k_dflt (refine' TriX.use (c_key4 ) ?k1 ?k2 ?k3 ?k4 ?k5 ?kK ?kd ?ku ?_; (case k1 => k_asm); (case k2 => k_asm); (case k3 => k_asm); (case k4 => k_asm); (case k5 => k_asm); (case kK => first | exact rfl | assumption); (case kd => ktr_room); (case ku => ktr_units);  skip; intro r9 x9 h9 tk9 hR F9 N9 l9; (obtain ⟨x9, d9, n19, n29, n39, n49, t19, t29, t39, t49, e9, e8, o9⟩ := hR; subst e9; subst e8; have l9 := ltN l9; (try simp only [List.nil_append, List.cons_append, List.mem_cons, List.not_mem_nil, or_false, forall_eq_or_imp, forall_eq] at N9 l9); (try (obtain ⟨la9, lb9⟩ := l9))); (try dsimp only))) | ((with_reducible show wpAny _ _ (call (Value.ref 261) [Value.ref _, Value.ref _, Value.int _ _]) _ _ _); k_dflt (refine' Tri.use (c_kitty ?p_hx ?p_hdx ?p_hmo ?p_hmd ?p_hsd ?p_hlo ?p_hst ?p_hg ?p_he ?p_hcc ?p_hnm) ?k1 ?k2 ?k3 ?k4 ?k5 ?kK ?kd ?ku ?_; (case k1 => k_asm); (case k2 => k_asm); (case k3 => k_asm); (case k4 => k_asm); (case k5 => k_asm); (case kK => first | exact rfl | assumption); (case kd => ktr_room); (case ku => ktr_units); (case p_hx => k_mem); (case p_hdx => k_mem); (case p_hmo => k_mem); (case p_hmd => k_mem); (case p_hsd => k_mem); (case p_hlo => k_asm); (case p_hst => assumption); (case p_hg => (first | with_reducible assumption | decide | exact le9 (by with_reducible assumption) | omega)); (case p_he => (first | with_reducible assumption | decide | exact le9 (by with_reducible assumption) | omega)); (case p_hcc => with_reducible assumption); (case p_hnm => with_reducible assumption); skip; intro r9 h9 tk9 hR F9 N9; (obtain ⟨hz9, t9, e9⟩ := hR; subst e9); (try dsimp only))) | ((with_reducible show wpAny _ _ (call (Value.ref 404) [Value.str _ _, Value.ref _, Value.int _ _, Value.int _ _, Value.int _ _, Value.bytes _ _]) _ _ _); k_dflt (refine' Tri.use (c_due ?p_hD ?p_hh ?p_he ?p_hpl) ?k1 ?k2 ?k3 ?k4 ?k5 ?kK ?kd ?ku ?_; (case k1 => k_asm); (case k2 => k_asm); (case k3 => k_asm); (case k4 => k_asm); (case k5 => k_asm); (case kK => first | exact rfl | assumption); (case kd => ktr_room); (case ku => ktr_units); (case p_hD => (first | exact .letter (by first | with_reducible assumption | exact PairAt.nil (by with_reducible assumption) | exact ⟨_, rfl, ⟨_, rfl⟩, .inl (by k_mem)⟩) (by (first | omega | ((try simp only [Array.size_append, List.size_toArray, List.length_cons, List.length_nil, byteArr_size]); omega) | exact Nat.le_trans (by assumption) (by decide))) | exact .figure (by first | with_reducible assumption | exact PairAt.nil (by with_reducible assumption) | exact ⟨_, rfl, ⟨_, rfl⟩, .inl (by k_mem)⟩) (by (first | with_reducible assumption | decide | exact le9 (by with_reducible assumption) | omega)) | exact .sign (by first | with_reducible assumption | exact PairAt.nil (by with_reducible assumption) | exact ⟨_, rfl, ⟨_, rfl⟩, .inl (by k_mem)⟩) (by with_reducible assumption) | exact .named (by first | with_reducible assumption | exact PairAt.nil (by with_reducible assumption) | exact ⟨_, rfl, ⟨_, rfl⟩, .inl (by k_mem)⟩) (by (first | with_reducible assumption | decide | exact le9 (by with_reducible assumption) | omega)))); (case p_hh => (first | with_reducible assumption | decide | exact le9 (by with_reducible assumption) | omega)); (case p_he => (first | with_reducible assumption | decide | exact le9 (by with_reducible assumption) | omega)); (case p_hpl => (first | omega | ((try simp only [Array.size_append, List.size_toArray, List.length_cons, List.length_nil, byteArr_size]); omega) | exact Nat.le_trans (by assumption) (by decide))); skip; intro r9 h9 tk9 hR F9 N9; (obtain ⟨hz9, t9, e9⟩ := hR; subst e9); (try dsimp only))) | (with_reducible ((with_reducible first | (show wpAny _ _ (subscriptTail (PySem.Expr.Name (Str.ofString "row") _) _ (Value.ref _) (Value.int _ _)) _ _ _; refine' pair_fst ?riN ?riF ?riX ?riR ?_ ?riS)); (case riS => with_unfolding_all rfl); (case riN => k_asm); (case riF => k_asm); (case riX => k_asm); (case riR => exact PairAt.nil (by with_reducible assumption)))) | (with_reducible (first | (with_reducible refine ite_strT (by decide) ?_) | (with_reducible refine ite_strF (by decide) ?_))) | (with_reducible (with_reducible refine ite_neF ?inH ?_; (case inH => ((rename ∀ e, 1 ≤ e ∧ e ≤ 3 → kk _ _ _ _ e _ _ = _ => hl9); exact hl9 _ ⟨by omega, by omega⟩)))) | walk1) | (dsimp only; (first | ((with_reducible show wpAny _ _ (call (Value.ref 357) [Value.ref _, Value.ref _, Value.int _ _]) _ _ _); k_dflt (refine' TriG.use (c_draw ?p_hcl ?p_hys ?p_hyl ?p_hsp ?p_hU ?p_ha ?p_hm ?p_hne) ?k1 ?k2 ?k3 ?k4 ?k5 ?kK ?kd ?ku ?_; (case k1 => k_asm); (case k2 => k_asm); (case k3 => k_asm); (case k4 => k_asm); (case k5 => k_asm); (case kK => first | exact rfl | assumption); (case kd => ktr_room); (case ku => ktr_units); (case p_hcl => k_mem); (case p_hys => assumption); (case p_hyl => (first | omega | (rename _ = List.length (List.map _ (List.take 40 _)) => hl9; rw [List.length_map, List.length_take] at hl9; omega))); (case p_hsp => k_mem); (case p_hU => k_updF); (case p_ha => (first | with_reducible assumption | decide | exact le9 (by with_reducible assumption) | omega)); (case p_hm => (first | with_reducible assumption | decide | exact le9 (by with_reducible assumption) | omega)); (case p_hne => (first | assumption | k_ne | omega)); skip; intro r9 x9 q9 h9 tk9 hR F9 N9 l9; (obtain ⟨v9, t9, ta9, k9, e9, e8, e7, lo9, hi9⟩ := hR; subst e9; subst e8; subst e7; (try dsimp only [List.nil_append] at N9); clear l9; (try simp only [Int.reduceBEq, Bool.false_eq_true, reduceIte, Int.reduceAdd] at hi9)); (try dsimp only))) | ((with_reducible show wpAny _ _ (call (Value.ref 411) [Value.ref _, Value.ref _, Value.bool _, Value.ref _]) _ _ _); k_dflt (refine' TriG.use (c_lkey ?p_hcl ?p_hys ?p_hyl ?p_hsp ?p_hU ?p_ha ?p_hne ?p_hwy ?p_hwn) ?k1 ?k2 ?k3 ?k4 ?k5 ?kK ?kd ?ku ?_; (case k1 => k_asm); (case k2 => k_asm); (case k3 => k_asm); (case k4 => k_asm); (case k5 => k_asm); (case kK => first | exact rfl | assumption); (case kd => ktr_room); (case ku => ktr_units); (case p_hcl => k_mem); (case p_hys => assumption); (case p_hyl => (first | omega | (rename _ = List.length (List.map _ (List.take 40 _)) => hl9; rw [List.length_map, List.length_take] at hl9; omega))); (case p_hsp => k_mem); (case p_hU => k_updF); (case p_ha => (first | with_reducible assumption | decide | exact le9 (by with_reducible assumption) | omega)); (case p_hne => (first | assumption | k_ne | omega)); (case p_hwy => k_mem); (case p_hwn => (first | assumption | k_ne | omega)); skip; intro r9 x9 q9 h9 tk9 hR F9 N9 l9; (obtain ⟨at9, ta9, k9, e7, lo9, hi9, K9⟩ := hR; subst e7; (try dsimp only at N9); have l8 := ltN l9; clear l9; (try dsimp only at l8); cases K9 <;> (simp only [ledC, List.nil_append, List.cons_append, List.mem_cons, List.not_mem_nil, or_false, forall_eq_or_imp, forall_eq] at N9 l8)); (try dsimp only))) | ((with_reducible show wpAny _ _ (call (Value.ref 152) [Value.bytes _ _, Value.int _ _, Value.int _ _, Value.int _ _]) _ _ _); k_dflt (refine' TriX.use (c_key4 ) ?k1 ?k2 ?k3 ?k4 ?k5 ?kK ?kd ?ku ?_; (case k1 => k_asm); (case k2 => k_asm); (case k3 => k_asm); (case k4 => k_asm); (case k5 => k_asm); (case kK => first | exact rfl | assumption); (case kd => ktr_room); (case ku => ktr_units);  skip; intro r9 x9 h9 tk9 hR F9 N9 l9; (obtain ⟨x9, d9, n19, n29, n39, n49, t19, t29, t39, t49, e9, e8, o9⟩ := hR; subst e9; subst e8; have l9 := ltN l9; (try simp only [List.nil_append, List.cons_append, List.mem_cons, List.not_mem_nil, or_false, forall_eq_or_imp, forall_eq] at N9 l9); (try (obtain ⟨la9, lb9⟩ := l9))); (try dsimp only))) | ((with_reducible show wpAny _ _ (call (Value.ref 261) [Value.ref _, Value.ref _, Value.int _ _]) _ _ _); k_dflt (refine' Tri.use (c_kitty ?p_hx ?p_hdx ?p_hmo ?p_hmd ?p_hsd ?p_hlo ?p_hst ?p_hg ?p_he ?p_hcc ?p_hnm) ?k1 ?k2 ?k3 ?k4 ?k5 ?kK ?kd ?ku ?_; (case k1 => k_asm); (case k2 => k_asm); (case k3 => k_asm); (case k4 => k_asm); (case k5 => k_asm); (case kK => first | exact rfl | assumption); (case kd => ktr_room); (case ku => ktr_units); (case p_hx => k_mem); (case p_hdx => k_mem); (case p_hmo => k_mem); (case p_hmd => k_mem); (case p_hsd => k_mem); (case p_hlo => k_asm); (case p_hst => assumption); (case p_hg => (first | with_reducible assumption | decide | exact le9 (by with_reducible assumption) | omega)); (case p_he => (first | with_reducible assumption | decide | exact le9 (by with_reducible assumption) | omega)); (case p_hcc => with_reducible assumption); (case p_hnm => with_reducible assumption); skip; intro r9 h9 tk9 hR F9 N9; (obtain ⟨hz9, t9, e9⟩ := hR; subst e9); (try dsimp only))) | ((with_reducible show wpAny _ _ (call (Value.ref 404) [Value.str _ _, Value.ref _, Value.int _ _, Value.int _ _, Value.int _ _, Value.bytes _ _]) _ _ _); k_dflt (refine' Tri.use (c_due ?p_hD ?p_hh ?p_he ?p_hpl) ?k1 ?k2 ?k3 ?k4 ?k5 ?kK ?kd ?ku ?_; (case k1 => k_asm); (case k2 => k_asm); (case k3 => k_asm); (case k4 => k_asm); (case k5 => k_asm); (case kK => first | exact rfl | assumption); (case kd => ktr_room); (case ku => ktr_units); (case p_hD => (first | exact .letter (by first | with_reducible assumption | exact PairAt.nil (by with_reducible assumption) | exact ⟨_, rfl, ⟨_, rfl⟩, .inl (by k_mem)⟩) (by (first | omega | ((try simp only [Array.size_append, List.size_toArray, List.length_cons, List.length_nil, byteArr_size]); omega) | exact Nat.le_trans (by assumption) (by decide))) | exact .figure (by first | with_reducible assumption | exact PairAt.nil (by with_reducible assumption) | exact ⟨_, rfl, ⟨_, rfl⟩, .inl (by k_mem)⟩) (by (first | with_reducible assumption | decide | exact le9 (by with_reducible assumption) | omega)) | exact .sign (by first | with_reducible assumption | exact PairAt.nil (by with_reducible assumption) | exact ⟨_, rfl, ⟨_, rfl⟩, .inl (by k_mem)⟩) (by with_reducible assumption) | exact .named (by first | with_reducible assumption | exact PairAt.nil (by with_reducible assumption) | exact ⟨_, rfl, ⟨_, rfl⟩, .inl (by k_mem)⟩) (by (first | with_reducible assumption | decide | exact le9 (by with_reducible assumption) | omega)))); (case p_hh => (first | with_reducible assumption | decide | exact le9 (by with_reducible assumption) | omega)); (case p_he => (first | with_reducible assumption | decide | exact le9 (by with_reducible assumption) | omega)); (case p_hpl => (first | omega | ((try simp only [Array.size_append, List.size_toArray, List.length_cons, List.length_nil, byteArr_size]); omega) | exact Nat.le_trans (by assumption) (by decide))); skip; intro r9 h9 tk9 hR F9 N9; (obtain ⟨hz9, t9, e9⟩ := hR; subst e9); (try dsimp only))) | (with_reducible ((with_reducible first | (show wpAny _ _ (subscriptTail (PySem.Expr.Name (Str.ofString "row") _) _ (Value.ref _) (Value.int _ _)) _ _ _; refine' pair_fst ?riN ?riF ?riX ?riR ?_ ?riS)); (case riS => with_unfolding_all rfl); (case riN => k_asm); (case riF => k_asm); (case riX => k_asm); (case riR => exact PairAt.nil (by with_reducible assumption)))) | (with_reducible (first | (with_reducible refine ite_strT (by decide) ?_) | (with_reducible refine ite_strF (by decide) ?_))) | (with_reducible (with_reducible refine ite_neF ?inH ?_; (case inH => ((rename ∀ e, 1 ≤ e ∧ e ≤ 3 → kk _ _ _ _ e _ _ = _ => hl9); exact hl9 _ ⟨by omega, by omega⟩)))) | walk1)))))
  · rename SignIs _ _ _ _ => hS
    have hNm : NameOk (#[] : BA) := .inl rfl
    have hCC := sign_cc hS hh hf
    have hC := sign_code hS
    have hz := sign_size hS
    have hb := And.intro hS.1 hS.2.1
    have hLaw := fun (e : Int) (he : 1 ≤ e ∧ e ≤ 3) => dueS_eq (nl := nl) (ba := ba) (e := e) hS hh (Int.le_trans (by decide) hf.1) (Int.lt_of_le_of_lt hf.2 (by decide)) he
    (repeat' (first | ((with_reducible show wpAny _ _ (call (Value.ref 357) [Value.ref _, Value.ref _, Value.int _ _]) _ _ _); k_dflt (refine' TriG.use (c_draw ?p_hcl ?p_hys ?p_hyl ?p_hsp ?p_hU ?p_ha ?p_hm ?p_hne) ?k1 ?k2 ?k3 ?k4 ?k5 ?kK ?kd ?ku ?_; (case k1 => k_asm); (case k2 => k_asm); (case k3 => k_asm); (case k4 => k_asm); (case k5 => k_asm); (case kK => first | exact rfl | assumption); (case kd => ktr_room); (case ku => ktr_units); (case p_hcl => k_mem); (case p_hys => assumption); (case p_hyl => (first | omega | (rename _ = List.length (List.map _ (List.take 40 _)) => hl9; rw [List.length_map, List.length_take] at hl9; omega))); (case p_hsp => k_mem); (case p_hU => k_updF); (case p_ha => (first | with_reducible assumption | decide | exact le9 (by with_reducible assumption) | omega)); (case p_hm => (first | with_reducible assumption | decide | exact le9 (by with_reducible assumption) | omega)); (case p_hne => (first | assumption | k_ne | omega)); skip; intro r9 x9 q9 h9 tk9 hR F9 N9 l9; (obtain ⟨v9, t9, ta9, k9, e9, e8, e7, lo9, hi9⟩ := hR; subst e9; subst e8; subst e7; (try dsimp only [List.nil_append] at N9); clear l9; (try simp only [Int.reduceBEq, Bool.false_eq_true, reduceIte, Int.reduceAdd] at hi9)); (try dsimp only))) | ((with_reducible show wpAny _ _ (call (Value.ref 411) [Value.ref _, Value.ref _, Value.bool _, Value.ref _]) _ _ _); k_dflt (refine' TriG.use (c_lkey ?p_hcl ?p_hys ?p_hyl ?p_hsp ?p_hU ?p_ha ?p_hne ?p_hwy ?p_hwn) ?k1 ?k2 ?k3 ?k4 ?k5 ?kK ?kd ?ku ?_; (case k1 => k_asm); (case k2 => k_asm); (case k3 => k_asm); (case k4 => k_asm); (case k5 => k_asm); (case kK => first | exact rfl | assumption); (case kd => ktr_room); (case ku => ktr_units); (case p_hcl => k_mem); (case p_hys => assumption); (case p_hyl => (first | omega | (rename _ = List.length (List.map _ (List.take 40 _)) => hl9; rw [List.length_map, List.length_take] at hl9; omega))); (case p_hsp => k_mem); (case p_hU => k_updF); (case p_ha => (first | with_reducible assumption | decide | exact le9 (by with_reducible assumption) | omega)); (case p_hne => (first | assumption | k_ne | omega)); (case p_hwy => k_mem); (case p_hwn => (first | assumption | k_ne | omega)); skip; intro r9 x9 q9 h9 tk9 hR F9 N9 l9; (obtain ⟨at9, ta9, k9, e7, lo9, hi9, K9⟩ := hR; subst e7; (try dsimp only at N9); have l8 := ltN l9; clear l9; (try dsimp only at l8); cases K9 <;> (simp only [ledC, List.nil_append, List.cons_append, List.mem_cons, List.not_mem_nil, or_false, forall_eq_or_imp, forall_eq] at N9 l8)); (try dsimp only))) | ((with_reducible show wpAny _ _ (call (Value.ref 152) [Value.bytes _ _, Value.int _ _, Value.int _ _, Value.int _ _]) _ _ _); k_dflt (refine' TriX.use (c_key4 ) ?k1 ?k2 ?k3 ?k4 ?k5 ?kK ?kd ?ku ?_; (case k1 => k_asm); (case k2 => k_asm); (case k3 => k_asm); (case k4 => k_asm); (case k5 => k_asm); (case kK => first | exact rfl | assumption); (case kd => ktr_room); (case ku => ktr_units);  skip; intro r9 x9 h9 tk9 hR F9 N9 l9; (obtain ⟨x9, d9, n19, n29, n39, n49, t19, t29, t39, t49, e9, e8, o9⟩ := hR; subst e9; subst e8; have l9 := ltN l9; (try simp only [List.nil_append, List.cons_append, List.mem_cons, List.not_mem_nil, or_false, forall_eq_or_imp, forall_eq] at N9 l9); (try (obtain ⟨la9, lb9⟩ := l9))); (try dsimp only))) | ((with_reducible show wpAny _ _ (call (Value.ref 261) [Value.ref _, Value.ref _, Value.int _ _]) _ _ _); k_dflt (refine' Tri.use (c_kitty ?p_hx ?p_hdx ?p_hmo ?p_hmd ?p_hsd ?p_hlo ?p_hst ?p_hg ?p_he ?p_hcc ?p_hnm) ?k1 ?k2 ?k3 ?k4 ?k5 ?kK ?kd ?ku ?_; (case k1 => k_asm); (case k2 => k_asm); (case k3 => k_asm); (case k4 => k_asm); (case k5 => k_asm); (case kK => first | exact rfl | assumption); (case kd => ktr_room); (case ku => ktr_units); (case p_hx => k_mem); (case p_hdx => k_mem); (case p_hmo => k_mem); (case p_hmd => k_mem); (case p_hsd => k_mem); (case p_hlo => k_asm); (case p_hst => assumption); (case p_hg => (first | with_reducible assumption | decide | exact le9 (by with_reducible assumption) | omega)); (case p_he => (first | with_reducible assumption | decide | exact le9 (by with_reducible assumption) | omega)); (case p_hcc => with_reducible assumption); (case p_hnm => with_reducible assumption); skip; intro r9 h9 tk9 hR F9 N9; (obtain ⟨hz9, t9, e9⟩ := hR; subst e9); (try dsimp only))) | ((with_reducible show wpAny _ _ (call (Value.ref 404) [Value.str _ _, Value.ref _, Value.int _ _, Value.int _ _, Value.int _ _, Value.bytes _ _]) _ _ _); k_dflt (refine' Tri.use (c_due ?p_hD ?p_hh ?p_he ?p_hpl) ?k1 ?k2 ?k3 ?k4 ?k5 ?kK ?kd ?ku ?_; (case k1 => k_asm); (case k2 => k_asm); (case k3 => k_asm); (case k4 => k_asm); (case k5 => k_asm); (case kK => first | exact rfl | assumption); (case kd => ktr_room); (case ku => ktr_units); (case p_hD => (first | exact .letter (by first | with_reducible assumption | exact PairAt.nil (by with_reducible assumption) | exact ⟨_, rfl, ⟨_, rfl⟩, .inl (by k_mem)⟩) (by (first | omega | ((try simp only [Array.size_append, List.size_toArray, List.length_cons, List.length_nil, byteArr_size]); omega) | exact Nat.le_trans (by assumption) (by decide))) | exact .figure (by first | with_reducible assumption | exact PairAt.nil (by with_reducible assumption) | exact ⟨_, rfl, ⟨_, rfl⟩, .inl (by k_mem)⟩) (by (first | with_reducible assumption | decide | exact le9 (by with_reducible assumption) | omega)) | exact .sign (by first | with_reducible assumption | exact PairAt.nil (by with_reducible assumption) | exact ⟨_, rfl, ⟨_, rfl⟩, .inl (by k_mem)⟩) (by with_reducible assumption) | exact .named (by first | with_reducible assumption | exact PairAt.nil (by with_reducible assumption) | exact ⟨_, rfl, ⟨_, rfl⟩, .inl (by k_mem)⟩) (by (first | with_reducible assumption | decide | exact le9 (by with_reducible assumption) | omega)))); (case p_hh => (first | with_reducible assumption | decide | exact le9 (by with_reducible assumption) | omega)); (case p_he => (first | with_reducible assumption | decide | exact le9 (by with_reducible assumption) | omega)); (case p_hpl => (first | omega | ((try simp only [Array.size_append, List.size_toArray, List.length_cons, List.length_nil, byteArr_size]); omega) | exact Nat.le_trans (by assumption) (by decide))); skip; intro r9 h9 tk9 hR F9 N9; (obtain ⟨hz9, t9, e9⟩ := hR; subst e9); (try dsimp only))) | (with_reducible ((with_reducible first | (show wpAny _ _ (subscriptTail (PySem.Expr.Name (Str.ofString "row") _) _ (Value.ref _) (Value.int _ _)) _ _ _; refine' pair_fst ?riN ?riF ?riX ?riR ?_ ?riS)); (case riS => with_unfolding_all rfl); (case riN => k_asm); (case riF => k_asm); (case riX => k_asm); (case riR => exact PairAt.nil (by with_reducible assumption)))) | (with_reducible (first | (with_reducible refine ite_strT (by decide) ?_) | (with_reducible refine ite_strF (by decide) ?_))) | (with_reducible (with_reducible refine ite_neF ?inH ?_; (case inH => ((rename ∀ e, 1 ≤ e ∧ e ≤ 3 → kk _ _ _ _ e _ _ = _ => hl9); exact hl9 _ ⟨by omega, by omega⟩)))) | (k_unfold; (try dsimp only)) | (k_end; kc_close) | walk1 | (dsimp only; walk1) | (leave1; walk_say "STEP leave1"; (try dsimp only)) | fail "no step"))
    refine' turn_end ?teF ?teN ?teM ?teA ?teK
    case teF => assumption
    case teN => assumption
    case teM => (intro p9 hp9; (repeat first | with_reducible exact hp9 | with_reducible refine List.mem_cons_of_mem _ ?_))
    case teA => omega
    case teK => exact ⟨rfl, rfl, rfl, rfl⟩
  · rename (_, _) ∈ rowsLL => hm
    rename 0 ≤ _ ∧ _ ≤ 7 => hb
    have hNm := (ll_facts _ hm).1
    have hz := (ll_facts _ hm).2.2
    dsimp only at hNm hz
    have hCC := no_cc (c := 0) (f := f) (h := atOf hb) (ll_facts _ hm).2.1
    dsimp only [atOf] at hCC
    have hLaw := fun (e : Int) (he : 1 ≤ e ∧ e ≤ 3) => dueL_eq (h := atOf hb) (nl := nl) (ba := ba) (e := e) hm (Int.le_trans (by decide) hf.1) (Int.lt_of_le_of_lt hf.2 (by decide)) he
    dsimp only [atOf] at hLaw
    (repeat' (first | ((with_reducible show wpAny _ _ (call (Value.ref 357) [Value.ref _, Value.ref _, Value.int _ _]) _ _ _); k_dflt (refine' TriG.use (c_draw ?p_hcl ?p_hys ?p_hyl ?p_hsp ?p_hU ?p_ha ?p_hm ?p_hne) ?k1 ?k2 ?k3 ?k4 ?k5 ?kK ?kd ?ku ?_; (case k1 => k_asm); (case k2 => k_asm); (case k3 => k_asm); (case k4 => k_asm); (case k5 => k_asm); (case kK => first | exact rfl | assumption); (case kd => ktr_room); (case ku => ktr_units); (case p_hcl => k_mem); (case p_hys => assumption); (case p_hyl => (first | omega | (rename _ = List.length (List.map _ (List.take 40 _)) => hl9; rw [List.length_map, List.length_take] at hl9; omega))); (case p_hsp => k_mem); (case p_hU => k_updF); (case p_ha => (first | with_reducible assumption | decide | exact le9 (by with_reducible assumption) | omega)); (case p_hm => (first | with_reducible assumption | decide | exact le9 (by with_reducible assumption) | omega)); (case p_hne => (first | assumption | k_ne | omega)); skip; intro r9 x9 q9 h9 tk9 hR F9 N9 l9; (obtain ⟨v9, t9, ta9, k9, e9, e8, e7, lo9, hi9⟩ := hR; subst e9; subst e8; subst e7; (try dsimp only [List.nil_append] at N9); clear l9; (try simp only [Int.reduceBEq, Bool.false_eq_true, reduceIte, Int.reduceAdd] at hi9)); (try dsimp only))) | ((with_reducible show wpAny _ _ (call (Value.ref 411) [Value.ref _, Value.ref _, Value.bool _, Value.ref _]) _ _ _); k_dflt (refine' TriG.use (c_lkey ?p_hcl ?p_hys ?p_hyl ?p_hsp ?p_hU ?p_ha ?p_hne ?p_hwy ?p_hwn) ?k1 ?k2 ?k3 ?k4 ?k5 ?kK ?kd ?ku ?_; (case k1 => k_asm); (case k2 => k_asm); (case k3 => k_asm); (case k4 => k_asm); (case k5 => k_asm); (case kK => first | exact rfl | assumption); (case kd => ktr_room); (case ku => ktr_units); (case p_hcl => k_mem); (case p_hys => assumption); (case p_hyl => (first | omega | (rename _ = List.length (List.map _ (List.take 40 _)) => hl9; rw [List.length_map, List.length_take] at hl9; omega))); (case p_hsp => k_mem); (case p_hU => k_updF); (case p_ha => (first | with_reducible assumption | decide | exact le9 (by with_reducible assumption) | omega)); (case p_hne => (first | assumption | k_ne | omega)); (case p_hwy => k_mem); (case p_hwn => (first | assumption | k_ne | omega)); skip; intro r9 x9 q9 h9 tk9 hR F9 N9 l9; (obtain ⟨at9, ta9, k9, e7, lo9, hi9, K9⟩ := hR; subst e7; (try dsimp only at N9); have l8 := ltN l9; clear l9; (try dsimp only at l8); cases K9 <;> (simp only [ledC, List.nil_append, List.cons_append, List.mem_cons, List.not_mem_nil, or_false, forall_eq_or_imp, forall_eq] at N9 l8)); (try dsimp only))) | ((with_reducible show wpAny _ _ (call (Value.ref 152) [Value.bytes _ _, Value.int _ _, Value.int _ _, Value.int _ _]) _ _ _); k_dflt (refine' TriX.use (c_key4 ) ?k1 ?k2 ?k3 ?k4 ?k5 ?kK ?kd ?ku ?_; (case k1 => k_asm); (case k2 => k_asm); (case k3 => k_asm); (case k4 => k_asm); (case k5 => k_asm); (case kK => first | exact rfl | assumption); (case kd => ktr_room); (case ku => ktr_units);  skip; intro r9 x9 h9 tk9 hR F9 N9 l9; (obtain ⟨x9, d9, n19, n29, n39, n49, t19, t29, t39, t49, e9, e8, o9⟩ := hR; subst e9; subst e8; have l9 := ltN l9; (try simp only [List.nil_append, List.cons_append, List.mem_cons, List.not_mem_nil, or_false, forall_eq_or_imp, forall_eq] at N9 l9); (try (obtain ⟨la9, lb9⟩ := l9))); (try dsimp only))) | ((with_reducible show wpAny _ _ (call (Value.ref 261) [Value.ref _, Value.ref _, Value.int _ _]) _ _ _); k_dflt (refine' Tri.use (c_kitty ?p_hx ?p_hdx ?p_hmo ?p_hmd ?p_hsd ?p_hlo ?p_hst ?p_hg ?p_he ?p_hcc ?p_hnm) ?k1 ?k2 ?k3 ?k4 ?k5 ?kK ?kd ?ku ?_; (case k1 => k_asm); (case k2 => k_asm); (case k3 => k_asm); (case k4 => k_asm); (case k5 => k_asm); (case kK => first | exact rfl | assumption); (case kd => ktr_room); (case ku => ktr_units); (case p_hx => k_mem); (case p_hdx => k_mem); (case p_hmo => k_mem); (case p_hmd => k_mem); (case p_hsd => k_mem); (case p_hlo => k_asm); (case p_hst => assumption); (case p_hg => (first | with_reducible assumption | decide | exact le9 (by with_reducible assumption) | omega)); (case p_he => (first | with_reducible assumption | decide | exact le9 (by with_reducible assumption) | omega)); (case p_hcc => with_reducible assumption); (case p_hnm => with_reducible assumption); skip; intro r9 h9 tk9 hR F9 N9; (obtain ⟨hz9, t9, e9⟩ := hR; subst e9); (try dsimp only))) | ((with_reducible show wpAny _ _ (call (Value.ref 404) [Value.str _ _, Value.ref _, Value.int _ _, Value.int _ _, Value.int _ _, Value.bytes _ _]) _ _ _); k_dflt (refine' Tri.use (c_due ?p_hD ?p_hh ?p_he ?p_hpl) ?k1 ?k2 ?k3 ?k4 ?k5 ?kK ?kd ?ku ?_; (case k1 => k_asm); (case k2 => k_asm); (case k3 => k_asm); (case k4 => k_asm); (case k5 => k_asm); (case kK => first | exact rfl | assumption); (case kd => ktr_room); (case ku => ktr_units); (case p_hD => (first | exact .letter (by first | with_reducible assumption | exact PairAt.nil (by with_reducible assumption) | exact ⟨_, rfl, ⟨_, rfl⟩, .inl (by k_mem)⟩) (by (first | omega | ((try simp only [Array.size_append, List.size_toArray, List.length_cons, List.length_nil, byteArr_size]); omega) | exact Nat.le_trans (by assumption) (by decide))) | exact .figure (by first | with_reducible assumption | exact PairAt.nil (by with_reducible assumption) | exact ⟨_, rfl, ⟨_, rfl⟩, .inl (by k_mem)⟩) (by (first | with_reducible assumption | decide | exact le9 (by with_reducible assumption) | omega)) | exact .sign (by first | with_reducible assumption | exact PairAt.nil (by with_reducible assumption) | exact ⟨_, rfl, ⟨_, rfl⟩, .inl (by k_mem)⟩) (by with_reducible assumption) | exact .named (by first | with_reducible assumption | exact PairAt.nil (by with_reducible assumption) | exact ⟨_, rfl, ⟨_, rfl⟩, .inl (by k_mem)⟩) (by (first | with_reducible assumption | decide | exact le9 (by with_reducible assumption) | omega)))); (case p_hh => (first | with_reducible assumption | decide | exact le9 (by with_reducible assumption) | omega)); (case p_he => (first | with_reducible assumption | decide | exact le9 (by with_reducible assumption) | omega)); (case p_hpl => (first | omega | ((try simp only [Array.size_append, List.size_toArray, List.length_cons, List.length_nil, byteArr_size]); omega) | exact Nat.le_trans (by assumption) (by decide))); skip; intro r9 h9 tk9 hR F9 N9; (obtain ⟨hz9, t9, e9⟩ := hR; subst e9); (try dsimp only))) | (with_reducible ((with_reducible first | (show wpAny _ _ (subscriptTail (PySem.Expr.Name (Str.ofString "row") _) _ (Value.ref _) (Value.int _ _)) _ _ _; refine' pair_fst ?riN ?riF ?riX ?riR ?_ ?riS)); (case riS => with_unfolding_all rfl); (case riN => k_asm); (case riF => k_asm); (case riX => k_asm); (case riR => exact PairAt.nil (by with_reducible assumption)))) | (with_reducible (first | (with_reducible refine ite_strT (by decide) ?_) | (with_reducible refine ite_strF (by decide) ?_))) | (with_reducible (with_reducible refine ite_neF ?inH ?_; (case inH => ((rename ∀ e, 1 ≤ e ∧ e ≤ 3 → kk _ _ _ _ e _ _ = _ => hl9); exact hl9 _ ⟨by omega, by omega⟩)))) | (k_unfold; (try dsimp only)) | (k_end; kc_close) | walk1 | (dsimp only; walk1) | (leave1; walk_say "STEP leave1"; (try dsimp only)) | fail "no step"))
    refine' turn_end ?teF ?teN ?teM ?teA ?teK
    case teF => assumption
    case teN => assumption
    case teM => (intro p9 hp9; (repeat first | with_reducible exact hp9 | with_reducible refine List.mem_cons_of_mem _ ?_))
    case teA => omega
    case teK => exact ⟨rfl, rfl, rfl, rfl⟩
  · rename (_, _) ∈ rowsFF => hm
    rename 0 ≤ _ ∧ _ ≤ 7 => hb
    have hNm := (ff_facts _ hm).1
    have hz := (ff_facts _ hm).2.2
    dsimp only at hNm hz
    have hCC := no_cc (c := 0) (f := f) (h := atOf hb) (ff_facts _ hm).2.1
    dsimp only [atOf] at hCC
    have hLaw := fun (e : Int) (he : 1 ≤ e ∧ e ≤ 3) => dueF_eq (h := atOf hb) (nl := nl) (ba := ba) (e := e) hm (Int.le_trans (by decide) hf.1) (Int.lt_of_le_of_lt hf.2 (by decide)) he
    dsimp only [atOf] at hLaw
    (repeat' (first | ((with_reducible show wpAny _ _ (call (Value.ref 357) [Value.ref _, Value.ref _, Value.int _ _]) _ _ _); k_dflt (refine' TriG.use (c_draw ?p_hcl ?p_hys ?p_hyl ?p_hsp ?p_hU ?p_ha ?p_hm ?p_hne) ?k1 ?k2 ?k3 ?k4 ?k5 ?kK ?kd ?ku ?_; (case k1 => k_asm); (case k2 => k_asm); (case k3 => k_asm); (case k4 => k_asm); (case k5 => k_asm); (case kK => first | exact rfl | assumption); (case kd => ktr_room); (case ku => ktr_units); (case p_hcl => k_mem); (case p_hys => assumption); (case p_hyl => (first | omega | (rename _ = List.length (List.map _ (List.take 40 _)) => hl9; rw [List.length_map, List.length_take] at hl9; omega))); (case p_hsp => k_mem); (case p_hU => k_updF); (case p_ha => (first | with_reducible assumption | decide | exact le9 (by with_reducible assumption) | omega)); (case p_hm => (first | with_reducible assumption | decide | exact le9 (by with_reducible assumption) | omega)); (case p_hne => (first | assumption | k_ne | omega)); skip; intro r9 x9 q9 h9 tk9 hR F9 N9 l9; (obtain ⟨v9, t9, ta9, k9, e9, e8, e7, lo9, hi9⟩ := hR; subst e9; subst e8; subst e7; (try dsimp only [List.nil_append] at N9); clear l9; (try simp only [Int.reduceBEq, Bool.false_eq_true, reduceIte, Int.reduceAdd] at hi9)); (try dsimp only))) | ((with_reducible show wpAny _ _ (call (Value.ref 411) [Value.ref _, Value.ref _, Value.bool _, Value.ref _]) _ _ _); k_dflt (refine' TriG.use (c_lkey ?p_hcl ?p_hys ?p_hyl ?p_hsp ?p_hU ?p_ha ?p_hne ?p_hwy ?p_hwn) ?k1 ?k2 ?k3 ?k4 ?k5 ?kK ?kd ?ku ?_; (case k1 => k_asm); (case k2 => k_asm); (case k3 => k_asm); (case k4 => k_asm); (case k5 => k_asm); (case kK => first | exact rfl | assumption); (case kd => ktr_room); (case ku => ktr_units); (case p_hcl => k_mem); (case p_hys => assumption); (case p_hyl => (first | omega | (rename _ = List.length (List.map _ (List.take 40 _)) => hl9; rw [List.length_map, List.length_take] at hl9; omega))); (case p_hsp => k_mem); (case p_hU => k_updF); (case p_ha => (first | with_reducible assumption | decide | exact le9 (by with_reducible assumption) | omega)); (case p_hne => (first | assumption | k_ne | omega)); (case p_hwy => k_mem); (case p_hwn => (first | assumption | k_ne | omega)); skip; intro r9 x9 q9 h9 tk9 hR F9 N9 l9; (obtain ⟨at9, ta9, k9, e7, lo9, hi9, K9⟩ := hR; subst e7; (try dsimp only at N9); have l8 := ltN l9; clear l9; (try dsimp only at l8); cases K9 <;> (simp only [ledC, List.nil_append, List.cons_append, List.mem_cons, List.not_mem_nil, or_false, forall_eq_or_imp, forall_eq] at N9 l8)); (try dsimp only))) | ((with_reducible show wpAny _ _ (call (Value.ref 152) [Value.bytes _ _, Value.int _ _, Value.int _ _, Value.int _ _]) _ _ _); k_dflt (refine' TriX.use (c_key4 ) ?k1 ?k2 ?k3 ?k4 ?k5 ?kK ?kd ?ku ?_; (case k1 => k_asm); (case k2 => k_asm); (case k3 => k_asm); (case k4 => k_asm); (case k5 => k_asm); (case kK => first | exact rfl | assumption); (case kd => ktr_room); (case ku => ktr_units);  skip; intro r9 x9 h9 tk9 hR F9 N9 l9; (obtain ⟨x9, d9, n19, n29, n39, n49, t19, t29, t39, t49, e9, e8, o9⟩ := hR; subst e9; subst e8; have l9 := ltN l9; (try simp only [List.nil_append, List.cons_append, List.mem_cons, List.not_mem_nil, or_false, forall_eq_or_imp, forall_eq] at N9 l9); (try (obtain ⟨la9, lb9⟩ := l9))); (try dsimp only))) | ((with_reducible show wpAny _ _ (call (Value.ref 261) [Value.ref _, Value.ref _, Value.int _ _]) _ _ _); k_dflt (refine' Tri.use (c_kitty ?p_hx ?p_hdx ?p_hmo ?p_hmd ?p_hsd ?p_hlo ?p_hst ?p_hg ?p_he ?p_hcc ?p_hnm) ?k1 ?k2 ?k3 ?k4 ?k5 ?kK ?kd ?ku ?_; (case k1 => k_asm); (case k2 => k_asm); (case k3 => k_asm); (case k4 => k_asm); (case k5 => k_asm); (case kK => first | exact rfl | assumption); (case kd => ktr_room); (case ku => ktr_units); (case p_hx => k_mem); (case p_hdx => k_mem); (case p_hmo => k_mem); (case p_hmd => k_mem); (case p_hsd => k_mem); (case p_hlo => k_asm); (case p_hst => assumption); (case p_hg => (first | with_reducible assumption | decide | exact le9 (by with_reducible assumption) | omega)); (case p_he => (first | with_reducible assumption | decide | exact le9 (by with_reducible assumption) | omega)); (case p_hcc => with_reducible assumption); (case p_hnm => with_reducible assumption); skip; intro r9 h9 tk9 hR F9 N9; (obtain ⟨hz9, t9, e9⟩ := hR; subst e9); (try dsimp only))) | ((with_reducible show wpAny _ _ (call (Value.ref 404) [Value.str _ _, Value.ref _, Value.int _ _, Value.int _ _, Value.int _ _, Value.bytes _ _]) _ _ _); k_dflt (refine' Tri.use (c_due ?p_hD ?p_hh ?p_he ?p_hpl) ?k1 ?k2 ?k3 ?k4 ?k5 ?kK ?kd ?ku ?_; (case k1 => k_asm); (case k2 => k_asm); (case k3 => k_asm); (case k4 => k_asm); (case k5 => k_asm); (case kK => first | exact rfl | assumption); (case kd => ktr_room); (case ku => ktr_units); (case p_hD => (first | exact .letter (by first | with_reducible assumption | exact PairAt.nil (by with_reducible assumption) | exact ⟨_, rfl, ⟨_, rfl⟩, .inl (by k_mem)⟩) (by (first | omega | ((try simp only [Array.size_append, List.size_toArray, List.length_cons, List.length_nil, byteArr_size]); omega) | exact Nat.le_trans (by assumption) (by decide))) | exact .figure (by first | with_reducible assumption | exact PairAt.nil (by with_reducible assumption) | exact ⟨_, rfl, ⟨_, rfl⟩, .inl (by k_mem)⟩) (by (first | with_reducible assumption | decide | exact le9 (by with_reducible assumption) | omega)) | exact .sign (by first | with_reducible assumption | exact PairAt.nil (by with_reducible assumption) | exact ⟨_, rfl, ⟨_, rfl⟩, .inl (by k_mem)⟩) (by with_reducible assumption) | exact .named (by first | with_reducible assumption | exact PairAt.nil (by with_reducible assumption) | exact ⟨_, rfl, ⟨_, rfl⟩, .inl (by k_mem)⟩) (by (first | with_reducible assumption | decide | exact le9 (by with_reducible assumption) | omega)))); (case p_hh => (first | with_reducible assumption | decide | exact le9 (by with_reducible assumption) | omega)); (case p_he => (first | with_reducible assumption | decide | exact le9 (by with_reducible assumption) | omega)); (case p_hpl => (first | omega | ((try simp only [Array.size_append, List.size_toArray, List.length_cons, List.length_nil, byteArr_size]); omega) | exact Nat.le_trans (by assumption) (by decide))); skip; intro r9 h9 tk9 hR F9 N9; (obtain ⟨hz9, t9, e9⟩ := hR; subst e9); (try dsimp only))) | (with_reducible ((with_reducible first | (show wpAny _ _ (subscriptTail (PySem.Expr.Name (Str.ofString "row") _) _ (Value.ref _) (Value.int _ _)) _ _ _; refine' pair_fst ?riN ?riF ?riX ?riR ?_ ?riS)); (case riS => with_unfolding_all rfl); (case riN => k_asm); (case riF => k_asm); (case riX => k_asm); (case riR => exact PairAt.nil (by with_reducible assumption)))) | (with_reducible (first | (with_reducible refine ite_strT (by decide) ?_) | (with_reducible refine ite_strF (by decide) ?_))) | (with_reducible (with_reducible refine ite_neF ?inH ?_; (case inH => ((rename ∀ e, 1 ≤ e ∧ e ≤ 3 → kk _ _ _ _ e _ _ = _ => hl9); exact hl9 _ ⟨by omega, by omega⟩)))) | (k_unfold; (try dsimp only)) | (k_end; kc_close) | walk1 | (dsimp only; walk1) | (leave1; walk_say "STEP leave1"; (try dsimp only)) | fail "no step"))
    refine' turn_end ?teF ?teN ?teM ?teA ?teK
    case teF => assumption
    case teN => assumption
    case teM => (intro p9 hp9; (repeat first | with_reducible exact hp9 | with_reducible refine List.mem_cons_of_mem _ ?_))
    case teA => omega
    case teK => exact ⟨rfl, rfl, rfl, rfl⟩
  · rename (_, _) ∈ rowsC => hm
    rename (0 ≤ _ ∧ _ ≤ 7) ∧ _ => hb
    have hNm := (cc_facts _ hm).1
    have hz := (cc_facts _ hm).2.2
    have hz2 := plainK_size' hm (nl := nl) (ba := ba)
    dsimp only at hNm hz
    have hCC := no_cc (c := 0) (f := f) (h := atOf hb.1) (cc_facts _ hm).2.1
    dsimp only [atOf] at hCC
    have hLaw := fun (e : Int) (he : 1 ≤ e ∧ e ≤ 3) => dueC_eq (h := atOf hb.1) (nl := nl) (ba := ba) (e := e) hm hb.2 hh (Int.le_trans (by decide) hf.1) (Int.lt_of_le_of_lt hf.2 (by decide)) he
    dsimp only [atOf] at hLaw
    (repeat' (first | ((with_reducible show wpAny _ _ (call (Value.ref 357) [Value.ref _, Value.ref _, Value.int _ _]) _ _ _); k_dflt (refine' TriG.use (c_draw ?p_hcl ?p_hys ?p_hyl ?p_hsp ?p_hU ?p_ha ?p_hm ?p_hne) ?k1 ?k2 ?k3 ?k4 ?k5 ?kK ?kd ?ku ?_; (case k1 => k_asm); (case k2 => k_asm); (case k3 => k_asm); (case k4 => k_asm); (case k5 => k_asm); (case kK => first | exact rfl | assumption); (case kd => ktr_room); (case ku => ktr_units); (case p_hcl => k_mem); (case p_hys => assumption); (case p_hyl => (first | omega | (rename _ = List.length (List.map _ (List.take 40 _)) => hl9; rw [List.length_map, List.length_take] at hl9; omega))); (case p_hsp => k_mem); (case p_hU => k_updF); (case p_ha => (first | with_reducible assumption | decide | exact le9 (by with_reducible assumption) | omega)); (case p_hm => (first | with_reducible assumption | decide | exact le9 (by with_reducible assumption) | omega)); (case p_hne => (first | assumption | k_ne | omega)); skip; intro r9 x9 q9 h9 tk9 hR F9 N9 l9; (obtain ⟨v9, t9, ta9, k9, e9, e8, e7, lo9, hi9⟩ := hR; subst e9; subst e8; subst e7; (try dsimp only [List.nil_append] at N9); clear l9; (try simp only [Int.reduceBEq, Bool.false_eq_true, reduceIte, Int.reduceAdd] at hi9)); (try dsimp only))) | ((with_reducible show wpAny _ _ (call (Value.ref 411) [Value.ref _, Value.ref _, Value.bool _, Value.ref _]) _ _ _); k_dflt (refine' TriG.use (c_lkey ?p_hcl ?p_hys ?p_hyl ?p_hsp ?p_hU ?p_ha ?p_hne ?p_hwy ?p_hwn) ?k1 ?k2 ?k3 ?k4 ?k5 ?kK ?kd ?ku ?_; (case k1 => k_asm); (case k2 => k_asm); (case k3 => k_asm); (case k4 => k_asm); (case k5 => k_asm); (case kK => first | exact rfl | assumption); (case kd => ktr_room); (case ku => ktr_units); (case p_hcl => k_mem); (case p_hys => assumption); (case p_hyl => (first | omega | (rename _ = List.length (List.map _ (List.take 40 _)) => hl9; rw [List.length_map, List.length_take] at hl9; omega))); (case p_hsp => k_mem); (case p_hU => k_updF); (case p_ha => (first | with_reducible assumption | decide | exact le9 (by with_reducible assumption) | omega)); (case p_hne => (first | assumption | k_ne | omega)); (case p_hwy => k_mem); (case p_hwn => (first | assumption | k_ne | omega)); skip; intro r9 x9 q9 h9 tk9 hR F9 N9 l9; (obtain ⟨at9, ta9, k9, e7, lo9, hi9, K9⟩ := hR; subst e7; (try dsimp only at N9); have l8 := ltN l9; clear l9; (try dsimp only at l8); cases K9 <;> (simp only [ledC, List.nil_append, List.cons_append, List.mem_cons, List.not_mem_nil, or_false, forall_eq_or_imp, forall_eq] at N9 l8)); (try dsimp only))) | ((with_reducible show wpAny _ _ (call (Value.ref 152) [Value.bytes _ _, Value.int _ _, Value.int _ _, Value.int _ _]) _ _ _); k_dflt (refine' TriX.use (c_key4 ) ?k1 ?k2 ?k3 ?k4 ?k5 ?kK ?kd ?ku ?_; (case k1 => k_asm); (case k2 => k_asm); (case k3 => k_asm); (case k4 => k_asm); (case k5 => k_asm); (case kK => first | exact rfl | assumption); (case kd => ktr_room); (case ku => ktr_units);  skip; intro r9 x9 h9 tk9 hR F9 N9 l9; (obtain ⟨x9, d9, n19, n29, n39, n49, t19, t29, t39, t49, e9, e8, o9⟩ := hR; subst e9; subst e8; have l9 := ltN l9; (try simp only [List.nil_append, List.cons_append, List.mem_cons, List.not_mem_nil, or_false, forall_eq_or_imp, forall_eq] at N9 l9); (try (obtain ⟨la9, lb9⟩ := l9))); (try dsimp only))) | ((with_reducible show wpAny _ _ (call (Value.ref 261) [Value.ref _, Value.ref _, Value.int _ _]) _ _ _); k_dflt (refine' Tri.use (c_kitty ?p_hx ?p_hdx ?p_hmo ?p_hmd ?p_hsd ?p_hlo ?p_hst ?p_hg ?p_he ?p_hcc ?p_hnm) ?k1 ?k2 ?k3 ?k4 ?k5 ?kK ?kd ?ku ?_; (case k1 => k_asm); (case k2 => k_asm); (case k3 => k_asm); (case k4 => k_asm); (case k5 => k_asm); (case kK => first | exact rfl | assumption); (case kd => ktr_room); (case ku => ktr_units); (case p_hx => k_mem); (case p_hdx => k_mem); (case p_hmo => k_mem); (case p_hmd => k_mem); (case p_hsd => k_mem); (case p_hlo => k_asm); (case p_hst => assumption); (case p_hg => (first | with_reducible assumption | decide | exact le9 (by with_reducible assumption) | omega)); (case p_he => (first | with_reducible assumption | decide | exact le9 (by with_reducible assumption) | omega)); (case p_hcc => with_reducible assumption); (case p_hnm => with_reducible assumption); skip; intro r9 h9 tk9 hR F9 N9; (obtain ⟨hz9, t9, e9⟩ := hR; subst e9); (try dsimp only))) | ((with_reducible show wpAny _ _ (call (Value.ref 404) [Value.str _ _, Value.ref _, Value.int _ _, Value.int _ _, Value.int _ _, Value.bytes _ _]) _ _ _); k_dflt (refine' Tri.use (c_due ?p_hD ?p_hh ?p_he ?p_hpl) ?k1 ?k2 ?k3 ?k4 ?k5 ?kK ?kd ?ku ?_; (case k1 => k_asm); (case k2 => k_asm); (case k3 => k_asm); (case k4 => k_asm); (case k5 => k_asm); (case kK => first | exact rfl | assumption); (case kd => ktr_room); (case ku => ktr_units); (case p_hD => (first | exact .letter (by first | with_reducible assumption | exact PairAt.nil (by with_reducible assumption) | exact ⟨_, rfl, ⟨_, rfl⟩, .inl (by k_mem)⟩) (by (first | omega | ((try simp only [Array.size_append, List.size_toArray, List.length_cons, List.length_nil, byteArr_size]); omega) | exact Nat.le_trans (by assumption) (by decide))) | exact .figure (by first | with_reducible assumption | exact PairAt.nil (by with_reducible assumption) | exact ⟨_, rfl, ⟨_, rfl⟩, .inl (by k_mem)⟩) (by (first | with_reducible assumption | decide | exact le9 (by with_reducible assumption) | omega)) | exact .sign (by first | with_reducible assumption | exact PairAt.nil (by with_reducible assumption) | exact ⟨_, rfl, ⟨_, rfl⟩, .inl (by k_mem)⟩) (by with_reducible assumption) | exact .named (by first | with_reducible assumption | exact PairAt.nil (by with_reducible assumption) | exact ⟨_, rfl, ⟨_, rfl⟩, .inl (by k_mem)⟩) (by (first | with_reducible assumption | decide | exact le9 (by with_reducible assumption) | omega)))); (case p_hh => (first | with_reducible assumption | decide | exact le9 (by with_reducible assumption) | omega)); (case p_he => (first | with_reducible assumption | decide | exact le9 (by with_reducible assumption) | omega)); (case p_hpl => (first | omega | ((try simp only [Array.size_append, List.size_toArray, List.length_cons, List.length_nil, byteArr_size]); omega) | exact Nat.le_trans (by assumption) (by decide))); skip; intro r9 h9 tk9 hR F9 N9; (obtain ⟨hz9, t9, e9⟩ := hR; subst e9); (try dsimp only))) | (with_reducible ((with_reducible first | (show wpAny _ _ (subscriptTail (PySem.Expr.Name (Str.ofString "row") _) _ (Value.ref _) (Value.int _ _)) _ _ _; refine' pair_fst ?riN ?riF ?riX ?riR ?_ ?riS)); (case riS => with_unfolding_all rfl); (case riN => k_asm); (case riF => k_asm); (case riX => k_asm); (case riR => exact PairAt.nil (by with_reducible assumption)))) | (with_reducible (first | (with_reducible refine ite_strT (by decide) ?_) | (with_reducible refine ite_strF (by decide) ?_))) | (with_reducible (with_reducible refine ite_neF ?inH ?_; (case inH => ((rename ∀ e, 1 ≤ e ∧ e ≤ 3 → kk _ _ _ _ e _ _ = _ => hl9); exact hl9 _ ⟨by omega, by omega⟩)))) | (k_unfold; (try dsimp only)) | (k_end; kc_close) | walk1 | (dsimp only; walk1) | (leave1; walk_say "STEP leave1"; (try dsimp only)) | fail "no step"))
    refine' turn_end ?teF ?teN ?teM ?teA ?teK
    case teF => assumption
    case teN => assumption
    case teM => (intro p9 hp9; (repeat first | with_reducible exact hp9 | with_reducible refine List.mem_cons_of_mem _ ?_))
    case teA => omega
    case teK => exact ⟨rfl, rfl, rfl, rfl⟩
  · rename (_ = 15 ∧ _) ∨ _ => hm
    rename 0 ≤ _ ∧ _ < 18 => hi
    rename _ ∨ _ < 15 => hj
    rename (0 ≤ _ ∧ _ ≤ 7) ∧ _ => hb
    have hNm := (pad_facts hi hm).1
    have hz2 := padP_size (ofLt hi)
    dsimp only [ofLt] at hz2
    have hCC := no_cc (c := 0) (f := f) (h := atOf hb.1) (pad_facts hi hm).2
    dsimp only [atOf] at hCC
    have hLaw := fun (e : Int) (he : 1 ≤ e ∧ e ≤ 3) => duePad_eq (h := atOf hb.1) (nl := nl) (ba := ba) (e := e) hi hj hm hb.2 hh (Int.le_trans (by decide) hf.1) (Int.lt_of_le_of_lt hf.2 (by decide)) he
    dsimp only [atOf] at hLaw
    (repeat' (first | ((with_reducible show wpAny _ _ (call (Value.ref 357) [Value.ref _, Value.ref _, Value.int _ _]) _ _ _); k_dflt (refine' TriG.use (c_draw ?p_hcl ?p_hys ?p_hyl ?p_hsp ?p_hU ?p_ha ?p_hm ?p_hne) ?k1 ?k2 ?k3 ?k4 ?k5 ?kK ?kd ?ku ?_; (case k1 => k_asm); (case k2 => k_asm); (case k3 => k_asm); (case k4 => k_asm); (case k5 => k_asm); (case kK => first | exact rfl | assumption); (case kd => ktr_room); (case ku => ktr_units); (case p_hcl => k_mem); (case p_hys => assumption); (case p_hyl => (first | omega | (rename _ = List.length (List.map _ (List.take 40 _)) => hl9; rw [List.length_map, List.length_take] at hl9; omega))); (case p_hsp => k_mem); (case p_hU => k_updF); (case p_ha => (first | with_reducible assumption | decide | exact le9 (by with_reducible assumption) | omega)); (case p_hm => (first | with_reducible assumption | decide | exact le9 (by with_reducible assumption) | omega)); (case p_hne => (first | assumption | k_ne | omega)); skip; intro r9 x9 q9 h9 tk9 hR F9 N9 l9; (obtain ⟨v9, t9, ta9, k9, e9, e8, e7, lo9, hi9⟩ := hR; subst e9; subst e8; subst e7; (try dsimp only [List.nil_append] at N9); clear l9; (try simp only [Int.reduceBEq, Bool.false_eq_true, reduceIte, Int.reduceAdd] at hi9)); (try dsimp only))) | ((with_reducible show wpAny _ _ (call (Value.ref 411) [Value.ref _, Value.ref _, Value.bool _, Value.ref _]) _ _ _); k_dflt (refine' TriG.use (c_lkey ?p_hcl ?p_hys ?p_hyl ?p_hsp ?p_hU ?p_ha ?p_hne ?p_hwy ?p_hwn) ?k1 ?k2 ?k3 ?k4 ?k5 ?kK ?kd ?ku ?_; (case k1 => k_asm); (case k2 => k_asm); (case k3 => k_asm); (case k4 => k_asm); (case k5 => k_asm); (case kK => first | exact rfl | assumption); (case kd => ktr_room); (case ku => ktr_units); (case p_hcl => k_mem); (case p_hys => assumption); (case p_hyl => (first | omega | (rename _ = List.length (List.map _ (List.take 40 _)) => hl9; rw [List.length_map, List.length_take] at hl9; omega))); (case p_hsp => k_mem); (case p_hU => k_updF); (case p_ha => (first | with_reducible assumption | decide | exact le9 (by with_reducible assumption) | omega)); (case p_hne => (first | assumption | k_ne | omega)); (case p_hwy => k_mem); (case p_hwn => (first | assumption | k_ne | omega)); skip; intro r9 x9 q9 h9 tk9 hR F9 N9 l9; (obtain ⟨at9, ta9, k9, e7, lo9, hi9, K9⟩ := hR; subst e7; (try dsimp only at N9); have l8 := ltN l9; clear l9; (try dsimp only at l8); cases K9 <;> (simp only [ledC, List.nil_append, List.cons_append, List.mem_cons, List.not_mem_nil, or_false, forall_eq_or_imp, forall_eq] at N9 l8)); (try dsimp only))) | ((with_reducible show wpAny _ _ (call (Value.ref 152) [Value.bytes _ _, Value.int _ _, Value.int _ _, Value.int _ _]) _ _ _); k_dflt (refine' TriX.use (c_key4 ) ?k1 ?k2 ?k3 ?k4 ?k5 ?kK ?kd ?ku ?_; (case k1 => k_asm); (case k2 => k_asm); (case k3 => k_asm); (case k4 => k_asm); (case k5 => k_asm); (case kK => first | exact rfl | assumption); (case kd => ktr_room); (case ku => ktr_units);  skip; intro r9 x9 h9 tk9 hR F9 N9 l9; (obtain ⟨x9, d9, n19, n29, n39, n49, t19, t29, t39, t49, e9, e8, o9⟩ := hR; subst e9; subst e8; have l9 := ltN l9; (try simp only [List.nil_append, List.cons_append, List.mem_cons, List.not_mem_nil, or_false, forall_eq_or_imp, forall_eq] at N9 l9); (try (obtain ⟨la9, lb9⟩ := l9))); (try dsimp only))) | ((with_reducible show wpAny _ _ (call (Value.ref 261) [Value.ref _, Value.ref _, Value.int _ _]) _ _ _); k_dflt (refine' Tri.use (c_kitty ?p_hx ?p_hdx ?p_hmo ?p_hmd ?p_hsd ?p_hlo ?p_hst ?p_hg ?p_he ?p_hcc ?p_hnm) ?k1 ?k2 ?k3 ?k4 ?k5 ?kK ?kd ?ku ?_; (case k1 => k_asm); (case k2 => k_asm); (case k3 => k_asm); (case k4 => k_asm); (case k5 => k_asm); (case kK => first | exact rfl | assumption); (case kd => ktr_room); (case ku => ktr_units); (case p_hx => k_mem); (case p_hdx => k_mem); (case p_hmo => k_mem); (case p_hmd => k_mem); (case p_hsd => k_mem); (case p_hlo => k_asm); (case p_hst => assumption); (case p_hg => (first | with_reducible assumption | decide | exact le9 (by with_reducible assumption) | omega)); (case p_he => (first | with_reducible assumption | decide | exact le9 (by with_reducible assumption) | omega)); (case p_hcc => with_reducible assumption); (case p_hnm => with_reducible assumption); skip; intro r9 h9 tk9 hR F9 N9; (obtain ⟨hz9, t9, e9⟩ := hR; subst e9); (try dsimp only))) | ((with_reducible show wpAny _ _ (call (Value.ref 404) [Value.str _ _, Value.ref _, Value.int _ _, Value.int _ _, Value.int _ _, Value.bytes _ _]) _ _ _); k_dflt (refine' Tri.use (c_due ?p_hD ?p_hh ?p_he ?p_hpl) ?k1 ?k2 ?k3 ?k4 ?k5 ?kK ?kd ?ku ?_; (case k1 => k_asm); (case k2 => k_asm); (case k3 => k_asm); (case k4 => k_asm); (case k5 => k_asm); (case kK => first | exact rfl | assumption); (case kd => ktr_room); (case ku => ktr_units); (case p_hD => (first | exact .letter (by first | with_reducible assumption | exact PairAt.nil (by with_reducible assumption) | exact ⟨_, rfl, ⟨_, rfl⟩, .inl (by k_mem)⟩) (by (first | omega | ((try simp only [Array.size_append, List.size_toArray, List.length_cons, List.length_nil, byteArr_size]); omega) | exact Nat.le_trans (by assumption) (by decide))) | exact .figure (by first | with_reducible assumption | exact PairAt.nil (by with_reducible assumption) | exact ⟨_, rfl, ⟨_, rfl⟩, .inl (by k_mem)⟩) (by (first | with_reducible assumption | decide | exact le9 (by with_reducible assumption) | omega)) | exact .sign (by first | with_reducible assumption | exact PairAt.nil (by with_reducible assumption) | exact ⟨_, rfl, ⟨_, rfl⟩, .inl (by k_mem)⟩) (by with_reducible assumption) | exact .named (by first | with_reducible assumption | exact PairAt.nil (by with_reducible assumption) | exact ⟨_, rfl, ⟨_, rfl⟩, .inl (by k_mem)⟩) (by (first | with_reducible assumption | decide | exact le9 (by with_reducible assumption) | omega)))); (case p_hh => (first | with_reducible assumption | decide | exact le9 (by with_reducible assumption) | omega)); (case p_he => (first | with_reducible assumption | decide | exact le9 (by with_reducible assumption) | omega)); (case p_hpl => (first | omega | ((try simp only [Array.size_append, List.size_toArray, List.length_cons, List.length_nil, byteArr_size]); omega) | exact Nat.le_trans (by assumption) (by decide))); skip; intro r9 h9 tk9 hR F9 N9; (obtain ⟨hz9, t9, e9⟩ := hR; subst e9); (try dsimp only))) | (with_reducible ((with_reducible first | (show wpAny _ _ (subscriptTail (PySem.Expr.Name (Str.ofString "row") _) _ (Value.ref _) (Value.int _ _)) _ _ _; refine' pair_fst ?riN ?riF ?riX ?riR ?_ ?riS)); (case riS => with_unfolding_all rfl); (case riN => k_asm); (case riF => k_asm); (case riX => k_asm); (case riR => exact PairAt.nil (by with_reducible assumption)))) | (with_reducible (first | (with_reducible refine ite_strT (by decide) ?_) | (with_reducible refine ite_strF (by decide) ?_))) | (with_reducible (with_reducible refine ite_neF ?inH ?_; (case inH => ((rename ∀ e, 1 ≤ e ∧ e ≤ 3 → kk _ _ _ _ e _ _ = _ => hl9); exact hl9 _ ⟨by omega, by omega⟩)))) | (k_unfold; (try dsimp only)) | (k_end; kc_close) | walk1 | (dsimp only; walk1) | (leave1; walk_say "STEP leave1"; (try dsimp only)) | fail "no step"))
    refine' turn_end ?teF ?teN ?teM ?teA ?teK
    case teF => assumption
    case teN => assumption
    case teM => (intro p9 hp9; (repeat first | with_reducible exact hp9 | with_reducible refine List.mem_cons_of_mem _ ?_))
    case teA => omega
    case teK => exact ⟨rfl, rfl, rfl, rfl⟩
end Mine
theorem PySem.Challenge.cw_pq1185_01_holds : PySem.Challenge.rw_pq1185_01.Holds := by
  exact Mine.lawA1.2 (Mine.lawA2.2 (Mine.lawA.2 (Mine.lawB.2 (Mine.lawC.2 Mine.lawD))))
