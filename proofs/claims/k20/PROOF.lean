import PyProof.Rows.All
import Wide.All
import OpenK.AllK
import Wide.FinOn
import HandS.ForMost
import HandS.Exc
import HandS.TryOnly
import HandS.ExcOwn
import HandS.WordsExc
import HandS.Defaults
import HandS.CallSlots
import HandS.Conv
import HandS.Flow
import HandS.Style
import HandS.Slots
import HandS.IterVal
import HandS.Wide
import HandS.WideBits
import HandS.SetKeys
import HandS.TupSets
import HandS.DictComp
import HandS.IsInst
import HandS.Deep
import HandS.DeepEq
import HandS.TupAny
import HandS.TupMul
import HandS.Zip
import HandS.Remove
import HandS.ListItems
import HandS.Head0
import HandS.Head1
import HandS.Head2
import HandS.Head3
import HandS.Head4
import HandS.HeadEnd
import HandS.HeadHook1
import HandS.HeadHook2
import HandS.HeadHook3
import HandS.HeadHook4
import HandS.HeadWalk
import KE.SortData
import HandS.Strs
import HandS.SetFor
import KE.KRevSl
import OpenK.KMore
import HandS.Ends
import HandS.SlotsVar
import KE.KDictPairs
import HandS.Small
import HandS.OwnIter
import PyProof.CollectIter
import KE.KItemsList
import HandS.DictTup
import KE.GoesMore
import HandS.Flt
import HandS.RaiseMore
import KE.DataFind
import PyProof.AssignAttr
import KE.GoesEnum
import KE.SortCalls
import KE.KExcMake
import KE.KExcSuper
import KE.KExcInit
import KE.KExcIs
import KE.KDictCopyH
import KE.SortKeyHeap
import HandS.Lambda
import HandS.EndTab
import PySem.Challenge.RW_leastshare_k20_nets_that_are_changed
set_option Elab.async false
set_option linter.all false
set_option maxRecDepth 100000
section
set_option maxHeartbeats 0
namespace PD
open PySem L2
abbrev Frag := PySem.W.Frag
def clsBody : Stmt → List Stmt
  | .ClassDef _ _ _ b _ _ _ _ _ _ _ => b
  | _ => []
def sclsB (K : Frag) (c : Str) : Bool := PySem.W.plainGet K (He.ga K c) Str.empty && (PySem.W.isClsIn K (He.ga K c) && (PySem.W.plainOver K (He.ga K c) && He.eqO (PySem.W.findIn K (.ref (He.ga K c)) "__setattr__") (some (some (.builtin "object.__setattr__")))))
def slotB (K : Frag) (c f : Str) (i : Nat) : Bool := match PySem.W.findIn K (.ref (He.ga K c)) f with
  | some (some (.ref p)) => He.eqO (PySem.W.specialIn K (.ref p) "__get__") (some (some (.builtin "member_descriptor.__get__"))) && (decide (PySem.W.takesIn K (.ref p) = some true) && (decide (PySem.W.typeIn K (.ref p) = some (.type "member_descriptor")) && (decide (PySem.W.slotIn K p (He.ga K c) = some i) && decide (i < 1000))))
  | _ => false
section
open PySem PySem.Calls PyProof.Rows PySem.W
abbrev xScope (f : Str) : Scope := { kind := .function, names := [("self", .local), (f, .local), ("__class__", .free), ("super", .globalImplicit)], isGenerator := false, isCoroutine := false, more := [] }
class XLs where
  xl : List Str
abbrev XL [XLs] : List Str := XLs.xl
def xBase (c : Str) : Str := if c = ("LastFlow" : Str) then "RuntimeError" else if c = ("NoLine" : Str) ∨ c = ("NoFlow" : Str) ∨ c = ("NotChanged" : Str) then "LookupError" else "ValueError"
def xFld (c : Str) : Str := if c = ("NoLine" : Str) ∨ c = ("TooFull" : Str) then "line" else if c = ("NoFlow" : Str) ∨ c = ("NotChanged" : Str) ∨ c = ("NotPlain" : Str) then "flow" else if c = ("Doubled" : Str) then "name" else "number"
def xInitB (K : Frag) (C fI : Addr) (f file : Str) : Bool := match K.lookup fI with
  | some ⟨_, _, .func fd, _⟩ => (match fd.params, fd.body, fd.closure, fd.code with
    | ⟨[], [⟨s1, none, _⟩, ⟨f1, none, _⟩], none, [], [], none, []⟩, .stmts [.Expr (.Call (.Attribute (.Call (.Name s2 _) [] [] _) i q3) [.Name f2 _] [] q5) _, .Assign [.Attribute (.Name s3 _) f3 _] (.Name f4 _) _], [(cl, cc)], .ref cda =>
      decide (s1 = "self") && (decide (f1 = f) && (decide (s2 = "super") && (decide (i = "__init__") && (decide (f2 = f) && (decide (s3 = "self") && (decide (f3 = f) && (decide (f4 = f) && (q3.endLine == q5.line &&
        (decide (cl = "__class__") && (decide (fd.name = "__init__") && (decide (fd.scope = xScope f) && (decide (fd.globals = mainGlobals) && (decide (fd.builtins = builtinsNs) && (decide (fd.defaults = .none) && (decide (fd.kwdefaults = .none) &&
        (codeIn K (.ref cda) fd.qualname && ((clsIn K C).isSome &&
        ((match K.lookup cda with
          | some ⟨_, _, .fields (vs : Array Value), _⟩ => (match (vs[2]? : Option Value) with
            | some (.str fl _) => decide (fl = file)
            | _ => false)
          | _ => false) &&
        (match K.lookup cc with
          | some ⟨_, _, .cell (some (.ref D)), _⟩ => decide (D = C)
          | _ => false)))))))))))))))))))
    | _, _, _, _ => false)
  | _ => false
variable [XLs]
def xTl (B : String) : List Value := [.type B, .type "Exception", .type "BaseException", .type "object"]
def xTxtB (K : Frag) (c f : Str) (B newId initId : String) (file : Str) : Bool :=
  excInitIn K (He.ga K c) (xTl B) newId && (excOver K (He.ga K c) (xTl B) && (He.eqO (findIn K (.ref (He.ga K c)) "__setattr__") (some (some (.builtin "object.__setattr__"))) && (He.eqO (takerIn K (He.ga K c) f) (some none) && (hasDictIn K (He.ga K c) &&
    (He.eqO (findIn K (.ref (He.ga K c)) "__init__") (some (some (.ref (He.ma K (He.ga K c) "__init__")))) && (decide (typeIn K (.ref (He.ma K (He.ga K c) "__init__")) = some (.type "function")) && (He.eqO (ks_superIn K (He.ga K c) (He.ga K c) "__init__") (some (some (.builtin initId))) &&
    (decide (subIn K (.ref (He.ga K c)) (.type B) = some true) && (decide (mroIn K (He.ga K c) (.ref (He.ga K c)) = some true) && (He.eqO (nsIn K cStatics "thirdparty.any") (some none) && (xInitB K (He.ga K c) (He.ma K (He.ga K c) "__init__") f file &&
    He.eqO (findIn K (.ref (He.ga K c)) f) (some none))))))))))))
def xClsB (K : Frag) (c : Str) : Bool :=
  (He.eqO (nsIn K mainGlobals c) (some (some (.ref (He.ga K c))))) &&
  ((keepIn K (.ref (He.ga K c))) &&
  ((decide (subIn K (.ref (He.ga K c)) (.type "BaseException") = some true)) &&
  ((decide (typeIn K (.ref (He.ga K c)) = some (.type "type"))) &&
  ((hasDictIn K (He.ga K c)) &&
  ((He.eqO (findIn K (.ref (He.ga K c)) "__getattribute__") (some (some (.builtin "BaseException.__getattribute__")))) &&
  ((He.eqO (findIn K (.ref (He.ga K c)) "__getattr__") (some none)) &&
  ((XL.all (fun d => decide (exmOne K (.ref (He.ga K c)) (.ref (He.ga K d)) = some (decide (c = d))) && decide (kitOne K (.ref (He.ga K c)) (.ref (He.ga K d)) = some (decide (c = d))))) &&
  (((["ValueError", "LookupError", "RuntimeError"] : List String).all (fun b => decide (kitOne K (.ref (He.ga K c)) (.type b) = some (decide (xBase c = Str.ofString b))))) &&
  (((clsIn K (He.ga K c)).isSome) &&
  ((He.eqO (findIn K (.ref (He.ga K c)) "__class__") (some (some (.builtin "object.__class__")))) &&
  ((He.eqO (specialIn K (.builtin "object.__class__") "__get__") (some (some (.builtin "getset_descriptor.__get__")))) &&
  ((decide (takesIn K (.builtin "object.__class__") = some true)) &&
  ((decide (mroIn K (He.ga K c) (.type "object") = some true)) &&
  ((decide (kitOne K (.type "NoneType") (.ref (He.ga K c)) = some false))))))))))))))))
def xFB (K : Frag) (file c : Str) : Bool := if xBase c = ("LookupError" : Str) then xTxtB K c (xFld c) "LookupError" "LookupError.__new__" "LookupError.__init__" file else xTxtB K c (xFld c) "ValueError" "ValueError.__new__" "ValueError.__init__" file
def xallB (K : Frag) (file : Str) : Bool := XL.all (fun c => xClsB K c && (decide (c = "LastFlow") || xFB K file c)) && He.eqO (nsIn K mainGlobals "super") (some none)
def xLastB (K : Frag) : Bool := excIn K (He.ga K "LastFlow") (xTl "RuntimeError") "RuntimeError.__new__"
end
def obsLT (as : List Addr) (fa : List He.Fa) (fn : List He.DefD) (tf : List He.Defn) (ex : Frag → Bool) (g : Addr → Option Obj) : He.AlD × Bool := (He.obsD fa fn (He.frT g as), ex (He.frT g as) && He.tabsB g tf (He.frT g as))
structure SaysTb (tf : List He.Defn) (h : Heap) (K : Frag) : Prop where
  hd : ∀ p ∈ tf, PySem.W.codeHdIn K (He.cT K p).1 (He.cT K p).2 = true
  out : ∀ p ∈ tf, K.lookup (He.cT K p).2 = none
  empty : ∀ p ∈ tf, h.get? (He.cT K p).2 = some { cls := .none, data := .fields #[] }
theorem saysTb_of {as : List Addr} {tf : List He.Defn} {h : Heap} (e : He.tabsB h.get? tf (He.frT h.get? as) = true) : SaysTb tf h (He.frT h.get? as) := by
  have key : ∀ p ∈ tf, PySem.W.codeHdIn (He.frT h.get? as) (He.cT (He.frT h.get? as) p).1 (He.cT (He.frT h.get? as) p).2 = true ∧ ∃ o, h.get? (He.cT (He.frT h.get? as) p).2 = some o ∧ He.emptyTab o = true := fun p hp => by
    have h0 := List.all_eq_true.mp e p hp
    rw [Bool.and_eq_true] at h0
    refine ⟨h0.1, ?_⟩
    have h4 := h0.2
    cases q : h.get? (He.cT (He.frT h.get? as) p).2 with
    | none => rw [q] at h4; cases h4
    | some o => rw [q] at h4; exact ⟨o, rfl, h4⟩
  exact ⟨fun p hp => (key p hp).1, fun p hp => by
    obtain ⟨_, o, q, z⟩ := key p hp
    exact He.frT_none q z, fun p hp => by
    obtain ⟨_, o, q, z⟩ := key p hp
    rw [q, He.emptyTab_eq z]⟩
def hookLT (as : List Addr) (fa : List He.Fa) (fn : List He.DefD) (tf : List He.Defn) (ex : Frag → Bool) : PySem.W.Hook where
  α := He.AlD × Bool
  obs := fun s => obsLT as fa fn tf ex s.heap.get?
  val := fun _ => (He.valD fn, true)
  says := fun _ h => ∃ K : Frag, K.In h ∧ He.SaysD fa fn K ∧ ex K = true ∧ SaysTb tf h K
  of := fun _ _ e => by
    have e2 := congrArg Prod.snd e
    have h2 := (Bool.and_eq_true _ _).mp e2
    exact ⟨_, He.frT_in, congrArg Prod.fst e, h2.1, saysTb_of h2.2⟩
  keeps := fun _ _ _ ⟨K, hK, c, x, t⟩ k => ⟨K, PySem.W.Frag.In.keeps hK k, c, x, ⟨t.hd, t.out, fun p hp => k _ _ (t.empty p hp)⟩⟩
theorem obsLT_eq {as : List Addr} {fa : List He.Fa} {fn : List He.DefD} {tf : List He.Defn} {ex : Frag → Bool} {g : Addr → Option Obj} {s : Shared} (h : ∀ a, g a = s.heap.get? a) : obsLT as fa fn tf ex g = (hookLT as fa fn tf ex).obs s := by
  have e : g = s.heap.get? := funext h
  rw [e]; rfl
section
open PySem.W HandSHeadRun
theorem run_partsT {r : OpenRow} {q : Program} {as : List Addr} {fa : List He.Fa} {fn : List He.DefD} {tf : List He.Defn} {ex : Frag → Bool} {M : Nat} {loose : List PySem.Str} {w : World}
    (h1 : ∀ os : OsState, (endF (stepQ (denQ tabQ) r.prog w) M r.prog w os).map (fun s => (looksF r.prog (boot_heap w.params) s.abs, seenQ q loose (importedModules r.prog.main.body) (fun s => xlAt q [] s && recOk r.toRowW.records s) s.abs)) = some (true, openGood q loose))
    (h2 : ∀ os : OsState, (endF (stepQ (denQ tabQ) r.prog w) M r.prog w os).map (fun s => fa.all fun f => f.ok (He.frT (getT s) as)) = some true)
    (h3 : ∀ os : OsState, (endF (stepQ (denQ tabQ) r.prog w) M r.prog w os).map (fun s => ((fn.all fun d => d.ok (He.frT (getT s) as)), fn.map fun d => He.fnW (He.frT (getT s) as) d.at_, ex (He.frT (getT s) as) && He.tabsB (getT s) tf (He.frT (getT s) as))) = some (true, fn.map He.DefD.val, true)) :
    RunEq r q (hookLT as fa fn tf ex) (fun s => obsLT as fa fn tf ex (getT s)) M loose w := fun os => by
  have h1 := h1 os
  have h2 := h2 os
  have h3 := h3 os
  cases e : endF (stepQ (denQ tabQ) r.prog w) M r.prog w os with
  | none => rw [e] at h1; cases h1
  | some s =>
    rw [e] at h1 h2 h3
    have a1 := Option.some.inj h1
    have a2 := Option.some.inj h2
    have a3 := Option.some.inj h3
    have b1 := congrArg Prod.fst a1
    have b2 := congrArg Prod.snd a1
    have c1 := congrArg Prod.fst a3
    have c2 := congrArg (fun z => z.2.1) a3
    have c3 := congrArg (fun z => z.2.2) a3
    dsimp only at a2 b1 b2 c1 c2 c3
    show some _ = some _
    congr 1
    refine Prod.ext b1 (Prod.ext b2 ?_)
    show obsLT as fa fn tf ex (getT s) = (He.valD fn, true)
    unfold obsLT He.obsD He.valD
    rw [a2, c1, c2, c3]; rfl
end
end PD
namespace Lw
open PySem L2 PD
def meth (i j : Nat) : Stmt := (clsBody (PySem.Challenge.pw_leastshare_k20_nets_that_are_changed.main.body.getD i (.Pass ⟨0, 0, 0, 0⟩))).getD j (.Pass ⟨0, 0, 0, 0⟩)
def top (i : Nat) : Stmt := PySem.Challenge.pw_leastshare_k20_nets_that_are_changed.main.body.getD i (.Pass ⟨0, 0, 0, 0⟩)
abbrev FILE : Str := "/claim/cut.py"
@[reducible] instance xls : XLs := ⟨["LastFlow", "NoLine", "NoFlow", "NotChanged", "TooFull", "Doubled", "NotPlain", "BadLine"]⟩
abbrev s_Net___iter__ : Stmt := meth 16 2
abbrev s_tupled : Stmt := top 11
abbrev s_is_number : Stmt := top 13
abbrev s_whole : Stmt := top 14
abbrev s_Net___init__ : Stmt := meth 16 1
abbrev s_Net_has_line : Stmt := meth 16 4
abbrev s_Net_has_flow : Stmt := meth 16 5
abbrev s_widened : Stmt := top 18
abbrev s_with_flow : Stmt := top 19
abbrev s_without_flow : Stmt := top 20
abbrev s__law_box : Stmt := top 22
abbrev s__law_take : Stmt := top 23
abbrev s__law_cells : Stmt := top 24
abbrev s__law_of : Stmt := top 25
abbrev s__law_lists : Stmt := top 26
abbrev s__law_same : Stmt := top 27
abbrev s__law_drawn_net : Stmt := top 28
abbrev s__law_row : Stmt := top 29
abbrev s__law_set_wide : Stmt := top 30
abbrev s__law_heard : Stmt := top 31
abbrev s__law_cases : Stmt := top 32
abbrev s__law_right : Stmt := top 33
abbrev s_law : Stmt := top 34
def fn : List He.DefD := [⟨("tupled", none), "tupled", "tupled", defArgs s_tupled, defBody s_tupled, defScope s_tupled, [], []⟩, ⟨("is_number", none), "is_number", "is_number", defArgs s_is_number, defBody s_is_number, defScope s_is_number, [], []⟩, ⟨("whole", none), "whole", "whole", defArgs s_whole, defBody s_whole, defScope s_whole, [], []⟩, ⟨("widened", none), "widened", "widened", defArgs s_widened, defBody s_widened, defScope s_widened, [], []⟩, ⟨("with_flow", none), "with_flow", "with_flow", defArgs s_with_flow, defBody s_with_flow, defScope s_with_flow, [], []⟩, ⟨("without_flow", none), "without_flow", "without_flow", defArgs s_without_flow, defBody s_without_flow, defScope s_without_flow, [], []⟩, ⟨("_law_box", none), "_law_box", "_law_box", defArgs s__law_box, defBody s__law_box, defScope s__law_box, [], []⟩, ⟨("_law_take", none), "_law_take", "_law_take", defArgs s__law_take, defBody s__law_take, defScope s__law_take, [], []⟩, ⟨("_law_cells", none), "_law_cells", "_law_cells", defArgs s__law_cells, defBody s__law_cells, defScope s__law_cells, [], []⟩, ⟨("_law_of", none), "_law_of", "_law_of", defArgs s__law_of, defBody s__law_of, defScope s__law_of, [], []⟩, ⟨("_law_lists", none), "_law_lists", "_law_lists", defArgs s__law_lists, defBody s__law_lists, defScope s__law_lists, [], []⟩, ⟨("_law_same", none), "_law_same", "_law_same", defArgs s__law_same, defBody s__law_same, defScope s__law_same, [], []⟩, ⟨("_law_drawn_net", none), "_law_drawn_net", "_law_drawn_net", defArgs s__law_drawn_net, defBody s__law_drawn_net, defScope s__law_drawn_net, [], []⟩, ⟨("_law_row", none), "_law_row", "_law_row", defArgs s__law_row, defBody s__law_row, defScope s__law_row, [], []⟩, ⟨("_law_set_wide", none), "_law_set_wide", "_law_set_wide", defArgs s__law_set_wide, defBody s__law_set_wide, defScope s__law_set_wide, [], []⟩, ⟨("_law_heard", none), "_law_heard", "_law_heard", defArgs s__law_heard, defBody s__law_heard, defScope s__law_heard, [], []⟩, ⟨("_law_cases", none), "_law_cases", "_law_cases", defArgs s__law_cases, defBody s__law_cases, defScope s__law_cases, [], []⟩, ⟨("_law_right", none), "_law_right", "_law_right", defArgs s__law_right, defBody s__law_right, defScope s__law_right, [], []⟩, ⟨("law", none), "law", "law", defArgs s_law, defBody s_law, defScope s_law, [], []⟩, ⟨("Net", some "__iter__"), "__iter__", "Net.__iter__", defArgs s_Net___iter__, defBody s_Net___iter__, defScope s_Net___iter__, [], []⟩, ⟨("Net", some "__init__"), "__init__", "Net.__init__", defArgs s_Net___init__, defBody s_Net___init__, defScope s_Net___init__, [], []⟩, ⟨("Net", some "has_line"), "has_line", "Net.has_line", defArgs s_Net_has_line, defBody s_Net_has_line, defScope s_Net_has_line, [], []⟩, ⟨("Net", some "has_flow"), "has_flow", "Net.has_flow", defArgs s_Net_has_flow, defBody s_Net_has_flow, defScope s_Net_has_flow, [], []⟩]
def fa : List He.Fa := [.glo "tupled", .glo "is_number", .glo "whole", .glo "widened", .glo "with_flow", .glo "without_flow", .glo "_law_box", .glo "_law_take", .glo "_law_cells", .glo "_law_of", .glo "_law_lists", .glo "_law_same", .glo "_law_drawn_net", .glo "_law_row", .glo "_law_set_wide", .glo "_law_heard", .glo "_law_cases", .glo "_law_right", .glo "law", .free "LookupError", .free "RuntimeError", .free "ValueError", .free "abs", .free "all", .free "bool", .free "enumerate", .free "int", .free "isinstance", .free "iter", .free "len", .free "list", .free "max", .free "range", .free "repr", .free "sorted", .free "str", .free "tuple", .free "zip", .mkr "Net", .glo "Net", .meth "Net" "__iter__", .meth "Net" "has_line", .meth "Net" "has_flow"]
def exl (K : Frag) : List Bool := [xallB K FILE, xLastB K, sclsB K "Net", slotB K "Net" "own_flows" 0, slotB K "Net" "own_names" 1, slotB K "Net" "own_rooms" 2]
def exb (K : Frag) : Bool := (exl K).all id
theorem ex_at {K : Frag} (h : exb K = true) (i : Nat) {b : Bool} (e : (exl K)[i]? = some b) : b = true := List.all_eq_true.1 h b (List.mem_of_getElem? e)
abbrev R : PySem.W.OpenRow := PySem.W.OpenLaw.row PySem.Challenge.rw_leastshare_k20_nets_that_are_changed
def asL : List Addr := [3, 0, 2, 4, 6, 7, 8, 9, 10, 11, 12, 13, 14, 15, 16, 17, 18, 19, 20, 21, 22, 23, 24, 25, 26, 27, 28, 29, 30, 31, 32, 33, 34, 35, 36, 37, 38, 39, 40, 41, 42, 43, 44, 45, 46, 47, 48, 49, 50, 51, 52, 53, 54, 55, 56, 57, 58, 59, 60, 61, 62, 63, 64, 65, 66, 67, 68, 69, 70, 71, 72, 73, 74, 75, 76, 77, 78, 79, 80, 81, 82, 83, 84, 85, 86, 87, 88, 89, 90, 91, 92, 93, 94, 95, 96, 97, 98, 99, 100, 101, 102, 103, 104, 105, 106, 107, 108, 109, 110, 111, 112, 113, 114, 115, 116, 117, 118, 119, 120, 121, 122, 123, 124, 125, 126, 127, 128, 129, 130, 131, 132, 133, 134, 135, 136, 137, 138, 139, 140, 141, 142, 143, 144, 145, 146, 147, 148, 149, 150, 151, 152, 153, 154, 155, 156, 157, 158, 159, 160, 161, 162, 163, 164, 165, 166, 167, 168, 169, 170, 171, 172, 173, 174, 175, 176, 177, 178, 179, 180, 181, 182, 183, 184, 185, 186, 187, 188, 189, 190, 191, 192, 193, 194, 195, 196, 197, 198, 199, 200, 201, 202, 203, 204, 205, 206, 207, 208, 209, 210, 211, 212, 213, 214, 215, 216, 217, 218, 219, 220, 221, 222, 223, 224, 225, 226, 227, 228, 229, 230, 231, 232, 233, 234, 235, 236, 237, 238, 239, 240, 241, 242, 243, 244, 245, 246, 247, 248, 249, 250, 251, 252, 253, 254, 255, 256, 257, 258, 259, 260, 261, 262, 263, 264, 265, 266, 267, 268, 269, 270, 271, 272, 273, 274, 275, 276, 277, 278, 279, 280, 281, 282, 283, 284, 285, 286, 287, 288, 289, 290, 291, 292, 293, 294, 295, 296, 297, 298, 299, 300, 301, 302, 303, 304, 305, 306, 307, 308, 309, 310, 311, 312, 313, 314, 315, 316, 317, 318, 319, 320, 321, 322, 323, 324, 325, 326, 327, 328, 329, 330, 331, 332, 333, 334, 335, 336, 337, 338, 339, 340, 341, 342, 343, 344, 345, 346, 347, 348, 349, 350, 351, 352, 353, 354, 355, 356, 357, 358, 359, 360, 361, 362, 363, 364, 365, 366, 367, 368, 369, 370, 371, 372, 373, 374, 375, 376, 377, 378, 379, 380, 381, 382, 383, 384, 385, 386, 387, 388, 389, 390, 391, 392, 393, 394, 395, 396, 397, 398, 399, 400, 401, 402, 403, 404, 405, 406, 407, 408, 409, 410, 411, 412, 413, 414, 415, 416, 417, 418, 419, 420, 421, 422, 423, 424, 425, 426, 427, 428, 429, 430, 431, 432, 433, 434, 435, 436, 437, 438, 439, 440, 441, 442, 443, 444, 445, 446, 447, 448, 449, 450, 451, 452, 453, 454, 455, 456, 457, 458, 459, 460, 461, 462, 463, 464, 465, 466, 467, 468, 469, 470, 471, 472, 473, 474, 475, 476, 477, 478, 479, 480, 481, 482, 483, 484, 485, 486, 487, 488, 489, 490, 491, 492, 493, 494, 495, 496, 497, 498, 499, 500, 501, 502, 503, 504, 505, 506, 507, 508, 509, 510, 511, 512, 513, 514, 515, 516, 517, 518, 519, 520, 521, 522, 523, 524, 525, 526, 527, 528, 529, 530, 531, 532, 533, 534, 535, 536, 537, 538, 539, 540, 541, 542, 543, 544, 545, 546, 547, 548, 549, 550, 551, 552, 553, 554, 555, 556, 557, 558, 559, 560, 561, 562, 563, 564, 565, 566, 567, 568, 569, 570, 571, 572, 573, 574, 575, 576, 577, 578, 579, 580, 581, 582, 583, 584, 585, 586, 587, 588, 589, 590, 591, 592, 593, 594, 595, 596, 597, 598, 599, 600, 601, 602, 603, 604, 605, 606, 607, 608, 609, 610, 611, 612, 613, 614, 615, 616, 617, 618, 619, 620, 621, 622, 623, 624, 625, 626, 627, 628, 629, 630, 631, 632, 633, 634, 635, 636, 637, 638, 639, 640, 641, 642, 643, 644, 645, 646, 647, 648, 649, 650, 651, 652, 653, 654, 655, 656, 657, 658, 659, 660, 661, 662, 663, 664, 665, 666, 667, 668, 669, 670, 671, 672, 673, 674, 675, 676, 677, 678, 679, 680, 681, 682, 683, 684, 685, 686, 687, 688, 689, 690, 691, 692, 693, 694, 695, 696, 697, 698, 699, 700, 701, 702, 703, 704, 705, 706, 707, 708, 709, 710, 711, 712, 713, 714, 715, 716, 717, 718, 719, 720, 721, 722, 723, 724, 725, 726, 727, 728, 729, 730, 731, 732, 733, 734, 735, 736, 737, 738, 739, 740, 741, 742, 743, 744, 745, 746, 747, 748, 749, 750, 751, 752, 753, 754, 755, 756, 757, 758, 759, 760, 761, 762, 763, 764, 765, 766, 767, 768, 769, 770, 771, 772, 773, 774, 775, 776, 777, 778, 779, 780, 781, 782, 783, 784, 785, 786, 787, 788, 789, 790, 791, 792, 793, 794, 795, 796, 797, 798, 799, 800, 801, 802, 803, 804, 805, 806, 807, 808, 809, 810, 811, 812, 813, 814, 815, 816, 817, 818, 819, 820, 821, 822, 823, 824, 825, 826, 827, 828, 829, 830, 831, 832, 833, 834, 835, 836, 837, 838, 839, 840, 841, 842, 843, 844, 845, 846, 847, 848, 849, 850, 851, 852, 853, 854, 855, 856, 857, 858, 859, 860, 861, 862, 863, 864, 865, 866, 867, 868, 869, 870, 871, 872, 873, 874, 875, 876, 877, 878, 879, 880, 881, 882, 883, 884, 885, 886, 887, 888, 889, 890, 891, 892, 893, 894, 895, 896, 897, 898, 899, 900, 901, 902, 903, 904, 905, 906, 907, 908, 909, 910, 911, 912, 913, 914, 915, 916, 917, 918, 919, 920, 921, 922, 923, 924, 925, 926, 927, 928, 929, 930, 931, 932, 933, 934, 935, 936, 937, 938, 939, 940, 941, 942, 943, 944, 945, 946, 947, 948, 949, 950, 951, 952, 953, 954, 955, 956, 957, 958, 959, 960, 961, 962, 963, 964, 965, 966, 967, 968, 969, 970, 971, 972, 973, 974, 975, 976, 977, 978, 979, 980, 981, 982, 983, 984, 985, 986, 987, 988, 989, 990, 991, 992, 993, 994, 995, 996, 997, 998, 999, 1000, 1001, 1002, 1003, 1004, 1005, 1006, 1007, 1008, 1009, 1010, 1011, 1012, 1013, 1014, 1015, 1016, 1017, 1018, 1019, 1020, 1021, 1022, 1023, 1024, 1025, 1026, 1027, 1028, 1029, 1030, 1031, 1032, 1033, 1034, 1035, 1036, 1037, 1038, 1039, 1040, 1041, 1042, 1043, 1044, 1045, 1046, 1047, 1048, 1049, 1050, 1051, 1052, 1053, 1054, 1055, 1056, 1057, 1058, 1059, 1060, 1061, 1062, 1063, 1064, 1065, 1066, 1067, 1068, 1069, 1070, 1071, 1072, 1073, 1074, 1075, 1076, 1077, 1078, 1079, 1080, 1081, 1082, 1083, 1084, 1085, 1086, 1087, 1088, 1089, 1090, 1091, 1092, 1093, 1094, 1095, 1096, 1097, 1098, 1099, 1100, 1101, 1102, 1103, 1104, 1105, 1106, 1107, 1108, 1109, 1110, 1111, 1112, 1113, 1114, 1115, 1116, 1117, 1118, 1119, 1120, 1121, 1122, 1123, 1124, 1125, 1126, 1127, 1128, 1129, 1130, 1131, 1132, 1133, 1134, 1135, 1136, 1137, 1138, 1139, 1140, 1141, 1142, 1143, 1144, 1145, 1146, 1147, 1148, 1149, 1150, 1151, 1152, 1153, 1154, 1155, 1156, 1157, 1158, 1159, 1160, 1161, 1162, 1163, 1164, 1165, 1166, 1167, 1168, 1169, 1170, 1171, 1172, 1173, 1174, 1175, 1176, 1177, 1178, 1179, 1180, 1181, 1182, 1183, 1184, 1185, 1186, 1187, 1188, 1189, 1190, 1191, 1192, 1193, 1194, 1195, 1196, 1197, 1198, 1199, 1200, 1201, 1202, 1203, 1204, 1205, 1206, 1207, 1208, 1209, 1210, 1211, 1212, 1213, 1214, 1215, 1216, 1217, 1218, 1219, 1220, 1221, 1222, 1223, 1224, 1225, 1226, 1227, 1228, 1229, 1230, 1231, 1232, 1233, 1234, 1235, 1236, 1237, 1238, 1239, 1240, 1241, 1242, 1243, 1244, 1245, 1246, 1247, 1248, 1249, 1250, 1251, 1252, 1253, 1254, 1255, 1256, 1257, 1258, 1259, 1260, 1261, 1262, 1263, 1264, 1265, 1266, 1267, 1268, 1269, 1270, 1271, 1272, 1273, 1274, 1275, 1276, 1277, 1278, 1279, 1280, 1281, 1282, 1283, 1284, 1285, 1286, 1287, 1288, 1289, 1290, 1291, 1292, 1293, 1294, 1295, 1296, 1297, 1298, 1299, 1300, 1301, 1302, 1303, 1304, 1305, 1306, 1307, 1308, 1309, 1310, 1311, 1312, 1313, 1314, 1315, 1316, 1317, 1318, 1319, 1320, 1321, 1322, 1323, 1324, 1325, 1326, 1327, 1328, 1329, 1330, 1331, 1332, 1333, 1334, 1335, 1336, 1337, 1338, 1339, 1340, 1341, 1342, 1343, 1344, 1345, 1346, 1347, 1348, 1349, 1350, 1351, 1352, 1353, 1354, 1355, 1356, 1357, 1358, 1359, 1360, 1361, 1362, 1363, 1364, 1365, 1366, 1367, 1368, 1369, 1370, 1371, 1372, 1373, 1374, 1375, 1376, 1377, 1378, 1379, 1380, 1381, 1382, 1383, 1384, 1385, 1386, 1387, 1388, 1389, 1390, 1391, 1392, 1393, 1394, 1395, 1396, 1397, 1398, 1399]
def tfL : List He.Defn := [("with_flow", none)]
abbrev hk : PySem.W.Hook := hookLT asL fa fn tfL exb
def ob (s : PySem.W.SharedT) : He.AlD × Bool := obsLT asL fa fn tfL exb (HandSHeadRun.getT s)
theorem ob_eq (s : PySem.W.SharedT) : ob s = hk.obs s.abs := obsLT_eq (HandSHeadRun.getT_eq s)
def loose : List PySem.Str := [("_wall" : Str), ("tupled" : Str), ("is_number" : Str), ("whole" : Str), ("widened" : Str), ("with_flow" : Str), ("without_flow" : Str), ("_law_box" : Str), ("_law_take" : Str), ("_law_cells" : Str), ("_law_of" : Str), ("_law_lists" : Str), ("_law_same" : Str), ("_law_drawn_net" : Str), ("_law_row" : Str), ("_law_set_wide" : Str), ("_law_heard" : Str), ("_law_cases" : Str), ("_law_right" : Str), ("LastFlow" : Str), ("NoLine" : Str), ("NoFlow" : Str), ("NotChanged" : Str), ("TooFull" : Str), ("Doubled" : Str), ("NotPlain" : Str), ("BadLine" : Str), ("Net" : Str)]
section
open PySem.W HandSHeadRun
theorem run1 (w : World) : ∀ os : OsState, (endF (stepQ (denQ tabQ) R.prog w) 6000 R.prog w os).map (fun s => (looksF R.prog (boot_heap w.params) s.abs, seenQ (PySem.W.view R.prog [34]) loose (importedModules R.prog.main.body) (fun s => xlAt (PySem.W.view R.prog [34]) [] s && recOk R.toRowW.records s) s.abs)) = some (true, openGood (PySem.W.view R.prog [34]) loose) := by
  intro os
  kernel_rfl
theorem run2 (w : World) : ∀ os : OsState, (endF (stepQ (denQ tabQ) R.prog w) 6000 R.prog w os).map (fun s => fa.all fun f => f.ok (He.frT (getT s) asL)) = some true := by
  intro os
  kernel_rfl
theorem run3 (w : World) : ∀ os : OsState, (endF (stepQ (denQ tabQ) R.prog w) 6000 R.prog w os).map (fun s => ((fn.all fun d => d.ok (He.frT (getT s) asL)), fn.map fun d => He.fnW (He.frT (getT s) asL) d.at_, exb (He.frT (getT s) asL) && He.tabsB (getT s) tfL (He.frT (getT s) asL))) = some (true, fn.map He.DefD.val, true) := by
  intro os
  kernel_rfl
end
theorem run (w : World) : HandSHeadRun.RunEq R (PySem.W.view R.prog [34]) hk ob 6000 loose w := run_partsT (run1 w) (run2 w) (run3 w)
end Lw
end
section
namespace PD
open PySem L2
inductive D where
  | non | bl (b : Bool) | int (i : Int) | str (x : Str) | tup (xs : List D) | lst (xs : List D) | scr (xs : List D)
  | npt (xs : List D)
  | dic (kvs : List (Key × D)) | fdc (kvs : List (Key × D)) | obj (c : Str) (fs : List (Option D)) | ins (c : Str) (fs : List (Str × D))
  | exc (c : Str) (fs : List (Str × D)) | fn (x : Str)
  deriving Inhabited
def PlT (o : Obj) : Prop := o.cls = .type "tuple" ∧ o.dict = none ∧ ∃ its n, o.data = .seq its n
def SqP (K : Frag) (H : Hp) (a : Addr) (xs : List V) : Prop := (∃ o, H a = some (.frz o (.tup xs)) ∧ PlT o) ∨
  ∃ (o : Obj) (its : Array Value) (n : Nat), K.lookup a = some o ∧ o.cls = .type "tuple" ∧ o.dict = none ∧ o.data = .seq its n ∧ its.size ≤ sizeLine ∧ Vals xs its.toList
theorem SqP.t {K : Frag} {H : Hp} {a : Addr} {xs : List V} (h : SqP K H a xs) : SqT K H a xs := by
  rcases h with ⟨o, h, _⟩ | ⟨o, its, n, h1, h2, _, h3, h4⟩
  · exact .inl (.inr ⟨o, h⟩)
  · exact .inr ⟨o, its, n, h1, h2, h3, h4⟩
theorem SqP.of {K : Frag} {H : Hp} {a : Addr} {xs : List V} {o : Obj} (h : H a = some (.frz o (.tup xs))) (p : PlT o) : SqP K H a xs := .inl ⟨o, h, p⟩
def exH (C : Addr) (dd : Option Addr) (a : Addr) : HO := .ext fun h => ∃ (oe : Obj) (vs : Array Value), h.get? a = some oe ∧ Zc (.ref C) dd oe ∧ oe.data = .fields vs
def XDd (F : Hp) (dd : Option Addr) (vs : List (Str × V)) : Prop := (dd = none ∧ vs = []) ∨ ∃ d, dd = some d ∧ F d = some (.xd vs)
theorem XDd.mono {F F' : Hp} {dd : Option Addr} {vs : List (Str × V)} (e : ∀ a o, F a = some o → F' a = some o) (h : XDd F dd vs) : XDd F' dd vs := h.imp id fun ⟨d, a, b⟩ => ⟨d, a, e _ _ b⟩
mutual
inductive Rep (K : Frag) (F : Hp) : V → D → Prop
  | non : Rep K F .non .non
  | bl (b : Bool) : Rep K F (.bl b) (.bl b)
  | int (i : Int) : Rep K F (.int i) (.int i)
  | str (x : Str) : Rep K F (.str x) (.str x)
  | tup {a : Addr} {vs : List V} {ds : List D} (h : SqP K F a vs) (r : Reps K F vs ds) : Rep K F (.ref a) (.tup ds)
  | lst {a : Addr} {vs : List V} {ds : List D} (h : F a = some (.lst vs)) (r : Reps K F vs ds) : Rep K F (.ref a) (.lst ds)
  | npt {a : Addr} {vs : List V} {ds : List D} (h : SqT K F a vs) (r : Reps K F vs ds) : Rep K F (.ref a) (.npt ds)
  | scr {a : Addr} {vs : List V} {ds : List D} (h : SqL K F a vs) (r : Reps K F vs ds) : Rep K F (.ref a) (.scr ds)
  | dic {a : Addr} {kvs : List (Key × V)} {kds : List (Key × D)} (h : F a = some (.dK kvs)) (r : RepK K F kvs kds) : Rep K F (.ref a) (.dic kds)
  | fdc {a : Addr} {o : Obj} {kvs : List (Key × V)} {kds : List (Key × D)} (h : F a = some (.frz o (.dK kvs))) (r : RepK K F kvs kds) : Rep K F (.ref a) (.fdc kds)
  | obj {a dx : Addr} {c : Str} {vs : List (Option V)} {ds : List (Option D)} (h : F a = some (SlX.SlO a (He.ga K c) dx vs)) (hx : F dx = some (.xd [])) (r : RepO K F vs ds) : Rep K F (.ref a) (.obj c ds)
  | ins {a dx : Addr} {c : Str} {fs : List (Str × V)} {ds : List (Str × D)} (h : F a = some (.ins (He.ga K c) dx fs)) (r : RepF K F fs ds) : Rep K F (.ref a) (.ins c ds)
  | exc {a : Addr} {dd : Option Addr} {c : Str} {fs : List (Str × V)} {ds : List (Str × D)} (h : F a = some (exH (He.ga K c) dd a)) (hx : XDd F dd fs) (r : RepF K F fs ds) : Rep K F (.ref a) (.exc c ds)
  | fn (x : Str) : Rep K F (.ref (He.ga K x)) (.fn x)
inductive Reps (K : Frag) (F : Hp) : List V → List D → Prop
  | nil : Reps K F [] []
  | cons {v : V} {d : D} {vs : List V} {ds : List D} (h : Rep K F v d) (r : Reps K F vs ds) : Reps K F (v :: vs) (d :: ds)
inductive RepK (K : Frag) (F : Hp) : List (Key × V) → List (Key × D) → Prop
  | nil : RepK K F [] []
  | cons {k : Key} {v : V} {d : D} {vs : List (Key × V)} {ds : List (Key × D)} (h : Rep K F v d) (r : RepK K F vs ds) : RepK K F ((k, v) :: vs) ((k, d) :: ds)
inductive RepF (K : Frag) (F : Hp) : List (Str × V) → List (Str × D) → Prop
  | nil : RepF K F [] []
  | cons {k : Str} {v : V} {d : D} {vs : List (Str × V)} {ds : List (Str × D)} (h : Rep K F v d) (r : RepF K F vs ds) : RepF K F ((k, v) :: vs) ((k, d) :: ds)
inductive RepO (K : Frag) (F : Hp) : List (Option V) → List (Option D) → Prop
  | nil {vs : List (Option V)} : RepO K F vs []
  | none {vs : List (Option V)} {ds : List (Option D)} (r : RepO K F vs.tail ds) : RepO K F vs (none :: ds)
  | some {v : V} {d : D} {vs : List (Option V)} {ds : List (Option D)} (h : Rep K F v d) (r : RepO K F vs ds) : RepO K F (some v :: vs) (some d :: ds)
end
def Ex (H H' : Hp) : Prop := ∀ a o, H a = some o → H' a = some o
theorem Ex.refl (H : Hp) : Ex H H := fun _ _ h => h
theorem Ex.trans {H H1 H2 : Hp} (a : Ex H H1) (b : Ex H1 H2) : Ex H H2 := fun x o h => b x o (a x o h)
theorem Ex.new {H : Hp} {p : Addr} {o : HO} (h : H p = none) : Ex H (upd H p o) := fun a u e => by rw [upd_ne (ne_of_none e h)]; exact e
theorem Ex.upd2 {F H : Hp} {p : Addr} {o : HO} (e : Ex F H) : Ex (upd F p o) (upd H p o) := fun a u h => by
  unfold upd at *
  by_cases h1 : a = p
  · rw [if_pos h1] at *; exact h
  · rw [if_neg h1] at *; exact e a u h
theorem ex_rd {H H' : Hp} {a : Addr} {u : HO} (e : Ex H H') (h : Rd H a u) : Rd H' a u := by
  rcases h with h | ⟨o, h⟩
  · exact Or.inl (e a _ h)
  · exact Or.inr ⟨o, e a _ h⟩
theorem ex_l {K : Frag} {H H' : Hp} {a : Addr} {xs : List V} (e : Ex H H') (h : SqL K H a xs) : SqL K H' a xs := by
  rcases h with h | h
  · exact Or.inl (ex_rd e h)
  · exact Or.inr h
theorem ex_q {K : Frag} {H H' : Hp} {a : Addr} {xs : List V} (e : Ex H H') (h : SqT K H a xs) : SqT K H' a xs := by
  rcases h with h | h
  · exact Or.inl (ex_rd e h)
  · exact Or.inr h
theorem ex_p {K : Frag} {H H' : Hp} {a : Addr} {xs : List V} (e : Ex H H') (h : SqP K H a xs) : SqP K H' a xs := by
  rcases h with ⟨o, h, p⟩ | h
  · exact Or.inl ⟨o, e _ _ h, p⟩
  · exact Or.inr h
theorem ex_t {K : Frag} {H H' : Hp} {a : Addr} {xs : List V} (e : Ex H H') (h : SqP K H a xs) : SqT K H' a xs := (ex_p e h).t
mutual
theorem Rep.mono {K : Frag} {F F' : Hp} (e : Ex F F') : ∀ {v : V} {d : D}, Rep K F v d → Rep K F' v d
  | _, _, .non => .non
  | _, _, .bl b => .bl b
  | _, _, .int i => .int i
  | _, _, .str x => .str x
  | _, _, .tup h r => .tup (ex_p e h) (Reps.mono e r)
  | _, _, .lst h r => .lst (e _ _ h) (Reps.mono e r)
  | _, _, .npt h r => .npt (ex_q e h) (Reps.mono e r)
  | _, _, .scr h r => .scr (ex_l e h) (Reps.mono e r)
  | _, _, .dic h r => .dic (e _ _ h) (RepK.mono e r)
  | _, _, .fdc h r => .fdc (e _ _ h) (RepK.mono e r)
  | _, _, .obj h hx r => .obj (e _ _ h) (e _ _ hx) (RepO.mono e r)
  | _, _, .ins h r => .ins (e _ _ h) (RepF.mono e r)
  | _, _, .exc h hx r => .exc (e _ _ h) (hx.mono e) (RepF.mono e r)
  | _, _, .fn x => .fn x
theorem Reps.mono {K : Frag} {F F' : Hp} (e : Ex F F') : ∀ {v : List V} {d : List D}, Reps K F v d → Reps K F' v d
  | _, _, .nil => .nil
  | _, _, .cons h r => .cons (Rep.mono e h) (Reps.mono e r)
theorem RepK.mono {K : Frag} {F F' : Hp} (e : Ex F F') : ∀ {v : List (Key × V)} {d : List (Key × D)}, RepK K F v d → RepK K F' v d
  | _, _, .nil => .nil
  | _, _, .cons h r => .cons (Rep.mono e h) (RepK.mono e r)
theorem RepF.mono {K : Frag} {F F' : Hp} (e : Ex F F') : ∀ {v : List (Str × V)} {d : List (Str × D)}, RepF K F v d → RepF K F' v d
  | _, _, .nil => .nil
  | _, _, .cons h r => .cons (Rep.mono e h) (RepF.mono e r)
theorem RepO.mono {K : Frag} {F F' : Hp} (e : Ex F F') : ∀ {v : List (Option V)} {d : List (Option D)}, RepO K F v d → RepO K F' v d
  | _, _, .nil => .nil
  | _, _, .none r => .none (RepO.mono e r)
  | _, _, .some h r => .some (Rep.mono e h) (RepO.mono e r)
end
structure Grow (F H F' H' : Hp) : Prop where
  ff : Ex F F'
  fh : Ex F' H'
  hh : Ex H H'
  nw : ∀ a, F' a ≠ none → F a ≠ none ∨ H a = none
theorem Grow.refl {F H : Hp} (e : Ex F H) : Grow F H F H := ⟨Ex.refl F, e, Ex.refl H, fun a h => Or.inl h⟩
theorem none_back {H H' : Hp} {p : Addr} (e : Ex H H') (h : H' p = none) : H p = none := by
  cases h1 : H p with
  | none => rfl
  | some o => rw [e p o h1] at h; cases h
theorem Grow.trans {F H F1 H1 F2 H2 : Hp} (a : Grow F H F1 H1) (b : Grow F1 H1 F2 H2) : Grow F H F2 H2 :=
  ⟨a.ff.trans b.ff, b.fh, a.hh.trans b.hh, fun x h => (b.nw x h).elim (a.nw x) fun h1 => Or.inr (none_back a.hh h1)⟩
theorem upd_ne_none {F : Hp} {p a : Addr} {o : HO} (h : upd F p o a ≠ none) : F a ≠ none ∨ a = p := by
  by_cases e : a = p
  · exact Or.inr e
  · rw [upd_ne e] at h; exact Or.inl h
theorem Grow.new {F H : Hp} {p : Addr} {o : HO} (e : Ex F H) (h : H p = none) : Grow F H (upd F p o) (upd H p o) :=
  ⟨Ex.new (none_back e h), e.upd2, Ex.new h, fun a ha => (upd_ne_none ha).imp id fun e => by rw [e]; exact h⟩
theorem Grow.ex {F H F' H' : Hp} (g : Grow F H F' H') : Ex F H' := g.ff.trans g.fh
structure XD where
  cls : Str
  fs : List (Str × D)
abbrev Rs (α : Type) := Option (Except XD α)
abbrev Env := List (Option D)
def ok {α : Type} (a : α) : Rs α := some (.ok a)
def bind {α β : Type} (x : Rs α) (f : α → Rs β) : Rs β := match x with
  | none => none
  | some (.error e) => some (.error e)
  | some (.ok a) => f a
def opt {α : Type} (x : Option α) : Rs α := x.map .ok
structure RepX (K : Frag) (F : Hp) (cls : Value) (dd : Option Addr) (x : XD) : Prop where
  cls : cls = .ref (He.ga K x.cls)
  fs : ∃ fs, XDd F dd fs ∧ RepF K F fs x.fs
def Post {α β : Type} (rel : Hp → β → α → Prop) (K : Frag) (F H : Hp) (σ : L2.St) (W : WX) (o : Except XD α) (Q : β → Hp → Prop) : Prop := match o with
  | .ok d => ∀ v F' H', Grow F H F' H' → rel F' v d → Q v H'
  | .error x => ∀ cls dd F' H', Grow F H F' H' → RepX K F' cls dd x → W cls dd σ H'
theorem Post.later {α β : Type} {rel : Hp → β → α → Prop} {K : Frag} {F H F1 H1 : Hp} {σ : L2.St} {W : WX} {o : Except XD α} {Q : β → Hp → Prop} (g : Grow F H F1 H1) (p : Post rel K F H σ W o Q) : Post rel K F1 H1 σ W o Q := by
  cases o with
  | ok d => exact fun v F' H' g' r => p v F' H' (g.trans g') r
  | error x => exact fun c d F' H' g' r => p c d F' H' (g.trans g') r
structure RP (K : Frag) (F : Hp) (σ : L2.St) (H : Hp) (δ : Env) : Prop where
  ex : Ex F H
  ln : σ.length = δ.length
  val : ∀ (i : Nat) (d : D), δ[i]? = some (some d) → ∃ v : V, σ[i]? = some (some v) ∧ Rep K F v d
theorem RP.later {K : Frag} {F H F1 H1 : Hp} {σ : L2.St} {δ : Env} (g : Grow F H F1 H1) (r : RP K F σ H δ) : RP K F1 σ H1 δ :=
  ⟨g.fh, r.ln, fun i d h => let ⟨v, a, b⟩ := r.val i d h; ⟨v, a, b.mono g.ff⟩⟩
def WE (X : Cx) (e : Expr) (σ : L2.St) (H : Hp) (Q : VK) : Prop := ∀ pins s, Inv X pins σ H s → wpAny (model X.prog X.w) X.A (eval e X.env) (EP X pins σ Q) X.xe s
theorem pe_we {X : Cx} {e : Expr} : PE X e (WE X e) := ⟨fun pins s _ _ _ I h => h pins s I⟩
theorem we_of {X : Cx} {e : Expr} {t : TE} {σ : L2.St} {H : Hp} {Q : VK} (h : PE X e t) (q : t σ H Q) : WE X e σ H Q := fun pins s I => h.run pins s σ H Q I q
def WT (X : Cx) (e : Expr) (σ : L2.St) (H : Hp) (Q : Bool → Hp → Prop) : Prop := ∀ pins s, Inv X pins σ H s → wpAny (model X.prog X.w) X.A (isTrue e X.env (eval e X.env)) (TP X pins σ Q) X.xe s
theorem pt_wt {X : Cx} {e : Expr} : PT X e (WT X e) := ⟨fun pins s _ _ _ I h => h pins s I⟩
theorem wt_of {X : Cx} {e : Expr} {t : TT} {σ : L2.St} {H : Hp} {Q : Bool → Hp → Prop} (h : PT X e t) (q : t σ H Q) : WT X e σ H Q := fun pins s I => h.run pins s σ H Q I q
def WA (X : Cx) (es : List Expr) (σ : L2.St) (H : Hp) (Q : List V → Hp → Prop) : Prop := ∀ pos pins s, Inv X pins σ H s → wpAny (model X.prog X.w) X.A (spliced (backTo pos (starEach es X.env))) (AP X pins σ Q) X.xe s
theorem pa_wa {X : Cx} {es : List Expr} : PA X es (WA X es) := ⟨fun pos pins s _ _ _ I h => h pos pins s I⟩
theorem wa_of {X : Cx} {es : List Expr} {t : TA} {σ : L2.St} {H : Hp} {Q : List V → Hp → Prop} (h : PA X es t) (q : t σ H Q) : WA X es σ H Q := fun pos pins s I => h.run pos pins s σ H Q I q
def WS (X : Cx) (st : Stmt) (D : Ends) (σ : L2.St) (H : Hp) : Prop := ∀ pins s, Inv X pins σ H s → wpAny (model X.prog X.w) X.A (exec st X.env) (SP X pins D) X.xe s
theorem ps_ws {X : Cx} {st : Stmt} : PS X st (WS X st) := ⟨fun pins s _ _ _ I h => h pins s I⟩
theorem ws_of {X : Cx} {st : Stmt} {t : TS} {D : Ends} {σ : L2.St} {H : Hp} (h : PS X st t) (q : t D σ H) : WS X st D σ H := fun pins s I => h.run pins s σ H D I q
def WSs (X : Cx) (st : List Stmt) (D : Ends) (σ : L2.St) (H : Hp) : Prop := ∀ pins s, Inv X pins σ H s → wpAny (model X.prog X.w) X.A (execs st X.env) (SP X pins D) X.xe s
theorem pss_wss {X : Cx} {st : List Stmt} : PSs X st (WSs X st) := ⟨fun pins s _ _ _ I h => h pins s I⟩
theorem wss_of {X : Cx} {st : List Stmt} {t : TS} {D : Ends} {σ : L2.St} {H : Hp} (h : PSs X st t) (q : t D σ H) : WSs X st D σ H := fun pins s I => h.run pins s σ H D I q
structure J {α β : Type} (X : Cx) (w : L2.St → Hp → (β → Hp → Prop) → Prop) (rel : Hp → β → α → Prop) (g : Env → Rs α) : Prop where
  run : ∀ {σ F H δ W Q o}, RP X.K F σ H δ → Takes X W → g δ = some o → Post rel X.K F H σ W o Q → w σ H Q
abbrev JP (X : Cx) (e : Expr) (g : Env → Rs D) : Prop := J X (WE X e) (Rep X.K) g
abbrev relT (_ : Hp) (b a : Bool) : Prop := b = a
abbrev JT (X : Cx) (e : Expr) (g : Env → Rs Bool) : Prop := J X (WT X e) relT g
abbrev JA (X : Cx) (es : List Expr) (g : Env → Rs (List D)) : Prop := J X (WA X es) (Reps X.K) g
theorem j_bind {α β α2 β2 : Type} {X : Cx} {w : L2.St → Hp → (β → Hp → Prop) → Prop} {rel : Hp → β → α → Prop} {rel2 : Hp → β2 → α2 → Prop} {g : Env → Rs α} {k : α → Rs α2} {σ : L2.St} {F H : Hp} {δ : Env} {W : WX} {o : Except XD α2} {Q : β2 → Hp → Prop} {Q1 : β → Hp → Prop}
    (ha : J X w rel g) (r : RP X.K F σ H δ) (tk : Takes X W) (hg : bind (g δ) k = some o) (hP : Post rel2 X.K F H σ W o Q)
    (hk : ∀ x v F1 H1, k x = some o → Grow F H F1 H1 → rel F1 v x → RP X.K F1 σ H1 δ → Post rel2 X.K F1 H1 σ W o Q → Q1 v H1) : w σ H Q1 := by
  cases e : g δ with
  | none => rw [e] at hg; cases hg
  | some y => cases y with
    | ok x => rw [e] at hg; exact ha.run r tk e fun v F1 H1 gr rx => hk x v F1 H1 hg gr rx (r.later gr) (hP.later gr)
    | error x => rw [e] at hg; cases hg; exact ha.run r tk e hP
theorem jp_bind {α2 β2 : Type} {X : Cx} {a : Expr} {rel2 : Hp → β2 → α2 → Prop} {g : Env → Rs D} {k : D → Rs α2} {σ : L2.St} {F H : Hp} {δ : Env} {W : WX} {o : Except XD α2} {Q : β2 → Hp → Prop} {Q1 : VK}
    (ha : JP X a g) (r : RP X.K F σ H δ) (tk : Takes X W) (hg : bind (g δ) k = some o) (hP : Post rel2 X.K F H σ W o Q)
    (hk : ∀ x v F1 H1, k x = some o → Grow F H F1 H1 → Rep X.K F1 v x → RP X.K F1 σ H1 δ → Post rel2 X.K F1 H1 σ W o Q → Q1 v H1) : WE X a σ H Q1 := j_bind ha r tk hg hP hk
theorem jt_bind {α2 β2 : Type} {X : Cx} {a : Expr} {rel2 : Hp → β2 → α2 → Prop} {g : Env → Rs Bool} {k : Bool → Rs α2} {σ : L2.St} {F H : Hp} {δ : Env} {W : WX} {o : Except XD α2} {Q : β2 → Hp → Prop} {Q1 : Bool → Hp → Prop}
    (ha : JT X a g) (r : RP X.K F σ H δ) (tk : Takes X W) (hg : bind (g δ) k = some o) (hP : Post rel2 X.K F H σ W o Q)
    (hk : ∀ x F1 H1, k x = some o → Grow F H F1 H1 → RP X.K F1 σ H1 δ → Post rel2 X.K F1 H1 σ W o Q → Q1 x H1) : WT X a σ H Q1 := j_bind ha r tk hg hP fun x v F1 H1 h1 g1 e r1 p1 => by cases e; exact hk _ F1 H1 h1 g1 r1 p1
theorem ja_bind {α2 β2 : Type} {X : Cx} {es : List Expr} {rel2 : Hp → β2 → α2 → Prop} {g : Env → Rs (List D)} {k : List D → Rs α2} {σ : L2.St} {F H : Hp} {δ : Env} {W : WX} {o : Except XD α2} {Q : β2 → Hp → Prop} {Q1 : List V → Hp → Prop}
    (ha : JA X es g) (r : RP X.K F σ H δ) (tk : Takes X W) (hg : bind (g δ) k = some o) (hP : Post rel2 X.K F H σ W o Q)
    (hk : ∀ x v F1 H1, k x = some o → Grow F H F1 H1 → Reps X.K F1 v x → RP X.K F1 σ H1 δ → Post rel2 X.K F1 H1 σ W o Q → Q1 v H1) : WA X es σ H Q1 := j_bind ha r tk hg hP hk
theorem Post.fin {α β : Type} {rel : Hp → β → α → Prop} {K : Frag} {F H : Hp} {σ : L2.St} {W : WX} {Q : β → Hp → Prop} {d : α} {o : Except XD α} (h : ok d = some o) (p : Post rel K F H σ W o Q) : ∀ v F' H', Grow F H F' H' → rel F' v d → Q v H' := by
  cases h; exact p
theorem opt_some {α : Type} {x : Option α} {o : Except XD α} (h : opt x = some o) : ∃ d, x = some d ∧ o = .ok d := by
  cases x with
  | none => cases h
  | some d => cases h; exact ⟨d, rfl, rfl⟩
def v (i : Nat) : Env → Rs D := fun δ => opt (δ[i]?.join)
theorem jp_v {X : Cx} {x : Str} {pos : Pos} (i : Nat) (hN : X.N[i]? = some x := by rfl) (hv : Vis X.env.scope x := by first | exact Or.inl rfl | exact Or.inr (Or.inl rfl) | exact Or.inr (Or.inr rfl))
    (hd : (x == ("__debug__" : Str)) = false := by decide) (hcd : (x == ("__classdict__" : Str)) = false := by decide) : JP X (.Name x pos) (v i) := ⟨fun {σ F H δ W Q o} r _ hg hP => by
  obtain ⟨d, hd', rfl⟩ := opt_some hg
  have h1 : δ[i]? = some (some d) := by
    cases h : δ[i]? with
    | none => rw [h] at hd'; cases hd'
    | some y => rw [h] at hd'; cases y with
      | none => cases hd'
      | some z => cases hd'; rfl
  obtain ⟨w, hw, rw'⟩ := r.val i d h1
  exact we_of (pe_var hN hv hd hcd) ⟨w, hw, hP w F H (.refl r.ex) rw'⟩⟩
def c (d : D) : Env → Rs D := fun _ => ok d
theorem jp_int {X : Cx} {i j pos} : JP X (.Constant (.int i) j pos) (c (.int i)) := ⟨fun r _ hg hP => we_of pe_int (hP.fin hg _ _ _ (.refl r.ex) (.int _))⟩
theorem jp_bl {X : Cx} {i j pos} : JP X (.Constant (.bool i) j pos) (c (.bl i)) := ⟨fun r _ hg hP => we_of pe_bl (hP.fin hg _ _ _ (.refl r.ex) (.bl _))⟩
theorem jp_non {X : Cx} {j pos} : JP X (.Constant .none j pos) (c .non) := ⟨fun r _ hg hP => we_of pe_non (hP.fin hg _ _ _ (.refl r.ex) .non)⟩
theorem jp_str {X : Cx} {i j pos} : JP X (.Constant (.str i) j pos) (c (.str i)) := ⟨fun r _ hg hP => we_of pe_str (hP.fin hg _ _ _ (.refl r.ex) (.str _))⟩
def OpD (K : Frag) (r : R2) (g : D → D → Option D) : Prop := ∀ {F H : Hp} {vx vy : V} {x y z : D}, Ex F H → Rep K F vx x → Rep K F vy y → g x y = some z → ∀ Q : VK, (∀ v F' H', Grow F H F' H' → Rep K F' v z → Q v H') → r vx vy H Q
def op2 (g : D → D → Option D) (a b : Env → Rs D) : Env → Rs D := fun δ => bind (a δ) fun x => bind (b δ) fun y => opt (g x y)
theorem jp_op {X : Cx} {a b : Expr} {op : Operator} {pos : Pos} {r : R2} {g : D → D → Option D} {fa fb : Env → Rs D} (ho : OpR X (binaryOp op) r) (hr : OpD X.K r g) (ha : JP X a fa) (hb : JP X b fb) : JP X (.BinOp a op b pos) (op2 g fa fb) := ⟨fun rp tk hg hP =>
  we_of (pe_op ho pe_we pe_we) (jp_bind ha rp tk hg hP fun x vx F1 H1 h1 g1 rx r1 P1 => jp_bind hb r1 tk h1 P1 fun y vy F2 H2 h2 g2 ry r2 P2 => by
    obtain ⟨z, hz, rfl⟩ := opt_some h2
    exact hr r2.ex (rx.mono g2.ff) ry hz _ P2)⟩
theorem jp_cmp {X : Cx} {a b : Expr} {op : CmpOp} {pos : Pos} {r : R2} {g : D → D → Option D} {fa fb : Env → Rs D} (ho : OpR X (compareOp op) r) (hr : OpD X.K r g) (ha : JP X a fa) (hb : JP X b fb)
    (hm : behindInMarks op b = false := by first | exact nomark _ | with_unfolding_all rfl) : JP X (.Compare a [op] [b] pos) (op2 g fa fb) := ⟨fun rp tk hg hP =>
  we_of (pe_cmpR ho pe_we pe_we hm) (jp_bind ha rp tk hg hP fun x vx F1 H1 h1 g1 rx r1 P1 => jp_bind hb r1 tk h1 P1 fun y vy F2 H2 h2 g2 ry r2 P2 => by
    obtain ⟨z, hz, rfl⟩ := opt_some h2
    exact hr r2.ex (rx.mono g2.ff) ry hz _ P2)⟩
end PD
end
section
namespace PD
open PySem L2
theorem Rep.len : ∀ {K : Frag} {F : Hp} {vs : List V} {ds : List D}, Reps K F vs ds → vs.length = ds.length
  | _, _, _, _, .nil => rfl
  | _, _, _, _, .cons _ r => congrArg (· + 1) (Rep.len r)
theorem RepK.len : ∀ {K : Frag} {F : Hp} {vs : List (Key × V)} {ds : List (Key × D)}, RepK K F vs ds → vs.length = ds.length
  | _, _, _, _, .nil => rfl
  | _, _, _, _, .cons _ r => congrArg (· + 1) (RepK.len r)
theorem Reps.get {K : Frag} {F : Hp} : ∀ {vs : List V} {ds : List D} {i : Nat} {d : D}, Reps K F vs ds → ds[i]? = some d → ∃ v, vs[i]? = some v ∧ Rep K F v d
  | _, _, 0, _, .cons h _, e => by cases e; exact ⟨_, rfl, h⟩
  | _, _, _ + 1, _, .cons _ r, e => by rw [List.getElem?_cons_succ] at e ⊢; exact Reps.get r e
  | _, _, _, _, .nil, e => by cases e
theorem Reps.app {K : Frag} {F : Hp} : ∀ {vs ws : List V} {ds es : List D}, Reps K F vs ds → Reps K F ws es → Reps K F (vs ++ ws) (ds ++ es)
  | _, _, _, _, .nil, b => b
  | _, _, _, _, .cons h r, b => .cons h (Reps.app r b)
theorem Reps.drop {K : Frag} {F : Hp} : ∀ {vs : List V} {ds : List D} (n : Nat), Reps K F vs ds → Reps K F (vs.drop n) (ds.drop n)
  | _, _, 0, r => r
  | _, _, _ + 1, .nil => .nil
  | _, _, n + 1, .cons _ r => Reps.drop n r
theorem Reps.take {K : Frag} {F : Hp} : ∀ {vs : List V} {ds : List D} (n : Nat), Reps K F vs ds → Reps K F (vs.take n) (ds.take n)
  | _, _, 0, _ => .nil
  | _, _, _ + 1, .nil => .nil
  | _, _, n + 1, .cons h r => .cons h (Reps.take n r)
theorem RepK.val {K : Frag} {F : Hp} {k : Key} : ∀ {vs : List (Key × V)} {ds : List (Key × D)}, RepK K F vs ds →
    (valV vs k = none ∧ (ds.find? fun kv => decide (kv.1 = k)).map (·.2) = none) ∨ ∃ v d, valV vs k = some v ∧ (ds.find? fun kv => decide (kv.1 = k)).map (·.2) = some d ∧ Rep K F v d
  | _, _, .nil => .inl ⟨rfl, rfl⟩
  | _, _, .cons (k := k1) (v := v) (d := d) h r => by
    by_cases e : k1 = k
    · exact .inr ⟨v, d, by simp [valV, List.find?_cons, e], by simp [List.find?_cons, e], h⟩
    · rcases RepK.val (k := k) r with ⟨a, b⟩ | ⟨v', d', a, b, c⟩
      · exact .inl ⟨by simpa [valV, List.find?_cons, e] using a, by simpa [List.find?_cons, e] using b⟩
      · exact .inr ⟨v', d', by simpa [valV, List.find?_cons, e] using a, by simpa [List.find?_cons, e] using b, c⟩
def truth : D → Option Bool
  | .non => some false
  | .bl b => some b
  | .int i => some (i != 0)
  | .str y => if y.length ≤ sizeLine then some ((y.length : Int) != 0) else none
  | .tup xs => some (!xs.isEmpty)
  | .lst xs => some (!xs.isEmpty)
  | .scr xs => some (!xs.isEmpty)
  | .dic xs => some (!xs.isEmpty)
  | _ => none
theorem isEmpty_of_len {α β : Type} {a : List α} {b : List β} (h : a.length = b.length) : a.isEmpty = b.isEmpty := by
  cases a <;> cases b <;> simp_all
theorem tru_of {K : Frag} {F H : Hp} {w : V} {d : D} {k : Bool} (e : Ex F H) (r : Rep K F w d) (h : truth d = some k) : TruV K w H k := by
  cases r with
  | non => cases h; rfl
  | bl b => cases h; rfl
  | int i => cases h; rfl
  | str x =>
    simp only [truth] at h
    by_cases hl : x.length ≤ sizeLine
    · rw [if_pos hl] at h; cases h; exact ⟨hl, rfl⟩
    · rw [if_neg hl] at h; cases h
  | tup h1 r1 => cases h; exact .inr (.inl ⟨_, ex_t e h1, by rw [isEmpty_of_len (Rep.len r1)]⟩)
  | lst h1 r1 => cases h; exact .inl ⟨_, SqL.of (e _ _ h1), by rw [isEmpty_of_len (Rep.len r1)]⟩
  | scr h1 r1 => cases h; exact .inl ⟨_, ex_l e h1, by rw [isEmpty_of_len (Rep.len r1)]⟩
  | dic h1 r1 => cases h; exact .inr (.inr ⟨_, e _ _ h1, by rw [isEmpty_of_len (RepK.len r1)]⟩)
  | npt h1 r1 => cases h
  | obj h1 hx r1 => cases h
  | ins h1 r1 => cases h
  | exc h1 hx r1 => cases h
  | fn x => cases h
  | fdc h1 r1 => cases h
def tr (g : Env → Rs D) : Env → Rs Bool := fun δ => bind (g δ) fun x => opt (truth x)
theorem jt_truth {X : Cx} {a : Expr} {g : Env → Rs D} (ha : JP X a g) (he : ∀ whole, isTrue a X.env whole = (do let v ← whole; standAt a.pos; holding [v] (truthy v)) := by intro _; rfl) : JT X a (tr g) := ⟨fun rp tk hg hP =>
  wt_of (pt_truth pe_we he) (jp_bind ha rp tk hg hP fun x vx F1 H1 h1 g1 rx r1 P1 => by
    obtain ⟨k, hk, rfl⟩ := opt_some h1
    exact ⟨k, tru_of r1.ex rx hk, P1 k F1 H1 (.refl r1.ex) rfl⟩)⟩
def asB : D → Option Bool
  | .bl b => some b
  | _ => none
def tb (g : Env → Rs D) : Env → Rs Bool := fun δ => bind (g δ) fun x => opt (asB x)
theorem asB_some {d : D} {b : Bool} (h : asB d = some b) : d = .bl b := by cases d <;> simp_all [asB]
theorem bind_assoc {α β γ : Type} (x : Rs α) (f : α → Rs β) (g : β → Rs γ) : bind (bind x f) g = bind x fun a => bind (f a) g := by
  cases x with
  | none => rfl
  | some y => cases y <;> rfl
theorem jt_cmp {X : Cx} {a b : Expr} {op : CmpOp} {pos : Pos} {r : R2} {g : D → D → Option D} {fa fb : Env → Rs D} (ho : OpR X (compareOp op) r) (hr : OpD X.K r g) (ha : JP X a fa) (hb : JP X b fb)
    (hm : behindInMarks op b = false := by first | exact nomark _ | with_unfolding_all rfl) : JT X (.Compare a [op] [b] pos) (tb (op2 g fa fb)) := ⟨fun rp tk hg hP => by
  simp only [tb, op2, bind_assoc] at hg
  exact wt_of (pt_cmpR ho pe_we pe_we hm) (jp_bind ha rp tk hg hP fun x vx F1 H1 h1 g1 rx r1 P1 => jp_bind hb r1 tk h1 P1 fun y vy F2 H2 h2 g2 ry r2 P2 => by
    cases e : g x y with
    | none => rw [e] at h2; cases h2
    | some z =>
      rw [e] at h2
      obtain ⟨q, hq, rfl⟩ := opt_some (x := asB z) h2
      cases asB_some hq
      refine hr r2.ex (Rep.mono g2.ff rx) ry e _ fun v F' H' g3 rv => ?_
      cases rv
      exact ⟨q, rfl, P2 q F' H' g3 rfl⟩)⟩
theorem jt_not {X : Cx} {a : Expr} {pos : Pos} {t : Env → Rs Bool} (ha : JT X a t) : JT X (.UnaryOp .Not a pos) (fun δ => bind (t δ) fun b => ok (!b)) := ⟨fun rp tk hg hP =>
  wt_of (pt_not pt_wt) (jt_bind ha rp tk hg hP fun x F1 H1 h1 g1 r1 P1 => P1.fin h1 _ F1 H1 (.refl r1.ex) rfl)⟩
def WW (X : Cx) (e : Expr) (σ : L2.St) (H : Hp) (Q : Bool → Hp → Prop) : Prop := ∀ (whole : Sem Value) pins s, Inv X pins σ H s → wpAny (model X.prog X.w) X.A (isTrue e X.env whole) (TP X pins σ Q) X.xe s
theorem pw_ww {X : Cx} {e : Expr} : PW X e (WW X e) := ⟨fun whole pins s _ _ _ I h => h whole pins s I⟩
theorem ww_of {X : Cx} {e : Expr} {t : TT} {σ : L2.St} {H : Hp} {Q : Bool → Hp → Prop} (h : PW X e t) (q : t σ H Q) : WW X e σ H Q := fun whole pins s I => h.run whole pins s σ H Q I q
abbrev JW (X : Cx) (e : Expr) (g : Env → Rs Bool) : Prop := J X (WW X e) relT g
theorem jt_w {X : Cx} {e : Expr} {g : Env → Rs Bool} (h : JW X e g) : JT X e g := ⟨fun rp tk hg hP => fun pins s I => h.run rp tk hg hP _ pins s I⟩
theorem jw_or1 {X : Cx} {a : Expr} {pos : Pos} {t : Env → Rs Bool} (ha : JT X a t) : JW X (.BoolOp .Or [a] pos) t := ⟨fun rp tk hg hP => ww_of (pw_or1 pt_wt) (ha.run rp tk hg hP)⟩
def tor (t u : Env → Rs Bool) : Env → Rs Bool := fun δ => bind (t δ) fun b => if b = true then ok true else u δ
theorem jw_or {X : Cx} {a b : Expr} {rest : List Expr} {pos : Pos} {t u : Env → Rs Bool} (ha : JT X a t) (hb : JW X (.BoolOp .Or (b :: rest) pos) u) : JW X (.BoolOp .Or (a :: b :: rest) pos) (tor t u) := ⟨fun rp tk hg hP =>
  ww_of (pw_or pt_wt pw_ww) (jt_bind ha rp tk hg hP fun x F1 H1 h1 g1 r1 P1 => by
    cases x with
    | false => rw [if_neg Bool.false_ne_true] at *; exact hb.run r1 tk h1 P1
    | true => rw [if_pos rfl] at *; exact P1.fin h1 _ F1 H1 (.refl r1.ex) rfl)⟩
def vand (a b : Env → Rs D) : Env → Rs D := fun δ => bind (a δ) fun x => bind (opt (truth x)) fun k => if k = true then b δ else ok x
def vor (a b : Env → Rs D) : Env → Rs D := fun δ => bind (a δ) fun x => bind (opt (truth x)) fun k => if k = true then ok x else b δ
def vnot (a : Env → Rs D) : Env → Rs D := fun δ => bind (a δ) fun x => bind (opt (truth x)) fun k => ok (.bl (!k))
theorem bind_opt {α β : Type} {x : Option α} {f : α → Rs β} {o : Except XD β} (h : bind (opt x) f = some o) : ∃ a, x = some a ∧ f a = some o := by
  cases x with
  | none => cases h
  | some a => exact ⟨a, rfl, h⟩
theorem jp_one {X : Cx} {a : Expr} {op} {pos : Pos} {g : Env → Rs D} (h : JP X a g) : JP X (.BoolOp op [a] pos) g := ⟨fun rp tk hg hP => we_of (pe_one pe_we) (h.run rp tk hg hP)⟩
theorem jp_and {X : Cx} {a b : Expr} {rest : List Expr} {pos : Pos} {f g : Env → Rs D} (ha : JP X a f) (hb : JP X (.BoolOp .And (b :: rest) pos) g) : JP X (.BoolOp .And (a :: b :: rest) pos) (vand f g) := ⟨fun rp tk hg hP =>
  we_of (pe_andT pe_we pe_we) (jp_bind ha rp tk hg hP fun x vx F1 H1 h1 g1 rx r1 P1 => by
    obtain ⟨k, hk, h2⟩ := bind_opt h1
    refine ⟨k, tru_of r1.ex rx hk, ?_⟩
    cases k with
    | true => rw [if_pos rfl] at *; exact hb.run r1 tk h2 P1
    | false => rw [if_neg Bool.false_ne_true] at *; exact P1.fin h2 _ F1 H1 (.refl r1.ex) rx)⟩
theorem jp_or {X : Cx} {a b : Expr} {rest : List Expr} {pos : Pos} {f g : Env → Rs D} (ha : JP X a f) (hb : JP X (.BoolOp .Or (b :: rest) pos) g) : JP X (.BoolOp .Or (a :: b :: rest) pos) (vor f g) := ⟨fun rp tk hg hP =>
  we_of (pe_orT pe_we pe_we) (jp_bind ha rp tk hg hP fun x vx F1 H1 h1 g1 rx r1 P1 => by
    obtain ⟨k, hk, h2⟩ := bind_opt h1
    refine ⟨k, tru_of r1.ex rx hk, ?_⟩
    cases k with
    | false => rw [if_neg Bool.false_ne_true] at *; exact hb.run r1 tk h2 P1
    | true => rw [if_pos rfl] at *; exact P1.fin h2 _ F1 H1 (.refl r1.ex) rx)⟩
theorem jp_not {X : Cx} {a : Expr} {pos : Pos} {f : Env → Rs D} (ha : JP X a f) : JP X (.UnaryOp .Not a pos) (vnot f) := ⟨fun rp tk hg hP =>
  we_of (pe_notT pe_we) (jp_bind ha rp tk hg hP fun x vx F1 H1 h1 g1 rx r1 P1 => by
    obtain ⟨k, hk, h2⟩ := bind_opt h1
    exact ⟨k, tru_of r1.ex rx hk, P1.fin h2 _ F1 H1 (.refl r1.ex) (.bl _)⟩)⟩
def vif (t : Env → Rs Bool) (a b : Env → Rs D) : Env → Rs D := fun δ => bind (t δ) fun k => if k = true then a δ else b δ
theorem jp_if {X : Cx} {q a b : Expr} {pos : Pos} {t : Env → Rs Bool} {f g : Env → Rs D} (hq : JT X q t) (ha : JP X a f) (hb : JP X b g) : JP X (.IfExp q a b pos) (vif t f g) := ⟨fun rp tk hg hP =>
  we_of (pe_ifExp pt_wt pe_we pe_we) (jt_bind hq rp tk hg hP fun x F1 H1 h1 g1 r1 P1 => by
    cases x with
    | true => rw [if_pos rfl] at *; exact ha.run r1 tk h1 P1
    | false => rw [if_neg Bool.false_ne_true] at *; exact hb.run r1 tk h1 P1)⟩
def anil : Env → Rs (List D) := fun _ => ok []
def acons (a : Env → Rs D) (r : Env → Rs (List D)) : Env → Rs (List D) := fun δ => bind (a δ) fun x => bind (r δ) fun xs => ok (x :: xs)
theorem ja_nil {X : Cx} : JA X [] anil := ⟨fun rp tk hg hP => wa_of pa_nil (hP.fin hg _ _ _ (.refl rp.ex) .nil)⟩
theorem ja_cons {X : Cx} {e : Expr} {es : List Expr} {a : Env → Rs D} {r : Env → Rs (List D)} (ha : JP X e a) (hr : JA X es r) (hs : starEach (e :: es) X.env = (false, eval e X.env) :: starEach es X.env := by rfl) : JA X (e :: es) (acons a r) := ⟨fun rp tk hg hP =>
  wa_of (pa_cons pe_we pa_wa hs) (jp_bind ha rp tk hg hP fun x vx F1 H1 h1 g1 rx r1 P1 => ja_bind hr r1 tk h1 P1 fun xs vxs F2 H2 h2 g2 rxs r2 P2 => P2.fin h2 _ F2 H2 (.refl r2.ex) (.cons (rx.mono g2.ff) rxs))⟩
def vtup (a : Env → Rs (List D)) : Env → Rs D := fun δ => bind (a δ) fun xs => if xs.length ≤ sizeLine then ok (.tup xs) else none
def vlst (a : Env → Rs (List D)) : Env → Rs D := fun δ => bind (a δ) fun xs => if xs.length ≤ sizeLine then ok (.lst xs) else none
def tTupP (t : TA) : TE := fun σ H Q => t σ H fun xs H1 => xs.length ≤ sizeLine ∧ ∀ p o, H1 p = none → PlT o → Q (.ref p) (upd H1 p (.frz o (.tup xs)))
open PySem.Spec PyProof.Rows in
theorem pe_tupP {X : Cx} {es : List Expr} {x1} {pos : Pos} {t : TA} (h : PA X es t) : PE X (.Tuple es x1 pos) (tTupP t) := by
  refine ⟨fun pins s σ H Q I hq => ?_⟩
  refine wpAny_Tuple_spliced (thn (h.run pos pins s σ H _ I hq) fun us s1 ⟨xs, H1, I1, r, z, q⟩ => ⟨by rw [← r.length]; exact z, ?_⟩)
  have hf : H1 s1.heap.objs.size = none := I1.hok.fresh (Nat.le_refl _)
  refine ⟨.ref s1.heap.objs.size, upd H1 s1.heap.objs.size (.frz { cls := .type "tuple", data := .seq us.toArray } (.tup xs)), I1.laid (t' := s1.toks) (fun b u e => Heap.get?_push_of_some _ e) (Nat.le_refl _) ?_, rfl, q _ _ hf ?_⟩
  · exact ⟨Heap.get?_push_size _ rfl, z, us, r, ⟨_, Heap.get?_push_size _ rfl, rfl, _, rfl⟩⟩
  · exact ⟨rfl, rfl, _, _, rfl⟩
theorem jp_tup {X : Cx} {es : List Expr} {x1} {pos : Pos} {a : Env → Rs (List D)} (ha : JA X es a) : JP X (.Tuple es x1 pos) (vtup a) := ⟨fun rp tk hg hP =>
  we_of (pe_tupP pa_wa) (ja_bind ha rp tk hg hP fun xs vs F1 H1 h1 g1 rx r1 P1 => by
    by_cases hl : xs.length ≤ sizeLine
    · rw [if_pos hl] at h1
      exact ⟨by rw [Rep.len rx]; exact hl, fun p ob hp hpl => P1.fin h1 _ _ _ (.new r1.ex hp) (.tup (SqP.of upd_same hpl) (rx.mono (Ex.new (none_back r1.ex hp))))⟩
    · rw [if_neg hl] at h1; cases h1)⟩
theorem jp_lst {X : Cx} {es : List Expr} {pos : Pos} {a : Env → Rs (List D)} (ha : JA X es a) : JP X (.List es pos) (vlst a) := ⟨fun rp tk hg hP =>
  we_of (pe_lst pa_wa) (ja_bind ha rp tk hg hP fun xs vs F1 H1 h1 g1 rx r1 P1 => by
    by_cases hl : xs.length ≤ sizeLine
    · rw [if_pos hl] at h1
      exact ⟨by rw [Rep.len rx]; exact hl, fun p hp => P1.fin h1 _ _ _ (.new r1.ex hp) (.lst upd_same (rx.mono (Ex.new (none_back r1.ex hp))))⟩
    · rw [if_neg hl] at h1; cases h1)⟩
def spP (K : Frag) (m : List D → Rs D) : Sp := fun vs H Q E => ∃ F ds o, Ex F H ∧ Reps K F vs ds ∧ m ds = some o ∧ Post (Rep K) K F H [] (fun cls dd _ H' => E cls dd H') o Q
structure Fn (P : Program) (w : World) (K : Frag) (mg : Str → Option Value) (base : Heap) (k : Nat) (x : Str) (m : List D → Rs D) : Prop where
  at_ : ∃ f fd ps, FnOk P w K mg base (L2.CX P w) k f fd ps (spP K m) ∧ mg x = some (.ref f) ∧ PySem.W.keepIn K (.ref f) = true ∧ Binds K fd ps []
def vcall (m : List D → Rs D) (a : Env → Rs (List D)) : Env → Rs D := fun δ => bind (a δ) m
theorem post_call {K : Frag} {F H : Hp} {σ : L2.St} {W : WX} {o : Except XD D} {Q : VK} (p : Post (Rep K) K F H σ W o Q) : Post (Rep K) K F H [] (fun cls dd _ H' => L2.WE W σ cls dd H') o Q := by
  cases o with
  | ok d => exact p
  | error x => exact p
theorem jp_call {X : Cx} {k : Nat} {x : Str} {p pos : Pos} {e : Expr} {es : List Expr} {m : List D → Rs D} {a : Env → Rs (List D)} (hf : Fn X.prog X.w X.K X.mg X.base k x m) (hr : Room k X.A) (ha : JA X (e :: es) a) (hg : Gl X x := by rfl)
    (hdb : (x == ("__debug__" : Str)) = false := by decide) (he : starEach (e :: es) X.env = (false, eval e X.env) :: starEach es X.env := by rfl) (hpl : (backTo pos (starEach es X.env)).any (·.1) = false := by rfl) :
    JP X (.Call (.Name x p) (e :: es) [] pos) (vcall m a) := ⟨fun rp tk hg' hP => by
  obtain ⟨f, fd, ps, F, hm, hk, hb⟩ := hf.at_
  exact we_of (pe_callS F hr hg hm hk hb (fun σ => passAt tk σ) pa_wa hdb he hpl) (ja_bind ha rp tk hg' hP fun xs vs F1 H1 h1 g1 rx r1 P1 => ⟨F1, xs, _, r1.ex, rx, h1, post_call P1⟩)⟩
def CallD (K : Frag) (r : List V → Hp → VK → Prop) (g : List D → Option D) : Prop := ∀ {F H : Hp} {vs : List V} {xs : List D} {z : D}, Ex F H → Reps K F vs xs → g xs = some z → ∀ Q : VK, (∀ v F' H', Grow F H F' H' → Rep K F' v z → Q v H') → r vs H Q
def vcallB (g : List D → Option D) (a : Env → Rs (List D)) : Env → Rs D := fun δ => bind (a δ) fun xs => opt (g xs)
theorem jp_callB {X : Cx} {id : String} {x : Str} {p pos : Pos} {e : Expr} {es : List Expr} {r : List V → Hp → VK → Prop} {g : List D → Option D} {a : Env → Rs (List D)} (hc : CallR X (.builtin id) r) (hd : CallD X.K r g) (hm : X.mg x = none) (hv : bootBuiltins x = some (.builtin id)) (ha : JA X (e :: es) a) (hg : Gl X x := by rfl)
    (hn : x ≠ "__name__" := by decide) (hdb : (x == ("__debug__" : Str)) = false := by decide) (he : starEach (e :: es) X.env = (false, eval e X.env) :: starEach es X.env := by rfl) (hpl : (backTo pos (starEach es X.env)).any (·.1) = false := by rfl) :
    JP X (.Call (.Name x p) (e :: es) [] pos) (vcallB g a) := ⟨fun rp tk hg' hP =>
  we_of (pe_callB hc hg hm hv pa_wa hn hdb he hpl) (ja_bind ha rp tk hg' hP fun xs vs F1 H1 h1 g1 rx r1 P1 => by
    obtain ⟨z, hz, rfl⟩ := opt_some h1
    exact hd r1.ex rx hz _ P1)⟩
theorem jp_callTy {X : Cx} {T : String} {x : Str} {p pos : Pos} {e : Expr} {es : List Expr} {r : List V → Hp → VK → Prop} {g : List D → Option D} {a : Env → Rs (List D)} (hc : CallR X (.type T) r) (hd : CallD X.K r g) (hm : X.mg x = none) (hv : bootBuiltins x = some (.type T)) (ha : JA X (e :: es) a) (hg : Gl X x := by rfl)
    (hn : x ≠ "__name__" := by decide) (hdb : (x == ("__debug__" : Str)) = false := by decide) (he : starEach (e :: es) X.env = (false, eval e X.env) :: starEach es X.env := by rfl) (hpl : (backTo pos (starEach es X.env)).any (·.1) = false := by rfl) :
    JP X (.Call (.Name x p) (e :: es) [] pos) (vcallB g a) := ⟨fun rp tk hg' hP =>
  we_of (pe_callTy hc hg hm hv pa_wa hn hdb he hpl) (ja_bind ha rp tk hg' hP fun xs vs F1 H1 h1 g1 rx r1 P1 => by
    obtain ⟨z, hz, rfl⟩ := opt_some h1
    exact hd r1.ex rx hz _ P1)⟩
end PD
end
section
namespace PD
open PySem L2
def ownF (c : Str) (i : Nat) : Bool := (c == ("Water" : Str) && (i == 0 || i == 1 || i == 3)) || (c == ("Tide" : Str) && (i == 3 || i == 4)) || (c == ("Rows" : Str) && (i == 0 || i == 1))
inductive OwnC (K : Frag) (F H : Hp) : V → D → Addr → Prop
  | lst {p : Addr} {vs : List V} {ds : List D} (h : H p = some (.lst vs)) (r : Reps K F vs ds) : OwnC K F H (.ref p) (.lst ds) p
  | dic {p : Addr} {vs : List (Key × V)} {ds : List (Key × D)} (h : H p = some (.dK vs)) (r : RepK K F vs ds) : OwnC K F H (.ref p) (.dic ds) p
theorem OwnC.keep {K : Frag} {F H F' H' : Hp} {w : V} {d : D} {p : Addr} (e : Ex F F') (k : ∀ o, H p = some o → H' p = some o) (o : OwnC K F H w d p) : OwnC K F' H' w d p := by
  cases o with
  | lst h r => exact .lst (k _ h) (r.mono e)
  | dic h r => exact .dic (k _ h) (r.mono e)
structure OwnB (K : Frag) (F H : Hp) (p dx : Addr) (c : Str) (vs : List (Option V)) (ds : List (Option D)) (kp : Nat → Addr) (fp : List Addr) : Prop where
  ob : H p = some (SlX.SlO p (He.ga K c) dx vs)
  dxo : H dx = some (.xd [])
  ne : dx ≠ p
  fld : ∀ (i : Nat) (d : D), ds[i]? = some (some d) → ∃ v : V, vs[i]? = some (some v) ∧ (if ownF c i = true then OwnC K F H v d (kp i) ∧ kp i ∈ fp ∧ kp i ≠ p ∧ kp i ≠ dx else Rep K F v d)
  dis : ∀ (i j : Nat) (d e : D), i ≠ j → ownF c i = true → ownF c j = true → ds[i]? = some (some d) → ds[j]? = some (some e) → kp i ≠ kp j
  inp : p ∈ fp
  inx : dx ∈ fp
  all : ∀ a ∈ fp, a = p ∨ a = dx ∨ ∃ i d, ownF c i = true ∧ ds[i]? = some (some d) ∧ a = kp i
def tabA (K : Frag) (x : Str) : Addr := (He.cT K (x, none)).2
def lamQ (x : Str) : Str := x ++ ".<locals>." ++ "<lambda>"
def TabO (F H : Hp) (P : Addr) (q : Str) : Prop := ∃ ps : Array Value, H P = some (.tbl ps) ∧ TriplesOk ps.toList ∧ ∀ (pos : Pos) (cv : Value), codeAmong pos ps.toList = some cv → ∃ c, cv = .ref c ∧ F c = some (LamX.CodeO c q)
theorem TabO.keep {F H F' H' : Hp} {P : Addr} {q : Str} (e : Ex F F') (k : ∀ o, H P = some o → H' P = some o) (t : TabO F H P q) : TabO F' H' P q := by
  obtain ⟨ps, h1, h2, h3⟩ := t
  exact ⟨ps, k _ h1, h2, fun pos cv hc => let ⟨c, e1, e2⟩ := h3 pos cv hc; ⟨c, e1, e _ _ e2⟩⟩
inductive OwnV (K : Frag) (F H : Hp) : V → D → List Addr → Prop
  | lst {p : Addr} {vs : List V} {ds : List D} (h : H p = some (.lst vs)) (r : Reps K F vs ds) : OwnV K F H (.ref p) (.lst ds) [p]
  | dic {p : Addr} {vs : List (Key × V)} {ds : List (Key × D)} (h : H p = some (.dK vs)) (r : RepK K F vs ds) : OwnV K F H (.ref p) (.dic ds) [p]
  | ins {p dx : Addr} {c : Str} {vs : List (Str × V)} {ds : List (Str × D)} (h : H p = some (.ins (He.ga K c) dx vs)) (r : RepF K F vs ds) : OwnV K F H (.ref p) (.ins c ds) [p]
  | obj {p dx : Addr} {c : Str} {vs : List (Option V)} {ds : List (Option D)} {kp : Nat → Addr} {fp : List Addr} (h : OwnB K F H p dx c vs ds kp fp) : OwnV K F H (.ref p) (.obj c ds) fp
  | tab {x : Str} (h : TabO F H (tabA K x) (lamQ x)) : OwnV K F H (.ref (He.ga K x)) (.fn x) [tabA K x]
theorem OwnB.keep {K : Frag} {F H F' H' : Hp} {p dx : Addr} {c : Str} {vs : List (Option V)} {ds : List (Option D)} {kp : Nat → Addr} {fp : List Addr} (e : Ex F F') (k : ∀ a ∈ fp, ∀ o, H a = some o → H' a = some o) (o : OwnB K F H p dx c vs ds kp fp) : OwnB K F' H' p dx c vs ds kp fp where
  ob := k _ o.inp _ o.ob
  dxo := k _ o.inx _ o.dxo
  ne := o.ne
  fld := fun i d h => by
    obtain ⟨v, hv, r⟩ := o.fld i d h
    refine ⟨v, hv, ?_⟩
    split
    · rename_i q; rw [if_pos q] at r; exact ⟨r.1.keep e (k _ r.2.1), r.2⟩
    · rename_i q; rw [if_neg q] at r; exact r.mono e
  dis := o.dis
  inp := o.inp
  inx := o.inx
  all := o.all
theorem OwnV.keep {K : Frag} {F H F' H' : Hp} {w : V} {d : D} {fp : List Addr} (e : Ex F F') (k : ∀ a ∈ fp, ∀ o, H a = some o → H' a = some o) (o : OwnV K F H w d fp) : OwnV K F' H' w d fp := by
  cases o with
  | lst h r => exact .lst (k _ (List.mem_singleton.2 rfl) _ h) (r.mono e)
  | dic h r => exact .dic (k _ (List.mem_singleton.2 rfl) _ h) (r.mono e)
  | ins h r => exact .ins (k _ (List.mem_singleton.2 rfl) _ h) (r.mono e)
  | obj h => exact .obj (h.keep e k)
  | tab h => exact .tab (h.keep e (k _ (List.mem_singleton.2 rfl)))
structure Pm where
  ch : Addr → Prop
  bx : Addr → Prop
  rt : Addr → Prop
instance : CoeFun Pm (fun _ => Addr → Prop) := ⟨Pm.ch⟩
def Pm.no : Pm := ⟨fun _ => False, fun _ => False, fun _ => False⟩
class PmOk (P : Pm) : Prop where
  ok : ∀ a, P a → P.bx a
instance : PmOk Pm.no := ⟨fun _ h => h⟩
instance (S r : Addr → Prop) : PmOk ⟨S, S, r⟩ := ⟨fun _ h => h⟩
structure RS (K : Frag) (own : List Nat) (P : Pm) (F0 H0 F : Hp) (σ : L2.St) (H : Hp) (δ : Env) : Prop where
  ff : Ex F0 F
  fh : Ex F H
  hh : ∀ a o, ¬ P a → H0 a = some o → H a = some o
  dm : ∀ a, H0 a ≠ none → H a ≠ none
  nw : ∀ a, F a ≠ none → F0 a ≠ none ∨ H0 a = none
  ln : σ.length = δ.length
  par : ∀ a, P.rt a → 0 ∈ own ∧ σ[0]? = some (some (.ref a))
  bxh : ∀ a, P.bx a → H0 a ≠ none
  val : ∀ (i : Nat) (d : D), i ∉ own → δ[i]? = some (some d) → ∃ v : V, σ[i]? = some (some v) ∧ Rep K F v d
  own : ∃ fp : Nat → List Addr, (∀ (i : Nat) (d : D), i ∈ own → δ[i]? = some (some d) → ∃ v : V, σ[i]? = some (some v) ∧ OwnV K F H v d (fp i)) ∧
    (∀ i a, a ∈ fp i → F a = none ∧ H a ≠ none ∧ (H0 a = none ∨ P a ∧ (P.bx a → i = 0 ∨ i = 40))) ∧ ∀ i j a, i ≠ j → a ∈ fp i → a ∉ fp j
def mask (own : List Nat) (δ : Env) : Env := own.foldl (fun δ i => δ.set i none) δ
theorem mask_get : ∀ {own : List Nat} {δ : Env} {i : Nat} {d : D}, (mask own δ)[i]? = some (some d) → i ∉ own ∧ δ[i]? = some (some d)
  | [], _, _, _, h => ⟨by simp, h⟩
  | j :: own, δ, i, d, h => by
    obtain ⟨a, b⟩ := mask_get (own := own) (δ := δ.set j none) h
    by_cases e : j = i
    · subst e
      rw [List.getElem?_set] at b
      by_cases hl : j < δ.length <;> simp [hl] at b
    · rw [List.getElem?_set_ne e] at b
      exact ⟨by simp; exact ⟨fun h => e h.symm, a⟩, b⟩
theorem mask_len : ∀ {own : List Nat} {δ : Env}, (mask own δ).length = δ.length
  | [], _ => rfl
  | j :: own, δ => (mask_len (own := own) (δ := δ.set j none)).trans (List.length_set ..)
theorem RS.rp {K : Frag} {own : List Nat} {P : Pm} {F0 H0 F : Hp} {σ : L2.St} {H : Hp} {δ : Env} (r : RS K own P F0 H0 F σ H δ) : RP K F σ H (mask own δ) :=
  ⟨r.fh, r.ln.trans mask_len.symm, fun i d h => let ⟨a, b⟩ := mask_get h; r.val i d a b⟩
theorem RS.grow {K : Frag} {own : List Nat} {P : Pm} {F0 H0 F F' H' : Hp} {σ : L2.St} {H : Hp} {δ : Env} (r : RS K own P F0 H0 F σ H δ) (g : Grow F H F' H') : RS K own P F0 H0 F' σ H' δ where
  ff := r.ff.trans g.ff
  fh := g.fh
  hh := fun a o p h => g.hh a o (r.hh a o p h)
  dm := fun a h => by
    have := r.dm a h
    cases e : H a with
    | none => exact absurd e this
    | some o => rw [g.hh a o e]; simp
  nw := fun a h => (g.nw a h).elim (r.nw a) fun h1 => by
    by_cases e : H0 a = none
    · exact .inr e
    · exact absurd h1 (r.dm a e)
  ln := r.ln
  par := r.par
  bxh := r.bxh
  val := fun i d h e => let ⟨v, a, b⟩ := r.val i d h e; ⟨v, a, b.mono g.ff⟩
  own := by
    obtain ⟨fp, h1, h2, h3⟩ := r.own
    refine ⟨fp, fun i d hi e => ?_, fun i a ha => ?_, h3⟩
    · obtain ⟨v, a, b⟩ := h1 i d hi e
      exact ⟨v, a, b.keep g.ff fun a _ o h => g.hh a o h⟩
    · obtain ⟨a1, a2, a3⟩ := h2 i a ha
      refine ⟨?_, ?_, a3⟩
      · cases e : F' a with
        | none => rfl
        | some o => exact ((g.nw a (by rw [e]; simp)).elim (fun h => absurd a1 h) fun h => absurd h a2)
      · cases e : H a with
        | none => exact absurd e a2
        | some o => rw [g.hh a o e]; simp
abbrev RE (α : Type) := Option (Except (XD × Env) (α × Env))
def bindE {α β : Type} (x : RE α) (f : α → Env → RE β) : RE β := match x with
  | none => none
  | some (.error e) => some (.error e)
  | some (.ok (a, δ)) => f a δ
def lf {α : Type} (own : List Nat) (g : Env → Rs α) : Env → RE α := fun δ => match g (mask own δ) with
  | none => none
  | some (.ok d) => some (.ok (d, δ))
  | some (.error x) => some (.error (x, δ))
structure Fr where
  own : List Nat
  P : Pm
  F0 : Hp
  H0 : Hp
abbrev RSf (X : Cx) (f : Fr) (F : Hp) (σ : L2.St) (H : Hp) (δ : Env) : Prop := RS X.K f.own f.P f.F0 f.H0 F σ H δ
def PostE {α β : Type} (rel : Hp → β → α → Prop) (X : Cx) (f : Fr) (F : Hp) (σ : L2.St) (W : WX) (o : Except (XD × Env) (α × Env)) (Q : β → Hp → Prop) : Prop := match o with
  | .ok (d, δ') => ∀ v F' H', RSf X f F' σ H' δ' → Ex F F' → rel F' v d → Q v H'
  | .error (x, δ') => ∀ cls dd F' H', RSf X f F' σ H' δ' → Ex F F' → RepX X.K F' cls dd x → W cls dd σ H'
structure JS0 {α β : Type} (X : Cx) (own : List Nat) (w : L2.St → Hp → (β → Hp → Prop) → Prop) (rel : Hp → β → α → Prop) (g : Env → RE α) : Prop where
  run : ∀ {P F0 H0 σ F H δ W Q o}, RSf X ⟨own, P, F0, H0⟩ F σ H δ → Takes X W → g δ = some o → PostE rel X ⟨own, P, F0, H0⟩ F σ W o Q → w σ H Q
abbrev JE (X : Cx) (own : List Nat) (e : Expr) (g : Env → RE D) : Prop := JS0 X own (WE X e) (Rep X.K) g
abbrev JTE (X : Cx) (own : List Nat) (e : Expr) (g : Env → RE Bool) : Prop := JS0 X own (WT X e) relT g
abbrev JAE (X : Cx) (own : List Nat) (es : List Expr) (g : Env → RE (List D)) : Prop := JS0 X own (WA X es) (Reps X.K) g
theorem js_lift {α β : Type} {X : Cx} {own : List Nat} {w : L2.St → Hp → (β → Hp → Prop) → Prop} {rel : Hp → β → α → Prop} {g : Env → Rs α} (h : J X w rel g) : JS0 X own w rel (lf own g) := ⟨fun {P F0 H0 σ F H δ W Q o} r tk hg hP => by
  unfold lf at hg
  cases e : g (mask own δ) with
  | none => rw [e] at hg; cases hg
  | some y => cases y with
    | ok d => rw [e] at hg; cases hg; exact h.run r.rp tk e fun v F' H' gr rv => hP v F' H' (r.grow gr) gr.ff rv
    | error x => rw [e] at hg; cases hg; exact h.run r.rp tk e fun c d F' H' gr rv => hP c d F' H' (r.grow gr) gr.ff rv⟩
theorem PostE.later {α β : Type} {rel : Hp → β → α → Prop} {X : Cx} {f : Fr} {F F1 : Hp} {σ : L2.St} {W : WX} {o : Except (XD × Env) (α × Env)} {Q : β → Hp → Prop} (e : Ex F F1) (p : PostE rel X f F σ W o Q) : PostE rel X f F1 σ W o Q := by
  cases o with
  | ok d => exact fun v F' H' r g' rv => p v F' H' r (e.trans g') rv
  | error x => exact fun c d F' H' r g' rv => p c d F' H' r (e.trans g') rv
theorem js_bind {α β α2 β2 : Type} {X : Cx} {own : List Nat} {w : L2.St → Hp → (β → Hp → Prop) → Prop} {rel : Hp → β → α → Prop} {rel2 : Hp → β2 → α2 → Prop} {g : Env → RE α} {k : α → Env → RE α2} {σ : L2.St} {P : Pm} {F0 H0 F H : Hp} {δ : Env} {W : WX} {o : Except (XD × Env) (α2 × Env)} {Q : β2 → Hp → Prop} {Q1 : β → Hp → Prop}
    (ha : JS0 X own w rel g) (r : RSf X ⟨own, P, F0, H0⟩ F σ H δ) (tk : Takes X W) (hg : bindE (g δ) k = some o) (hP : PostE rel2 X ⟨own, P, F0, H0⟩ F σ W o Q)
    (hk : ∀ x v δ1 F1 H1, k x δ1 = some o → Ex F F1 → rel F1 v x → RSf X ⟨own, P, F0, H0⟩ F1 σ H1 δ1 → PostE rel2 X ⟨own, P, F0, H0⟩ F1 σ W o Q → Q1 v H1) : w σ H Q1 := by
  cases e : g δ with
  | none => rw [e] at hg; cases hg
  | some y => cases y with
    | ok x => rw [e] at hg; exact ha.run r tk e fun v F1 H1 r1 e1 rx => hk x.1 v x.2 F1 H1 hg e1 rx r1 (hP.later e1)
    | error x => rw [e] at hg; cases hg; exact ha.run r tk e hP
inductive Out where
  | nx | rt (d : D) | bk | ct
abbrev RO := RE Out
def PostS (X : Cx) (f : Fr) (F : Hp) (W : WX) (o : Except (XD × Env) (Out × Env)) (D : Ends) : Prop := match o with
  | .ok (.nx, δ') => ∀ σ' F' H', RSf X f F' σ' H' δ' → Ex F F' → D.nx σ' H'
  | .ok (.rt d, δ') => ∀ v σ' F' H', RSf X f F' σ' H' δ' → Ex F F' → Rep X.K F' v d → D.rt v H'
  | .ok (.bk, δ') => ∀ σ' F' H', RSf X f F' σ' H' δ' → Ex F F' → D.bk σ' H'
  | .ok (.ct, δ') => ∀ σ' F' H', RSf X f F' σ' H' δ' → Ex F F' → D.ct σ' H'
  | .error (x, δ') => ∀ cls dd σ' F' H', RSf X f F' σ' H' δ' → Ex F F' → RepX X.K F' cls dd x → W cls dd σ' H'
theorem PostS.later {X : Cx} {f : Fr} {F F1 : Hp} {W : WX} {o : Except (XD × Env) (Out × Env)} {D : Ends} (e : Ex F F1) (p : PostS X f F W o D) : PostS X f F1 W o D := by
  rcases o with x | ⟨o, δ'⟩
  · exact fun c d σ F' H' r g' rv => p c d σ F' H' r (e.trans g') rv
  · cases o with
    | nx => exact fun σ F' H' r g' => p σ F' H' r (e.trans g')
    | rt d => exact fun v σ F' H' r g' rv => p v σ F' H' r (e.trans g') rv
    | bk => exact fun σ F' H' r g' => p σ F' H' r (e.trans g')
    | ct => exact fun σ F' H' r g' => p σ F' H' r (e.trans g')
structure JS (X : Cx) (own : List Nat) (st : Stmt) (g : Env → RO) : Prop where
  run : ∀ {P F0 H0 σ F H δ W o D} [PmOk P], RSf X ⟨own, P, F0, H0⟩ F σ H δ → Takes X W → g δ = some o → PostS X ⟨own, P, F0, H0⟩ F W o D → WS X st D σ H
structure JSs (X : Cx) (own : List Nat) (st : List Stmt) (g : Env → RO) : Prop where
  run : ∀ {P F0 H0 σ F H δ W o D} [PmOk P], RSf X ⟨own, P, F0, H0⟩ F σ H δ → Takes X W → g δ = some o → PostS X ⟨own, P, F0, H0⟩ F W o D → WSs X st D σ H
theorem se_bind {α β : Type} {X : Cx} {own : List Nat} {w : L2.St → Hp → (β → Hp → Prop) → Prop} {rel : Hp → β → α → Prop} {g : Env → RE α} {k : α → Env → RO} {σ : L2.St} {P : Pm} {F0 H0 F H : Hp} {δ : Env} {W : WX} {o : Except (XD × Env) (Out × Env)} {D : Ends} {Q1 : β → Hp → Prop}
    (ha : JS0 X own w rel g) (r : RSf X ⟨own, P, F0, H0⟩ F σ H δ) (tk : Takes X W) (hg : bindE (g δ) k = some o) (hP : PostS X ⟨own, P, F0, H0⟩ F W o D)
    (hk : ∀ x v δ1 F1 H1, k x δ1 = some o → Ex F F1 → rel F1 v x → RSf X ⟨own, P, F0, H0⟩ F1 σ H1 δ1 → PostS X ⟨own, P, F0, H0⟩ F1 W o D → Q1 v H1) : w σ H Q1 := by
  cases e : g δ with
  | none => rw [e] at hg; cases hg
  | some y => cases y with
    | ok x => rw [e] at hg; exact ha.run r tk e fun v F1 H1 r1 e1 rx => hk x.1 v x.2 F1 H1 hg e1 rx r1 (hP.later e1)
    | error x => rw [e] at hg; cases hg; exact ha.run r tk e fun c d F' H' r1 e1 rx => hP c d σ F' H' r1 e1 rx
def snext : Env → RO := fun δ => some (.ok (.nx, δ))
def sseq (a b : Env → RO) : Env → RO := fun δ => match a δ with
  | some (.ok (.nx, δ')) => b δ'
  | x => x
theorem js_nil {X : Cx} {own : List Nat} : JSs X own [] snext := ⟨fun r tk hg hP => by cases hg; exact wss_of pss_nil (hP _ _ _ r (Ex.refl _))⟩
theorem js_one {X : Cx} {own : List Nat} {st : Stmt} {g : Env → RO} (h : JS X own st g) : JSs X own [st] g := ⟨fun r tk hg hP => wss_of (pss_one ps_ws) (h.run r tk hg hP)⟩
theorem js_cons {X : Cx} {own : List Nat} {st : Stmt} {rest : List Stmt} {g k : Env → RO} (h : JS X own st g) (hr : JSs X own rest k) : JSs X own (st :: rest) (sseq g k) := ⟨fun {P F0 H0 σ F H δ W o D} _ r tk hg hP => by
  refine wss_of (pss_cons ps_ws pss_wss) ?_
  show WS X st { D with nx := WSs X rest D } σ H
  unfold sseq at hg
  cases e : g δ with
  | none => rw [e] at hg; cases hg
  | some y => rcases y with x | ⟨o1, δ1⟩
              · rw [e] at hg; cases hg; exact h.run r tk e hP
              · cases o1 with
                | nx => rw [e] at hg; exact h.run r tk e fun σ' F' H' r1 e1 => hr.run r1 tk hg (hP.later e1)
                | rt d => rw [e] at hg; cases hg; exact h.run r tk e hP
                | bk => rw [e] at hg; cases hg; exact h.run r tk e hP
                | ct => rw [e] at hg; cases hg; exact h.run r tk e hP⟩
def sret (f : Env → RE D) : Env → RO := fun δ => bindE (f δ) fun d δ' => some (.ok (.rt d, δ'))
theorem js_ret {X : Cx} {own : List Nat} {e : Expr} {pos : Pos} {f : Env → RE D} (h : JE X own e f) : JS X own (.Return (some e) pos) (sret f) := ⟨fun r tk hg hP => ws_of (ps_ret pe_we) (se_bind h r tk hg hP fun x v δ1 F1 H1 h1 e1 rx r1 P1 => by cases h1; exact P1 v _ F1 H1 r1 (Ex.refl _) rx)⟩
def sif (t : Env → RE Bool) (a b : Env → RO) : Env → RO := fun δ => bindE (t δ) fun k δ' => if k = true then a δ' else b δ'
theorem js_if {X : Cx} {own : List Nat} {q : Expr} {a b : List Stmt} {pos : Pos} {t : Env → RE Bool} {f g : Env → RO} (hq : JTE X own q t) (ha : JSs X own a f) (hb : JSs X own b g) : JS X own (.If q a b pos) (sif t f g) := ⟨fun {P F0 H0 σ F H δ W o D} _ r tk hg hP => by
  refine ws_of (ps_if pt_wt pss_wss pss_wss) ?_
  show WT X q σ H fun k H1 => if k = true then WSs X a D σ H1 else WSs X b D σ H1
  exact se_bind hq r tk hg hP fun x v δ1 F1 H1 h1 e1 rx r1 P1 => by
    cases rx
    cases x with
    | true => rw [if_pos rfl] at *; exact ha.run r1 tk h1 P1
    | false => rw [if_neg Bool.false_ne_true] at *; exact hb.run r1 tk h1 P1⟩
theorem RS.set {K : Frag} {own : List Nat} {P : Pm} {F0 H0 F : Hp} {σ : L2.St} {H : Hp} {δ : Env} {i : Nat} {w : V} {d : D} (r : RS K own P F0 H0 F σ H δ) (hi : i ∉ own) (rw' : Rep K F w d) : RS K own P F0 H0 F (σ.set i (some w)) H (δ.set i (some d)) where
  ff := r.ff
  fh := r.fh
  hh := r.hh
  dm := r.dm
  nw := r.nw
  ln := by rw [List.length_set, List.length_set, r.ln]
  bxh := r.bxh
  par := fun a h => ⟨(r.par a h).1, by rw [List.getElem?_set_ne (fun e => hi (by rw [e]; exact (r.par a h).1))]; exact (r.par a h).2⟩
  val := fun j d' hj e => by
    by_cases h : i = j
    · subst h
      by_cases hl : i < δ.length
      · rw [List.getElem?_set_self hl] at e; cases e
        exact ⟨w, by rw [List.getElem?_set_self (by rw [r.ln]; exact hl)], rw'⟩
      · rw [List.getElem?_eq_none (by rw [List.length_set]; omega)] at e; cases e
    · rw [List.getElem?_set_ne h] at e ⊢
      exact r.val j d' hj e
  own := by
    obtain ⟨fp, h1, h2⟩ := r.own
    refine ⟨fp, fun j d' hj e => ?_, h2⟩
    have h : i ≠ j := fun h => hi (by rw [h]; exact hj)
    rw [List.getElem?_set_ne h] at e ⊢
    exact h1 j d' hj e
def sset (i : Nat) (f : Env → RE D) : Env → RO := fun δ => bindE (f δ) fun d δ' => some (.ok (.nx, δ'.set i (some d)))
theorem js_set {X : Cx} {own : List Nat} (i : Nat) {x : Str} {e : Expr} {pos pos' : Pos} {f : Env → RE D} (hN : X.N.Nodup) (h : JE X own e f) (hi : X.N[i]? = some x := by rfl) (hx : Loc X.env.scope x := by first | exact Or.inl rfl | exact Or.inr rfl) (ho : i ∉ own := by decide)
    (hs : swapsWith e (some (.Name x pos')) pos.line X.env = pure false := by rfl) (hf : X.fn x = true ∨ X.env.scope.names.lookup x = some .local := by first | exact .inl rfl | exact .inr rfl | assumption) : JS X own (.Assign [.Name x pos'] e pos) (sset i f) :=
  ⟨fun r tk hg hP => ws_of (ps_set hN hi hx pe_we hs hf) (se_bind h r tk hg hP fun x v δ1 F1 H1 h1 e1 rx r1 P1 => by cases h1; exact P1 _ F1 H1 (r1.set ho rx) (Ex.refl _))⟩
end PD
end
section
namespace PD
open PySem L2
def den (n N : Nat) (body : Env → RO) (ds : List D) : Rs D := if ds.length = n then (match body (ds.map some ++ List.replicate (N - n) none) with
  | none => none
  | some (.ok (.rt d, _)) => ok d
  | some (.ok (.nx, _)) => ok .non
  | some (.ok (.bk, _)) => none
  | some (.ok (.ct, _)) => none
  | some (.error (x, _)) => some (.error x)) else none
theorem Reps.some_get {K : Frag} {F : Hp} : ∀ {vs : List V} {ds : List D} {n m i : Nat} {d : D}, Reps K F vs ds → (ds.map some ++ List.replicate n (none : Option D))[i]? = some (some d) → ∃ v : V, (vs.map some ++ List.replicate m (none : Option V))[i]? = some (some v) ∧ Rep K F v d
  | _, _, n, m, i, d, .nil, e => by
    rw [List.map_nil, List.nil_append, List.getElem?_replicate] at e
    by_cases h : i < n
    · rw [if_pos h] at e; cases e
    · rw [if_neg h] at e; cases e
  | _, _, n, m, 0, d, .cons h r, e => by cases e; exact ⟨_, rfl, h⟩
  | _, _, n, m, i + 1, d, .cons h r, e => by
    rw [List.map_cons, List.cons_append, List.getElem?_cons_succ] at e
    rw [List.map_cons, List.cons_append, List.getElem?_cons_succ]
    exact Reps.some_get r e
section
variable {P : Program} {w : World} {K : Frag} {mg : Str → Option Value} {base : Heap}
end
def dAdd : D → D → Option D
  | .int i, .int j => some (.int (i + j))
  | .str i, .str j => if i.length + j.length ≤ sizeLine then some (.str (i ++ j)) else none
  | .tup i, .tup j => if i.length + j.length ≤ sizeLine then some (.tup (i ++ j)) else none
  | .lst i, .lst j => if i.length + j.length ≤ sizeLine then some (.lst (i ++ j)) else none
  | _, _ => none
def rCatP (K : Frag) : R2 := fun x y H Q => ∃ a b xs ys, x = .ref a ∧ y = .ref b ∧ SqT K H a xs ∧ SqT K H b ys ∧ xs.length + ys.length ≤ sizeLine ∧
  (xs = [] → Q (.ref b) H) ∧ (xs ≠ [] → ys = [] → Q (.ref a) H) ∧ (xs ≠ [] → ys ≠ [] → ∀ p o, H p = none → PlT o → Q (.ref p) (upd H p (.frz o (.tup (xs ++ ys)))))
open PySem.Spec PyProof.Rows in
theorem op_catP {X : Cx} : OpR X (binaryOp .Add) (rCatP X.K) := by
  intro pins s σ H x y v u Q I rx ry h
  obtain ⟨a, b, xs, ys, rfl, rfl, ha, hb, hz, q0, q1, q2⟩ := h
  by_cases hx : xs = []
  · exact op_catA pins s σ H _ _ v u Q I rx ry ⟨a, b, xs, ys, rfl, rfl, ha, hb, hz, q0, q1, fun h => absurd hx h⟩
  · cases rx
    cases ry
    obtain ⟨its, r1, p1, _⟩ := I.tuple ha
    obtain ⟨its2, r2, p2, _⟩ := I.tuple hb
    refine HT.cat_tup p1 p2 (fun z => hx (r1.nil_iff.mp z)) (fun z => ⟨.ref a, H, I, rfl, q1 hx (r2.nil_iff.mp z)⟩) (fun z => ?_) (by rw [← r1.length, ← r2.length]; exact hz)
    refine ⟨.ref s.heap.objs.size, _, I.laid (t' := s.toks) (o := .frz { cls := .type "tuple", data := .seq (its ++ its2).toArray } (.tup (xs ++ ys))) (fun b ob q => Heap.get?_push_of_some _ q) (Nat.le_refl _) ?_, rfl, q2 hx (fun w => z (r2.nil_iff.mpr w)) _ _ (I.hok.fresh (Nat.le_refl _)) ⟨rfl, rfl, _, _, rfl⟩⟩
    refine ⟨?_, by rw [List.length_append]; exact hz, _, r1.append r2, ?_⟩
    · simpa using Heap.get?_push_size _ rfl
    · simpa using IsTup.new _ _
abbrev rAddI : R2 := rI0 fun i j => .int (i + j)
abbrev rAddS : R2 := fun x y H Q => ∃ i j, x = .str i ∧ y = .str j ∧ i.length + j.length ≤ sizeLine ∧ Q (.str (i ++ j)) H
abbrev rAdd (K : Frag) : R2 := fun x y H Q => (rAddI x y H Q ∨ rAddS x y H Q) ∨ (rCatP K x y H Q ∨ rCat x y H Q)
theorem o_add {X : Cx} : OpR X (binaryOp .Add) (rAdd X.K) := (op_add.or op_add_str).or (op_catP.or op_cat)
theorem isnil {α β : Type} {a : List α} {b : List β} (h : a.length = b.length) : a = [] → b = [] := by
  intro e; subst e; exact List.length_eq_zero_iff.1 h.symm
theorem d_add {K : Frag} : OpD K (rAdd K) dAdd := fun {F H vx vy x y z} e rx ry h Q q => by
  cases rx <;> cases ry <;> (try (cases h; done)) <;> simp only [dAdd] at h
  case int.int i j => cases h; exact .inl (.inl ⟨i, j, rfl, rfl, q _ F H (.refl e) (.int _)⟩)
  case str.str i j =>
    split at h
    · cases h; exact .inl (.inr ⟨i, j, rfl, rfl, by assumption, q _ F H (.refl e) (.str _)⟩)
    · cases h
  case tup.tup a vs ds h1 r1 b ws es h2 r2 =>
    split at h
    · cases h
      have l1 := Rep.len r1
      have l2 := Rep.len r2
      refine .inr (.inl ⟨a, b, vs, ws, rfl, rfl, ex_t e h1, ex_t e h2, by omega, fun e1 => ?_, fun e1 e2 => ?_, fun e1 e2 p ob hp hpl => ?_⟩)
      · cases isnil l1 e1; exact q _ F H (.refl e) (.tup h2 r2)
      · cases isnil l2 e2; rw [List.append_nil] at q; exact q _ F H (.refl e) (.tup h1 r1)
      · exact q _ _ _ (.new e hp) (.tup (SqP.of upd_same hpl) ((r1.app r2).mono (Ex.new (none_back e hp))))
    · cases h
  case lst.lst a vs ds h1 r1 b ws es h2 r2 =>
    split at h
    · cases h
      have l1 := Rep.len r1
      have l2 := Rep.len r2
      exact .inr (.inr ⟨a, b, vs, ws, rfl, rfl, e _ _ h1, e _ _ h2, by omega, fun p hp => q _ _ _ (.new e hp) (.lst upd_same ((r1.app r2).mono (Ex.new (none_back e hp))))⟩)
    · cases h
instance (i j : Int) : Decidable (CMulW i j) := inferInstanceAs (Decidable (_ < _))
instance (i j : Int) : Decidable (CMul i j) := inferInstanceAs (Decidable (_ ∨ _))
def dMul : D → D → Option D
  | .int i, .int j => if CMulW i j then some (.int (i * j)) else if CMul i j then some (.int (i * j)) else none
  | .lst xs, .int k => if -(2 ^ 63) ≤ k ∧ k < 2 ^ 63 ∧ xs.length * k.toNat ≤ sizeLine then some (.lst (List.replicate k.toNat xs).flatten) else none
  | _, _ => none
abbrev rMul (K : Frag) : R2 := fun x y H Q => (rI CMulW (fun i j => .int (i * j)) x y H Q ∨ rI CMul (fun i j => .int (i * j)) x y H Q) ∨ (rRep x y H Q ∨ rRepT K x y H Q)
theorem o_mul {X : Cx} : OpR X (binaryOp .Mult) (rMul X.K) := (op_mulW.or op_mul).or (op_rep.or op_repT)
theorem Reps.rep {K : Frag} {F : Hp} {vs : List V} {ds : List D} (r : Reps K F vs ds) : ∀ n : Nat, Reps K F (List.replicate n vs).flatten (List.replicate n ds).flatten
  | 0 => .nil
  | n + 1 => by rw [List.replicate_succ, List.replicate_succ, List.flatten_cons, List.flatten_cons]; exact r.app (Reps.rep r n)
theorem d_mul {K : Frag} : OpD K (rMul K) dMul := fun {F H vx vy x y z} e rx ry h Q q => by
  cases rx <;> cases ry <;> (try (cases h; done)) <;> simp only [dMul] at h
  case int.int i j =>
    split at h
    · cases h; exact .inl (.inl ⟨i, j, rfl, rfl, by assumption, q _ F H (.refl e) (.int _)⟩)
    · split at h
      · cases h; exact .inl (.inr ⟨i, j, rfl, rfl, by assumption, q _ F H (.refl e) (.int _)⟩)
      · cases h
  case lst.int a vs ds h1 r1 k =>
    split at h
    · rename_i hc
      cases h
      have l1 := Rep.len r1
      exact .inr (.inl ⟨a, k, vs, rfl, rfl, e _ _ h1, hc.1, hc.2.1, by rw [l1]; exact hc.2.2, fun p hp => q _ _ _ (.new e hp) (.lst upd_same ((r1.rep _).mono (Ex.new (none_back e hp))))⟩)
    · cases h
abbrev CDivG (_ j : Int) : Prop := j ≠ 0 ∧ j.natAbs.log2 < 9000
theorem o_fdiv {X : Cx} : OpR X (binaryOp .FloorDiv) (rI CDivG fun i j => .int (i.fdiv j)) := opI fun i j _ _ _ _ _ hc q => PyProof.Rows.floordiv_int hc.1 q (.inl (PyProof.noPylong_of_log2 hc.2))
def dFdiv : D → D → Option D
  | .int i, .int j => if CDivG i j then some (.int (i.fdiv j)) else none
  | _, _ => none
theorem d_fdiv {K : Frag} : OpD K (rI CDivG fun i j => .int (i.fdiv j)) dFdiv := fun {F H vx vy x y z} e rx ry h Q q => by
  cases rx <;> cases ry <;> (try (cases h; done)) <;> simp only [dFdiv] at h
  split at h
  · cases h; exact ⟨_, _, rfl, rfl, by assumption, q _ F H (.refl e) (.int _)⟩
  · cases h
def dMod : D → D → Option D
  | .int i, .int j => if j ≠ 0 then some (.int (i.fmod j)) else none
  | _, _ => none
theorem d_mod {K : Frag} : OpD K (rI (fun _ j => j ≠ 0) fun i j => .int (i.fmod j)) dMod := fun {F H vx vy x y z} e rx ry h Q q => by
  cases rx <;> cases ry <;> (try (cases h; done)) <;> simp only [dMod] at h
  split at h
  · cases h; exact ⟨_, _, rfl, rfl, by assumption, q _ F H (.refl e) (.int _)⟩
  · cases h
instance (i j : Int) : Decidable (CPow i j) := inferInstanceAs (Decidable (_ ∧ _))
def dPow : D → D → Option D
  | .int i, .int j => if CPow i j then some (.int (i ^ j.toNat)) else none
  | _, _ => none
theorem d_pow {K : Frag} : OpD K (rI CPow fun i j => .int (i ^ j.toNat)) dPow := fun {F H vx vy x y z} e rx ry h Q q => by
  cases rx <;> cases ry <;> (try (cases h; done)) <;> simp only [dPow] at h
  split at h
  · cases h; exact ⟨_, _, rfl, rfl, by assumption, q _ F H (.refl e) (.int _)⟩
  · cases h
section
variable {X : Cx} {a b : Expr} {pos : Pos} {fa fb : Env → Rs D}
theorem jp_add (ha : JP X a fa) (hb : JP X b fb) : JP X (.BinOp a .Add b pos) (op2 dAdd fa fb) := jp_op o_add d_add ha hb
theorem jp_mul (ha : JP X a fa) (hb : JP X b fb) : JP X (.BinOp a .Mult b pos) (op2 dMul fa fb) := jp_op o_mul d_mul ha hb
theorem jp_fdiv (ha : JP X a fa) (hb : JP X b fb) : JP X (.BinOp a .FloorDiv b pos) (op2 dFdiv fa fb) := jp_op o_fdiv d_fdiv ha hb
theorem jp_mod (ha : JP X a fa) (hb : JP X b fb) : JP X (.BinOp a .Mod b pos) (op2 dMod fa fb) := jp_op op_modN d_mod ha hb
theorem jp_pow (ha : JP X a fa) (hb : JP X b fb) : JP X (.BinOp a .Pow b pos) (op2 dPow fa fb) := jp_op op_pow d_pow ha hb
end
end PD
end
section
namespace PD
open PySem L2
mutual
def toPy : D → Option PyData
  | .non => some .none
  | .bl b => some (.bool b)
  | .int i => some (.int i)
  | .str x => some (.str x)
  | .tup xs => (toPys xs).map .tuple
  | .lst xs => (toPys xs).map .list
  | .scr xs => (toPys xs).map .list
  | .npt xs => (toPys xs).map .tuple
  | .dic _ => none
  | .fdc _ => none
  | .obj _ _ => none
  | .ins _ _ => none
  | .exc _ _ => none
  | .fn _ => none
def toPys : List D → Option (List PyData)
  | [] => some []
  | x :: xs => (toPy x).bind fun p => (toPys xs).map fun ps => p :: ps
end
mutual
theorem dp_of {K : Frag} {F H : Hp} (e : Ex F H) : ∀ {w : V} {d : D} {p : PyData}, Rep K F w d → toPy d = some p → Dp K H w p
  | _, _, _, .non, h => by cases h; exact .non
  | _, _, _, .bl b, h => by cases h; exact .bl b
  | _, _, _, .int i, h => by cases h; exact .int i
  | _, _, _, .str x, h => by cases h; exact .str x
  | _, _, _, .tup (ds := ds) h1 r, h => by
    simp only [toPy, Option.map_eq_some_iff] at h
    obtain ⟨ps, h2, rfl⟩ := h
    exact .tup (ex_t e h1) (dps_of e r h2)
  | _, _, _, .npt (ds := ds) h1 r, h => by
    simp only [toPy, Option.map_eq_some_iff] at h
    obtain ⟨ps, h2, rfl⟩ := h
    exact .tup (ex_q e h1) (dps_of e r h2)
  | _, _, _, .lst (ds := ds) h1 r, h => by
    simp only [toPy, Option.map_eq_some_iff] at h
    obtain ⟨ps, h2, rfl⟩ := h
    exact .lst (SqL.of (e _ _ h1)) (dps_of e r h2)
  | _, _, _, .scr (ds := ds) h1 r, h => by
    simp only [toPy, Option.map_eq_some_iff] at h
    obtain ⟨ps, h2, rfl⟩ := h
    exact .lst (ex_l e h1) (dps_of e r h2)
  | _, _, _, .dic _ _, h => by simp [toPy] at h
  | _, _, _, .fdc _ _, h => by simp [toPy] at h
  | _, _, _, .obj _ _ _, h => by simp [toPy] at h
  | _, _, _, .ins _ _, h => by simp [toPy] at h
  | _, _, _, .exc _ _ _, h => by simp [toPy] at h
  | _, _, _, .fn _, h => by simp [toPy] at h
theorem dps_of {K : Frag} {F H : Hp} (e : Ex F H) : ∀ {ws : List V} {ds : List D} {ps : List PyData}, Reps K F ws ds → toPys ds = some ps → DpAll K H ws ps
  | _, _, _, .nil, h => by cases h; exact .nil
  | _, _, _, .cons h1 r, h => by
    simp only [toPys, Option.bind_eq_some_iff, Option.map_eq_some_iff] at h
    obtain ⟨p, h2, ps, h3, rfl⟩ := h
    exact .cons (dp_of e h1 h2) (dps_of e r h3)
end
def eqD (x y : D) : Option Bool := (toPy x).bind fun p => (toPy y).bind fun q => if SeqAt.shaped p && SeqAt.shaped q then some (PyData.eqv p q) else none
theorem eqD_some {x y : D} {b : Bool} (h : eqD x y = some b) : ∃ p q, toPy x = some p ∧ toPy y = some q ∧ SeqAt.shaped p = true ∧ SeqAt.shaped q = true ∧ b = PyData.eqv p q := by
  simp only [eqD, Option.bind_eq_some_iff] at h
  obtain ⟨p, h1, q, h2, h3⟩ := h
  split at h3
  · rename_i hc
    rw [Bool.and_eq_true] at hc
    cases h3; exact ⟨p, q, h1, h2, hc.1, hc.2, rfl⟩
  · cases h3
def dEq (x y : D) : Option D := (eqD x y).map .bl
def dNe (x y : D) : Option D := (eqD x y).map fun b => .bl (!b)
theorem d_eq {K : Frag} : OpD K (rEqD K) dEq := fun {F H vx vy x y z} e rx ry h Q q => by
  simp only [dEq, Option.map_eq_some_iff] at h
  obtain ⟨b, h1, rfl⟩ := h
  obtain ⟨p, r, hp, hr, s1, s2, rfl⟩ := eqD_some h1
  exact ⟨p, r, dp_of e rx hp, dp_of e ry hr, s1, s2, q _ F H (.refl e) (.bl _)⟩
theorem d_ne {K : Frag} : OpD K (rNeD K) dNe := fun {F H vx vy x y z} e rx ry h Q q => by
  simp only [dNe, Option.map_eq_some_iff] at h
  obtain ⟨b, h1, rfl⟩ := h
  obtain ⟨p, r, hp, hr, s1, s2, rfl⟩ := eqD_some h1
  exact ⟨p, r, dp_of e rx hp, dp_of e ry hr, s1, s2, q _ F H (.refl e) (.bl _)⟩
theorem hu64 {k : Nat} {A : Around} (hr : Room k A) : A.units + 65 < cLine := by have := hr.un; omega
def dCmp (fi : Int → Int → Bool) (fs : List Nat → List Nat → Bool) : D → D → Option D
  | .int i, .int j => some (.bl (fi i j))
  | .str i, .str j => some (.bl (fs i.cps.toList j.cps.toList))
  | _, _ => none
abbrev rCmp (fi : Int → Int → Bool) (fs : List Nat → List Nat → Bool) : R2 := fun x y H Q => rI0 (fun i j => .bl (fi i j)) x y H Q ∨ ∃ i j, x = .str i ∧ y = .str j ∧ Q (.bl (fs i.cps.toList j.cps.toList)) H
theorem d_cmp {K : Frag} {fi : Int → Int → Bool} {fs : List Nat → List Nat → Bool} : OpD K (rCmp fi fs) (dCmp fi fs) := fun {F H vx vy x y z} e rx ry h Q q => by
  cases rx <;> cases ry <;> (try (cases h; done)) <;> simp only [dCmp] at h
  · cases h; exact .inl ⟨_, _, rfl, rfl, q _ F H (.refl e) (.bl _)⟩
  · cases h; exact .inr ⟨_, _, rfl, rfl, q _ F H (.refl e) (.bl _)⟩
abbrev dLt := dCmp (fun i j => decide (i < j)) fun a b => decide (a < b)
abbrev dGt := dCmp (fun i j => decide (j < i)) fun a b => decide (b < a)
abbrev dGe := dCmp (fun i j => decide (j ≤ i)) fun a b => !decide (a < b)
theorem o_lt {X : Cx} : OpR X (compareOp .Lt) (rCmp (fun i j => decide (i < j)) fun a b => decide (a < b)) := op_lt.or op_lt_str
theorem o_gt {X : Cx} : OpR X (compareOp .Gt) (rCmp (fun i j => decide (j < i)) fun a b => decide (b < a)) := op_gt.or op_gt_str
theorem o_ge {X : Cx} : OpR X (compareOp .GtE) (rCmp (fun i j => decide (j ≤ i)) fun a b => !decide (a < b)) := op_ge.or op_ge_str
def isNon : D → Bool
  | .non => true
  | _ => false
theorem isNon_of {K : Frag} {F : Hp} {w : V} {d : D} (r : Rep K F w d) : decide (w = .non) = isNon d := by cases r <;> rfl
section
variable {X : Cx} {a b : Expr} {pos p2 : Pos} {j : Nat} {fa fb : Env → Rs D} {k : Nat}
theorem jp_eq (hr : Room k X.A) (ha : JP X a fa) (hb : JP X b fb) : JP X (.Compare a [.Eq] [b] pos) (op2 dEq fa fb) := jp_cmp (op_eqD (by have := hu64 hr; omega)) d_eq ha hb
theorem jp_ge (ha : JP X a fa) (hb : JP X b fb) : JP X (.Compare a [.GtE] [b] pos) (op2 dGe fa fb) := jp_cmp o_ge d_cmp ha hb
theorem jt_eq (hr : Room k X.A) (ha : JP X a fa) (hb : JP X b fb) : JT X (.Compare a [.Eq] [b] pos) (tb (op2 dEq fa fb)) := jt_cmp (op_eqD (by have := hu64 hr; omega)) d_eq ha hb
theorem jt_ne (hr : Room k X.A) (ha : JP X a fa) (hb : JP X b fb) : JT X (.Compare a [.NotEq] [b] pos) (tb (op2 dNe fa fb)) := jt_cmp (op_neD (by have := hu64 hr; omega)) d_ne ha hb
theorem jt_lt (ha : JP X a fa) (hb : JP X b fb) : JT X (.Compare a [.Lt] [b] pos) (tb (op2 dLt fa fb)) := jt_cmp o_lt d_cmp ha hb
theorem jt_gt (ha : JP X a fa) (hb : JP X b fb) : JT X (.Compare a [.Gt] [b] pos) (tb (op2 dGt fa fb)) := jt_cmp o_gt d_cmp ha hb
def vis (f : Env → Rs D) : Env → Rs D := fun δ => bind (f δ) fun x => ok (.bl (isNon x))
theorem jp_is (ha : JP X a fa) : JP X (.Compare a [.Is] [.Constant .none j p2] pos) (vis fa) := ⟨fun rp tk hg hP =>
  we_of (pe_cmp (pc_isN pe_we)) (jp_bind ha rp tk hg hP fun x vx F1 H1 h1 g1 rx r1 P1 => by rw [isNon_of rx]; exact P1.fin h1 _ F1 H1 (.refl r1.ex) (.bl _))⟩
theorem jt_is (ha : JP X a fa) : JT X (.Compare a [.Is] [.Constant .none j p2] pos) (fun δ => bind (fa δ) fun x => ok (isNon x)) := ⟨fun rp tk hg hP =>
  wt_of (pt_cmp (pc_isN pe_we)) (jp_bind ha rp tk hg hP fun x vx F1 H1 h1 g1 rx r1 P1 => ⟨_, rfl, by rw [isNon_of rx]; exact P1.fin h1 _ F1 H1 (.refl r1.ex) rfl⟩)⟩
end
def dIx : D → D → Option D
  | .tup xs, .int i => atI xs i
  | .lst xs, .int i => atI xs i
  | .scr xs, .int i => atI xs i
  | .str x, .int i => if x.length ≤ sizeLine then (atI x.cps.toList i).map fun c => .str ⟨#[c]⟩ else none
  | .dic kvs, .int i => (kvs.find? fun kv => decide (kv.1 = .inl i)).map (·.2)
  | .dic kvs, .str i => (kvs.find? fun kv => decide (kv.1 = .inr i)).map (·.2)
  | .fdc kvs, .int i => (kvs.find? fun kv => decide (kv.1 = .inl i)).map (·.2)
  | .fdc kvs, .str i => (kvs.find? fun kv => decide (kv.1 = .inr i)).map (·.2)
  | _, _ => none
theorem Reps.atI {K : Frag} {F : Hp} {vs : List V} {ds : List D} {i : Int} {d : D} (r : Reps K F vs ds) (h : L2.atI ds i = some d) : ∃ v, L2.atI vs i = some v ∧ Rep K F v d := by
  unfold L2.atI at *
  rw [Rep.len r]
  cases e : ixN ds.length i with
  | none => rw [e] at h; cases h
  | some j => rw [e] at h; exact r.get h
def isDic : D → Bool
  | .dic _ => true
  | .fdc _ => true
  | _ => false
def rIx (K : Frag) : R2 := fun x y H Q => rIxL K x y H Q ∨ rIxT K x y H Q ∨ rIxS x y H Q
theorem ix_any {X : Cx} : IxR X (rIx X.K) := fun value slice pins s σ H x y v u Q I rx ry h hs => by
  rcases h with h | h | h
  · exact ix_list value slice pins s σ H x y v u Q I rx ry h hs
  · exact ix_tup value slice pins s σ H x y v u Q I rx ry h hs
  · exact ix_str value slice pins s σ H x y v u Q I rx ry h hs
theorem d_ix {K : Frag} {F H : Hp} {vx vy : V} {x y z : D} (e : Ex F H) (rx : Rep K F vx x) (ry : Rep K F vy y) (h : dIx x y = some z) (nd : isDic x = false) (Q : VK) (q : ∀ v F' H', Grow F H F' H' → Rep K F' v z → Q v H') : rIx K vx vy H Q := by
  cases rx <;> cases ry <;> (try (cases h; done)) <;> (try (cases nd; done)) <;> simp only [dIx] at h
  case str.int x i =>
    split at h
    · rename_i hc
      simp only [Option.map_eq_some_iff] at h
      obtain ⟨c, hc', rfl⟩ := h
      exact .inr (.inr ⟨x, i, c, rfl, rfl, hc, hc', q _ F H (.refl e) (.str _)⟩)
    · cases h
  case tup.int a vs ds h1 r1 i =>
    obtain ⟨w, hw, rw'⟩ := r1.atI h
    exact .inr (.inl ⟨a, vs, i, w, rfl, rfl, ex_t e h1, hw, q _ F H (.refl e) rw'⟩)
  case lst.int a vs ds h1 r1 i =>
    obtain ⟨w, hw, rw'⟩ := r1.atI h
    exact .inl ⟨a, vs, i, w, rfl, rfl, SqL.of (e _ _ h1), hw, q _ F H (.refl e) rw'⟩
  case scr.int a vs ds h1 r1 i =>
    obtain ⟨w, hw, rw'⟩ := r1.atI h
    exact .inl ⟨a, vs, i, w, rfl, rfl, ex_l e h1, hw, q _ F H (.refl e) rw'⟩
theorem d_dget {K : Frag} {F H : Hp} {vx vy : V} {x y z : D} (e : Ex F H) (rx : Rep K F vx x) (ry : Rep K F vy y) (h : dIx x y = some z) (nd : isDic x = true) : ∃ a w, vx = .ref a ∧ DGet H a vy (some w) ∧ Rep K F w z := by
  cases rx <;> (try (cases nd; done))
  case dic a kvs kds h1 r1 =>
    cases ry <;> (try (cases h; done)) <;> simp only [dIx] at h
    case int i =>
      rcases r1.val (k := .inl i) with ⟨_, b⟩ | ⟨w, d, a1, b, c⟩
      · rw [b] at h; cases h
      · rw [b] at h; cases h; exact ⟨a, w, rfl, a1 ▸ DGet.k (k := .inl i) (e _ _ h1), c⟩
    case str i =>
      rcases r1.val (k := .inr i) with ⟨_, b⟩ | ⟨w, d, a1, b, c⟩
      · rw [b] at h; cases h
      · rw [b] at h; cases h; exact ⟨a, w, rfl, a1 ▸ DGet.k (k := .inr i) (e _ _ h1), c⟩
  case fdc a od kvs kds h1 r1 =>
    have hd : ∀ k : Key, DGet H a (kV k) (valV kvs k) := fun k => .inl ⟨kvs, k, .inr ⟨od, e _ _ h1⟩, rfl, rfl⟩
    cases ry <;> (try (cases h; done)) <;> simp only [dIx] at h
    case int i =>
      rcases r1.val (k := .inl i) with ⟨_, b⟩ | ⟨w, d, a1, b, c⟩
      · rw [b] at h; cases h
      · rw [b] at h; cases h; exact ⟨a, w, rfl, a1 ▸ hd (.inl i), c⟩
    case str i =>
      rcases r1.val (k := .inr i) with ⟨_, b⟩ | ⟨w, d, a1, b, c⟩
      · rw [b] at h; cases h
      · rw [b] at h; cases h; exact ⟨a, w, rfl, a1 ▸ hd (.inr i), c⟩
theorem jp_ix {X : Cx} {a b : Expr} {pos : Pos} {fa fb : Env → Rs D} {k : Nat} (hr : Room k X.A) (ha : JP X a fa) (hb : JP X b fb) (hs : PlainIx b := by exact fun _ _ => rfl) : JP X (.Subscript a b pos) (op2 dIx fa fb) := ⟨fun {σ F H δ W Q o} rp tk hg hP => by
  by_cases hd : ∃ x, fa δ = some (.ok x) ∧ isDic x = true
  · obtain ⟨x0, e0, hx0⟩ := hd
    refine we_of (pe_dget (hu_of hr) pe_we pe_we hs) (ha.run rp tk e0 fun vx F1 H1 g1 rx => ?_)
    unfold op2 at hg
    rw [e0] at hg
    exact jp_bind hb (rp.later g1) tk hg (hP.later g1) fun y vy F2 H2 h2 g2 ry r2 P2 => by
      obtain ⟨z, hz, rfl⟩ := opt_some h2
      obtain ⟨p, w, e1, hD, rw'⟩ := d_dget r2.ex (rx.mono g2.ff) ry hz hx0
      exact ⟨p, w, e1, hD, P2 w F2 H2 (.refl r2.ex) rw'⟩
  · refine we_of (pe_ix ix_any pe_we pe_we hs) ?_
    unfold op2 at hg
    cases e0 : fa δ with
    | none => rw [e0] at hg; cases hg
    | some y0 => cases y0 with
      | error x => rw [e0] at hg; cases hg; exact ha.run rp tk e0 hP
      | ok x =>
        rw [e0] at hg
        exact ha.run rp tk e0 fun vx F1 H1 g1 rx => jp_bind hb (rp.later g1) tk hg (hP.later g1) fun y vy F2 H2 h2 g2 ry r2 P2 => by
          obtain ⟨z, hz, rfl⟩ := opt_some h2
          cases hx : isDic x with
          | false => exact d_ix r2.ex (rx.mono g2.ff) ry hz hx _ P2
          | true => exact absurd ⟨x, e0, hx⟩ hd⟩
end PD
end
section
namespace PD
open PySem L2
section
variable {X : Cx}
def rInT (K : Frag) (neg : Bool) : R2 := fun x y H Q => ∃ d ds, Dp K H x d ∧ Dp K H y (.tuple ds) ∧ SeqAt.shaped d = true ∧ SeqAt.shaped (.tuple ds) = true ∧ Q (.bl (if neg then !(ds.any fun z => PyData.eqv z d) else ds.any fun z => PyData.eqv z d)) H
theorem op_inT (hu : X.A.units + 65 < cLine) : OpR X (compareOp .In) (rInT X.K false) := by
  intro pins s σ H x y v u Q I rx ry h
  obtain ⟨d, ds, hd, he, sd, se, q⟩ := h
  obtain ⟨as, r1⟩ := Dp.reads I d x v hd rx
  obtain ⟨bs, r2⟩ := Dp.reads I (.tuple ds) y u he ry
  exact SeqAt.in_tuple_reads r2 r1 (SeqAt.canLay_of_shaped se) (SeqAt.canLay_of_shaped sd) (PyProof.Rows.room_in_shaped sd hu) ⟨.bl _, H, I, rfl, q⟩
end
def keyOf : D → Option Key
  | .int i => some (.inl i)
  | .str x => some (.inr x)
  | _ => none
theorem keyOf_rep {K : Frag} {F : Hp} {w : V} {d : D} {k : Key} (r : Rep K F w d) (h : keyOf d = some k) : w = kV k := by
  cases r <;> (try (cases h; done)) <;> cases h <;> rfl
def inD : D → D → Option Bool
  | x, .tup ys => (toPy x).bind fun p => (toPys ys).bind fun qs => if SeqAt.shaped p && SeqAt.shaped (.tuple qs) then some (qs.any fun z => PyData.eqv z p) else none
  | x, .lst ys => (toPy x).bind fun p => (toPys ys).bind fun qs => if SeqAt.shaped p && SeqAt.shaped (.list qs) then some (qs.any fun z => PyData.eqv z p) else none
  | x, .dic kvs => (keyOf x).map fun k => ((kvs.find? fun kv => decide (kv.1 = k)).map (·.2)).isSome
  | x, .fdc kvs => (keyOf x).map fun k => ((kvs.find? fun kv => decide (kv.1 = k)).map (·.2)).isSome
  | .str x, .str z => if x.cps.size = 1 then some (decide (x.cps.getD 0 0 ∈ z.cps.toList)) else none
  | _, _ => none
def dIn (x y : D) : Option D := (inD x y).map .bl
def rIn1 (K : Frag) : R2 := fun x y H Q => (rInT K false x y H Q ∨ rInD K x y H Q) ∨ ∃ (c : Nat) (z : Str), x = .str ⟨#[c]⟩ ∧ y = .str z ∧ Q (.bl (decide (c ∈ z.cps.toList))) H
def rIn2 (K : Frag) : R2 := fun x y H Q => (rInT K true x y H Q ∨ rNotInD K x y H Q) ∨ ∃ (c : Nat) (z : Str), x = .str ⟨#[c]⟩ ∧ y = .str z ∧ Q (.bl (!decide (c ∈ z.cps.toList))) H
theorem one_sign {x : Str} (h : x.cps.size = 1) : x = ⟨#[x.cps.getD 0 0]⟩ := by
  obtain ⟨⟨l⟩⟩ := x
  cases l with
  | nil => cases h
  | cons a r => cases r with
    | nil => rfl
    | cons b r => simp at h
theorem d_in {K : Frag} {F H : Hp} {vx vy : V} {x y : D} {b : Bool} (e : Ex F H) (rx : Rep K F vx x) (ry : Rep K F vy y) (h : inD x y = some b) (nd : isDic y = false) : (∀ Q : VK, Q (.bl b) H → rIn1 K vx vy H Q) ∧ (∀ Q : VK, Q (.bl (!b)) H → rIn2 K vx vy H Q) := by
  cases ry with
  | tup h1 r1 =>
    simp only [inD, Option.bind_eq_some_iff] at h
    obtain ⟨p, hp, qs, hq, h3⟩ := h
    split at h3
    · rename_i hc
      rw [Bool.and_eq_true] at hc
      cases h3
      have dx := dp_of e rx hp
      have dy : Dp K H _ (.tuple qs) := .tup (ex_t e h1) (dps_of e r1 hq)
      exact ⟨fun Q q => .inl (.inl ⟨p, qs, dx, dy, hc.1, hc.2, q⟩), fun Q q => .inl (.inl ⟨p, qs, dx, dy, hc.1, hc.2, q⟩)⟩
    · cases h3
  | lst h1 r1 =>
    simp only [inD, Option.bind_eq_some_iff] at h
    obtain ⟨p, hp, qs, hq, h3⟩ := h
    split at h3
    · rename_i hc
      rw [Bool.and_eq_true] at hc
      cases h3
      have dx := dp_of e rx hp
      have dy : Dp K H _ (.list qs) := .lst (SqL.of (e _ _ h1)) (dps_of e r1 hq)
      exact ⟨fun Q q => .inl (.inr ⟨p, qs, dx, dy, hc.1, hc.2, q⟩), fun Q q => .inl (.inr ⟨p, qs, dx, dy, hc.1, hc.2, q⟩)⟩
    · cases h3
  | dic h1 r1 => cases nd
  | fdc h1 r1 => cases nd
  | str z =>
    cases rx with
    | str x =>
      simp only [inD] at h
      split at h
      · rename_i hc
        cases h
        exact ⟨fun Q q => .inr ⟨_, z, congrArg V.str (one_sign hc), rfl, q⟩, fun Q q => .inr ⟨_, z, congrArg V.str (one_sign hc), rfl, q⟩⟩
      · cases h
    | _ => simp [inD] at h
  | _ => cases rx <;> simp [inD] at h
section
variable {X : Cx} {a b : Expr} {pos : Pos} {fa fb : Env → Rs D} {k : Nat}
theorem o_in (hr : Room k X.A) : OpR X (compareOp .In) (rIn1 X.K) := ((op_inT (hu64 hr)).or (op_inD (hu64 hr))).or op_in_sign
theorem in_cases {g : D → D → Option D} {σ : L2.St} {F H : Hp} {δ : Env} {W : WX} {Q1 : V → V → Hp → Prop} {Q : VK} {o : Except XD D} (ha : JP X a fa) (hb : JP X b fb) (rp : RP X.K F σ H δ) (tk : Takes X W) (hg : op2 g fa fb δ = some o) (hP : Post (Rep X.K) X.K F H σ W o Q)
    (fin : ∀ x y vx vy z F2 H2, fa δ = some (.ok x) → fb δ = some (.ok y) → g x y = some z → Rep X.K F2 vx x → Rep X.K F2 vy y → Ex F2 H2 → (∀ v F' H', Grow F2 H2 F' H' → Rep X.K F' v z → Q v H') → Q1 vx vy H2) :
    WE X a σ H fun x H1 => WE X b σ H1 fun y H2 => Q1 x y H2 := by
  unfold op2 at hg
  cases e0 : fa δ with
  | none => rw [e0] at hg; cases hg
  | some y0 => cases y0 with
    | error x => rw [e0] at hg; cases hg; exact ha.run rp tk e0 hP
    | ok x =>
      rw [e0] at hg
      refine ha.run rp tk e0 fun vx F1 H1 g1 rx => ?_
      cases e1 : fb δ with
      | none => simp only [bind] at hg; rw [e1] at hg; cases hg
      | some y1 => cases y1 with
        | error z => simp only [bind] at hg; rw [e1] at hg; cases hg; exact hb.run (rp.later g1) tk e1 (hP.later g1)
        | ok y =>
          simp only [bind] at hg
          rw [e1] at hg
          obtain ⟨z, hz, rfl⟩ := opt_some hg
          exact hb.run (rp.later g1) tk e1 fun vy F2 H2 g2 ry => fin x y vx vy z F2 H2 e0 e1 hz (rx.mono g2.ff) ry g2.fh fun v F' H' g3 rv => hP v F' H' ((g1.trans g2).trans g3) rv
theorem inD_dic {K : Frag} {F H : Hp} {vx vy : V} {x y : D} {b : Bool} (e : Ex F H) (rx : Rep K F vx x) (ry : Rep K F vy y) (h : inD x y = some b) (nd : isDic y = true) : ∃ a o, vy = .ref a ∧ DGet H a vx o ∧ b = o.isSome := by
  cases ry <;> (try (cases nd; done))
  case dic a kvs kds h1 r1 =>
    simp only [inD, Option.map_eq_some_iff] at h
    obtain ⟨k, hk, rfl⟩ := h
    cases keyOf_rep rx hk
    refine ⟨a, _, rfl, DGet.k (e _ _ h1), ?_⟩
    rcases r1.val (k := k) with ⟨a1, b1⟩ | ⟨w, d, a1, b1, c1⟩
    · rw [a1, b1]; rfl
    · rw [a1, b1]; rfl
  case fdc a od kvs kds h1 r1 =>
    simp only [inD, Option.map_eq_some_iff] at h
    obtain ⟨k, hk, rfl⟩ := h
    cases keyOf_rep rx hk
    refine ⟨a, _, rfl, .inl ⟨kvs, k, .inr ⟨od, e _ _ h1⟩, rfl, rfl⟩, ?_⟩
    rcases r1.val (k := k) with ⟨a1, b1⟩ | ⟨w, d, a1, b1, c1⟩
    · rw [a1, b1]; rfl
    · rw [a1, b1]; rfl
def WC (X : Cx) (op : CmpOp) (a b : Expr) (σ : L2.St) (H : Hp) (Q : VK) : Prop := ∀ pins s, Inv X pins σ H s →
  wpAny (model X.prog X.w) X.A (eval a X.env) (fun v s₁ => wpAny (model X.prog X.w) X.A (eval b X.env) (fun u s₂ => wpAny (model X.prog X.w) X.A (compareOp op v u) (EP X pins σ Q) X.xe s₂) X.xe s₁) X.xe s
theorem pc_wc {op : CmpOp} : PC X op a b (WC X op a b) := ⟨fun pins s _ _ _ I h => h pins s I⟩
theorem wc_of {op : CmpOp} {t : TE} {σ : L2.St} {H : Hp} {Q : VK} (h : PC X op a b t) (q : t σ H Q) : WC X op a b σ H Q := fun pins s I => h.run pins s σ H Q I q
theorem pc_op {op : CmpOp} {r : R2} {ta tb : TE} (ho : OpR X (compareOp op) r) (ha : PE X a ta) (hb : PE X b tb) : PC X op a b (tOp r ta tb) := ⟨fun pins s σ H Q I h => binT ha hb I h fun v u s2 x y H2 I2 rx ry q => ho pins s2 σ H2 x y v u Q I2 rx ry q⟩
abbrev JC (X : Cx) (op : CmpOp) (a b : Expr) (g : Env → Rs D) : Prop := J X (WC X op a b) (Rep X.K) g
theorem jp_c {op : CmpOp} {g : Env → Rs D} (h : JC X op a b g) (hm : behindInMarks op b = false := by first | exact nomark _ | with_unfolding_all rfl) : JP X (.Compare a [op] [b] pos) g := ⟨fun rp tk hg hP => we_of (pe_cmp pc_wc hm) (h.run rp tk hg hP)⟩
theorem jc_in (hr : Room k X.A) (ha : JP X a fa) (hb : JP X b fb) : JC X .In a b (op2 dIn fa fb) := ⟨fun {σ F H δ W Q o} rp tk hg hP => by
  by_cases hd : ∃ y, fb δ = some (.ok y) ∧ isDic y = true
  · obtain ⟨y0, e0, h0⟩ := hd
    refine wc_of (pc_din (hu_of hr) pe_we pe_we) (in_cases ha hb rp tk hg hP fun x y vx vy z F2 H2 ex ey hz rx ry e q => ?_)
    rw [e0] at ey; cases ey
    simp only [dIn, Option.map_eq_some_iff] at hz
    obtain ⟨b1, hz, rfl⟩ := hz
    obtain ⟨p, o1, e1, hD, rfl⟩ := inD_dic e rx ry hz h0
    exact ⟨p, o1, e1, hD, q _ F2 H2 (.refl e) (.bl _)⟩
  · refine wc_of (pc_op (o_in hr) pe_we pe_we) (in_cases ha hb rp tk hg hP fun x y vx vy z F2 H2 ex ey hz rx ry e q => ?_)
    simp only [dIn, Option.map_eq_some_iff] at hz
    obtain ⟨b1, hz, rfl⟩ := hz
    cases hx : isDic y with
    | true => exact absurd ⟨y, ey, hx⟩ hd
    | false => exact (d_in e rx ry hz hx).1 _ (q _ F2 H2 (.refl e) (.bl _))⟩
end
end PD
end
section
namespace PD
open PySem L2
inductive Ty where
  | int | bool | str | list | tuple | dict
def Ty.nm : Ty → String
  | .int => "int" | .bool => "bool" | .str => "str" | .list => "list" | .tuple => "tuple" | .dict => "dict"
def tyName : D → Option String
  | .non => some "NoneType"
  | .bl _ => some "bool"
  | .int _ => some "int"
  | .str _ => some "str"
  | .tup _ => some "tuple"
  | .lst _ => some "list"
  | .scr _ => some "list"
  | .dic _ => some "dict"
  | _ => none
def isA : Ty → D → Option Bool
  | .int, .int _ => some true
  | .int, .bl _ => some true
  | .bool, .bl _ => some true
  | .str, .str _ => some true
  | .list, .lst _ => some true
  | .list, .scr _ => some true
  | .tuple, .tup _ => some true
  | .dict, .dic _ => some true
  | _, .obj _ _ => none
  | _, .ins _ _ => none
  | _, .exc _ _ => none
  | _, .fn _ => none
  | _, .npt _ => none
  | _, .fdc _ => none
  | _, _ => some false
theorem isA_kit {K : Frag} {t : Ty} {d : D} {b : Bool} (h : isA t d = some b) : ∃ n, tyName d = some n ∧ PySem.W.kitOne K (.type n) (.type t.nm) = some b := by
  cases t <;> cases d <;> (try (cases h; done)) <;> cases h <;> exact ⟨_, rfl, kit_ty (by decide +kernel)⟩
theorem tyX_of {K : Frag} {F H : Hp} {w : V} {d : D} {n : String} (e : Ex F H) (r : Rep K F w d) (h : tyName d = some n) : TyX K H w (.type n) := by
  cases r with
  | non => cases h; exact .base .non
  | bl b => cases h; exact .base (.bl b)
  | int i => cases h; exact .base (.int i)
  | str x => cases h; exact .base (.str x)
  | tup h1 r1 =>
    cases h
    rcases ex_t e h1 with h1 | ⟨o, its, m, h2, h3, h4⟩
    · rcases h1 with h1 | ⟨o, h1⟩
      · exact .base (.tup h1)
      · exact .fTuple h1
    · exact .kTuple h2 h3
  | lst h1 r1 => cases h; exact .base (.lst (e _ _ h1))
  | scr h1 r1 =>
    cases h
    rcases ex_l e h1 with h1 | ⟨o, its, m, h2, h3, h4⟩
    · rcases h1 with h1 | ⟨o, h1⟩
      · exact .base (.lst h1)
      · exact .base (.frz h1)
    · exact .kList h2 h3
  | dic h1 r1 => cases h; exact .base (.dK (e _ _ h1))
  | npt h1 r1 => cases h
  | fdc h1 r1 => cases h
  | obj h1 hx r1 => cases h
  | ins h1 r1 => cases h
  | exc h1 hx r1 => cases h
  | fn x => cases h
section
variable {X : Cx} {a : Expr} {p p1 p2 p3 pos pt : Pos} {fa : Env → Rs D}
def visi (t : Ty) (f : Env → Rs D) : Env → Rs D := fun δ => bind (f δ) fun x => opt ((isA t x).map .bl)
theorem jp_isi (t : Ty) {x : Str} (hi : X.mg "isinstance" = none) (hx : X.mg x = none) (hv : bootBuiltins x = some (.type t.nm)) (ha : JP X a fa) (hg : Gl X "isinstance" := by rfl) (hgx : Gl X x := by rfl) (hn : x ≠ "__name__" := by decide) (hdb : (x == ("__debug__" : Str)) = false := by decide)
    (hs1 : starEach [a, .Name x p1] X.env = (false, eval a X.env) :: starEach [.Name x p1] X.env := by rfl) (hs2 : starEach [.Name x p1] X.env = (false, eval (.Name x p1) X.env) :: starEach [] X.env := by rfl) (hpl : (backTo pos (starEach [.Name x p1] X.env)).any (·.1) = false := by rfl) :
    JP X (.Call (.Name "isinstance" p) [a, .Name x p1] [] pos) (visi t fa) := ⟨fun rp tk hg' hP =>
  we_of (pe_callB call_isi hg hi PyProof.Rows.boot_isinstance (pa_cons pe_we (pa_cons (pe_bltn (v := .ty t.nm) hgx hx hv rfl hn hdb) pa_nil hs2) hs1) (he := hs1) (hpl := hpl)) (jp_bind ha rp tk hg' hP fun x vx F1 H1 h1 g1 rx r1 P1 => by
    obtain ⟨z, hz, rfl⟩ := opt_some h1
    simp only [Option.map_eq_some_iff] at hz
    obtain ⟨b, hb, rfl⟩ := hz
    obtain ⟨n, hn, hk⟩ := isA_kit (K := X.K) hb
    exact ⟨_, _, _, _, b, rfl, .ty _, tyX_of r1.ex rx hn, hk, P1 _ F1 H1 (.refl r1.ex) (.bl _)⟩)⟩
def isA2 (t u : Ty) (d : D) : Option Bool := (isA t d).bind fun b => if b = true then some true else isA u d
theorem isA2_kit {K : Frag} {t u : Ty} {d : D} {b : Bool} (h : isA2 t u d = some b) : ∃ n, tyName d = some n ∧ PySem.W.kitAny K (.type n) [.type t.nm, .type u.nm] = some b := by
  simp only [isA2, Option.bind_eq_some_iff] at h
  obtain ⟨b1, h1, h2⟩ := h
  obtain ⟨n, hn, hk⟩ := isA_kit (K := K) h1
  refine ⟨n, hn, kitAny_cons hk (fun e => ?_) (fun e => ?_)⟩
  · subst e
    rw [if_neg Bool.false_ne_true] at h2
    obtain ⟨n', hn', hk'⟩ := isA_kit (K := K) h2
    rw [hn] at hn'; cases hn'
    exact kitAny_cons hk' (fun e => by subst e; exact kitAny_nil) (fun e => e)
  · subst e
    rw [if_pos rfl] at h2; cases h2; rfl
def visi2 (t u : Ty) (f : Env → Rs D) : Env → Rs D := fun δ => bind (f δ) fun x => opt ((isA2 t u x).map .bl)
theorem jp_isi2 (t u : Ty) {x y : Str} {k : Nat} (hi : X.mg "isinstance" = none) (hx : X.mg x = none) (hv : bootBuiltins x = some (.type t.nm)) (hy : X.mg y = none) (hw : bootBuiltins y = some (.type u.nm)) (ha : JP X a fa) (hg : Gl X "isinstance" := by rfl) (hgx : Gl X x := by rfl) (hgy : Gl X y := by rfl)
    (hn : x ≠ "__name__" := by decide) (hdb : (x == ("__debug__" : Str)) = false := by decide) (hn' : y ≠ "__name__" := by decide) (hdb' : (y == ("__debug__" : Str)) = false := by decide)
    (hs1 : starEach [a, .Tuple [.Name x p1, .Name y p2] k pt] X.env = (false, eval a X.env) :: starEach [.Tuple [.Name x p1, .Name y p2] k pt] X.env := by rfl) (hs2 : starEach [.Tuple [.Name x p1, .Name y p2] k pt] X.env = (false, eval (.Tuple [.Name x p1, .Name y p2] k pt) X.env) :: starEach [] X.env := by rfl)
    (hs3 : starEach [.Name x p1, .Name y p2] X.env = (false, eval (.Name x p1) X.env) :: starEach [.Name y p2] X.env := by rfl) (hs4 : starEach [.Name y p2] X.env = (false, eval (.Name y p2) X.env) :: starEach [] X.env := by rfl)
    (hpl : (backTo pos (starEach [.Tuple [.Name x p1, .Name y p2] k pt] X.env)).any (·.1) = false := by rfl) :
    JP X (.Call (.Name "isinstance" p) [a, .Tuple [.Name x p1, .Name y p2] k pt] [] pos) (visi2 t u fa) := ⟨fun rp tk hg' hP =>
  we_of (pe_callB call_isiT hg hi PyProof.Rows.boot_isinstance (pa_cons pe_we (pa_cons (pe_tup (pa_cons (pe_bltn (v := .ty t.nm) hgx hx hv rfl hn hdb) (pa_cons (pe_bltn (v := .ty u.nm) hgy hy hw rfl hn' hdb') pa_nil hs4) hs3)) pa_nil hs2) hs1) (he := hs1) (hpl := hpl)) (jp_bind ha rp tk hg' hP fun x vx F1 H1 h1 g1 rx r1 P1 => by
    obtain ⟨z, hz, rfl⟩ := opt_some h1
    simp only [Option.map_eq_some_iff] at hz
    obtain ⟨b, hb, rfl⟩ := hz
    obtain ⟨n, hn, hk⟩ := isA2_kit (K := X.K) hb
    have g2 : ∀ q, H1 q = none → Grow F1 H1 F1 (upd H1 q (.tup [.ty t.nm, .ty u.nm])) := fun q hq => ⟨Ex.refl _, r1.ex.trans (Ex.new hq), Ex.new hq, fun a h => .inl h⟩
    exact ⟨by show 2 ≤ sizeLine; decide, fun q hq => ⟨_, q, [.ty t.nm, .ty u.nm], _, [.type t.nm, .type u.nm], b, rfl, upd_same, .cons (.ty _) (.cons (.ty _) .nil), tyX_of (g2 q hq).fh rx hn, hk, P1 _ F1 _ (g2 q hq) (.bl _)⟩⟩)⟩
end
def one (g : D → Option D) : List D → Option D
  | [x] => g x
  | _ => none
def two (g : D → D → Option D) : List D → Option D
  | [x, y] => g x y
  | _ => none
theorem one_some {g : D → Option D} {xs : List D} {z : D} (h : one g xs = some z) : ∃ x, xs = [x] ∧ g x = some z := by
  unfold one at h; split at h
  · exact ⟨_, rfl, h⟩
  · cases h
theorem two_some {g : D → D → Option D} {xs : List D} {z : D} (h : two g xs = some z) : ∃ x y, xs = [x, y] ∧ g x y = some z := by
  unfold two at h; split at h
  · exact ⟨_, _, rfl, h⟩
  · cases h
theorem reps1 {K : Frag} {F : Hp} {vs : List V} {x : D} (r : Reps K F vs [x]) : ∃ w, vs = [w] ∧ Rep K F w x := by
  cases r with | cons h r => cases r; exact ⟨_, rfl, h⟩
theorem reps2 {K : Frag} {F : Hp} {vs : List V} {x y : D} (r : Reps K F vs [x, y]) : ∃ w u, vs = [w, u] ∧ Rep K F w x ∧ Rep K F u y := by
  cases r with | cons h r => cases r with | cons h2 r => cases r; exact ⟨_, _, rfl, h, h2⟩
def dLen : D → Option D
  | .str x => if x.length ≤ sizeLine then some (.int x.length) else none
  | .tup xs => some (.int xs.length)
  | .lst xs => some (.int xs.length)
  | .scr xs => some (.int xs.length)
  | .dic xs => some (.int xs.length)
  | _ => none
abbrev rLen0 (K : Frag) : List V → Hp → VK → Prop := fun xs H Q => (∃ x n, xs = [x] ∧ LenV K x H n ∧ Q (.int n) H) ∨ ∃ a kvs, xs = [V.ref a] ∧ H a = some (.dK kvs) ∧ Q (.int kvs.length) H
theorem b_len {X : Cx} : CallR X (.builtin "len") (rLen0 X.K) := call_len.or call_lenD
theorem d_len {K : Frag} : CallD K (rLen0 K) (one dLen) := fun {F H vs xs z} e r h Q q => by
  obtain ⟨x, e0, h0⟩ := one_some h; subst e0; clear h; have h := h0; clear h0
  obtain ⟨w, rfl, rr⟩ := reps1 r
  cases rr with
  | str x =>
    simp only [dLen] at h
    split at h
    · cases h; exact .inl ⟨_, _, rfl, ⟨by assumption, rfl⟩, q _ F H (.refl e) (.int _)⟩
    · cases h
  | tup h1 r1 => cases h; exact .inl ⟨_, _, rfl, .inr ⟨_, ex_t e h1, rfl⟩, by rw [Rep.len r1]; exact q _ F H (.refl e) (.int _)⟩
  | lst h1 r1 => cases h; exact .inl ⟨_, _, rfl, .inl ⟨_, SqL.of (e _ _ h1), rfl⟩, by rw [Rep.len r1]; exact q _ F H (.refl e) (.int _)⟩
  | scr h1 r1 => cases h; exact .inl ⟨_, _, rfl, .inl ⟨_, ex_l e h1, rfl⟩, by rw [Rep.len r1]; exact q _ F H (.refl e) (.int _)⟩
  | dic h1 r1 => cases h; exact .inr ⟨_, _, rfl, e _ _ h1, by rw [RepK.len r1]; exact q _ F H (.refl e) (.int _)⟩
  | _ => cases h
def dAbs : D → Option D
  | .int i => some (.int (if i < 0 then -i else i))
  | _ => none
theorem d_abs {K : Frag} : CallD K (fun xs H Q => ∃ i, xs = [.int i] ∧ Q (.int (if i < 0 then -i else i)) H) (one dAbs) := fun {F H vs xs z} e r h Q q => by
  obtain ⟨x, e0, h0⟩ := one_some h; subst e0; clear h; have h := h0; clear h0
  obtain ⟨w, rfl, rr⟩ := reps1 r
  cases rr <;> (try (cases h; done))
  cases h; exact ⟨_, rfl, q _ F H (.refl e) (.int _)⟩
def dInt : D → Option D
  | .int i => some (.int i)
  | .bl k => some (.int (if k then 1 else 0))
  | .str a => if a.length ≤ 640 then (PySem.intText? a).map .int else none
  | _ => none
abbrev rInt0 : List V → Hp → VK → Prop := fun xs H Q => ((∃ i, xs = [.int i] ∧ Q (.int i) H) ∨ ∃ k, xs = [.bl k] ∧ Q (.int (if k then 1 else 0)) H) ∨ ∃ a n, xs = [.str a] ∧ PySem.intText? a = some n ∧ a.length ≤ 640 ∧ Q (.int n) H
theorem b_int {X : Cx} : CallR X (.type "int") rInt0 := call_int1.or call_int_str
theorem d_int {K : Frag} : CallD K rInt0 (one dInt) := fun {F H vs xs z} e r h Q q => by
  obtain ⟨x, e0, h0⟩ := one_some h; subst e0; clear h; have h := h0; clear h0
  obtain ⟨w, rfl, rr⟩ := reps1 r
  cases rr with
  | int i => cases h; exact .inl (.inl ⟨_, rfl, q _ F H (.refl e) (.int _)⟩)
  | bl b => cases h; exact .inl (.inr ⟨_, rfl, q _ F H (.refl e) (.int _)⟩)
  | str x =>
    simp only [dInt] at h
    split at h
    · simp only [Option.map_eq_some_iff] at h
      obtain ⟨n, hn, rfl⟩ := h
      exact .inr ⟨_, n, rfl, hn, by assumption, q _ F H (.refl e) (.int _)⟩
    · cases h
  | _ => cases h
def dMax2 : D → D → Option D
  | .int i, .int j => some (.int (if j > i then j else i))
  | _, _ => none
theorem d_max2 {K : Frag} : CallD K (fun xs H Q => ∃ i j, xs = [.int i, .int j] ∧ Q (.int (if j > i then j else i)) H) (two dMax2) := fun {F H vs xs z} e r h Q q => by
  obtain ⟨x, y, e0, h0⟩ := two_some h; subst e0; clear h; have h := h0; clear h0
  obtain ⟨w, u, rfl, rr, r2⟩ := reps2 r
  cases rr <;> (try (cases h; done)) <;> cases r2 <;> (try (cases h; done))
  cases h; exact ⟨_, _, rfl, q _ F H (.refl e) (.int _)⟩
def kD : Key → D
  | .inl i => .int i
  | .inr x => .str x
theorem kV_rep {K : Frag} {F : Hp} (k : Key) : Rep K F (kV k) (kD k) := by cases k; exact .int _; exact .str _
theorem RepK.keys {K : Frag} {F : Hp} : ∀ {vs : List (Key × V)} {ds : List (Key × D)}, RepK K F vs ds → Reps K F (vs.map fun kv => kV kv.1) (ds.map fun kv => kD kv.1)
  | _, _, .nil => .nil
  | _, _, .cons h r => .cons (kV_rep _) (RepK.keys r)
def dList : D → Option D
  | .tup xs => some (.lst xs)
  | .lst xs => some (.lst xs)
  | .scr xs => some (.lst xs)
  | .dic xs => some (.lst (xs.map fun kv => kD kv.1))
  | .fdc xs => some (.lst (xs.map fun kv => kD kv.1))
  | _ => none
abbrev rList0 (K : Frag) : List V → Hp → VK → Prop := fun xs H Q => (∃ p ys, xs = [.ref p] ∧ (SqL K H p ys ∨ SqT K H p ys) ∧ ∀ l, H l = none → Q (.ref l) (upd H l (.lst ys))) ∨ ∃ (a : Addr) (kvs : List (Key × V)), xs = [.ref a] ∧ Rd H a (.dK kvs) ∧ ∀ p, H p = none → Q (.ref p) (upd H p (.lst (kvs.map fun kv => kV kv.1)))
theorem b_list {X : Cx} (hc : X.calm = true) : CallR X (.type "list") (rList0 X.K) := call_list_of.or (call_listD hc)
def dTuple : D → Option D
  | .tup xs => some (.tup xs)
  | .lst xs => some (.tup xs)
  | .scr xs => some (.tup xs)
  | _ => none
def rTupleP (K : Frag) : List V → Hp → VK → Prop := fun xs H Q => ∃ p ys, xs = [.ref p] ∧ ((SqL K H p ys ∧ ∀ l o, H l = none → PlT o → Q (.ref l) (upd H l (.frz o (.tup ys)))) ∨ (SqT K H p ys ∧ Q (.ref p) H))
open PySem.Spec PyProof.Rows in
theorem call_tupleP {X : Cx} : CallR X (.type "tuple") (rTupleP X.K) := by
  intro pins s σ H xs us Q I r h
  obtain ⟨p, ys, rfl, h⟩ := h
  obtain ⟨u, rfl, rx⟩ := vals1 r
  cases rx
  rcases h with ⟨hq, q⟩ | ⟨hq, q⟩
  · obtain ⟨its, r', pl, hz⟩ := I.list hq
    have hlen := r'.length
    refine call_tuple_list pl.isList (fun h' kp => ?_) (by simp only [List.size_toArray] <;> omega)
    have I1 : Inv X pins σ H { s with heap := h' } := I.kept (t' := s.toks) kp
    have I2 : Inv X pins σ (upd H h'.objs.size (.frz { cls := .type "tuple", data := .seq its.toArray } (.tup ys))) { s with heap := h'.push { cls := .type "tuple", data := .seq its.toArray } } :=
      I1.laid (t' := s.toks) (fun b o e => Heap.get?_push_of_some _ e) (Nat.le_refl _) (show ObjOk X.prog X.w _ _ _ (.frz _ (.tup ys)) from ⟨Heap.get?_push_size _ rfl, hz, its, r', IsTup.new _ _⟩)
    exact ⟨.ref h'.objs.size, _, I2, rfl, q _ _ (I1.hok.fresh (Nat.le_refl _)) ⟨rfl, rfl, _, _, rfl⟩⟩
  · obtain ⟨its, r', pl, hz⟩ := I.tuple hq
    exact call_tuple_same pl ⟨.ref p, H, I, rfl, q⟩
theorem d_tuple {K : Frag} : CallD K (rTupleP K) (one dTuple) := fun {F H vs xs z} e r h Q q => by
  obtain ⟨x, e0, h0⟩ := one_some h; subst e0; clear h; have h := h0; clear h0
  obtain ⟨w, rfl, rr⟩ := reps1 r
  cases rr with
  | tup h1 r1 => cases h; exact ⟨_, _, rfl, .inr ⟨ex_t e h1, q _ F H (.refl e) (.tup h1 r1)⟩⟩
  | lst h1 r1 => cases h; exact ⟨_, _, rfl, .inl ⟨SqL.of (e _ _ h1), fun p ob hp hpl => q _ _ _ (.new e hp) (.tup (SqP.of upd_same hpl) (r1.mono (Ex.new (none_back e hp))))⟩⟩
  | scr h1 r1 => cases h; exact ⟨_, _, rfl, .inl ⟨ex_l e h1, fun p ob hp hpl => q _ _ _ (.new e hp) (.tup (SqP.of upd_same hpl) (r1.mono (Ex.new (none_back e hp))))⟩⟩
  | _ => cases h
def dbools : List D → Option (List Bool)
  | [] => some []
  | .bl i :: r => (dbools r).map fun is => i :: is
  | _ => none
theorem dbools_rep {K : Frag} {F : Hp} : ∀ {ds : List D} {vs : List V} {is : List Bool}, Reps K F vs ds → dbools ds = some is → vs = is.map V.bl
  | _, _, _, .nil, h => by cases h; rfl
  | _, _, _, .cons h1 r, h => by
    cases h1 <;> (try (cases h; done))
    simp only [dbools, Option.map_eq_some_iff] at h
    obtain ⟨is, h2, rfl⟩ := h
    rw [dbools_rep r h2]; rfl
def dAll : D → Option D
  | .lst xs => (dbools xs).map fun is => .bl (is.all id)
  | _ => none
theorem d_all {K : Frag} : CallD K (rAll K) (one dAll) := fun {F H vs xs z} e r h Q q => by
  obtain ⟨x, e0, h0⟩ := one_some h; subst e0; clear h; have h := h0; clear h0
  obtain ⟨w, rfl, rr⟩ := reps1 r
  cases rr <;> (try (cases h; done))
  case lst a vs ds h1 r1 =>
    simp only [dAll, Option.map_eq_some_iff] at h
    obtain ⟨is, h2, rfl⟩ := h
    cases dbools_rep r1 h2
    exact ⟨_, is, rfl, SqL.of (e _ _ h1), q _ F H (.refl e) (.bl _)⟩
end PD
end
section
namespace PD
open PySem L2
theorem RP.rs {K : Frag} {F H : Hp} {σ : L2.St} {δ : Env} (r : RP K F σ H δ) : RS K [] Pm.no F H F σ H δ where
  ff := Ex.refl _
  fh := r.ex
  hh := fun _ _ _ h => h
  dm := fun _ h => h
  nw := fun _ h => .inl h
  ln := r.ln
  par := fun _ h => h.elim
  bxh := fun _ h => h.elim
  val := fun i d _ h => r.val i d h
  own := ⟨fun _ => [], fun i d hi _ => absurd hi (by simp), fun i a h => absurd h (by simp), fun i j a _ h => absurd h (by simp)⟩
theorem RS.gr {K : Frag} {own : List Nat} {F0 H0 F : Hp} {σ : L2.St} {H : Hp} {δ : Env} (r : RS K own Pm.no F0 H0 F σ H δ) : Grow F0 H0 F H := ⟨r.ff, r.fh, fun a o h => r.hh a o (fun h => h.elim) h, r.nw⟩
def pur {α : Type} (f : Env → RE α) : Env → Rs α := fun δ => match f δ with
  | none => none
  | some (.ok (a, _)) => some (.ok a)
  | some (.error (x, _)) => some (.error x)
theorem j_of {α β : Type} {X : Cx} {w : L2.St → Hp → (β → Hp → Prop) → Prop} {rel : Hp → β → α → Prop} {f : Env → RE α} (h : JS0 X [] w rel f) : J X w rel (pur f) := ⟨fun {σ F H δ W Q o} rp tk hg hP => by
  unfold pur at hg
  cases e : f δ with
  | none => rw [e] at hg; cases hg
  | some y =>
    rw [e] at hg
    rcases y with ⟨x, δ1⟩ | ⟨d, δ1⟩
    · cases hg; exact h.run rp.rs tk e fun c dd F' H' r1 e1 rx => hP c dd F' H' r1.gr rx
    · cases hg; exact h.run rp.rs tk e fun v F' H' r1 e1 rx => hP v F' H' r1.gr rx⟩
def WI (X : Cx) (tg iter : Expr) (σ : L2.St) (H : Hp) (R : It → Hp → Prop) : Prop := ∀ pins s, Inv X pins σ H s → wpAny (model X.prog X.w) X.A (eval iter X.env) (fun v s1 => wpAny (model X.prog X.w) X.A (pyIter v) (PIE X pins σ tg R) X.xe s1) X.xe s
theorem pi_wi {X : Cx} {tg iter : Expr} : PI X tg iter (WI X tg iter) := ⟨fun pins s _ _ _ I h => h pins s I⟩
theorem wi_of {X : Cx} {tg iter : Expr} {t : TI} {σ : L2.St} {H : Hp} {R : It → Hp → Prop} (h : PI X tg iter t) (q : t σ H R) : WI X tg iter σ H R := fun pins s I => h.run pins s σ H R I q
def WG (X : Cx) (tg : Expr) (v : V) (σ : L2.St) (H : Hp) (Q : L2.St → Hp → Prop) : Prop := ∀ pins s u, Inv X pins σ H s → RelV v u → wpAny (model X.prog X.w) X.A (assign tg X.env u) (fun _ s' => ∃ σ' H', Inv X pins σ' H' s' ∧ Q σ' H') X.xe s
theorem pg_wg {X : Cx} {tg : Expr} : PG X tg (WG X tg) := ⟨fun pins s _ _ v u _ I r h => h pins s u I r⟩
theorem wg_of {X : Cx} {tg : Expr} {t : TG} {v : V} {σ : L2.St} {H : Hp} {Q : L2.St → Hp → Prop} (h : PG X tg t) (q : t v σ H Q) : WG X tg v σ H Q := fun pins s u I r => h.run pins s σ H v u Q I r q
structure Src (K : Frag) (F : Hp) (ds : List D) (J : It) : Prop where
  go : ∀ {F1 H1 : Hp}, Ex F F1 → Ex F1 H1 → ∀ {i : Nat} {d : D}, ds[i]? = some d → J.go i H1 ∧ ∀ x H', J.yld i H1 x H' → ∃ F', Grow F1 H1 F' H' ∧ Rep K F' x d
  stop : ∀ {F1 H1 : Hp}, Ex F F1 → Ex F1 H1 → ∀ {i : Nat}, ds.length ≤ i → J.stop i H1
structure JI (X : Cx) (own : List Nat) (tg iter : Expr) (f : Env → RE (List D)) : Prop where
  run : ∀ {P F0 H0 σ F H δ W o} {R : It → Hp → Prop}, RSf X ⟨own, P, F0, H0⟩ F σ H δ → Takes X W → f δ = some o → (match o with
    | .ok (ds, δ') => ∀ J F' H', RSf X ⟨own, P, F0, H0⟩ F' σ H' δ' → Ex F F' → Src X.K F' ds J → R J H'
    | .error (x, δ') => ∀ cls dd F' H', RSf X ⟨own, P, F0, H0⟩ F' σ H' δ' → Ex F F' → RepX X.K F' cls dd x → W cls dd σ H') → WI X tg iter σ H R
theorem wipe_get {σ : L2.St} {j : Nat} : ∀ {vs : List Nat}, (wipe σ vs)[j]? = if j ∈ vs then σ[j]?.map (fun _ => none) else σ[j]?
  | [] => by simp [wipe]
  | v :: vs => by
    show ((wipe σ vs).set v none)[j]? = _
    by_cases h : v = j
    · subst h
      rw [List.getElem?_set]
      simp only [List.mem_cons, true_or, if_true]
      by_cases hl : v < σ.length
      · rw [if_pos (by rw [wipe_length]; exact hl), List.getElem?_eq_getElem hl]; rfl
      · rw [if_neg (by rw [wipe_length]; exact hl), List.getElem?_eq_none (by omega)]; rfl
    · rw [List.getElem?_set_ne h, wipe_get]
      have e : (j ∈ v :: vs) ↔ j ∈ vs := by simp; exact fun e => absurd e.symm h
      by_cases hv : j ∈ vs
      · rw [if_pos hv, if_pos (e.2 hv)]
      · rw [if_neg hv, if_neg (fun h => hv (e.1 h))]
theorem wipe_set {σ : L2.St} {i : Nat} {x : Option V} {vs : List Nat} (h : i ∈ vs) : wipe (σ.set i x) vs = wipe σ vs := by
  apply List.ext_getElem?
  intro j
  rw [wipe_get, wipe_get]
  by_cases hj : i = j
  · subst hj
    rw [if_pos h, if_pos h, List.getElem?_set]
    by_cases hl : i < σ.length
    · simp [hl]
    · simp [hl]
  · rw [List.getElem?_set_ne hj]
structure JG (X : Cx) (own : List Nat) (tg : Expr) (is : List Nat) (h : D → Env → Option Env) : Prop where
  run : ∀ {P F0 H0 σ F H δ d v δ'} {Q : L2.St → Hp → Prop}, RSf X ⟨own, P, F0, H0⟩ F σ H δ → Rep X.K F v d → h d δ = some δ' → (∀ σ' F' H', RSf X ⟨own, P, F0, H0⟩ F' σ' H' δ' → Ex F F' → (∀ vs : List Nat, (∀ i, i ∈ is → i ∈ vs) → wipe σ' vs = wipe σ vs) → Q σ' H') → WG X tg v σ H Q
def gn (i : Nat) : D → Env → Option Env := fun d δ => some (δ.set i (some d))
theorem jg_n {X : Cx} {own : List Nat} {x : Str} {pos : Pos} (i : Nat) (hN : X.N.Nodup) (hi : X.N[i]? = some x := by rfl) (hx : Loc X.env.scope x := by first | exact Or.inl rfl | exact Or.inr rfl) (ho : i ∉ own := by decide)
    (hf : X.fn x = true ∨ X.env.scope.names.lookup x = some .local := by first | exact .inl rfl | exact .inr rfl | assumption) : JG X own (.Name x pos) [i] (gn i) :=
  ⟨fun r rv h q => by cases h; exact wg_of (pg_name hN hi hx hf) (q _ _ _ (r.set ho rv) (Ex.refl _) fun vs hv => wipe_set (hv i (List.mem_singleton.2 rfl)))⟩
def WGs (X : Cx) (tgs : List Expr) (vs : List V) (σ : L2.St) (H : Hp) (Q : L2.St → Hp → Prop) : Prop := ∀ pins s us, Inv X pins σ H s → Vals vs us → wpAny (model X.prog X.w) X.A (assignInOrder ((assignEach tgs X.env).map (·.2)) us) (fun _ s' => ∃ σ' H', Inv X pins σ' H' s' ∧ Q σ' H') X.xe s
theorem pgs_wgs {X : Cx} {tgs : List Expr} : PGs X tgs (WGs X tgs) := ⟨fun pins s _ _ vs us _ I r h => h pins s us I r⟩
theorem wgs_of {X : Cx} {tgs : List Expr} {t : TGs} {vs : List V} {σ : L2.St} {H : Hp} {Q : L2.St → Hp → Prop} (h : PGs X tgs t) (q : t vs σ H Q) : WGs X tgs vs σ H Q := fun pins s us I r => h.run pins s σ H vs us Q I r q
structure JGs (X : Cx) (own : List Nat) (tgs : List Expr) (is : List Nat) (h : List D → Env → Option Env) : Prop where
  run : ∀ {P F0 H0 σ F H δ ds vs δ'} {Q : L2.St → Hp → Prop}, RSf X ⟨own, P, F0, H0⟩ F σ H δ → Reps X.K F vs ds → h ds δ = some δ' → (∀ σ' F' H', RSf X ⟨own, P, F0, H0⟩ F' σ' H' δ' → Ex F F' → (∀ vs : List Nat, (∀ i, i ∈ is → i ∈ vs) → wipe σ' vs = wipe σ vs) → Q σ' H') → WGs X tgs vs σ H Q
def gsnil : List D → Env → Option Env
  | [], δ => some δ
  | _, _ => none
def gscons (h : D → Env → Option Env) (r : List D → Env → Option Env) : List D → Env → Option Env
  | d :: ds, δ => (h d δ).bind fun δ' => r ds δ'
  | _, _ => none
theorem jgs_nil {X : Cx} {own : List Nat} : JGs X own [] [] gsnil := ⟨fun {P F0 H0 σ F H δ ds vs δ' Q} r rv h q => by
  cases rv with
  | nil => cases h; exact wgs_of pgs_nil ⟨rfl, q _ _ _ r (Ex.refl _) fun _ _ => rfl⟩
  | cons _ _ => cases h⟩
theorem jgs_cons {X : Cx} {own : List Nat} {e : Expr} {es : List Expr} {is js : List Nat} {h : D → Env → Option Env} {k : List D → Env → Option Env} (h1 : JG X own e is h) (h2 : JGs X own es js k) (hs : (assignEach (e :: es) X.env).map (·.2) = assign e X.env :: (assignEach es X.env).map (·.2) := by rfl) : JGs X own (e :: es) (is ++ js) (gscons h k) := ⟨fun {P F0 H0 σ F H δ ds vs δ' Q} r rv hh q => by
  cases rv with
  | nil => cases hh
  | cons ra rb =>
    simp only [gscons, Option.bind_eq_some_iff] at hh
    obtain ⟨δ1, e1, e2⟩ := hh
    exact wgs_of (pgs_cons pg_wg pgs_wgs hs) ⟨_, _, rfl, h1.run r ra e1 fun σ1 F1 H1 r1 x1 w1 => h2.run r1 (rb.mono x1) e2 fun σ2 F2 H2 r2 x2 w2 => q σ2 F2 H2 r2 (x1.trans x2) fun vs hv => (w2 vs fun i hi => hv i (List.mem_append_right _ hi)).trans (w1 vs fun i hi => hv i (List.mem_append_left _ hi))⟩⟩
def gt (h : List D → Env → Option Env) : D → Env → Option Env
  | .tup ds, δ => h ds δ
  | .npt ds, δ => h ds δ
  | _, _ => none
theorem jg_t {X : Cx} {own : List Nat} {es : List Expr} {k n : Nat} {pos : Pos} {is : List Nat} {h : List D → Env → Option Env} (hc : X.calm = true) (hk : JGs X own es is h) (hl : ∀ ds δ δ', h ds δ = some δ' → ds.length = n) (hn : (assignEach es X.env).length = n := by rfl) (hst : (assignEach es X.env).findIdx? (·.1) = none := by rfl) : JG X own (.Tuple es k pos) is (gt h) := ⟨fun {P F0 H0 σ F H δ d v δ' Q} r rv hh q => by
  cases rv <;> (try (cases hh; done))
  case tup a vs ds h1 r1 =>
    exact wg_of (pg_tup hc pgs_wgs hn hst) ⟨a, vs, rfl, ex_t r.fh h1, (Rep.len r1).trans (hl _ _ _ hh), hk.run r r1 hh q⟩
  case npt a vs ds h1 r1 =>
    exact wg_of (pg_tup hc pgs_wgs hn hst) ⟨a, vs, rfl, ex_q r.fh h1, (Rep.len r1).trans (hl _ _ _ hh), hk.run r r1 hh q⟩⟩
theorem gl_nil : ∀ (ds : List D) (δ δ' : Env), gsnil ds δ = some δ' → ds.length = 0
  | [], _, _, _ => rfl
  | _ :: _, _, _, h => by cases h
theorem gl_cons {n : Nat} {h : D → Env → Option Env} {r : List D → Env → Option Env} (hr : ∀ (ds : List D) (δ δ' : Env), r ds δ = some δ' → ds.length = n) : ∀ (ds : List D) (δ δ' : Env), gscons h r ds δ = some δ' → ds.length = n + 1
  | [], _, _, h => by cases h
  | d :: ds, δ, δ', hh => by
    simp only [gscons, Option.bind_eq_some_iff] at hh
    obtain ⟨δ1, e1, e2⟩ := hh
    rw [List.length_cons, hr _ _ _ e2]
theorem src_list {K : Frag} {F : Hp} {a : Addr} {vs : List V} {ds : List D} (h : SqL K F a vs) (r : Reps K F vs ds) : Src K F ds (Itl K a) where
  go := fun {F1 H1} e1 e2 {i d} hd => by
    obtain ⟨w, hw, rw'⟩ := r.get hd
    refine ⟨⟨vs, w, ex_l (e1.trans e2) h, hw⟩, fun x H' ⟨e, hx⟩ => ?_⟩
    subst e
    have := hx vs (ex_l (e1.trans e2) h)
    rw [hw] at this; cases this
    exact ⟨F1, .refl e2, rw'.mono e1⟩
  stop := fun {F1 H1} e1 e2 {i} hi => ⟨vs, ex_l (e1.trans e2) h, by rw [Rep.len r]; exact hi⟩
theorem src_tup {K : Frag} {F : Hp} {a : Addr} {vs : List V} {ds : List D} (h : SqP K F a vs) (r : Reps K F vs ds) : Src K F ds (Itt K a) where
  go := fun {F1 H1} e1 e2 {i d} hd => by
    obtain ⟨w, hw, rw'⟩ := r.get hd
    refine ⟨⟨vs, w, ex_t (e1.trans e2) h, hw⟩, fun x H' ⟨e, hx⟩ => ?_⟩
    subst e
    have := hx vs (ex_t (e1.trans e2) h)
    rw [hw] at this; cases this
    exact ⟨F1, .refl e2, rw'.mono e1⟩
  stop := fun {F1 H1} e1 e2 {i} hi => ⟨vs, ex_t (e1.trans e2) h, by rw [Rep.len r]; exact hi⟩
def rng (lo hi : Int) : List D := (List.range (hi - lo).toNat).map fun i => .int (lo + (i : Nat))
theorem src_rng {K : Frag} {F : Hp} {lo hi : Int} : Src K F (rng lo hi) (Itr lo (hi - lo).toNat) where
  go := fun {F1 H1} e1 e2 {i d} hd => by
    unfold rng at hd
    rw [List.getElem?_map, Option.map_eq_some_iff] at hd
    obtain ⟨j, hj, rfl⟩ := hd
    have := List.getElem?_eq_some_iff.1 hj
    obtain ⟨h1, h2⟩ := this
    rw [List.length_range] at h1
    rw [List.getElem_range] at h2
    subst h2
    exact ⟨h1, fun x H' ⟨e, hx⟩ => by subst e; subst hx; exact ⟨F1, .refl e2, .int _⟩⟩
  stop := fun {F1 H1} e1 e2 {i} hi => by unfold rng at hi; rw [List.length_map, List.length_range] at hi; exact hi
def irng1 (f : Env → RE D) : Env → RE (List D) := fun δ => bindE (f δ) fun d δ' => match d with
  | .int n => if -(2 ^ 62) ≤ n ∧ n < 2 ^ 62 then some (.ok (rng 0 n, δ')) else none
  | _ => none
theorem ji_rng1 {X : Cx} {own : List Nat} {tg e : Expr} {p pos : Pos} {f : Env → RE D} (hm : X.mg "range" = none) (h : JE X own e f) (hg : Gl X "range" := by rfl) (hs : starEach [e] X.env = [(false, eval e X.env)] := by rfl) : JI X own tg (.Call (.Name "range" p) [e] [] pos) (irng1 f) := ⟨fun {P F0 H0 σ F H δ W o R} r tk hg' hP => by
  refine wi_of (pi_range1 hg hm (pa_cons pe_we pa_nil hs) hs) ?_
  unfold irng1 at hg'
  cases e0 : f δ with
  | none => rw [e0] at hg'; cases hg'
  | some y =>
    rw [e0] at hg'
    rcases y with ⟨x, δ1⟩ | ⟨d, δ1⟩
    · cases hg'; exact h.run r tk e0 hP
    · simp only [bindE] at hg'
      cases d <;> (try (cases hg'; done))
      case int n =>
        by_cases hc : -(2 ^ 62) ≤ n ∧ n < 2 ^ 62
        · dsimp only at hg'; rw [if_pos hc] at hg'
          cases hg'
          refine h.run r tk e0 fun v F1 H1 r1 e1 rx => ?_
          cases rx
          refine ⟨n, rfl, hc.1, hc.2, ?_⟩
          have := hP (Itr 0 (n - 0).toNat) F1 H1 r1 e1 src_rng
          rw [Int.sub_zero] at this
          exact this
        · dsimp only at hg'; rw [if_neg hc] at hg'; cases hg'⟩
def sfor (g : D → Env → Option Env) (b : Env → RO) : List D → Env → RO
  | [], δ => some (.ok (.nx, δ))
  | d :: ds, δ => match g d δ with
    | none => none
    | some δ1 => match b δ1 with
      | some (.ok (.nx, δ2)) => sfor g b ds δ2
      | some (.ok (.ct, δ2)) => sfor g b ds δ2
      | some (.ok (.bk, δ2)) => some (.ok (.nx, δ2))
      | x => x
def sforI (f : Env → RE (List D)) (g : D → Env → Option Env) (b : Env → RO) : Env → RO := fun δ => bindE (f δ) fun ds δ' => sfor g b ds δ'
theorem js_for {X : Cx} {own : List Nat} {tg iter : Expr} {body : List Stmt} {pos : Pos} {f : Env → RE (List D)} {g : D → Env → Option Env} {is : List Nat} {b : Env → RO} (hp : PassesOwn (model X.prog X.w) X.A X.env X.xe) (hc : X.calm = true) (hi : JI X own tg iter f) (hg : JG X own tg is g) (hb : JSs X own body b)
    (hs : ∀ x, foldedSetIterable iter X.env x = pure x := by intro _; rfl) : JS X own (.For tg iter body [] pos) (sforI f g b) := ⟨fun {P F0 H0 σ F H δ W o D} _ r tk hh hP => by
  refine ws_of (ps_for hp hc pi_wi pg_wg pss_wss hs) ?_
  unfold sforI at hh
  cases e0 : f δ with
  | none => rw [e0] at hh; cases hh
  | some y =>
    rw [e0] at hh
    rcases y with ⟨x, δ1⟩ | ⟨ds, δ1⟩
    · cases hh; exact hi.run r tk e0 fun c dd F' H' r1 e1 rx => hP c dd σ F' H' r1 e1 rx
    · simp only [bindE] at hh
      refine hi.run r tk e0 fun J F1 H1 r1 e1 src => ?_
      refine ⟨fun i m σ' H' => ∃ F' δ', RSf X ⟨own, P, F0, H0⟩ F' σ' H' δ' ∧ Ex F1 F' ∧ i + m = ds.length ∧ sfor g b (ds.drop i) δ' = some o, ⟨ds.length, F1, δ1, r1, Ex.refl _, Nat.zero_add _, hh⟩, ?_⟩
      rintro i m σ2 H2 ⟨F2, δ2, r2, e2, hm, h2⟩
      cases hd : ds[i]? with
      | none =>
        have hl : ds.length ≤ i := List.getElem?_eq_none_iff.1 hd
        rw [List.drop_of_length_le hl] at h2
        cases h2
        exact .inl ⟨src.stop e2 r2.fh hl, hP σ2 F2 H2 r2 (e1.trans e2)⟩
      | some d =>
        have hl : i < ds.length := (List.getElem?_eq_some_iff.1 hd).1
        have hd' : ds[i] = d := (List.getElem?_eq_some_iff.1 hd).2
        rw [List.drop_eq_getElem_cons hl, hd'] at h2
        obtain ⟨g1, g2⟩ := src.go e2 r2.fh hd
        refine .inr ⟨g1, fun σ' H' => ∃ F' δ', RSf X ⟨own, P, F0, H0⟩ F' σ' H' δ' ∧ Ex F1 F' ∧ (i + 1) + (m - 1) = ds.length ∧ sfor g b (ds.drop (i + 1)) δ' = some o, fun σ' H' h => ⟨m - 1, by omega, h⟩, fun x H' hy => ?_⟩
        obtain ⟨F3, g3, rx⟩ := g2 x H' hy
        simp only [sfor] at h2
        cases e4 : g d δ2 with
        | none => rw [e4] at h2; cases h2
        | some δ4 =>
          rw [e4] at h2
          simp only [] at h2
          refine hg.run (r2.grow g3) rx e4 fun σ4 F4 H4 r4 x4 _ => ?_
          have ex4 : Ex F1 F4 := (e2.trans g3.ff).trans x4
          have P4 := hP.later (e1.trans ex4)
          cases e5 : b δ4 with
          | none => rw [e5] at h2; cases h2
          | some z =>
            rw [e5] at h2
            rcases z with ⟨x, δ5⟩ | ⟨o1, δ5⟩
            · cases h2; exact hb.run r4 tk e5 P4
            · cases o1 with
              | nx => exact hb.run r4 tk e5 fun σ' F' H' r3 x3 => ⟨F', δ5, r3, ex4.trans x3, by omega, h2⟩
              | ct => exact hb.run r4 tk e5 fun σ' F' H' r3 x3 => ⟨F', δ5, r3, ex4.trans x3, by omega, h2⟩
              | bk => cases h2; exact hb.run r4 tk e5 P4
              | rt d => cases h2; exact hb.run r4 tk e5 P4⟩
end PD
end
section
namespace PD
open PySem L2
mutual
def flat : D → Bool
  | .non => true
  | .bl _ => true
  | .int _ => true
  | .str _ => true
  | .tup xs => flats xs
  | _ => false
def flats : List D → Bool
  | [] => true
  | x :: xs => flat x && flats xs
end
def notTup : Option HO → Bool
  | some (.tup _) => false
  | some (.frz _ (.tup _)) => false
  | _ => true
open Classical in
noncomputable def less (F : Hp) (A : Addr → Prop) : Hp := fun a => if A a then none else F a
mutual
theorem unfz {K : Frag} {F : Hp} {A : Addr → Prop} (h : ∀ a, A a → notTup (F a) = true) : ∀ {v : V} {d : D}, Rep K F v d → flat d = true → Rep K (less F A) v d
  | _, _, .non, _ => .non
  | _, _, .bl b, _ => .bl b
  | _, _, .int i, _ => .int i
  | _, _, .str x, _ => .str x
  | _, _, .tup (a := a) (ds := ds) h1 r, hf => by
    rw [flat] at hf
    refine .tup ?_ (unfzs h r hf)
    rcases h1 with ⟨o, h1, hpl⟩ | h1
    · have na : ¬ A a := fun ha => by
        have := h a ha
        rw [h1] at this; cases this
      exact .inl ⟨o, by unfold less; rw [if_neg na]; exact h1, hpl⟩
    · exact .inr h1
  | _, _, .lst _ _, hf => by simp [flat] at hf
  | _, _, .scr _ _, hf => by simp [flat] at hf
  | _, _, .npt _ _, hf => by simp [flat] at hf
  | _, _, .dic _ _, hf => by simp [flat] at hf
  | _, _, .fdc _ _, hf => by simp [flat] at hf
  | _, _, .obj _ _ _, hf => by simp [flat] at hf
  | _, _, .ins _ _, hf => by simp [flat] at hf
  | _, _, .exc _ _ _, hf => by simp [flat] at hf
  | _, _, .fn x, hf => .fn x
theorem unfzs {K : Frag} {F : Hp} {A : Addr → Prop} (h : ∀ a, A a → notTup (F a) = true) : ∀ {v : List V} {d : List D}, Reps K F v d → flats d = true → Reps K (less F A) v d
  | _, _, .nil, _ => .nil
  | _, _, .cons h1 r, hf => by
    rw [flats, Bool.and_eq_true] at hf
    exact .cons (unfz h h1 hf.1) (unfzs h r hf.2)
end
theorem repO_of {K : Frag} {F : Hp} : ∀ {ds : List (Option D)} {vs : List (Option V)}, (∀ (i : Nat) (d : D), ds[i]? = some (some d) → ∃ v : V, vs[i]? = some (some v) ∧ Rep K F v d) → RepO K F vs ds
  | [], vs, h => RepO.nil
  | none :: ds, vs, h => RepO.none (repO_of fun i d hd => by
      obtain ⟨v, hv, r⟩ := h (i + 1) d hd
      refine ⟨v, ?_, r⟩
      cases vs with
      | nil => simp at hv
      | cons x vs => simpa using hv)
  | some d :: ds, vs, h => by
    obtain ⟨v, hv, r⟩ := h 0 d rfl
    cases vs with
    | nil => simp at hv
    | cons x vs =>
      simp at hv
      subst hv
      exact .some r (repO_of fun i d hd => by
        obtain ⟨v, hv, r⟩ := h (i + 1) d hd
        exact ⟨v, by simpa using hv, r⟩)
open Classical in
theorem RS.frz {K : Frag} {own : List Nat} {P : Pm} {F0 H0 F : Hp} {σ : L2.St} {H : Hp} {δ : Env} (r : RS K own P F0 H0 F σ H δ) :
    ∃ A : Addr → Prop, (∀ a, A a → F a = none ∧ H a ≠ none) ∧ ∃ F1, Ex F F1 ∧ RP K F1 σ H δ ∧ (∀ a, A a → notTup (F1 a) = true ∧ F1 a ≠ none) ∧ ∀ a, ¬ A a → F1 a = F a := by
  obtain ⟨fp, h1, h2, h3⟩ := r.own
  refine ⟨fun a => ∃ i d, i ∈ own ∧ δ[i]? = some (some d) ∧ a ∈ fp i, fun a ⟨i, d, hi, hd, ha⟩ => ⟨(h2 i a ha).1, (h2 i a ha).2.1⟩, fun a => if (∃ i d, i ∈ own ∧ δ[i]? = some (some d) ∧ a ∈ fp i) then H a else F a, ?_, ?_, ?_, ?_⟩
  · intro a o e
    show (if _ then _ else _) = _
    split
    · exact r.fh a o e
    · exact e
  · have ef : Ex F (fun a => if (∃ i d, i ∈ own ∧ δ[i]? = some (some d) ∧ a ∈ fp i) then H a else F a) := by
      intro a o e
      show (if _ then _ else _) = _
      split
      · exact r.fh a o e
      · exact e
    refine ⟨fun a o e => ?_, r.ln, fun i d hd => ?_⟩
    · have e' : (if (∃ i d, i ∈ own ∧ δ[i]? = some (some d) ∧ a ∈ fp i) then H a else F a) = some o := e
      split at e'
      · exact e'
      · exact r.fh a o e'
    · by_cases hi : i ∈ own
      · obtain ⟨v, hv, o⟩ := h1 i d hi hd
        refine ⟨v, hv, ?_⟩
        have hp : ∀ p, p ∈ fp i → (if (∃ i d, i ∈ own ∧ δ[i]? = some (some d) ∧ p ∈ fp i) then H p else F p) = H p := fun p hp => if_pos ⟨i, d, hi, hd, hp⟩
        generalize hfp : fp i = fpi at o hp
        cases o with
        | lst h r2 => exact .lst (by show (if _ then _ else _) = _; rw [hp _ (by simp)]; exact h) (r2.mono ef)
        | dic h r2 => exact .dic (by show (if _ then _ else _) = _; rw [hp _ (by simp)]; exact h) (r2.mono ef)
        | ins h r2 => exact .ins (by show (if _ then _ else _) = _; rw [hp _ (by simp)]; exact h) (r2.mono ef)
        | tab h => exact .fn _
        | obj h =>
          refine .obj (by show (if _ then _ else _) = _; rw [hp _ h.inp]; exact h.ob) (by show (if _ then _ else _) = _; rw [hp _ h.inx]; exact h.dxo) ?_
          refine repO_of fun j e hj => ?_
          obtain ⟨w, hw, rw'⟩ := h.fld j e hj
          refine ⟨w, hw, ?_⟩
          split at rw'
          · obtain ⟨oc, hk, _⟩ := rw'
            cases oc with
            | lst h2 r2 => exact .lst (by show (if _ then _ else _) = _; rw [hp _ hk]; exact h2) (r2.mono ef)
            | dic h2 r2 => exact .dic (by show (if _ then _ else _) = _; rw [hp _ hk]; exact h2) (r2.mono ef)
          · exact rw'.mono ef
      · obtain ⟨v, hv, rv⟩ := r.val i d hi hd
        exact ⟨v, hv, rv.mono ef⟩
  · rintro a ⟨i, d, hi, hd, ha⟩
    show notTup (if _ then _ else _) = true ∧ (if _ then _ else _) ≠ none
    rw [if_pos ⟨i, d, hi, hd, ha⟩]
    obtain ⟨v, hv, o⟩ := h1 i d hi hd
    generalize fp i = fpi at o ha
    cases o with
    | lst h r2 => cases List.mem_singleton.1 ha; rw [h]; exact ⟨rfl, by simp⟩
    | dic h r2 => cases List.mem_singleton.1 ha; rw [h]; exact ⟨rfl, by simp⟩
    | ins h r2 => cases List.mem_singleton.1 ha; rw [h]; exact ⟨rfl, by simp⟩
    | tab h => obtain ⟨ps, h, _⟩ := h; cases List.mem_singleton.1 ha; rw [h]; exact ⟨rfl, by simp⟩
    | obj h =>
      rcases h.all a ha with rfl | rfl | ⟨j, e, hj, he, rfl⟩
      · rw [h.ob]; exact ⟨rfl, by simp⟩
      · rw [h.dxo]; exact ⟨rfl, by simp⟩
      · obtain ⟨w, hw, rw'⟩ := h.fld j e he
        rw [if_pos hj] at rw'
        obtain ⟨oc, hk, _⟩ := rw'
        cases oc with
        | lst h2 r2 => rw [h2]; exact ⟨rfl, by simp⟩
        | dic h2 r2 => rw [h2]; exact ⟨rfl, by simp⟩
  · intro a ha
    show (if _ then _ else _) = _
    rw [if_neg ha]
theorem less_grow {F F1 H F2 H2 : Hp} {A : Addr → Prop} (hA : ∀ a, A a → F a = none ∧ H a ≠ none) (e : Ex F F1) (hn : ∀ a, A a → F1 a ≠ none) (hs : ∀ a, ¬ A a → F1 a = F a) (g : Grow F1 H F2 H2) : Grow F H (less F2 A) H2 where
  ff := fun a o h => by
    have na : ¬ A a := fun ha => by rw [(hA a ha).1] at h; cases h
    unfold less; rw [if_neg na]; exact g.ff a o (e a o h)
  fh := fun a o h => by
    unfold less at h
    split at h
    · cases h
    · exact g.fh a o h
  hh := g.hh
  nw := fun a h => by
    unfold less at h
    split at h
    · exact absurd rfl h
    · rename_i na
      rcases g.nw a h with h1 | h1
      · rw [hs a na] at h1; exact .inl h1
      · exact .inr h1
def lfo (g : Env → Rs D) : Env → RE D := fun δ => match g δ with
  | some (.ok d) => if flat d = true then some (.ok (d, δ)) else none
  | _ => none
def lfT (g : Env → Rs Bool) : Env → RE Bool := fun δ => match g δ with
  | some (.ok d) => some (.ok (d, δ))
  | _ => none
theorem je_o {X : Cx} {own : List Nat} {e : Expr} {g : Env → Rs D} (h : JP X e g) : JE X own e (lfo g) := ⟨fun {P F0 H0 σ F H δ W Q o} r tk hg hP => by
  unfold lfo at hg
  cases e0 : g δ with
  | none => rw [e0] at hg; cases hg
  | some y => cases y with
    | error x => rw [e0] at hg; cases hg
    | ok d =>
      rw [e0] at hg
      dsimp only at hg
      split at hg
      · rename_i hf
        cases hg
        obtain ⟨A, hA, F1, ef, rp, hn, hs⟩ := r.frz
        refine h.run rp tk e0 fun v F2 H2 g2 rv => ?_
        have g3 := less_grow hA ef (fun a ha => (hn a ha).2) hs g2
        exact hP v _ H2 (r.grow g3) g3.ff (unfz (fun a ha => by
          have h1 := (hn a ha).2
          have h2 := (hn a ha).1
          cases e1 : F1 a with
          | none => exact absurd e1 h1
          | some o => rw [e1] at h2; rw [g2.ff a o e1]; exact h2) rv hf)
      · cases hg⟩
theorem jte_o {X : Cx} {own : List Nat} {e : Expr} {g : Env → Rs Bool} (h : JT X e g) : JTE X own e (lfT g) := ⟨fun {P F0 H0 σ F H δ W Q o} r tk hg hP => by
  unfold lfT at hg
  cases e0 : g δ with
  | none => rw [e0] at hg; cases hg
  | some y => cases y with
    | error x => rw [e0] at hg; cases hg
    | ok d =>
      rw [e0] at hg
      cases hg
      obtain ⟨A, hA, F1, ef, rp, hn, hs⟩ := r.frz
      refine h.run rp tk e0 fun v F2 H2 g2 rv => ?_
      have g3 := less_grow hA ef (fun a ha => (hn a ha).2) hs g2
      exact hP v _ H2 (r.grow g3) g3.ff rv⟩
def spar2 (i j : Nat) (f : Env → RE (List D)) : Env → RO := fun δ => bindE (f δ) fun ds δ' => match ds with
  | [a, b] => some (.ok (.nx, (δ'.set i (some a)).set j (some b)))
  | _ => none
theorem js_par2 {X : Cx} {own : List Nat} (i j : Nat) {x y : Str} {a b : Expr} {px py pt pos : Pos} {kt k2 pt2} {f : Env → RE (List D)} (hc : X.calm = true) (hN : X.N.Nodup) (ha : JAE X own [a, b] f) (hi : X.N[i]? = some x := by rfl) (hj : X.N[j]? = some y := by rfl) (hij : i ≠ j := by decide)
    (hx : X.env.scope.names.lookup x = some .local := by rfl) (hy : X.env.scope.names.lookup y = some .local := by rfl) (oi : i ∉ own := by decide) (oj : j ∉ own := by decide)
    (hw : swappedStores [.Tuple [.Name x px, .Name y py] kt pt] (.Tuple [a, b] k2 pt2) X.env = pure (some [x, y]) := by rfl)
    (hs : swapsWithSole [.Tuple [.Name x px, .Name y py] kt pt] (.Tuple [a, b] k2 pt2) pos.line X.env = pure false := by rfl) :
    JS X own (.Assign [.Tuple [.Name x px, .Name y py] kt pt] (.Tuple [a, b] k2 pt2) pos) (spar2 i j f) :=
  ⟨fun r tk hg hP => ws_of (ps_par hc hN hi hj hij hx hy pa_wa hw hs) (se_bind ha r tk hg hP fun ds vs δ1 F1 H1 h1 e1 rx r1 P1 => by
    rcases ds with _ | ⟨d1, _ | ⟨d2, _ | ⟨d3, ds⟩⟩⟩ <;> (try (cases h1; done))
    obtain ⟨w, u, rfl, ra, rb⟩ := reps2 rx
    cases h1
    exact ⟨w, u, rfl, P1 _ F1 H1 ((r1.set oi ra).set oj rb) (Ex.refl _)⟩)⟩
def spar3 (i j l : Nat) (f : Env → RE (List D)) : Env → RO := fun δ => bindE (f δ) fun ds δ' => match ds with
  | [a, b, c] => some (.ok (.nx, ((δ'.set i (some a)).set j (some b)).set l (some c)))
  | _ => none
def sasg (g : D → Env → Option Env) (f : Env → RE D) : Env → RO := fun δ => bindE (f δ) fun d δ' => (g d δ').map fun δ2 => .ok (.nx, δ2)
theorem js_asg {X : Cx} {own : List Nat} {tg e : Expr} {pos : Pos} {f : Env → RE D} {g : D → Env → Option Env} {is : List Nat} (hg : JG X own tg is g) (h : JE X own e f) (hs : swapsWithSole [tg] e pos.line X.env = pure false := by rfl) (hw : swappedStores [tg] e X.env = pure none := by rfl) (h1 : (assignEach [tg] X.env).map (·.2) = [assign tg X.env] := by rfl) :
    JS X own (.Assign [tg] e pos) (sasg g f) := ⟨fun r tk hh hP => ws_of (ps_asg pe_we pg_wg hs hw h1) (se_bind h r tk hh hP fun x v δ1 F1 H1 h1 e1 rx r1 P1 => by
    simp only [Option.map_eq_some_iff] at h1
    obtain ⟨δ2, h2, rfl⟩ := h1
    exact hg.run r1 rx h2 fun σ' F' H' r2 x2 _ => P1 σ' F' H' r2 x2)⟩
def enil : Env → RE (List D) := fun δ => some (.ok ([], δ))
def econs (a : Env → RE D) (r : Env → RE (List D)) : Env → RE (List D) := fun δ => bindE (a δ) fun x δ1 => bindE (r δ1) fun xs δ2 => some (.ok (x :: xs, δ2))
theorem PostE.fin {α β : Type} {rel : Hp → β → α → Prop} {X : Cx} {f : Fr} {F : Hp} {σ : L2.St} {W : WX} {Q : β → Hp → Prop} {d : α} {δ : Env} {o : Except (XD × Env) (α × Env)} (h : some (.ok (d, δ)) = some o) (p : PostE rel X f F σ W o Q) : ∀ v F' H', RSf X f F' σ H' δ → Ex F F' → rel F' v d → Q v H' := by
  cases h; exact p
section
variable {X : Cx} {own : List Nat} {e a b : Expr} {es : List Expr} {pos : Pos}
theorem jae_nil : JAE X own [] enil := ⟨fun r tk hg hP => wa_of pa_nil (hP.fin hg _ _ _ r (Ex.refl _) .nil)⟩
theorem jae_cons {f : Env → RE D} {k : Env → RE (List D)} (ha : JE X own e f) (hr : JAE X own es k) (hs : starEach (e :: es) X.env = (false, eval e X.env) :: starEach es X.env := by rfl) : JAE X own (e :: es) (econs f k) := ⟨fun {P F0 H0 σ F H δ W Q o} r tk hg hP =>
  wa_of (pa_cons pe_we pa_wa hs) (js_bind (w := WE X e) ha r tk hg hP fun x vx δ1 F1 H1 h1 e1 rx r1 P1 => js_bind (w := WA X es) hr r1 tk h1 P1 fun xs vxs δ2 F2 H2 h2 e2 rxs r2 P2 => P2.fin h2 _ F2 H2 r2 (Ex.refl _) (.cons (rx.mono e2) rxs))⟩
theorem RS.new {K : Frag} {own : List Nat} {P : Pm} {F0 H0 F : Hp} {σ : L2.St} {H : Hp} {δ : Env} {p : Addr} {o : HO} (r : RS K own P F0 H0 F σ H δ) (hp : H p = none) : RS K own P F0 H0 (upd F p o) σ (upd H p o) δ := r.grow (.new r.fh hp)
def etup (a : Env → RE (List D)) : Env → RE D := fun δ => bindE (a δ) fun xs δ' => if xs.length ≤ sizeLine then some (.ok (.tup xs, δ')) else none
def elst (a : Env → RE (List D)) : Env → RE D := fun δ => bindE (a δ) fun xs δ' => if xs.length ≤ sizeLine then some (.ok (.lst xs, δ')) else none
theorem je_tup {x1} {f : Env → RE (List D)} (ha : JAE X own es f) : JE X own (.Tuple es x1 pos) (etup f) := ⟨fun {P F0 H0 σ F H δ W Q o} r tk hg hP =>
  we_of (pe_tupP pa_wa) (js_bind (w := WA X es) ha r tk hg hP fun xs vs δ1 F1 H1 h1 e1 rx r1 P1 => by
    by_cases hl : xs.length ≤ sizeLine
    · rw [if_pos hl] at h1
      exact ⟨by rw [Rep.len rx]; exact hl, fun p ob hp hpl => P1.fin h1 _ _ _ (r1.new hp) (Ex.new (none_back r1.fh hp)) (.tup (SqP.of upd_same hpl) (rx.mono (Ex.new (none_back r1.fh hp))))⟩
    · rw [if_neg hl] at h1; cases h1)⟩
theorem je_lst {f : Env → RE (List D)} (ha : JAE X own es f) : JE X own (.List es pos) (elst f) := ⟨fun {P F0 H0 σ F H δ W Q o} r tk hg hP =>
  we_of (pe_lst pa_wa) (js_bind (w := WA X es) ha r tk hg hP fun xs vs δ1 F1 H1 h1 e1 rx r1 P1 => by
    by_cases hl : xs.length ≤ sizeLine
    · rw [if_pos hl] at h1
      exact ⟨by rw [Rep.len rx]; exact hl, fun p hp => P1.fin h1 _ _ _ (r1.new hp) (Ex.new (none_back r1.fh hp)) (.lst upd_same (rx.mono (Ex.new (none_back r1.fh hp))))⟩
    · rw [if_neg hl] at h1; cases h1)⟩
def eop2 (g : D → D → Option D) (a b : Env → RE D) : Env → RE D := fun δ => bindE (a δ) fun x δ1 => bindE (b δ1) fun y δ2 => (g x y).map fun z => .ok (z, δ2)
theorem je_op {op : Operator} {rr : R2} {g : D → D → Option D} {fa fb : Env → RE D} (ho : OpR X (binaryOp op) rr) (hr : OpD X.K rr g) (ha : JE X own a fa) (hb : JE X own b fb) : JE X own (.BinOp a op b pos) (eop2 g fa fb) := ⟨fun {P F0 H0 σ F H δ W Q o} r tk hg hP =>
  we_of (pe_op ho pe_we pe_we) (js_bind (w := WE X a) ha r tk hg hP fun x vx δ1 F1 H1 h1 e1 rx r1 P1 => js_bind (w := WE X b) hb r1 tk h1 P1 fun y vy δ2 F2 H2 h2 e2 ry r2 P2 => by
    simp only [Option.map_eq_some_iff] at h2
    obtain ⟨z, hz, rfl⟩ := h2
    exact hr r2.fh (rx.mono e2) ry hz _ fun v F' H' g rv => P2 v F' H' (r2.grow g) g.ff rv)⟩
def etb (g : Env → RE D) : Env → RE Bool := fun δ => bindE (g δ) fun x δ' => (asB x).map fun b => .ok (b, δ')
theorem jte_cmp {op : CmpOp} {rr : R2} {g : D → D → Option D} {fa fb : Env → RE D} (ho : OpR X (compareOp op) rr) (hr : OpD X.K rr g) (ha : JE X own a fa) (hb : JE X own b fb) (hm : behindInMarks op b = false := by first | exact nomark _ | with_unfolding_all rfl) : JTE X own (.Compare a [op] [b] pos) (etb (eop2 g fa fb)) := ⟨fun {P F0 H0 σ F H δ W Q o} r tk hg hP => by
  have hg' : bindE (fa δ) (fun x δ1 => bindE (fb δ1) fun y δ2 => bindE ((g x y).map fun z => (.ok (z, δ2) : Except (XD × Env) (D × Env))) fun x δ' => (asB x).map fun b => .ok (b, δ')) = some o := by
    rw [← hg]; unfold etb eop2
    cases fa δ with
    | none => rfl
    | some y => cases y with
      | error x => rfl
      | ok p => dsimp only [bindE]; cases fb p.2 with
        | none => rfl
        | some y => cases y <;> rfl
  exact wt_of (pt_cmpR ho pe_we pe_we hm) (js_bind (w := WE X a) ha r tk hg' hP fun x vx δ1 F1 H1 h1 e1 rx r1 P1 => js_bind (w := WE X b) hb r1 tk h1 P1 fun y vy δ2 F2 H2 h2 e2 ry r2 P2 => by
    cases e : g x y with
    | none => rw [e] at h2; cases h2
    | some z =>
      rw [e] at h2
      simp only [Option.map_some, bindE, Option.map_eq_some_iff] at h2
      obtain ⟨q, hq, rfl⟩ := h2
      cases asB_some hq
      refine hr r2.fh (rx.mono e2) ry e _ fun v F' H' g3 rv => ?_
      cases rv
      exact ⟨q, rfl, P2 q F' H' (r2.grow g3) g3.ff rfl⟩)⟩
def eif (t : Env → RE Bool) (a b : Env → RE D) : Env → RE D := fun δ => bindE (t δ) fun k δ' => if k = true then a δ' else b δ'
theorem je_if {q : Expr} {t : Env → RE Bool} {f g : Env → RE D} (hq : JTE X own q t) (ha : JE X own a f) (hb : JE X own b g) : JE X own (.IfExp q a b pos) (eif t f g) := ⟨fun {P F0 H0 σ F H δ W Q o} r tk hg hP =>
  we_of (pe_ifExp pt_wt pe_we pe_we) (js_bind (w := WT X q) hq r tk hg hP fun k v δ1 F1 H1 h1 e1 rx r1 P1 => by
    cases rx
    cases k with
    | true => rw [if_pos rfl] at *; exact ha.run r1 tk h1 P1
    | false => rw [if_neg Bool.false_ne_true] at *; exact hb.run r1 tk h1 P1)⟩
def ecall (m : List D → Rs D) (a : Env → RE (List D)) : Env → RE D := fun δ => bindE (a δ) fun xs δ' => match m xs with
  | none => none
  | some (.ok d) => some (.ok (d, δ'))
  | some (.error x) => some (.error (x, δ'))
theorem je_call {k : Nat} {x : Str} {p : Pos} {m : List D → Rs D} {f : Env → RE (List D)} (hf : Fn X.prog X.w X.K X.mg X.base k x m) (hr : Room k X.A) (ha : JAE X own (e :: es) f) (hg : Gl X x := by rfl)
    (hdb : (x == ("__debug__" : Str)) = false := by decide) (he : starEach (e :: es) X.env = (false, eval e X.env) :: starEach es X.env := by rfl) (hpl : (backTo pos (starEach es X.env)).any (·.1) = false := by rfl) :
    JE X own (.Call (.Name x p) (e :: es) [] pos) (ecall m f) := ⟨fun {P F0 H0 σ F H δ W Q o} r tk hg' hP => by
  obtain ⟨fa, fd, ps, F, hm, hk, hb⟩ := hf.at_
  refine we_of (pe_callS F hr hg hm hk hb (fun σ => passAt tk σ) pa_wa hdb he hpl) (js_bind (w := WA X (e :: es)) ha r tk hg' hP fun xs vs δ1 F1 H1 h1 e1 rx r1 P1 => ?_)
  cases em : m xs with
  | none => rw [em] at h1; cases h1
  | some y =>
    rw [em] at h1
    cases y with
    | ok d => cases h1; exact ⟨F1, xs, _, r1.fh, rx, em, fun v F' H' g rv => P1 v F' H' (r1.grow g) g.ff rv⟩
    | error z => cases h1; exact ⟨F1, xs, _, r1.fh, rx, em, fun c dd F' H' g rv => P1 c dd F' H' (r1.grow g) g.ff rv⟩⟩
end
end PD
end
section
namespace PD
open PySem L2
structure Chn (P : Pm) (F0 H0 : Hp) (P' : Pm) (F1 H1 : Hp) : Prop where
  ff : Ex F0 F1
  hh : ∀ a o, ¬ P a → H0 a = some o → H1 a = some o
  dm : ∀ a, H0 a ≠ none → H1 a ≠ none
  nw : ∀ a, F1 a ≠ none → F0 a ≠ none ∨ H0 a = none
  pp : ∀ a, P' a → H0 a = none ∨ P a
  bx : ∀ a, P.bx a → P'.bx a
  rt : ∀ a, P.rt a → P'.rt a
  bh : ∀ a, P.bx a → H0 a ≠ none
section
variable {K : Frag} {own : List Nat} {P P' : Pm} {F0 H0 F1 H1 F : Hp} {σ : L2.St} {H : Hp} {δ : Env}
theorem RS.back (r : RS K own P' F1 H1 F σ H δ) (c : Chn P F0 H0 P' F1 H1) : RS K own P F0 H0 F σ H δ where
  ff := c.ff.trans r.ff
  fh := r.fh
  hh := fun a o p h => r.hh a o (fun q => (c.pp a q).elim (fun e => by rw [e] at h; cases h) p) (c.hh a o p h)
  dm := fun a h => r.dm a (c.dm a h)
  nw := fun a h => (r.nw a h).elim (c.nw a) fun e => .inr (by
    cases e0 : H0 a with
    | none => rfl
    | some o => exact absurd e (c.dm a (by rw [e0]; simp)))
  ln := r.ln
  par := fun a h => r.par a (c.rt a h)
  bxh := c.bh
  val := r.val
  own := by
    obtain ⟨fp, h1, h2, h3⟩ := r.own
    refine ⟨fp, h1, fun i a ha => ?_, h3⟩
    obtain ⟨a1, a2, a3⟩ := h2 i a ha
    refine ⟨a1, a2, a3.elim (fun e => .inl ?_) fun q => (c.pp a q.1).imp id fun z => ⟨z, fun y => q.2 (c.bx a y)⟩⟩
    cases e0 : H0 a with
    | none => rfl
    | some o => exact absurd e (c.dm a (by rw [e0]; simp))
theorem RS.mut {Dd : Addr} {o : HO} (r : RS K own P F0 H0 F σ H δ) (hD : H0 Dd ≠ none) (nP : ¬ P Dd) (nF : F Dd = none) : ∃ P' : Pm, RS K own P' F (upd H Dd o) F σ (upd H Dd o) δ ∧ ¬ P' Dd ∧ (∀ a, P' a → H0 a = none ∨ P a) ∧ P'.bx = P.bx ∧ P'.rt = P.rt := by
  obtain ⟨fp, h1, h2, h3⟩ := r.own
  have bxi : ∀ i a, a ∈ fp i → P.bx a → i = 0 ∨ i = 40 := fun i a ha hb => (h2 i a ha).2.2.elim (fun e => absurd e (r.bxh a hb)) fun q => q.2 hb
  have nD : ∀ i, Dd ∉ fp i := fun i hi => (h2 i Dd hi).2.2.elim (fun e => hD e) fun q => nP q.1
  have ne : ∀ i a, a ∈ fp i → a ≠ Dd := fun i a ha e => nD i (e ▸ ha)
  refine ⟨⟨fun a => ∃ i, a ∈ fp i, P.bx, P.rt⟩, ?_, fun ⟨i, hi⟩ => nD i hi, fun a ⟨i, hi⟩ => (h2 i a hi).2.2.imp id And.left, rfl, rfl⟩
  exact {
    ff := Ex.refl _
    fh := fun a q e => by
      have : a ≠ Dd := fun x => by rw [x, nF] at e; cases e
      rw [upd_ne this]; exact r.fh a q e
    hh := fun _ _ _ h => h
    dm := fun _ h => h
    nw := fun _ h => .inl h
    ln := r.ln
    par := r.par
    bxh := fun a h => by
      by_cases z : a = Dd
      · rw [z, upd_same]; simp
      · rw [upd_ne z]; exact r.dm a (r.bxh a h)
    val := r.val
    own := ⟨fp, fun i d hi hd => by
      obtain ⟨v, hv, o⟩ := h1 i d hi hd
      exact ⟨v, hv, o.keep (Ex.refl _) fun a ha q e => by rw [upd_ne (ne i a ha)]; exact e⟩, fun i a ha => ⟨(h2 i a ha).1, by rw [upd_ne (ne i a ha)]; exact (h2 i a ha).2.1, .inr ⟨⟨i, ha⟩, bxi i a ha⟩⟩, h3⟩ }
theorem RS.chn (r : RS K own P F0 H0 F σ H δ) {Dd : Addr} {o : HO} {P' : Pm} (h0 : H0 Dd = none) (pp : ∀ a, P' a → H0 a = none ∨ P a) (bx : ∀ a, P.bx a → P'.bx a) (rt : ∀ a, P.rt a → P'.rt a) : Chn P F0 H0 P' F (upd H Dd o) where
  ff := r.ff
  hh := fun a q p h => by
    have : a ≠ Dd := fun e => by rw [e, h0] at h; cases h
    rw [upd_ne this]; exact r.hh a q p h
  dm := fun a h => by
    have : a ≠ Dd := fun e => by rw [e] at h; exact h h0
    rw [upd_ne this]; exact r.dm a h
  nw := r.nw
  pp := pp
  bx := bx
  rt := rt
  bh := r.bxh
structure LS (K : Frag) (own : List Nat) (P : Pm) (F0 H0 : Hp) (Dd : Addr) (ob : HO) (F : Hp) (σ : L2.St) (H : Hp) (δ : Env) : Prop where
  r : ∃ P' F1 H1, RS K own P' F1 H1 F σ H δ ∧ Chn P F0 H0 P' F1 H1 ∧ H1 Dd = some ob ∧ ¬ P' Dd ∧ F1 Dd = none
  h0 : H0 Dd = none
theorem LS.nF {Dd : Addr} {ob : HO} (l : LS K own P F0 H0 Dd ob F σ H δ) : F Dd = none := by
  obtain ⟨P', F1, H1, r, c, e, n, f⟩ := l.r
  cases q : F Dd with
  | none => rfl
  | some u => exact absurd (r.nw Dd (by rw [q]; simp)) (by rintro (h | h); exact h f; rw [e] at h; cases h)
theorem LS.at {Dd : Addr} {ob : HO} (l : LS K own P F0 H0 Dd ob F σ H δ) : H Dd = some ob := by
  obtain ⟨P', F1, H1, r, c, e, n, nf⟩ := l.r
  exact r.hh Dd _ n e
theorem LS.rs {Dd : Addr} {ob : HO} (l : LS K own P F0 H0 Dd ob F σ H δ) : RS K own P F0 H0 F σ H δ := by
  obtain ⟨P', F1, H1, r, c, e, n, nf⟩ := l.r
  exact r.back c
theorem LS.start {Dd : Addr} {ob : HO} (r : RS K own P F0 H0 F σ H δ) (hn : H Dd = none) : LS K own P F0 H0 Dd ob F σ (upd H Dd ob) δ := by
  have h0 : H0 Dd = none := by
    cases e : H0 Dd with
    | none => rfl
    | some o => exact absurd hn (r.dm Dd (by rw [e]; simp))
  obtain ⟨fp, h1, h2, h3⟩ := r.own
  have bxi : ∀ i a, a ∈ fp i → P.bx a → i = 0 ∨ i = 40 := fun i a ha hb => (h2 i a ha).2.2.elim (fun e => absurd e (r.bxh a hb)) fun q => q.2 hb
  have ne : ∀ i a, a ∈ fp i → a ≠ Dd := fun i a ha e => (h2 i a ha).2.1 (e ▸ hn)
  refine ⟨⟨⟨fun a => ∃ i, a ∈ fp i, P.bx, P.rt⟩, F, upd H Dd ob, ?_, r.chn h0 (fun a ⟨i, hi⟩ => (h2 i a hi).2.2.imp id And.left) (fun _ h => h) (fun _ h => h), upd_same, fun ⟨i, hi⟩ => ne i _ hi rfl, none_back r.fh hn⟩, h0⟩
  exact {
    ff := Ex.refl _
    fh := r.fh.trans (Ex.new hn)
    hh := fun _ _ _ h => h
    dm := fun _ h => h
    nw := fun _ h => .inl h
    ln := r.ln
    par := r.par
    bxh := fun a h => by
      by_cases z : a = Dd
      · rw [z, upd_same]; simp
      · rw [upd_ne z]; exact r.dm a (r.bxh a h)
    val := r.val
    own := ⟨fp, fun i d hi hd => by
      obtain ⟨v, hv, o⟩ := h1 i d hi hd
      exact ⟨v, hv, o.keep (Ex.refl _) fun a ha q e => by rw [upd_ne (ne i a ha)]; exact e⟩, fun i a ha => ⟨(h2 i a ha).1, by rw [upd_ne (ne i a ha)]; exact (h2 i a ha).2.1, .inr ⟨⟨i, ha⟩, bxi i a ha⟩⟩, h3⟩ }
theorem Chn.trans {P2 : Pm} {F2 H2 : Hp} (a : Chn P F0 H0 P' F1 H1) (b : Chn P' F1 H1 P2 F2 H2) : Chn P F0 H0 P2 F2 H2 where
  ff := a.ff.trans b.ff
  hh := fun x o p h => b.hh x o (fun q => (a.pp x q).elim (fun e => by rw [e] at h; cases h) p) (a.hh x o p h)
  dm := fun x h => b.dm x (a.dm x h)
  nw := fun x h => (b.nw x h).elim (a.nw x) fun e => .inr (by
    cases e0 : H0 x with
    | none => rfl
    | some o => exact absurd e (a.dm x (by rw [e0]; simp)))
  pp := fun x h => (b.pp x h).elim (fun e => .inl (by
    cases e0 : H0 x with
    | none => rfl
    | some o => exact absurd e (a.dm x (by rw [e0]; simp)))) (a.pp x)
  bx := fun x h => b.bx x (a.bx x h)
  rt := fun x h => b.rt x (a.rt x h)
  bh := a.bh
theorem LS.app {Dd : Addr} {ob ob' : HO} (l : LS K own P F0 H0 Dd ob F σ H δ) : LS K own P F0 H0 Dd ob' F σ (upd H Dd ob') δ := by
  obtain ⟨P', F1, H1, r, c, e, n, nf⟩ := l.r
  obtain ⟨P2, r2, n2, p2, b2, t2⟩ := r.mut (o := ob') (by rw [e]; simp) n l.nF
  refine ⟨⟨P2, F, _, r2, ?_, upd_same, n2, l.nF⟩, l.h0⟩
  refine { ff := c.ff.trans r.ff, hh := fun a q p h => ?_, dm := fun a h => ?_, nw := fun a h => (l.rs).nw a h, pp := fun a h => ?_, bx := fun a h => by rw [b2]; exact c.bx a h, rt := fun a h => by rw [t2]; exact c.rt a h, bh := c.bh }
  · have : a ≠ Dd := fun e => by rw [e, l.h0] at h; cases h
    rw [upd_ne this]; exact (l.rs).hh a q p h
  · have : a ≠ Dd := fun e => by rw [e] at h; exact h l.h0
    rw [upd_ne this]; exact (l.rs).dm a h
  · exact (p2 a h).elim (fun e => .inl (by
      cases e0 : H0 a with
      | none => rfl
      | some o => exact absurd e (c.dm a (by rw [e0]; simp)))) (c.pp a)
end
def wipeD (vs : List Nat) (δ : Env) : Env := mask vs δ
theorem RS.wipe {K : Frag} {own vs : List Nat} {P : Pm} {F0 H0 F : Hp} {σ : L2.St} {H : Hp} {δ : Env} (r : RS K own P F0 H0 F σ H δ) (hv : ∀ i, i ∈ vs → i ∉ own) : RS K own P F0 H0 F (L2.wipe σ vs) H (wipeD vs δ) where
  ff := r.ff
  fh := r.fh
  hh := r.hh
  dm := r.dm
  nw := r.nw
  ln := by rw [wipe_length, wipeD, mask_len, r.ln]
  bxh := r.bxh
  par := fun a h => ⟨(r.par a h).1, by rw [wipe_get, if_neg (fun q => hv 0 q (r.par a h).1)]; exact (r.par a h).2⟩
  val := fun i d hi h => by
    obtain ⟨a, b⟩ := mask_get h
    obtain ⟨v, hv, rv⟩ := r.val i d hi b
    exact ⟨v, by rw [wipe_get, if_neg a]; exact hv, rv⟩
  own := by
    obtain ⟨fp, h1, h2⟩ := r.own
    refine ⟨fp, fun i d hi h => ?_, h2⟩
    obtain ⟨a, b⟩ := mask_get h
    obtain ⟨v, hv, o⟩ := h1 i d hi b
    exact ⟨v, by rw [wipe_get, if_neg a]; exact hv, o⟩
theorem RS.unwipe {K : Frag} {own vs : List Nat} {P : Pm} {F0 H0 F : Hp} {σ : L2.St} {H : Hp} {δ : Env} (r : RS K own P F0 H0 F (L2.wipe σ vs) H δ) : RS K own P F0 H0 F σ H δ where
  ff := r.ff
  fh := r.fh
  hh := r.hh
  dm := r.dm
  nw := r.nw
  ln := by rw [← r.ln, wipe_length]
  bxh := r.bxh
  par := fun a h => ⟨(r.par a h).1, (wipe_some (r.par a h).2).1⟩
  val := fun i d hi h => by
    obtain ⟨v, hv, rv⟩ := r.val i d hi h
    exact ⟨v, (wipe_some hv).1, rv⟩
  own := by
    obtain ⟨fp, h1, h2⟩ := r.own
    refine ⟨fp, fun i d hi h => ?_, h2⟩
    obtain ⟨v, hv, o⟩ := h1 i d hi h
    exact ⟨v, (wipe_some hv).1, o⟩
theorem takes_false {X : Cx} {W : WX} (h : ∀ c d σ H, ¬ W c d σ H) : Takes X W := fun u s' ⟨_, _, _, _, _, _, _, _, _, _, _, _, _, _, _, _, w⟩ => absurd w (h _ _ _ _)
def scomp (vs : List Nat) (g : D → Env → Option Env) (t : Env → RE Bool) (e : Env → RE D) : List D → List D → Env → RE (List D)
  | [], acc, δ => some (.ok (acc, δ))
  | d :: ds, acc, δ => match g d δ with
    | none => none
    | some δ1 => match t δ1 with
      | some (.ok (true, δ2)) => (match e δ2 with
        | some (.ok (y, δ3)) => if acc.length < sizeLine then scomp vs g t e ds (acc ++ [y]) (wipeD vs δ3) else none
        | _ => none)
      | some (.ok (false, δ2)) => scomp vs g t e ds acc (wipeD vs δ2)
      | _ => none
def tyes : Env → RE Bool := fun δ => some (.ok (true, δ))
section
variable {X : Cx} {own : List Nat} {elt tg iter : Expr} {ifs : List Expr} {scope : Scope} {ow : List (Str × Nat)} {pos : Pos} {f : Env → RE (List D)} {g : D → Env → Option Env} {is : List Nat} {t : Env → RE Bool} {e : Env → RE D}
def WTs (X : Cx) (ifs : List Expr) (σ : L2.St) (H : Hp) (Q : Bool → Hp → Prop) : Prop := ∀ pins s, Inv X pins σ H s → wpAny (model X.prog X.w) X.A (forIn ifs true fun c r => if r = true then do let ok ← isTrue c X.env (eval c X.env); pure (ForInStep.yield ok) else pure (ForInStep.yield r)) (TP X pins σ Q) X.xe s
theorem wts_of {X : Cx} {ifs : List Expr} {t : TT} {σ : L2.St} {H : Hp} {Q : Bool → Hp → Prop} (h : PTs X ifs t) (q : t σ H Q) : WTs X ifs σ H Q := fun pins s I => h.run pins s σ H Q I q
abbrev JTs (X : Cx) (own : List Nat) (ifs : List Expr) (g : Env → RE Bool) : Prop := JS0 X own (WTs X ifs) relT g
theorem jts_nil {X : Cx} {own : List Nat} : JTs X own [] tyes := ⟨fun r tk hg hP => wts_of pts_nil (hP.fin hg _ _ _ r (Ex.refl _) rfl)⟩
theorem jts_one {X : Cx} {own : List Nat} {q : Expr} {t : Env → RE Bool} (h : JTE X own q t) : JTs X own [q] t := ⟨fun r tk hg hP => wts_of (pts_one pt_wt) (h.run r tk hg hP)⟩
abbrev bG (X : Cx) (scope : Scope) (tg : Expr) : TG := fun v σ H Q => ∀ (s : Shared) (Hb : Hp) (C : Addr) (cl : List (Str × Addr)) (fp : List Addr), WG (X.blk s Hb scope (compEnvC scope cl C X.env) fp) tg v σ H Q
abbrev bT (X : Cx) (scope : Scope) (ifs : List Expr) : TT := fun σ H Q => ∀ (s : Shared) (Hb : Hp) (C : Addr) (cl : List (Str × Addr)) (fp : List Addr), WTs (X.blk s Hb scope (compEnvC scope cl C X.env) fp) ifs σ H Q
abbrev bE (X : Cx) (scope : Scope) (e : Expr) : TE := fun σ H Q => ∀ (s : Shared) (Hb : Hp) (C : Addr) (cl : List (Str × Addr)) (fp : List Addr), WE (X.blk s Hb scope (compEnvC scope cl C X.env) fp) e σ H Q
theorem lc_read {σ : L2.St} {P : Pm} {F0 H0 F H : Hp} {δ : Env} {W : WX} {o : Except (XD × Env) (List D × Env)} {Q : VK} (hi : JI X own tg iter f)
    (hg : ∀ (s : Shared) (Hb : Hp) (C : Addr) (cl : List (Str × Addr)) (fp : List Addr), JG (X.blk s Hb scope (compEnvC scope cl C X.env) fp) own tg is g)
    (ht : ∀ (s : Shared) (Hb : Hp) (C : Addr) (cl : List (Str × Addr)) (fp : List Addr), JTs (X.blk s Hb scope (compEnvC scope cl C X.env) fp) own ifs t)
    (he : ∀ (s : Shared) (Hb : Hp) (C : Addr) (cl : List (Str × Addr)) (fp : List Addr), JE (X.blk s Hb scope (compEnvC scope cl C X.env) fp) own elt e)
    (hvs : (ow.map (·.2)).all (fun i => !own.contains i) = true) (his : is.all (fun i => (ow.map (·.2)).contains i) = true)
    (r : RSf X ⟨own, P, F0, H0⟩ F σ H δ) (tk : Takes X W) (hh : bindE (f δ) (fun ds δ' => scomp (ow.map (·.2)) g t e ds [] (wipeD (ow.map (·.2)) δ')) = some o)
    (hx : ∀ x δ', o = .error (x, δ') → ∀ cls dd F' H', RSf X ⟨own, P, F0, H0⟩ F' σ H' δ' → Ex F F' → RepX X.K F' cls dd x → W cls dd σ H')
    (hP : ∀ ds δ', o = .ok (ds, δ') → ∀ Dd vs F' H', LS X.K own P F0 H0 Dd (.lst vs) F' σ H' δ' → Ex F F' → Reps X.K F' vs ds → Q (.ref Dd) H') :
    tLc (WI X tg iter) (bG X scope tg) (bT X scope ifs) (bE X scope elt) (ow.map (·.2)) σ H Q := by
  have hv : ∀ i, i ∈ ow.map (·.2) → i ∉ own := fun i hi hc => by
    have := List.all_eq_true.1 hvs i hi
    simp at this
    exact this hc
  have hi' : ∀ i, i ∈ is → i ∈ ow.map (·.2) := fun i h => by
    have := List.all_eq_true.1 his i h
    simpa using this
  cases e0 : f δ with
  | none => rw [e0] at hh; cases hh
  | some y =>
    rw [e0] at hh
    rcases y with ⟨x, δ1⟩ | ⟨ds, δ1⟩
    · cases hh; exact hi.run r tk e0 (hx x δ1 rfl)
    · simp only [bindE] at hh
      refine hi.run r tk e0 fun J F1 H1 r1 e1 src => fun Dd hD => ?_
      refine ⟨fun i m Hc => ∃ F' δ' acc vs, LS X.K own P F0 H0 Dd (.lst vs) F' (wipe σ (ow.map (·.2))) Hc δ' ∧ Ex F1 F' ∧ Reps X.K F' vs acc ∧ i + m = ds.length ∧ scomp (ow.map (·.2)) g t e (ds.drop i) acc δ' = some o, ⟨ds.length, F1, _, [], [], .start (r1.wipe hv) hD, Ex.refl _, .nil, Nat.zero_add _, hh⟩, ?_⟩
      rintro i m H2 ⟨F2, δ2, acc, vs, l2, e2, ra, hm, h2⟩
      cases hd : ds[i]? with
      | none =>
        have hl : ds.length ≤ i := List.getElem?_eq_none_iff.1 hd
        rw [List.drop_of_length_le hl] at h2
        cases h2
        obtain ⟨⟨P', Fb, Hb, rr, cc, ee, nn, nf⟩, nh⟩ := l2
        exact .inl ⟨src.stop e2 rr.fh hl, hP acc δ2 rfl Dd vs F2 H2 ⟨⟨P', Fb, Hb, rr.unwipe, cc, ee, nn, nf⟩, nh⟩ (e1.trans e2) ra⟩
      | some d =>
        have hl : i < ds.length := (List.getElem?_eq_some_iff.1 hd).1
        have hd' : ds[i] = d := (List.getElem?_eq_some_iff.1 hd).2
        rw [List.drop_eq_getElem_cons hl, hd'] at h2
        obtain ⟨⟨P', Fb, Hb, rr, cc, ee, nn, nf⟩, nh⟩ := l2
        obtain ⟨g1, g2⟩ := src.go e2 rr.fh hd
        refine .inr ⟨g1, fun Hc => ∃ F' δ' acc vs, LS X.K own P F0 H0 Dd (.lst vs) F' (wipe σ (ow.map (·.2))) Hc δ' ∧ Ex F1 F' ∧ Reps X.K F' vs acc ∧ (i + 1) + (m - 1) = ds.length ∧ scomp (ow.map (·.2)) g t e (ds.drop (i + 1)) acc δ' = some o, fun H' h => ⟨m - 1, by omega, h⟩, fun x H' hy => ?_⟩
        obtain ⟨F3, g3, rx⟩ := g2 x H' hy
        simp only [scomp] at h2
        cases e4 : g d δ2 with
        | none => rw [e4] at h2; cases h2
        | some δ4 =>
          rw [e4] at h2
          simp only [] at h2
          intro s0 Hb0 C0 cl0 fp0
          have ww : wipe (wipe σ (ow.map (·.2))) (ow.map (·.2)) = wipe σ (ow.map (·.2)) := by
            apply List.ext_getElem?
            intro j
            rw [wipe_get, wipe_get]
            by_cases hj : j ∈ ow.map (·.2)
            · rw [if_pos hj, if_pos hj]; cases σ[j]? <;> rfl
            · rw [if_neg hj, if_neg hj]
          refine (hg s0 Hb0 C0 cl0 fp0).run (P := P') (F0 := Fb) (H0 := Hb) (rr.grow g3) rx e4 fun σ4 F4 H4 r4 x4 w4 => ⟨(w4 _ hi').trans ww, fun s1 Hb1 C1 cl1 fp1 => ?_⟩
          have hw := (w4 _ hi').trans ww
          cases e5 : t δ4 with
          | none => rw [e5] at h2; cases h2
          | some z =>
            rw [e5] at h2
            rcases z with ⟨x5, δ5⟩ | ⟨b5, δ5⟩
            · cases h2
            · refine (ht s1 Hb1 C1 cl1 fp1).run (W := fun _ _ _ _ => False) (P := P') (F0 := Fb) (H0 := Hb) r4 (takes_false fun _ _ _ _ h => h) e5 fun v5 F5 H5 r5 x5 rb => ?_
              cases rb
              have ex5 : Ex F2 F5 := (g3.ff.trans x4).trans x5
              cases b5 with
              | false =>
                rw [if_neg Bool.false_ne_true]
                dsimp only at h2
                refine ⟨F5, _, acc, vs, ⟨⟨P', Fb, Hb, ?_, cc, ee, nn, nf⟩, nh⟩, e2.trans ex5, ra.mono ex5, by omega, h2⟩
                have := r5.wipe hv
                rw [hw] at this
                exact this
              | true =>
                rw [if_pos rfl]
                dsimp only at h2
                intro s2 Hb2 C2 cl2 fp2
                cases e6 : e δ5 with
                | none => rw [e6] at h2; cases h2
                | some z =>
                  rw [e6] at h2
                  rcases z with ⟨x6, δ6⟩ | ⟨y6, δ6⟩
                  · cases h2
                  · dsimp only at h2
                    refine (he s2 Hb2 C2 cl2 fp2).run (W := fun _ _ _ _ => False) (P := P') (F0 := Fb) (H0 := Hb) r5 (takes_false fun _ _ _ _ h => h) e6 fun v6 F6 H6 r6 x6 ry => ?_
                    split at h2
                    · rename_i hsz
                      have ex6 : Ex F2 F6 := ex5.trans x6
                      have r7 := r6.wipe hv
                      rw [hw] at r7
                      have l7 : LS X.K own P F0 H0 Dd (.lst vs) F6 (wipe σ (ow.map (·.2))) H6 (wipeD (ow.map (·.2)) δ6) := ⟨⟨P', Fb, Hb, r7, cc, ee, nn, nf⟩, nh⟩
                      refine ⟨vs, l7.at, by rw [Rep.len ra]; exact hsz, F6, _, acc ++ [y6], vs ++ [v6], l7.app, e2.trans ex6, (ra.mono ex6).app (.cons ry .nil), by omega, h2⟩
                    · cases h2
variable {P : Program}
def ecomp (vs : List Nat) (f : Env → RE (List D)) (g : D → Env → Option Env) (t : Env → RE Bool) (e : Env → RE D) : Env → RE D := fun δ => bindE (f δ) fun ds δ' => bindE (scomp vs g t e ds [] (wipeD vs δ')) fun ys δ2 => some (.ok (.lst ys, δ2))
theorem LS.frz {K : Frag} {own : List Nat} {P : Pm} {F0 H0 F : Hp} {σ : L2.St} {H : Hp} {δ : Env} {Dd : Addr} {ob : HO} (l : LS K own P F0 H0 Dd ob F σ H δ) : RS K own P F0 H0 (upd F Dd ob) σ H δ := by
  obtain ⟨P', F1, H1, r, c, e, n, nf⟩ := l.r
  have hD := l.at
  have nF := l.nF
  obtain ⟨fp, h1, h2, h3⟩ := r.own
  have nD : ∀ i, Dd ∉ fp i := fun i hi => (h2 i Dd hi).2.2.elim (fun q => by rw [e] at q; cases q) fun q => n q.1
  have R := r.back c
  exact {
    ff := R.ff.trans (Ex.new nF)
    fh := fun a o h => by
      by_cases q : a = Dd
      · subst q; rw [upd_same] at h; cases h; exact hD
      · rw [upd_ne q] at h; exact r.fh a o h
    hh := R.hh
    dm := R.dm
    nw := fun a h => (upd_ne_none h).elim (R.nw a) fun q => .inr (by rw [q]; exact l.h0)
    ln := R.ln
    par := R.par
    bxh := R.bxh
    val := fun i d hi h => let ⟨v, a, b⟩ := R.val i d hi h; ⟨v, a, b.mono (Ex.new nF)⟩
    own := ⟨fp, fun i d hi hd => by
      obtain ⟨v, hv, o⟩ := h1 i d hi hd
      exact ⟨v, hv, o.keep (Ex.new nF) fun a _ q h => h⟩, fun i a ha => ⟨by rw [upd_ne (fun q : a = Dd => nD i (by rw [← q]; exact ha))]; exact (h2 i a ha).1, (h2 i a ha).2.1, (h2 i a ha).2.2.elim (fun q => .inl (by
        cases e0 : H0 a with
        | none => rfl
        | some o => exact absurd q (c.dm a (by rw [e0]; simp)))) fun q => (c.pp a q.1).imp id fun z => ⟨z, fun y => q.2 (c.bx a y)⟩⟩, h3⟩ }
theorem bindE_assoc {α β γ : Type} (x : RE α) (f : α → Env → RE β) (g : β → Env → RE γ) : bindE (bindE x f) g = bindE x fun a δ => bindE (f a δ) g := by
  cases x with
  | none => rfl
  | some y => cases y <;> rfl
theorem je_lc (hc : X.calm = true) (hN : X.N.Nodup) (hi : JI X own tg iter f) (ok : BlkOk X.N X.env.scope scope ow)
    (hg : ∀ (s : Shared) (Hb : Hp) (C : Addr) (cl : List (Str × Addr)) (fp : List Addr), JG (X.blk s Hb scope (compEnvC scope cl C X.env) fp) own tg is g)
    (ht : ∀ (s : Shared) (Hb : Hp) (C : Addr) (cl : List (Str × Addr)) (fp : List Addr), JTs (X.blk s Hb scope (compEnvC scope cl C X.env) fp) own ifs t)
    (he : ∀ (s : Shared) (Hb : Hp) (C : Addr) (cl : List (Str × Addr)) (fp : List Addr), JE (X.blk s Hb scope (compEnvC scope cl C X.env) fp) own elt e)
    (hvs : (ow.map (·.2)).all (fun i => !own.contains i) = true := by decide) (his : is.all (fun i => (ow.map (·.2)).contains i) = true := by decide) (hs : ∀ x, foldedSetIterable iter X.env x = pure x := by intro _; rfl) :
    JE X own (.ListComp elt [⟨tg, iter, ifs, 0⟩] scope pos) (ecomp (ow.map (·.2)) f g t e) := ⟨fun {P F0 H0 σ F H δ W Q o} r tk hh hP => by
  refine we_of (pe_lc (g := bG X scope tg) (tt := bT X scope ifs) (te := bE X scope elt) hc hN pi_wi ok (fun s Hb C cl fp => ⟨fun pins s' σ' H' v u Q' I rv h => (h s Hb C cl fp) pins s' u I rv⟩) (fun s Hb C cl fp => ⟨fun pins s' σ' H' Q' I h => (h s Hb C cl fp) pins s' I⟩) (fun s Hb C cl fp => ⟨fun pins s' σ' H' Q' I h => (h s Hb C cl fp) pins s' I⟩) hs) ?_
  unfold ecomp at hh
  rw [← bindE_assoc] at hh
  cases e0 : bindE (f δ) (fun ds δ' => scomp (ow.map (·.2)) g t e ds [] (wipeD (ow.map (·.2)) δ')) with
  | none => rw [e0] at hh; cases hh
  | some o1 =>
    rw [e0] at hh
    refine lc_read (ow := ow) hi hg ht he hvs his r tk e0 (fun x δ' q => ?_) (fun ds δ' q Dd vs F' H' l x rv => ?_)
    · subst q; cases hh; exact hP
    · subst q; cases hh
      exact hP _ _ _ l.frz (x.trans (Ex.new l.nF)) (.lst upd_same (rv.mono (Ex.new l.nF)))⟩
theorem js_setLc (i : Nat) {y : Str} {py spos : Pos} (hc : X.calm = true) (hN : X.N.Nodup) (hi : JI X own tg iter f) (ok : BlkOk X.N X.env.scope scope ow)
    (hg : ∀ (s : Shared) (Hb : Hp) (C : Addr) (cl : List (Str × Addr)) (fp : List Addr), JG (X.blk s Hb scope (compEnvC scope cl C X.env) fp) own tg is g)
    (ht : ∀ (s : Shared) (Hb : Hp) (C : Addr) (cl : List (Str × Addr)) (fp : List Addr), JTs (X.blk s Hb scope (compEnvC scope cl C X.env) fp) own ifs t)
    (he : ∀ (s : Shared) (Hb : Hp) (C : Addr) (cl : List (Str × Addr)) (fp : List Addr), JE (X.blk s Hb scope (compEnvC scope cl C X.env) fp) own elt e)
    (hy : X.N[i]? = some y := by rfl) (hyl : X.env.scope.names.lookup y = some .local := by rfl) (ho : i ∉ own := by decide)
    (hsw : swapsWith (.ListComp elt [⟨tg, iter, ifs, 0⟩] scope pos) (some (.Name y py)) spos.line X.env = pure true := by exact sw_true rfl rfl rfl (by decide +kernel))
    (hvs : (ow.map (·.2)).all (fun i => !own.contains i) = true := by decide) (his : is.all (fun i => (ow.map (·.2)).contains i) = true := by decide) (hs : ∀ x, foldedSetIterable iter X.env x = pure x := by intro _; rfl) :
    JS X own (.Assign [.Name y py] (.ListComp elt [⟨tg, iter, ifs, 0⟩] scope pos) spos) (sset i (ecomp (ow.map (·.2)) f g t e)) := ⟨fun {P F0 H0 σ F H δ W o D} _ r tk hh hP => by
  refine ws_of (ps_setLc (g := bG X scope tg) (tt := bT X scope ifs) (te := bE X scope elt) hc hN hy hyl hsw pi_wi ok (fun s Hb C cl fp => ⟨fun pins s' σ' H' v u Q' I rv h => (h s Hb C cl fp) pins s' u I rv⟩) (fun s Hb C cl fp => ⟨fun pins s' σ' H' Q' I h => (h s Hb C cl fp) pins s' I⟩) (fun s Hb C cl fp => ⟨fun pins s' σ' H' Q' I h => (h s Hb C cl fp) pins s' I⟩) hs) ?_
  unfold sset ecomp at hh
  rw [← bindE_assoc, bindE_assoc] at hh
  cases e0 : bindE (f δ) (fun ds δ' => scomp (ow.map (·.2)) g t e ds [] (wipeD (ow.map (·.2)) δ')) with
  | none => rw [e0] at hh; cases hh
  | some o1 =>
    rw [e0] at hh
    refine lc_read (ow := ow) hi hg ht he hvs his r tk e0 (fun x δ' q => ?_) (fun ds δ' q Dd vs F' H' l x rv => ?_)
    · subst q; cases hh; exact fun cls dd F' H' r1 e1 rx => hP cls dd σ F' H' r1 e1 rx
    · subst q; cases hh
      exact hP _ _ _ (l.frz.set ho (.lst upd_same (rv.mono (Ex.new l.nF)))) (x.trans (Ex.new l.nF))⟩
end
end PD
end
section
namespace PD
open PySem L2
section
variable {P : Program} {w : World} {K : Frag} {mg : Str → Option Value} {base : Heap}
theorem fn_none {x qual : Str} {params : Arguments} {body : List Stmt} {scope : Scope} {f : Addr} {fd : FuncData} {dvs : List V} {kws : List (Str × V)} {N ps : List Str} {k : Nat} (F : FunD K x qual params body scope dvs kws f fd) (S : FnScope N ps scope) :
    FnOk P w K mg base (L2.CX P w) (k + 1) f fd ps (spP K fun _ => none) := by
  refine FunD.ok F S (fun vs H Q E h => ?_) (fun cdv A outer s H vs Q E hr h => ?_)
  · obtain ⟨_, _, _, _, _, h, _⟩ := h; cases h
  · obtain ⟨_, _, _, _, _, h, _⟩ := h; cases h
end
end PD
end
section
namespace PD
open PySem L2
section
variable {K : Frag} {own : List Nat} {P : Pm} {F0 H0 F : Hp} {σ : L2.St} {H : Hp} {δ : Env}
inductive OwnO (K : Frag) (F : Hp) : HO → D → Prop
  | lst {vs : List V} {ds : List D} (r : Reps K F vs ds) : OwnO K F (.lst vs) (.lst ds)
  | dic {vs : List (Key × V)} {ds : List (Key × D)} (r : RepK K F vs ds) : OwnO K F (.dK vs) (.dic ds)
theorem OwnO.at {ob : HO} {d : D} {p : Addr} (o : OwnO K F ob d) (h : H p = some ob) : OwnV K F H (.ref p) d [p] := by
  cases o with
  | lst r => exact .lst h r
  | dic r => exact .dic h r
theorem OwnO.rep {ob : HO} {d : D} {p : Addr} (o : OwnO K F ob d) (h : F p = none) : Rep K (upd F p ob) (.ref p) d := by
  cases o with
  | lst r => exact .lst upd_same (r.mono (Ex.new h))
  | dic r => exact .dic upd_same (r.mono (Ex.new h))
theorem OwnO.mono {ob : HO} {d : D} {F' : Hp} (e : Ex F F') (o : OwnO K F ob d) : OwnO K F' ob d := by
  cases o with
  | lst r => exact .lst (r.mono e)
  | dic r => exact .dic (r.mono e)
theorem LS.keepOwn {Dd : Addr} {ob : HO} {dd : D} {i : Nat} (l : LS K own P F0 H0 Dd ob F σ H δ) (rv : OwnO K F ob dd) (hi : i ∈ own) (hz : i ≠ 0) : RS K own P F0 H0 F (σ.set i (some (.ref Dd))) H (δ.set i (some dd)) := by
  obtain ⟨P', F1, H1, r, c, e, n, nf⟩ := l.r
  have hD := l.at
  have nF := l.nF
  obtain ⟨fp, h1, h2, h3⟩ := r.own
  have nD : ∀ i, Dd ∉ fp i := fun i hi => (h2 i Dd hi).2.2.elim (fun q => by rw [e] at q; cases q) fun q => n q.1
  have R := r.back c
  exact {
    ff := R.ff
    fh := R.fh
    hh := R.hh
    dm := R.dm
    nw := R.nw
    ln := by rw [List.length_set, List.length_set, R.ln]
    par := fun a h => ⟨(R.par a h).1, by rw [List.getElem?_set_ne hz]; exact (R.par a h).2⟩
    bxh := R.bxh
    val := fun j d hj h => by
      have hne : i ≠ j := fun q => hj (by rw [← q]; exact hi)
      rw [List.getElem?_set_ne hne] at h ⊢
      exact R.val j d hj h
    own := by
      refine ⟨fun j => if j = i then [Dd] else fp j, fun j d hj h => ?_, fun j a ha => ?_, fun j k a hjk ha hk => ?_⟩
      · by_cases q : i = j
        · subst q
          by_cases hl : i < δ.length
          · rw [List.getElem?_set_self hl] at h; cases h
            exact ⟨_, List.getElem?_set_self (by rw [R.ln]; exact hl), by dsimp only; rw [if_pos rfl]; exact rv.at hD⟩
          · rw [List.getElem?_eq_none (by rw [List.length_set]; omega)] at h; cases h
        · rw [List.getElem?_set_ne q] at h ⊢
          dsimp only
          rw [if_neg (fun x => q x.symm)]
          exact h1 j d hj h
      · dsimp only at ha
        by_cases q : j = i
        · rw [if_pos q] at ha; cases List.mem_singleton.1 ha
          exact ⟨nF, by rw [hD]; simp, .inl l.h0⟩
        · rw [if_neg q] at ha
          exact ⟨(h2 j a ha).1, (h2 j a ha).2.1, (h2 j a ha).2.2.elim (fun q => .inl (by
            cases e0 : H0 a with
            | none => rfl
            | some o => exact absurd q (c.dm a (by rw [e0]; simp)))) fun q => (c.pp a q.1).imp id fun z => ⟨z, fun y => q.2 (c.bx a y)⟩⟩
      · dsimp only at ha
        by_cases q : j = i
        · rw [if_pos q] at ha; cases List.mem_singleton.1 ha
          dsimp only at hk
          rw [if_neg (fun x => hjk (q.trans x.symm))] at hk
          exact nD k hk
        · rw [if_neg q] at ha
          dsimp only at hk
          by_cases q2 : k = i
          · rw [if_pos q2] at hk; cases List.mem_singleton.1 hk
            exact nD j ha
          · rw [if_neg q2] at hk
            exact h3 j k a hjk ha hk }
theorem RS.lst {i : Nat} {ds : List D} (r : RS K own P F0 H0 F σ H δ) (hi : i ∈ own) (h : δ[i]? = some (some (.lst ds))) : ∃ p vs, σ[i]? = some (some (.ref p)) ∧ H p = some (.lst vs) ∧ Reps K F vs ds ∧ F p = none := by
  obtain ⟨fp, h1, h2, h3⟩ := r.own
  obtain ⟨v, hv, o⟩ := h1 i _ hi h
  cases hfp : fp i with
  | nil => rw [hfp] at o; cases o
  | cons a as =>
    have h2' := h2 i a (by rw [hfp]; exact List.mem_cons_self)
    rw [hfp] at o
    cases o with
    | lst hp rv => exact ⟨_, _, hv, hp, rv, h2'.1⟩
theorem RS.put {i : Nat} {ds ds' : List D} {p : Addr} {vs' : List V} (r : RS K own P F0 H0 F σ H δ) (hi : i ∈ own) (h : δ[i]? = some (some (.lst ds))) (hp : σ[i]? = some (some (.ref p))) (rv : Reps K F vs' ds') : RS K own P F0 H0 F σ (upd H p (.lst vs')) (δ.set i (some (.lst ds'))) := by
  obtain ⟨fp, h1, h2, h3⟩ := r.own
  obtain ⟨v, hv, o⟩ := h1 i _ hi h
  rw [hp] at hv; cases hv
  have hfp : fp i = [p] := by
    cases hfp : fp i with
    | nil => rw [hfp] at o; cases o
    | cons a as => rw [hfp] at o; cases o with | lst _ _ => rfl
  have hpi : p ∈ fp i := by rw [hfp]; exact List.mem_singleton.2 rfl
  obtain ⟨a1, a2, a3⟩ := h2 i p hpi
  have hl : i < δ.length := (List.getElem?_eq_some_iff.1 h).1
  exact {
    ff := r.ff
    fh := fun a q e => by
      have : a ≠ p := fun x => by rw [x, a1] at e; cases e
      rw [upd_ne this]; exact r.fh a q e
    hh := fun a q n e => by
      have : a ≠ p := fun x => by
        subst x
        exact a3.elim (fun z => by rw [z] at e; cases e) fun z => n z.1
      rw [upd_ne this]; exact r.hh a q n e
    dm := fun a e => by
      by_cases x : a = p
      · subst x; rw [upd_same]; simp
      · rw [upd_ne x]; exact r.dm a e
    nw := r.nw
    ln := by rw [List.length_set, r.ln]
    par := r.par
    bxh := r.bxh
    val := fun j d hj e => by
      have hne : i ≠ j := fun q => hj (by rw [← q]; exact hi)
      rw [List.getElem?_set_ne hne] at e
      exact r.val j d hj e
    own := by
      refine ⟨fp, fun j d hj e => ?_, fun j a ha => ?_, h3⟩
      · by_cases q : i = j
        · subst q
          rw [List.getElem?_set_self hl] at e; cases e
          exact ⟨_, hp, by rw [hfp]; exact .lst upd_same rv⟩
        · rw [List.getElem?_set_ne q] at e
          obtain ⟨w, hw, ow⟩ := h1 j d hj e
          exact ⟨w, hw, ow.keep (Ex.refl _) fun a ha o e => by rw [upd_ne (fun x : a = p => h3 i j p q hpi (x ▸ ha))]; exact e⟩
      · obtain ⟨b1, b2, b3⟩ := h2 j a ha
        refine ⟨b1, ?_, b3⟩
        by_cases x : a = p
        · subst x; rw [upd_same]; simp
        · rw [upd_ne x]; exact b2 }
end
def PostN (X : Cx) (f : Fr) (F : Hp) (σ : L2.St) (W : WX) (o : Except (XD × Env) (D × Env)) (Q : VK) : Prop := match o with
  | .ok (d, δ') => ∀ Dd ob F' H', LS X.K f.own f.P f.F0 f.H0 Dd ob F' σ H' δ' → Ex F F' → OwnO X.K F' ob d → Q (.ref Dd) H'
  | .error (x, δ') => ∀ cls dd F' H', RSf X f F' σ H' δ' → Ex F F' → RepX X.K F' cls dd x → W cls dd σ H'
theorem PostN.later {X : Cx} {f : Fr} {F F1 : Hp} {σ : L2.St} {W : WX} {o : Except (XD × Env) (D × Env)} {Q : VK} (e : Ex F F1) (p : PostN X f F σ W o Q) : PostN X f F1 σ W o Q := by
  rcases o with x | ⟨d, δ'⟩
  · exact fun c d F' H' r g' rv => p c d F' H' r (e.trans g') rv
  · exact fun Dd ob F' H' r g' rv => p Dd ob F' H' r (e.trans g') rv
structure JN (X : Cx) (own : List Nat) (e : Expr) (g : Env → RE D) : Prop where
  run : ∀ {P F0 H0 σ F H δ W Q o}, RSf X ⟨own, P, F0, H0⟩ F σ H δ → Takes X W → g δ = some o → PostN X ⟨own, P, F0, H0⟩ F σ W o Q → WE X e σ H Q
section
variable {X : Cx} {own : List Nat} {e a b : Expr} {es : List Expr} {pos : Pos}
theorem sn_bind {α β : Type} {w : L2.St → Hp → (β → Hp → Prop) → Prop} {rel : Hp → β → α → Prop} {g : Env → RE α} {k : α → Env → RE D} {σ : L2.St} {P : Pm} {F0 H0 F H : Hp} {δ : Env} {W : WX} {o : Except (XD × Env) (D × Env)} {Q : VK} {Q1 : β → Hp → Prop}
    (ha : JS0 X own w rel g) (r : RSf X ⟨own, P, F0, H0⟩ F σ H δ) (tk : Takes X W) (hg : bindE (g δ) k = some o) (hP : PostN X ⟨own, P, F0, H0⟩ F σ W o Q)
    (hk : ∀ x v δ1 F1 H1, k x δ1 = some o → Ex F F1 → rel F1 v x → RSf X ⟨own, P, F0, H0⟩ F1 σ H1 δ1 → PostN X ⟨own, P, F0, H0⟩ F1 σ W o Q → Q1 v H1) : w σ H Q1 := by
  cases e : g δ with
  | none => rw [e] at hg; cases hg
  | some y => cases y with
    | ok x => rw [e] at hg; exact ha.run r tk e fun v F1 H1 r1 e1 rx => hk x.1 v x.2 F1 H1 hg e1 rx r1 (hP.later e1)
    | error x => rw [e] at hg; cases hg; exact ha.run r tk e fun c d F' H' r1 e1 rx => hP c d F' H' r1 e1 rx
theorem PostN.fin {f : Fr} {F : Hp} {σ : L2.St} {W : WX} {Q : VK} {d : D} {δ : Env} {o : Except (XD × Env) (D × Env)} (h : some (.ok (d, δ)) = some o) (p : PostN X f F σ W o Q) : ∀ Dd ob F' H', LS X.K f.own f.P f.F0 f.H0 Dd ob F' σ H' δ → Ex F F' → OwnO X.K F' ob d → Q (.ref Dd) H' := by
  cases h; exact p
theorem je_n {g : Env → RE D} (h : JN X own e g) : JE X own e g := ⟨fun {P F0 H0 σ F H δ W Q o} r tk hg hP => by
  rcases o with x | ⟨d, δ1⟩
  · exact h.run r tk hg hP
  · exact h.run r tk hg fun Dd vs F' H' l ex rv => hP _ _ _ l.frz (ex.trans (Ex.new l.nF)) (rv.rep l.nF)⟩
theorem js_setN (i : Nat) {x : Str} {pos' : Pos} {g : Env → RE D} (hN : X.N.Nodup) (h : JN X own e g) (hi : X.N[i]? = some x := by rfl) (hx : Loc X.env.scope x := by first | exact Or.inl rfl | exact Or.inr rfl) (ho : i ∈ own := by decide) (hz : i ≠ 0 := by decide)
    (hs : swapsWith e (some (.Name x pos')) pos.line X.env = pure false := by rfl) (hf : X.fn x = true ∨ X.env.scope.names.lookup x = some .local := by first | exact .inl rfl | exact .inr rfl | assumption) : JS X own (.Assign [.Name x pos'] e pos) (sset i g) := ⟨fun {P F0 H0 σ F H δ W o D} _ r tk hg hP => by
  refine ws_of (ps_set hN hi hx pe_we hs hf) ?_
  unfold sset at hg
  cases e0 : g δ with
  | none => rw [e0] at hg; cases hg
  | some y =>
    rw [e0] at hg
    rcases y with ⟨x, δ1⟩ | ⟨d, δ1⟩
    · cases hg; exact h.run r tk e0 fun c d F' H' r1 e1 rx => hP c d σ F' H' r1 e1 rx
    · cases hg; exact h.run r tk e0 fun Dd vs F' H' l ex rv => hP _ _ _ (l.keepOwn rv ho hz) ex⟩
theorem jn_lst {f : Env → RE (List D)} (ha : JAE X own es f) : JN X own (.List es pos) (elst f) := ⟨fun {P F0 H0 σ F H δ W Q o} r tk hg hP => by
  refine we_of (pe_lst pa_wa) (sn_bind (w := WA X es) ha r tk hg hP fun xs vs δ1 F1 H1 h1 e1 rx r1 P1 => ?_)
  by_cases hl : xs.length ≤ sizeLine
  · rw [if_pos hl] at h1
    exact ⟨by rw [Rep.len rx]; exact hl, fun p hp => P1.fin h1 _ _ _ _ (.start r1 hp) (Ex.refl _) (.lst rx)⟩
  · rw [if_neg hl] at h1; cases h1⟩
def sapp (i : Nat) (f : Env → RE D) : Env → RO := fun δ => match δ[i]? with
  | some (some (.lst _)) => bindE (f δ) fun d δ' => (match δ'[i]? with
    | some (some (.lst ds)) => if ds.length < sizeLine then some (.ok (.nx, δ'.set i (some (.lst (ds ++ [d]))))) else none
    | _ => none)
  | _ => none
theorem own_at {δ : Env} {i : Nat} {α : Type} {k : List D → Option α} {o : α} (h : (match δ[i]? with | some (some (.lst ds)) => k ds | _ => none) = some o) : ∃ ds, δ[i]? = some (some (.lst ds)) ∧ k ds = some o := by
  split at h
  · exact ⟨_, by assumption, h⟩
  · cases h
theorem js_app (i : Nat) {x : Str} {p1 p2 p3 : Pos} {f : Env → RE D} (h : JE X own e f) (hi : X.N[i]? = some x := by rfl) (hv : Vis X.env.scope x := by first | exact Or.inl rfl | exact Or.inr (Or.inl rfl) | exact Or.inr (Or.inr rfl)) (ho : i ∈ own := by decide)
    (hd : (x == ("__debug__" : Str)) = false := by decide) (hcd : (x == ("__classdict__" : Str)) = false := by decide)
    (hbase : attributeBase (.Name x p1) "append" X.env (eval (.Name x p1) X.env) = eval (.Name x p1) X.env := by rfl)
    (hfew : ((backTo p3 (starEach [e] X.env)).all (fun x => !x.1) && (backToKw p3 (keywordEach [] X.env)).all (fun x => x.1.isSome) && decide (([e] : List Expr).length + ([] : List Keyword).length + (if ([] : List Keyword).isEmpty then 0 else 1) < 30)) = true := by rfl)
    (hline : (p2.endLine == p3.line) = true := by rfl) (hs : starEach [e] X.env = (false, eval e X.env) :: starEach [] X.env := by rfl) (hplain : (backTo p3 (starEach [] X.env)).any (·.1) = false := by rfl)
    (hsw : swapsWith (.Call (.Attribute (.Name x p1) "append" p2) [e] [] p3) none pos.line X.env = pure false := by rfl) : JS X own (.Expr (.Call (.Attribute (.Name x p1) "append" p2) [e] [] p3) pos) (sapp i f) := ⟨fun {P F0 H0 σ F H δ W o D} _ r tk hg hP => by
  obtain ⟨ds0, h0, hg⟩ := own_at hg
  obtain ⟨p, vs0, hp, hH0, rv0, hF0⟩ := r.lst ho h0
  refine ws_of (ps_expr (pe_bm PySem.F.plainAttrs_list PySem.F.slot_list_append PySem.F.type_list_append mt_append (pe_var hi hv hd hcd) (pa_cons pe_we pa_nil hs) hbase hfew hline hs hplain) hsw) ⟨_, hp, .inl ⟨rfl, _, SqL.of hH0⟩, ?_⟩
  refine se_bind (w := WE X e) h r tk hg hP fun d v δ1 F1 H1 h1 e1 rx r1 P1 => ?_
  obtain ⟨ds, h2, h1⟩ := own_at h1
  split at h1
  · rename_i hl
    cases h1
    obtain ⟨p', vs, hp', hH, rv, hF⟩ := r1.lst ho h2
    rw [hp] at hp'; cases hp'
    exact ⟨p, vs, v, rfl, rfl, hH, by rw [Rep.len rv]; exact hl, P1 _ F1 _ (r1.put ho h2 hp (rv.app (.cons rx .nil))) (Ex.refl _)⟩
  · cases h1⟩
def epop (i : Nat) (f : Env → RE D) : Env → RE D := fun δ => match δ[i]? with
  | some (some (.lst _)) => bindE (f δ) fun d δ' => (match δ'[i]? with
    | some (some (.lst ds)) => (match d with
      | .int k => if 0 ≤ k ∧ k < 2 ^ 63 then (match ds[k.toNat]? with
        | some y => some (.ok (y, δ'.set i (some (.lst (ds.eraseIdx k.toNat)))))
        | none => none) else none
      | _ => none)
    | _ => none)
  | _ => none
theorem Reps.erase {K : Frag} {F : Hp} : ∀ {vs : List V} {ds : List D} (n : Nat), Reps K F vs ds → Reps K F (vs.eraseIdx n) (ds.eraseIdx n)
  | _, _, _, .nil => .nil
  | _, _, 0, .cons _ r => r
  | _, _, n + 1, .cons h r => .cons h (Reps.erase n r)
theorem je_pop (i : Nat) {x : Str} {p1 p2 : Pos} {f : Env → RE D} (h : JE X own e f) (hi : X.N[i]? = some x := by rfl) (hv : Vis X.env.scope x := by first | exact Or.inl rfl | exact Or.inr (Or.inl rfl) | exact Or.inr (Or.inr rfl)) (ho : i ∈ own := by decide)
    (hd : (x == ("__debug__" : Str)) = false := by decide) (hcd : (x == ("__classdict__" : Str)) = false := by decide)
    (hbase : attributeBase (.Name x p1) "pop" X.env (eval (.Name x p1) X.env) = eval (.Name x p1) X.env := by rfl)
    (hfew : ((backTo pos (starEach [e] X.env)).all (fun x => !x.1) && (backToKw pos (keywordEach [] X.env)).all (fun x => x.1.isSome) && decide (([e] : List Expr).length + ([] : List Keyword).length + (if ([] : List Keyword).isEmpty then 0 else 1) < 30)) = true := by rfl)
    (hline : (p2.endLine == pos.line) = true := by rfl) (hs : starEach [e] X.env = (false, eval e X.env) :: starEach [] X.env := by rfl) (hplain : (backTo pos (starEach [] X.env)).any (·.1) = false := by rfl) : JE X own (.Call (.Attribute (.Name x p1) "pop" p2) [e] [] pos) (epop i f) := ⟨fun {P F0 H0 σ F H δ W Q o} r tk hg hP => by
  obtain ⟨ds0, h0, hg⟩ := own_at hg
  obtain ⟨p, vs0, hp, hH0, rv0, hF0⟩ := r.lst ho h0
  refine we_of (pe_bm PySem.F.plainAttrs_list PySem.F.slot_list_pop PySem.F.type_list_pop mt_popAt (pe_var hi hv hd hcd) (pa_cons pe_we pa_nil hs) hbase hfew hline hs hplain) ⟨_, hp, .inl ⟨rfl, _, SqL.of hH0⟩, ?_⟩
  refine js_bind (w := WE X e) h r tk hg hP fun d v δ1 F1 H1 h1 e1 rx r1 P1 => ?_
  obtain ⟨ds, h2, h3⟩ := own_at h1
  clear h1
  obtain ⟨p', vs, hp', hH, rv, hF⟩ := r1.lst ho h2
  rw [hp] at hp'; cases hp'
  cases rx with
  | int k =>
    dsimp only at h3
    split at h3
    · rename_i hk
      split at h3
      · rename_i y hy
        cases h3
        obtain ⟨w, hw, rw'⟩ := rv.get hy
        have hlt : k.toNat < vs.length := (List.getElem?_eq_some_iff.1 hw).1
        exact ⟨p, vs, k, k.toNat, w, rfl, rfl, hH, by omega, hk.2, (ixN_seq (by unfold ixN; rw [if_pos hk.1, if_pos (by omega)])).1, hw, P1 _ F1 _ (r1.put ho h2 hp (rv.erase k.toNat)) (Ex.refl _) rw'⟩
      · cases h3
    · cases h3
  | _ => cases h3⟩
end
end PD
end
section
namespace PD
open PySem L2
structure GrowB (p : Addr) (F H F' H' : Hp) : Prop where
  ff : Ex F F'
  fh : Ex F' H'
  hh : ∀ a o, a ≠ p → H a = some o → H' a = some o
  nw : ∀ a, F' a ≠ none → F a ≠ none ∨ H a = none
  np : F' p = none
def spB (K : Frag) (m : List D → List D → Option (D × List D)) : Sp := fun vs H Q _ => ∃ F p ws bs B ds d B', vs = .ref p :: ws ∧ Ex F H ∧ F p = none ∧ H p = some (.lst bs) ∧ Reps K F bs B ∧ Reps K F ws ds ∧ m B ds = some (d, B') ∧
  ∀ v F' H' bs', GrowB p F H F' H' → H' p = some (.lst bs') → Reps K F' bs' B' → Rep K F' v d → Q v H'
structure FnB (P : Program) (w : World) (K : Frag) (mg : Str → Option Value) (base : Heap) (k : Nat) (x : Str) (m : List D → List D → Option (D × List D)) : Prop where
  at_ : ∃ f fd ps, FnOk P w K mg base (L2.CX P w) k f fd ps (spB K m) ∧ mg x = some (.ref f) ∧ PySem.W.keepIn K (.ref f) = true ∧ Binds K fd ps []
def bxOf (d : D) (δ : Env) : Option (D × List D) := match δ[(0 : Nat)]? with
  | some (some (.lst B')) => some (d, B')
  | _ => none
def denB (n N : Nat) (body : Env → RO) (B ds : List D) : Option (D × List D) := if ds.length + 1 = n then (match body (some (.lst B) :: (ds.map some ++ List.replicate (N - n) none)) with
  | some (.ok (.rt d, δ)) => bxOf d δ
  | some (.ok (.nx, δ)) => bxOf .non δ
  | _ => none) else none
theorem bxOf_some {d d' : D} {δ : Env} {B : List D} (h : bxOf d δ = some (d', B)) : d = d' ∧ δ[0]? = some (some (.lst B)) := by
  unfold bxOf at h
  split at h
  · cases h; exact ⟨rfl, by assumption⟩
  · cases h
section
variable {P : Program} {w : World} {K : Frag} {mg : Str → Option Value} {base : Heap}
end
theorem RS.boxed {K : Frag} {own : List Nat} {P : Pm} {F0 H0 F F' H' : Hp} {σ : L2.St} {H : Hp} {δ : Env} {i : Nat} {p : Addr} {B B' : List D} {bs' : List V} (r : RS K own P F0 H0 F σ H δ) (hi : i ∈ own) (h : δ[i]? = some (some (.lst B))) (hp : σ[i]? = some (some (.ref p))) (g : GrowB p F H F' H') (hH : H' p = some (.lst bs')) (rv : Reps K F' bs' B') : RS K own P F0 H0 F' σ H' (δ.set i (some (.lst B'))) := by
  obtain ⟨fp, h1, h2, h3⟩ := r.own
  obtain ⟨v, hv, o⟩ := h1 i _ hi h
  rw [hp] at hv; cases hv
  have hfp : fp i = [p] := by
    cases hfp : fp i with
    | nil => rw [hfp] at o; cases o
    | cons a as => rw [hfp] at o; cases o with | lst _ _ => rfl
  have hpi : p ∈ fp i := by rw [hfp]; exact List.mem_singleton.2 rfl
  obtain ⟨a1, a2, a3⟩ := h2 i p hpi
  have hl : i < δ.length := (List.getElem?_eq_some_iff.1 h).1
  exact {
    ff := r.ff.trans g.ff
    fh := g.fh
    hh := fun a q n e => by
      have : a ≠ p := fun x => by
        subst x
        exact a3.elim (fun z => by rw [z] at e; cases e) fun z => n z.1
      exact g.hh a q this (r.hh a q n e)
    dm := fun a e => by
      by_cases x : a = p
      · subst x; rw [hH]; simp
      · cases e2 : H a with
        | none => exact absurd e2 (r.dm a e)
        | some o => rw [g.hh a o x e2]; simp
    nw := fun a e => (g.nw a e).elim (r.nw a) fun z => .inr (by
      cases e0 : H0 a with
      | none => rfl
      | some o => exact absurd z (r.dm a (by rw [e0]; simp)))
    ln := by rw [List.length_set, r.ln]
    par := r.par
    bxh := r.bxh
    val := fun j d hj e => by
      have hne : i ≠ j := fun q => hj (by rw [← q]; exact hi)
      rw [List.getElem?_set_ne hne] at e
      obtain ⟨w, hw, rw'⟩ := r.val j d hj e
      exact ⟨w, hw, rw'.mono g.ff⟩
    own := by
      refine ⟨fp, fun j d hj e => ?_, fun j a ha => ?_, h3⟩
      · by_cases q : i = j
        · subst q
          rw [List.getElem?_set_self hl] at e; cases e
          exact ⟨_, hp, by rw [hfp]; exact .lst hH rv⟩
        · rw [List.getElem?_set_ne q] at e
          obtain ⟨w, hw, ow⟩ := h1 j d hj e
          exact ⟨w, hw, ow.keep g.ff fun a ha o e => g.hh a o (fun x : a = p => h3 i j p q hpi (x ▸ ha)) e⟩
      · obtain ⟨b1, b2, b3⟩ := h2 j a ha
        by_cases x : a = p
        · subst x; exact ⟨g.np, by rw [hH]; simp, b3⟩
        · refine ⟨?_, ?_, b3⟩
          · cases q : F' a with
            | none => rfl
            | some o => exact ((g.nw a (by rw [q]; simp)).elim (fun z => absurd b1 z) fun z => absurd z b2)
          · cases q : H a with
            | none => exact absurd q b2
            | some o => rw [g.hh a o x q]; simp }
def ecallB (m : List D → List D → Option (D × List D)) (i : Nat) (a : Env → RE (List D)) : Env → RE D := fun δ => match δ[i]? with
  | some (some (.lst _)) => bindE (a δ) fun ds δ' => (match δ'[i]? with
    | some (some (.lst B)) => (m B ds).map fun q => .ok (q.1, δ'.set i (some (.lst q.2)))
    | _ => none)
  | _ => none
theorem je_callB {X : Cx} {own : List Nat} (i : Nat) {k : Nat} {x y : Str} {p py pos : Pos} {es : List Expr} {m : List D → List D → Option (D × List D)} {f : Env → RE (List D)} (hf : FnB X.prog X.w X.K X.mg X.base k x m) (hr : Room k X.A) (ha : JAE X own es f) (hi : X.N[i]? = some y := by rfl) (hv : Vis X.env.scope y := by first | exact Or.inl rfl | exact Or.inr (Or.inl rfl) | exact Or.inr (Or.inr rfl)) (ho : i ∈ own := by decide) (hg : Gl X x := by rfl)
    (hd : (y == ("__debug__" : Str)) = false := by decide) (hcd : (y == ("__classdict__" : Str)) = false := by decide)
    (hdb : (x == ("__debug__" : Str)) = false := by decide) (he : starEach (.Name y py :: es) X.env = (false, eval (.Name y py) X.env) :: starEach es X.env := by rfl) (hpl : (backTo pos (starEach es X.env)).any (·.1) = false := by rfl) :
    JE X own (.Call (.Name x p) (.Name y py :: es) [] pos) (ecallB m i f) := ⟨fun {P F0 H0 σ F H δ W Q o} r tk hg' hP => by
  obtain ⟨fa, fd, ps, Fo, hm, hk, hb⟩ := hf.at_
  obtain ⟨ds0, h0, hg'⟩ := own_at hg'
  obtain ⟨q, vs0, hp, hH0, rv0, hF0⟩ := r.lst ho h0
  refine we_of (pe_callS Fo hr hg hm hk hb (fun σ => passAt tk σ) (pa_cons (pe_var hi hv hd hcd) pa_wa he) hdb he hpl) ⟨_, hp, ?_⟩
  refine js_bind (w := WA X es) ha r tk hg' hP fun xs vs δ1 F1 H1 h1 e1 rx r1 P1 => ?_
  obtain ⟨B, h2, h3⟩ := own_at h1
  clear h1
  obtain ⟨p', bs, hp', hH, rv, hF⟩ := r1.lst ho h2
  rw [hp] at hp'; cases hp'
  simp only [Option.map_eq_some_iff] at h3
  obtain ⟨⟨d, B'⟩, hm', rfl⟩ := h3
  exact ⟨F1, q, vs, bs, B, xs, d, B', rfl, r1.fh, hF, hH, rv, rx, hm', fun v F' H' bs' g hH' rb rd => P1 v F' H' (r1.boxed ho h2 hp g hH' rb) g.ff rd⟩⟩
end PD
end
section
namespace PD
open PySem L2
theorem je_ix {X : Cx} {own : List Nat} {a b : Expr} {pos : Pos} {fa fb : Env → RE D} {k : Nat} (hr : Room k X.A) (ha : JE X own a fa) (hb : JE X own b fb) (hs : PlainIx b := by exact fun _ _ => rfl) : JE X own (.Subscript a b pos) (eop2 dIx fa fb) := ⟨fun {P F0 H0 σ F H δ W Q o} r tk hg hP => by
  unfold eop2 at hg
  cases e0 : fa δ with
  | none => rw [e0] at hg; cases hg
  | some y =>
    rw [e0] at hg
    rcases y with ⟨x, δ1⟩ | ⟨x, δ1⟩
    · cases hg; exact we_of (pe_ix ix_any pe_we pe_we hs) (ha.run r tk e0 hP)
    · simp only [bindE] at hg
      cases hx : isDic x with
      | false => exact we_of (pe_ix ix_any pe_we pe_we hs) (ha.run r tk e0 fun vx F1 H1 r1 e1 rx => js_bind (w := WE X b) hb r1 tk hg (hP.later e1) fun y vy δ2 F2 H2 h2 e2 ry r2 P2 => by
          simp only [Option.map_eq_some_iff] at h2
          obtain ⟨z, hz, rfl⟩ := h2
          exact d_ix r2.fh (rx.mono e2) ry hz hx _ fun v F' H' g rv => P2 v F' H' (r2.grow g) g.ff rv)
      | true => exact we_of (pe_dget (hu_of hr) pe_we pe_we hs) (ha.run r tk e0 fun vx F1 H1 r1 e1 rx => js_bind (w := WE X b) hb r1 tk hg (hP.later e1) fun y vy δ2 F2 H2 h2 e2 ry r2 P2 => by
          simp only [Option.map_eq_some_iff] at h2
          obtain ⟨z, hz, rfl⟩ := h2
          obtain ⟨p, w, ew, hD, rw'⟩ := d_dget r2.fh (rx.mono e2) ry hz hx
          exact ⟨p, w, ew, hD, P2 w F2 H2 r2 (Ex.refl _) rw'⟩)⟩
def cutD (xs : List D) (lo hi : Option Int) : List D := (xs.drop (HT.sIx xs.length 0 lo)).take (HT.sIx xs.length xs.length hi - HT.sIx xs.length 0 lo)
theorem Reps.cut {K : Frag} {F : Hp} {vs : List V} {ds : List D} (r : Reps K F vs ds) (lo hi : Option Int) : Reps K F (cutV vs lo hi) (cutD ds lo hi) := by
  unfold cutV cutD
  rw [Rep.len r]
  exact (r.drop _).take _
def asI : D → Option (Option Int)
  | .int i => some (some i)
  | _ => none
def WO (X : Cx) (e : Option Expr) (σ : L2.St) (H : Hp) (Q : Option Int → Hp → Prop) : Prop := ∃ t, PO X e t ∧ t σ H Q
abbrev JO (X : Cx) (e : Option Expr) (g : Env → Rs (Option Int)) : Prop := J X (WO X e) (fun _ b a => b = a) g
def onone : Env → Rs (Option Int) := fun _ => ok none
def osome (f : Env → Rs D) : Env → Rs (Option Int) := fun δ => bind (f δ) fun d => opt (asI d)
theorem jo_none {X : Cx} : JO X none onone := ⟨fun rp tk hg hP => ⟨_, po_none, hP.fin hg _ _ _ (.refl rp.ex) rfl⟩⟩
theorem jo_some {X : Cx} {e : Expr} {f : Env → Rs D} (h : JP X e f) : JO X (some e) (osome f) := ⟨fun rp tk hg hP => ⟨_, po_some pe_we, jp_bind h rp tk hg hP fun x vx F1 H1 h1 g1 rx r1 P1 => by
  obtain ⟨z, hz, rfl⟩ := opt_some h1
  cases rx <;> (try (cases hz; done))
  cases hz
  exact ⟨_, rfl, P1 _ F1 H1 (.refl r1.ex) rfl⟩⟩⟩
def dSl : D → Option Int → Option Int → Option D
  | .tup xs, lo, hi => some (.tup (cutD xs lo hi))
  | .lst xs, lo, hi => some (.lst (cutD xs lo hi))
  | .scr xs, lo, hi => some (.lst (cutD xs lo hi))
  | .str x, lo, hi => if x.length ≤ sizeLine then some (.str (cutS x lo hi)) else none
  | _, _, _ => none
def rSlP (K : Frag) : V → Option Int → Option Int → Hp → VK → Prop := fun x lo hi H Q => ∃ a xs, x = .ref a ∧ SqT K H a xs ∧
  (HT.sIx xs.length 0 lo = 0 ∧ HT.sIx xs.length xs.length hi = xs.length → Q (.ref a) H) ∧ (¬ (HT.sIx xs.length 0 lo = 0 ∧ HT.sIx xs.length xs.length hi = xs.length) → ∀ p o, H p = none → PlT o → Q (.ref p) (upd H p (.frz o (.tup (cutV xs lo hi)))))
open PySem.Spec PyProof.Rows in
theorem sl_tupP {X : Cx} : SlR X (rSlP X.K) := by
  intro pins s σ H x v vl vu lo hi sl Q I rx hs pl pu h
  obtain ⟨a, xs, rfl, hx, q1, q2⟩ := h
  by_cases hw : HT.sIx xs.length 0 lo = 0 ∧ HT.sIx xs.length xs.length hi = xs.length
  · exact sl_tupA pins s σ H _ v vl vu lo hi sl Q I rx hs pl pu ⟨a, xs, rfl, hx, q1, fun h => absurd hw h⟩
  · cases rx
    obtain ⟨its, r, ht, hz⟩ := I.tuple hx
    have hlen : its.toArray.size = xs.length := by rw [List.size_toArray]; exact r.length.symm
    refine ⟨"tuple", _, PyProof.Rows.slot_tuple_getitem.lookup, ht.typeIs, ?_⟩
    refine HT.getItem_tuple_cut ht hs pl pu (by rw [hlen]; exact hw) ?_ (by rw [hlen]; exact hz)
    rw [hlen]
    refine ⟨.ref s.heap.objs.size, upd H s.heap.objs.size (.frz _ (.tup (cutV xs lo hi))), I.laid (t' := s.toks) (fun b ob q => Heap.get?_push_of_some _ q) (Nat.le_refl _) ⟨Heap.get?_push_size _ rfl, Nat.le_trans (cutV_length xs lo hi) hz, _, (r.drop (HT.sIx xs.length 0 lo)).take (HT.sIx xs.length xs.length hi - HT.sIx xs.length 0 lo), IsTup.new _ _⟩, rfl, q2 hw _ _ (I.hok.fresh (Nat.le_refl _)) ⟨rfl, rfl, _, _, rfl⟩⟩
def rSl (K : Frag) : V → Option Int → Option Int → Hp → VK → Prop := fun x lo hi H Q => (rSlP K x lo hi H Q ∨ rSlL K x lo hi H Q) ∨ rSlS x lo hi H Q
theorem sl_any {X : Cx} : SlR X (rSl X.K) := (sl_tupP.or sl_list).or sl_str
theorem d_sl {K : Frag} {F H : Hp} {vx : V} {x z : D} {lo hi : Option Int} (e : Ex F H) (rx : Rep K F vx x) (h : dSl x lo hi = some z) (Q : VK) (q : ∀ v F' H', Grow F H F' H' → Rep K F' v z → Q v H') : rSl K vx lo hi H Q := by
  cases rx <;> (try (cases h; done)) <;> simp only [dSl] at h
  case str x =>
    split at h
    · cases h; exact .inr ⟨_, rfl, by assumption, q _ F H (.refl e) (.str _)⟩
    · cases h
  case tup a vs ds h1 r1 =>
    cases h
    refine .inl (.inl ⟨a, vs, rfl, ex_t e h1, fun hw => ?_, fun hw p ob hp hpl => q _ _ _ (.new e hp) (.tup (SqP.of upd_same hpl) ((r1.cut lo hi).mono (Ex.new (none_back e hp))))⟩)
    refine q _ F H (.refl e) ?_
    have : cutD ds lo hi = ds := by
      unfold cutD
      rw [← Rep.len r1, hw.1, hw.2, List.drop_zero, Nat.sub_zero, Rep.len r1, List.take_length]
    rw [this]; exact .tup h1 r1
  case lst a vs ds h1 r1 => cases h; exact .inl (.inr ⟨a, vs, rfl, SqL.of (e _ _ h1), fun p hp => q _ _ _ (.new e hp) (.lst upd_same ((r1.cut lo hi).mono (Ex.new (none_back e hp))))⟩)
  case scr a vs ds h1 r1 => cases h; exact .inl (.inr ⟨a, vs, rfl, ex_l e h1, fun p hp => q _ _ _ (.new e hp) (.lst upd_same ((r1.cut lo hi).mono (Ex.new (none_back e hp))))⟩)
def vsl (a : Env → Rs D) (lo hi : Env → Rs (Option Int)) : Env → Rs D := fun δ => bind (a δ) fun x => bind (lo δ) fun l => bind (hi δ) fun h => opt (dSl x l h)
theorem jp_sl {X : Cx} {a : Expr} {lo hi : Option Expr} {p2 pos : Pos} {fa : Env → Rs D} {fl fh : Env → Rs (Option Int)} (ha : JP X a fa) (hl : JO X lo fl) (hh : JO X hi fh) : JP X (.Subscript a (.Slice lo hi none p2) pos) (vsl fa fl fh) := ⟨fun {σ F H δ W Q o} rp tk hg hP => by
  have po : ∀ e : Option Expr, PO X e (WO X e) := fun e => ⟨fun pins s σ H Q I ⟨t, pt, ht⟩ => pt.run pins s σ H Q I ht⟩
  exact we_of (pe_slice sl_any pe_we (po lo) (po hi)) (jp_bind ha rp tk hg hP fun x vx F1 H1 h1 g1 rx r1 P1 => j_bind (w := WO X lo) hl r1 tk h1 P1 fun l vl F2 H2 h2 g2 rl r2 P2 => by
    cases rl
    exact j_bind (w := WO X hi) hh r2 tk h2 P2 fun u vu F3 H3 h3 g3 ru r3 P3 => by
      cases ru
      obtain ⟨z, hz, rfl⟩ := opt_some h3
      exact d_sl r3.ex (rx.mono (g2.ff.trans g3.ff)) hz _ P3)⟩
def signs (x : Str) : List D := x.cps.toList.map fun c => .str ⟨#[c]⟩
theorem src_str {K : Frag} {F : Hp} {x : Str} : Src K F (signs x) (Its x) where
  go := fun {F1 H1} e1 e2 {i d} hd => by
    unfold signs at hd
    rw [List.getElem?_map, Option.map_eq_some_iff] at hd
    obtain ⟨c, hc, rfl⟩ := hd
    have hc' : x.cps[i]? = some c := by rw [← Array.getElem?_toList]; exact hc
    have hl : i < x.cps.size := by
      have := (List.getElem?_eq_some_iff.1 hc).1
      simpa using this
    exact ⟨hl, fun v H' ⟨e, c', h1, h2⟩ => by subst e; rw [hc'] at h1; cases h1; subst h2; exact ⟨F1, .refl e2, .str _⟩⟩
  stop := fun {F1 H1} e1 e2 {i} hi => by
    unfold signs at hi; rw [List.length_map] at hi
    have : x.cps.size ≤ i := by simpa using hi
    exact this
def enumD (i : Nat) : List D → List D
  | [] => []
  | d :: ds => .npt [.int (i : Nat), d] :: enumD (i + 1) ds
theorem enumD_get : ∀ {ds : List D} {i j : Nat} {d : D}, (enumD i ds)[j]? = some d → ∃ x, ds[j]? = some x ∧ d = .npt [.int ((i + j : Nat) : Int), x]
  | [], _, _, _, h => by cases h
  | x :: xs, i, 0, d, h => by cases h; exact ⟨x, rfl, rfl⟩
  | x :: xs, i, j + 1, d, h => by
    rw [enumD, List.getElem?_cons_succ] at h
    obtain ⟨y, h1, h2⟩ := enumD_get h
    exact ⟨y, by rw [List.getElem?_cons_succ]; exact h1, by rw [h2]; congr 4; omega⟩
theorem enumD_len : ∀ {ds : List D} {i : Nat}, (enumD i ds).length = ds.length
  | [], _ => rfl
  | _ :: _, _ => congrArg (· + 1) enumD_len
theorem src_enum {K : Frag} {F : Hp} {a : Addr} {vs : List V} {ds : List D} (h : SqL K F a vs) (r : Reps K F vs ds) : Src K F (enumD 0 ds) (Ite K a) where
  go := fun {F1 H1} e1 e2 {i d} hd => by
    obtain ⟨x, hx, rfl⟩ := enumD_get hd
    obtain ⟨w, hw, rw'⟩ := r.get hx
    refine ⟨⟨vs, w, ex_l (e1.trans e2) h, hw⟩, fun v H' ⟨T, y, hv, hT, hH, hy⟩ => ?_⟩
    subst hv; subst hH
    have := hy vs (ex_l (e1.trans e2) h)
    rw [hw] at this; cases this
    refine ⟨_, .new e2 hT, .npt (SqT.of upd_same) (.cons ?_ (.cons ((rw'.mono e1).mono (Ex.new (none_back e2 hT))) .nil))⟩
    rw [Nat.zero_add]; exact .int _
  stop := fun {F1 H1} e1 e2 {i} hi => ⟨vs, ex_l (e1.trans e2) h, by rw [Rep.len r]; rw [enumD_len] at hi; exact hi⟩
def ienum (f : Env → RE D) : Env → RE (List D) := fun δ => bindE (f δ) fun d δ' => match d with
  | .lst xs => some (.ok (enumD 0 xs, δ'))
  | .scr xs => some (.ok (enumD 0 xs, δ'))
  | _ => none
theorem ji_enum {X : Cx} {own : List Nat} {e : Expr} {elts : List Expr} {kk : Nat} {p pos tpos : Pos} {f : Env → RE D} (hm : X.mg "enumerate" = none) (h : JE X own e f) (hg : Gl X "enumerate" := by rfl) (hs : starEach [e] X.env = [(false, eval e X.env)] := by rfl) : JI X own (.Tuple elts kk tpos) (.Call (.Name "enumerate" p) [e] [] pos) (ienum f) := ⟨fun {P F0 H0 σ F H δ W o R} r tk hg' hP => by
  refine wi_of (pi_enum hg hm (pa_cons pe_we pa_nil hs) hs) ?_
  unfold ienum at hg'
  cases e0 : f δ with
  | none => rw [e0] at hg'; cases hg'
  | some y =>
    rw [e0] at hg'
    rcases y with ⟨x, δ1⟩ | ⟨d, δ1⟩
    · cases hg'; exact h.run r tk e0 hP
    · cases d <;> (try (cases hg'; done))
      case lst => cases hg'; exact h.run r tk e0 fun v F1 H1 r1 e1 rx => by cases rx with | lst h1 r2 => exact ⟨_, _, rfl, SqL.of (r1.fh _ _ h1), hP _ F1 H1 r1 e1 (src_enum (SqL.of h1) r2)⟩
      case scr => cases hg'; exact h.run r tk e0 fun v F1 H1 r1 e1 rx => by cases rx with | scr h1 r2 => exact ⟨_, _, rfl, ex_l r1.fh h1, hP _ F1 H1 r1 e1 (src_enum h1 r2)⟩⟩
def zipD : List D → List D → List D
  | x :: xs, y :: ys => .npt [x, y] :: zipD xs ys
  | _, _ => []
theorem zipD_get : ∀ {xs ys : List D} {j : Nat} {d : D}, (zipD xs ys)[j]? = some d → ∃ x y, xs[j]? = some x ∧ ys[j]? = some y ∧ d = .npt [x, y]
  | [], _, _, _, h => by simp [zipD] at h
  | _ :: _, [], _, _, h => by simp [zipD] at h
  | x :: xs, y :: ys, 0, d, h => by cases h; exact ⟨x, y, rfl, rfl, rfl⟩
  | x :: xs, y :: ys, j + 1, d, h => by
    rw [zipD, List.getElem?_cons_succ] at h
    obtain ⟨a, b, h1, h2, h3⟩ := zipD_get h
    exact ⟨a, b, by rw [List.getElem?_cons_succ]; exact h1, by rw [List.getElem?_cons_succ]; exact h2, h3⟩
theorem zipD_len : ∀ {xs ys : List D}, (zipD xs ys).length = min xs.length ys.length
  | [], _ => by simp [zipD]
  | _ :: _, [] => by simp [zipD]
  | x :: xs, y :: ys => by simp [zipD, zipD_len]
theorem src_zipL {K : Frag} {F : Hp} {a b : Addr} {vs ws : List V} {ds es : List D} (h : SqL K F a vs) (h' : SqL K F b ws) (r : Reps K F vs ds) (r' : Reps K F ws es) : Src K F (zipD ds es) (Itz K a b) where
  go := fun {F1 H1} e1 e2 {i d} hd => by
    obtain ⟨x, y, hx, hy, rfl⟩ := zipD_get hd
    obtain ⟨w, hw, rw'⟩ := r.get hx
    obtain ⟨u, hu, ru⟩ := r'.get hy
    refine ⟨⟨vs, ws, w, u, ex_l (e1.trans e2) h, ex_l (e1.trans e2) h', hw, hu⟩, fun v H' ⟨T, p, q, hv, hT, hH, hp, hq⟩ => ?_⟩
    subst hv; subst hH
    have q1 := hp vs (ex_l (e1.trans e2) h)
    rw [hw] at q1; cases q1
    have q2 := hq ws (ex_l (e1.trans e2) h')
    rw [hu] at q2; cases q2
    exact ⟨_, .new e2 hT, .npt (SqT.of upd_same) (.cons ((rw'.mono e1).mono (Ex.new (none_back e2 hT))) (.cons ((ru.mono e1).mono (Ex.new (none_back e2 hT))) .nil))⟩
  stop := fun {F1 H1} e1 e2 {i} hi => ⟨vs, ws, ex_l (e1.trans e2) h, ex_l (e1.trans e2) h', by rw [Rep.len r, Rep.len r']; rw [zipD_len] at hi; omega⟩
theorem src_zipT {K : Frag} {F : Hp} {a b : Addr} {vs ws : List V} {ds es : List D} (h : SqP K F a vs) (h' : SqP K F b ws) (r : Reps K F vs ds) (r' : Reps K F ws es) : Src K F (zipD ds es) (RZ.ItzT K a b) where
  go := fun {F1 H1} e1 e2 {i d} hd => by
    obtain ⟨x, y, hx, hy, rfl⟩ := zipD_get hd
    obtain ⟨w, hw, rw'⟩ := r.get hx
    obtain ⟨u, hu, ru⟩ := r'.get hy
    refine ⟨⟨vs, ws, w, u, ex_t (e1.trans e2) h, ex_t (e1.trans e2) h', hw, hu⟩, fun v H' ⟨T, p, q, hv, hT, hH, hp, hq⟩ => ?_⟩
    subst hv; subst hH
    have q1 := hp vs (ex_t (e1.trans e2) h)
    rw [hw] at q1; cases q1
    have q2 := hq ws (ex_t (e1.trans e2) h')
    rw [hu] at q2; cases q2
    exact ⟨_, .new e2 hT, .npt (SqT.of upd_same) (.cons ((rw'.mono e1).mono (Ex.new (none_back e2 hT))) (.cons ((ru.mono e1).mono (Ex.new (none_back e2 hT))) .nil))⟩
  stop := fun {F1 H1} e1 e2 {i} hi => ⟨vs, ws, ex_t (e1.trans e2) h, ex_t (e1.trans e2) h', by rw [Rep.len r, Rep.len r']; rw [zipD_len] at hi; omega⟩
def izip (f : Env → RE (List D)) : Env → RE (List D) := fun δ => bindE (f δ) fun ds δ' => match ds with
  | [.lst xs, .lst ys] => some (.ok (zipD xs ys, δ'))
  | [.tup xs, .tup ys] => some (.ok (zipD xs ys, δ'))
  | _ => none
theorem ji_zip {X : Cx} {own : List Nat} {e e2 : Expr} {elts : List Expr} {kk : Nat} {p pos tpos : Pos} {f : Env → RE (List D)} (hm : X.mg "zip" = none) (h : JAE X own [e, e2] f) (hg : Gl X "zip" := by rfl)
    (hs : starEach [e, e2] X.env = (false, eval e X.env) :: starEach [e2] X.env := by rfl) (hpl : (backTo pos (starEach [e2] X.env)).any (·.1) = false := by rfl) : JI X own (.Tuple elts kk tpos) (.Call (.Name "zip" p) [e, e2] [] pos) (izip f) := ⟨fun {P F0 H0 σ F H δ W o R} r tk hg' hP => by
  refine wi_of (RZ.pi_zipA hg hm pa_wa hs hpl) ?_
  unfold izip at hg'
  cases e0 : f δ with
  | none => rw [e0] at hg'; cases hg'
  | some y =>
    rw [e0] at hg'
    rcases y with ⟨x, δ1⟩ | ⟨ds, δ1⟩
    · cases hg'; exact h.run r tk e0 hP
    · dsimp only [bindE] at hg'
      split at hg'
      · cases hg'
        exact h.run r tk e0 fun vs F1 H1 r1 e1 rx => by
          obtain ⟨w, u, rfl, ra, rb⟩ := reps2 rx
          cases ra with | lst h1 r2 => cases rb with | lst h3 r4 => exact ⟨_, _, _, _, rfl, .inl ⟨SqL.of (r1.fh _ _ h1), SqL.of (r1.fh _ _ h3), hP _ F1 H1 r1 e1 (src_zipL (SqL.of h1) (SqL.of h3) r2 r4)⟩⟩
      · cases hg'
        exact h.run r tk e0 fun vs F1 H1 r1 e1 rx => by
          obtain ⟨w, u, rfl, ra, rb⟩ := reps2 rx
          cases ra with | tup h1 r2 => cases rb with | tup h3 r4 => exact ⟨_, _, _, _, rfl, .inr ⟨ex_t r1.fh h1, ex_t r1.fh h3, hP _ F1 H1 r1 e1 (src_zipT h1 h3 r2 r4)⟩⟩
      · cases hg'⟩
end PD
end
section
namespace PD
open PySem PySem.W PySem.Calls PyProof.Rows
mutual
def nodict : PyData → Bool
  | .list xs => nodicts xs
  | .tuple xs => nodicts xs
  | .dict _ => false
  | _ => true
def nodicts : List PyData → Bool
  | [] => true
  | x :: xs => nodict x && nodicts xs
end
mutual
theorem reads_uniq {h : Heap} : ∀ (d d' : PyData) (v : Value) (as as' : List Addr), nodict d = true → nodict d' = true → Reads h v d as → Reads h v d' as' → d = d'
  | .none, _, _, _, _, _, _, r, r' => by cases r; cases r'; rfl
  | .bool _, _, _, _, _, _, _, r, r' => by cases r; cases r'; rfl
  | .int _, _, _, _, _, _, _, r, r' => by cases r; cases r'; rfl
  | .str _, _, _, _, _, _, _, r, r' => by cases r; cases r'; rfl
  | .list xs, d', _, _, _, ha, hb, r, r' => by
    cases r with
    | list h1 h2 h3 h4 =>
      cases r' with
      | list k1 k2 k3 k4 =>
        rw [h1] at k1; cases k1
        rw [h3] at k3; cases k3
        rw [reads_uniqs xs _ _ _ _ (by simpa [nodict] using ha) (by simpa [nodict] using hb) h4 k4]
      | tuple k1 k2 k3 k4 =>
        rw [h1] at k1; cases k1
        rw [h2] at k2; exact absurd (Value.type.inj k2) (by decide)
      | dict k1 k2 k3 k4 k5 => simp [nodict] at hb
  | .tuple xs, d', _, _, _, ha, hb, r, r' => by
    cases r with
    | tuple h1 h2 h3 h4 =>
      cases r' with
      | tuple k1 k2 k3 k4 =>
        rw [h1] at k1; cases k1
        rw [h3] at k3; cases k3
        rw [reads_uniqs xs _ _ _ _ (by simpa [nodict] using ha) (by simpa [nodict] using hb) h4 k4]
      | list k1 k2 k3 k4 =>
        rw [h1] at k1; cases k1
        rw [h2] at k2; exact absurd (Value.type.inj k2) (by decide)
      | dict k1 k2 k3 k4 k5 => simp [nodict] at hb
  | .dict _, _, _, _, _, ha, _, _, _ => by simp [nodict] at ha
theorem reads_uniqs {h : Heap} : ∀ (xs ys : List PyData) (vs : List Value) (as as' : List Addr), nodicts xs = true → nodicts ys = true → ReadsAll h vs xs as → ReadsAll h vs ys as' → xs = ys
  | [], _, _, _, _, _, _, r, r' => by cases r; cases r'; rfl
  | x :: xs, [], _, _, _, _, _, r, r' => by cases r'; cases r
  | x :: xs, y :: ys, _, _, _, ha, hb, r, r' => by
    rw [nodicts, Bool.and_eq_true] at ha hb
    cases r with
    | cons h1 h2 =>
      cases r' with
      | cons k1 k2 => rw [reads_uniq x y _ _ _ ha.1 hb.1 h1 k1, reads_uniqs xs ys _ _ _ ha.2 hb.2 h2 k2]
end
def lexOk : List PyData → List PyData → Bool
  | x :: xs, y :: ys => alike x y && (!PyData.eqv x y || lexOk xs ys)
  | _, _ => true
section
variable {prog : Program} {w : World} {A : Around} {s : Shared}
theorem katLex_ok {b fin : Bool} {Q : Bool → Shared → Prop} : ∀ (xs ys : List PyData) (i : Nat) (vs ws : List Value) (as bs : List Addr), ReadsAll s.heap vs xs as → ReadsAll s.heap ws ys bs → lexOk xs ys = true →
    A.units + min (PyData.depthAll xs) (PyData.depthAll ys) < cLine → (b = true → i = 0 → ∀ x r t, xs = x :: r → x ≠ .tuple t) → fin = decide (xs.length < ys.length) → Q (PyProof.Rows.lexLt itemOrd (keyToksAll xs) (keyToksAll ys)) s → KatLex prog w A b fin Q (vs.zip ws) i s
  | [], ys, i, vs, ws, as, bs, ra, rb, _, hu, hb, hf, hq => katLex_alike [] ys i vs ws as bs ra rb (by cases ys <;> simp [alikeAll]) hu hb hf hq
  | x :: xs, [], i, vs, ws, as, bs, ra, rb, _, hu, hb, hf, hq => katLex_alike (x :: xs) [] i vs ws as bs ra rb (by simp [alikeAll]) hu hb hf hq
  | x :: xs, y :: ys, i, _, _, _, _, ra, rb, h, hu, hb, hf, hq => by
    rw [lexOk, Bool.and_eq_true] at h
    obtain ⟨h1, h2⟩ := h
    have hf' : fin = decide (xs.length < ys.length) := by
      rw [hf]
      simp only [List.length_cons, Nat.add_lt_add_iff_right]
    cases ra with
    | cons r rs =>
      cases rb with
      | cons r' rs' =>
        rw [List.zip_cons_cons]
        refine kat_cons (eqAt_alike x y A s _ _ _ _ r r' h1 (SeqAt.room_head hu) prog w _ _ ?_)
        cases hx : PyData.eqv x y with
        | true =>
          rw [hx] at h2
          rw [dataLt_all_yes h1 hx] at hq
          exact kat_yes (katLex_ok xs ys (i + 1) _ _ _ _ rs rs' (by simpa using h2) (SeqAt.room_tail hu) (fun _ hi => absurd hi (Nat.succ_ne_zero i)) hf' hq)
        | false =>
          rw [dataLt_all_no h1 hx] at hq
          refine kat_no (oneLt_alike (fun hbi t => ?_) r r' h1 (ne_none_of h1 hx) (SeqAt.room_head hu) hq)
          rw [Bool.and_eq_true] at hbi
          exact hb hbi.1 (by simpa using hbi.2) x xs t rfl
def itemsOf : PyData → List PyData
  | .tuple xs => xs
  | _ => []
theorem dataKind_some' {h : Heap} {ds : List PyData} (nd : ∀ d ∈ ds, nodict d = true) {v : Value} {d : PyData} {as : List Addr} (hd : d ∈ ds) (r : Reads h v d as) : (dataKind h ds).keyOf v = some (keyToks d) := by
  have q : ∃ d, d ∈ ds ∧ ∃ as, Reads h v d as := ⟨d, hd, as, r⟩
  have e : (dataKind h ds).keyOf v = some (keyToks q.choose) := by
    show (open Classical in if q : ∃ d, d ∈ ds ∧ ∃ as, Reads h v d as then some (keyToks q.choose) else none) = _
    rw [dif_pos q]
  obtain ⟨h1, as', h2⟩ := q.choose_spec
  rw [e, reads_uniq _ _ _ _ _ (nd _ h1) (nd _ hd) h2 r]
theorem sortsLex {vs : List Value} {ds : List PyData} (e : EachIs (fun v d => ∃ as, Reads s.heap v d as) vs ds) (nd : ∀ d ∈ ds, nodict d = true) (ht : ∀ d, d ∈ ds → ∃ x r, d = .tuple (x :: r)) (hl : ∀ d ∈ ds, ∀ d' ∈ ds, lexOk (itemsOf d) (itemsOf d') = true) (hu : ∀ d, d ∈ ds → A.units + d.depth < cLine) : SortsAt prog w A s (dataKind s.heap ds) vs := by
  have room : ∀ {d d' : PyData}, d ∈ ds → A.units + min d.depth d'.depth < cLine := fun {d d'} hd => Nat.lt_of_le_of_lt (Nat.add_le_add_left (Nat.min_le_left _ _) _) (hu d hd)
  refine ⟨fun v hv => ?_, ?_⟩
  · obtain ⟨d, hd, as, r⟩ := e.left v hv
    exact ⟨_, dataKind_some' nd hd r⟩
  · cases ds with
    | nil =>
      cases e
      exact ⟨general', fun E x y a b Q ha _ _ => (by
        obtain ⟨d, _, hd, _⟩ := dataKind_inv ha
        exact absurd hd (by simp)), fun h2 => absurd h2 (by simp)⟩
    | cons d₀ ds₀ =>
      obtain ⟨x₀, r₀, e₀⟩ := ht d₀ (List.mem_cons_self ..)
      have hfirst : ∀ x r, PyData.tuple (x :: r) ∈ d₀ :: ds₀ → alike x x₀ = true := by
        intro x r hm
        have q := hl _ hm d₀ (List.mem_cons_self ..)
        rw [e₀] at q
        simp only [itemsOf, lexOk, Bool.and_eq_true] at q
        exact q.1
      refine ⟨tuples' (dataType x₀ != Value.type "tuple"), ?_, fun h2 E Q hq => ?_⟩
      · intro E x y a b Q ha hb hq
        obtain ⟨d, as, hd, ra, rfl⟩ := dataKind_inv ha
        obtain ⟨d', as', hd', rb, rfl⟩ := dataKind_inv hb
        have hdd := hl d hd d' hd'
        have hroom := room (d' := d') hd
        obtain ⟨x1, r1, rfl⟩ := ht d hd
        obtain ⟨x2, r2, rfl⟩ := ht d' hd'
        have hq' : Q (dataLt (.tuple (x1 :: r1)) (.tuple (x2 :: r2))) s := hq
        rw [dataLt_tuple] at hq'
        cases ra with
        | @tuple l o xs n _ _ h1 h2 h3 h4 =>
          cases rb with
          | @tuple l' o' xs' n' _ _ k1 k2 k3 k4 =>
            have n1 : xs.size = (x1 :: r1).length := by simpa using SeqAt.ReadsAll.length _ _ _ h4
            have n2 : xs'.size = (x2 :: r2).length := by simpa using SeqAt.ReadsAll.length _ _ _ k4
            refine kat_lt h1 h3 k1 k3 (katLex_ok (x1 :: r1) (x2 :: r2) 0 _ _ _ _ h4 k4 hdd (by have q := SeqAt.room_in hroom; omega) (fun hb _ x r t ex => ?_) (by rw [n1, n2]) hq')
            obtain ⟨rfl, rfl⟩ := List.cons.inj ex
            have q := dataType_alike (hfirst _ _ hd)
            rw [← q] at hb
            exact dataType_tuple hb t
      · obtain ⟨fs, t1, t2, t3⟩ := each_katTups e ht
        refine kat_kind (T := dataType x₀) t1 (by omega) (fun f hf => ?_) (beq_self_eq_true _) hq
        obtain ⟨x, r, as, m1, m2⟩ := t3 f hf
        rw [← dataType_alike (hfirst x r m1)]
        exact looks_reads m2
end
def sortOk (ds : List PyData) : Bool := (ds.all fun d => decide (d.depth ≤ 64) && nodict d) && ((ds.all fun d => match d with | .tuple (_ :: _) => true | _ => false) && (ds.all fun d => ds.all fun d' => lexOk (itemsOf d) (itemsOf d')) ||
  (ds.all fun d => match d with | .none => false | .tuple _ => false | _ => true) && (ds.all fun d => ds.all fun d' => alike d d'))
theorem sortsOk {prog : Program} {w : World} {A : Around} {s : Shared} {vs : List Value} {ds : List PyData} (e : EachIs (fun v d => ∃ as, Reads s.heap v d as) vs ds) (h : sortOk ds = true) (hu : A.units + 65 < cLine) : SortsAt prog w A s (dataKind s.heap ds) vs ∧ ∀ d ∈ ds, nodict d = true := by
  unfold sortOk at h
  rw [Bool.and_eq_true] at h
  have hs : ∀ d ∈ ds, d.depth ≤ 64 ∧ nodict d = true := fun d hd => by
    have := List.all_eq_true.1 h.1 d hd
    rw [Bool.and_eq_true] at this
    exact ⟨of_decide_eq_true this.1, this.2⟩
  have hd : ∀ d ∈ ds, A.units + d.depth < cLine := fun d hd => by have := (hs d hd).1; omega
  refine ⟨?_, fun d hd => (hs d hd).2⟩
  rcases Bool.or_eq_true_iff.1 h.2 with h | h
  · rw [Bool.and_eq_true] at h
    refine sortsLex e (fun d hd => (hs d hd).2) (fun d hd => ?_) (fun d hd d' hd' => List.all_eq_true.1 (List.all_eq_true.1 h.2 d hd) d' hd') hd
    have := List.all_eq_true.1 h.1 d hd
    split at this
    · exact ⟨_, _, rfl⟩
    · cases this
  · rw [Bool.and_eq_true] at h
    refine SortsAt.data e (fun d hd d' hd' => List.all_eq_true.1 (List.all_eq_true.1 h.2 d hd) d' hd') (.inr fun d hd => ?_) hd
    have := List.all_eq_true.1 h.1 d hd
    constructor
    · rintro rfl; cases this
    · rintro xs rfl; cases this
end PD
end
section
namespace PD
open PySem PySem.W L2
section
variable {α β : Type}
def insB (le : α → α → Bool) (x : α) : List α → List α
  | [] => [x]
  | y :: ys => if le x y then x :: y :: ys else y :: insB le x ys
def isort (le : α → α → Bool) : List α → List α
  | [] => []
  | x :: xs => insB le x (isort le xs)
theorem insB_mem (le : α → α → Bool) (x z : α) : ∀ ys, z ∈ insB le x ys ↔ z = x ∨ z ∈ ys
  | [] => by simp [insB]
  | y :: ys => by
    unfold insB
    split
    · simp
    · rw [List.mem_cons, insB_mem le x z ys, List.mem_cons]
      constructor
      · rintro (h | h | h)
        · exact .inr (.inl h)
        · exact .inl h
        · exact .inr (.inr h)
      · rintro (h | h | h)
        · exact .inr (.inl h)
        · exact .inl h
        · exact .inr (.inr h)
theorem isort_mem (le : α → α → Bool) (z : α) : ∀ ys, z ∈ isort le ys ↔ z ∈ ys
  | [] => by simp [isort]
  | y :: ys => by rw [isort, insB_mem, isort_mem le z ys, List.mem_cons]
theorem insB_sorted {le : α → α → Bool} (h : TotalLe le) (x : α) : ∀ ys, ys.Pairwise (fun a b => le a b = true) → (insB le x ys).Pairwise (fun a b => le a b = true)
  | [], _ => by simp [insB]
  | y :: ys, hp => by
    rw [List.pairwise_cons] at hp
    unfold insB
    split
    · rename_i hx
      refine List.pairwise_cons.2 ⟨fun z hz => ?_, List.pairwise_cons.2 hp⟩
      rcases List.mem_cons.1 hz with rfl | hz
      · exact hx
      · exact h.trans _ _ _ hx (hp.1 z hz)
    · rename_i hx
      refine List.pairwise_cons.2 ⟨fun z hz => ?_, insB_sorted h x ys hp.2⟩
      rcases (insB_mem le x z ys).1 hz with rfl | hz
      · rcases h.total z y with q | q
        · exact absurd q hx
        · exact q
      · exact hp.1 z hz
theorem insB_filter {le : α → α → Bool} (h : TotalLe le) (c x : α) : ∀ ys, (insB le x ys).filter (sameRank le c) = (x :: ys).filter (sameRank le c)
  | [] => rfl
  | y :: ys => by
    unfold insB
    split
    · rfl
    · rename_i hx
      rw [List.filter_cons, insB_filter h c x ys]
      by_cases hc : sameRank le c x = true
      · have hy : sameRank le c y = false := by
          cases hh : sameRank le c y with
          | false => rfl
          | true =>
            unfold sameRank at hc hh
            rw [Bool.and_eq_true] at hc hh
            exact absurd (h.trans _ _ _ hc.2 hh.1) hx
        simp [List.filter_cons, hc, hy]
      · simp [List.filter_cons, hc]
theorem isort_sorted {le : α → α → Bool} (h : TotalLe le) : ∀ ys, (isort le ys).Pairwise (fun a b => le a b = true)
  | [] => List.Pairwise.nil
  | y :: ys => insB_sorted h y _ (isort_sorted h ys)
theorem isort_filter {le : α → α → Bool} (h : TotalLe le) (c : α) : ∀ ys, (isort le ys).filter (sameRank le c) = ys.filter (sameRank le c)
  | [] => rfl
  | y :: ys => by rw [isort, insB_filter h, List.filter_cons, isort_filter h c ys, ← List.filter_cons]
theorem isort_eq {le : α → α → Bool} (h : TotalLe le) (ys : List α) : isort le ys = ys.mergeSort le := sort_unique h (isort_sorted h ys) fun c => isort_filter h c ys
end
def pyOf (d : D) : PyData := (toPy d).getD .none
def leD : D → D → Bool := dataLe false pyOf
theorem leD_total : TotalLe leD := sortLe_total (PyProof.Rows.listOrd PyProof.Rows.itemOrd) false fun b => keyToks (pyOf b)
def sortD (xs : List D) : Option (List D) := (toPys xs).bind fun ps => if sortOk ps then some (isort leD xs) else none
def rSortedX (K : Frag) : List V → Hp → VK → Prop := fun vs H Q => ∃ a xs ps, vs = [V.ref a] ∧ SqL K H a xs ∧ DpAll K H xs ps ∧ sortOk ps = true ∧
  ∀ p, H p = none → Q (.ref p) (upd H p (.lst (((xs.zip ps).mergeSort (dataLe false Prod.snd)).map Prod.fst)))
section
variable {X : Cx}
theorem each_dp {pins : List (Addr × Obj)} {σ : St} {H : Hp} {s : Shared} (I : Inv X pins σ H s) : ∀ {xs : List V} {us : List Value} {ps : List PyData}, Vals xs us → DpAll X.K H xs ps → EachIs (fun v (b : V × PyData) => RelV b.1 v ∧ ∃ as, Reads s.heap v b.2 as) us (xs.zip ps)
  | _, _, [], .nil, _ => .nil
  | _, _, p :: ps, .nil, h => by cases h
  | _, _, [], .cons r t, h => by cases h
  | _, _, p :: ps, .cons r t, h => by
    cases h with
    | cons h1 h2 => exact .cons ⟨r, Dp.reads I _ _ _ h1 r⟩ (each_dp I t h2)
theorem dpAll_len {K : Frag} {H : Hp} : ∀ {xs : List V} {ps : List PyData}, DpAll K H xs ps → xs.length = ps.length
  | [], [], _ => rfl
  | [], _ :: _, h => by cases h
  | _ :: _, [], h => by cases h
  | _ :: xs, _ :: ps, h => by
    cases h with
    | cons h1 h2 => simp [dpAll_len h2]
theorem vals_each : ∀ {us : List Value} {bs : List (V × PyData)}, EachIs (fun v (b : V × PyData) => RelV b.1 v) us bs → Vals (bs.map Prod.fst) us
  | _, _, .nil => .nil
  | _, _, .cons h t => .cons h (vals_each t)
theorem cr_sortedX (hu : X.A.units + 70 < cLine) : CallR X (.builtin "sorted") (rSortedX X.K) := by
  intro pins s σ H vs us Q I r h
  obtain ⟨a, xs, ps, rfl, hs, hd, hok, q⟩ := h
  obtain ⟨its, rv, hl, hz⟩ := I.list hs
  rw [Vals.ref1 r]
  have e0 := each_dp I rv hd
  have hps : (xs.zip ps).map Prod.snd = ps := List.map_snd_zip (by rw [dpAll_len hd]; exact Nat.le_refl _)
  have er : EachIs (fun v d => ∃ as, Reads (sortingHeap (copyHeap s.heap its) (s.heap.objs.size + 1) its) v d as) its ps := by
    have := each_map (R := fun v d => ∃ as, Reads (sortingHeap (copyHeap s.heap its) (s.heap.objs.size + 1) its) v d as) Prod.snd (e0.mono fun v b h => ⟨h.2.choose, PyProof.Rows.Reads.keeps (fun _ _ => sorting_copy_old) h.2.choose_spec⟩)
    rwa [hps] at this
  obtain ⟨S, nd⟩ := sortsOk (prog := X.prog) (w := X.w) (A := X.A.in1.in1) (s := { s with heap := sortingHeap (copyHeap s.heap its) (s.heap.objs.size + 1) its }) er hok (by show X.A.units + 1 + 1 + 65 < cLine; omega)
  refine sorted_vals hl.isList S (by rw [← rv.length]; exact hz) ?_
  have hk : EachIs (fun v (b : V × PyData) => (dataKind (sortingHeap (copyHeap s.heap its) (s.heap.objs.size + 1) its) ps).keyOf v = some (keyToks b.2)) its (xs.zip ps) := by
    have l1 := e0.length
    refine EachIs.of_zip l1 fun z hz => ?_
    obtain ⟨h1, as, h2⟩ := e0.zip z hz
    exact dataKind_some' nd (List.of_mem_zip (List.of_mem_zip hz).2).2 (PyProof.Rows.Reads.keeps (fun _ _ => sorting_copy_old) h2)
  have hv := vals_each (sortVals_each (κ := dataKind (sortingHeap (copyHeap s.heap its) (s.heap.objs.size + 1) its) ps) (rev := false) (fun b : V × PyData => keyToks b.2) (e0.mono fun v b h => h.1) hk)
  obtain ⟨ep, he'⟩ := PyProof.Rows.sortedAll_at s.heap its (sortVals (dataKind (sortingHeap (copyHeap s.heap its) (s.heap.objs.size + 1) its) ps) false its its).toArray
  refine ⟨.ref _, upd H (s.heap.objs.size + 1) (.lst (((xs.zip ps).mergeSort (dataLe false Prod.snd)).map Prod.fst)), I.laid (t' := s.toks) (fun _ _ => PyProof.Rows.sortedAll_old) (Nat.le_succ _) ⟨?_, _, ep, hv, he'⟩, rfl, q _ (I.hok.fresh (Nat.le_succ _))⟩
  rw [List.length_map, (List.mergeSort_perm _ _).length_eq, List.length_zip, dpAll_len hd, Nat.min_self, ← dpAll_len hd]
  exact hz
end
def seqL : D → Option (List D)
  | .lst xs => some xs
  | .scr xs => some xs
  | _ => none
theorem seqL_rep {K : Frag} {F H : Hp} {v : V} {d : D} {xs : List D} (e : Ex F H) (r : Rep K F v d) (h : seqL d = some xs) : ∃ a vs, v = .ref a ∧ SqL K H a vs ∧ Reps K F vs xs := by
  cases r with
  | lst h' r' => cases h; exact ⟨_, _, rfl, .inl (.inl (e _ _ h')), r'⟩
  | scr h' r' => cases h; exact ⟨_, _, rfl, ex_l e h', r'⟩
  | _ => cases h
def dSorted (d : D) : Option D := (seqL d).bind fun xs => (sortD xs).map .lst
theorem toPys_map : ∀ {ds : List D} {ps : List PyData}, toPys ds = some ps → ps = ds.map pyOf
  | [], _, h => by simp [toPys] at h; subst h; rfl
  | d :: ds, _, h => by
    rw [toPys] at h
    cases h1 : toPy d with
    | none => rw [h1] at h; simp at h
    | some p =>
      cases h2 : toPys ds with
      | none => rw [h1, h2] at h; simp at h
      | some qs =>
        rw [h1, h2] at h
        simp only [Option.bind_some, Option.map_some, Option.some.injEq] at h
        subst h
        rw [List.map_cons, ← toPys_map h2]
        simp [pyOf, h1]
theorem reps_zip {K : Frag} {F : Hp} : ∀ {vs : List V} {ds : List D}, Reps K F vs ds → ∀ z ∈ vs.zip ds, Rep K F z.1 z.2
  | _, _, .nil, z, hz => by simp at hz
  | _, _, .cons h r, z, hz => by
    rw [List.zip_cons_cons] at hz
    rcases List.mem_cons.1 hz with rfl | hz
    · exact h
    · exact reps_zip r z hz
theorem reps_of_zip {K : Frag} {F : Hp} : ∀ {zs : List (V × D)}, (∀ z ∈ zs, Rep K F z.1 z.2) → Reps K F (zs.map Prod.fst) (zs.map Prod.snd)
  | [], _ => .nil
  | z :: zs, h => .cons (h z (List.mem_cons_self ..)) (reps_of_zip fun y hy => h y (List.mem_cons_of_mem _ hy))
end PD
end
section
namespace PD
open PySem PySem.Spec PyProof.Rows L2
abbrev SK (P : Program) (w : World) := PySem.strKind P w
def keyS (e : Int × Value) : Str := match e.2 with | .str k _ => k | _ => Str.empty
def GoodS (P : Program) (w : World) (e : Int × Value) : Prop := ∃ k tk, e.2 = Value.str k tk ∧ e.1 = (SK P w).hash k
def SetS (P : Program) (w : World) (h : Heap) (a : Addr) (xs : List Str) : Prop :=
  ∃ o es ep t, h.get? a = some o ∧ o.ExactSet ∧ o.data = .set es ep t ∧ (∀ e ∈ es.toList, GoodS P w e) ∧ (es.toList.map keyS).Nodup ∧ (∀ k, k ∈ xs ↔ k ∈ es.toList.map keyS) ∧
    es.size ≤ xs.length ∧ xs.length + 1 < scanBound ∧ t.fits es.size = true ∧ Ris t.place.toList ∧ (w.params.followText "set-order" = true ∨ t.led = true)
section
variable {P : Program} {w : World} {h h' : Heap} {a : Addr} {xs : List Str} {A : Around} {E : Value → Shared → Prop} {s : Shared}
theorem SetS.at (R : SetS P w h a xs) (k : ∀ o, h.get? a = some o → h'.get? a = some o) : SetS P w h' a xs := by
  obtain ⟨o, es, ep, t, ho, r⟩ := R
  exact ⟨o, es, ep, t, k o ho, r⟩
end
end PD
end
section
namespace PD
open PySem L2
section
variable {K : Frag} {own : List Nat} {P : Pm} {F0 H0 F : Hp} {σ : L2.St} {H : Hp} {δ : Env}
def bxIn (own : List Nat) (δ : Env) : Bool := !own.contains 0 || (match δ[(0 : Nat)]? with
  | some (some _) => true
  | _ => false)
theorem RS.frz1 [PmOk P] {i : Nat} (r : RS K own P F0 H0 F σ H δ) (hb : bxIn own δ = true) (hz : i ≠ 0) (hz2 : i ≠ 40) : ∃ F', Ex F F' ∧ RS K (own.filter (· != i)) P F0 H0 F' σ H δ := by
  classical
  obtain ⟨fp, h1, h2, h3⟩ := r.own
  by_cases hi : i ∈ own ∧ ∃ d, δ[i]? = some (some d)
  · obtain ⟨hi, d, hd⟩ := hi
    obtain ⟨v, hv, o⟩ := h1 i d hi hd
    have hnew : ∀ a, a ∈ fp i → H0 a = none := fun a ha => (h2 i a ha).2.2.elim id fun q => (((q.2 (PmOk.ok a q.1)).elim hz hz2 : False)).elim
    let F' : Hp := fun a => if a ∈ fp i then H a else F a
    have hin : ∀ a, a ∈ fp i → F' a = H a := fun a ha => if_pos ha
    have hout : ∀ a, a ∉ fp i → F' a = F a := fun a ha => if_neg ha
    have ef : Ex F F' := fun a q e => by
      by_cases x : a ∈ fp i
      · rw [(h2 i a x).1] at e; cases e
      · rw [hout a x]; exact e
    have rep : Rep K F' v d := by
      clear h1 h2 h3
      generalize fp i = fpi at o hin
      cases o with
      | lst h rr => exact .lst (by rw [hin _ (by simp)]; exact h) (rr.mono ef)
      | dic h rr => exact .dic (by rw [hin _ (by simp)]; exact h) (rr.mono ef)
      | ins h rr => exact .ins (by rw [hin _ (by simp)]; exact h) (rr.mono ef)
      | tab h => exact .fn _
      | obj h =>
        refine .obj (by rw [hin _ h.inp]; exact h.ob) (by rw [hin _ h.inx]; exact h.dxo) (repO_of fun j e hj => ?_)
        obtain ⟨w, hw, rw'⟩ := h.fld j e hj
        refine ⟨w, hw, ?_⟩
        split at rw'
        · obtain ⟨oc, hk, _⟩ := rw'
          cases oc with
          | lst h2 r2 => exact .lst (by rw [hin _ hk]; exact h2) (r2.mono ef)
          | dic h2 r2 => exact .dic (by rw [hin _ hk]; exact h2) (r2.mono ef)
        · exact rw'.mono ef
    refine ⟨F', ef, ?_⟩
    exact {
      ff := r.ff.trans ef
      fh := fun a q e => by
        by_cases x : a ∈ fp i
        · rw [hin a x] at e; exact e
        · rw [hout a x] at e; exact r.fh a q e
      hh := r.hh
      dm := r.dm
      nw := fun a e => by
        by_cases x : a ∈ fp i
        · exact .inr (hnew a x)
        · rw [hout a x] at e; exact r.nw a e
      ln := r.ln
      bxh := r.bxh
      par := fun a h => ⟨List.mem_filter.2 ⟨(r.par a h).1, by simp; exact fun q => hz q.symm⟩, (r.par a h).2⟩
      val := fun j dj hj e => by
        by_cases q : j = i
        · subst q
          rw [hd] at e; cases e
          exact ⟨v, hv, rep⟩
        · have hj' : j ∉ own := fun z => hj (List.mem_filter.2 ⟨z, by simpa using q⟩)
          obtain ⟨w, hw, rw'⟩ := r.val j dj hj' e
          exact ⟨w, hw, rw'.mono ef⟩
      own := by
        refine ⟨fun j => if j = i then [] else fp j, fun j dj hj e => ?_, fun j a ha => ?_, fun j k a hjk ha hk => ?_⟩
        · obtain ⟨z1, z2⟩ := List.mem_filter.1 hj
          have q : j ≠ i := by simpa using z2
          dsimp only
          rw [if_neg q]
          obtain ⟨w, hw, ow⟩ := h1 j dj z1 e
          exact ⟨w, hw, ow.keep ef fun a _ o e => e⟩
        · dsimp only at ha
          by_cases q : j = i
          · rw [if_pos q] at ha; cases ha
          · rw [if_neg q] at ha
            obtain ⟨b1, b2, b3⟩ := h2 j a ha
            exact ⟨by rw [hout a (fun x => h3 i j a (fun z => q z.symm) x ha)]; exact b1, b2, b3⟩
        · dsimp only at ha
          by_cases q : j = i
          · rw [if_pos q] at ha; cases ha
          · rw [if_neg q] at ha
            dsimp only at hk
            by_cases q2 : k = i
            · rw [if_pos q2] at hk; cases hk
            · rw [if_neg q2] at hk
              exact h3 j k a hjk ha hk }
  · refine ⟨F, Ex.refl _, ?_⟩
    exact {
      ff := r.ff, fh := r.fh, hh := r.hh, dm := r.dm, nw := r.nw, ln := r.ln, bxh := r.bxh
      par := fun a h => ⟨List.mem_filter.2 ⟨(r.par a h).1, by simp; exact fun q => hz q.symm⟩, (r.par a h).2⟩
      val := fun j dj hj e => by
        by_cases q : j = i
        · subst q
          exact r.val j dj (fun z => hi ⟨z, dj, e⟩) e
        · exact r.val j dj (fun z => hj (List.mem_filter.2 ⟨z, by simpa using q⟩)) e
      own := ⟨fp, fun j dj hj e => h1 j dj (List.mem_filter.1 hj).1 e, h2, h3⟩ }
end
def sfrz (own : List Nat) (k : Env → RO) : Env → RO := fun δ => if bxIn own δ = true then k δ else none
section
variable {X : Cx} {own : List Nat}
structure JB (X : Cx) (own : List Nat) (st : List Stmt) (g : Env → RO) : Prop where
  run : ∀ {P F0 H0 σ F H δ W o D} [PmOk P], RSf X ⟨own, P, F0, H0⟩ F σ H δ → Takes X W → g δ = some o → (∀ own' : List Nat, (∀ a, P.rt a → 0 ∈ own') → (40 ∈ own → 40 ∈ own') → PostS X ⟨own', P, F0, H0⟩ F W o D) → WSs X st D σ H
theorem jb_of {st : List Stmt} {g : Env → RO} (h : JSs X own st g) : JB X own st g := ⟨fun {P F0 H0 σ F H δ W o D} _ r tk hg hP => h.run r tk hg (hP own (fun a ha => (r.par a ha).1) id)⟩
theorem jb_cons {st : Stmt} {rest : List Stmt} {g k : Env → RO} (h : JS X own st g) (hr : JB X own rest k) : JB X own (st :: rest) (sseq g k) := ⟨fun {P F0 H0 σ F H δ W o D} _ r tk hg hP => by
  refine wss_of (pss_cons ps_ws pss_wss) ?_
  show WS X st { D with nx := WSs X rest D } σ H
  have hb : ∀ a, P.rt a → 0 ∈ own := fun a ha => (r.par a ha).1
  unfold sseq at hg
  cases e : g δ with
  | none => rw [e] at hg; cases hg
  | some y => rcases y with x | ⟨o1, δ1⟩
              · rw [e] at hg; cases hg; exact h.run r tk e (hP own hb id)
              · cases o1 with
                | nx => rw [e] at hg; exact h.run r tk e fun σ' F' H' r1 e1 => hr.run r1 tk hg fun own' h' h2 => (hP own' h' h2).later e1
                | rt d => rw [e] at hg; cases hg; exact h.run r tk e (hP own hb id)
                | bk => rw [e] at hg; cases hg; exact h.run r tk e (hP own hb id)
                | ct => rw [e] at hg; cases hg; exact h.run r tk e (hP own hb id)⟩
theorem jb_frz (i : Nat) {own' : List Nat} {st : List Stmt} {k : Env → RO} (h : JB X own' st k) (ho : own.filter (· != i) = own' := by rfl) (hz : i ≠ 0 := by decide) (hz2 : i ≠ 40 := by decide) : JB X own st (sfrz own k) := ⟨fun {P F0 H0 σ F H δ W o D} _ r tk hg hP => by
  subst ho
  unfold sfrz at hg
  split at hg
  · rename_i hb
    obtain ⟨F', e, r'⟩ := RS.frz1 r hb hz hz2
    exact h.run r' tk hg fun own' h' h2 => (hP own' h' fun z => h2 (List.mem_filter.2 ⟨z, by simpa using Ne.symm hz2⟩)).later e
  · cases hg⟩
end
section
variable {P : Program} {w : World} {K : Frag} {mg : Str → Option Value} {base : Heap}
theorem RS.any {own : List Nat} {F0 H0 F : Hp} {σ : L2.St} {H : Hp} {δ : Env} (r : RS K own Pm.no F0 H0 F σ H δ) : Grow F0 H0 F H := ⟨r.ff, r.fh, fun a o h => r.hh a o (fun h => h.elim) h, r.nw⟩
theorem bd_okB {qual : Str} {body : List Stmt} {scope : Scope} {f : Addr} {N ps : List Str} {own : List Nat} {g : Env → RO} (hon : own.all (fun i => decide (ps.length ≤ i)) = true)
    (hps : decide (ps.length ≤ N.length) = true)
    {cdv : Value} {A : Around} {outer : List PySem.Env} {s : Shared} {H : Hp} {E : XK} {vs : List V} {Q : VK} (hb : JB (cxOf (L2.CX P w) P w K mg base N qual scope f cdv A outer s H E) own body g) (h : spP K (den ps.length N.length g) vs H Q E) :
    ∃ t, PSs (cxOf (L2.CX P w) P w K mg base N qual scope f cdv A outer s H E) body t ∧ t { nx := fun _ H' => Q .non H', rt := Q } (L2.start N vs) H := by
  obtain ⟨F', ds, o, e, r, h1, hP⟩ := h
  unfold den at h1
  by_cases hl : ds.length = ps.length
  · rw [if_pos hl] at h1
    have hl' : ps.length ≤ N.length := of_decide_eq_true hps
    have hlv : vs.length = ps.length := by rw [Rep.len r, hl]
    refine ⟨_, pss_wss, ?_⟩
    have tk : Takes (cxOf (L2.CX P w) P w K mg base N qual scope f cdv A outer s H E) (fun cls d _ H => E cls d H) := takes_of rfl rfl rfl rfl
    have R0 : RSf (cxOf (L2.CX P w) P w K mg base N qual scope f cdv A outer s H E) ⟨own, Pm.no, F', H⟩ F' (L2.start N vs) H (ds.map some ++ List.replicate (N.length - ps.length) none) := {
      ff := Ex.refl _
      fh := e
      hh := fun _ _ _ h => h
      dm := fun _ h => h
      nw := fun _ h => .inl h
      ln := by unfold L2.start; simp [hl, hlv]
      par := fun _ h => h.elim
      bxh := fun _ h => h.elim
      val := fun i d _ h => by
        unfold L2.start
        exact Reps.some_get r h
      own := ⟨fun _ => [], And.intro (fun (i : Nat) (d : D) hi (h : (List.map some ds ++ List.replicate (N.length - ps.length) (none : Option D))[i]? = some (some d)) => by
        have := of_decide_eq_true (List.all_eq_true.1 hon i hi)
        rw [List.getElem?_append_right (by rw [List.length_map, hl]; exact this), List.getElem?_replicate] at h
        split at h <;> cases h) (And.intro (fun i a h => absurd h (by simp)) (fun i j a _ h => absurd h (by simp)))⟩ }
    cases e2 : g (ds.map some ++ List.replicate (N.length - ps.length) none) with
    | none => rw [e2] at h1; cases h1
    | some y =>
      rw [e2] at h1
      refine hb.run R0 tk e2 fun own' _ _ => ?_
      rcases y with ⟨x, δ'⟩ | ⟨o1, δ'⟩
      · cases h1
        exact fun cls dd σ' F1 H1 r1 e1 rx => hP cls dd F1 H1 r1.any rx
      · cases o1 with
        | rt d => cases h1; exact fun v σ' F1 H1 r1 e1 rx => hP v F1 H1 r1.any rx
        | nx => cases h1; exact fun σ' F1 H1 r1 e1 => hP .non F1 H1 r1.any .non
        | bk => cases h1
        | ct => cases h1
  · rw [if_neg hl] at h1; cases h1
theorem fn_okB {x qual : Str} {params : Arguments} {body : List Stmt} {scope : Scope} {f : Addr} {fd : FuncData} {dvs : List V} {kws : List (Str × V)} {N ps : List Str} {k : Nat} {own : List Nat} {g : Env → RO} (F : FunD K x qual params body scope dvs kws f fd) (S : FnScope N ps scope) (hon : own.all (fun i => decide (ps.length ≤ i)) = true)
    (hps : decide (ps.length ≤ N.length) = true)
    (hb : ∀ (cdv : Value) (A : Around) (outer : List PySem.Env) (s : Shared) (H : Hp) (E : XK), Room k (A.deeper (PyProof.Rows.envOfC qual scope s.heap.objs.size f cdv)) → JB (cxOf (L2.CX P w) P w K mg base N qual scope f cdv A outer s H E) own body g) :
    FnOk P w K mg base (L2.CX P w) (k + 1) f fd ps (spP K (den ps.length N.length g)) := by
  refine FunD.ok F S (fun vs H Q E h => ?_) (fun cdv A outer s H vs Q E hr h => bd_okB hon hps (hb cdv A outer s H E hr) h)
  obtain ⟨F', ds, o, e, r, h1, _⟩ := h
  unfold den at h1
  by_cases hl : ds.length = ps.length
  · rw [Rep.len r, hl]
  · rw [if_neg hl] at h1; cases h1
theorem bdB_okB {qual : Str} {body : List Stmt} {scope : Scope} {f : Addr} {N ps : List Str} {own : List Nat} {g : Env → RO} (hon : own.all (fun i => decide (i = 0 ∨ ps.length ≤ i)) = true) (h0 : own.contains 0 = true)
    (hps : decide (ps.length ≤ N.length) = true)
    {cdv : Value} {A : Around} {outer : List PySem.Env} {s : Shared} {H : Hp} {E : XK} {vs : List V} {Q : VK} (hb : JB (cxOf (L2.CX P w) P w K mg base N qual scope f cdv A outer s H E) own body g) (h : spB K (denB ps.length N.length g) vs H Q E) :
    ∃ t, PSs (cxOf (L2.CX P w) P w K mg base N qual scope f cdv A outer s H E) body t ∧ t { nx := fun _ H' => Q .non H', rt := Q } (L2.start N vs) H := by
  obtain ⟨F', p, ws, bs, B, ds, d, B', rfl, e, hF, hH, rb, rd, h1, hP⟩ := h
  unfold denB at h1
  by_cases hl : ds.length + 1 = ps.length
  · rw [if_pos hl] at h1
    have hl' : ps.length ≤ N.length := of_decide_eq_true hps
    have hlv : ws.length = ds.length := Rep.len rd
    have h0' : 0 ∈ own := by simpa using h0
    refine ⟨_, pss_wss, ?_⟩
    have tk : Takes (cxOf (L2.CX P w) P w K mg base N qual scope f cdv A outer s H E) (fun cls d _ H => E cls d H) := takes_of rfl rfl rfl rfl
    have R0 : RSf (cxOf (L2.CX P w) P w K mg base N qual scope f cdv A outer s H E) ⟨own, ⟨fun a => a = p, fun a => a = p, fun a => a = p⟩, F', H⟩ F' (L2.start N (.ref p :: ws)) H (some (.lst B) :: (ds.map some ++ List.replicate (N.length - ps.length) none)) := {
      ff := Ex.refl _
      fh := e
      hh := fun _ _ _ h => h
      dm := fun _ h => h
      nw := fun _ h => .inl h
      ln := by unfold L2.start; simp [hlv]; omega
      par := fun a h => ⟨h0', by rw [show a = p from h]; rfl⟩
      bxh := fun a h => by rw [show a = p from h]; show H p ≠ none; rw [hH]; simp
      val := fun i d hi h => by
        cases i with
        | zero => exact absurd h0' hi
        | succ i =>
          unfold L2.start
          rw [List.getElem?_cons_succ] at h
          rw [List.map_cons, List.cons_append, List.getElem?_cons_succ]
          exact Reps.some_get rd h
      own := ⟨fun i => if i = 0 then [p] else [], And.intro (fun (i : Nat) (d : D) hi (h : (some (D.lst B) :: (List.map some ds ++ List.replicate (N.length - ps.length) (none : Option D)))[i]? = some (some d)) => by
        cases i with
        | zero => cases h; exact ⟨.ref p, rfl, .lst hH rb⟩
        | succ i =>
          have := of_decide_eq_true (List.all_eq_true.1 hon _ hi)
          rw [List.getElem?_cons_succ, List.getElem?_append_right (by rw [List.length_map]; omega), List.getElem?_replicate] at h
          split at h <;> cases h) (And.intro (fun i a h => by
            dsimp only at h
            by_cases q : i = 0
            · rw [if_pos q] at h; cases List.mem_singleton.1 h; exact ⟨hF, by rw [hH]; simp, .inr ⟨rfl, fun _ => .inl q⟩⟩
            · rw [if_neg q] at h; cases h) (fun i j a hij h h2 => by
            dsimp only at h h2
            by_cases q : i = 0
            · rw [if_neg (fun z => hij (q.trans z.symm))] at h2; cases h2
            · rw [if_neg q] at h; cases h))⟩ }
    have fin : ∀ (own' : List Nat) (_ : 0 ∈ own') (v : V) (σ' : L2.St) (F1 H1 : Hp) (δ' : Env), RSf (cxOf (L2.CX P w) P w K mg base N qual scope f cdv A outer s H E) ⟨own', ⟨fun a => a = p, fun a => a = p, fun a => a = p⟩, F', H⟩ F1 σ' H1 δ' → δ'[0]? = some (some (.lst B')) → Rep K F1 v d → Q v H1 := fun own' ho' v σ' F1 H1 δ' r1 hB rv => by
      obtain ⟨p', bs', hp', hH', rb', hF1⟩ := r1.lst ho' hB
      have := (r1.par p rfl).2
      rw [this] at hp'; cases hp'
      exact hP v F1 H1 bs' ⟨r1.ff, r1.fh, fun a o hne h => r1.hh a o hne h, r1.nw, hF1⟩ hH' rb' rv
    cases e2 : g (some (.lst B) :: (ds.map some ++ List.replicate (N.length - ps.length) none)) with
    | none => rw [e2] at h1; cases h1
    | some y =>
      rw [e2] at h1
      refine hb.run R0 tk e2 fun own' ho' _ => ?_
      rcases y with ⟨x, δ'⟩ | ⟨o1, δ'⟩
      · cases h1
      · cases o1 with
        | rt d1 => obtain ⟨rfl, hB⟩ := bxOf_some h1; exact fun v σ' F1 H1 r1 e1 rx => fin own' (ho' p rfl) v σ' F1 H1 δ' r1 hB rx
        | nx => obtain ⟨rfl, hB⟩ := bxOf_some h1; exact fun σ' F1 H1 r1 e1 => fin own' (ho' p rfl) .non σ' F1 H1 δ' r1 hB .non
        | bk => cases h1
        | ct => cases h1
  · rw [if_neg hl] at h1; cases h1
theorem fnB_okB {x qual : Str} {params : Arguments} {body : List Stmt} {scope : Scope} {f : Addr} {fd : FuncData} {dvs : List V} {kws : List (Str × V)} {N ps : List Str} {k : Nat} {own : List Nat} {g : Env → RO} (F : FunD K x qual params body scope dvs kws f fd) (S : FnScope N ps scope) (hon : own.all (fun i => decide (i = 0 ∨ ps.length ≤ i)) = true) (h0 : own.contains 0 = true)
    (hps : decide (ps.length ≤ N.length) = true)
    (hb : ∀ (cdv : Value) (A : Around) (outer : List PySem.Env) (s : Shared) (H : Hp) (E : XK), Room k (A.deeper (PyProof.Rows.envOfC qual scope s.heap.objs.size f cdv)) → JB (cxOf (L2.CX P w) P w K mg base N qual scope f cdv A outer s H E) own body g) :
    FnOk P w K mg base (L2.CX P w) (k + 1) f fd ps (spB K (denB ps.length N.length g)) := by
  refine FunD.ok F S (fun vs H Q E h => ?_) (fun cdv A outer s H vs Q E hr h => bdB_okB hon h0 hps (hb cdv A outer s H E hr) h)
  obtain ⟨F', p, ws, bs, B, ds, d, B', rfl, e, hF, hH, rb, rd, h1, _⟩ := h
  unfold denB at h1
  by_cases hl : ds.length + 1 = ps.length
  · rw [List.length_cons, Rep.len rd, hl]
  · rw [if_neg hl] at h1; cases h1
end
end PD
end
section
namespace PD
open PySem L2
def Held (X : Cx) : Fr → List Bool → List D → List V → Hp → L2.St → Hp → Env → Prop
  | f, [], ds, vs, F, σ, H, δ => ds = [] ∧ vs = [] ∧ RSf X f F σ H δ
  | f, false :: bs, ds, vs, F, σ, H, δ => ∃ d es v ws, ds = d :: es ∧ vs = v :: ws ∧ Rep X.K F v d ∧ Held X f bs es ws F σ H δ
  | f, true :: bs, ds, vs, F, σ, H, δ => ∃ d es Dd ob ws P' F1 H1, ds = d :: es ∧ vs = .ref Dd :: ws ∧ OwnO X.K F ob d ∧ Chn f.P f.F0 f.H0 P' F1 H1 ∧ H1 Dd = some ob ∧ ¬ P' Dd ∧ F1 Dd = none ∧ f.H0 Dd = none ∧ Held X ⟨f.own, P', F1, H1⟩ bs es ws F σ H δ
def PostX (X : Cx) (f : Fr) (bs : List Bool) (F : Hp) (σ : L2.St) (W : WX) (o : Except (XD × Env) (List D × Env)) (Q : List V → Hp → Prop) : Prop := match o with
  | .ok (ds, δ') => ∀ vs F' H', Held X f bs ds vs F' σ H' δ' → Ex F F' → Q vs H'
  | .error (x, δ') => ∀ cls dd F' H', RSf X f F' σ H' δ' → Ex F F' → RepX X.K F' cls dd x → W cls dd σ H'
structure JX (X : Cx) (own : List Nat) (bs : List Bool) (es : List Expr) (g : Env → RE (List D)) : Prop where
  run : ∀ {P F0 H0 σ F H δ W Q o}, RSf X ⟨own, P, F0, H0⟩ F σ H δ → Takes X W → g δ = some o → PostX X ⟨own, P, F0, H0⟩ bs F σ W o Q → WA X es σ H Q
section
variable {X : Cx} {own : List Nat} {e a b : Expr} {es : List Expr} {pos : Pos}
theorem jx_nil : JX X own [] [] enil := ⟨fun {P F0 H0 σ F H δ W Q o} r tk hg hP => by cases hg; exact wa_of pa_nil (hP [] F H ⟨rfl, rfl, r⟩ (Ex.refl _))⟩
theorem bindE_some {α β : Type} {x : RE α} {k : α → Env → RE β} {o : Except (XD × Env) (β × Env)} (h : bindE x k = some o) : (∃ y, x = some (.error y) ∧ o = .error y) ∨ ∃ a δ, x = some (.ok (a, δ)) ∧ k a δ = some o := by
  cases x with
  | none => cases h
  | some y => cases y with
    | error y => cases h; exact .inl ⟨y, rfl, rfl⟩
    | ok y => obtain ⟨a, δ⟩ := y; exact .inr ⟨a, δ, rfl, h⟩
theorem jx_cons {bs : List Bool} {f : Env → RE D} {k : Env → RE (List D)} (ha : JE X own e f) (hr : JX X own bs es k) (hs : starEach (e :: es) X.env = (false, eval e X.env) :: starEach es X.env := by rfl) : JX X own (false :: bs) (e :: es) (econs f k) := ⟨fun {P F0 H0 σ F H δ W Q o} r tk hg hP => by
  refine wa_of (pa_cons pe_we pa_wa hs) ?_
  rcases bindE_some hg with ⟨y, h1, rfl⟩ | ⟨d, δ1, h1, hg⟩
  · exact ha.run r tk h1 hP
  · refine ha.run r tk h1 fun v F1 H1 r1 e1 rx => ?_
    rcases bindE_some hg with ⟨y, h2, rfl⟩ | ⟨ds, δ2, h2, hg⟩
    · exact hr.run r1 tk h2 fun c dd F' H' r2 e2 rx => hP c dd F' H' r2 (e1.trans e2) rx
    · cases hg
      exact hr.run r1 tk h2 fun vs F2 H2 hd e2 => hP (v :: vs) F2 H2 ⟨d, ds, v, vs, rfl, rfl, rx.mono e2, hd⟩ (e1.trans e2)⟩
theorem jx_new {bs : List Bool} {f : Env → RE D} {k : Env → RE (List D)} (ha : JN X own e f) (hr : JX X own bs es k) (hs : starEach (e :: es) X.env = (false, eval e X.env) :: starEach es X.env := by rfl) : JX X own (true :: bs) (e :: es) (econs f k) := ⟨fun {P F0 H0 σ F H δ W Q o} r tk hg hP => by
  refine wa_of (pa_cons pe_we pa_wa hs) ?_
  rcases bindE_some hg with ⟨y, h1, rfl⟩ | ⟨d, δ1, h1, hg⟩
  · exact ha.run r tk h1 hP
  · refine ha.run r tk h1 fun Dd ob F1 H1 l e1 rx => ?_
    obtain ⟨⟨P', Fb, Hb, r1, c, e, n, nf⟩, nh⟩ := l
    rcases bindE_some hg with ⟨y, h2, rfl⟩ | ⟨ds, δ2, h2, hg⟩
    · exact hr.run (P := P') (F0 := Fb) (H0 := Hb) r1 tk h2 fun cc dd F' H' r2 e2 rx => hP cc dd F' H' (RS.back r2 c) (e1.trans e2) rx
    · cases hg
      exact hr.run (P := P') (F0 := Fb) (H0 := Hb) r1 tk h2 fun vs F2 H2 hd e2 => hP (.ref Dd :: vs) F2 H2 ⟨d, ds, Dd, ob, vs, P', Fb, Hb, rfl, rfl, rx.mono e2, c, e, n, nf, nh, hd⟩ (e1.trans e2)⟩
def slotOk (own : List Nat) : List Bool → List Nat → Bool
  | [], [] => true
  | b :: bs, i :: is => (if b = true then own.contains i && i != 0 else !own.contains i) && !is.contains i && slotOk own bs is
  | _, _ => false
def setV : List Nat → List V → L2.St → L2.St
  | i :: is, v :: vs, σ => (setV is vs σ).set i (some v)
  | _, _, σ => σ
def setD : List Nat → List D → Env → Env
  | i :: is, d :: ds, δ => (setD is ds δ).set i (some d)
  | _, _, δ => δ
theorem Held.sets {K : Frag} : ∀ (bs : List Bool) (is : List Nat) {f : Fr} {ds : List D} {vs : List V} {F : Hp} {σ : L2.St} {H : Hp} {δ : Env}, slotOk f.own bs is = true → Held X f bs ds vs F σ H δ → RSf X f F (setV is vs σ) H (setD is ds δ)
  | [], [], f, ds, vs, F, σ, H, δ, _, h => by obtain ⟨rfl, rfl, r⟩ := h; exact r
  | [], _ :: _, _, _, _, _, _, _, _, h, _ => by cases h
  | _ :: _, [], _, _, _, _, _, _, _, h, _ => by cases h
  | false :: bs, i :: is, f, ds, vs, F, σ, H, δ, hs, h => by
    obtain ⟨d, es, v, ws, rfl, rfl, rv, hd⟩ := h
    simp only [slotOk, Bool.and_eq_true] at hs
    have hi : i ∉ f.own := by simpa using hs.1.1
    exact RS.set (Held.sets (K := K) bs is hs.2 hd) hi rv
  | true :: bs, i :: is, f, ds, vs, F, σ, H, δ, hs, h => by
    obtain ⟨d, es, Dd, ob, ws, P', F1, H1, rfl, rfl, ho, c, e, n, nf, nh, hd⟩ := h
    simp only [slotOk, Bool.and_eq_true, if_true] at hs
    have r := Held.sets (K := K) (f := ⟨f.own, P', F1, H1⟩) bs is hs.2 hd
    have l : LS X.K f.own f.P f.F0 f.H0 Dd ob F (setV is ws σ) H (setD is es δ) := ⟨⟨P', F1, H1, r, c, e, n, nf⟩, nh⟩
    exact l.keepOwn ho (by simpa using hs.1.1.1) (by simpa using hs.1.1.2)
theorem js_par2X (i j : Nat) {bs : List Bool} {x y : Str} {px py pt : Pos} {kt k2 pt2} {f : Env → RE (List D)} (hc : X.calm = true) (hN : X.N.Nodup) (ha : JX X own bs [a, b] f) (hi : X.N[i]? = some x := by rfl) (hj : X.N[j]? = some y := by rfl) (hij : i ≠ j := by decide)
    (hx : X.env.scope.names.lookup x = some .local := by rfl) (hy : X.env.scope.names.lookup y = some .local := by rfl) (hb : slotOk own bs [i, j] = true := by decide)
    (hw : swappedStores [.Tuple [.Name x px, .Name y py] kt pt] (.Tuple [a, b] k2 pt2) X.env = pure (some [x, y]) := by rfl)
    (hs : swapsWithSole [.Tuple [.Name x px, .Name y py] kt pt] (.Tuple [a, b] k2 pt2) pos.line X.env = pure false := by rfl) :
    JS X own (.Assign [.Tuple [.Name x px, .Name y py] kt pt] (.Tuple [a, b] k2 pt2) pos) (spar2 i j f) := ⟨fun {P F0 H0 σ F H δ W o D} _ r tk hg hP => by
  refine ws_of (ps_par hc hN hi hj hij hx hy pa_wa hw hs) ?_
  rcases bindE_some hg with ⟨y, h1, rfl⟩ | ⟨ds, δ1, h1, hg⟩
  · exact ha.run r tk h1 fun c dd F' H' r1 e1 rx => hP c dd σ F' H' r1 e1 rx
  · refine ha.run r tk h1 fun vs F1 H1 hd e1 => ?_
    rcases ds with _ | ⟨d1, _ | ⟨d2, _ | ⟨d3, ds⟩⟩⟩ <;> (try (cases hg; done))
    cases hg
    have R := Held.sets (K := X.K) bs [i, j] hb hd
    have : ∃ v w, vs = [v, w] := by
      rcases bs with _ | ⟨b1, _ | ⟨b2, _ | ⟨b3, bs⟩⟩⟩ <;> (try (simp [slotOk] at hb; done))
      cases b1 <;> cases b2 <;> simp only [Held] at hd
      · obtain ⟨_, _, v, ws, _, rfl, _, _, _, w, us, _, rfl, _, _, rfl, _⟩ := hd; exact ⟨v, w, rfl⟩
      · obtain ⟨_, _, v, ws, _, rfl, _, _, _, p, ob, us, _, _, _, _, rfl, _, _, _, _, _, _, _, rfl, _⟩ := hd; exact ⟨v, .ref p, rfl⟩
      · obtain ⟨_, _, p, ob, ws, _, _, _, _, rfl, _, _, _, _, _, _, _, _, w, us, _, rfl, _, _, rfl, _⟩ := hd; exact ⟨.ref p, w, rfl⟩
      · obtain ⟨_, _, p, ob, ws, _, _, _, _, rfl, _, _, _, _, _, _, _, _, p2, ob2, us, _, _, _, _, rfl, _, _, _, _, _, _, _, rfl, _⟩ := hd; exact ⟨.ref p, .ref p2, rfl⟩
    obtain ⟨v, w, rfl⟩ := this
    refine ⟨v, w, rfl, hP _ F1 H1 ?_ e1⟩
    have R' : RSf X ⟨own, P, F0, H0⟩ F1 ((σ.set j (some w)).set i (some v)) H1 ((δ1.set j (some d2)).set i (some d1)) := R
    rwa [List.set_comm _ _ (fun q => hij q.symm), List.set_comm _ _ (fun q => hij q.symm)] at R'⟩
end
end PD
end
section
namespace PD
open PySem L2
theorem Held.len {X : Cx} : ∀ (bs : List Bool) {f : Fr} {ds : List D} {vs : List V} {F : Hp} {σ : L2.St} {H : Hp} {δ : Env}, Held X f bs ds vs F σ H δ → vs.length = bs.length
  | [], _, _, _, _, _, _, _, h => by obtain ⟨_, rfl, _⟩ := h; rfl
  | false :: bs, _, _, _, _, _, _, _, h => by obtain ⟨_, _, _, _, _, rfl, _, h⟩ := h; simp [Held.len bs h]
  | true :: bs, _, _, _, _, _, _, _, h => by obtain ⟨_, _, _, _, _, _, _, _, _, rfl, _, _, _, _, _, _, h⟩ := h; simp [Held.len bs h]
section
variable {X : Cx} {own : List Nat} {e a b c : Expr} {es : List Expr} {pos : Pos}
theorem js_par3X (i j l : Nat) {bs : List Bool} {x y z : Str} {px py pz pt : Pos} {kt k2 pt2} {f : Env → RE (List D)} (hc : X.calm = true) (hN : X.N.Nodup) (ha : JX X own bs [a, b, c] f) (hi : X.N[i]? = some x := by rfl) (hj : X.N[j]? = some y := by rfl) (hl : X.N[l]? = some z := by rfl) (hij : i ≠ j := by decide) (hil : i ≠ l := by decide) (hjl : j ≠ l := by decide)
    (hx : X.env.scope.names.lookup x = some .local := by rfl) (hy : X.env.scope.names.lookup y = some .local := by rfl) (hz : X.env.scope.names.lookup z = some .local := by rfl) (hb : slotOk own bs [i, j, l] = true := by decide) (hbl : bs.length = 3 := by rfl)
    (hw : swappedStores [.Tuple [.Name x px, .Name y py, .Name z pz] kt pt] (.Tuple [a, b, c] k2 pt2) X.env = pure (some [x, y, z]) := by rfl)
    (hs : swapsWithSole [.Tuple [.Name x px, .Name y py, .Name z pz] kt pt] (.Tuple [a, b, c] k2 pt2) pos.line X.env = pure false := by rfl) :
    JS X own (.Assign [.Tuple [.Name x px, .Name y py, .Name z pz] kt pt] (.Tuple [a, b, c] k2 pt2) pos) (spar3 i j l f) := ⟨fun {P F0 H0 σ F H δ W o D} _ r tk hg hP => by
  refine ws_of (ps_par3 hc hN hi hj hl hij hil hjl hx hy hz pa_wa hw hs) ?_
  rcases bindE_some hg with ⟨y, h1, rfl⟩ | ⟨ds, δ1, h1, hg⟩
  · exact ha.run r tk h1 fun c dd F' H' r1 e1 rx => hP c dd σ F' H' r1 e1 rx
  · refine ha.run r tk h1 fun vs F1 H1 hd e1 => ?_
    rcases ds with _ | ⟨d1, _ | ⟨d2, _ | ⟨d3, _ | ⟨d4, ds⟩⟩⟩⟩ <;> (try (cases hg; done))
    cases hg
    have R := Held.sets (K := X.K) bs [i, j, l] hb hd
    have hlen := Held.len bs hd
    rw [hbl] at hlen
    rcases vs with _ | ⟨u, _ | ⟨v, _ | ⟨w, _ | ⟨v4, vs⟩⟩⟩⟩ <;> (try (simp at hlen; done))
    refine ⟨u, v, w, rfl, hP _ F1 H1 ?_ e1⟩
    have R' : RSf X ⟨own, P, F0, H0⟩ F1 (((σ.set l (some w)).set j (some v)).set i (some u)) H1 (((δ1.set l (some d3)).set j (some d2)).set i (some d1)) := R
    have e1 : ∀ {α : Type} (s : List (Option α)) (u v w : Option α), ((s.set l w).set j v).set i u = ((s.set i u).set j v).set l w := fun s u v w => by
      rw [List.set_comm _ _ (fun q => hij q.symm), List.set_comm (l := s) _ _ (fun q => hil q.symm), List.set_comm _ _ (fun q => hjl q.symm)]
    rwa [e1, e1] at R'⟩
def CallN (K : Frag) (r : List V → Hp → VK → Prop) (g : List D → Option D) : Prop := ∀ {F H : Hp} {vs : List V} {xs : List D} {z : D}, Ex F H → Reps K F vs xs → g xs = some z → ∀ Q : VK, (∀ p ob, H p = none → OwnO K F ob z → Q (.ref p) (upd H p ob)) → r vs H Q
theorem n_list {K : Frag} : CallN K (rList0 K) (one dList) := fun {F H vs xs z} e r h Q q => by
  obtain ⟨x, e0, h0⟩ := one_some h; subst e0; clear h; have h := h0; clear h0
  obtain ⟨w, rfl, rr⟩ := reps1 r
  cases rr with
  | tup h1 r1 => cases h; exact .inl ⟨_, _, rfl, .inr (ex_t e h1), fun p hp => q _ _ hp (.lst r1)⟩
  | lst h1 r1 => cases h; exact .inl ⟨_, _, rfl, .inl (SqL.of (e _ _ h1)), fun p hp => q _ _ hp (.lst r1)⟩
  | scr h1 r1 => cases h; exact .inl ⟨_, _, rfl, .inl (ex_l e h1), fun p hp => q _ _ hp (.lst r1)⟩
  | dic h1 r1 => cases h; exact .inr ⟨_, _, rfl, .of (e _ _ h1), fun p hp => q _ _ hp (.lst r1.keys)⟩
  | fdc h1 r1 => cases h; exact .inr ⟨_, _, rfl, .inr ⟨_, e _ _ h1⟩, fun p hp => q _ _ hp (.lst r1.keys)⟩
  | _ => cases h
theorem n_sorted {K : Frag} : CallN K (rSortedX K) (one dSorted) := fun {F H vs xs z} e r h Q q => by
  obtain ⟨x, rfl, h⟩ := one_some h
  obtain ⟨w, rfl, rx⟩ := reps1 r
  replace h : ((seqL x).bind fun xs => (sortD xs).map .lst) = some z := h
  cases h1 : seqL x with
  | none => rw [h1] at h; cases h
  | some ds =>
    rw [h1, Option.bind_some] at h
    obtain ⟨a, ws, rfl, hs, rs⟩ := seqL_rep e rx h1
    unfold sortD at h
    cases h2 : toPys ds with
    | none => rw [h2] at h; cases h
    | some ps =>
      rw [h2, Option.bind_some] at h
      split at h
      · rename_i h3
        cases h
        refine ⟨a, ws, ps, rfl, hs, dps_of e rs h2, h3, fun p hp => ?_⟩
        have hlen : ws.length = ds.length := Rep.len rs
        have hps := toPys_map h2
        have ez : ws.zip ps = (ws.zip ds).map fun z => (z.1, pyOf z.2) := by
          rw [hps, List.zip_map_right]; rfl
        have e1 : (ws.zip ps).mergeSort (W.dataLe false Prod.snd) = ((ws.zip ds).mergeSort (W.dataLe false fun z => pyOf z.2)).map fun z => (z.1, pyOf z.2) := by
          rw [ez]; exact (W.sort_maps (r := W.dataLe false fun z : V × D => pyOf z.2) (s := W.dataLe false Prod.snd) (fun z : V × D => (z.1, pyOf z.2)) (fun a _ b _ => rfl)).symm
        have e2 : isort leD ds = ((ws.zip ds).mergeSort (W.dataLe false fun z => pyOf z.2)).map Prod.snd := by
          rw [isort_eq leD_total, W.sort_maps (r := W.dataLe false fun z : V × D => pyOf z.2) (s := leD) Prod.snd (fun a _ b _ => rfl), List.map_snd_zip (by omega)]
        have e3 : ((ws.zip ps).mergeSort (W.dataLe false Prod.snd)).map Prod.fst = ((ws.zip ds).mergeSort (W.dataLe false fun z => pyOf z.2)).map Prod.fst := by
          rw [e1, List.map_map]; rfl
        rw [e3]
        refine q p _ hp (.lst ?_)
        rw [e2]
        exact reps_of_zip fun z hz => reps_zip rs z ((List.mergeSort_perm _ _).mem_iff.1 hz)
      · cases h
def ecallG (g : List D → Option D) (f : Env → RE (List D)) : Env → RE D := fun δ => bindE (f δ) fun xs δ' => (g xs).map fun z => .ok (z, δ')
theorem ecallG_some {g : List D → Option D} {xs : List D} {δ' : Env} {o : Except (XD × Env) (D × Env)} (h : ((g xs).map fun z => (.ok (z, δ') : Except (XD × Env) (D × Env))) = some o) : ∃ z, g xs = some z ∧ o = .ok (z, δ') := by
  cases e : g xs with
  | none => rw [e] at h; cases h
  | some z => rw [e] at h; cases h; exact ⟨z, rfl, rfl⟩
section
variable {id : String} {x : Str} {p : Pos} {r : List V → Hp → VK → Prop} {g : List D → Option D} {f : Env → RE (List D)}
theorem jn_ty {T : String} (hc : CallR X (.type T) r) (hd : CallN X.K r g) (hm : X.mg x = none) (hv : bootBuiltins x = some (.type T)) (ha : JAE X own (e :: es) f) (hg : Gl X x := by rfl)
    (hn : x ≠ "__name__" := by decide) (hdb : (x == ("__debug__" : Str)) = false := by decide) (he : starEach (e :: es) X.env = (false, eval e X.env) :: starEach es X.env := by rfl) (hpl : (backTo pos (starEach es X.env)).any (·.1) = false := by rfl) :
    JN X own (.Call (.Name x p) (e :: es) [] pos) (ecallG g f) := ⟨fun {P F0 H0 σ F H δ W Q o} rr tk hg' hP =>
  we_of (pe_callTy hc hg hm hv pa_wa hn hdb he hpl) (sn_bind (w := WA X (e :: es)) ha rr tk hg' hP fun xs vs δ1 F1 H1 h1 e1 rx r1 P1 => by
    obtain ⟨z, hz, rfl⟩ := ecallG_some h1
    exact hd r1.fh rx hz _ fun p ob hp ho => P1 p ob F1 _ (.start r1 hp) (Ex.refl _) ho)⟩
theorem je_bi (hc : CallR X (.builtin id) r) (hd : CallD X.K r g) (hm : X.mg x = none) (hv : bootBuiltins x = some (.builtin id)) (ha : JAE X own (e :: es) f) (hg : Gl X x := by rfl)
    (hn : x ≠ "__name__" := by decide) (hdb : (x == ("__debug__" : Str)) = false := by decide) (he : starEach (e :: es) X.env = (false, eval e X.env) :: starEach es X.env := by rfl) (hpl : (backTo pos (starEach es X.env)).any (·.1) = false := by rfl) :
    JE X own (.Call (.Name x p) (e :: es) [] pos) (ecallG g f) := ⟨fun {P F0 H0 σ F H δ W Q o} rr tk hg' hP =>
  we_of (pe_callB hc hg hm hv pa_wa hn hdb he hpl) (js_bind (w := WA X (e :: es)) ha rr tk hg' hP fun xs vs δ1 F1 H1 h1 e1 rx r1 P1 => by
    obtain ⟨z, hz, rfl⟩ := ecallG_some h1
    exact hd r1.fh rx hz _ fun v F' H' g rv => P1 v F' H' (r1.grow g) g.ff rv)⟩
theorem je_ty {T : String} (hc : CallR X (.type T) r) (hd : CallD X.K r g) (hm : X.mg x = none) (hv : bootBuiltins x = some (.type T)) (ha : JAE X own (e :: es) f) (hg : Gl X x := by rfl)
    (hn : x ≠ "__name__" := by decide) (hdb : (x == ("__debug__" : Str)) = false := by decide) (he : starEach (e :: es) X.env = (false, eval e X.env) :: starEach es X.env := by rfl) (hpl : (backTo pos (starEach es X.env)).any (·.1) = false := by rfl) :
    JE X own (.Call (.Name x p) (e :: es) [] pos) (ecallG g f) := ⟨fun {P F0 H0 σ F H δ W Q o} rr tk hg' hP =>
  we_of (pe_callTy hc hg hm hv pa_wa hn hdb he hpl) (js_bind (w := WA X (e :: es)) ha rr tk hg' hP fun xs vs δ1 F1 H1 h1 e1 rx r1 P1 => by
    obtain ⟨z, hz, rfl⟩ := ecallG_some h1
    exact hd r1.fh rx hz _ fun v F' H' g rv => P1 v F' H' (r1.grow g) g.ff rv)⟩
end
def enor (f g : Env → RE D) : Env → RE D := fun δ => bindE (f δ) fun x δ' => match x with
  | .lst [] => g δ'
  | .lst (y :: ys) => some (.ok (.lst (y :: ys), δ'))
  | _ => none
theorem jn_or {f g : Env → RE D} (ha : JN X own a f) (hb : JN X own b g) : JN X own (.BoolOp .Or [a, b] pos) (enor f g) := ⟨fun {P F0 H0 σ F H δ W Q o} r tk hg hP => by
  refine we_of (pe_orT pe_we (pe_one pe_we)) ?_
  rcases bindE_some hg with ⟨y, h1, rfl⟩ | ⟨d, δ1, h1, hg⟩
  · exact ha.run r tk h1 hP
  · refine ha.run r tk h1 fun Dd ob F1 H1 l e1 rx => ?_
    cases rx with
    | dic _ => cases hg
    | @lst vs ds rr =>
      refine ⟨!vs.isEmpty, .inl ⟨_, SqL.of l.at, rfl⟩, ?_⟩
      cases rr with
      | nil =>
        rw [if_neg (by simp)]
        exact hb.run l.rs tk hg (hP.later e1)
      | cons h1' r1' =>
        rw [if_pos (by simp)]
        cases hg
        exact hP Dd _ F1 H1 l e1 (.lst (.cons h1' r1'))⟩
def sixset (i : Nat) (fk f : Env → RE D) : Env → RO := fun δ => bindE (f δ) fun d δ1 => (match δ1[i]? with
  | some (some (.lst _)) => bindE (fk δ1) fun k δ2 => (match δ2[i]? with
    | some (some (.lst ds)) => (match k with
      | .int n => (match ixN ds.length n with
        | some j => some (.ok (.nx, δ2.set i (some (.lst (ds.set j d)))))
        | none => none)
      | _ => none)
    | _ => none)
  | _ => none)
theorem Reps.set {K : Frag} {F : Hp} {v : V} {d : D} : ∀ {vs : List V} {ds : List D} (n : Nat), Reps K F vs ds → Rep K F v d → Reps K F (vs.set n v) (ds.set n d)
  | _, _, _, .nil, _ => .nil
  | _, _, 0, .cons _ r, h => .cons h r
  | _, _, n + 1, .cons h0 r, h => .cons h0 (Reps.set n r h)
theorem js_ixset (i : Nat) {x : Str} {k : Expr} {p1 p2 : Pos} {fk f : Env → RE D} (h : JE X own e f) (hk : JE X own k fk) (hi : X.N[i]? = some x := by rfl) (hv : Vis X.env.scope x := by first | exact Or.inl rfl | exact Or.inr (Or.inl rfl) | exact Or.inr (Or.inr rfl)) (ho : i ∈ own := by decide)
    (hd : (x == ("__debug__" : Str)) = false := by decide) (hcd : (x == ("__classdict__" : Str)) = false := by decide)
    (hgs : ∀ v, assign (.Subscript (.Name x p1) k p2) X.env v = (do
      let ov ← holding [v] (eval (.Name x p1) X.env)
      let iv ← holding [v, ov] (eval k X.env)
      standAt p2
      holding [v, ov, iv] (setItem ov iv v)
      release [v, ov, iv] []) := by intro _; rfl)
    (hs : swapsWithSole [.Subscript (.Name x p1) k p2] e pos.line X.env = pure false := by rfl) (hw : swappedStores [.Subscript (.Name x p1) k p2] e X.env = pure none := by rfl) (h1 : (assignEach [.Subscript (.Name x p1) k p2] X.env).map (·.2) = [assign (.Subscript (.Name x p1) k p2) X.env] := by rfl) :
    JS X own (.Assign [.Subscript (.Name x p1) k p2] e pos) (sixset i fk f) := ⟨fun {P F0 H0 σ F H δ W o D} _ r tk hg hP => by
  refine ws_of (ps_asg pe_we (pg_sub (pe_var hi hv hd hcd) pe_we set_list hgs) hs hw h1) ?_
  refine se_bind (w := WE X e) h r tk hg hP fun d v δ1 F1 H1 h1 e1 rx r1 P1 => ?_
  obtain ⟨ds0, h0, hg1⟩ := own_at h1
  obtain ⟨p, vs0, hp, hH0, rv0, hF0⟩ := r1.lst ho h0
  refine ⟨_, hp, ?_⟩
  refine se_bind (w := WE X k) hk r1 tk hg1 P1 fun kd kv δ2 F2 H2 h2 e2 rk r2 P2 => ?_
  obtain ⟨ds, h3, h4⟩ := own_at h2
  clear h2
  obtain ⟨p', vs, hp', hH, rv, hF⟩ := r2.lst ho h3
  rw [hp] at hp'; cases hp'
  cases rk with
  | int n =>
    dsimp only at h4
    split at h4
    · rename_i j hj
      cases h4
      exact ⟨p, vs, n, j, rfl, rfl, hH, by rw [Rep.len rv]; exact hj, P2 _ F2 _ (r2.put ho h3 hp (rv.set j (rx.mono e2))) (Ex.refl _)⟩
    · cases h4
  | _ => cases h4⟩
end
end PD
end
section
namespace PD
open PySem L2
section
variable {X : Cx} {own : List Nat} {a b e : Expr} {rest : List Expr} {pos : Pos}
def etnot (t : Env → RE Bool) : Env → RE Bool := fun δ => bindE (t δ) fun b δ' => some (.ok (!b, δ'))
theorem jte_not {t : Env → RE Bool} (ha : JTE X own a t) : JTE X own (.UnaryOp .Not a pos) (etnot t) := ⟨fun {P F0 H0 σ F H δ W Q o} r tk hg hP =>
  wt_of (pt_not pt_wt) (js_bind (w := WT X a) ha r tk hg hP fun x v δ1 F1 H1 h1 e1 rx r1 P1 => by cases rx; exact P1.fin h1 _ F1 H1 r1 (Ex.refl _) rfl)⟩
def etr (g : Env → RE D) : Env → RE Bool := fun δ => bindE (g δ) fun x δ' => (truth x).map fun b => .ok (b, δ')
theorem jte_truth {g : Env → RE D} (ha : JE X own a g) (he : ∀ whole, isTrue a X.env whole = (do let v ← whole; standAt a.pos; holding [v] (truthy v)) := by intro _; rfl) : JTE X own a (etr g) := ⟨fun {P F0 H0 σ F H δ W Q o} r tk hg hP =>
  wt_of (pt_truth pe_we he) (js_bind (w := WE X a) ha r tk hg hP fun x v δ1 F1 H1 h1 e1 rx r1 P1 => by
    simp only [Option.map_eq_some_iff] at h1
    obtain ⟨k, hk, rfl⟩ := h1
    exact ⟨k, tru_of r1.fh rx hk, P1 k F1 H1 r1 (Ex.refl _) rfl⟩)⟩
end
section
variable {X : Cx} {own : List Nat} {elt tg iter : Expr} {ifs : List Expr} {scope : Scope} {ow : List (Str × Nat)} {pos : Pos} {f : Env → RE (List D)} {g : D → Env → Option Env} {is : List Nat} {t : Env → RE Bool} {e : Env → RE D}
theorem wipe_wipe {σ : L2.St} {vs vs1 : List Nat} (h : ∀ i, i ∈ vs1 → i ∈ vs) : wipe (wipe σ vs1) vs = wipe σ vs := by
  apply List.ext_getElem?
  intro j
  rw [wipe_get, wipe_get, wipe_get]
  by_cases hj : j ∈ vs
  · rw [if_pos hj, if_pos hj]
    split
    · cases σ[j]? <;> rfl
    · rfl
  · rw [if_neg hj, if_neg hj, if_neg (fun q => hj (h j q))]
end
end PD
end
section
namespace PD
open PySem L2
section
variable {X : Cx} {own : List Nat} {elt tg iter tg1 iter1 : Expr} {ifs ifs1 : List Expr} {scope : Scope} {ow : List (Str × Nat)} {vs1 : List Nat} {pos : Pos} {f f1 : Env → RE (List D)} {g g1 : D → Env → Option Env} {is is1 : List Nat} {t t1 : Env → RE Bool} {e : Env → RE D}
end
end PD
end
section
namespace PD
open PySem PySem.Spec PyProof.Rows L2 HT
section
variable {prog : Program} {w : World} {A : Around} {E : Value → Shared → Prop} {s : Shared}
end
end PD
end
section
namespace PD
open PySem L2
theorem Reps.rev {K : Frag} {F : Hp} : ∀ {vs : List V} {ds : List D}, Reps K F vs ds → Reps K F vs.reverse ds.reverse
  | _, _, .nil => .nil
  | _, _, .cons h r => by
    rw [List.reverse_cons, List.reverse_cons]
    exact (Reps.rev r).app (.cons h .nil)
section
variable {X : Cx}
mutual
theorem toPy_nodict : ∀ {d : D} {p : PyData}, toPy d = some p → p.hasDict = false
  | .non, _, h => by cases h; simp [PyData.hasDict]
  | .bl _, _, h => by cases h; simp [PyData.hasDict]
  | .int _, _, h => by cases h; simp [PyData.hasDict]
  | .str _, _, h => by cases h; simp [PyData.hasDict]
  | .tup xs, p, h => by
    rw [toPy] at h
    cases h1 : toPys xs with
    | none => rw [h1] at h; cases h
    | some ps => rw [h1] at h; cases h; rw [PyData.hasDict]; exact toPys_nodict h1
  | .lst xs, p, h => by
    rw [toPy] at h
    cases h1 : toPys xs with
    | none => rw [h1] at h; cases h
    | some ps => rw [h1] at h; cases h; rw [PyData.hasDict]; exact toPys_nodict h1
  | .scr xs, p, h => by
    rw [toPy] at h
    cases h1 : toPys xs with
    | none => rw [h1] at h; cases h
    | some ps => rw [h1] at h; cases h; rw [PyData.hasDict]; exact toPys_nodict h1
  | .npt xs, p, h => by
    rw [toPy] at h
    cases h1 : toPys xs with
    | none => rw [h1] at h; cases h
    | some ps => rw [h1] at h; cases h; rw [PyData.hasDict]; exact toPys_nodict h1
  | .dic _, _, h => by cases h
  | .fdc _, _, h => by cases h
  | .obj _ _, _, h => by cases h
  | .ins _ _, _, h => by cases h
  | .exc _ _, _, h => by cases h
  | .fn _, _, h => by cases h
theorem toPys_nodict : ∀ {ds : List D} {ps : List PyData}, toPys ds = some ps → PyData.hasDictAll ps = false
  | [], _, h => by cases h; simp [PyData.hasDictAll]
  | d :: ds, ps, h => by
    rw [toPys] at h
    cases h1 : toPy d with
    | none => rw [h1] at h; cases h
    | some p =>
      cases h2 : toPys ds with
      | none => rw [h1, h2] at h; cases h
      | some qs =>
        rw [h1, h2] at h; cases h
        rw [PyData.hasDictAll, toPy_nodict h1, toPys_nodict h2]; rfl
end
def rRepr (K : Frag) : List V → Hp → VK → Prop := fun vs H Q => ∃ x p, vs = [x] ∧ Dp K H x p ∧ p.hasDict = false ∧ p.showable = true ∧ p.shown.length ≤ sizeLine ∧ p.depth ≤ 64 ∧ Q (.str p.shown) H
theorem cr_repr (hg : X.A.guards = some []) (hu : X.A.units + 70 < cLine) : CallR X (.builtin "repr") (rRepr X.K) := by
  intro pins s σ H vs us Q I r h
  obtain ⟨x, p, rfl, dp, nd, sh, hz, hd, q⟩ := h
  obtain ⟨u, rfl, ru⟩ := vals1 r
  cases dp with
  | non =>
    cases (show u = Value.none from ru)
    exact P.repr_of_none ⟨.str _, H, I.tok _, ⟨_, rfl⟩, by simpa [PyData.shown] using q⟩
  | bl b =>
    cases (show u = Value.bool b from ru)
    exact P.repr_of_bool ⟨.str _, H, I.tok _, ⟨_, rfl⟩, by simpa [PyData.shown] using q⟩
  | int i =>
    obtain ⟨t, rfl⟩ := ru
    exact P.repr_of_int (by simpa [PyData.showable] using sh) ⟨.str _, H, I.tok _, ⟨_, rfl⟩, by simpa [PyData.shown] using q⟩
  | str y =>
    obtain ⟨t, rfl⟩ := ru
    exact P.repr_of_str ⟨.str _, H, I.tok _, ⟨_, rfl⟩, by simpa [PyData.shown] using q⟩ (by simpa [PyData.shown] using hz)
  | @lst a xs ds hs hx =>
    cases (show u = Value.ref a from ru)
    obtain ⟨as, ra⟩ := Dp.reads I _ _ (.ref a) (Dp.lst hs hx) rfl
    exact repr_of_reads' ra sh (fun h => by rw [nd] at h; cases h) hg (by omega) (fun _ _ e => e) (fun h' u tk hk => ⟨.str _, H, I.kept hk, ⟨_, rfl⟩, q⟩) hz
  | @tup a xs ds hs hx =>
    cases (show u = Value.ref a from ru)
    obtain ⟨as, ra⟩ := Dp.reads I _ _ (.ref a) (Dp.tup hs hx) rfl
    exact repr_of_reads' ra sh (fun h => by rw [nd] at h; cases h) hg (by omega) (fun _ _ e => e) (fun h' u tk hk => ⟨.str _, H, I.kept hk, ⟨_, rfl⟩, q⟩) hz
def dRepr (d : D) : Option D := (toPy d).bind fun p => if p.showable && decide (p.shown.length ≤ sizeLine) && decide (p.depth ≤ 64) then some (.str p.shown) else none
theorem d_repr {K : Frag} : CallD K (rRepr K) (one dRepr) := fun {F H vs xs z} e r h Q q => by
  obtain ⟨x, rfl, h⟩ := one_some h
  obtain ⟨w, rfl, rx⟩ := reps1 r
  replace h : ((toPy x).bind fun p => if p.showable && decide (p.shown.length ≤ sizeLine) && decide (p.depth ≤ 64) then some (.str p.shown) else none) = some z := h
  cases h1 : toPy x with
  | none => rw [h1] at h; cases h
  | some p =>
    rw [h1, Option.bind_some] at h
    split at h
    · rename_i hc
      simp only [Bool.and_eq_true, decide_eq_true_eq] at hc
      cases h
      exact ⟨w, p, rfl, dp_of e rx h1, toPy_nodict h1, hc.1.1, hc.1.2, hc.2, q _ _ _ (.refl e) (.str _)⟩
    · cases h
end
end PD
end
section
namespace PD
open PySem L2
theorem hu70 {k : Nat} {A : Around} (hr : Room k A) : A.units + 70 < cLine := by have := hr.un; omega
def PostR (X : Cx) (f : Fr) (F : Hp) (W : WX) (o : Except (XD × Env) (D × Env)) (D : Ends) : Prop := match o with
  | .ok (d, δ') => ∀ Dd ob σ' F' H', LS X.K f.own f.P f.F0 f.H0 Dd ob F' σ' H' δ' → Ex F F' → OwnO X.K F' ob d → D.rt (.ref Dd) H'
  | .error (x, δ') => ∀ cls dd σ' F' H', RSf X f F' σ' H' δ' → Ex F F' → RepX X.K F' cls dd x → W cls dd σ' H'
structure JR (X : Cx) (own : List Nat) (st : List Stmt) (g : Env → RE D) : Prop where
  run : ∀ {P F0 H0 σ F H δ W o D} [PmOk P], RSf X ⟨own, P, F0, H0⟩ F σ H δ → Takes X W → g δ = some o → PostR X ⟨own, P, F0, H0⟩ F W o D → WSs X st D σ H
def rseq (a : Env → RO) (b : Env → RE D) : Env → RE D := fun δ => match a δ with
  | some (.ok (.nx, δ')) => b δ'
  | some (.error e) => some (.error e)
  | _ => none
section
variable {X : Cx} {own : List Nat} {e a : Expr} {es : List Expr} {pos : Pos}
theorem PostR.later {f : Fr} {F F1 : Hp} {W : WX} {o : Except (XD × Env) (D × Env)} {D : Ends} (e : Ex F F1) (p : PostR X f F W o D) : PostR X f F1 W o D := by
  rcases o with x | ⟨d, δ'⟩
  · exact fun c d σ F' H' r g' rv => p c d σ F' H' r (e.trans g') rv
  · exact fun Dd ob σ F' H' r g' rv => p Dd ob σ F' H' r (e.trans g') rv
theorem jr_ret {g : Env → RE D} (h : JN X own e g) : JR X own [.Return (some e) pos] g := ⟨fun {P F0 H0 σ F H δ W o D} _ r tk hg hP => by
  refine wss_of (pss_one (ps_ret pe_we)) ?_
  rcases o with ⟨x, δ1⟩ | ⟨d, δ1⟩
  · exact h.run r tk hg fun c d F' H' r1 e1 rx => hP c d σ F' H' r1 e1 rx
  · exact h.run r tk hg fun Dd ob F' H' l ex ro => hP Dd ob σ F' H' l ex ro⟩
theorem jr_cons {st : Stmt} {rest : List Stmt} {g : Env → RO} {k : Env → RE D} (h : JS X own st g) (hr : JR X own rest k) : JR X own (st :: rest) (rseq g k) := ⟨fun {P F0 H0 σ F H δ W o D} _ r tk hg hP => by
  refine wss_of (pss_cons ps_ws pss_wss) ?_
  show WS X st { D with nx := WSs X rest D } σ H
  unfold rseq at hg
  cases e : g δ with
  | none => rw [e] at hg; cases hg
  | some y => rcases y with x | ⟨o1, δ1⟩
              · rw [e] at hg; cases hg; exact h.run r tk e hP
              · cases o1 with
                | nx => rw [e] at hg; exact h.run r tk e fun σ' F' H' r1 e1 => hr.run r1 tk hg (hP.later e1)
                | rt d => rw [e] at hg; cases hg
                | bk => rw [e] at hg; cases hg
                | ct => rw [e] at hg; cases hg⟩
end
structure GrowN (p : Addr) (F H F' H' : Hp) : Prop where
  g : Grow F H F' H'
  new : H p = none
  np : F' p = none
def spN (K : Frag) (m : List D → Rs D) : Sp := fun vs H Q E => ∃ F ds o, Ex F H ∧ Reps K F vs ds ∧ m ds = some o ∧ (match o with
  | .ok d => ∀ p ob F' H', GrowN p F H F' H' → H' p = some ob → OwnO K F' ob d → Q (.ref p) H'
  | .error x => ∀ cls dd F' H', Grow F H F' H' → RepX K F' cls dd x → E cls dd H')
structure FnN (P : Program) (w : World) (K : Frag) (mg : Str → Option Value) (base : Heap) (k : Nat) (x : Str) (m : List D → Rs D) : Prop where
  at_ : ∃ f fd ps, FnOk P w K mg base (L2.CX P w) k f fd ps (spN K m) ∧ mg x = some (.ref f) ∧ PySem.W.keepIn K (.ref f) = true ∧ Binds K fd ps []
def denN (n N : Nat) (body : Env → RE D) (ds : List D) : Rs D := if ds.length = n then (match body (ds.map some ++ List.replicate (N - n) none) with
  | none => none
  | some (.ok (d, _)) => ok d
  | some (.error (x, _)) => some (.error x)) else none
section
variable {P : Program} {w : World} {K : Frag} {mg : Str → Option Value} {base : Heap}
theorem fnN_ok {x qual : Str} {params : Arguments} {body : List Stmt} {scope : Scope} {f : Addr} {fd : FuncData} {dvs : List V} {kws : List (Str × V)} {N ps : List Str} {k : Nat} {own : List Nat} {g : Env → RE D} (F : FunD K x qual params body scope dvs kws f fd) (S : FnScope N ps scope) (hon : own.all (fun i => decide (ps.length ≤ i)) = true)
    (hps : decide (ps.length ≤ N.length) = true)
    (hb : ∀ (cdv : Value) (A : Around) (outer : List PySem.Env) (s : Shared) (H : Hp) (E : XK), Room k (A.deeper (PyProof.Rows.envOfC qual scope s.heap.objs.size f cdv)) → JR (cxOf (L2.CX P w) P w K mg base N qual scope f cdv A outer s H E) own body g) :
    FnOk P w K mg base (L2.CX P w) (k + 1) f fd ps (spN K (denN ps.length N.length g)) := by
  refine FunD.ok F S (fun vs H Q E h => ?_) (fun cdv A outer s H vs Q E hr h => ?_)
  · obtain ⟨F', ds, o, e, r, h1, _⟩ := h
    unfold denN at h1
    by_cases hl : ds.length = ps.length
    · rw [Rep.len r, hl]
    · rw [if_neg hl] at h1; cases h1
  · obtain ⟨F', ds, o, e, r, h1, hP⟩ := h
    unfold denN at h1
    by_cases hl : ds.length = ps.length
    · rw [if_pos hl] at h1
      have hl' : ps.length ≤ N.length := of_decide_eq_true hps
      have hlv : vs.length = ps.length := by rw [Rep.len r, hl]
      refine ⟨_, pss_wss, ?_⟩
      have tk : Takes (cxOf (L2.CX P w) P w K mg base N qual scope f cdv A outer s H E) (fun cls d _ H => E cls d H) := takes_of rfl rfl rfl rfl
      have R0 : RSf (cxOf (L2.CX P w) P w K mg base N qual scope f cdv A outer s H E) ⟨own, Pm.no, F', H⟩ F' (L2.start N vs) H (ds.map some ++ List.replicate (N.length - ps.length) none) := {
        ff := Ex.refl _
        fh := e
        hh := fun _ _ _ h => h
        dm := fun _ h => h
        nw := fun _ h => .inl h
        ln := by unfold L2.start; simp [hl, hlv]
        par := fun _ h => h.elim
        bxh := fun _ h => h.elim
        val := fun i d _ h => by
          unfold L2.start
          exact Reps.some_get r h
        own := ⟨fun _ => [], And.intro (fun (i : Nat) (d : D) hi (h : (List.map some ds ++ List.replicate (N.length - ps.length) (none : Option D))[i]? = some (some d)) => by
          have := of_decide_eq_true (List.all_eq_true.1 hon i hi)
          rw [List.getElem?_append_right (by rw [List.length_map, hl]; exact this), List.getElem?_replicate] at h
          split at h <;> cases h) (And.intro (fun i a h => absurd h (by simp)) (fun i j a _ h => absurd h (by simp)))⟩ }
      cases e2 : g (ds.map some ++ List.replicate (N.length - ps.length) none) with
      | none => rw [e2] at h1; cases h1
      | some y =>
        rw [e2] at h1
        refine (hb cdv A outer s H E hr).run R0 tk e2 ?_
        rcases y with ⟨x, δ'⟩ | ⟨d, δ'⟩
        · cases h1
          exact fun cls dd σ' F1 H1 r1 e1 rx => hP cls dd F1 H1 r1.any rx
        · cases h1
          exact fun Dd ob σ' F1 H1 l e1 ro => hP Dd ob F1 H1 ⟨l.rs.any, l.h0, l.nF⟩ l.at ro
    · rw [if_neg hl] at h1; cases h1
end
theorem RS.growN {K : Frag} {own : List Nat} {P : Pm} {F0 H0 F F' H' : Hp} {σ : L2.St} {H : Hp} {δ : Env} {p : Addr} {ob : HO} (r : RS K own P F0 H0 F σ H δ) (g : GrowN p F H F' H') (hp : H' p = some ob) : LS K own P F0 H0 p ob F' σ H' δ := by
  have R := r.grow g.g
  have h0 : H0 p = none := by
    cases e : H0 p with
    | none => rfl
    | some o => exact absurd g.new (r.dm p (by rw [e]; simp))
  obtain ⟨fp, h1, h2, h3⟩ := r.own
  have nD : ∀ i, p ∉ fp i := fun i hi => (h2 i p hi).2.1 g.new
  obtain ⟨fp', k1, k2, k3⟩ := R.own
  refine ⟨⟨⟨fun a => ∃ i, a ∈ fp i, P.bx, P.rt⟩, F', H', ?_, ?_, hp, fun ⟨i, hi⟩ => nD i hi, g.np⟩, h0⟩
  · exact {
      ff := Ex.refl _
      fh := R.fh
      hh := fun _ _ _ h => h
      dm := fun _ h => h
      nw := fun _ h => .inl h
      ln := R.ln
      par := R.par
      bxh := fun a h => R.dm a (r.bxh a h)
      val := R.val
      own := ⟨fp, fun i d hi hd => by
        obtain ⟨v, hv, o⟩ := h1 i d hi hd
        exact ⟨v, hv, o.keep g.g.ff fun a ha q e => g.g.hh a q e⟩, fun i a ha => ⟨by
          have a1 := (h2 i a ha).1
          have a2 := (h2 i a ha).2.1
          cases e : F' a with
          | none => rfl
          | some o => exact ((g.g.nw a (by rw [e]; simp)).elim (fun h => absurd a1 h) fun h => absurd h a2), by
          have a2 := (h2 i a ha).2.1
          cases e : H a with
          | none => exact absurd e a2
          | some o => rw [g.g.hh a o e]; simp, .inr ⟨⟨i, ha⟩, fun hb => (h2 i a ha).2.2.elim (fun e => absurd e (r.bxh a hb)) fun q => q.2 hb⟩⟩, h3⟩ }
  · exact { ff := R.ff, hh := R.hh, dm := R.dm, nw := R.nw, pp := fun a ⟨i, hi⟩ => (h2 i a hi).2.2.imp id And.left, bx := fun _ h => h, rt := fun _ h => h, bh := r.bxh }
theorem LS.changed {K : Frag} {own : List Nat} {P : Pm} {F0 H0 F F' H' : Hp} {σ : L2.St} {H : Hp} {δ : Env} {Dd : Addr} {ob : HO} (l2 : LS K own P F0 H0 Dd ob F σ H δ) (g : GrowB Dd F H F' H') : RS K own P F0 H0 F' σ H' δ := by
  have R := l2.rs
  obtain ⟨⟨P', Fb, Hb, r2, c, e, n, nf⟩, nh⟩ := l2
  obtain ⟨fp, h1, h2, h3⟩ := r2.own
  have nD : ∀ i, Dd ∉ fp i := fun i hi => (h2 i Dd hi).2.2.elim (fun q => by rw [e] at q; cases q) fun q => n q.1
  have ne : ∀ i a, a ∈ fp i → a ≠ Dd := fun i a ha q => nD i (q ▸ ha)
  exact {
    ff := R.ff.trans g.ff
    fh := g.fh
    hh := fun a o hp h => g.hh a o (fun q => by rw [q, nh] at h; cases h) (R.hh a o hp h)
    dm := fun a h => by
      have hne : a ≠ Dd := fun q => h (by rw [q]; exact nh)
      cases q : H a with
      | none => exact absurd q (R.dm a h)
      | some o => rw [g.hh a o hne q]; simp
    nw := fun a h => (g.nw a h).elim (R.nw a) fun z => .inr (by
      cases e0 : H0 a with
      | none => rfl
      | some o => exact absurd z (R.dm a (by rw [e0]; simp)))
    ln := R.ln
    par := R.par
    bxh := R.bxh
    val := fun i d hi h => let ⟨v, a, b⟩ := R.val i d hi h; ⟨v, a, b.mono g.ff⟩
    own := by
      refine ⟨fp, fun i d hi hd => ?_, fun i a ha => ?_, h3⟩
      · obtain ⟨v, hv, o⟩ := h1 i d hi hd
        exact ⟨v, hv, o.keep g.ff fun a ha q e => g.hh a q (ne i a ha) e⟩
      · obtain ⟨a1, a2, a3⟩ := h2 i a ha
        refine ⟨?_, ?_, a3.elim (fun q => .inl (by
          cases e0 : H0 a with
          | none => rfl
          | some o => exact absurd q (c.dm a (by rw [e0]; simp)))) fun q => (c.pp a q.1).imp id fun z => ⟨z, fun y => q.2 (c.bx a y)⟩⟩
        · cases q : F' a with
          | none => rfl
          | some o => exact ((g.nw a (by rw [q]; simp)).elim (fun h => absurd a1 h) fun h => absurd h a2)
        · cases q : H a with
          | none => exact absurd q a2
          | some o => rw [g.hh a o (ne i a ha) q]; simp }
section
variable {X : Cx} {own : List Nat} {e a : Expr} {es : List Expr} {pos : Pos}
theorem jn_call {k : Nat} {x : Str} {p : Pos} {m : List D → Rs D} {f : Env → RE (List D)} (hf : FnN X.prog X.w X.K X.mg X.base k x m) (hr : Room k X.A) (ha : JAE X own (e :: es) f) (hg : Gl X x := by rfl)
    (hdb : (x == ("__debug__" : Str)) = false := by decide) (he : starEach (e :: es) X.env = (false, eval e X.env) :: starEach es X.env := by rfl) (hpl : (backTo pos (starEach es X.env)).any (·.1) = false := by rfl) :
    JN X own (.Call (.Name x p) (e :: es) [] pos) (ecall m f) := ⟨fun {P F0 H0 σ F H δ W Q o} r tk hg' hP => by
  obtain ⟨fa, fd, ps, F, hm, hk, hb⟩ := hf.at_
  refine we_of (pe_callS F hr hg hm hk hb (fun σ => passAt tk σ) pa_wa hdb he hpl) (sn_bind (w := WA X (e :: es)) ha r tk hg' hP fun xs vs δ1 F1 H1 h1 e1 rx r1 P1 => ?_)
  cases em : m xs with
  | none => rw [em] at h1; cases h1
  | some y =>
    rw [em] at h1
    cases y with
    | ok d => cases h1; exact ⟨F1, xs, _, r1.fh, rx, em, fun p ob F' H' g hp ho => P1 p ob F' H' (r1.growN g hp) g.g.ff ho⟩
    | error z => cases h1; exact ⟨F1, xs, _, r1.fh, rx, em, fun c dd F' H' g rv => P1 c dd F' H' (r1.grow g) g.ff rv⟩⟩
end
end PD
end
section
namespace PD
open PySem L2
section
variable {X : Cx}
def pick {α : Type} (ix : List Nat) (zs : List α) : List α := ix.filterMap (zs[·]?)
theorem Vals.get? : ∀ {vs : List V} {us : List Value}, Vals vs us → ∀ (i : Nat), (vs[i]? = none ∧ us[i]? = none) ∨ ∃ v u, vs[i]? = some v ∧ us[i]? = some u ∧ RelV v u
  | _, _, .nil, i => .inl ⟨by simp, by simp⟩
  | _, _, .cons h _, 0 => .inr ⟨_, _, rfl, rfl, h⟩
  | _, _, .cons _ t, i + 1 => by rw [List.getElem?_cons_succ, List.getElem?_cons_succ]; exact Vals.get? t i
theorem vals_pick {vs : List V} {us : List Value} (r : Vals vs us) : ∀ ix : List Nat, Vals (pick ix vs) (pick ix us)
  | [] => .nil
  | i :: ix => by
    unfold pick
    rw [List.filterMap_cons, List.filterMap_cons]
    rcases Vals.get? r i with ⟨h1, h2⟩ | ⟨v, u, h1, h2, h3⟩
    · rw [h1, h2]; exact vals_pick r ix
    · rw [h1, h2]; exact .cons h3 (vals_pick r ix)
theorem reps_get? {K : Frag} {F : Hp} : ∀ {vs : List V} {ds : List D}, Reps K F vs ds → ∀ (i : Nat), (vs[i]? = none ∧ ds[i]? = none) ∨ ∃ v d, vs[i]? = some v ∧ ds[i]? = some d ∧ Rep K F v d
  | _, _, .nil, i => .inl ⟨by simp, by simp⟩
  | _, _, .cons h _, 0 => .inr ⟨_, _, rfl, rfl, h⟩
  | _, _, .cons _ t, i + 1 => by rw [List.getElem?_cons_succ, List.getElem?_cons_succ]; exact reps_get? t i
theorem reps_pick {K : Frag} {F : Hp} {vs : List V} {ds : List D} (r : Reps K F vs ds) : ∀ ix : List Nat, Reps K F (pick ix vs) (pick ix ds)
  | [] => .nil
  | i :: ix => by
    unfold pick
    rw [List.filterMap_cons, List.filterMap_cons]
    rcases reps_get? r i with ⟨h1, h2⟩ | ⟨v, u, h1, h2, h3⟩
    · rw [h1, h2]; exact reps_pick r ix
    · rw [h1, h2]; exact .cons h3 (reps_pick r ix)
structure FnK (P : Program) (w : World) (K : Frag) (mg : Str → Option Value) (base : Heap) (k : Nat) (x : Str) (m : List D → Rs D) (ks : List Str) (ix : List Nat) : Prop where
  at_ : ∃ f fd ps, FnOk P w K mg base (L2.CX P w) k f fd ps (spP K m) ∧ mg x = some (.ref f) ∧ PySem.W.keepIn K (.ref f) = true ∧ KBn K fd ps 0 ks (fun us ws => pick ix ws) (fun vs zs => pick ix zs)
theorem kbn_of {K : Frag} {x qual : Str} {params : Arguments} {body : List Stmt} {scope : Scope} {kws : List (Str × V)} {f : Addr} {fd : FuncData} {ps : List Str} {ks : List Str} {ix : List Nat} (F : FunD K x qual params body scope [] kws f fd)
    (h : ∀ (kV doc pm : Value) (an : Option Addr) (cdv ct : Value) (ws : List Value), ws.length = ks.length → bindArgs (PySem.W.fnOf x qual params body scope .none kV doc pm an cdv ct) ⟨[], ks.zip ws⟩ = pure (ps.zip (pick ix ws))) : KBn K fd ps 0 ks (fun _ ws => pick ix ws) (fun _ zs => pick ix zs) := by
  obtain ⟨oc, od, dV, kV, doc, pm, an, cdv, ct, osl, rfl, lk, hcd, hD, hK⟩ := F.ex
  rcases hD with ⟨_, rfl⟩ | ⟨e, _⟩
  · refine ⟨fun s us ws _ l1 l2 => ?_, fun _ r => vals_pick r ix⟩
    cases us with
    | nil => exact BindsTo.of_eq (h kV doc pm an cdv ct ws l2)
    | cons _ _ => cases l1
  · exact absurd rfl e
theorem run_fnNS {CX : CXT} {k n : Nat} {f : Addr} {fd : FuncData} {ps ks : List Str} {sp : Sp} {E : XK} {g : List Value → List Value → List Value} {gV : List V → List V → List V} {pins : List (Addr × Obj)} {σ : St} {H : Hp} {s : Shared} {Q : VK} {us ws : List Value} {vs zs : List V} (F : FnOk X.prog X.w X.K X.mg X.base CX k f fd ps sp) (hr : Room k X.A) (hb : KBn X.K fd ps n ks g gV) (hx : PassesAt CX X σ E)
    (I : Inv X pins σ H s) (r : Vals vs us) (rz : Vals zs ws) (l1 : vs.length = n) (l2 : zs.length = ks.length) (h : sp (gV vs zs) H Q E) : wpAny (model X.prog X.w) X.A (call (.ref f) us (ks.zip ws)) (EP X pins σ Q) X.xe s := by
  have r2 := hb.rel r rz
  refine wpAny_call (codeAny_mono (F.run X.A X.stack s H ⟨us, ks.zip ws⟩ (g us ws) (gV vs zs) Q E hr I.env0 (hb.to s us ws I.kIn (r.length.symm.trans l1) (rz.length.symm.trans l2)) r2 h) fun r s' hq => ?_)
  cases r with
  | error e => exact hx pins H s e s' I hq
  | ok fl =>
    cases fl with
    | ret u => exact I.after hq
    | next => exact False.elim hq
    | brk => exact False.elim hq
    | cont => exact False.elim hq
def WK (X : Cx) (kws : List Keyword) (σ : L2.St) (H : Hp) (Q : List V → Hp → Prop) : Prop := ∀ pos pins s, Inv X pins σ H s → wpAny (model X.prog X.w) X.A (evalAll ((backToKw pos (keywordEach kws X.env)).map (·.2))) (AP X pins σ Q) X.xe s
theorem pk_wk {kws : List Keyword} : PK X kws (WK X kws) := ⟨fun pos pins s _ _ _ I h => h pos pins s I⟩
theorem wk_of {kws : List Keyword} {t : TA} {σ : L2.St} {H : Hp} {Q : List V → Hp → Prop} (h : PK X kws t) (q : t σ H Q) : WK X kws σ H Q := fun pos pins s I => h.run pos pins s σ H Q I q
abbrev JK (X : Cx) (kws : List Keyword) (g : Env → Rs (List D)) : Prop := J X (WK X kws) (Reps X.K) g
theorem jk_nil : JK X [] anil := ⟨fun rp tk hg hP => wk_of pk_nil (hP.fin hg _ _ _ (.refl rp.ex) .nil)⟩
theorem jk_cons {nm : Option Str} {e : Expr} {kpos : Pos} {kws : List Keyword} {f : Env → Rs D} {r : Env → Rs (List D)} (ha : JP X e f) (hr : JK X kws r) : JK X (⟨nm, e, kpos⟩ :: kws) (acons f r) := ⟨fun rp tk hg hP =>
  wk_of (pk_cons pe_we pk_wk) (jp_bind ha rp tk hg hP fun x vx F1 H1 h1 g1 rx r1 P1 => j_bind (w := WK X kws) hr r1 tk h1 P1 fun xs vxs F2 H2 h2 g2 rxs r2 P2 => P2.fin h2 _ F2 H2 (.refl r2.ex) (.cons (rx.mono g2.ff) rxs))⟩
def vcallK (m : List D → Rs D) (n : Nat) (ix : List Nat) (a : Env → Rs (List D)) : Env → Rs D := fun δ => bind (a δ) fun xs => if xs.length = n then m (pick ix xs) else none
theorem jp_callK {k : Nat} {x : Str} {p pos : Pos} {m : List D → Rs D} {ks : List Str} {ix : List Nat} {kws : List Keyword} {a : Env → Rs (List D)} (hf : FnK X.prog X.w X.K X.mg X.base k x m ks ix) (hr : Room k X.A) (ha : JK X kws a) (hg : Gl X x := by rfl)
    (hall : (backToKw pos (keywordEach kws X.env)).all (·.1.isSome) = true := by rfl) (hks : (backToKw pos (keywordEach kws X.env)).filterMap (·.1) = ks := by rfl) (hdb : (x == ("__debug__" : Str)) = false := by decide)
    (hpl : ((backTo pos (starEach [] X.env)).any (·.1) || (backToKw pos (keywordEach kws X.env)).any (·.1.isNone)) = false := by rfl) : JP X (.Call (.Name x p) [] kws pos) (vcallK m ks.length ix a) := ⟨fun {σ F H δ W Q o} rp tk hg' hP => by
  obtain ⟨f, fd, ps, Fo, hm, hk, hb⟩ := hf.at_
  intro pins s I
  refine wpAny_Call_Name_kw (ld_glob I hg hm ?_ hdb)
  refine PySem.W.callWith_KW0 (h₀ := X.base) I.ok.mod.kin hk hall ?_ hpl
  have hw : WK X kws σ H (fun zs H2 => zs.length = ks.length ∧ spP X.K m (pick ix zs) H2 Q (L2.WE W σ)) := j_bind (w := WK X kws) ha rp tk hg' hP fun xs vs F1 H1 h1 g1 rx r1 P1 => by
    split at h1
    · rename_i hl
      exact ⟨by rw [Rep.len rx]; exact hl, F1, _, _, r1.ex, reps_pick rx ix, h1, post_call P1⟩
    · cases h1
  refine thn (hw pos pins s I) fun ws s2 ⟨zs, H2, I2, rz, l2, q2⟩ => ⟨I2.kIn, ?_⟩
  rw [hks]
  exact run_fnNS (us := []) (vs := []) Fo hr hb (passAt tk σ) I2 .nil rz rfl l2 q2⟩
end
end PD
end
section
namespace PD
open PySem L2
def itemsA : D → Option (List D)
  | .lst xs => some xs
  | .scr xs => some xs
  | .tup xs => some xs
  | .str x => some (signs x)
  | .fdc kvs => some (kvs.map fun kv => kD kv.1)
  | _ => none
theorem RepK.at {K : Frag} {F : Hp} : ∀ {vs : List (Key × V)} {ds : List (Key × D)} {i : Nat} {k : Key} {d : D}, RepK K F vs ds → ds[i]? = some (k, d) → ∃ v, vs[i]? = some (k, v) ∧ Rep K F v d
  | _, _, i, k, d, .nil, h => by simp at h
  | _, _, 0, k, d, .cons hd r, h => by simp at h; obtain ⟨rfl, rfl⟩ := h; exact ⟨_, rfl, hd⟩
  | _, _, i + 1, k, d, .cons hd r, h => by
    obtain ⟨v, h1, h2⟩ := RepK.at r (by simpa using h)
    exact ⟨v, by simpa using h1, h2⟩
theorem src_keys {K : Frag} {F : Hp} {a : Addr} {o : Obj} {vs : List (Key × V)} {ds : List (Key × D)} (h : F a = some (.frz o (.dK vs))) (r : RepK K F vs ds) : Src K F (ds.map fun kv => kD kv.1) (Itk a o vs) where
  go := fun {F1 H1} e1 e2 {i d} hd => by
    rw [List.getElem?_map, Option.map_eq_some_iff] at hd
    obtain ⟨⟨k, x⟩, hk, rfl⟩ := hd
    obtain ⟨v, hv, rv⟩ := r.at hk
    refine ⟨⟨e2 _ _ (e1 _ _ h), (List.getElem?_eq_some_iff.1 hv).1⟩, fun y H' ⟨e, k2, v2, h1, h2⟩ => ?_⟩
    rw [hv] at h1; cases h1
    subst e; subst h2
    exact ⟨F1, .refl e2, kV_rep _⟩
  stop := fun {F1 H1} e1 e2 {i} hi => ⟨e2 _ _ (e1 _ _ h), by rw [List.length_map] at hi; rw [RepK.len r]; exact hi⟩
def iany (f : Env → RE D) : Env → RE (List D) := fun δ => bindE (f δ) fun d δ' => (itemsA d).map fun xs => .ok (xs, δ')
theorem ji_any {X : Cx} {own : List Nat} {tg e : Expr} {f : Env → RE D} (h : JE X own e f) : JI X own tg e (iany f) := ⟨fun {P F0 H0 σ F H δ W o R} r tk hg hP => by
  unfold iany at hg
  cases e0 : f δ with
  | none => rw [e0] at hg; cases hg
  | some y =>
    rw [e0] at hg
    rcases y with ⟨x, δ1⟩ | ⟨d, δ1⟩
    · cases hg; exact wi_of (pi_list pe_we) (h.run r tk e0 hP)
    · simp only [bindE, Option.map_eq_some_iff] at hg
      obtain ⟨xs, hx, rfl⟩ := hg
      cases d <;> (try (cases hx; done))
      case str => cases hx; exact wi_of (pi_str pe_we) (h.run r tk e0 fun v F1 H1 r1 e1 rx => by cases rx; exact ⟨_, rfl, hP _ F1 H1 r1 e1 src_str⟩)
      case tup => cases hx; exact wi_of (pi_tup pe_we) (h.run r tk e0 fun v F1 H1 r1 e1 rx => by cases rx with | tup h1 r2 => exact ⟨_, rfl, ⟨_, ex_t r1.fh h1⟩, hP _ F1 H1 r1 e1 (src_tup h1 r2)⟩)
      case lst => cases hx; exact wi_of (pi_list pe_we) (h.run r tk e0 fun v F1 H1 r1 e1 rx => by cases rx with | lst h1 r2 => exact ⟨_, rfl, ⟨_, SqL.of (r1.fh _ _ h1)⟩, hP _ F1 H1 r1 e1 (src_list (SqL.of h1) r2)⟩)
      case scr => cases hx; exact wi_of (pi_list pe_we) (h.run r tk e0 fun v F1 H1 r1 e1 rx => by cases rx with | scr h1 r2 => exact ⟨_, rfl, ⟨_, ex_l r1.fh h1⟩, hP _ F1 H1 r1 e1 (src_list h1 r2)⟩)
      case fdc => cases hx; exact wi_of (pi_keys pe_we) (h.run r tk e0 fun v F1 H1 r1 e1 rx => by cases rx with | fdc h1 r2 => exact ⟨_, _, rfl, .inl ⟨_, r1.fh _ _ h1, hP _ F1 H1 r1 e1 (src_keys h1 r2)⟩⟩)⟩
theorem hu64b {k : Nat} {A : Around} (hr : Room k A) : A.units + 64 < cLine := by have := hr.un; omega
end PD
end
section
set_option maxHeartbeats 2000000
namespace PD
open PySem PySem.Spec PyProof.Rows L2
structure FnOkG (P : Program) (w : World) (K : Frag) (mg : Str → Option Value) (base : Heap) (CX : CXT) (k : Nat) (f : Addr) (fd : FuncData) (ps : List Str) (sp : Sp) : Prop where
  len : ∀ vs H Q E, sp vs H Q E → vs.length = ps.length
  run : ∀ (A : Around) (outer : List PySem.Env) (s : Shared) (H : Hp) (args : Args) (us : List Value) (vs : List V) (Q : VK) (E : XK), Room k A → A.guards = some [] → Env0 P w K mg base A outer s H → BindsTo s fd args (ps.zip us) → Vals vs us → sp vs H Q E →
    codeAny (model P w) A (.call (.ref f) args) (CR CX outer P w H s Q E) s
section
variable {P : Program} {w : World} {K : Frag} {mg : Str → Option Value} {base : Heap}
theorem FunD.okG {CX : CXT} {x qual : Str} {params : Arguments} {body : List Stmt} {scope : Scope} {dvs : List V} {kws : List (Str × V)} {f : Addr} {fd : FuncData} {N ps : List Str} {k : Nat} {sp : Sp} (F : FunD K x qual params body scope dvs kws f fd) (S : FnScope N ps scope) (len : ∀ vs H Q E, sp vs H Q E → vs.length = ps.length)
    (hbody : ∀ (cdv : Value) (A : Around) (outer : List PySem.Env) (s : Shared) (H : Hp) (vs : List V) (Q : VK) (E : XK), Room k (A.deeper (envOfC qual scope s.heap.objs.size f cdv)) → A.guards = some [] → sp vs H Q E →
      ∃ t, PSs (cxOf CX P w K mg base N qual scope f cdv A outer s H E) body t ∧ t { nx := fun _ H' => Q .non H', rt := Q } (start N vs) H) : FnOkG P w K mg base CX (k + 1) f fd ps sp := by
  obtain ⟨oc, od, dV, kV, doc, pm, an, cdv, ct, osl, rfl, lk, hcd, _, _⟩ := F.ex
  refine ⟨len, fun A outer s H args us vs Q E hr hgu e0 hb r hsp => ?_⟩
  have hl := len _ _ _ _ hsp
  have KX : K.In s.heap := e0.mod.kin.keeps fun b o e => (e0.bs b o e).1
  have lim : s.heap.NoLimit := e0.mod.nolimit.keeps fun b o e => (e0.bs b o e).1
  refine codeAny_call_function hr.depth (KX _ _ lk) rfl S.co S.gen rfl (PySem.W.codeRec_of KX hcd) (hb _ _ _ _ ?_)
  refine wpAny_newFunctionEnv_cells S.kind (fun ⟨n, v⟩ hy => (S.par n (List.of_mem_zip hy).1).imp id fun q => ⟨q, PySem.W.cellsFrom_some _ _ _ (.inl q)⟩) fun env he s1 x => ?_
  subst he
  refine ⟨lim.keeps x.toInCall.keep, codeAny_func ?_⟩
  obtain ⟨t, ht, hq⟩ := hbody cdv A outer s H vs Q E (hr.deeper _) hgu hsp
  have I : Inv (cxOf CX P w K mg base N qual scope f cdv A outer s H E) [] (start N vs) H s1 := inv_start S hr.hd e0 hl r x
  refine wpAny_mono (ht.run [] s1 (start N vs) H _ I hq) (fun fl s' hs => ?_) fun e s' hs => hs
  cases fl with
  | ret u =>
    obtain ⟨v, σ', H', J, rv, q⟩ := hs
    exact ⟨v, H', J.os, J.bare, J.base, J.hok, rv, q⟩
  | next =>
    obtain ⟨σ', H', J, q⟩ := hs
    exact ⟨.non, H', J.os, J.bare, J.base, J.hok, rfl, q⟩
  | brk =>
    obtain ⟨_, _, _, q⟩ := hs
    exact q.elim
  | cont =>
    obtain ⟨_, _, _, q⟩ := hs
    exact q.elim
end
end PD
end
section
set_option maxHeartbeats 2000000
namespace PD
open PySem PySem.Spec PyProof.Rows L2
section
variable {P : Program} {w : World} {K : Frag} {mg : Str → Option Value} {base : Heap}
end
section
variable {X : Cx} {own : List Nat} {e a : Expr} {es : List Expr} {pos : Pos}
theorem pe_callG {CX : CXT} {k : Nat} {f : Addr} {fd : FuncData} {ps : List Str} {sp : Sp} {E : L2.St → XK} {x : Str} {p : Pos} {t : TA} (F : FnOkG X.prog X.w X.K X.mg X.base CX k f fd ps sp) (hgu : X.A.guards = some []) (hr : Room k X.A) (hg : Gl X x) (hm : X.mg x = some (.ref f)) (hk : PySem.W.keepIn X.K (.ref f) = true) (hb : Binds X.K fd ps []) (hx : ∀ σ, PassesAt CX X σ (E σ))
    (ha : PA X (e :: es) t) (hdb : (x == ("__debug__" : Str)) = false := by decide) (he : starEach (e :: es) X.env = (false, eval e X.env) :: starEach es X.env := by rfl) (hpl : (backTo pos (starEach es X.env)).any (·.1) = false := by rfl) :
    PE X (.Call (.Name x p) (e :: es) [] pos) (tCallS sp E t) := by
  refine ⟨fun pins s σ H Q I h => ?_⟩
  refine wpAny_Call_Name_kw (ld_glob I hg hm ?_ hdb)
  refine PySem.W.callWith_K (h₀ := X.base) I.ok.mod.kin hk (thn (ha.run pos pins s σ H _ I h) fun us s1 ⟨vs, H1, I1, r, q⟩ => ⟨I1.kIn, ?_⟩) he hpl
  have hl : us.length = ps.length := by rw [← r.length]; exact F.len _ _ _ _ q
  have b := hb s1 us I1.kIn (by rw [List.append_nil]; exact hl)
  rw [List.append_nil] at b
  refine wpAny_call (codeAny_mono (F.run X.A X.stack s1 H1 ⟨us, []⟩ us vs Q (E σ) hr hgu I1.env0 b r q) fun r s' hq => ?_)
  cases r with
  | error e => exact hx σ pins H1 s1 e s' I1 hq
  | ok fl =>
    cases fl with
    | ret u => exact I1.after hq
    | next => exact False.elim hq
    | brk => exact False.elim hq
    | cont => exact False.elim hq
end
theorem cx_false {P : Program} {w : World} {outer : List PySem.Env} {H : Hp} {s : Shared} {e : Value} {s' : Shared} (h : L2.CX P w outer H s (fun _ _ _ => False) e s') : False := by
  obtain ⟨_, _, _, _, _, _, _, _, _, _, _, _, z⟩ := h
  exact z
end PD
end
section
namespace PD
open PySem L2
theorem RepO.get {K : Frag} {F : Hp} : ∀ {vs : List (Option V)} {ds : List (Option D)} {i : Nat} {d : D}, RepO K F vs ds → ds[i]? = Option.some (Option.some d) → ∃ v : V, vs[i]? = Option.some (Option.some v) ∧ Rep K F v d
  | _, _, _, _, .nil, h => by simp at h
  | vs, _, 0, d, .none r, h => by simp at h
  | vs, _, i + 1, d, .none r, h => by
    obtain ⟨v, hv, rv⟩ := RepO.get r (by simpa using h)
    refine ⟨v, ?_, rv⟩
    cases vs with
    | nil => simp at hv
    | cons x vs => simpa using hv
  | _, _, 0, d, .some h1 r, h => by simp at h; subst h; exact ⟨_, rfl, h1⟩
  | _, _, i + 1, d, .some h1 r, h => by
    obtain ⟨v, hv, rv⟩ := RepO.get r (by simpa using h)
    exact ⟨v, by simpa using hv, rv⟩
structure SlF (K : Frag) (c f : Str) (i : Nat) : Prop where
  cls : SlX.SCls K (He.ga K c)
  sl : ∃ p, SlX.Slot1 K (He.ga K c) f p i
def attrD (c : Str) (i : Nat) : D → Option D
  | .obj c' fs => if c' = c then fs[i]?.join else none
  | _ => none
def vattr (c : Str) (i : Nat) (g : Env → Rs D) : Env → Rs D := fun δ => bind (g δ) fun x => opt (attrD c i x)
section
variable {X : Cx}
theorem Rep.slt {K : Frag} {F H : Hp} {w : V} {c : Str} {fs : List (Option D)} (e : Ex F H) (r : Rep K F w (.obj c fs)) : ∃ a dx vs, w = .ref a ∧ SlX.Slt H a (He.ga K c) dx vs ∧ RepO K F vs fs := by
  cases r with
  | obj h hx ro => exact ⟨_, _, _, rfl, .inr ⟨e _ _ h, e _ _ hx⟩, ro⟩
theorem attr_some {c : Str} {i : Nat} {x z : D} (h : attrD c i x = some z) : ∃ fs, x = .obj c fs ∧ fs[i]? = some (some z) := by
  cases x <;> (try (simp [attrD] at h; done))
  rename_i c' fs
  simp only [attrD] at h
  split at h
  · rename_i e
    subst e
    refine ⟨fs, rfl, ?_⟩
    cases q : fs[i]? with
    | none => rw [q] at h; cases h
    | some y => rw [q] at h; cases y with
      | none => cases h
      | some u => cases h; rfl
  · cases h
theorem jp_attr {c f : Str} {i : Nat} {e : Expr} {pos : Pos} {g : Env → Rs D} (T : SlF X.K c f i) (he : JP X e g) (hb : attributeBase e f X.env (eval e X.env) = eval e X.env := by rfl) : JP X (.Attribute e f pos) (vattr c i g) := ⟨fun rp tk hg hP =>
  we_of (SlX.pe_sl pe_we hb) (jp_bind he rp tk hg hP fun x v F1 H1 h1 g1 rx r1 P1 => by
    obtain ⟨z, hz, rfl⟩ := opt_some h1
    obtain ⟨fs, rfl, hf⟩ := attr_some hz
    obtain ⟨a, dx, vs, rfl, hs, ro⟩ := rx.slt r1.ex
    obtain ⟨w, hw, rw'⟩ := ro.get hf
    obtain ⟨p, sl⟩ := T.sl
    exact ⟨a, _, dx, p, vs, i, w, rfl, hs, T.cls, sl, hw, P1 w F1 H1 (.refl r1.ex) rw'⟩)⟩
structure FnM (P : Program) (w : World) (K : Frag) (mg : Str → Option Value) (base : Heap) (k : Nat) (c m : Str) (f : List D → Rs D) : Prop where
  cls : SlX.SCls K (He.ga K c)
  at_ : ∃ g fd ps, FnOk P w K mg base (L2.CX P w) k g fd ps (spP K f) ∧ Meth K (He.ga K c) m g ∧ Binds K fd ps []
def vmeth (c : Str) (m : List D → Rs D) (g : Env → Rs D) (a : Env → Rs (List D)) : Env → Rs D := fun δ => bind (g δ) fun x => match x with
  | .obj c' fs => if c' = c then bind (a δ) fun xs => m (.obj c' fs :: xs) else none
  | _ => none
theorem vmeth_obj {c : Str} {m : List D → Rs D} {a : Env → Rs (List D)} {δ : Env} {x : D} {o : Except XD D} (h : (match x with
  | .obj c' fs => if c' = c then bind (a δ) fun xs => m (.obj c' fs :: xs) else none
  | _ => none) = some o) : ∃ fs, x = .obj c fs ∧ (bind (a δ) fun xs => m (.obj c fs :: xs)) = some o := by
  cases x <;> (try (cases h; done))
  rename_i c' fs
  simp only [] at h
  split at h
  · rename_i e; subst e; exact ⟨fs, rfl, h⟩
  · cases h
open PySem.Spec PyProof.Rows in
theorem run_fnRS {pins : List (Addr × Obj)} {σ : L2.St} {H : Hp} {s : Shared} {CX : CXT} {k : Nat} {f : Addr} {sp : Sp} {E : XK} {Q : VK} {us : List Value} {vs : List V} (F : FnR X.prog X.w X.K X.mg X.base CX k f sp) (hr : Room k X.A) (hx : PassesAt CX X σ E) (I : Inv X pins σ H s) (r : Vals vs us) (h : sp vs H Q E) :
    codeAny (model X.prog X.w) X.A (.call (.ref f) ⟨us, []⟩) (fun r s' => match r with | .ok (.ret v) => EP X pins σ Q v s' | .ok _ => False | .error e => X.xe e s') s := by
  refine codeAny_mono (F X.A X.stack s H us vs Q E hr I.env0 r h) fun r s' hq => ?_
  cases r with
  | error e => exact hx pins H s e s' I hq
  | ok fl =>
    cases fl with
    | ret u => exact I.after hq
    | next => exact False.elim hq
    | brk => exact False.elim hq
    | cont => exact False.elim hq
open PySem.Spec PyProof.Rows in
theorem we_methS {σ : L2.St} {H : Hp} {Q : VK} {m : Str} {o e : Expr} {es : List Expr} {apos pos : Pos} {CX : CXT} {k : Nat} {C g : Addr} {sp : Sp} {E : XK} {pl : Sem Bool} (c : SlX.SCls X.K C) (hm : Meth X.K C m g) (F : FnR X.prog X.w X.K X.mg X.base CX k g sp) (hr : Room k X.A) (hx : PassesAt CX X σ E)
    (h : WE X o σ H fun x H1 => ∃ a dx vs, x = .ref a ∧ SlX.Slt H1 a C dx vs ∧ WA X (e :: es) σ H1 fun ws H2 => sp (x :: ws) H2 Q E)
    (hst : starEach (e :: es) X.env = (false, eval e X.env) :: starEach es X.env := by rfl) (hpl : (backTo pos (starEach es X.env)).any (·.1) = false := by rfl)
    (ht : eval (.Call (.Attribute o m apos) (e :: es) [] pos) X.env = (do
      let ov ← eval o X.env
      standAt apos.atName
      let (f, first) ← holding [ov] (getMethod ov m pl)
      callWith pos f first (backTo pos (starEach (e :: es) X.env)) (backToKw pos (keywordEach [] X.env))) := by rfl) :
    WE X (.Call (.Attribute o m apos) (e :: es) [] pos) σ H Q := fun pins s I => by
  refine PySem.W.methodCall_KW (pl := pl) (thn (h pins s I) fun u s1 ⟨x, H1, I1, rx, a, dx, vs, ex, hsl, q⟩ => ?_) ht
  subst ex
  obtain rfl : u = Value.ref a := rx
  refine SlX.getmethsl_ok I1 hsl c hm ?_
  refine PySem.W.callWith_K (first := [.ref a]) (h₀ := X.base) I.ok.mod.kin hm.kp (thn (q pos pins s1 I1) fun us s2 ⟨ws, H2, I2, r, q2⟩ => ⟨I2.kIn, ?_⟩) hst hpl
  exact wpAny_call (run_fnRS (us := .ref a :: us) (vs := .ref a :: ws) F hr hx I2 (.cons rfl r) q2)
theorem jp_meth {k : Nat} {c m : Str} {o e : Expr} {es : List Expr} {apos pos : Pos} {f : List D → Rs D} {g : Env → Rs D} {a : Env → Rs (List D)} {pl : Sem Bool} (hf : FnM X.prog X.w X.K X.mg X.base k c m f) (hr : Room k X.A) (ho : JP X o g) (ha : JA X (e :: es) a)
    (hst : starEach (e :: es) X.env = (false, eval e X.env) :: starEach es X.env := by rfl) (hpl : (backTo pos (starEach es X.env)).any (·.1) = false := by rfl)
    (ht : eval (.Call (.Attribute o m apos) (e :: es) [] pos) X.env = (do
      let ov ← eval o X.env
      standAt apos.atName
      let (f, first) ← holding [ov] (getMethod ov m pl)
      callWith pos f first (backTo pos (starEach (e :: es) X.env)) (backToKw pos (keywordEach [] X.env))) := by rfl) :
    JP X (.Call (.Attribute o m apos) (e :: es) [] pos) (vmeth c f g a) := ⟨fun {σ F H δ W Q o'} rp tk hg hP => by
  obtain ⟨ga, fd, ps, Fo, hm, hb⟩ := hf.at_
  have FR := FnOk.raw (dvs := []) Fo hb .nil
  refine we_methS (pl := pl) hf.cls hm FR hr (passAt tk σ) (jp_bind ho rp tk hg hP fun x v F1 H1 h1 g1 rx r1 P1 => ?_) hst hpl ht
  obtain ⟨fs, rfl, h3⟩ := vmeth_obj h1
  obtain ⟨ad, dx, vs, rfl, hs, ro⟩ := rx.slt r1.ex
  refine ⟨ad, dx, vs, rfl, hs, ja_bind ha r1 tk h3 P1 fun xs ws F2 H2 h2 g2 rxs r2 P2 => ?_⟩
  show spP X.K f ((V.ref ad :: ws) ++ []) H2 Q (L2.WE W σ)
  rw [List.append_nil]
  exact ⟨F2, .obj c fs :: xs, _, r2.ex, .cons (rx.mono g2.ff) rxs, h2, post_call P2⟩⟩
end
end PD
end
section
namespace PD
open PySem L2
def putD (kvs : List (Key × D)) (k : Key) (v : D) : List (Key × D) :=
  if (kvs.any fun kv => decide (kv.1 = k)) = true then kvs.map (fun kv => if kv.1 = k then (kv.1, v) else kv) else kvs ++ [(k, v)]
theorem RepK.any {K : Frag} {F : Hp} {k : Key} : ∀ {vs : List (Key × V)} {ds : List (Key × D)}, RepK K F vs ds → (vs.any fun kv => decide (kv.1 = k)) = ds.any fun kv => decide (kv.1 = k)
  | _, _, .nil => rfl
  | _, _, .cons h r => by simp [RepK.any r]
theorem RepK.setAt {K : Frag} {F : Hp} {k : Key} {v : V} {d : D} (h : Rep K F v d) : ∀ {vs : List (Key × V)} {ds : List (Key × D)}, RepK K F vs ds → RepK K F (vs.map fun kv => if kv.1 = k then (kv.1, v) else kv) (ds.map fun kv => if kv.1 = k then (kv.1, d) else kv)
  | _, _, .nil => .nil
  | _, _, .cons (k := j) h1 r => by
    rw [List.map_cons, List.map_cons]
    by_cases e : j = k
    · simp only [e, if_true]; exact .cons h (RepK.setAt h r)
    · simp only [e, if_false]; exact .cons h1 (RepK.setAt h r)
theorem RepK.app {K : Frag} {F : Hp} : ∀ {vs ws : List (Key × V)} {ds es : List (Key × D)}, RepK K F vs ds → RepK K F ws es → RepK K F (vs ++ ws) (ds ++ es)
  | _, _, _, _, .nil, h => h
  | _, _, _, _, .cons h1 r, h => .cons h1 (RepK.app r h)
theorem RepK.put {K : Frag} {F : Hp} {k : Key} {v : V} {d : D} (h : Rep K F v d) {vs : List (Key × V)} {ds : List (Key × D)} (r : RepK K F vs ds) : RepK K F (putK vs k v) (putD ds k d) := by
  unfold putK putD
  rw [r.any]
  split
  · exact r.setAt h
  · exact r.app (.cons h .nil)
theorem callD_of {K : Frag} {r : List V → Hp → VK → Prop} {g : List D → Option D} (h : CallN K r g) : CallD K r g := fun {F H vs xs z} e rr hg Q q => h e rr hg Q fun p ob hp ho => q _ _ _ (.new e hp) (ho.rep (none_back e hp))
section
variable {X : Cx} {own : List Nat} {pos : Pos}
end
end PD
end
section
namespace PD
open PySem L2
def isC : D → Bool
  | .lst _ => true
  | .dic _ => true
  | _ => false
section
variable {K : Frag} {own : List Nat} {P : Pm} {F0 H0 F : Hp} {σ : L2.St} {H : Hp} {δ : Env}
theorem OwnV.cell {w : V} {d : D} {fp : List Addr} (o : OwnV K F H w d fp) (h : isC d = true) : ∃ p ob, w = .ref p ∧ fp = [p] ∧ H p = some ob ∧ OwnO K F ob d := by
  cases o with
  | lst h' r => exact ⟨_, _, rfl, rfl, h', .lst r⟩
  | dic h' r => exact ⟨_, _, rfl, rfl, h', .dic r⟩
  | obj _ => cases h
  | ins _ _ => cases h
  | tab _ => cases h
structure GrowO (fp : List Addr) (F H F' H' : Hp) : Prop where
  ff : Ex F F'
  fh : Ex F' H'
  hh : ∀ a o, a ∉ fp → H a = some o → H' a = some o
  dm : ∀ a, H a ≠ none → H' a ≠ none
  nw : ∀ a, F' a ≠ none → F a ≠ none ∨ H a = none
theorem RS.core {fp : Nat → List Addr} (r : RS K own P F0 H0 F σ H δ) (h1 : ∀ (i : Nat) (d : D), i ∈ own → δ[i]? = some (some d) → ∃ v : V, σ[i]? = some (some v) ∧ OwnV K F H v d (fp i))
    (h2 : ∀ i a, a ∈ fp i → F a = none ∧ H a ≠ none ∧ (H0 a = none ∨ P a ∧ (P.bx a → i = 0 ∨ i = 40))) (h3 : ∀ i j a, i ≠ j → a ∈ fp i → a ∉ fp j)
    {i : Nat} {d d' : D} {v : V} {F' H' : Hp} {fp' : List Addr} (hi : i ∈ own) (h : δ[i]? = some (some d)) (hv : σ[i]? = some (some v)) (g : GrowO (fp i) F H F' H') (ov : OwnV K F' H' v d' fp')
    (hn : ∀ a ∈ fp', F' a = none ∧ H' a ≠ none ∧ (a ∈ fp i ∨ (H0 a = none ∧ ∀ j, a ∉ fp j))) : RS K own P F0 H0 F' σ H' (δ.set i (some d')) where
  ff := r.ff.trans g.ff
  fh := g.fh
  hh := fun a o hp e => g.hh a o (fun q => (h2 i a q).2.2.elim (fun z => by rw [z] at e; cases e) fun z => hp z.1) (r.hh a o hp e)
  dm := fun a e => g.dm a (r.dm a e)
  nw := fun a e => (g.nw a e).elim (r.nw a) fun z => .inr (by
    cases e0 : H0 a with
    | none => rfl
    | some o => exact absurd z (r.dm a (by rw [e0]; simp)))
  ln := by rw [List.length_set, r.ln]
  par := r.par
  bxh := r.bxh
  val := fun j dj hj e => by
    have hne : i ≠ j := fun q => hj (by rw [← q]; exact hi)
    rw [List.getElem?_set_ne hne] at e
    obtain ⟨w, hw, rw'⟩ := r.val j dj hj e
    exact ⟨w, hw, rw'.mono g.ff⟩
  own := by
    have hl : i < δ.length := (List.getElem?_eq_some_iff.1 h).1
    refine ⟨fun j => if j = i then fp' else fp j, fun j dj hj e => ?_, fun j a ha => ?_, fun j k a hjk ha hk => ?_⟩
    · by_cases q : i = j
      · subst q
        rw [List.getElem?_set_self hl] at e; cases e
        exact ⟨v, hv, by dsimp only; rw [if_pos rfl]; exact ov⟩
      · rw [List.getElem?_set_ne q] at e
        obtain ⟨w, hw, ow⟩ := h1 j dj hj e
        dsimp only
        rw [if_neg (fun x => q x.symm)]
        exact ⟨w, hw, ow.keep g.ff fun a ha o e => g.hh a o (fun x => h3 i j a q x ha) e⟩
    · dsimp only at ha
      by_cases q : j = i
      · rw [if_pos q] at ha
        obtain ⟨a1, a2, a3⟩ := hn a ha
        exact ⟨a1, a2, a3.elim (fun z => by rw [q]; exact (h2 i a z).2.2) fun z => .inl z.1⟩
      · rw [if_neg q] at ha
        obtain ⟨b1, b2, b3⟩ := h2 j a ha
        refine ⟨?_, g.dm a b2, b3⟩
        cases q : F' a with
        | none => rfl
        | some o => exact ((g.nw a (by rw [q]; simp)).elim (fun z => absurd b1 z) fun z => absurd z b2)
    · dsimp only at ha hk
      by_cases q : j = i
      · rw [if_pos q] at ha
        rw [if_neg (fun x => hjk (q.trans x.symm))] at hk
        exact (hn a ha).2.2.elim (fun z => h3 i k a (fun x => hjk (q.trans x)) z hk) fun z => z.2 k hk
      · rw [if_neg q] at ha
        by_cases q2 : k = i
        · rw [if_pos q2] at hk
          exact (hn a hk).2.2.elim (fun z => h3 i j a (fun x => q x.symm) z ha) fun z => z.2 j ha
        · rw [if_neg q2] at hk
          exact h3 j k a hjk ha hk
theorem RS.alt {i : Nat} {d : D} (r : RS K own P F0 H0 F σ H δ) (hi : i ∈ own) (h : δ[i]? = some (some d)) : ∃ v fp, σ[i]? = some (some v) ∧ OwnV K F H v d fp ∧ (∀ a ∈ fp, F a = none ∧ H a ≠ none) ∧
    ∀ {F' H' : Hp} {d' : D} {fp' : List Addr}, GrowO fp F H F' H' → OwnV K F' H' v d' fp' → (∀ a ∈ fp', F' a = none ∧ H' a ≠ none ∧ (a ∈ fp ∨ H a = none)) → RS K own P F0 H0 F' σ H' (δ.set i (some d')) := by
  obtain ⟨fp, h1, h2, h3⟩ := r.own
  obtain ⟨v, hv, o⟩ := h1 i d hi h
  refine ⟨v, fp i, hv, o, fun a ha => ⟨(h2 i a ha).1, (h2 i a ha).2.1⟩, fun {F' H' d' fp'} g ov hn => r.core h1 h2 h3 hi h hv g ov fun a ha => ?_⟩
  obtain ⟨a1, a2, a3⟩ := hn a ha
  refine ⟨a1, a2, a3.imp id fun z => ⟨?_, fun j hj => (h2 j a hj).2.1 z⟩⟩
  cases e0 : H0 a with
  | none => rfl
  | some o => exact absurd z (r.dm a (by rw [e0]; simp))
theorem LS.alt {Dd : Addr} {ob : HO} {i : Nat} {d : D} (l : LS K own P F0 H0 Dd ob F σ H δ) (hi : i ∈ own) (h : δ[i]? = some (some d)) : ∃ v fp, σ[i]? = some (some v) ∧ OwnV K F H v d fp ∧ (∀ a ∈ fp, F a = none ∧ H a ≠ none ∧ a ≠ Dd) ∧
    ∀ {F' H' : Hp} {d' : D} {fp' : List Addr}, GrowO fp F H F' H' → OwnV K F' H' v d' fp' → (∀ a ∈ fp', F' a = none ∧ H' a ≠ none ∧ (a ∈ fp ∨ a = Dd)) → RS K own P F0 H0 F' σ H' (δ.set i (some d')) := by
  have R := l.rs
  obtain ⟨P', F1, H1, r, c, e, n, nf⟩ := l.r
  obtain ⟨fp, h1, h2, h3⟩ := r.own
  have nD : ∀ i, Dd ∉ fp i := fun i hi => (h2 i Dd hi).2.2.elim (fun q => by rw [e] at q; cases q) fun q => n q.1
  have h2' : ∀ i a, a ∈ fp i → F a = none ∧ H a ≠ none ∧ (H0 a = none ∨ P a ∧ (P.bx a → i = 0 ∨ i = 40)) := fun i a ha => ⟨(h2 i a ha).1, (h2 i a ha).2.1, (h2 i a ha).2.2.elim (fun q => .inl (by
    cases e0 : H0 a with
    | none => rfl
    | some o => exact absurd q (c.dm a (by rw [e0]; simp)))) fun q => (c.pp a q.1).imp id fun z => ⟨z, fun y => q.2 (c.bx a y)⟩⟩
  obtain ⟨v, hv, o⟩ := h1 i d hi h
  refine ⟨v, fp i, hv, o, fun a ha => ⟨(h2 i a ha).1, (h2 i a ha).2.1, fun q => nD i (q ▸ ha)⟩, fun {F' H' d' fp'} g ov hn => R.core h1 h2' h3 hi h hv g ov fun a ha => ?_⟩
  obtain ⟨a1, a2, a3⟩ := hn a ha
  exact ⟨a1, a2, a3.imp id fun z => by rw [z]; exact ⟨l.h0, nD⟩⟩
theorem RS.cell {i : Nat} {d : D} (r : RS K own P F0 H0 F σ H δ) (hi : i ∈ own) (h : δ[i]? = some (some d)) (hc : isC d = true) : ∃ p ob, σ[i]? = some (some (.ref p)) ∧ H p = some ob ∧ OwnO K F ob d ∧ F p = none := by
  obtain ⟨v, fp, hv, o, hf, _⟩ := r.alt hi h
  obtain ⟨p, ob, rfl, rfl, hp, oo⟩ := o.cell hc
  exact ⟨p, ob, hv, hp, oo, (hf p (by simp)).1⟩
end
section
variable {X : Cx} {own : List Nat} {e : Expr} {pos : Pos}
end
def keysS : List (Key × D) → Option (List Str)
  | [] => some []
  | (.inr x, _) :: r => (keysS r).map (x :: ·)
  | _ => none
theorem keysS_rep {K : Frag} {F : Hp} : ∀ {kds : List (Key × D)} {kvs : List (Key × V)} {ks : List Str}, RepK K F kvs kds → keysS kds = some ks → kvs.map (·.1) = ks.map Sum.inr
  | _, _, _, .nil, h => by cases h; rfl
  | (.inr x, d) :: kds, _, _, .cons hd r, h => by
    simp only [keysS, Option.map_eq_some_iff] at h
    obtain ⟨ks, h1, rfl⟩ := h
    rw [List.map_cons, List.map_cons, keysS_rep r h1]
  | (.inl x, d) :: kds, _, _, .cons hd r, h => by cases h
def dSorted2 : D → Option D
  | .dic kvs => (keysS kvs).bind fun ks => if ks.length < 64 then some (.lst (isort leD (ks.map .str))) else none
  | .fdc kvs => (keysS kvs).bind fun ks => if ks.length < 64 then some (.lst (isort leD (ks.map .str))) else none
  | d => dSorted d
theorem leD_str (a b : Str) : leD (.str a) (.str b) = !decide (b.cps.toList < a.cps.toList) := by
  show (!(PyProof.Rows.listOrd PyProof.Rows.itemOrd).blt (W.keyToks (PyData.str b)) (W.keyToks (PyData.str a))) = _
  simp only [W.keyToks]
  show (!PyProof.Rows.lexLt PyProof.Rows.itemOrd [.inr b.cps.toList] [.inr a.cps.toList]) = _
  congr 1
  by_cases h : b.cps.toList < a.cps.toList
  · rw [decide_eq_true h]
    exact PyProof.Rows.lex_true.mpr (.inl (decide_eq_true h))
  · rw [decide_eq_false h]
    refine PyProof.Rows.lex_false.mpr ⟨decide_eq_false h, ?_⟩
    exact .inr rfl
theorem leD_anti {a b : Str} (h1 : leD (.str a) (.str b) = true) (h2 : leD (.str b) (.str a) = true) : a = b := by
  rw [leD_str] at h1 h2
  simp at h1 h2
  have : a.cps.toList = b.cps.toList := List.le_antisymm h1 h2
  cases a; cases b
  simp only [Str.mk.injEq]
  exact Array.toList_inj.1 this
theorem sortedS_pw : ∀ {ys : List Str}, PyProof.Rows.sortedS ys = true → ys.Pairwise (fun a b => leD (.str a) (.str b) = true)
  | [], _ => .nil
  | [x], _ => by simp
  | x :: y :: r, h => by
    have h' : (!PySem.Spec.ltCps y.cps.toList x.cps.toList && PyProof.Rows.risingS y r) = true := h
    rw [Bool.and_eq_true] at h'
    have ih := sortedS_pw (ys := y :: r) h'.2
    have hxy : leD (.str x) (.str y) = true := by
      rw [leD_str, ← PyProof.Rows.ltCps_eq]; exact h'.1
    refine List.Pairwise.cons (fun z hz => ?_) ih
    rcases List.mem_cons.1 hz with rfl | hz
    · exact hxy
    · exact leD_total.trans _ _ _ hxy (List.rel_of_pairwise_cons ih hz)
theorem isort_permD : ∀ xs : List D, (isort leD xs).Perm xs
  | [] => .nil
  | x :: xs => by
    have ins : ∀ ys : List D, (insB leD x ys).Perm (x :: ys) := by
      intro ys
      induction ys with
      | nil => exact .refl _
      | cons y ys ih =>
        unfold insB
        split
        · exact .refl _
        · exact (List.Perm.cons y ih).trans (List.Perm.swap x y ys)
    exact (ins _).trans ((isort_permD xs).cons x)
theorem sorted_one {ys ks : List Str} (hp : ys.Perm ks) (hs : PyProof.Rows.sortedS ys = true) : ys.map D.str = isort leD (ks.map D.str) := by
  refine List.Perm.eq_of_pairwise (le := fun a b => leD a b = true) (fun a b ha hb h1 h2 => ?_) ?_ (isort_sorted leD_total _) ?_
  · obtain ⟨x, _, rfl⟩ := List.mem_map.1 ha
    obtain ⟨y, _, rfl⟩ := List.mem_map.1 ((isort_mem leD _ _).1 hb)
    rw [leD_anti h1 h2]
  · rw [List.pairwise_map]; exact sortedS_pw hs
  · exact (hp.map _).trans (isort_permD _).symm
abbrev rSorted2 (K : Frag) : List V → Hp → VK → Prop := fun xs H Q => rSortedX K xs H Q ∨ ∃ (a : Addr) (kvs : List (Key × V)) (ks : List Str), xs = [.ref a] ∧ Rd H a (.dK kvs) ∧ kvs.map (·.1) = ks.map Sum.inr ∧ ks.length < 64 ∧
    ∀ ys p, ys.Perm ks → PyProof.Rows.sortedS ys = true → H p = none → Q (.ref p) (upd H p (.lst (ys.map V.str)))
theorem b_sorted2 {X : Cx} (hc : X.calm = true) (hu : X.A.units + 70 < cLine) : CallR X (.builtin "sorted") (rSorted2 X.K) := (cr_sortedX hu).or (call_sortedD hc)
theorem reps_strs {K : Frag} {F : Hp} : ∀ xs : List Str, Reps K F (xs.map V.str) (xs.map D.str)
  | [] => .nil
  | x :: xs => .cons (.str x) (reps_strs xs)
theorem n_sorted2 {K : Frag} : CallN K (rSorted2 K) (one dSorted2) := fun {F H vs xs z} e r h Q q => by
  obtain ⟨x, rfl, h⟩ := one_some h
  have other : dSorted x = some z → rSorted2 K vs H Q := fun h => .inl (n_sorted e r (show one dSorted [x] = some z from h) Q q)
  cases x with
  | dic kds =>
    obtain ⟨w, rfl, rr⟩ := reps1 r
    cases rr with
    | dic h1 r1 =>
      replace h : ((keysS kds).bind fun ks => if ks.length < 64 then some (D.lst (isort leD (ks.map .str))) else none) = some z := h
      cases h2 : keysS kds with
      | none => rw [h2] at h; cases h
      | some ks =>
        rw [h2, Option.bind_some] at h
        split at h
        · rename_i hl
          cases h
          refine .inr ⟨_, _, ks, rfl, .of (e _ _ h1), keysS_rep r1 h2, hl, fun ys p hp hs hn => q p _ hn (.lst ?_)⟩
          rw [← sorted_one hp hs]
          exact reps_strs ys
        · cases h
  | fdc kds =>
    obtain ⟨w, rfl, rr⟩ := reps1 r
    cases rr with
    | fdc h1 r1 =>
      replace h : ((keysS kds).bind fun ks => if ks.length < 64 then some (D.lst (isort leD (ks.map .str))) else none) = some z := h
      cases h2 : keysS kds with
      | none => rw [h2] at h; cases h
      | some ks =>
        rw [h2, Option.bind_some] at h
        split at h
        · rename_i hl
          cases h
          refine .inr ⟨_, _, ks, rfl, .inr ⟨_, e _ _ h1⟩, keysS_rep r1 h2, hl, fun ys p hp hs hn => q p _ hn (.lst ?_)⟩
          rw [← sorted_one hp hs]
          exact reps_strs ys
        · cases h
  | _ => exact other h
theorem d_sorted2 {K : Frag} : CallD K (rSorted2 K) (one dSorted2) := callD_of n_sorted2
end PD
end
section
namespace PD
open PySem L2
def dcomp (vs : List Nat) (g : D → Env → Option Env) (t : Env → RE Bool) (ek ev : Env → RE D) : List D → List (Key × D) → Env → RE (List (Key × D))
  | [], acc, δ => some (.ok (acc, δ))
  | d :: ds, acc, δ => match g d δ with
    | none => none
    | some δ1 => match t δ1 with
      | some (.ok (true, δ2)) => (match ek δ2 with
        | some (.ok (k, δ3)) => (match ev δ3 with
          | some (.ok (y, δ4)) => (match keyOf k with
            | some key => if acc.length < sizeLine then dcomp vs g t ek ev ds (putD acc key y) (wipeD vs δ4) else none
            | none => none)
          | _ => none)
        | _ => none)
      | some (.ok (false, δ2)) => dcomp vs g t ek ev ds acc (wipeD vs δ2)
      | _ => none
section
variable {X : Cx} {own : List Nat} {kx vx tg iter : Expr} {ifs : List Expr} {scope : Scope} {ow : List (Str × Nat)} {pos : Pos} {f : Env → RE (List D)} {g : D → Env → Option Env} {is : List Nat} {t : Env → RE Bool} {ek ev : Env → RE D}
theorem dc_read {σ : L2.St} {P : Pm} {F0 H0 F H : Hp} {δ : Env} {W : WX} {o : Except (XD × Env) (List (Key × D) × Env)} {Q : VK} (hi : JI X own tg iter f)
    (hg : ∀ (s : Shared) (Hb : Hp) (C : Addr) (cl : List (Str × Addr)) (fp : List Addr), JG (X.blk s Hb scope (compEnvC scope cl C X.env) fp) own tg is g)
    (ht : ∀ (s : Shared) (Hb : Hp) (C : Addr) (cl : List (Str × Addr)) (fp : List Addr), JTs (X.blk s Hb scope (compEnvC scope cl C X.env) fp) own ifs t)
    (hk : ∀ (s : Shared) (Hb : Hp) (C : Addr) (cl : List (Str × Addr)) (fp : List Addr), JE (X.blk s Hb scope (compEnvC scope cl C X.env) fp) own kx ek)
    (he : ∀ (s : Shared) (Hb : Hp) (C : Addr) (cl : List (Str × Addr)) (fp : List Addr), JE (X.blk s Hb scope (compEnvC scope cl C X.env) fp) own vx ev)
    (hvs : (ow.map (·.2)).all (fun i => !own.contains i) = true) (his : is.all (fun i => (ow.map (·.2)).contains i) = true)
    (r : RSf X ⟨own, P, F0, H0⟩ F σ H δ) (tk : Takes X W) (hh : bindE (f δ) (fun ds δ' => dcomp (ow.map (·.2)) g t ek ev ds [] (wipeD (ow.map (·.2)) δ')) = some o)
    (hx : ∀ x δ', o = .error (x, δ') → ∀ cls dd F' H', RSf X ⟨own, P, F0, H0⟩ F' σ H' δ' → Ex F F' → RepX X.K F' cls dd x → W cls dd σ H')
    (hP : ∀ ds δ', o = .ok (ds, δ') → ∀ Dd vs F' H', LS X.K own P F0 H0 Dd (.dK vs) F' σ H' δ' → Ex F F' → RepK X.K F' vs ds → Q (.ref Dd) H') :
    tDc (WI X tg iter) (bG X scope tg) (bT X scope ifs) (bE X scope kx) (bE X scope vx) (ow.map (·.2)) σ H Q := by
  have hv : ∀ i, i ∈ ow.map (·.2) → i ∉ own := fun i hi hc => by
    have := List.all_eq_true.1 hvs i hi
    simp at this
    exact this hc
  have hi' : ∀ i, i ∈ is → i ∈ ow.map (·.2) := fun i h => by
    have := List.all_eq_true.1 his i h
    simpa using this
  cases e0 : f δ with
  | none => rw [e0] at hh; cases hh
  | some y =>
    rw [e0] at hh
    rcases y with ⟨x, δ1⟩ | ⟨ds, δ1⟩
    · cases hh; exact hi.run r tk e0 (hx x δ1 rfl)
    · simp only [bindE] at hh
      refine hi.run r tk e0 fun J F1 H1 r1 e1 src => fun Dd hD => ?_
      refine ⟨fun i m Hc => ∃ F' δ' acc vs, LS X.K own P F0 H0 Dd (.dK vs) F' (wipe σ (ow.map (·.2))) Hc δ' ∧ Ex F1 F' ∧ RepK X.K F' vs acc ∧ i + m = ds.length ∧ dcomp (ow.map (·.2)) g t ek ev (ds.drop i) acc δ' = some o, ⟨ds.length, F1, _, [], [], .start (r1.wipe hv) hD, Ex.refl _, .nil, Nat.zero_add _, hh⟩, ?_⟩
      rintro i m H2 ⟨F2, δ2, acc, vs, l2, e2, ra, hm, h2⟩
      cases hd : ds[i]? with
      | none =>
        have hl : ds.length ≤ i := List.getElem?_eq_none_iff.1 hd
        rw [List.drop_of_length_le hl] at h2
        cases h2
        obtain ⟨⟨P', Fb, Hb, rr, cc, ee, nn, nf⟩, nh⟩ := l2
        exact .inl ⟨src.stop e2 rr.fh hl, hP acc δ2 rfl Dd vs F2 H2 ⟨⟨P', Fb, Hb, rr.unwipe, cc, ee, nn, nf⟩, nh⟩ (e1.trans e2) ra⟩
      | some d =>
        have hl : i < ds.length := (List.getElem?_eq_some_iff.1 hd).1
        have hd' : ds[i] = d := (List.getElem?_eq_some_iff.1 hd).2
        rw [List.drop_eq_getElem_cons hl, hd'] at h2
        obtain ⟨⟨P', Fb, Hb, rr, cc, ee, nn, nf⟩, nh⟩ := l2
        obtain ⟨g1, g2⟩ := src.go e2 rr.fh hd
        refine .inr ⟨g1, fun Hc => ∃ F' δ' acc vs, LS X.K own P F0 H0 Dd (.dK vs) F' (wipe σ (ow.map (·.2))) Hc δ' ∧ Ex F1 F' ∧ RepK X.K F' vs acc ∧ (i + 1) + (m - 1) = ds.length ∧ dcomp (ow.map (·.2)) g t ek ev (ds.drop (i + 1)) acc δ' = some o, fun H' h => ⟨m - 1, by omega, h⟩, fun x H' hy => ?_⟩
        obtain ⟨F3, g3, rx⟩ := g2 x H' hy
        simp only [dcomp] at h2
        cases e4 : g d δ2 with
        | none => rw [e4] at h2; cases h2
        | some δ4 =>
          rw [e4] at h2
          simp only [] at h2
          intro s0 Hb0 C0 cl0 fp0
          have ww : wipe (wipe σ (ow.map (·.2))) (ow.map (·.2)) = wipe σ (ow.map (·.2)) := wipe_wipe fun _ h => h
          refine (hg s0 Hb0 C0 cl0 fp0).run (P := P') (F0 := Fb) (H0 := Hb) (rr.grow g3) rx e4 fun σ4 F4 H4 r4 x4 w4 => ⟨(w4 _ hi').trans ww, fun s1 Hb1 C1 cl1 fp1 => ?_⟩
          have hw := (w4 _ hi').trans ww
          cases e5 : t δ4 with
          | none => rw [e5] at h2; cases h2
          | some z =>
            rw [e5] at h2
            rcases z with ⟨x5, δ5⟩ | ⟨b5, δ5⟩
            · cases h2
            · refine (ht s1 Hb1 C1 cl1 fp1).run (W := fun _ _ _ _ => False) (P := P') (F0 := Fb) (H0 := Hb) r4 (takes_false fun _ _ _ _ h => h) e5 fun v5 F5 H5 r5 x5 rb => ?_
              cases rb
              have ex5 : Ex F2 F5 := (g3.ff.trans x4).trans x5
              cases b5 with
              | false =>
                rw [if_neg Bool.false_ne_true]
                dsimp only at h2
                refine ⟨F5, _, acc, vs, ⟨⟨P', Fb, Hb, ?_, cc, ee, nn, nf⟩, nh⟩, e2.trans ex5, ra.mono ex5, by omega, h2⟩
                have := r5.wipe hv
                rw [hw] at this
                exact this
              | true =>
                rw [if_pos rfl]
                dsimp only at h2
                intro s2 Hb2 C2 cl2 fp2
                cases e6 : ek δ5 with
                | none => rw [e6] at h2; cases h2
                | some z =>
                  rw [e6] at h2
                  rcases z with ⟨x6, δ6⟩ | ⟨k6, δ6⟩
                  · cases h2
                  · dsimp only at h2
                    refine (hk s2 Hb2 C2 cl2 fp2).run (W := fun _ _ _ _ => False) (P := P') (F0 := Fb) (H0 := Hb) r5 (takes_false fun _ _ _ _ h => h) e6 fun v6 F6 H6 r6 x6 rk => ?_
                    intro s3 Hb3 C3 cl3 fp3
                    cases e7 : ev δ6 with
                    | none => rw [e7] at h2; cases h2
                    | some z =>
                      rw [e7] at h2
                      rcases z with ⟨x7, δ7⟩ | ⟨y7, δ7⟩
                      · cases h2
                      · dsimp only at h2
                        refine (he s3 Hb3 C3 cl3 fp3).run (W := fun _ _ _ _ => False) (P := P') (F0 := Fb) (H0 := Hb) r6 (takes_false fun _ _ _ _ h => h) e7 fun v7 F7 H7 r7 x7 ry => ?_
                        cases hkk : keyOf k6 with
                        | none => rw [hkk] at h2; cases h2
                        | some key =>
                          rw [hkk] at h2
                          dsimp only at h2
                          split at h2
                          · rename_i hsz
                            cases keyOf_rep rk hkk
                            have ex7 : Ex F2 F7 := (ex5.trans x6).trans x7
                            have r8 := r7.wipe hv
                            rw [hw] at r8
                            have l8 : LS X.K own P F0 H0 Dd (.dK vs) F7 (wipe σ (ow.map (·.2))) H7 (wipeD (ow.map (·.2)) δ7) := ⟨⟨P', Fb, Hb, r8, cc, ee, nn, nf⟩, nh⟩
                            refine ⟨vs, key, rfl, l8.at, by rw [RepK.len ra]; exact hsz, F7, _, putD acc key y7, putK vs key v7, l8.app, e2.trans ex7, (ra.mono ex7).put ry, by omega, h2⟩
                          · cases h2
def edcomp (vs : List Nat) (f : Env → RE (List D)) (g : D → Env → Option Env) (t : Env → RE Bool) (ek ev : Env → RE D) : Env → RE D := fun δ => bindE (f δ) fun ds δ' => bindE (dcomp vs g t ek ev ds [] (wipeD vs δ')) fun ys δ2 => some (.ok (.dic ys, δ2))
theorem jn_dc (hc : X.calm = true) (hN : X.N.Nodup) (hi : JI X own tg iter f) (ok : BlkOk X.N X.env.scope scope ow)
    (hg : ∀ (s : Shared) (Hb : Hp) (C : Addr) (cl : List (Str × Addr)) (fp : List Addr), JG (X.blk s Hb scope (compEnvC scope cl C X.env) fp) own tg is g)
    (ht : ∀ (s : Shared) (Hb : Hp) (C : Addr) (cl : List (Str × Addr)) (fp : List Addr), JTs (X.blk s Hb scope (compEnvC scope cl C X.env) fp) own ifs t)
    (hk : ∀ (s : Shared) (Hb : Hp) (C : Addr) (cl : List (Str × Addr)) (fp : List Addr), JE (X.blk s Hb scope (compEnvC scope cl C X.env) fp) own kx ek)
    (he : ∀ (s : Shared) (Hb : Hp) (C : Addr) (cl : List (Str × Addr)) (fp : List Addr), JE (X.blk s Hb scope (compEnvC scope cl C X.env) fp) own vx ev)
    (hvs : (ow.map (·.2)).all (fun i => !own.contains i) = true := by decide) (his : is.all (fun i => (ow.map (·.2)).contains i) = true := by decide) (hs : ∀ x, foldedSetIterable iter X.env x = pure x := by intro _; rfl) :
    JN X own (.DictComp kx vx [⟨tg, iter, ifs, 0⟩] scope pos) (edcomp (ow.map (·.2)) f g t ek ev) := ⟨fun {P F0 H0 σ F H δ W Q o} r tk hh hP => by
  refine we_of (pe_dc (g := bG X scope tg) (tt := bT X scope ifs) (tk := bE X scope kx) (tv := bE X scope vx) hc hN pi_wi ok (fun s Hb C cl fp => ⟨fun pins s' σ' H' v u Q' I rv h => (h s Hb C cl fp) pins s' u I rv⟩) (fun s Hb C cl fp => ⟨fun pins s' σ' H' Q' I h => (h s Hb C cl fp) pins s' I⟩) (fun s Hb C cl fp => ⟨fun pins s' σ' H' Q' I h => (h s Hb C cl fp) pins s' I⟩) (fun s Hb C cl fp => ⟨fun pins s' σ' H' Q' I h => (h s Hb C cl fp) pins s' I⟩) hs) ?_
  unfold edcomp at hh
  rw [← bindE_assoc] at hh
  cases e0 : bindE (f δ) (fun ds δ' => dcomp (ow.map (·.2)) g t ek ev ds [] (wipeD (ow.map (·.2)) δ')) with
  | none => rw [e0] at hh; cases hh
  | some o1 =>
    rw [e0] at hh
    refine dc_read (ow := ow) hi hg ht hk he hvs his r tk e0 (fun x δ' q => ?_) (fun ds δ' q Dd vs F' H' l x rv => ?_)
    · subst q; cases hh; exact hP
    · subst q; cases hh
      exact hP _ _ _ _ l x (.dic rv)⟩
end
end PD
end
section
namespace PD
open PySem L2
section
variable {K : Frag} {own : List Nat} {P : Pm} {F0 H0 F : Hp} {σ : L2.St} {H : Hp} {δ : Env}
theorem OwnV.frz {F' : Hp} {w : V} {d : D} {fp : List Addr} (o : OwnV K F H w d fp) (hin : ∀ a ∈ fp, F' a = H a) (ef : Ex F F') : Rep K F' w d := by
  cases o with
  | lst h rr => exact .lst (by rw [hin _ (by simp)]; exact h) (rr.mono ef)
  | dic h rr => exact .dic (by rw [hin _ (by simp)]; exact h) (rr.mono ef)
  | ins h rr => exact .ins (by rw [hin _ (by simp)]; exact h) (rr.mono ef)
  | tab h => exact .fn _
  | obj h =>
    refine .obj (by rw [hin _ h.inp]; exact h.ob) (by rw [hin _ h.inx]; exact h.dxo) (repO_of fun j e hj => ?_)
    obtain ⟨w, hw, rw'⟩ := h.fld j e hj
    refine ⟨w, hw, ?_⟩
    split at rw'
    · obtain ⟨oc, hk, _⟩ := rw'
      cases oc with
      | lst h2 r2 => exact .lst (by rw [hin _ hk]; exact h2) (r2.mono ef)
      | dic h2 r2 => exact .dic (by rw [hin _ hk]; exact h2) (r2.mono ef)
    · exact rw'.mono ef
theorem OwnV.there {w : V} {d : D} {fp : List Addr} (o : OwnV K F H w d fp) : ∀ a ∈ fp, H a ≠ none := by
  cases o with
  | lst h rr => intro a ha; cases List.mem_singleton.1 ha; rw [h]; simp
  | dic h rr => intro a ha; cases List.mem_singleton.1 ha; rw [h]; simp
  | ins h rr => intro a ha; cases List.mem_singleton.1 ha; rw [h]; simp
  | tab h => intro a ha; obtain ⟨ps, h, _⟩ := h; cases List.mem_singleton.1 ha; rw [h]; simp
  | obj h =>
    intro a ha
    rcases h.all a ha with rfl | rfl | ⟨j, e, hj, he, rfl⟩
    · rw [h.ob]; simp
    · rw [h.dxo]; simp
    · obtain ⟨w, hw, rw'⟩ := h.fld j e he
      rw [if_pos hj] at rw'
      obtain ⟨oc, hk, _⟩ := rw'
      cases oc with
      | lst h2 r2 => rw [h2]; simp
      | dic h2 r2 => rw [h2]; simp
theorem OwnV.ref {w : V} {d : D} {fp : List Addr} (o : OwnV K F H w d fp) (hn : ∀ x, d ≠ .fn x) : ∃ p, w = .ref p ∧ p ∈ fp := by
  cases o with
  | lst h rr => exact ⟨_, rfl, by simp⟩
  | dic h rr => exact ⟨_, rfl, by simp⟩
  | ins h rr => exact ⟨_, rfl, by simp⟩
  | obj h => exact ⟨_, rfl, h.inp⟩
  | tab h => exact absurd rfl (hn _)
def putF (i : Nat) (d : D) (fs : List (Option D)) : List (Option D) := (fs ++ List.replicate (i + 1 - fs.length) none).set i (some d)
theorem putF_get (i : Nat) (d : D) (fs : List (Option D)) : (putF i d fs)[i]? = some (some d) := by
  unfold putF
  exact List.getElem?_set_self (by simp only [List.length_append, List.length_replicate]; omega)
theorem putF_ne {i j : Nat} {d x : D} {fs : List (Option D)} (h : j ≠ i) : (putF i d fs)[j]? = some (some x) ↔ fs[j]? = some (some x) := by
  unfold putF
  rw [List.getElem?_set_ne (Ne.symm h)]
  by_cases hj : j < fs.length
  · rw [List.getElem?_append_left hj]
  · have e1 : fs[j]? = Option.none := List.getElem?_eq_none_iff.mpr (by omega)
    rw [e1, List.getElem?_append_right (by omega), List.getElem?_replicate]
    constructor
    · intro q
      split at q <;> cases q
    · intro q; cases q
theorem putF_at {i j : Nat} {d x : D} {fs : List (Option D)} (h : (putF i d fs)[j]? = some (some x)) : (j = i ∧ x = d) ∨ (j ≠ i ∧ fs[j]? = some (some x)) := by
  by_cases q : j = i
  · subst q
    rw [putF_get] at h; cases h
    exact .inl ⟨rfl, rfl⟩
  · exact .inr ⟨q, (putF_ne q).1 h⟩
theorem OwnB.put {p dx : Addr} {c : Str} {vs : List (Option V)} {ds : List (Option D)} {kp : Nat → Addr} {fp : List Addr} {j : Nat} {v : V} {d : D} (b : OwnB K F H p dx c vs ds kp fp) (hj : ownF c j = false) (rv : Rep K F v d) :
    OwnB K F (SlX.slH H p (He.ga K c) dx (SlX.putS j v vs)) p dx c (SlX.putS j v vs) (putF j d ds) kp fp where
  ob := by unfold SlX.slH; rw [upd_same]
  dxo := by unfold SlX.slH; rw [upd_ne b.ne, upd_same]
  ne := b.ne
  fld := fun i e hi => by
    rcases putF_at hi with ⟨rfl, rfl⟩ | ⟨hne, hi⟩
    · exact ⟨v, SlX.putS_get _ _ _, by rw [if_neg (by rw [hj]; simp)]; exact rv⟩
    · obtain ⟨w, hw, rw'⟩ := b.fld i e hi
      refine ⟨w, (SlX.putS_ne hne).2 hw, ?_⟩
      split
      · rename_i q
        rw [if_pos q] at rw'
        obtain ⟨oc, h1, h2, h3⟩ := rw'
        exact ⟨oc.keep (Ex.refl _) fun o e => by rw [SlX.slH_ne h2 h3]; exact e, h1, h2, h3⟩
      · rename_i q
        rw [if_neg q] at rw'
        exact rw'
  dis := fun i i2 e e2 hne o1 o2 h1 h2 => by
    rcases putF_at h1 with ⟨rfl, rfl⟩ | ⟨n1, h1⟩
    · rw [hj] at o1; cases o1
    · rcases putF_at h2 with ⟨rfl, rfl⟩ | ⟨n2, h2⟩
      · rw [hj] at o2; cases o2
      · exact b.dis i i2 e e2 hne o1 o2 h1 h2
  inp := b.inp
  inx := b.inx
  all := fun a ha => (b.all a ha).imp id fun h => h.imp id fun ⟨i, e, h1, h2, h3⟩ => ⟨i, e, h1, by rw [putF_ne (fun q => by rw [q, hj] at h1; cases h1)]; exact h2, h3⟩
theorem growO_sl {fp : List Addr} {p dx C : Addr} {vs : List (Option V)} (e : Ex F H) (hp : p ∈ fp) (hx : dx ∈ fp) (hF : F p = none) (hF2 : F dx = none) : GrowO fp F H F (SlX.slH H p C dx vs) where
  ff := Ex.refl _
  fh := fun a o h => by
    have h1 : a ≠ p := fun x => by rw [x, hF] at h; cases h
    have h2 : a ≠ dx := fun x => by rw [x, hF2] at h; cases h
    rw [SlX.slH_ne h1 h2]; exact e a o h
  hh := fun a o h q => by rw [SlX.slH_ne (fun x => h (by rw [x]; exact hp)) (fun x => h (by rw [x]; exact hx))]; exact q
  dm := fun a h => by
    unfold SlX.slH
    by_cases x : a = p
    · rw [x, upd_same]; simp
    · rw [upd_ne x]
      by_cases y : a = dx
      · rw [y, upd_same]; simp
      · rw [upd_ne y]; exact h
  nw := fun _ h => .inl h
end
def oOf (d : D) (δ : Env) : Option (D × D) := match δ[(0 : Nat)]? with
  | some (some B') => some (d, B')
  | _ => none
def denO (n N : Nat) (body : Env → RO) (B : D) (ds : List D) : Option (D × D) := if ds.length + 1 = n then (match body (some B :: (ds.map some ++ List.replicate (N - n) none)) with
  | some (.ok (.rt d, δ)) => oOf d δ
  | some (.ok (.nx, δ)) => oOf .non δ
  | _ => none) else none
theorem oOf_some {d d' : D} {δ : Env} {B : D} (h : oOf d δ = some (d', B)) : d = d' ∧ δ[0]? = some (some B) := by
  unfold oOf at h
  split at h
  · cases h; exact ⟨rfl, by assumption⟩
  · cases h
section
variable {P : Program} {w : World} {K : Frag} {mg : Str → Option Value} {base : Heap}
theorem bdO_okB {qual : Str} {body : List Stmt} {scope : Scope} {f : Addr} {N ps : List Str} {own : List Nat} {g : Env → RO} (hon : own.all (fun i => decide (i = 0 ∨ ps.length ≤ i)) = true) (h0 : own.contains 0 = true)
    (hps : decide (ps.length ≤ N.length) = true)
    {cdv : Value} {A : Around} {outer : List PySem.Env} {s : Shared} {HX H : Hp} {E : XK} {F' : Hp} {p : Addr} {ws : List V} {B : D} {ds : List D} {d B' : D} {fp : List Addr} {Q : VK}
    (hb : JB (cxOf (L2.CX P w) P w K mg base N qual scope f cdv A outer s HX E) own body g) (e : Ex F' H) (oB : OwnV K F' H (.ref p) B fp) (hF : ∀ a ∈ fp, F' a = none) (rd : Reps K F' ws ds) (h1 : denO ps.length N.length g B ds = some (d, B'))
    (hP : ∀ v F1 H1 fp', GrowO fp F' H F1 H1 → OwnV K F1 H1 (.ref p) B' fp' → (∀ a ∈ fp', F1 a = none ∧ H1 a ≠ none ∧ (a ∈ fp ∨ H a = none)) → Rep K F1 v d → Q v H1) :
    WSs (cxOf (L2.CX P w) P w K mg base N qual scope f cdv A outer s HX E) body { nx := fun _ H' => Q .non H', rt := Q } (L2.start N (.ref p :: ws)) H := by
  unfold denO at h1
  by_cases hl : ds.length + 1 = ps.length
  · rw [if_pos hl] at h1
    have hl' : ps.length ≤ N.length := of_decide_eq_true hps
    have hlv : ws.length = ds.length := Rep.len rd
    have h0' : 0 ∈ own := by simpa using h0
    have tk : Takes (cxOf (L2.CX P w) P w K mg base N qual scope f cdv A outer s HX E) (fun cls d _ H => E cls d H) := takes_of rfl rfl rfl rfl
    have R0 : RSf (cxOf (L2.CX P w) P w K mg base N qual scope f cdv A outer s HX E) ⟨own, ⟨fun a => a ∈ fp, fun a => a ∈ fp, fun a => a = p⟩, F', H⟩ F' (L2.start N (.ref p :: ws)) H (some B :: (ds.map some ++ List.replicate (N.length - ps.length) none)) := {
      ff := Ex.refl _
      fh := e
      hh := fun _ _ _ h => h
      dm := fun _ h => h
      nw := fun _ h => .inl h
      ln := by unfold L2.start; simp [hlv]; omega
      par := fun a h => ⟨h0', by rw [show a = p from h]; rfl⟩
      bxh := fun a h => oB.there a h
      val := fun i d hi h => by
        cases i with
        | zero => exact absurd h0' hi
        | succ i =>
          unfold L2.start
          rw [List.getElem?_cons_succ] at h
          rw [List.map_cons, List.cons_append, List.getElem?_cons_succ]
          exact Reps.some_get rd h
      own := ⟨fun i => if i = 0 then fp else [], And.intro (fun (i : Nat) (d : D) hi (h : (some B :: (List.map some ds ++ List.replicate (N.length - ps.length) (none : Option D)))[i]? = some (some d)) => by
        cases i with
        | zero => cases h; exact ⟨.ref p, rfl, oB⟩
        | succ i =>
          have := of_decide_eq_true (List.all_eq_true.1 hon _ hi)
          rw [List.getElem?_cons_succ, List.getElem?_append_right (by rw [List.length_map]; omega), List.getElem?_replicate] at h
          split at h <;> cases h) (And.intro (fun i a h => by
            dsimp only at h
            by_cases q : i = 0
            · rw [if_pos q] at h; exact ⟨hF a h, oB.there a h, .inr ⟨h, fun _ => .inl q⟩⟩
            · rw [if_neg q] at h; cases h) (fun i j a hij h h2 => by
            dsimp only at h h2
            by_cases q : i = 0
            · rw [if_neg (fun z => hij (q.trans z.symm))] at h2; cases h2
            · rw [if_neg q] at h; cases h))⟩ }
    have fin : ∀ (own' : List Nat) (h0' : 0 ∈ own') (v : V) (σ' : L2.St) (F1 H1 : Hp) (δ' : Env), RSf (cxOf (L2.CX P w) P w K mg base N qual scope f cdv A outer s HX E) ⟨own', ⟨fun a => a ∈ fp, fun a => a ∈ fp, fun a => a = p⟩, F', H⟩ F1 σ' H1 δ' → δ'[0]? = some (some B') → Rep K F1 v d → Q v H1 := fun own' h0' v σ' F1 H1 δ' r1 hB rv => by
      obtain ⟨fp1, k1, k2, k3⟩ := r1.own
      obtain ⟨v0, hv0, o0⟩ := k1 0 B' h0' hB
      have := (r1.par p rfl).2
      rw [this] at hv0; cases hv0
      exact hP v F1 H1 (fp1 0) ⟨r1.ff, r1.fh, fun a o hne h => r1.hh a o hne h, r1.dm, r1.nw⟩ o0 (fun a ha => ⟨(k2 0 a ha).1, (k2 0 a ha).2.1, (k2 0 a ha).2.2.elim .inr fun q => .inl q.1⟩) rv
    cases e2 : g (some B :: (ds.map some ++ List.replicate (N.length - ps.length) none)) with
    | none => rw [e2] at h1; cases h1
    | some y =>
      rw [e2] at h1
      refine hb.run R0 tk e2 fun own' hown _ => ?_
      have hz : 0 ∈ own' := hown p rfl
      rcases y with ⟨x, δ'⟩ | ⟨o1, δ'⟩
      · cases h1
      · cases o1 with
        | rt d1 => obtain ⟨rfl, hB⟩ := oOf_some h1; exact fun v σ' F1 H1 r1 e1 rx => fin own' hz v σ' F1 H1 δ' r1 hB rx
        | nx => obtain ⟨rfl, hB⟩ := oOf_some h1; exact fun σ' F1 H1 r1 e1 => fin own' hz .non σ' F1 H1 δ' r1 hB .non
        | bk => cases h1
        | ct => cases h1
  · rw [if_neg hl] at h1; cases h1
theorem inv_view {X : Cx} {pins : List (Addr × Obj)} {σ : L2.St} {H : Hp} {s : Shared} {a C dx : Addr} {vs : List (Option V)} (I : Inv X pins σ H s) (h : SlX.Slt H a C dx vs) : Inv X pins σ (SlX.slH H a C dx vs) s := by
  obtain ⟨ne, sl, mA, e, r, n, q⟩ := SlX.slt_at I h
  exact SlX.inv_slot (h' := s.heap) (t' := s.toks) I h (fun b o _ _ e => e) (fun m h => h) e r
def spI (K : Frag) (c : Str) (m : List D → Option D) : Sp := fun vs H Q _ => ∃ F p dx ws ds B', vs = .ref p :: ws ∧ Ex F H ∧ F p = none ∧ F dx = none ∧ dx ≠ p ∧ H p = some (.ins (He.ga K c) dx []) ∧ H dx ≠ none ∧ Reps K F ws ds ∧ m ds = some B' ∧
  ∀ F' H' fp', GrowO [p, dx] F H F' H' → OwnV K F' H' (.ref p) B' fp' → (∀ a ∈ fp', F' a = none ∧ H' a ≠ none ∧ (a = p ∨ a = dx ∨ H a = none)) → Q .non H'
def denI (c : Str) (n N : Nat) (body : Env → RO) (ds : List D) : Option D := match denO n N body (.obj c []) ds with
  | some (.non, B) => some B
  | _ => none
theorem fnI_okB {x qual : Str} {params : Arguments} {body : List Stmt} {scope : Scope} {f : Addr} {fd : FuncData} {dvs : List V} {kws : List (Str × V)} {N ps : List Str} {k : Nat} {own : List Nat} {g : Env → RO} (c : Str) (F : FunD K x qual params body scope dvs kws f fd) (S : FnScope N ps scope) (hon : own.all (fun i => decide (i = 0 ∨ ps.length ≤ i)) = true) (h0 : own.contains 0 = true)
    (hps : decide (ps.length ≤ N.length) = true)
    (hb : ∀ (cdv : Value) (A : Around) (outer : List PySem.Env) (s : Shared) (H : Hp) (E : XK), Room k (A.deeper (PyProof.Rows.envOfC qual scope s.heap.objs.size f cdv)) → JB (cxOf (L2.CX P w) P w K mg base N qual scope f cdv A outer s H E) own body g) :
    FnOk P w K mg base (L2.CX P w) (k + 1) f fd ps (spI K c (denI c ps.length N.length g)) := by
  have den : ∀ {ds : List D} {B' : D}, denI c ps.length N.length g ds = some B' → denO ps.length N.length g (.obj c []) ds = some (.non, B') := fun {ds B'} h => by
    unfold denI at h
    split at h
    · rename_i e; cases h; exact e
    · cases h
  refine FunD.ok F S (fun vs H Q E h => ?_) (fun cdv A outer s H vs Q E hr h => ?_)
  · obtain ⟨F', p, dx, ws, ds, B', rfl, e, hp, hx, ne, hH, hHx, rd, h1, _⟩ := h
    have h1 := den h1
    unfold denO at h1
    by_cases hl : ds.length + 1 = ps.length
    · rw [List.length_cons, Rep.len rd, hl]
    · rw [if_neg hl] at h1; cases h1
  · obtain ⟨F', p, dx, ws, ds, B', rfl, e, hp, hx, ne, hH, hHx, rd, h1, hP⟩ := h
    have h1 := den h1
    refine ⟨_, pss_wss, fun pins s' I => ?_⟩
    have I2 := inv_view I (a := p) (C := He.ga K c) (dx := dx) (vs := []) (.inl ⟨hH, rfl⟩)
    have oB : OwnV K F' (SlX.slH H p (He.ga K c) dx []) (.ref p) (.obj c []) [p, dx] := .obj (vs := []) (kp := fun _ => p) {
      ob := by unfold SlX.slH; rw [upd_same]
      dxo := by unfold SlX.slH; rw [upd_ne ne, upd_same]
      ne := ne
      fld := fun i d h => by simp at h
      dis := fun i j d e _ _ _ h => by simp at h
      inp := by simp
      inx := by simp
      all := fun a ha => by simp at ha; exact ha.imp id .inl }
    have ge : GrowO [p, dx] F' H F' (SlX.slH H p (He.ga K c) dx []) := growO_sl e (by simp) (by simp) hp hx
    refine (bdO_okB hon h0 hps (hb cdv A outer s H E hr) (H := SlX.slH H p (He.ga K c) dx []) ge.fh oB (fun a ha => by
      simp at ha
      rcases ha with rfl | rfl
      · exact hp
      · exact hx) rd h1 (Q := Q) fun v F1 H1 fp' g1 o1 hn rv => ?_) pins s' I2
    cases rv
    have hnone : ∀ a, SlX.slH H p (He.ga K c) dx [] a = none → H a = none := fun a h => by
      cases q : H a with
      | none => rfl
      | some o => exact absurd h (ge.dm a (by rw [q]; simp))
    refine hP F1 H1 fp' ⟨g1.ff, g1.fh, fun a o h q => g1.hh a o h (ge.hh a o h q), fun a h => g1.dm a (ge.dm a h), fun a h => (g1.nw a h).imp id (hnone a)⟩ o1 fun a ha => ?_
    obtain ⟨a1, a2, a3⟩ := hn a ha
    refine ⟨a1, a2, a3.elim (fun q => ?_) fun q => .inr (.inr (hnone a q))⟩
    simp at q
    exact q.elim .inl fun q => .inr (.inl q)
structure FnI (P : Program) (w : World) (K : Frag) (mg : Str → Option Value) (base : Heap) (k : Nat) (c : Str) (m : List D → Option D) : Prop where
  at_ : ∃ f fd ps, FnOk P w K mg base (L2.CX P w) k f fd ps (spI K c m) ∧ Mk K (He.ga K c) f ∧ mg c = some (.ref (He.ga K c)) ∧ Binds K fd ps []
end
section
variable {X : Cx} {own : List Nat} {e : Expr} {es : List Expr} {pos : Pos}
def vmake (m : List D → Option D) (a : Env → Rs (List D)) : Env → Rs D := fun δ => bind (a δ) fun xs => opt (m xs)
open Classical in
theorem jp_make {k : Nat} {c : Str} {p : Pos} {m : List D → Option D} {a : Env → Rs (List D)} (hf : FnI X.prog X.w X.K X.mg X.base k c m) (hr : Room (k + 1) X.A) (ha : JA X (e :: es) a) (hg : Gl X c := by rfl)
    (hdb : (c == ("__debug__" : Str)) = false := by decide) (he : starEach (e :: es) X.env = (false, eval e X.env) :: starEach es X.env := by rfl) (hpl : (backTo pos (starEach es X.env)).any (·.1) = false := by rfl) :
    JP X (.Call (.Name c p) (e :: es) [] pos) (vmake m a) := ⟨fun {σ F H δ W Q o} rp tk hg' hP => by
  obtain ⟨f, fd, ps, Fo, M, hm, hb⟩ := hf.at_
  refine we_of (pe_make M Fo hr hg hm hb .nil passL pa_wa hdb he hpl) (ja_bind ha rp tk hg' hP fun xs vs F1 H1 h1 g1 rx r1 P1 => ?_)
  obtain ⟨B, hB, rfl⟩ := opt_some h1
  intro x dx hx hdx ne
  rw [List.append_nil]
  have e0 : Ex F1 (upd (upd H1 dx (.own x)) x (.ins (He.ga X.K c) dx [])) := r1.ex.trans ((Ex.new hdx).trans (Ex.new (by rw [upd_ne (Ne.symm ne)]; exact hx)))
  have hnone : ∀ a, upd (upd H1 dx (.own x)) x (.ins (He.ga X.K c) dx []) a = none → H1 a = none := fun a h => by
    by_cases q : a = x
    · rw [q, upd_same] at h; cases h
    · rw [upd_ne q] at h
      by_cases q2 : a = dx
      · rw [q2, upd_same] at h; cases h
      · rw [upd_ne q2] at h; exact h
  refine ⟨F1, x, dx, vs, xs, B, rfl, e0, none_back r1.ex hx, none_back r1.ex hdx, ne, upd_same, by rw [upd_ne ne, upd_same]; simp, rx, hB, fun F' H' fp' g' o' hn => ⟨rfl, ?_⟩⟩
  let F2 : Hp := fun a => if a ∈ fp' then H' a else F' a
  have hin : ∀ a ∈ fp', F2 a = H' a := fun a ha => if_pos ha
  have hout : ∀ a, a ∉ fp' → F2 a = F' a := fun a ha => if_neg ha
  have ef : Ex F' F2 := fun a q e => by
    by_cases z : a ∈ fp'
    · rw [(hn a z).1] at e; cases e
    · rw [hout a z]; exact e
  have G : Grow F1 H1 F2 H' := {
    ff := g'.ff.trans ef
    fh := fun a o h => by
      by_cases z : a ∈ fp'
      · rw [hin a z] at h; exact h
      · rw [hout a z] at h; exact g'.fh a o h
    hh := fun a o h => by
      have n1 : a ≠ x := fun q => by rw [q, hx] at h; cases h
      have n2 : a ≠ dx := fun q => by rw [q, hdx] at h; cases h
      exact g'.hh a o (by simp [n1, n2]) (by rw [upd_ne n1, upd_ne n2]; exact h)
    nw := fun a h => by
      by_cases z : a ∈ fp'
      · refine .inr ((hn a z).2.2.elim (fun q => by rw [q]; exact hx) fun q => q.elim (fun q => by rw [q]; exact hdx) (hnone a))
      · rw [hout a z] at h
        exact (g'.nw a h).imp id (hnone a) }
  exact P1 _ F2 H' G (o'.frz hin ef)⟩
def sfset (i j : Nat) (c : Str) (f : Env → RE D) : Env → RO := fun δ => bindE (f δ) fun d δ1 => (match δ1[i]? with
  | some (some (.obj c' fs)) => if c' = c then some (.ok (.nx, δ1.set i (some (.obj c (putF j d fs))))) else none
  | _ => none)
theorem own_atO {δ : Env} {i : Nat} {c : Str} {α : Type} {k : List (Option D) → Option α} {o : α} (h : (match δ[i]? with | some (some (.obj c' fs)) => if c' = c then k fs else none | _ => none) = some o) : ∃ fs, δ[i]? = some (some (.obj c fs)) ∧ k fs = some o := by
  split at h
  · split at h
    · rename_i q; subst q; exact ⟨_, by assumption, h⟩
    · cases h
  · cases h
theorem OwnV.obj_inv {K : Frag} {F H : Hp} {w : V} {c : Str} {fs : List (Option D)} {fp : List Addr} (o : OwnV K F H w (.obj c fs) fp) : ∃ p dx vs kp, w = .ref p ∧ OwnB K F H p dx c vs fs kp fp := by
  cases o with | obj h => exact ⟨_, _, _, _, rfl, h⟩
theorem js_fset (i : Nat) {j : Nat} {c f x : Str} {p1 p2 : Pos} {g : Env → RE D} (T : SlF X.K c f j) (h : JE X own e g) (hi : X.N[i]? = some x := by rfl) (hv : Vis X.env.scope x := by first | exact Or.inl rfl | exact Or.inr (Or.inl rfl) | exact Or.inr (Or.inr rfl)) (ho : i ∈ own := by decide) (hj : ownF c j = false := by decide)
    (hd : (x == ("__debug__" : Str)) = false := by decide) (hcd : (x == ("__classdict__" : Str)) = false := by decide)
    (hs : swapsWith e (some (.Attribute (.Name x p1) f p2)) pos.line X.env = pure false := by rfl) : JS X own (.Assign [.Attribute (.Name x p1) f p2] e pos) (sfset i j c g) := ⟨fun {P F0 H0 σ F H δ W o D} _ r tk hg hP => by
  refine ws_of (SlX.ps_sl (pe_var hi hv hd hcd) pe_we hs) ?_
  refine se_bind (w := WE X e) h r tk hg hP fun d v δ1 F1 H1 h1 e1 rx r1 P1 => ?_
  obtain ⟨fs, h0, h2⟩ := own_atO h1
  cases h2
  obtain ⟨v0, fp, hv0, o0, hf, k⟩ := r1.alt ho h0
  obtain ⟨p, dx, vs, kp, rfl, B⟩ := o0.obj_inv
  obtain ⟨q, sl⟩ := T.sl
  refine ⟨_, hv0, p, _, dx, q, vs, j, rfl, .inr ⟨B.ob, B.dxo⟩, T.cls, sl, P1 _ F1 _ (k (growO_sl r1.fh B.inp B.inx (hf _ B.inp).1 (hf _ B.inx).1) (.obj (B.put hj rx)) fun a ha => ?_) (Ex.refl _)⟩
  exact ⟨(hf a ha).1, (OwnV.obj (B.put hj rx)).there a ha, .inl ha⟩⟩
def efld (i j : Nat) (c : Str) : Env → RE D := fun δ => match δ[i]? with
  | some (some (.obj c' fs)) => if c' = c then (match fs[j]? with
    | some (some d) => some (.ok (d, δ))
    | _ => none) else none
  | _ => none
theorem je_fld (i : Nat) {j : Nat} {c f x : Str} {p1 : Pos} (T : SlF X.K c f j) (hi : X.N[i]? = some x := by rfl) (hv : Vis X.env.scope x := by first | exact Or.inl rfl | exact Or.inr (Or.inl rfl) | exact Or.inr (Or.inr rfl)) (ho : i ∈ own := by decide) (hj : ownF c j = false := by decide)
    (hd : (x == ("__debug__" : Str)) = false := by decide) (hcd : (x == ("__classdict__" : Str)) = false := by decide)
    (hb : attributeBase (.Name x p1) f X.env (eval (.Name x p1) X.env) = eval (.Name x p1) X.env := by rfl) : JE X own (.Attribute (.Name x p1) f pos) (efld i j c) := ⟨fun {P F0 H0 σ F H δ W Q o} r tk hg hP => by
  refine we_of (SlX.pe_sl (pe_var hi hv hd hcd) hb) ?_
  obtain ⟨fs, h0, h2⟩ := own_atO hg
  obtain ⟨v0, fp, hv0, o0, hf, k⟩ := r.alt ho h0
  obtain ⟨p, dx, vs, kp, rfl, B⟩ := o0.obj_inv
  obtain ⟨q, sl⟩ := T.sl
  cases e : fs[j]? with
  | none => rw [e] at h2; cases h2
  | some y => cases y with
    | none => rw [e] at h2; cases h2
    | some d =>
      rw [e] at h2; cases h2
      obtain ⟨w, hw, rw'⟩ := B.fld j d e
      rw [if_neg (by rw [hj]; simp)] at rw'
      exact ⟨_, hv0, p, _, dx, q, vs, j, w, rfl, .inr ⟨B.ob, B.dxo⟩, T.cls, sl, hw, hP w F H r (Ex.refl _) rw'⟩⟩
end
end PD
end
section
namespace PD
open PySem L2
section
variable {P : Program} {w : World} {K : Frag} {mg : Str → Option Value} {base : Heap}
end
end PD
end
section
namespace PD
open PySem L2
theorem scls_of {K : Frag} {c : Str} (h : sclsB K c = true) : SlX.SCls K (He.ga K c) := by
  unfold sclsB at h
  simp only [Bool.and_eq_true] at h
  exact ⟨h.1, h.2.1, h.2.2.1, He.eqO_ok h.2.2.2⟩
theorem slot_of {K : Frag} {c f : Str} {i : Nat} (h1 : SlX.SCls K (He.ga K c)) (h : slotB K c f i = true) : SlF K c f i := by
  unfold slotB at h
  split at h
  · rename_i p e
    simp only [Bool.and_eq_true, decide_eq_true_eq] at h
    exact ⟨h1, p, e, He.eqO_ok h.1, h.2.1, h.2.2.1, h.2.2.2.1, h.2.2.2.2⟩
  · cases h
section
variable {X : Cx} {own : List Nat} {q a b e : Expr} {es : List Expr} {pos : Pos}
end
end PD
end
section
namespace PD
open PySem L2
theorem Held.grow {X : Cx} : ∀ (bs : List Bool) {f : Fr} {ds : List D} {vs : List V} {F F' : Hp} {σ : L2.St} {H H' : Hp} {δ : Env}, Held X f bs ds vs F σ H δ → Grow F H F' H' → Held X f bs ds vs F' σ H' δ
  | [], f, ds, vs, F, F', σ, H, H', δ, h, g => by obtain ⟨rfl, rfl, r⟩ := h; exact ⟨rfl, rfl, RS.grow r g⟩
  | false :: bs, f, ds, vs, F, F', σ, H, H', δ, h, g => by
    obtain ⟨d, es, v, ws, rfl, rfl, rv, hd⟩ := h
    exact ⟨d, es, v, ws, rfl, rfl, rv.mono g.ff, Held.grow bs hd g⟩
  | true :: bs, f, ds, vs, F, F', σ, H, H', δ, h, g => by
    obtain ⟨d, es, Dd, ob, ws, P', F1, H1, rfl, rfl, ho, c, e, n, nf, nh, hd⟩ := h
    exact ⟨d, es, Dd, ob, ws, P', F1, H1, rfl, rfl, ho.mono g.ff, c, e, n, nf, nh, Held.grow bs hd g⟩
theorem Held.fh {X : Cx} : ∀ (bs : List Bool) {f : Fr} {ds : List D} {vs : List V} {F : Hp} {σ : L2.St} {H : Hp} {δ : Env}, Held X f bs ds vs F σ H δ → Ex F H
  | [], f, ds, vs, F, σ, H, δ, h => by obtain ⟨_, _, r⟩ := h; exact RS.fh r
  | false :: bs, f, ds, vs, F, σ, H, δ, h => by
    obtain ⟨d, es, v, ws, rfl, rfl, rv, hd⟩ := h
    exact Held.fh bs hd
  | true :: bs, f, ds, vs, F, σ, H, δ, h => by
    obtain ⟨d, es, Dd, ob, ws, P', F1, H1, rfl, rfl, ho, c, e, n, nf, nh, hd⟩ := h
    exact Held.fh bs hd
section
variable {X : Cx} {own : List Nat} {a b c : Expr} {pos : Pos}
end
end PD
end
section
namespace PD
open PySem L2
section
open PySem.Spec PyProof.Rows
variable {X : Cx} {pins : List (Addr × Obj)} {σ : L2.St}
end
end PD
end
section
namespace PD
open PySem L2
section
variable {K : Frag} {F H : Hp}
end
section
variable {X : Cx} {own : List Nat} {e : Expr} {pos : Pos}
end
end PD
end
section
namespace PD
open PySem L2
end PD
end
section
namespace PD
open PySem L2
section
variable {X : Cx} {pins : List (Addr × Obj)} {σ : L2.St} {H H' : Hp} {s : Shared}
end
structure Pr where
  a : Addr
  o : Obj
  k : Str
  v : V
def layT (H : Hp) : List Pr → Hp
  | [] => H
  | t :: r => upd (layT H r) t.a (.frz t.o (.tup [.str t.k, t.v]))
theorem layT_ne {H : Hp} {a : Addr} : ∀ {ts : List Pr}, a ∉ ts.map Pr.a → layT H ts a = H a
  | [], _ => rfl
  | t :: r, h => by
    rw [List.map_cons, List.mem_cons, not_or] at h
    show upd (layT H r) t.a _ a = _
    rw [upd_ne h.1, layT_ne h.2]
section
open PySem.Spec PyProof.Rows PySem.W
variable {X : Cx} {pins : List (Addr × Obj)} {σ : L2.St} {H : Hp} {s : Shared}
end
section
variable {X : Cx} {pins : List (Addr × Obj)} {σ : L2.St} {H : Hp} {s : Shared}
end
end PD
end
section
namespace PD
open PySem L2
section
variable {K : Frag} {F H H2 : Hp}
end
section
variable {X : Cx} {e : Expr} {p apos cpos pos : Pos}
end
end PD
end
section
namespace PD
open PySem L2
section
open PySem.Spec PyProof.Rows
variable {X : Cx} {pins : List (Addr × Obj)} {σ : L2.St}
end
section
open PySem.Spec PyProof.Rows
variable {X : Cx} {pins : List (Addr × Obj)} {σ : L2.St}
structure LayIn (B : Hp) (q it : Addr) (kvs : List (Key × V)) (ts : List Pr) : Prop where
  eq : ts.map (fun t => ((Sum.inr t.k : Key), t.v)) = kvs
  nd : (ts.map Pr.a).Nodup
  fr : ∀ t ∈ ts, B t.a = none ∧ t.a ≠ q ∧ t.a ≠ it ∧ PlT t.o
theorem LayIn.at {B : Hp} {q it b : Addr} {kvs : List (Key × V)} {ts : List Pr} {o : HO} (l : LayIn B q it kvs ts) (hb : b ≠ q) (h : B b = some o) {x : HO} : layT (upd B q x) ts b = some o := by
  rw [layT_ne, upd_ne hb, h]
  intro z
  obtain ⟨t, ht, rfl⟩ := List.mem_map.1 z
  rw [(l.fr t ht).1] at h; cases h
end
section
open PySem.Spec PyProof.Rows
variable {X : Cx}
end
end PD
end
section
namespace PD
open PySem L2
end PD
end
section
namespace PD
open PySem L2
section
variable {X : Cx} {own : List Nat} {elt tg iter : Expr} {ifs : List Expr} {scope : Scope} {ow : List (Str × Nat)} {pos : Pos} {f : Env → RE (List D)} {g : D → Env → Option Env} {is : List Nat} {t : Env → RE Bool} {e : Env → RE D}
end
section
variable {X : Cx} {own : List Nat} {e : Expr} {pos : Pos}
end
end PD
end
section
namespace PD
open PySem L2
section
open PySem.Spec PyProof.Rows
open AutoSeq1 (wpAny_loadPart')
end
end PD
end
section
namespace PD
open PySem L2
section
open PySem.Spec PyProof.Rows
end
section
variable {X : Cx} {a b : Expr} {pos p2 : Pos} {j : Nat} {fa fb : Env → Rs D} {k : Nat}
end
end PD
end
section
namespace PD
open PySem L2
end PD
end
section
namespace PD
open PySem L2
end PD
end
section
namespace PD
open PySem L2
section
variable {X : Cx} {own : List Nat} {a b c : Expr} {pos : Pos}
end
section
variable {K : Frag} {own own2 : List Nat} {P : Pm} {F0 H0 F : Hp} {σ : L2.St} {H : Hp} {δ : Env}
theorem RS.exti {i : Nat} (hf : own2.filter (· != i) = own) (r : RS K own P F0 H0 F σ H δ) : RS K own2 P F0 H0 F σ H (δ.set i none) := by
  have hin : ∀ j, j ∈ own2 → j ≠ i → j ∈ own := fun j hj q => by rw [← hf]; exact List.mem_filter.2 ⟨hj, by simpa using q⟩
  have hin2 : ∀ j, j ∈ own → j ∈ own2 := fun j hj => by rw [← hf] at hj; exact (List.mem_filter.1 hj).1
  have hset : ∀ (j : Nat) (d : D), (δ.set i none)[j]? = some (some d) → j ≠ i ∧ δ[j]? = some (some d) := fun j d e => by
    by_cases q : i = j
    · subst q
      rw [List.getElem?_set] at e
      by_cases hl : i < δ.length <;> simp [hl] at e
    · rw [List.getElem?_set_ne q] at e
      exact ⟨fun z => q z.symm, e⟩
  obtain ⟨fp, h1, h2, h3⟩ := r.own
  exact {
    ff := r.ff, fh := r.fh, hh := r.hh, dm := r.dm, nw := r.nw, bxh := r.bxh
    ln := r.ln.trans (List.length_set ..).symm
    par := fun a h => ⟨hin2 _ (r.par a h).1, (r.par a h).2⟩
    val := fun j d hj e => r.val j d (fun z => hj (hin2 j z)) (hset j d e).2
    own := ⟨fp, fun j d hj e => h1 j d (hin j hj (hset j d e).1) (hset j d e).2, h2, h3⟩ }
end
theorem bxIn_filter {i : Nat} (hz : i ≠ 0) {own : List Nat} {δ : Env} (h : bxIn own δ = true) : bxIn (own.filter (· != i)) δ = true := by
  unfold bxIn at *
  have e : (own.filter (· != i)).contains 0 = own.contains 0 := by
    rw [Bool.eq_iff_iff]
    simp only [List.contains_iff_mem, List.mem_filter, bne_iff_ne, ne_eq]
    exact ⟨fun h => h.1, fun h => ⟨h, fun q => hz q.symm⟩⟩
  rw [e]; exact h
theorem RS.frzL {K : Frag} {P : Pm} {F0 H0 : Hp} {σ : L2.St} {H : Hp} {δ : Env} [PmOk P] : ∀ (ex : List Nat) {own : List Nat} {F : Hp}, (∀ i ∈ ex, i ≠ 0) → (∀ i ∈ ex, i ≠ 40) → RS K own P F0 H0 F σ H δ → bxIn own δ = true → ∃ F', Ex F F' ∧ RS K (ex.foldl (fun o i => o.filter (· != i)) own) P F0 H0 F' σ H δ
  | [], _, F, _, _, r, _ => ⟨F, Ex.refl _, r⟩
  | i :: ex, own, F, hz, hz2, r, hb => by
    obtain ⟨F1, e1, r1⟩ := RS.frz1 (i := i) r hb (hz i (by simp)) (hz2 i (by simp))
    obtain ⟨F2, e2, r2⟩ := RS.frzL ex (fun j hj => hz j (by simp [hj])) (fun j hj => hz2 j (by simp [hj])) r1 (bxIn_filter (hz i (by simp)) hb)
    exact ⟨F2, e1.trans e2, r2⟩
section
variable {X : Cx} {own cur cur2 : List Nat}
structure JM (X : Cx) (own cur : List Nat) (st : List Stmt) (g : Env → RO) : Prop where
  run : ∀ {P F0 H0 σ F H δ W o D} [PmOk P], RSf X ⟨cur, P, F0, H0⟩ F σ H δ → Takes X W → g δ = some o → PostS X ⟨own, P, F0, H0⟩ F W o D → WSs X st D σ H
theorem jm_of {st : List Stmt} {g : Env → RO} (h : JSs X own st g) : JM X own own st g := ⟨fun r tk hg hP => h.run r tk hg hP⟩
theorem jss_of {st : List Stmt} {g : Env → RO} (h : JM X own own st g) : JSs X own st g := ⟨fun r tk hg hP => h.run r tk hg hP⟩
def smsq (cur : List Nat) (a b : Env → RO) : Env → RO := fun δ => match a δ with
  | some (.ok (.nx, δ')) => b δ'
  | some (.ok (o, δ')) => if bxIn cur δ' = true then some (.ok (o, δ')) else none
  | some (.error (x, δ')) => if bxIn cur δ' = true then some (.error (x, δ')) else none
  | none => none
theorem jm_cons (ex : List Nat) {st : Stmt} {rest : List Stmt} {g k : Env → RO} (h : JS X cur st g) (hr : JM X own cur rest k) (hf : ex.foldl (fun o i => o.filter (· != i)) cur = own := by rfl) (hz : ex.all (fun i => decide (i ≠ 0 ∧ i ≠ 40)) = true := by decide) : JM X own cur (st :: rest) (smsq cur g k) := ⟨fun {P F0 H0 σ F H δ W o D} _ r tk hg hP => by
  refine wss_of (pss_cons ps_ws pss_wss) ?_
  show WS X st { D with nx := WSs X rest D } σ H
  unfold smsq at hg
  have hz' : ∀ i ∈ ex, i ≠ 0 := fun i hi => (of_decide_eq_true (List.all_eq_true.1 hz i hi)).1
  have hz3 : ∀ i ∈ ex, i ≠ 40 := fun i hi => (of_decide_eq_true (List.all_eq_true.1 hz i hi)).2
  have back : ∀ {F' : Hp} {σ' : L2.St} {H' : Hp} {δ' : Env}, bxIn cur δ' = true → RSf X ⟨cur, P, F0, H0⟩ F' σ' H' δ' → ∃ F'', Ex F' F'' ∧ RSf X ⟨own, P, F0, H0⟩ F'' σ' H' δ' := fun hb r' => by
    obtain ⟨F'', e, q⟩ := RS.frzL ex hz' hz3 r' hb
    rw [hf] at q
    exact ⟨F'', e, q⟩
  cases e : g δ with
  | none => rw [e] at hg; cases hg
  | some y =>
    rw [e] at hg
    rcases y with ⟨x, δ'⟩ | ⟨o1, δ'⟩
    · dsimp only at hg
      split at hg
      · rename_i hb
        cases hg
        exact h.run r tk e fun cls dd σ' F' H' r' e' rx => by
          obtain ⟨F'', e2, r2⟩ := back hb r'
          obtain ⟨fs, h1, h3⟩ := rx.fs
          exact hP cls dd σ' F'' H' r2 (e'.trans e2) ⟨rx.cls, fs, h1.mono e2, h3.mono e2⟩
      · cases hg
    · cases o1 with
      | nx => exact h.run r tk e fun σ' F' H' r1 e1 => hr.run r1 tk hg (hP.later e1)
      | rt d =>
        dsimp only at hg
        split at hg
        · rename_i hb
          cases hg
          exact h.run r tk e fun v σ' F' H' r' e' rx => by
            obtain ⟨F'', e2, r2⟩ := back hb r'
            exact hP v σ' F'' H' r2 (e'.trans e2) (rx.mono e2)
        · cases hg
      | bk =>
        dsimp only at hg
        split at hg
        · rename_i hb
          cases hg
          exact h.run r tk e fun σ' F' H' r' e' => by
            obtain ⟨F'', e2, r2⟩ := back hb r'
            exact hP σ' F'' H' r2 (e'.trans e2)
        · cases hg
      | ct =>
        dsimp only at hg
        split at hg
        · rename_i hb
          cases hg
          exact h.run r tk e fun σ' F' H' r' e' => by
            obtain ⟨F'', e2, r2⟩ := back hb r'
            exact hP σ' F'' H' r2 (e'.trans e2)
        · cases hg⟩
def sexo (i : Nat) (k : Env → RO) : Env → RO := fun δ => k (δ.set i none)
theorem jm_ext (i : Nat) {st : List Stmt} {k : Env → RO} (h : JM X own cur2 st k) (hf : cur2.filter (· != i) = cur := by rfl) : JM X own cur st (sexo i k) := ⟨fun {P F0 H0 σ F H δ W o D} _ r tk hg hP => h.run (r.exti hf) tk hg hP⟩
theorem jm_frz (i : Nat) {st : List Stmt} {k : Env → RO} (h : JM X own cur2 st k) (ho : cur.filter (· != i) = cur2 := by rfl) (hz : i ≠ 0 := by decide) (hz2 : i ≠ 40 := by decide) : JM X own cur st (sfrz cur k) := ⟨fun {P F0 H0 σ F H δ W o D} _ r tk hg hP => by
  subst ho
  unfold sfrz at hg
  split at hg
  · rename_i hb
    obtain ⟨F', e, r'⟩ := RS.frz1 r hb hz hz2
    exact h.run r' tk hg (hP.later e)
  · cases hg⟩
end
end PD
end
section
namespace PD
open PySem L2
abbrev rStr0 : List V → Hp → VK → Prop := fun xs H Q => (∃ i, xs = [.int i] ∧ i.natAbs.log2 < 1920 ∧ Q (.str (toString i)) H) ∨ ∃ a, xs = [.str a] ∧ Q (.str a) H
theorem b_str {X : Cx} : CallR X (.type "str") rStr0 := call_str_int.or SkE.call_str_str
end PD
end
section
namespace PD
open PySem L2
section
variable {X : Cx} {own : List Nat} {e : Expr} {pos : Pos}
end
section
variable {K : Frag} {own : List Nat} {P : Pm} {F0 H0 F : Hp} {σ : L2.St} {H : Hp} {δ : Env}
end
end PD
end
section
namespace PD
open PySem L2
def putI (f : Str) (d : D) : List (Str × D) → List (Str × D)
  | [] => [(f, d)]
  | (g, x) :: r => if g = f then (g, d) :: r else (g, x) :: putI f d r
theorem RepF.put {K : Frag} {F : Hp} {f : Str} {v : V} {d : D} (h0 : Rep K F v d) : ∀ {vs : List (Str × V)} {ds : List (Str × D)}, RepF K F vs ds → RepF K F (L2.putF f v vs) (putI f d ds)
  | _, _, .nil => .cons h0 .nil
  | (k, v') :: vs, (_, d') :: ds, .cons h r => by
    unfold L2.putF putI
    by_cases e : k = f
    · rw [if_pos e, if_pos e]; exact .cons h0 r
    · rw [if_neg e, if_neg e]; exact .cons h (RepF.put h0 r)
theorem RepF.len {K : Frag} {F : Hp} : ∀ {vs : List (Str × V)} {ds : List (Str × D)}, RepF K F vs ds → vs.length = ds.length
  | _, _, .nil => rfl
  | _ :: vs, _ :: ds, .cons h r => by rw [List.length_cons, List.length_cons, RepF.len r]
section
variable {X : Cx}
end
section
variable {P : Program} {w : World} {K : Frag} {mg : Str → Option Value} {base : Heap}
end
section
variable {X : Cx} {own : List Nat} {e o : Expr} {es : List Expr} {pos : Pos}
end
end PD
end
section
namespace PD
open PySem L2
section
variable {X : Cx}
end
end PD
end
section
namespace PD
open PySem L2
section
variable {X : Cx} {own : List Nat} {e : Expr} {es : List Expr} {pos : Pos}
end
end PD
end
section
namespace PD
open PySem L2
section
variable {X : Cx} {pins : List (Addr × Obj)} {σ : L2.St} {H : Hp} {s : Shared}
theorem dps_reads (I : Inv X pins σ H s) : ∀ {xs : List V} {us : List Value} {ps : List PyData}, Vals xs us → DpAll X.K H xs ps → ∃ as, ReadsAll s.heap us ps as
  | _, _, [], .nil, _ => ⟨_, .nil⟩
  | _, _, p :: ps, .nil, h => by cases h
  | _, _, [], .cons r t, h => by cases h
  | _, _, p :: ps, .cons r t, h => by
    cases h with
    | cons h1 h2 =>
      obtain ⟨as, e1⟩ := Dp.reads I _ _ _ h1 r
      obtain ⟨bs, e2⟩ := dps_reads I t h2
      exact ⟨_, .cons e1 e2⟩
end
section
variable {X : Cx} {own : List Nat} {e : Expr} {pos : Pos}
end
end PD
end
section
namespace PD
open PySem L2
section
variable {X : Cx} {own : List Nat} {elt tg iter tg1 iter1 : Expr} {ifs ifs1 : List Expr} {scope : Scope} {ow : List (Str × Nat)} {pos : Pos} {is is1 : List Nat} {f f1 : Env → RE (List D)} {g g1 : D → Env → Option Env} {t t1 : Env → RE Bool} {e : Env → RE D}
end
end PD
end
section
namespace PD
open PySem L2
end PD
end
section
namespace PD
open PySem L2
section
variable {X : Cx} {own : List Nat} {pos : Pos}
end
section
variable {X : Cx} {own : List Nat} {a b c d : Expr} {pos : Pos}
end
end PD
end
section
namespace PD
open PySem L2
section
variable {X : Cx}
variable {own : List Nat} {kx vx tg iter : Expr} {ifs : List Expr} {scope : Scope} {ow : List (Str × Nat)} {pos : Pos} {is : List Nat} {f : Env → RE (List D)} {g : D → Env → Option Env} {t : Env → RE Bool} {ek ev : Env → RE D}
end
end PD
end
section
namespace PD
open PySem L2
section
variable {X : Cx} {own : List Nat} {a b : Expr} {pos : Pos}
def eor (f g : Env → RE D) : Env → RE D := fun δ => bindE (f δ) fun x δ1 => match truth x with
  | some true => some (.ok (x, δ1))
  | some false => g δ1
  | none => none
theorem je_or {f g : Env → RE D} (ha : JE X own a f) (hb : JE X own b g) : JE X own (.BoolOp .Or [a, b] pos) (eor f g) := ⟨fun {P F0 H0 σ F H δ W Q o} r tk hg hP =>
  we_of (pe_orT pe_we (pe_one pe_we)) (js_bind (w := WE X a) ha r tk hg hP fun x v δ1 F1 H1 h1 e1 rx r1 P1 => by
    cases hk : truth x with
    | none => rw [hk] at h1; cases h1
    | some k =>
      rw [hk] at h1
      refine ⟨k, tru_of r1.fh rx hk, ?_⟩
      cases k with
      | false => rw [if_neg Bool.false_ne_true]; exact hb.run r1 tk h1 P1
      | true => rw [if_pos rfl]; exact P1.fin h1 _ F1 H1 r1 (Ex.refl _) rx)⟩
end
end PD
end
section
namespace PD
open PySem L2
section
variable {X : Cx} {own : List Nat} {tg e : Expr} {pos : Pos} {g : D → Env → Option Env} {is : List Nat} {f : Env → Rs D}
end
end PD
end
section
namespace PD
open PySem L2
section
variable {X : Cx}
end
end PD
end
section
namespace PD
open PySem L2
section
open PySem.Spec PyProof.Rows
variable {prog : Program} {w : World} {A : Around} {E : Value → Shared → Prop} {s : Shared}
end
section
open PySem.W
end
end PD
end
section
namespace PD
open PySem L2
section
variable {X : Cx} {a b : Expr} {pos p2 : Pos} {j : Nat} {fa fb : Env → Rs D} {k : Nat}
end
end PD
end
section
namespace PD
open PySem L2
section
variable {X : Cx} {own : List Nat} {tg iter elt : Expr} {ifs : List Expr} {scope : Scope} {ow : List (Str × Nat)} {pos : Pos} {is : List Nat} {f : Env → RE (List D)} {g : D → Env → Option Env} {t : Env → RE Bool} {e : Env → RE D}
def restD : List Nat → Env → Env → Env
  | [], _, δ' => δ'
  | v :: vs, δ, δ' => restD vs δ (match δ[v]? with | some o => δ'.set v o | none => δ')
theorem RS.rest1 {K : Frag} {own : List Nat} {P P' : Pm} {F0 H0 F F0' H0' F' : Hp} {σ : L2.St} {H H' : Hp} {δ δ' : Env} {v : Nat} {o : Option D} (r0 : RS K own P F0 H0 F σ H δ) (r : RS K own P' F0' H0' F' σ H' δ') (ex : Ex F F') (hv : v ∉ own) (ho : δ[v]? = some o) : RS K own P' F0' H0' F' σ H' (δ'.set v o) where
  ff := r.ff
  fh := r.fh
  hh := r.hh
  dm := r.dm
  nw := r.nw
  ln := by rw [List.length_set]; exact r.ln
  par := r.par
  bxh := r.bxh
  val := fun i d hi hd => by
    by_cases e : i = v
    · subst e
      have hl : i < δ'.length := by
        have := (List.getElem?_eq_some_iff.1 hd).1
        rwa [List.length_set] at this
      rw [List.getElem?_set_self hl] at hd
      cases hd
      obtain ⟨w, h1, h2⟩ := r0.val i d hi ho
      exact ⟨w, h1, h2.mono ex⟩
    · rw [List.getElem?_set_ne (Ne.symm e)] at hd
      exact r.val i d hi hd
  own := by
    obtain ⟨fp, h1, h2, h3⟩ := r.own
    refine ⟨fp, fun i d hi hd => ?_, h2, h3⟩
    have e : v ≠ i := fun z => hv (z ▸ hi)
    rw [List.getElem?_set_ne e] at hd
    exact h1 i d hi hd
theorem RS.rest {K : Frag} {own : List Nat} {P P' : Pm} {F0 H0 F F0' H0' F' : Hp} {σ : L2.St} {H H' : Hp} {δ : Env} (r0 : RS K own P F0 H0 F σ H δ) (ex : Ex F F') : ∀ {vs : List Nat} {δ' : Env}, RS K own P' F0' H0' F' σ H' δ' → (∀ i, i ∈ vs → i ∉ own) → RS K own P' F0' H0' F' σ H' (restD vs δ δ')
  | [], _, r, _ => r
  | v :: vs, δ', r, hv => by
    unfold restD
    cases h : δ[v]? with
    | none => exact RS.rest r0 ex r fun i hi => hv i (List.mem_cons_of_mem _ hi)
    | some o => exact RS.rest r0 ex (r0.rest1 r ex (hv v (by simp)) h) fun i hi => hv i (List.mem_cons_of_mem _ hi)
end
end PD
end
section
namespace PD
open PySem L2
section
open PySem PySem.Calls PyProof.Rows PySem.W
theorem collect_tup {prog : Program} {w : World} {A : Around} {E : Value → Shared → Prop} {s : Shared} {l : Addr} {vs : List Value} {Q : List Value → Shared → Prop} (hl : IsTup s.heap l vs.toArray)
    (h : Q vs { s with heap := (s.heap.push (seqObj "list" #[] 0)).update s.heap.objs.size (Obj.mapSeq (· ++ vs.toArray)) }) (hsz : vs.length ≤ sizeLine) :
    wpAny (model prog w) A (collect (.ref l)) Q E s := by
  obtain ⟨o, ho, hc, n, hd⟩ := id hl
  unfold collect
  refine wpAny_bind (wpAny_runValue (codeAny_builtin entry_proto_collect' ?_))
  show wpAny _ _ (do again (.builtin "list.__iadd__" ⟨[← newList [], .ref l], []⟩)) _ _ s
  refine wpAny_bind (wpAny_newList (wpAny_pure ⟨Code.quiet_builtin _ (by decide +kernel), codeAny_builtin entry_list_iadd' ?_⟩))
  show wpAny _ _ (Builtin.List.listExtendWith (.ref s.heap.objs.size) (.ref l) (.ref s.heap.objs.size)) _ _ { s with heap := s.heap.push (seqObj "list" #[] 0) }
  unfold Builtin.List.listExtendWith
  have ho' : (s.heap.push (seqObj "list" #[] 0)).get? l = some o := Heap.get?_push_of_some _ ho
  refine wpAny_bind (wpAny_typeOf (T := "tuple") ⟨o, ho', hc⟩ ?_)
  have ht : (Value.type "tuple" == Value.type "tuple") = true := by rfl
  rw [if_pos (by rw [ht]; simp)]
  refine wpAny_bind (listItems_at ho' hd ?_)
  refine wpAny_bind (listItems_at (xs := #[]) (n := 0) (Heap.get?_push_size _ rfl) rfl ?_)
  rw [if_neg (by simp)]
  refine wpAny_bind (listUpdate_at (xs := #[]) (n := 0) (Heap.get?_push_size _ rfl) rfl ?_ (Nat.zero_le _) (by show (#[] ++ vs.toArray).size ≤ sizeLine + 1; simp only [Array.size_append, List.size_toArray, List.length_nil]; omega))
  refine wpAny_pure ?_
  show wpAny (model prog w) A (do
      let o ← load s.heap.objs.size
      match o.data with
      | .seq xs _ => pure xs.toList
      | _ => unsupported "internal:collect") Q E { s with heap := (s.heap.push (seqObj "list" #[] 0)).update s.heap.objs.size (Obj.mapSeq (· ++ vs.toArray)) }
  refine wpAny_bind (wpAny_load (get?_update_seq (Heap.get?_push_size _ rfl) _) ?_)
  show wpAny _ _ (pure ((#[] : Array Value) ++ vs.toArray).toList) Q E _
  rw [show ((#[] : Array Value) ++ vs.toArray).toList = vs by simp]
  exact wpAny_pure h
theorem sorted_of_sortT {prog : Program} {w : World} {A : Around} {E : Value → Shared → Prop} {s : Shared} {l : Addr} {vs : List Value} {Q : Value → Shared → Prop} (hl : IsTup s.heap l vs.toArray) (hL : vs.length ≤ sizeLine)
    (body : ∀ E' : Value → Shared → Prop, wpAny (model prog w) A.in1.in1 (Builtin.«list.sort» ⟨[.ref (s.heap.objs.size + 1)], []⟩) (fun f s' => f = .done (.ret .none) ∧ Q (.ref (s.heap.objs.size + 1)) s') E' { s with heap := copyHeap s.heap vs }) :
    wpAny (model prog w) A (call (.builtin "sorted") [.ref l]) Q E s := by
  refine call_function_entry_kw kind_sorted plain_sorted entry_sorted (args_sorted1 _) ?_
  unfold Builtin.«sorted»
  refine wpAny_bind (m := checkCount "sorted" 1 1 _) (wpAny_pure ?_)
  refine wpAny_bind (collect_tup hl ?_ hL)
  refine wpAny_bind (wpAny_newList ?_ hL)
  have hsz : ((s.heap.push (seqObj "list" #[] 0)).update s.heap.objs.size (Obj.mapSeq (· ++ vs.toArray))).objs.size = s.heap.objs.size + 1 := by
    rw [Heap.size_update, size_push']
  show wpAny _ _ _ _ _ { s with heap := copyHeap s.heap vs }
  rw [hsz]
  refine wpAny_bind (wpAny_holding (wpAny_call_entry_kw slot_list_sort ⟨_, copyHeap_at s.heap vs, rfl⟩ entry_list_sort ?body (args_list_sort _)))
  case body =>
    show wpAny (model prog w) A.in1.in1 (Builtin.«list.sort» ⟨[.ref (s.heap.objs.size + 1)], []⟩) _ _ _
    refine wpAny_mono (body _) (fun f s' hf => ?_) fun _ _ e => e
    obtain ⟨rfl, hq⟩ := hf
    exact ⟨_, rfl, wpAny_pure ⟨_, rfl, hq⟩⟩
variable {X : Cx}
def rSortedT (K : Frag) : List V → Hp → VK → Prop := fun vs H Q => ∃ a xs ps, vs = [V.ref a] ∧ SqT K H a xs ∧ DpAll K H xs ps ∧ sortOk ps = true ∧
  ∀ p, H p = none → Q (.ref p) (upd H p (.lst (((xs.zip ps).mergeSort (dataLe false Prod.snd)).map Prod.fst)))
theorem cr_sortedT (hu : X.A.units + 70 < cLine) : CallR X (.builtin "sorted") (rSortedT X.K) := by
  intro pins s σ H vs us Q I r h
  obtain ⟨a, xs, ps, rfl, hs, hd, hok, q⟩ := h
  obtain ⟨its, rv, hl, hz⟩ := I.tuple hs
  rw [Vals.ref1 r]
  have e0 := each_dp I rv hd
  have hps : (xs.zip ps).map Prod.snd = ps := List.map_snd_zip (by rw [dpAll_len hd]; exact Nat.le_refl _)
  have er : EachIs (fun v d => ∃ as, Reads (sortingHeap (copyHeap s.heap its) (s.heap.objs.size + 1) its) v d as) its ps := by
    have := each_map (R := fun v d => ∃ as, Reads (sortingHeap (copyHeap s.heap its) (s.heap.objs.size + 1) its) v d as) Prod.snd (e0.mono fun v b h => ⟨h.2.choose, PyProof.Rows.Reads.keeps (fun _ _ => sorting_copy_old) h.2.choose_spec⟩)
    rwa [hps] at this
  obtain ⟨S, nd⟩ := sortsOk (prog := X.prog) (w := X.w) (A := X.A.in1.in1) (s := { s with heap := sortingHeap (copyHeap s.heap its) (s.heap.objs.size + 1) its }) er hok (by show X.A.units + 1 + 1 + 65 < cLine; omega)
  refine sorted_of_sortT hl (by rw [← rv.length]; exact hz) fun _ => list_sort_vals (s := { s with heap := copyHeap s.heap its }) (copyHeap_at s.heap its) S (by rw [← rv.length]; exact hz) ⟨rfl, ?_⟩
  have hk : EachIs (fun v (b : V × PyData) => (dataKind (sortingHeap (copyHeap s.heap its) (s.heap.objs.size + 1) its) ps).keyOf v = some (keyToks b.2)) its (xs.zip ps) := by
    have l1 := e0.length
    refine EachIs.of_zip l1 fun z hz => ?_
    obtain ⟨h1, as, h2⟩ := e0.zip z hz
    exact dataKind_some' nd (List.of_mem_zip (List.of_mem_zip hz).2).2 (PyProof.Rows.Reads.keeps (fun _ _ => sorting_copy_old) h2)
  have hv := vals_each (sortVals_each (κ := dataKind (sortingHeap (copyHeap s.heap its) (s.heap.objs.size + 1) its) ps) (rev := false) (fun b : V × PyData => keyToks b.2) (e0.mono fun v b h => h.1) hk)
  obtain ⟨ep, he'⟩ := PyProof.Rows.sortedAll_at s.heap its (sortVals (dataKind (sortingHeap (copyHeap s.heap its) (s.heap.objs.size + 1) its) ps) false its its).toArray
  refine ⟨.ref _, upd H (s.heap.objs.size + 1) (.lst (((xs.zip ps).mergeSort (dataLe false Prod.snd)).map Prod.fst)), I.laid (t' := s.toks) (fun _ _ => PyProof.Rows.sortedAll_old) (Nat.le_succ _) ⟨?_, _, ep, hv, he'⟩, rfl, q _ (I.hok.fresh (Nat.le_succ _))⟩
  rw [List.length_map, (List.mergeSort_perm _ _).length_eq, List.length_zip, dpAll_len hd, Nat.min_self, ← dpAll_len hd]
  exact hz
def dSorted3 : D → Option D
  | .tup xs => (sortD xs).map .lst
  | d => dSorted2 d
abbrev rSorted3 (K : Frag) : List V → Hp → VK → Prop := fun xs H Q => rSorted2 K xs H Q ∨ rSortedT K xs H Q
theorem b_sorted3 {X : Cx} (hc : X.calm = true) (hu : X.A.units + 70 < cLine) : CallR X (.builtin "sorted") (rSorted3 X.K) := (b_sorted2 hc hu).or (cr_sortedT hu)
theorem d_sorted3 {K : Frag} : CallD K (rSorted3 K) (one dSorted3) := fun {F H vs xs z} e r h Q q => by
  obtain ⟨x, rfl, h⟩ := one_some h
  have other : dSorted2 x = some z → rSorted3 K vs H Q := fun h => .inl (d_sorted2 e r (show one dSorted2 [x] = some z from h) Q q)
  cases x with
  | tup ds =>
    obtain ⟨w, rfl, rx⟩ := reps1 r
    cases rx with
    | tup hT rs =>
      rename_i a0 ws
      replace h : (sortD ds).map D.lst = some z := h
      unfold sortD at h
      cases h2 : toPys ds with
      | none => rw [h2] at h; cases h
      | some ps =>
        rw [h2, Option.bind_some] at h
        split at h
        · rename_i h3
          cases h
          refine .inr ⟨_, ws, ps, rfl, ex_t e hT, dps_of e rs h2, h3, fun p hp => ?_⟩
          have hpn : F p = none := by
            cases hF : F p with
            | none => rfl
            | some o => exact absurd (e _ _ hF) (by rw [hp]; simp)
          have hlen : ws.length = ds.length := Rep.len rs
          have hps := toPys_map h2
          have ez : ws.zip ps = (ws.zip ds).map fun z => (z.1, pyOf z.2) := by
            rw [hps, List.zip_map_right]; rfl
          have e1 : (ws.zip ps).mergeSort (dataLe false Prod.snd) = ((ws.zip ds).mergeSort (dataLe false fun z => pyOf z.2)).map fun z => (z.1, pyOf z.2) := by
            rw [ez]; exact (sort_maps (r := dataLe false fun z : V × D => pyOf z.2) (s := dataLe false Prod.snd) (fun z : V × D => (z.1, pyOf z.2)) (fun a _ b _ => rfl)).symm
          have e2 : isort leD ds = ((ws.zip ds).mergeSort (dataLe false fun z => pyOf z.2)).map Prod.snd := by
            rw [isort_eq leD_total, sort_maps (r := dataLe false fun z : V × D => pyOf z.2) (s := leD) Prod.snd (fun a _ b _ => rfl), List.map_snd_zip (by omega)]
          have e3 : ((ws.zip ps).mergeSort (dataLe false Prod.snd)).map Prod.fst = ((ws.zip ds).mergeSort (dataLe false fun z => pyOf z.2)).map Prod.fst := by
            rw [e1, List.map_map]; rfl
          rw [e3]
          have hr : Reps K F (((ws.zip ds).mergeSort (dataLe false fun z => pyOf z.2)).map Prod.fst) (isort leD ds) := by
            rw [e2]
            exact reps_of_zip fun z hz => reps_zip rs z ((List.mergeSort_perm _ _).mem_iff.1 hz)
          exact q _ _ _ (.new e hp) (.lst upd_same (hr.mono (Ex.new hpn)))
        · cases h
  | _ => exact other h
end
end PD
end
section
namespace PD
open PySem L2
end PD
end
section
namespace PD
open PySem L2
section
open PySem PySem.Calls PyProof.Rows PySem.W Builtin Builtin.ObjectAttr
abbrev xArgs (f : Str) (p1 p2 : Pos) : Arguments := { posonlyargs := [], args := [{ arg := "self", annotation := none, pos := p1 }, { arg := f, annotation := none, pos := p2 }], vararg := none, kwonlyargs := [], kw_defaults := [], kwarg := none, defaults := [] }
abbrev xBody (f : Str) (q1 q2 q3 q4 q5 q6 q7 q8 q9 q10 : Pos) : List Stmt := [.Expr (.Call (.Attribute (.Call (.Name "super" q1) [] [] q2) "__init__" q3) [.Name f q4] [] q5) q6, .Assign [.Attribute (.Name "self" q7) f q8] (.Name f q9) q10]
structure XTxt (K : Frag) (C fI : Addr) (f : Str) (B newId initId : String) (bmB : List Value) (file : Str) : Prop where
  nm : f = "line" ∨ f = "flow" ∨ f = "name" ∨ f = "number"
  ini : excInitIn K C bmB newId = true
  ovr : excOver K C bmB = true
  sa : findIn K (.ref C) "__setattr__" = some (some (.builtin "object.__setattr__"))
  tk : takerIn K C f = some none
  hd : hasDictIn K C = true
  iC : findIn K (.ref C) "__init__" = some (some (.ref fI))
  tI : typeIn K (.ref fI) = some (.type "function")
  sup : ks_superIn K C C "__init__" = some (some (.builtin initId))
  subB : subIn K (.ref C) (.type B) = some true
  slf : mroIn K C (.ref C) = some true
  stat : nsIn K cStatics "thirdparty.any" = some none
  fn : ∃ (oc : Value) (od : Option Addr) (osl : Array (Option Value)) (q : Str) (doc pm ct : Value) (an : Option Addr) (cda cc : Addr) (ccl cl : Value) (cdd cld : Option Addr) (vs : Array Value) (ccs csl : Array (Option Value)) (tf : Tok) (cdD : ClassData) (p1 p2 q1 q2 q3 q4 q5 q6 q7 q8 q9 q10 : Pos),
    K.lookup fI = some ⟨oc, od, .func (ksFn "__init__" q (xArgs f p1 p2) (xBody f q1 q2 q3 q4 q5 q6 q7 q8 q9 q10) (xScope f) .none .none doc pm an (.ref cda) ct cc), osl⟩ ∧ codeIn K (.ref cda) q = true ∧
      K.lookup cda = some ⟨ccl, cdd, .fields vs, ccs⟩ ∧ vs[2]? = some (.str file tf) ∧ K.lookup cc = some ⟨cl, cld, .cell (some (.ref C)), csl⟩ ∧ clsIn K C = some cdD ∧ (q3.endLine == q5.line) = true
structure XMade (h h' : Heap) (e C d : Addr) (f : Str) (v : Value) : Prop where
  keep : ∀ b o, h.get? b = some o → h'.get? b = some o
  new : h.objs.size ≤ e
  obj : ∃ oe vs, h'.get? e = some oe ∧ oe.cls = .ref C ∧ oe.dict = some d ∧ oe.data = .fields vs ∧ vs[1]? = some .none
  dbig : h.objs.size ≤ d
  dne : d ≠ e
  ns : h'.Ns1 d (fun y => if y = f then some v else none)
section
variable {prog : Program} {w : World} {A : Around} {E : Value → Shared → Prop} {R : Result → Shared → Prop} {s : Shared} {K : Frag} {C fI : Addr} {f : Str} {B newId initId : String} {bmB : List Value} {file : Str}
theorem x_store (SF : StoreFacts B bmB "object.__setattr__" "object") (X : K.In s.heap) {x : Addr} {fv : Array Value} {v : Value} {Q : Unit → Shared → Prop} (hx : s.heap.get? x = some { cls := .ref C, data := .fields fv })
    (hs : findIn K (.ref C) "__setattr__" = some (some (.builtin "object.__setattr__"))) (ho : excOver K C bmB = true) (ht : takerIn K C f = some none) (hh : hasDictIn K C = true)
    (hq : ∀ h' tk' dx, (∀ b o, b ≠ x → s.heap.get? b = some o → h'.get? b = some o) → s.heap.objs.size ≤ dx → dx ≠ x → h'.get? x = some { cls := .ref C, dict := some dx, data := .fields fv } →
      h'.Ns1 dx (fun y => if y = f then some v else none) → Q () { s with heap := h', toks := tk' }) : wpAny (model prog w) A (setAttr (.ref x) f v) Q E s := by
  obtain ⟨hp, g, d, t, os⟩ := s
  have I : InstAt hp x { cls := .ref C, data := .fields fv } C none := ⟨hx, rfl, rfl, trivial⟩
  have hxs : x ≠ hp.objs.size := Nat.ne_of_lt (Heap.lt_size hx)
  refine set_plain X I hs ?_
  refine osa_openX (s := ⟨hp, g, d, t + 1, os⟩) SF X I ho ht fun b => ?_
  obtain ⟨cd, hcd, hd⟩ := any_some hh
  have hcls : Looks (model prog w) hp (classData C) cd := looks_clsIn X hcd
  obtain ⟨nm, bs, mro, ns, qn, hasd, sn, sb, ab, col, del⟩ := cd
  dsimp only at hd
  subst hd
  dsimp only
  unfold storeInOwnDict ownDictForStores
  repeat (first | with_reducible refine HandSPX.store_in_new ?_ ?_ | with_reducible refine wpAny_loadPart_at hx ?_ | with_reducible refine hcls.at ?_ | wp_step)
  · exact ⟨_, #[], _, (Heap.get?_update_ne _ _ _ _ hxs.symm).trans (Heap.get?_push_at rfl rfl), rfl, fun e he => absurd he (by simp), fun _ => rfl⟩
  · intro h' tk' hn' hs'
    have hx₁ : (hp.push { cls := .type "dict", data := .dict #[] }).get? x = some { cls := .ref C, data := .fields fv } := Heap.get?_push_of_some _ hx
    refine hq h' tk' hp.objs.size (fun b o hb e => ?_) (Nat.le_refl _) hxs.symm ?_ hn'
    · exact (hs'.2 b (Nat.ne_of_lt (Heap.lt_size e))).trans ((Heap.get?_update_ne _ _ _ _ hb).trans (Heap.get?_push_of_some _ e))
    · exact (hs'.2 x hxs).trans (Heap.get?_update_self _ hx₁ rfl)
theorem x_init (T : XTxt K C fI f B newId initId bmB file) (FB : ExcBaseFacts B newId initId bmB) (KF : KxsFacts B initId) (SF : StoreFacts B bmB "object.__setattr__" "object") {mg : Str → Option Value} {x t0 : Addr} {v : Value} {G : Heap}
    (M : L2.Mod K mg G) (k : ∀ b o, G.get? b = some o → s.heap.get? b = some o) (hx : s.heap.get? x = some (excObj C t0 none .none)) (hnx : G.get? x = none) (hsz : G.objs.size ≤ s.heap.objs.size) (hroom : A.depth < recursionLimit) (hsup : mg "super" = none)
    (hfile : ((prog.main.file : Str) == file) = true) (htop : (prog.main.scope.names.lookup ("super" : Str)).isSome = false)
    (hq : ∀ h' tk dx t1, (∀ b o, G.get? b = some o → h'.get? b = some o) → G.objs.size ≤ dx → dx ≠ x → h'.get? x = some (excObj C t1 (some dx) .none) → h'.Ns1 dx (fun y => if y = f then some v else none) → R (.ok (.ret .none)) { s with heap := h', toks := tk }) :
    codeAny (model prog w) A (.call (.ref fI) ⟨[.ref x, v], []⟩) R s := by
  obtain ⟨oc, od, osl, q, doc, pm, ct, an, cda, cc, ccl, cl, cdd, cld, vs, ccs, csl, tf, cdD, p1, p2, q1, q2, q3, q4, q5, q6, q7, q8, q9, q10, ho, hcd, hcda, hvs, hcc, hD, hl⟩ := T.fn
  have X : K.In s.heap := M.kin.keeps k
  have hf : (f == ("self" : Str)) = false ∧ (f == ("__debug__" : Str)) = false ∧ (xScope f).names.lookup f = some .local ∧ (xScope f).names.lookup ("super" : Str) = some .globalImplicit ∧ (xScope f).names.lookup ("__class__" : Str) = some .free ∧ (xScope f).names.lookup ("self" : Str) = some .local ∧ ∀ y ∈ (xScope f).names, y.2 ≠ .cell := by
    rcases T.nm with rfl | rfl | rfl | rfl <;> exact ⟨by decide, by decide, by decide, by decide, by decide, by decide, by decide⟩
  obtain ⟨hf1, hf2, hf3, hf4, hf5, hf6, hf7⟩ := hf
  refine ks_codeAny_call_defAt (fd := ksFn "__init__" q (xArgs f p1 p2) (xBody f q1 q2 q3 q4 q5 q6 q7 q8 q9 q10) (xScope f) .none .none doc pm an (.ref cda) ct cc) (binds := [("self", .ref x), (f, v)]) hroom (X _ _ ho) rfl (M.nolimit.keeps k) (codeRec_of X hcd) rfl ?_ hf7 ?_ (fun h₁ hns hk₁ => ?_)
  · rcases T.nm with rfl | rfl | rfl | rfl <;> exact BindsTo.of_eq (by first | rfl | with_unfolding_all rfl)
  · intro y hy
    rcases List.mem_cons.mp hy with rfl | hy
    · exact hf6
    · cases List.mem_singleton.mp hy
      exact hf3
  have hms : (fun y : Str => [(("self" : Str), Value.ref x), (f, v)].reverse.lookup y) "self" = some (.ref x) := by
    show List.lookup ("self" : Str) [(f, v), (("self" : Str), Value.ref x)] = _
    have e : (("self" : Str) == f) = false := by
      cases z : (("self" : Str) == f) with
      | false => rfl
      | true => rw [eq_of_beq z] at hf1; simp at hf1
    simp [List.lookup, e]
  have hmf : (fun y : Str => [(("self" : Str), Value.ref x), (f, v)].reverse.lookup y) f = some v := by
    show List.lookup f [(f, v), (("self" : Str), Value.ref x)] = _
    simp [List.lookup]
  have F1 : PyProof.Rows.Fr G s.heap.objs.size h₁ (fun y : Str => [(("self" : Str), Value.ref x), (f, v)].reverse.lookup y) := ⟨hns, fun b o e => hk₁ b o (k b o e), hsz⟩
  have N1 : News G s.heap.objs.size h₁ [(x, excObj C t0 none .none)] := fun p hp => by
    cases List.mem_singleton.mp hp
    exact ⟨hk₁ _ _ hx, Nat.ne_of_lt (Heap.lt_size hx), hnx⟩
  have X1 : K.In h₁ := X.keeps hk₁
  obtain ⟨oD, hD1, hD2⟩ : ∃ oD, h₁.get? C = some oD ∧ oD.data = .cls cdD := by
    unfold clsIn at hD
    split at hD
    · cases hD
      exact ⟨_, X1 _ _ (by assumption), rfl⟩
    · cases hD
  have IA : InstAt h₁ x (excObj C t0 none .none) C none := ⟨hk₁ _ _ hx, rfl, rfl, trivial⟩
  obtain ⟨mb, hb1, hb2⟩ := M.blt
  have k1 : ∀ b o, G.get? b = some o → h₁.get? b = some o := F1.keep
  generalize hL : s.heap.objs.size = L at *
  generalize hm : (fun y : Str => [(("self" : Str), Value.ref x), (f, v)].reverse.lookup y) = m at *
  refine ks_wpAt_execs_cons (ks_wpAt_Expr_any (ks_wpAt_MethodCall (pl := (do return (← importBound (.Call (.Name "super" q1) [] [] q2) (ksEnv q (xScope f) L fI (.ref cda) cc)).getD true)) ?_ ?he))
  case he =>
    have hpos : methodCallPos true (.Call (.Name "super" q1) [] [] q2) (ksEnv q (xScope f) L fI (.ref cda) cc) q3 q5 = pure q5 := by unfold methodCallPos; simp [hl]
    show (attributeBase _ _ _ _ >>= fun ov => standAt q3.atName >>= fun _ => methodCall _ _ _ _ (ksEnv q (xScope f) L fI (.ref cda) cc) ov _ _ _) = _
    unfold methodCall
    rw [show methodCallForm _ _ _ = true from rfl]
    rw [hpos]
    rfl
  refine ks_wpAt_super_base (env := ksEnv q (xScope f) L fI (.ref cda) cc) hf4 hf5 (by decide) rfl (X1 _ _ ho) rfl rfl rfl (X1 _ _ hcda) rfl hvs hfile htop ?_
  refine ks_loadName_global rfl hf4 (loadGlobal_builtin (env := ksEnv q (xScope f) L fI (.ref cda) cc) (M.glob.keeps k1) hsup (hb1.keeps k1) ((hb2 _ (by decide)).trans rfl) ⟨rfl, ?_⟩)
  refine wpAny_loadName_free rfl hf5 rfl ⟨_, X1 _ _ hcc, rfl⟩ ?_
  refine wpAny_loadName_local rfl hf6 F1.ns hms ?_
  refine ks_wpAny_isType_cls hD1 hD2 ⟨rfl, ?_⟩
  refine ks_wpAny_call_super hD1 hD2 IA.at_ IA.cls (fun c e => by cases e) (looks_mroIn X1 T.slf) (fun h₂ e2 k2 => ?_)
  obtain ⟨F2, N2, lt2⟩ := ks_newsPush (s := { s with heap := h₁, toks := s.toks + 2 }) F1 N1 rfl e2 k2
  have I2 : InstAt h₂ x (excObj C t0 none .none) C none := ⟨k2 _ _ IA.at_, rfl, rfl, trivial⟩
  refine kxs_method KF F2 M.kin N2 (List.mem_cons_self ..) I2 T.stat T.sup T.subB (by decide) fun u h₃ F3 N3 lt3 => ?_
  refine kxs_callWith1 N3 (List.mem_cons_self ..) ?_
  refine spliced_more ?_
  refine wpAny_Name (wpAny_loadName_local rfl hf3 F3.ns hmf ?_) hf2
  refine spliced_none ⟨kxs_at N3 (List.mem_cons_self ..), ?_⟩
  have U : UpdF x (excObj C t0 none .none) [(u, kxs_mw initId x), (h₁.objs.size, ks_superObj C x C), (x, excObj C t0 none .none)] _ := .tail (Nat.ne_of_gt (lt3 _ (List.mem_cons_of_mem _ (List.mem_cons_self ..)))) (.tail (Nat.ne_of_gt (lt2 _ (List.mem_cons_self ..))) (.head fun _ z => nomatch z))
  refine kxs_call F3 M.kin N3 FB T.ini (List.mem_cons_self ..) U (by show 1 ≤ sizeLine; rw [sizeLine_eq]; omega) fun t1 h₄ F4 N4 lt4 => ?_
  dsimp only
  refine wpAt_of_wpAny (wpAny_execs_cons (plainObj_wpAny_Assign_Attribute ?_))
  refine wpAny_Name (wpAny_loadName_local rfl hf3 F4.ns hmf ?_) hf2
  refine wpAny_Name (wpAny_loadName_local rfl hf6 F4.ns hms ?_) (by decide)
  have hx4 : h₄.get? x = some (excObj C t1 none .none) := (N4 (x, excObj C t1 none .none) (by simp)).1
  refine x_store SF (M.kin.keeps F4.keep) hx4 T.sa T.ovr T.tk T.hd fun h₅ tk₅ dx k5 dn dne hx5 hn5 => ?_
  dsimp only
  refine wpAny_execs_nil (hq h₅ tk₅ dx t1 (fun b o e => k5 b o (fun z => by rw [z, hnx] at e; cases e) (F4.keep b o e)) ?_ dne hx5 hn5)
  exact Nat.le_trans (Nat.le_trans hsz (Nat.le_of_lt F4.ns.lt)) dn
theorem x_made (T : XTxt K C fI f B newId initId bmB file) (FB : ExcBaseFacts B newId initId bmB) (KF : KxsFacts B initId) (SF : StoreFacts B bmB "object.__setattr__" "object") {mg : Str → Option Value} {v : Value} {G : Heap}
    (M : L2.Mod K mg G) (k : ∀ b o, G.get? b = some o → s.heap.get? b = some o) (hsz : G.objs.size ≤ s.heap.objs.size) (hroom : A.depth + 1 < recursionLimit) (hsup : mg "super" = none)
    (hfile : ((prog.main.file : Str) == file) = true) (htop : (prog.main.scope.names.lookup ("super" : Str)).isSome = false)
    (hq : ∀ h' tk e d, XMade s.heap h' e C d f v → R (.ok (.ret (.ref e))) { s with heap := h', toks := tk }) :
    codeAny (model prog w) A (.call (.ref C) ⟨[v], []⟩) R s := by
  have X : K.In s.heap := M.kin.keeps k
  obtain ⟨nm, N', qn, bs, bm, hdct, sn, sub, ab, col, dd, k0, k1, k2, k3, k5, hC, hT⟩ := excInit_of X T.ini
  obtain ⟨hp, g, dr, tk, os⟩ := s
  let hs : Heap := (hp.push (excTup [v])).push (excObj C hp.objs.size none .none)
  have up : ∀ b o, hp.get? b = some o → hs.get? b = some o := fun b o e => Heap.get?_push_of_some _ (Heap.get?_push_of_some _ e)
  have hget : hs.get? (hp.objs.size + 1) = some (excObj C hp.objs.size none .none) := by heap_get
  have hss : hs.objs.size = hp.objs.size + 2 := by show ((hp.push _).push _).objs.size = _; rw [Heap.size_push, Heap.size_push]
  have hnn : hp.get? (hp.objs.size + 1) = none := by
    cases e : hp.get? (hp.objs.size + 1) with
    | none => rfl
    | some o => exact absurd (Nat.lt_of_succ_lt (Heap.lt_size e)) (Nat.lt_irrefl _)
  -- the ground is the heap ahead of the call
  have M' : L2.Mod K mg hp := by
    obtain ⟨mb, b1, b2⟩ := M.blt
    exact ⟨X, M.glob.keeps k, ⟨mb, b1.keeps k, b2⟩, M.nolimit.keeps k⟩
  refine PX.call_own FB hT hC (looks_findIn X T.iC) (fun self => bind_fn X self T.tI) (by show 1 ≤ sizeLine; rw [sizeLine_eq]; omega) ?_
  refine x_init (s := ⟨hs, g, dr, tk, os⟩) T FB KF SF M' up hget hnn (Nat.le_trans (Nat.le_add_right _ 2) (Nat.le_of_eq hss.symm)) (by show A.depth + 1 < recursionLimit; exact hroom) hsup hfile htop fun h' tk' dx t1 kk dn dne hx hn => ?_
  exact ⟨rfl, hq h' tk' (hp.objs.size + 1) dx ⟨kk, Nat.le_succ _, ⟨_, _, hx, rfl, rfl, rfl, rfl⟩, dn, dne, hn⟩⟩
end
end
end PD
end
section
namespace PD
open PySem L2
section
open PySem PySem.Calls PyProof.Rows PySem.W
theorem xInit_of {K : Frag} {C fI : Addr} {f file : Str} (h : xInitB K C fI f file = true) :
    ∃ (oc : Value) (od : Option Addr) (osl : Array (Option Value)) (q : Str) (doc pm ct : Value) (an : Option Addr) (cda cc : Addr) (ccl cl : Value) (cdd cld : Option Addr) (vs : Array Value) (ccs csl : Array (Option Value)) (tf : Tok) (cdD : ClassData) (p1 p2 q1 q2 q3 q4 q5 q6 q7 q8 q9 q10 : Pos),
    K.lookup fI = some ⟨oc, od, .func (ksFn "__init__" q (xArgs f p1 p2) (xBody f q1 q2 q3 q4 q5 q6 q7 q8 q9 q10) (xScope f) .none .none doc pm an (.ref cda) ct cc), osl⟩ ∧ codeIn K (.ref cda) q = true ∧
      K.lookup cda = some ⟨ccl, cdd, .fields vs, ccs⟩ ∧ vs[2]? = some (.str file tf) ∧ K.lookup cc = some ⟨cl, cld, .cell (some (.ref C)), csl⟩ ∧ clsIn K C = some cdD ∧ (q3.endLine == q5.line) = true := by
  unfold xInitB at h
  split at h
  · rename_i oc od fd osl e
    split at h
    · rename_i s1 p1 f1 p2 s2 q1 q2 i q3 f2 q4 q5 q6 s3 q7 f3 q8 f4 q9 q10 cl cc cda hpar hbod hclo hcod
      simp only [Bool.and_eq_true, decide_eq_true_eq] at h
      obtain ⟨rfl, rfl, rfl, rfl, rfl, rfl, rfl, rfl, hq, rfl, hn, hs, hg, hb, hd, hk, hc, hcls, h1, h2⟩ := h
      obtain ⟨cdD, hD⟩ := Option.isSome_iff_exists.mp hcls
      split at h1
      · rename_i ccl cdd vs ccs e1
        split at h1
        · rename_i fl tf e2
          rw [decide_eq_true_eq] at h1
          subst h1
          split at h2
          · rename_i c1 cld D csl e3
            rw [decide_eq_true_eq] at h2
            subst h2
            obtain ⟨n, q, par, bod, sco, glo, clo, df, kd, doc, pm, an, cod, ct, bu⟩ := fd
            dsimp only at hpar hbod hclo hcod hn hs hg hb hd hk hc
            subst hpar hbod hclo hcod hn hs hg hb hd hk
            exact ⟨oc, od, osl, q, doc, pm, ct, an, cda, cc, ccl, c1, cdd, cld, vs, ccs, csl, tf, cdD, p1, p2, q1, q2, q3, q4, q5, q6, q7, q8, q9, q10, e, hc, e1, e2, e3, hD, hq⟩
          · cases h2
        · cases h1
      · cases h1
    · cases h
  · cases h
end
section
open PySem PySem.Calls PyProof.Rows PySem.W
variable [XLs]
structure XB (B newId initId : String) (bmB : List Value) : Prop where
  fb : ExcBaseFacts B newId initId bmB
  kf : KxsFacts B initId
  sf : StoreFacts B bmB "object.__setattr__" "object"
theorem xb_V : XB "ValueError" "ValueError.__new__" "ValueError.__init__" (xTl "ValueError") := ⟨PySem.F.excBase_ValueError, kxs_ValueError, PySem.F.store_ValueError⟩
theorem xb_L : XB "LookupError" "LookupError.__new__" "LookupError.__init__" (xTl "LookupError") := ⟨PySem.F.excBase_LookupError, kxs_LookupError, PySem.F.store_LookupError⟩
theorem xb_R : XB "RuntimeError" "RuntimeError.__new__" "RuntimeError.__init__" (xTl "RuntimeError") := ⟨PySem.F.excBase_RuntimeError, kxs_RuntimeError, PySem.F.store_RuntimeError⟩
theorem xTxt_of {K : Frag} {c f : Str} {B newId initId : String} {file : Str} (hf : f = "line" ∨ f = "flow" ∨ f = "name" ∨ f = "number") (h : xTxtB K c f B newId initId file = true) :
    XTxt K (He.ga K c) (He.ma K (He.ga K c) "__init__") f B newId initId (xTl B) file ∧ findIn K (.ref (He.ga K c)) f = some none := by
  unfold xTxtB at h
  simp only [Bool.and_eq_true, decide_eq_true_eq] at h
  obtain ⟨h1, h2, h3, h4, h5, h6, h7, h8, h9, h10, h11, h12, h13⟩ := h
  exact ⟨⟨hf, h1, h2, He.eqO_ok h3, He.eqO_ok h4, h5, He.eqO_ok h6, h7, He.eqO_ok h8, h9, h10, He.eqO_ok h11, xInit_of h12⟩, He.eqO_ok h13⟩
structure XCls (K : Frag) (mg : Str → Option Value) (c : Str) : Prop where
  g : mg c = some (.ref (He.ga K c))
  kp : keepIn K (.ref (He.ga K c)) = true
  ex : subIn K (.ref (He.ga K c)) (.type "BaseException") = some true
  ty : typeIn K (.ref (He.ga K c)) = some (.type "type")
  hd : hasDictIn K (He.ga K c) = true
  ga : findIn K (.ref (He.ga K c)) "__getattribute__" = some (some (.builtin "BaseException.__getattribute__"))
  gt : findIn K (.ref (He.ga K c)) "__getattr__" = some none
  exm : ∀ d ∈ XL, exmOne K (.ref (He.ga K c)) (.ref (He.ga K d)) = some (decide (c = d))
  isk : ∀ d ∈ XL, kitOne K (.ref (He.ga K c)) (.ref (He.ga K d)) = some (decide (c = d))
  isb : ∀ b ∈ (["ValueError", "LookupError", "RuntimeError"] : List String), kitOne K (.ref (He.ga K c)) (.type b) = some (decide (xBase c = Str.ofString b))
  cl : (clsIn K (He.ga K c)).isSome = true
  cc : findIn K (.ref (He.ga K c)) "__class__" = some (some (.builtin "object.__class__"))
  cg : specialIn K (.builtin "object.__class__") "__get__" = some (some (.builtin "getset_descriptor.__get__"))
  ct : takesIn K (.builtin "object.__class__") = some true
  co : mroIn K (He.ga K c) (.type "object") = some true
  nn : kitOne K (.type "NoneType") (.ref (He.ga K c)) = some false
theorem xCls_of {K : Frag} {h : Heap} {mg : Str → Option Value} {c : Str} (X : K.In h) (G : h.Ns mainGlobals mg) (hb : xClsB K c = true) : XCls K mg c := by
  unfold xClsB at hb
  simp only [Bool.and_eq_true, decide_eq_true_eq, List.all_eq_true] at hb
  obtain ⟨h1, h2, h3, h4, h5, h6, h7, h8, h9, h10, h11, h12, h13, h14, h15⟩ := hb
  exact ⟨mg_of X G (He.eqO_ok h1), h2, h3, h4, h5, He.eqO_ok h6, He.eqO_ok h7, fun d hd => (h8 d hd).1, fun d hd => (h8 d hd).2, h9, h10, He.eqO_ok h11, He.eqO_ok h12, h13, h14, h15⟩
structure XAll (K : Frag) (mg : Str → Option Value) (file : Str) : Prop where
  cls : ∀ c ∈ XL, XCls K mg c
  fld : ∀ c ∈ XL, c ≠ "LastFlow" → ∃ B newId initId, XB B newId initId (xTl B) ∧ XTxt K (He.ga K c) (He.ma K (He.ga K c) "__init__") (xFld c) B newId initId (xTl B) file ∧ findIn K (.ref (He.ga K c)) (xFld c) = some none
  sup : mg "super" = none
theorem xall_of {K : Frag} {h : Heap} {mg : Str → Option Value} {file : Str} (X : K.In h) (G : h.Ns mainGlobals mg) (hb : xallB K file = true) : XAll K mg file := by
  unfold xallB at hb
  simp only [Bool.and_eq_true, List.all_eq_true, Bool.or_eq_true, decide_eq_true_eq] at hb
  obtain ⟨h1, h2⟩ := hb
  refine ⟨fun c hc => xCls_of X G (h1 c hc).1, fun c hc hn => ?_, mg_none_of X G (He.eqO_ok h2)⟩
  have hf : xFld c = "line" ∨ xFld c = "flow" ∨ xFld c = "name" ∨ xFld c = "number" := by
    unfold xFld
    split
    · exact .inl rfl
    · split
      · exact .inr (.inl rfl)
      · split
        · exact .inr (.inr (.inl rfl))
        · exact .inr (.inr (.inr rfl))
  rcases (h1 c hc).2 with z | z
  · exact absurd z hn
  · unfold xFB at z
    split at z
    · exact ⟨_, _, _, xb_L, xTxt_of hf z⟩
    · exact ⟨_, _, _, xb_V, xTxt_of hf z⟩
end
end PD
end
section
namespace PD
open PySem L2
variable [XLs]
structure PF (P : Program) (file : Str) : Prop where
  fl : ((P.main.file : Str) == file) = true
  ns : (P.main.scope.names.lookup ("super" : Str)).isSome = false
section
open PySem.Spec PyProof.Rows
variable {X : Cx}
theorem relO_one {f : Str} {v : V} {v' : Value} (r : RelV v v') (g : Str) : RelO (List.lookup g [(f, v)]) (if g = f then some v' else none) := by
  by_cases hw : g = f
  · subst hw
    rw [if_pos rfl]
    simp only [List.lookup, beq_self_eq_true]
    exact r
  · rw [if_neg hw]
    have q : (g == f) = false := by simpa using hw
    simp only [List.lookup, q]
    trivial
def tMkX (C : Addr) (f : Str) (ta : TA) : L2.St → Hp → XK → Prop := fun σ H Q => ta σ H fun vs H1 => ∃ v, vs = [v] ∧ ∀ d, H1 d = none → Q (.ref C) (some d) (upd H1 d (.xd [(f, v)]))
theorem pmk_x {c f : Str} {file : Str} (pf : PF X.prog file) {B newId initId : String} {a : Expr} {ta : TA} {p pos : Pos} {k : Nat} (hc : XCls X.K X.mg c) (b : XB B newId initId (xTl B)) (T : XTxt X.K (He.ga X.K c) (He.ma X.K (He.ga X.K c) "__init__") f B newId initId (xTl B) file)
    (hsup : X.mg "super" = none) (hr : Room k X.A) (ha : PA X [a] ta) (hg : Gl X c) (hdb : (c == ("__debug__" : Str)) = false)
    (he : starEach (a :: []) X.env = (false, eval a X.env) :: starEach [] X.env := by rfl) (hpl : (backTo pos (starEach [] X.env)).any (·.1) = false := by rfl) :
    PMk X (.Call (.Name c p) [a] [] pos) (tMkX (He.ga X.K c) f ta) := by
  intro pins s σ H Q I h
  refine wpAny_Call_Name_kw (ld_glob I hg hc.g ?_ hdb)
  refine PySem.W.callWith_K (h₀ := X.base) I.ok.mod.kin hc.kp (thn (ha.run pos pins s σ H _ I h) fun us s1 hh => ?_) he hpl
  obtain ⟨vs, H1, I1, r1, v, ev, q1⟩ := hh
  subst ev
  refine ⟨I1.kIn, ?_⟩
  cases r1 with
  | cons rv rn =>
    rename_i v' us'
    cases rn
    show wpAny _ _ (call (.ref (He.ga X.K c)) [v']) _ _ _
    obtain ⟨mf, hfr⟩ := I1.fr
    have hsz : X.base.objs.size ≤ s1.heap.objs.size := Nat.le_trans hfr.above (Nat.le_of_lt hfr.ns.lt)
    have hmod := I1.ok.mod
    have hbk := I1.bk
    obtain ⟨hp, g, dr, tk, os⟩ := s1
    refine wpAny_call (x_made (s := ⟨hp, g, dr, tk, os⟩) T b.fb b.kf b.sf hmod hbk hsz (by have := hr.dp; show X.A.depth + 1 < _; omega) hsup pf.fl pf.ns fun h' tk' e d Mk' => ?_)
    show MkP X pins σ Q (.ref e) ⟨h', g, dr, tk', os⟩
    obtain ⟨oe, fv, hoe, hcl, hdd, hdat, h1⟩ := Mk'.obj
    obtain ⟨G', g1, g2⟩ := restrict h' fun b => decide (b ≠ e)
    have gk : ∀ b, b ≠ e → G'.get? b = h'.get? b := fun b hb => g1 b (decide_eq_true hb)
    have ge : G'.get? e = none := g2 e (by simp)
    have old : ∀ b o, hp.get? b = some o → G'.get? b = some o := fun b o q => (gk b (Nat.ne_of_lt (Nat.lt_of_lt_of_le (Heap.lt_size q) Mk'.new))).trans (Mk'.keep b o q)
    have ob : ObjOk X.prog X.w (upd H1 d (.xd [(f, v)])) G' d (.xd [(f, v)]) := ⟨_, Mk'.ns.at (fun o q => (gk d Mk'.dne).trans q), fun x => relO_one rv x⟩
    have J := I1.laid (t' := tk') old Mk'.dbig ob
    refine ⟨e, oe, fv, ⟨G', g, dr, tk', os⟩, _, .ref (He.ga X.K c), some d, rfl, J, fun b o q => ?_, ge, hoe, ⟨hcl, hdd⟩, hdat, h1, ?_, rfl, I1.bare, raises_own hc.ex hc.ty, q1 d (I1.hok.fresh Mk'.dbig)⟩
    · by_cases hb : b = e
      · have q' : G'.get? b = some o := q
        rw [hb, ge] at q'; cases q'
      · exact (gk b hb).symm.trans q
    · rw [upd_ne (Ne.symm Mk'.dne)]
      exact I1.hok.fresh Mk'.new
end
section
variable {X : Cx} {own : List Nat}
def sraise (c : Str) (g : Env → RE D) : Env → RO := fun δ => bindE (g δ) fun d δ' => some (.error (⟨c, [(xFld c, d)]⟩, δ'))
theorem js_raise {c : Str} {file : Str} (pf : PF X.prog file) {a : Expr} {p pos pos2 : Pos} {k : Nat} {g : Env → RE D} (T : XAll X.K X.mg file) (hr : Room k X.A) (h : JE X own a g) (hcalm : X.calm = true := by rfl) (hc : c ∈ XL := by decide) (hn : c ≠ "LastFlow" := by decide) (hg : Gl X c := by rfl) (hdb : (c == ("__debug__" : Str)) = false := by decide)
    (he : starEach (a :: []) X.env = (false, eval a X.env) :: starEach [] X.env := by rfl) (hpl : (backTo pos (starEach [] X.env)).any (·.1) = false := by rfl) :
    JS X own (.Raise (some (.Call (.Name c p) [a] [] pos)) none pos2) (sraise c g) := ⟨fun {P F0 H0 σ F H δ W o D} _ r tk hg' hP => by
  obtain ⟨B, newId, initId, b, T', _⟩ := T.fld c hc hn
  have T' := T'
  refine ws_of (ps_raise hcalm tk (pmk_x pf (T.cls c hc) b T' T.sup hr (pa_cons pe_we pa_nil he) hg hdb he hpl)) ?_
  show WE X a σ H fun v H1 => ∃ v', [v] = [v'] ∧ ∀ d, H1 d = none → W (.ref (He.ga X.K c)) (some d) σ (upd H1 d (.xd [(xFld c, v')]))
  exact se_bind h r tk hg' hP fun x v δ1 F1 H1 h1 e1 rx r1 P1 => by
    cases h1
    refine ⟨v, rfl, fun d hd => ?_⟩
    have nF : F1 d = none := none_back r1.fh hd
    exact P1 _ _ σ _ _ (r1.grow (.new r1.fh hd)) (Ex.new nF) ⟨rfl, [(xFld c, v)], .inr ⟨d, rfl, upd_same⟩, .cons (rx.mono (Ex.new nF)) .nil⟩⟩
end
end PD
end
section
namespace PD
open PySem L2
variable [XLs]
section
open PySem PySem.Calls PyProof.Rows PySem.W
theorem for_all {M : Model} {A : Around} {E : Value → Shared → Prop} {β : Type} {body : Value → β → Sem (ForInStep β)} {i : β} {h : Heap} : ∀ {cs : List Value} {Q : β → Shared → Prop} {s : Shared},
    (∀ c ∈ cs, Looks M h (body c i) (.yield i)) → (∀ b o, h.get? b = some o → s.heap.get? b = some o) → Q i s → wpAny M A (forIn cs i body) Q E s
  | [], Q, s, _, _, q => by rw [List.forIn_nil]; exact wpAny_pure q
  | c :: cs, Q, s, hb, k, q => by
    rw [List.forIn_cons]
    refine wpAny_bind (((hb c (List.mem_cons_self ..)).keeps k).here ?_)
    exact for_all (fun d hd => hb d (List.mem_cons_of_mem _ hd)) k q
theorem for_hit {M : Model} {A : Around} {E : Value → Shared → Prop} {β : Type} {body : Value → β → Sem (ForInStep β)} {i : β} {e : β} {h : Heap} : ∀ {cs : List (Value × Bool)} {Q : β → Shared → Prop} {s : Shared},
    (∀ c ∈ cs, Looks M h (body c.1 i) (if c.2 = true then .done e else .yield i)) → (∀ b o, h.get? b = some o → s.heap.get? b = some o) → Q (if cs.any (·.2) = true then e else i) s → wpAny M A (forIn (cs.map (·.1)) i body) Q E s
  | [], Q, s, _, _, q => by rw [List.map_nil, List.forIn_nil]; exact wpAny_pure q
  | (c, true) :: cs, Q, s, hb, k, q => by
    rw [List.map_cons, List.forIn_cons]
    refine wpAny_bind (((hb (c, true) (List.mem_cons_self ..)).keeps k).here ?_)
    rw [if_pos rfl]
    rw [if_pos (by simp)] at q
    exact wpAny_pure q
  | (c, false) :: cs, Q, s, hb, k, q => by
    rw [List.map_cons, List.forIn_cons]
    refine wpAny_bind (((hb (c, false) (List.mem_cons_self ..)).keeps k).here ?_)
    rw [if_neg Bool.false_ne_true]
    rw [List.any_cons, Bool.false_or] at q
    exact for_hit (fun d hd => hb d (List.mem_cons_of_mem _ hd)) k q
theorem exm_list {M : Model} {K : Frag} {cls : Value} {cs : List (Value × Bool)} {tp e : Addr} {h : Heap} (X : K.In h) (LT : Looks M h (typeOf (.ref e)) cls) (hp : h.get? tp = some { cls := .type "tuple", data := .seq (cs.map (·.1)).toArray }) (hx : ∀ c ∈ cs, exmOne K cls c.1 = some c.2) :
    Looks M h (excMatches (.ref e) (.ref tp)) (cs.any (·.2)) := by
  intro A Q E s k q
  have LT0 : Looks M h (isInstance (.ref tp) (.type "tuple")) true := ((Looks.ld hp).andThen .now).andThen (Looks.of_pure isSubtype_tuple_tuple)
  unfold excMatches
  refine wpAny_bind ((LT0.keeps k).here ?_)
  dsimp only
  rw [if_pos rfl]
  refine wpAny_bind (wpAny_seqItems (k _ _ hp) rfl ?_)
  refine wpAny_bind (wpAny_pure ?_)
  refine wpAny_bind (for_all (h := h) (fun c hc => ?_) k ?_)
  · obtain ⟨c', hc', rfl⟩ := List.mem_map.mp (show c ∈ cs.map (·.1) from hc)
    obtain ⟨e1, _⟩ := exm_cls (M := M) X (hx c' hc')
    exact e1.andThen .now
  · refine wpAny_bind ((LT.keeps k).here ?_)
    refine wpAny_bind ?_
    refine for_hit (cs := cs) (h := h) (e := (some true, ())) (fun c hc => ?_) k ?_
    · obtain ⟨_, e2⟩ := exm_cls (M := M) X (hx c hc)
      refine e2.andThen ?_
      cases c.2 <;> exact .now
    · cases hb : cs.any (·.2) with
      | true => rw [hb] at q; rw [if_pos rfl]; exact wpAny_pure q
      | false => rw [hb] at q; rw [if_neg Bool.false_ne_true]; exact wpAny_pure q
end
end PD
end
section
namespace PD
open PySem L2
variable [XLs]
section
open PySem.Spec PyProof.Rows
variable {X : Cx} {pins : List (Addr × Obj)} {σ : L2.St} {H : Hp} {s : Shared}
inductive XNames (X : Cx) : List Expr → List Str → Prop
  | nil : XNames X [] []
  | cons {x : Str} {p : Pos} {es : List Expr} {xs : List Str} (hg : Gl X x) (hc : x ∈ XL) (hdb : (x == ("__debug__" : Str)) = false) (he : starEach (.Name x p :: es) X.env = (false, eval (.Name x p) X.env) :: starEach es X.env) (r : XNames X es xs) : XNames X (.Name x p :: es) (x :: xs)
theorem inv_keepX {a C : Addr} {oe : Obj} {vs : Array Value} {d : Option Addr} (I : Inv X pins σ H s) (he : s.heap.get? a = some oe) (hz : Zc (.ref C) d oe) (hd : oe.data = .fields vs) (na : H a = none) (nL : a ≠ X.env.locals) (hp : ∀ p ∈ X.pn ++ pins, p.1 ≠ a) (h0 : X.s_0.heap.get? a = none) :
    Inv X pins σ (upd H a (exH C d a)) s where
  ok := I.ok
  os := I.os
  bare := I.bare
  base := {
    keep := fun b o q n hf hx => I.base.keep b o q n hf hx
    slot := fun b o q n hf hx => I.base.slot b o q n hf hx
    free := fun b o q n hx => by
      have hb : b ≠ a := fun z => by rw [z, h0] at q; cases q
      rw [upd_ne hb]; exact I.base.free b o q n hx
    there := fun b o q hx => I.base.there b o q hx
    tups := fun b xs q => by
      have := I.base.tups b xs q
      rw [upd_ne (ne_of_none this na)]; exact this
    frzs := fun b o u q => by
      have := I.base.frzs b o u q
      rw [upd_ne (ne_of_none this na)]; exact this
    tbls := fun b ps q => by
      obtain ⟨m, z⟩ := I.base.tbls b ps q
      exact ⟨m, by rw [upd_ne (ne_of_none z na)]; exact z⟩ }
  loc := I.loc
  cell := I.cell
  free := by rw [upd_ne (Ne.symm nL)]; exact I.free
  freeC := fun x c e => by
    have hca : c ≠ a := fun z => by
      obtain ⟨v, o, ho, hc⟩ := I.cell x c e
      rw [z, he] at ho
      cases ho
      rw [hd] at hc
      cases hc
    rw [upd_ne hca]; exact I.freeC x c e
  pin := fun p hm => by
    obtain ⟨e, n, rest⟩ := I.pin p hm
    exact ⟨e, by rw [upd_ne (hp p hm)]; exact n, rest⟩
  hok := fun b u e => by
    by_cases hb : b = a
    · subst hb
      rw [upd_same] at e
      cases e
      exact ⟨⟨oe, vs, he, hz, hd⟩, ⟨oe, he⟩, fun _ _ ⟨o, v, q, r⟩ k => ⟨o, v, k o q, r⟩⟩
    · rw [upd_ne hb] at e
      exact (I.hok b u e).stay (fun c v _ q => q) (fun c q => by rw [upd_ne (ne_of_none q na)]; exact q) fun c xs q => by rw [upd_ne (ne_of_none q na)]; exact q
  len := I.len
theorem x_names {X' : Cx} {A : Around} {E : Value → Shared → Prop} {pos : Pos} (T : ∀ c ∈ XL, XCls X'.K X'.mg c) (hA : X'.A = A) : ∀ {es : List Expr} {xs : List Str}, XNames X' es xs → ∀ {Q : List Value → Shared → Prop}, Inv X' pins σ H s → Q (xs.map fun c => Value.ref (He.ga X'.K c)) s →
    wpAny (model X'.prog X'.w) A (spliced (backTo pos (starEach es X'.env))) Q E s
  | _, _, .nil, Q, I, q => spliced_none q
  | _, _, .cons hg hc hdb he r, Q, I, q => by
    subst hA
    refine spliced_more ?_ he
    exact ld_glob I hg (T _ hc).g (x_names T rfl r I q) hdb
theorem XNames.suite {a : Addr} {pn : List (Addr × Obj)} : ∀ {es : List Expr} {xs : List Str}, XNames X es xs → XNames (X.suite a pn) es xs
  | _, _, .nil => .nil
  | _, _, .cons hg hc hdb he r => .cons hg hc hdb he r.suite
theorem XNames.in_ {es : List Expr} {xs : List Str} (h : XNames X es xs) : ∀ x ∈ xs, x ∈ XL := by
  induction h with
  | nil => intro x hx; cases hx
  | cons hg hc hdb he r ih =>
    intro x hx
    rcases List.mem_cons.mp hx with rfl | hx
    · exact hc
    · exact ih x hx
theorem flying_ext {B h h' : Heap} {l : List PySem.Env} {a : Addr} {Z : Obj → Prop} (k : ∀ b o, h.get? b = some o → h'.get? b = some o) (x : HandSPX.FlyingZ B l a Z h) : HandSPX.FlyingZ B l a Z h' := by
  obtain ⟨x1, x2, x3, oe, vs, T, oT, ts, e1, e2, e3, e4, e5, e6, e7, e8, e9⟩ := x
  exact ⟨fun b o e => k b o (x1 b o e), x2, x3.of_keeps fun b o e _ => ⟨o, k b o e, rfl⟩, oe, vs, T, oT, ts, k _ _ e1, e2, e3, e4, e5, e6, k _ _ e7, e8, e9⟩
def wKeep (K : Frag) (cs : List Str) (i j : Nat) (D : Ends) : WX := fun cls d σ H => ∃ c, c ∈ XL ∧ c ∈ cs ∧ cls = .ref (He.ga K c) ∧ ∀ a, H a = none → D.nx ((σ.set j (some (.ref a))).set i none) (upd H a (exH (He.ga K c) d a))
theorem ws_try {i j : Nat} {n y : Str} {body : List Stmt} {es : List Expr} {cs : List Str} {kk : Nat} {tp p1 p2 p3 p4 pos pos' : Pos} {D : Ends} (T : ∀ c ∈ XL, XCls X.K X.mg c) (hcs : ∀ c ∈ cs, c ∈ XL) (hs : X.stack = X.env :: X.outer) (hf : X.env.frame = some X.env.locals) (hex : X.ex = []) (hN : X.N.Nodup)
    (hi : X.N[i]? = some n) (hj : X.N[j]? = some y) (hij : i ≠ j) (hln : X.env.kindOf n = some .local) (hly : X.env.kindOf y = some .local) (hes : XNames X es cs) (hd1 : (n == ("__debug__" : Str)) = false) (hd2 : (n == ("__classdict__" : Str)) = false) (hlen : cs.length ≤ 100)
    (hsw : swapsWith (.Name n p2) (some (.Name y p1)) p3.line X.env = pure false)
    (hb : ∀ (pn : List (Addr × Obj)) (xe : Value → Shared → Prop), Takes (X.tr pn xe) (wKeep X.K cs i j D) → PassesOwn (model X.prog X.w) X.A X.env xe → WSs (X.tr pn xe) body D σ H) :
    WS X (.Try body [.ExceptHandler (some (.Tuple es kk tp)) (some n) [.Assign [.Name y p1] (.Name n p2) p3] pos'] [] [] pos) D σ H := by
  intro pins s I
  have ok := I.ok
  have hfr : X.A.frames = some (X.env :: X.outer) := by rw [ok.frames, hs]
  refine wpAny_Try_except ?_
  have key := hb (X.pn ++ pins) (fun e s₁ => wpAny (model X.prog X.w) X.A (noteFrame e X.env) (fun _ s₂ => wpAny (model X.prog X.w) X.A (setFlight e none) (fun _ s₃ =>
    wpAny (model X.prog X.w) X.A (handleBy e X.env [.ExceptHandler (some (.Tuple es kk tp)) (some n) [.Assign [.Name y p1] (.Name n p2) p3] pos']) (SP X pins D) X.xe s₃) X.xe s₂) X.xe s₁) ?_ PassesOwn.looking [] s (I.toTry _)
  · refine wpAny_mono key (fun f s1 hsp => ?_) (fun e s1 he => he)
    cases f with
    | next => obtain ⟨σ', H', J', q⟩ := hsp; exact wpAny_execs_nil ⟨σ', H', J'.ofTry ok, q⟩
    | brk => obtain ⟨σ', H', J', q⟩ := hsp; exact ⟨σ', H', J'.ofTry ok, q⟩
    | cont => obtain ⟨σ', H', J', q⟩ := hsp; exact ⟨σ', H', J'.ofTry ok, q⟩
    | ret u => obtain ⟨v, σ', H', J', r, q⟩ := hsp; exact ⟨v, σ', H', J'.ofTry ok, r, q⟩
  · intro u s' xx
    obtain ⟨a, B, sI, pins', σ', H', cls, d, rfl, J', nb, up, sky, na, os, ag, c, hcX, hcs', rfl, hw⟩ := xx
    have J : Inv X pins σ' H' sI := J'.ofTry ok
    have sky' : Sky B (X.env :: X.outer) a (Zc (.ref (He.ga X.K c)) d) X.env.locals s'.heap := by rw [← hs]; exact sky
    refine Sky.land Zc.steady hfr hf sky' fun h3 fl3 up3 => ?_
    have J3 : Inv X pins σ' H' { s' with heap := h3 } := J.landed nb fl3.1 (up.trans up3) os ag
    obtain ⟨oe3, vs3, he3, hz3, hd3⟩ := fl3.there
    have hBa : B.get? a = none := fl3.2.1
    have nfr : ∀ b ∈ frs (X.env :: X.outer), b ≠ a := fun b hb z => by
      obtain ⟨_, o', e', hnf⟩ := fl3.2.2.1.mem hb
      rw [z, he3] at e'
      cases e'
      exact hnf _ hd3
    have nL : a ≠ X.env.locals := fun z => nfr _ (List.mem_filterMap.mpr ⟨X.env, List.mem_cons_self, by rw [hf]⟩) z.symm
    have nF : a ∉ X.fs := fun hm => by
      obtain ⟨e, he, q⟩ := List.mem_filterMap.mp hm
      exact nfr a (List.mem_filterMap.mpr ⟨e, List.mem_cons_of_mem _ he, q⟩) rfl
    have aI : sI.heap.get? a = none := by
      cases q : sI.heap.get? a with
      | none => rfl
      | some o => rw [nb a o q (by rw [hs]; exact fun hm => nfr a hm rfl)] at hBa; cases hBa
    have a0 : X.s_0.heap.get? a = none := by
      cases q : X.s_0.heap.get? a with
      | none => rfl
      | some o =>
        obtain ⟨o', q'⟩ := J.base.there a o q (by rw [hex]; exact fun z => nomatch z)
        rw [aI] at q'; cases q'
    have aP : ∀ p ∈ X.pn ++ pins, p.1 ≠ a := fun p hp z => by
      have q := (J.pin p hp).1
      rw [z, aI] at q; cases q
    have S3 := J3.suite he3 hd3 na nL nF
    refine wpAny_handleBy_cons (codeAny_handlers_test ?_) (by intro q; cases q)
    refine wpAny_Tuple_spliced ?_
    have hl : (cs.map fun c => Value.ref (He.ga X.K c)).length ≤ sizeLine := by
      rw [List.length_map, sizeLine_eq]; omega
    refine x_names (X' := X.suite a ((a, oe3) :: (X.pn ++ pins))) T rfl hes.suite S3 ⟨hl, ?_⟩
    generalize ht : ({ cls := .type "tuple", data := .seq (cs.map fun c => Value.ref (He.ga X.K c)).toArray } : Obj) = ot
    have k5 : ∀ b o, h3.get? b = some o → (h3.push ot).get? b = some o := fun b o e => Heap.get?_push_of_some _ e
    have hp5 : (h3.push ot).get? h3.objs.size = some ot := Heap.get?_push_size _ (by rw [← ht]; rfl)
    have fl5 := flying_ext k5 fl3
    have up5 : sI.heap.UpToSlots (h3.push ot) := (up.trans up3).trans fun b o e _ => ⟨o.slots, k5 b o e⟩
    have LT : PySem.W.Looks (model X.prog X.w) (h3.push ot) (typeOf (.ref a)) (.ref (He.ga X.K c)) := fun A Q E s k q => wpAny_typeOf_ref (k _ _ (k5 _ _ he3)) (by rw [hz3.1]; exact q)
    have LM := exm_list (M := model X.prog X.w) (cs := cs.map fun x => (Value.ref (He.ga X.K x), decide (c = x))) (tp := h3.objs.size) (J3.kIn.keeps k5) LT (by rw [hp5, ← ht, List.map_map]; rfl) (fun z hz => by
      obtain ⟨x, hx, rfl⟩ := List.mem_map.mp hz
      exact (T c hcX).exm x (hcs x hx))
    have hany : (cs.map fun x => (Value.ref (He.ga X.K x), decide (c = x))).any (·.2) = true := by
      rw [List.any_map, List.any_eq_true]
      exact ⟨c, hcs', by simp⟩
    rw [hany] at LM
    refine LM.here ?_
    show codeAny _ _ _ _ _
    refine codeAny_handlers_suite_as ?_
    refine HandSPX.lands_againZ fl5 fun h4 fl4 up4 => ?_
    have J4 : Inv X pins σ' H' { s' with heap := h4 } := J.landed nb fl4.1 (up5.trans up4) os ag
    obtain ⟨oe4, vs4, he4, hz4, hd4⟩ := fl4.there
    have S4 := J4.suite he4 hd4 na nL nF
    refine store_ok (X := X.suite a ((a, oe4) :: (X.pn ++ pins))) (v := .ref a) S4 hN hi (.inl hln) rfl (fun s5 S5 => ?_) (.inr hln)
    have hpv : PE (X.suite a ((a, oe4) :: (X.pn ++ pins))) (.Name n p2) (tVar i) := pv i hi (.inl hln) hd1 hd2
    have hps : PSs (X.suite a ((a, oe4) :: (X.pn ++ pins))) [.Assign [.Name y p1] (.Name n p2) p3] _ := pss_one (ps_set hN hj (.inl hly) hpv hsw (.inr hly))
    have hi' : i < σ'.length := by rw [J.len]; exact (List.getElem?_eq_some_iff.mp hi).1
    refine wpAny_mono (hps.run [] s5 _ H' { nx := fun σ6 H6 => σ6 = (σ'.set i (some (V.ref a))).set j (some (V.ref a)) ∧ H6 = H', rt := fun _ _ => False, bk := fun _ _ => False, ct := fun _ _ => False } S5 ⟨_, by rw [List.getElem?_set_self hi'], ⟨rfl, rfl⟩⟩) (fun f s6 hsp => ?_) (fun _ _ z => False.elim z)
    cases f with
    | brk => obtain ⟨σ6, H6, S6, q6⟩ := hsp; exact q6.elim
    | cont => obtain ⟨σ6, H6, S6, q6⟩ := hsp; exact q6.elim
    | ret u => obtain ⟨v6, σ6, H6, S6, r6, q6⟩ := hsp; exact q6.elim
    | next =>
      obtain ⟨σ6, H6, S6, rfl, rfl⟩ := hsp
      have pa := (S6.pin (a, oe4) (List.mem_append_left _ (List.mem_cons_self ..))).1
      have J6 := inv_keepX (C := He.ga X.K c) (S6.unsuite ok) pa hz4 hd4 na nL aP a0
      refine gone_ok J6 hN hi hln fun s7 J7 => ⟨_, _, J7, ?_⟩
      have e : ((σ'.set i (some (V.ref a))).set j (some (V.ref a))).set i none = (σ'.set j (some (V.ref a))).set i none := by
        rw [List.set_comm _ _ hij, List.set_set]
      rw [e]
      exact hw a na
end
end PD
end
section
namespace PD
open PySem L2
variable [XLs]
section
variable {K : Frag} {own : List Nat} {P : Pm} {F0 H0 F : Hp} {σ : L2.St} {H : Hp} {δ : Env}
theorem RS.clear {i : Nat} (r : RS K own P F0 H0 F σ H δ) (hi : i ∉ own) : RS K own P F0 H0 F (σ.set i none) H (δ.set i none) where
  ff := r.ff
  fh := r.fh
  hh := r.hh
  dm := r.dm
  nw := r.nw
  ln := by rw [List.length_set, List.length_set, r.ln]
  bxh := r.bxh
  par := fun a h => ⟨(r.par a h).1, by rw [List.getElem?_set_ne (fun e => hi (by rw [e]; exact (r.par a h).1))]; exact (r.par a h).2⟩
  val := fun j d' hj e => by
    by_cases h : i = j
    · subst h
      rw [List.getElem?_set] at e
      split at e
      · split at e <;> cases e
      · exact absurd rfl (by assumption)
    · rw [List.getElem?_set_ne h] at e ⊢
      exact r.val j d' hj e
  own := by
    obtain ⟨fp, h1, h2⟩ := r.own
    refine ⟨fp, fun j d' hj e => ?_, h2⟩
    have h : i ≠ j := fun h => hi (by rw [h]; exact hj)
    rw [List.getElem?_set_ne h] at e ⊢
    exact h1 j d' hj e
end
section
variable {X : Cx} {own : List Nat}
def stry (cs : List Str) (i j : Nat) (f : Env → RO) : Env → RO := fun δ => match f δ with
  | some (.error (x, δ')) => if x.cls ∈ XL ∧ x.cls ∈ cs then some (.ok (.nx, (δ'.set j (some (.exc x.cls x.fs))).set i none)) else none
  | r => r
theorem js_try {i j : Nat} {n y file : Str} {body : List Stmt} {es : List Expr} {cs : List Str} {kk : Nat} {tp p1 p2 p3 p4 pos pos' : Pos} {g : Env → RO} (T : XAll X.K X.mg file) (hN : X.N.Nodup) (hes : XNames X es cs) (h : ∀ (pn : List (Addr × Obj)) (xe : Value → Shared → Prop), JSs (X.tr pn xe) own body g)
    (hi : X.N[i]? = some n := by rfl) (hj : X.N[j]? = some y := by rfl) (hij : i ≠ j := by decide) (hln : X.env.kindOf n = some .local := by rfl) (hly : X.env.kindOf y = some .local := by rfl) (oi : i ∉ own := by decide) (oj : j ∉ own := by decide)
    (hsw : swapsWith (.Name n p2) (some (.Name y p1)) p3.line X.env = pure false := by rfl) (hd1 : (n == ("__debug__" : Str)) = false := by decide) (hd2 : (n == ("__classdict__" : Str)) = false := by decide) (hlen : cs.length ≤ 100 := by decide)
    (hs : X.stack = X.env :: X.outer := by rfl) (hf : X.env.frame = some X.env.locals := by rfl) (hex : X.ex = [] := by rfl) :
    JS X own (.Try body [.ExceptHandler (some (.Tuple es kk tp)) (some n) [.Assign [.Name y p1] (.Name n p2) p3] pos'] [] [] pos) (stry cs i j g) := ⟨fun {P F0 H0 σ F H δ W o D} _ r tk hg hP => by
  refine ws_try (p4 := p4) T.cls hes.in_ hs hf hex hN hi hj hij hln hly hes hd1 hd2 hlen hsw fun pn xe tk' _ => ?_
  unfold stry at hg
  cases e : g δ with
  | none => rw [e] at hg; cases hg
  | some q =>
    cases q with
    | ok q =>
      rw [e] at hg
      cases hg
      obtain ⟨o1, δ1⟩ := q
      cases o1 <;> exact (h pn xe).run (X := X.tr pn xe) r tk' e hP
    | error q =>
      obtain ⟨x, δ'⟩ := q
      rw [e] at hg
      dsimp only at hg
      split at hg
      · rename_i hc
        cases hg
        refine (h pn xe).run (X := X.tr pn xe) r tk' e fun cls dd σ' F' H' r' e' rx => ⟨x.cls, hc.1, hc.2, rx.cls, fun a ha => ?_⟩
        obtain ⟨vs, hx, rf⟩ := rx.fs
        have nF : F' a = none := none_back r'.fh ha
        have r2 := r'.grow (.new (o := exH (He.ga X.K x.cls) dd a) r'.fh ha)
        exact hP _ _ _ ((r2.set oj (.exc upd_same (hx.mono (Ex.new nF)) (rf.mono (Ex.new nF)))).clear oi) (e'.trans (Ex.new nF))
      · cases hg⟩
end
end PD
end
section
namespace PD
open PySem L2
variable [XLs]
section
open PySem.Spec PyProof.Rows
variable {X : Cx}
def KitV (X : Cx) (H : Hp) (x : V) (t : Value) : Prop := ∀ (pins : List (Addr × Obj)) (σ : L2.St) (s : Shared) (u : Value), Inv X pins σ H s → RelV x u → ∃ P : Heap → Prop, PySem.W.KitX X.K u t P ∧ P s.heap ∧ u ≠ .builtin "__main__.__loader__#opaque"
def rIsG (X : Cx) : List V → Hp → VK → Prop := fun xs H Q => ∃ (x c : V) (t u : Value) (b : Bool), xs = [x, c] ∧ ClsV c u ∧ KitV X H x t ∧ PySem.W.kitOne X.K t u = some b ∧ Q (.bl b) H
theorem call_isG : CallR X (.builtin "isinstance") (rIsG X) := by
  intro pins s σ H xs us Q I r h
  obtain ⟨x, c, t, u, b, rfl, k, kv, e, q⟩ := h
  cases r with
  | cons r1 r => cases r with
    | cons r2 r =>
      cases r
      cases k.eq r2
      obtain ⟨P, Z, p, hx⟩ := kv pins σ s _ I r1
      exact PySem.W.kia_one Z I.kIn p e hx fun tk => ⟨.bl b, H, I.tok tk, rfl, q⟩
theorem kitV_non {H : Hp} : KitV X H .non (.type "NoneType") := fun pins σ s u I r => kit_of I r (.base .non)
theorem exH_at {H : Hp} {h : Heap} {a C : Addr} {dd : Option Addr} {P : Program} {w : World} (x : HOk P w H h) (e : H a = some (exH C dd a)) : ∃ (oe : Obj) (vs : Array Value), h.get? a = some oe ∧ Zc (.ref C) dd oe ∧ oe.data = .fields vs := by
  have z : ObjOk P w H h a (.ext _) := x a _ e
  exact z.1
theorem exH_inst {H : Hp} {h : Heap} {a C : Addr} {dd : Option Addr} {fs : List (Str × V)} {P : Program} {w : World} (x : HOk P w H h) (e : H a = some (exH C dd a)) (hx : XDd H dd fs) :
    ∃ oe od, PySem.W.InstAt h a oe C od ∧ (∀ g, match od with | none => fs = [] | some o => ∃ m : Option Value, PySem.W.lookIn g o = some m ∧ RelO (fs.lookup g) m) := by
  obtain ⟨oe, vs, h1, h2, h3⟩ := exH_at x e
  have nc : PySem.W.notCls oe = true := by unfold PySem.W.notCls; rw [h3]
  rcases hx with ⟨rfl, rfl⟩ | ⟨d, rfl, hd⟩
  · exact ⟨oe, none, ⟨h1, h2.1, nc, by rw [h2.2]; trivial⟩, fun g => rfl⟩
  · obtain ⟨mA, hns, hr⟩ := (show ObjOk P w H h d (.xd fs) from x d _ hd)
    obtain ⟨od, ho, hl⟩ := lookIn_ns hns
    exact ⟨oe, some od, ⟨h1, h2.1, nc, by rw [h2.2]; exact ho⟩, fun g => ⟨mA g, hl g, hr g⟩⟩
theorem kitV_exc {H : Hp} {a : Addr} {c : Str} {dd : Option Addr} {fs : List (Str × V)} (T : XCls X.K X.mg c) (e : H a = some (exH (He.ga X.K c) dd a)) (hx : XDd H dd fs) : KitV X H (.ref a) (.ref (He.ga X.K c)) := fun pins σ s u I r => by
  cases r
  obtain ⟨oe, od, hi, _⟩ := exH_inst I.hok e hx
  exact ⟨_, PySem.W.kitx_exc T.cl T.ga T.gt T.ex T.cc T.cg T.ct T.co, hi, fun z => nomatch z⟩
def XB3 : List Str := ["ValueError", "LookupError", "RuntimeError"]
def bn (c : Str) : String := if c = ("ValueError" : Str) then "ValueError" else if c = ("LookupError" : Str) then "LookupError" else "RuntimeError"
def isX1 (c : Str) : D → Option Bool
  | .exc k _ => if k ∈ XL then (if c ∈ XL then some (decide (k = c)) else if c ∈ XB3 then some (decide (xBase k = c)) else none) else none
  | .non => if c ∈ XL ∨ c ∈ XB3 then some false else none
  | _ => none
def isXs : List Str → D → Option Bool
  | [], _ => some false
  | c :: cs, d => (isX1 c d).bind fun b => (isXs cs d).bind fun b' => some (b || b')
noncomputable def clU (K : Frag) (c : Str) : Value := if c ∈ XL then .ref (He.ga K c) else .type (bn c)
noncomputable def clV (K : Frag) (c : Str) : V := if c ∈ XL then .ref (He.ga K c) else .ty (bn c)
theorem clVU (K : Frag) (c : Str) : ClsV (clV K c) (clU K c) := by
  unfold clV clU
  split
  · exact .own _
  · exact .ty _
noncomputable def tyD (K : Frag) : D → Value
  | .exc k _ => .ref (He.ga K k)
  | _ => .type "NoneType"
theorem kitV_of {F H : Hp} {v : V} {d : D} {c : Str} {b : Bool} (T : ∀ c ∈ XL, XCls X.K X.mg c) (e : Ex F H) (r : Rep X.K F v d) (h : isX1 c d = some b) : KitV X H v (tyD X.K d) := by
  cases r <;> (try (cases h; done))
  case non => exact kitV_non
  case exc a dd k fs ds h1 h2 hr =>
    unfold isX1 at h
    dsimp only at h
    split at h
    · rename_i hk
      exact kitV_exc (T _ hk) (e _ _ h1) (h2.mono e)
    · cases h
theorem kit_isX1 {c : Str} {d : D} {b : Bool} {mg : Str → Option Value} {K : Frag} (T : ∀ c ∈ XL, XCls K mg c) (h : isX1 c d = some b) : PySem.W.kitOne K (tyD K d) (clU K c) = some b := by
  unfold isX1 at h
  split at h
  · rename_i k fs
    split at h
    · rename_i hk
      unfold clU tyD
      split at h
      · rename_i hc
        cases h
        rw [if_pos hc]
        exact (T k hk).isk c hc
      · rename_i hc
        split at h
        · rename_i hb
          cases h
          rw [if_neg hc]
          have key : Str.ofString (bn c) = c ∧ bn c ∈ (["ValueError", "LookupError", "RuntimeError"] : List String) := by
            simp only [XB3, List.mem_cons, List.not_mem_nil, or_false] at hb
            rcases hb with rfl | rfl | rfl <;> exact ⟨by decide, by decide⟩
          rw [(T k hk).isb (bn c) key.2, key.1]
        · cases h
    · cases h
  · split at h
    · rename_i hc
      cases h
      show PySem.W.kitOne K (.type "NoneType") (clU K c) = some false
      unfold clU
      by_cases hX : c ∈ XL
      · rw [if_pos hX]
        exact (T c hX).nn
      · rw [if_neg hX]
        unfold bn
        by_cases h1 : c = ("ValueError" : Str)
        · rw [if_pos h1]; exact kit_ty (by decide +kernel)
        · rw [if_neg h1]
          by_cases h2 : c = ("LookupError" : Str)
          · rw [if_pos h2]; exact kit_ty (by decide +kernel)
          · rw [if_neg h2]; exact kit_ty (by decide +kernel)
    · cases h
  · cases h
end
section
open PySem.Spec PyProof.Rows
variable {X : Cx} {a : Expr} {p p1 pos pt : Pos} {fa : Env → Rs D} {file : Str}
inductive XArgs (X : Cx) : List Expr → List Str → Prop
  | nil : XArgs X [] []
  | own {x : Str} {p : Pos} {es : List Expr} {xs : List Str} (r : XArgs X es xs) (hg : Gl X x := by rfl) (hc : x ∈ XL := by decide) (hdb : (x == ("__debug__" : Str)) = false := by decide) (he : starEach (.Name x p :: es) X.env = (false, eval (.Name x p) X.env) :: starEach es X.env := by rfl) : XArgs X (.Name x p :: es) (x :: xs)
  | blt {x : Str} {p : Pos} {es : List Expr} {xs : List Str} (hm : X.mg x = none) (r : XArgs X es xs) (hg : Gl X x := by rfl) (hc : x ∉ XL := by decide) (hv : bootBuiltins x = some (.type (bn x)) := by rfl) (hn : x ≠ "__name__" := by decide) (hdb : (x == ("__debug__" : Str)) = false := by decide) (he : starEach (.Name x p :: es) X.env = (false, eval (.Name x p) X.env) :: starEach es X.env := by rfl) : XArgs X (.Name x p :: es) (x :: xs)
noncomputable def tCls (K : Frag) (cs : List Str) : TA := fun _ H Q => Q (cs.map (clV K)) H
theorem xargs_pa (T : ∀ c ∈ XL, XCls X.K X.mg c) : ∀ {es : List Expr} {cs : List Str}, XArgs X es cs → PA X es (tCls X.K cs)
  | _, _, .nil => pa_nil
  | _, _, .own (x := x) r hg hc hdb he => by
    have e : clV X.K x = .ref (He.ga X.K x) := if_pos hc
    have h := pa_cons (pe_glob (v := .ref (He.ga X.K x)) hg (T x hc).g rfl hdb) (xargs_pa T r) he
    refine ⟨fun pos pins s σ H Q I q => h.run pos pins s σ H Q I ?_⟩
    show Q (.ref (He.ga X.K x) :: _) H
    rw [← e]; exact q
  | _, _, .blt (x := x) hm r hg hc hv hn hdb he => by
    have e : clV X.K x = .ty (bn x) := if_neg hc
    have h := pa_cons (pe_bltn (v := .ty (bn x)) hg hm hv rfl hn hdb) (xargs_pa T r) he
    refine ⟨fun pos pins s σ H Q I q => h.run pos pins s σ H Q I ?_⟩
    show Q (.ty (bn x) :: _) H
    rw [← e]; exact q
def visX (cs : List Str) (f : Env → Rs D) : Env → Rs D := fun δ => bind (f δ) fun x => opt ((isXs cs x).map .bl)
theorem jp_isX {c : Str} {e : Expr} (T : XAll X.K X.mg file) (hi : X.mg "isinstance" = none) (hx : XArgs X [e] [c]) (ha : JP X a fa) (hg : Gl X "isinstance" := by rfl)
    (hs1 : starEach [a, e] X.env = (false, eval a X.env) :: starEach [e] X.env := by rfl) (hpl : (backTo pos (starEach [e] X.env)).any (·.1) = false := by rfl) :
    JP X (.Call (.Name "isinstance" p) [a, e] [] pos) (visX [c] fa) := ⟨fun rp tk hg' hP =>
  we_of (pe_callB call_isG hg hi PyProof.Rows.boot_isinstance (pa_cons pe_we (xargs_pa T.cls hx) hs1) (he := hs1) (hpl := hpl)) (jp_bind ha rp tk hg' hP fun x vx F1 H1 h1 g1 rx r1 P1 => by
    obtain ⟨z, hz, rfl⟩ := opt_some h1
    simp only [Option.map_eq_some_iff] at hz
    obtain ⟨b, hb, rfl⟩ := hz
    simp only [isXs, Option.bind_eq_some_iff] at hb
    obtain ⟨b1, hb1, b2, hb2, hb3⟩ := hb
    cases hb2
    cases hb3
    rw [Bool.or_false] at P1
    exact ⟨_, _, _, _, b1, rfl, clVU X.K c, kitV_of T.cls r1.ex rx hb1, kit_isX1 T.cls hb1, P1 _ F1 H1 (.refl r1.ex) (.bl _)⟩)⟩
def attrX (f : Str) : D → Option D
  | .exc c fs => if c ∈ XL ∧ c ≠ "LastFlow" ∧ f = xFld c then fs.lookup f else none
  | _ => none
def vattrX (f : Str) (g : Env → Rs D) : Env → Rs D := fun δ => bind (g δ) fun x => opt (attrX f x)
theorem repF_look {K : Frag} {F : Hp} {f : Str} : ∀ {vs : List (Str × V)} {ds : List (Str × D)} {d : D}, RepF K F vs ds → ds.lookup f = some d → ∃ v, vs.lookup f = some v ∧ Rep K F v d
  | _, _, _, .nil, h => by cases h
  | _, _, d, .cons (k := k) hr r, h => by
    simp only [List.lookup] at h ⊢
    cases e : f == k with
    | true => rw [e] at h; cases h; exact ⟨_, rfl, hr⟩
    | false => rw [e] at h; exact repF_look r h
theorem jp_attrX {f : Str} (T : XAll X.K X.mg file) (ha : JP X a fa) (hb : attributeBase a f X.env (eval a X.env) = eval a X.env := by rfl) : JP X (.Attribute a f pos) (vattrX f fa) := ⟨fun {σ F H δ W Q o} rp tk hg' hP => by
  have key : PE X (.Attribute a f pos) (fun σ H Q => WE X a σ H fun x H1 => ∃ (b : Addr) (c : Str) (dd : Option Addr) (fs : List (Str × V)) (v : V), x = .ref b ∧ c ∈ XL ∧ c ≠ "LastFlow" ∧ f = xFld c ∧ H1 b = some (exH (He.ga X.K c) dd b) ∧ XDd H1 dd fs ∧ fs.lookup f = some v ∧ Q v H1) := by
    refine ⟨fun pins s σ H Q I h => ?_⟩
    refine attr_of hb (thn (h pins s I) fun u s1 hh => ?_)
    obtain ⟨x, H1, I1, rx, b, c, dd, fs, v, rfl, hc, hn, rfl, he, hx, hl, q⟩ := hh
    cases rx
    obtain ⟨oe, od, hi, hlk⟩ := exH_inst I1.hok he hx
    obtain ⟨B, newId, initId, xb, xt, no⟩ := T.fld c hc hn
    have tc := T.cls c hc
    have z := hlk (xFld c)
    cases od with
    | none => dsimp only at z; rw [z] at hl; cases hl
    | some o =>
      obtain ⟨m, h1, h2⟩ := z
      rw [hl] at h2
      cases m with
      | none => exact h2.elim
      | some w =>
        have ru : RelV v w := h2
        exact HandSPX.exc_get I1.kIn hi tc.ga tc.gt tc.ex (PySem.W.findObj_own tc.hd no rfl h1) (handed_of ru) ⟨v, H1, I1.tok _, ru, q⟩
  refine we_of key ?_
  exact jp_bind ha rp tk hg' hP fun x vx F1 H1 h1 g1 rx r1 P1 => by
    obtain ⟨z, hz, rfl⟩ := opt_some h1
    cases rx <;> (try (cases hz; done))
    case exc b dd c fs ds h2 h3 h4 =>
      unfold attrX at hz
      dsimp only at hz
      split at hz
      · rename_i hc
        obtain ⟨v, hv, rv⟩ := repF_look h4 hz
        exact ⟨b, c, dd, fs, v, rfl, hc.1, hc.2.1, hc.2.2, r1.ex _ _ h2, h3.mono r1.ex, hv, P1 v F1 H1 (.refl r1.ex) rv⟩
      · cases hz⟩
end
end PD
end
section
namespace PD
open PySem L2
section
variable {X : Cx}
inductive NewAt (H H' : Hp) : List Bool → List V → List D → List (Nat × Addr) → Nat → Prop
  | nil {n : Nat} : NewAt H H' [] [] [] [] n
  | old {bs : List Bool} {v : V} {vs : List V} {d : D} {ds : List D} {qs : List (Nat × Addr)} {n : Nat} (r : NewAt H H' bs vs ds qs (n + 1)) : NewAt H H' (false :: bs) (v :: vs) (d :: ds) qs n
  | new {bs : List Bool} {q : Addr} {xs : List V} {ys : List D} {vs : List V} {ds : List D} {qs : List (Nat × Addr)} {n : Nat} (h0 : H q = none) (h1 : H' q = some (.lst xs)) (hl : xs.length = ys.length) (hq : ∀ z ∈ qs, z.2 ≠ q) (r : NewAt H H' bs vs ds qs (n + 1)) :
    NewAt H H' (true :: bs) (.ref q :: vs) (.lst ys :: ds) ((n, q) :: qs) n
theorem NewAt.later {H H' H1 H2 : Hp} (e : ∀ a, H1 a = none → H a = none) (k : Ex H' H2) : ∀ {bs : List Bool} {vs : List V} {ds : List D} {qs : List (Nat × Addr)} {n : Nat}, NewAt H1 H' bs vs ds qs n → NewAt H H2 bs vs ds qs n
  | _, _, _, _, _, .nil => .nil
  | _, _, _, _, _, .old r => .old (NewAt.later e k r)
  | _, _, _, _, _, .new h0 h1 hl hq r => .new (e _ h0) (k _ _ h1) hl hq (NewAt.later e k r)
theorem NewAt.fresh {H H' : Hp} : ∀ {bs : List Bool} {vs : List V} {ds : List D} {qs : List (Nat × Addr)} {n : Nat}, NewAt H H' bs vs ds qs n → ∀ z ∈ qs, H z.2 = none
  | _, _, _, _, _, .nil, z, hz => by cases hz
  | _, _, _, _, _, .old r, z, hz => r.fresh z hz
  | _, _, _, _, _, .new h0 h1 hl hq r, z, hz => by
    rcases List.mem_cons.mp hz with rfl | hz
    · exact h0
    · exact r.fresh z hz
theorem NewAt.at {H H' : Hp} : ∀ {bs : List Bool} {vs : List V} {ds : List D} {qs : List (Nat × Addr)} {n : Nat}, NewAt H H' bs vs ds qs n → ∀ k, bs[k]? = some true → ∃ q xs ys, vs[k]? = some (.ref q) ∧ ds[k]? = some (.lst ys) ∧ (n + k, q) ∈ qs ∧ H' q = some (.lst xs) ∧ xs.length = ys.length
  | _, _, _, _, _, .nil, k, hk => by cases hk
  | _, _, _, _, n, .old r, k, hk => by
    cases k with
    | zero => cases hk
    | succ k =>
      obtain ⟨q, xs, ys, h1, h2, h3, h4⟩ := r.at k hk
      exact ⟨q, xs, ys, h1, h2, by rw [show n + (k + 1) = n + 1 + k by omega]; exact h3, h4⟩
  | _, _, _, _, n, .new h0 h1 hl hq r, k, hk => by
    cases k with
    | zero => exact ⟨_, _, _, rfl, rfl, List.mem_cons_self .., h1, hl⟩
    | succ k =>
      obtain ⟨q, xs, ys, h1, h2, h3, h4⟩ := r.at k hk
      exact ⟨q, xs, ys, h1, h2, by rw [show n + (k + 1) = n + 1 + k by omega]; exact List.mem_cons_of_mem _ h3, h4⟩
theorem NewAt.ge {H H' : Hp} : ∀ {bs : List Bool} {vs : List V} {ds : List D} {qs : List (Nat × Addr)} {n : Nat}, NewAt H H' bs vs ds qs n → ∀ z ∈ qs, n ≤ z.1
  | _, _, _, _, _, .nil, z, hz => by cases hz
  | _, _, _, _, _, .old r, z, hz => Nat.le_of_succ_le (r.ge z hz)
  | _, _, _, _, _, .new h0 h1 hl hq r, z, hz => by
    rcases List.mem_cons.mp hz with rfl | hz
    · exact Nat.le_refl _
    · exact Nat.le_of_succ_le (r.ge z hz)
theorem NewAt.inj {H H' : Hp} : ∀ {bs : List Bool} {vs : List V} {ds : List D} {qs : List (Nat × Addr)} {n : Nat}, NewAt H H' bs vs ds qs n → ∀ z ∈ qs, ∀ y ∈ qs, z.2 = y.2 → z = y
  | _, _, _, _, _, .nil, z, hz => by cases hz
  | _, _, _, _, _, .old r, z, hz => r.inj z hz
  | _, _, _, _, _, .new h0 h1 hl hq r, z, hz => fun y hy e => by
    rcases List.mem_cons.mp hz with rfl | hz
    · rcases List.mem_cons.mp hy with rfl | hy
      · rfl
      · exact absurd e.symm (hq y hy)
    · rcases List.mem_cons.mp hy with rfl | hy
      · exact absurd e (hq z hz)
      · exact r.inj z hz y hy e
theorem NewAt.there {H H' : Hp} : ∀ {bs : List Bool} {vs : List V} {ds : List D} {qs : List (Nat × Addr)} {n : Nat}, NewAt H H' bs vs ds qs n → ∀ z ∈ qs, H' z.2 ≠ none
  | _, _, _, _, _, .nil, z, hz => by cases hz
  | _, _, _, _, _, .old r, z, hz => r.there z hz
  | _, _, _, _, _, .new h0 h1 hl hq r, z, hz => by
    rcases List.mem_cons.mp hz with rfl | hz
    · rw [h1]; simp
    · exact r.there z hz
theorem bind_some {α β : Type} {x : Rs α} {k : α → Rs β} {o : Except XD β} (h : bind x k = some o) : (∃ y, x = some (.error y) ∧ o = .error y) ∨ ∃ a, x = some (.ok a) ∧ k a = some o := by
  cases x with
  | none => cases h
  | some y => cases y with
    | error y => cases h; exact .inl ⟨y, rfl, rfl⟩
    | ok y => exact .inr ⟨y, rfl, h⟩
end
section
variable {X : Cx} {C : List Nat}
end
def NApp (X : Cx) (i : Nat) (k : Nat) (st : Stmt) : Prop := ∃ y : Str, ∀ {σ : L2.St} {H : Hp} {D : Ends} {p q : Addr} {vs xs : List V}, σ[i]? = some (some (.ref p)) → H p = some (.lst vs) → vs[k]? = some (.ref q) → H q = some (.lst xs) → xs.length < sizeLine → D.nx σ (upd H q (.lst (xs ++ [.str y]))) → WS X st D σ H
inductive NApps (X : Cx) (i : Nat) : List Nat → List Stmt → Prop
  | nil : NApps X i [] []
  | cons {k : Nat} {st : Stmt} {ks : List Nat} {sts : List Stmt} (h : NApp X i k st) (r : NApps X i ks sts) : NApps X i (k :: ks) (st :: sts)
theorem NApps.all {X : Cx} {i : Nat} : ∀ {ks : List Nat} {sts : List Stmt}, NApps X i ks sts → (∀ a ∈ ks.zip sts, NApp X i a.1 a.2) ∧ (ks.zip sts).map (·.1) = ks ∧ (ks.zip sts).map (·.2) = sts
  | _, _, .nil => ⟨fun a h => (by cases h), rfl, rfl⟩
  | _, _, .cons h r => by
    obtain ⟨r1, r2, r3⟩ := r.all
    refine ⟨fun a ha => ?_, ?_, ?_⟩
    · rcases List.mem_cons.mp ha with rfl | ha
      · exact h
      · exact r1 a ha
    · rw [List.zip_cons_cons, List.map_cons, r2]
    · rw [List.zip_cons_cons, List.map_cons, r3]
end PD
end
section
namespace PD
open PySem L2
end PD
end
section
namespace PD
open PySem L2
end PD
end
section
namespace PD
open PySem L2
end PD
end
section
namespace PD
open PySem L2
end PD
end
section
namespace PD
open PySem L2
section
variable {P : Program} {w : World} {K : Frag} {mg : Str → Option Value} {base : Heap}
end
section
variable {X : Cx} {own : List Nat} {e o : Expr} {es : List Expr} {pos : Pos}
end
end PD
end
section
namespace PD
open PySem L2
section
variable {X : Cx}
variable {own : List Nat} {kx vx tg iter : Expr} {ifs : List Expr} {scope : Scope} {ow : List (Str × Nat)} {pos : Pos} {is : List Nat} {f : Env → RE (List D)} {g : D → Env → Option Env} {t : Env → RE Bool} {ek ev : Env → RE D}
end
section
open PySem PySem.Spec PyProof.Rows
def lfK : Key → Leaf
  | .inl i => .num i
  | .inr x => .text x
def lfs {β : Type} (kvs : List (Key × β)) : List (Leaf × β) := kvs.map fun kv => (lfK kv.1, kv.2)
def NdO (P : Program) (w : World) (a : Addr) (kvs : List (Key × V)) (u : V) : HO := .ext fun h => kvs.length < sizeLine ∧ (a == sysModules) = false ∧ ∃ vs z, KV kvs vs ∧ RelV u z ∧ h.DictOf (leafKind P w) a (lfs vs ++ [(Leaf.none, z)])
end
abbrev ND := List (Key × D) × Option D
def RepN (P : Program) (w : World) (K : Frag) (F : Hp) (v : V) (nd : ND) : Prop := ∃ a ks, v = .ref a ∧ RepK K F ks nd.1 ∧ match nd.2 with
  | none => F a = some (.dK ks)
  | some x => ∃ u, F a = some (NdO P w a ks u) ∧ Rep K F u x
section
open PySem PySem.Spec PyProof.Rows
def TblL (P : Program) (w : World) (H : Hp) (a : Addr) (ls : List (Leaf × V)) : Prop := (∃ ks, H a = some (.dK ks) ∧ ls = lfs ks) ∨ ∃ ks u, H a = some (NdO P w a ks u) ∧ ls = lfs ks ++ [(Leaf.none, u)]
theorem KV.lfs {ks : List (Key × V)} : ∀ {vs : List (Key × Value)}, KV ks vs → KV (PD.lfs ks) (PD.lfs vs) := fun {vs} h => by
  induction h with
  | nil => exact .nil
  | cons h t ih => exact .cons ⟨congrArg lfK h.1, h.2⟩ ih
end
def ndL (nd : ND) : List (PySem.Leaf × D) := lfs nd.1 ++ (match nd.2 with
  | none => []
  | some x => [(.none, x)])
inductive RepL (K : Frag) (F : Hp) : List (PySem.Leaf × V) → List (PySem.Leaf × D) → Prop
  | nil : RepL K F [] []
  | cons {k : PySem.Leaf} {v : V} {d : D} {vs : List (PySem.Leaf × V)} {ds : List (PySem.Leaf × D)} (h : Rep K F v d) (r : RepL K F vs ds) : RepL K F ((k, v) :: vs) ((k, d) :: ds)
theorem RepL.len {K : Frag} {F : Hp} {vs : List (PySem.Leaf × V)} {ds : List (PySem.Leaf × D)} (r : RepL K F vs ds) : vs.length = ds.length := by
  induction r with
  | nil => rfl
  | cons _ _ ih => rw [List.length_cons, List.length_cons, ih]
theorem RepK.lfs {K : Frag} {F : Hp} : ∀ {vs : List (Key × V)} {ds : List (Key × D)}, RepK K F vs ds → RepL K F (PD.lfs vs) (PD.lfs ds)
  | _, _, .nil => .nil
  | _, _, .cons h r => .cons h (RepK.lfs r)
theorem RepL.snoc {K : Frag} {F : Hp} {k : PySem.Leaf} {v : V} {d : D} {vs : List (PySem.Leaf × V)} {ds : List (PySem.Leaf × D)} (r : RepL K F vs ds) (h : Rep K F v d) : RepL K F (vs ++ [(k, v)]) (ds ++ [(k, d)]) := by
  induction r with
  | nil => exact .cons h .nil
  | cons h1 _ ih => exact .cons h1 ih
theorem RepN.mono {P : Program} {w : World} {K : Frag} {F F' : Hp} {v : V} {nd : ND} (e : Ex F F') (h : RepN P w K F v nd) : RepN P w K F' v nd := by
  obtain ⟨a, ks, rfl, h1, h2⟩ := h
  obtain ⟨kds, o⟩ := nd
  refine ⟨a, ks, rfl, h1.mono e, ?_⟩
  cases o with
  | none => exact e _ _ h2
  | some x => obtain ⟨u, h3, h4⟩ := h2; exact ⟨u, e _ _ h3, h4.mono e⟩
theorem RepN.tbl {P : Program} {w : World} {K : Frag} {F H : Hp} {v : V} {nd : ND} (e : Ex F H) (h : RepN P w K F v nd) : ∃ a ls, v = .ref a ∧ TblL P w H a ls ∧ RepL K F ls (ndL nd) := by
  obtain ⟨a, ks, rfl, h1, h2⟩ := h
  obtain ⟨kds, o⟩ := nd
  cases o with
  | none => exact ⟨a, _, rfl, .inl ⟨ks, e _ _ h2, rfl⟩, by unfold ndL; simp only [List.append_nil]; exact h1.lfs⟩
  | some x => obtain ⟨u, h3, h4⟩ := h2; exact ⟨a, _, rfl, .inr ⟨ks, u, e _ _ h3, rfl⟩, h1.lfs.snoc h4⟩
section
variable {X : Cx} {a b : Expr} {pos : Pos} {k : Nat}
end
section
variable {X : Cx} {own : List Nat}
end
section
variable {P : Program} {w : World} {K : Frag} {mg : Str → Option Value} {base : Heap}
end
end PD
end
section
namespace PD
open PySem L2
section
open PySem.W HandSHeadRun
end
end PD
end
section
namespace PD
open PySem L2
section
variable {K : Frag} {own : List Nat} {P : Pm} {F0 H0 F : Hp} {σ : L2.St} {H : Hp} {δ : Env}
end
end PD
end
section
namespace PD
open PySem L2
section
variable {X : Cx} {e : Expr} {p apos cpos pos : Pos}
end
end PD
end
section
namespace PD
open PySem L2
section
open PySem PySem.Spec PySem.Calls PyProof.Rows PySem.W
section
variable {prog : Program} {w : World} {A : Around} {E : Value → Shared → Prop} {s : Shared}
theorem sorted_of_sortTk {l : Addr} {vs : List Value} {kw : List (Str × Value)} {Q : Value → Shared → Prop} (hl : IsTup s.heap l vs.toArray) (hL : vs.length ≤ sizeLine) (ha1 : argsOk "sorted" ⟨[.ref l], kw⟩) (ha2 : ∀ x, argsOk "list.sort" ⟨[.ref x], kw⟩)
    (body : ∀ E' : Value → Shared → Prop, wpAny (model prog w) A.in1.in1 (Builtin.«list.sort» ⟨[.ref (s.heap.objs.size + 1)], kw⟩) (fun f s' => f = .done (.ret .none) ∧ Q (.ref (s.heap.objs.size + 1)) s') E' { s with heap := copyHeap s.heap vs }) :
    wpAny (model prog w) A (call (.builtin "sorted") [.ref l] kw) Q E s := by
  refine call_function_entry_kw kind_sorted plain_sorted entry_sorted ha1 ?_
  unfold Builtin.«sorted»
  refine wpAny_bind (m := checkCount "sorted" 1 1 _) (wpAny_pure ?_)
  refine wpAny_bind (collect_tup hl ?_ hL)
  refine wpAny_bind (wpAny_newList ?_ hL)
  have hsz : ((s.heap.push (seqObj "list" #[] 0)).update s.heap.objs.size (Obj.mapSeq (· ++ vs.toArray))).objs.size = s.heap.objs.size + 1 := by
    rw [Heap.size_update, size_push']
  show wpAny _ _ _ _ _ { s with heap := copyHeap s.heap vs }
  rw [hsz]
  refine wpAny_bind (wpAny_holding (wpAny_call_entry_kw slot_list_sort ⟨_, copyHeap_at s.heap vs, rfl⟩ entry_list_sort ?body (ha2 _)))
  case body =>
    show wpAny (model prog w) A.in1.in1 (Builtin.«list.sort» ⟨[.ref (s.heap.objs.size + 1)], kw⟩) _ _ _
    refine wpAny_mono (body _) (fun f s' hf => ?_) fun _ _ e => e
    obtain ⟨rfl, hq⟩ := hf
    exact ⟨_, rfl, wpAny_pure ⟨_, rfl, hq⟩⟩
theorem sortedT_key_data {β : Type} {vs : List Value} {bs : List β} {R : Value → β → Prop} {l : Addr} {f : Value} {kw : List (Str × Value)} {b : Bool} {Q : Value → Shared → Prop} (k : β → PyData) (hl : IsTup s.heap l vs.toArray) (e : EachIs R vs bs) (hal : AllAlike (bs.map k)) (hk : Sortable (bs.map k)) (hL : bs.length ≤ sizeLine)
    (hu : ∀ x, x ∈ bs → A.units + 2 + (k x).depth < cLine) (ha1 : argsOk "sorted" ⟨[.ref l], kw⟩) (ha2 : ∀ x, argsOk "list.sort" ⟨[.ref x], kw⟩) (ht : ∀ x, Builtin.«list.sort» ⟨[.ref x], kw⟩ = ksk_tree x f b)
    (turn : ∀ (v : Value) (x : β), R v x → x ∈ bs → ∀ (h : Heap) (tk : Nat), (∀ b o, s.heap.get? b = some o → h.get? b = some o) →
      wpAny (model prog w) A.in1.in1 (call f [v]) (KeyPure (k x) { s with heap := h, toks := tk }) (fun _ _ => False) { s with heap := h, toks := tk })
    (h : ∀ out c h' tk, (∀ b o, s.heap.get? b = some o → h'.get? b = some o) → s.heap.get? (s.heap.objs.size + 1) = none → h'.get? (s.heap.objs.size + 1) = some (seqObj "list" (List.toArray out) c) → out.length = bs.length → EachIs R out (bs.mergeSort (dataLe b k)) →
      Q (.ref (s.heap.objs.size + 1)) { s with heap := h', toks := tk }) :
    wpAny (model prog w) A (call (.builtin "sorted") [.ref l] kw) Q E s := by
  have fresh : s.heap.get? (s.heap.objs.size + 1) = none := Heap.get?_none_of_le (Nat.le_succ _)
  have up : ∀ {g : Heap}, KeepsBut (s.heap.objs.size + 1) (copyHeap s.heap vs) g → ∀ b o, s.heap.get? b = some o → g.get? b = some o := fun {g} kp b o q =>
    kp b o (Nat.ne_of_lt (Nat.lt_succ_of_lt (Heap.lt_size q))) (copyHeap_old q)
  refine sorted_of_sortTk hl (by rw [e.length]; exact hL) ha1 ha2 fun E' => ?_
  rw [ht]
  refine keyH_tree (kz := bs.map k) (s := { s with heap := copyHeap s.heap vs }) (copyHeap_at s.heap vs) (by rw [List.length_map]; exact e.length.symm) (by rw [e.length]; exact hL) hal hk (bound_map (A := A.in1.in1) hu)
    (keyH_turns (s := { s with heap := copyHeap s.heap vs }) e fun v x hR hx h tk kp => turn v x hR hx h tk (up kp)) fun h' tk out c kp hD ko => ⟨rfl, ?_⟩
  exact h out c h' tk (up kp) fresh hD ((ko.length (by rw [List.length_map]; exact e.length.symm)).trans e.length) (keyedOut_each k ko e)
theorem lam_row {f c' t : Addr} {q row : Str} {params : Arguments} {scope : Scope} {pm ctv x : Value} {j : Nat} {p1 p2 p3 : Pos} {its : List Value} {Q : Value → Shared → Prop}
    (hf : s.heap.get? f = some (kla_obj "<lambda>" q params (.Subscript (.Name row p1) (.Constant (.int 0) j p2) p3) scope [] pm c' ctv)) (hc : s.heap.CodeRec (.ref c') q) (hroom : A.depth < recursionLimit) (lim : s.heap.NoLimit)
    (hb : bindArgs (kla_fn "<lambda>" q params (.Subscript (.Name row p1) (.Constant (.int 0) j p2) p3) scope [] pm (.ref c') ctv) ⟨[.ref t], []⟩ = pure [(row, .ref t)])
    (ks : scope.kind = .function) (co : scope.isCoroutine = false) (gen : scope.isGenerator = false) (nc : ∀ y ∈ scope.names, y.2 ≠ .cell) (lr : scope.names.lookup row = some .local)
    (ht : IsTup s.heap t its.toArray) (hx : its[0]? = some x) (h : ∀ h' tk, (∀ b o, s.heap.get? b = some o → h'.get? b = some o) → Q x { s with heap := h', toks := tk })
    (hd : (row == ("__debug__" : Str)) = false := by decide) : wpAny (model prog w) A (call (.ref f) [.ref t]) Q E s := by
  refine wpAny_call (kla_callFunE hroom hf rfl co gen rfl hc ?_)
  rw [hb]
  refine wpAny_pure (wpAny_newFunctionEnv nc (fun y hy => by cases List.mem_singleton.1 hy; exact lr) (fun h₁ hns hsb => ⟨lim.fresh _ hsb, ?_⟩) ks)
  have kp : ∀ b o, s.heap.get? b = some o → h₁.get? b = some o := fun b o e => hsb.extBut b o (Nat.ne_of_lt (Heap.lt_size e)) (Heap.get?_push_of_some _ e)
  refine kla_codeExpr (Subscript_ (wpAny_Name (wpAny_loadName_local ks lr hns (v := .ref t) (by simp) ?_) hd))
  refine wpAny_Constant_int ?_
  have ht' : IsTup h₁ t its.toArray := by
    obtain ⟨o, ho, r⟩ := ht
    exact ⟨o, kp _ _ ho, r⟩
  have hl : 0 < its.length := (List.getElem?_eq_some_iff.1 hx).1
  have hj : seqIndex? 0 its.length = some 0 := by
    unfold seqIndex?
    simp
    exact fun z => by rw [z] at hl; cases hl
  exact item_tupleL (j := 0) ht' (by decide) (by decide) hj hx (h _ _ kp)
end
def unO : HO := .ext fun _ => True
section
variable {X : Cx} {pins : List (Addr × Obj)} {σ : L2.St} {H F : Hp} {s : Shared}
theorem lam_makeO {c P : Addr} {q : Str} {params : Arguments} {body : Expr} {scope : Scope} {pos : Pos} {E : Value → Shared → Prop} {Q : Value → Shared → Prop} (I : Inv X pins σ H s) (TB : LamX.TabB X.base X.mg c P) (hcode : X.env.code = .ref c)
    (hq : X.env.qual ++ "<lambda>" = q) (e : Ex F H) (hFP : F P = none) (t : TabO F H P q) (hdef : defaultsOf params X.env = ([], [])) (hnf : ∀ y ∈ scope.names, y.2 ≠ .free) (hclo : cloFrom X.env.cells scope.names [] = [])
    (h : ∀ (f c' : Addr) (pm ctv : Value) (F1 H1 : Hp) (s' : Shared), Inv X pins σ H1 s' → GrowB P F H F1 H1 → TabO F1 H1 P q →
      H1 f = some (.frz (kla_obj "<lambda>" q params body scope [] pm c' ctv) unO) → F1 c' = some (LamX.CodeO c' q) → Q (.ref f) s') :
    wpAny (model X.prog X.w) X.A (eval (.Lambda params body scope pos) X.env) Q E s := by
  obtain ⟨ps, hP, ht, ha⟩ := t
  have hcl : closureFor scope X.env = pure [] := by
    rw [closure_ok fun y hy z => absurd z (hnf y hy), hclo]
  refine kla_eval hdef ?_
  rw [hq]
  have bP : s.heap.BuiltinsAt X.mg P := TB.bm.keeps I.bk
  have hP' : s.heap.get? P = some { cls := .none, data := .fields ps } := I.hok P _ hP
  have newF : ∀ {H1 : Hp} {h' : Heap} {o : Obj}, o.isFreed = false → ObjOk X.prog X.w (upd H1 h'.objs.size (.frz o unO)) (h'.push o) h'.objs.size (.frz o unO) := fun {H1 h' o} fr =>
    ⟨Heap.get?_push_size _ fr, trivial, ⟨_, Heap.get?_push_size _ fr⟩, fun _ _ _ _ => trivial⟩
  cases hc : codeAmong pos ps.toList with
  | none =>
    refine kla_makeFunction (mg := X.mg) (c := c) (P := P) (ps := ps) hcl I.ok.glob (I.mod.glob.keeps I.bk) hcode (TB.code.keeps I.bk) hP' ht hc TB.gP bP fun c' ctv h' tk hx hge hlt hrec htb => ?_
    obtain ⟨c2, oc, vs, t, e2, hoc, hd, hv⟩ := hrec
    cases e2
    have nC : H c' = none := I.hok.fresh hge
    have nCF : F c' = none := none_back e nC
    have nPc : P ≠ c' := ne_of_none hP nC
    have I1 := LamX.inv_table (t' := tk) (more := #[rawInt pos.line, rawInt pos.col, .ref c']) (h' := h') I hP (fun b o hb e => hx b o hb e) htb hge ⟨oc, vs, t, hoc, hd, hv⟩
    have nf : upd (upd H P (.tbl (ps ++ #[rawInt pos.line, rawInt pos.col, .ref c']))) c' (LamX.CodeO c' q) h'.objs.size = none := I1.hok.fresh (Nat.le_refl _)
    have I2 := I1.laid (t' := tk) (h' := h'.push (kla_obj "<lambda>" q params body scope [] ((X.mg "__name__").getD .none) c' ctv)) (fun _ _ e => Heap.get?_push_of_some _ e) (Nat.le_refl _) (newF rfl)
    have hHf : H h'.objs.size = none := by
      cases q0 : H h'.objs.size with
      | none => rfl
      | some o =>
        have z : s.heap.objs.size ≤ h'.objs.size := Nat.le_trans hge (Nat.le_of_lt hlt)
        rw [I.hok.fresh z] at q0; cases q0
    have nfc : h'.objs.size ≠ c' := Nat.ne_of_gt hlt
    have nfP : h'.objs.size ≠ P := fun z => by rw [z, hP] at hHf; cases hHf
    have eL : (ps ++ #[rawInt pos.line, rawInt pos.col, .ref c']).toList = ps.toList ++ [rawInt pos.line, rawInt pos.col, .ref c'] := by simp
    have ef : Ex F (upd F c' (LamX.CodeO c' q)) := Ex.new nCF
    refine h h'.objs.size c' ((X.mg "__name__").getD .none) ctv (upd F c' (LamX.CodeO c' q)) _ _ I2 ⟨ef, fun a o h1 => ?_, fun a o hne h1 => ?_, fun a h1 => ?_, ?_⟩ ?_ upd_same upd_same
    · by_cases z : a = c'
      · rw [z, upd_same] at h1
        rw [z, upd_ne (Ne.symm nfc), upd_same]; exact h1
      · rw [upd_ne z] at h1
        have hne : a ≠ P := fun y => by rw [y, hFP] at h1; cases h1
        have hH := e _ _ h1
        have hnf2 : a ≠ h'.objs.size := ne_of_none hH hHf
        rw [upd_ne hnf2, upd_ne z, upd_ne hne]; exact hH
    · have z : a ≠ c' := ne_of_none h1 nC
      have hnf2 : a ≠ h'.objs.size := ne_of_none h1 hHf
      rw [upd_ne hnf2, upd_ne z, upd_ne hne]; exact h1
    · exact (upd_ne_none h1).imp id fun z => by rw [z]; exact nC
    · rw [upd_ne nPc]; exact hFP
    · refine ⟨_, by rw [upd_ne (Ne.symm nfP), upd_ne nPc, upd_same], by rw [eL]; exact PySem.TriplesOk_snoc _ _ _ _ ht, fun p' cv hcv => ?_⟩
      rw [eL] at hcv
      rcases LamX.among_app _ ht hcv with z | z
      · obtain ⟨c0, e1, e2⟩ := ha p' cv z
        exact ⟨c0, e1, ef _ _ e2⟩
      · exact ⟨c', z, upd_same⟩
  | some cv =>
    obtain ⟨c', ec, hco⟩ := ha pos cv hc
    subst ec
    refine kla_makeFunctionHit (mg := X.mg) (c := c) (P := P) (ps := ps) hcl I.ok.glob (I.mod.glob.keeps I.bk) hcode (TB.code.keeps I.bk) hP' ht hc bP fun ctv h' tk hx hsz => ?_
    have I1 : Inv X pins σ H { s with heap := h', toks := tk } := I.kept fun b o e => hx b o e
    have nf : H h'.objs.size = none := I1.hok.fresh (Nat.le_refl _)
    have I2 := I1.laid (t' := tk) (h' := h'.push (kla_obj "<lambda>" q params body scope [] ((X.mg "__name__").getD .none) c' ctv)) (fun _ _ e => Heap.get?_push_of_some _ e) (Nat.le_refl _) (newF rfl)
    exact h h'.objs.size c' ((X.mg "__name__").getD .none) ctv F _ _ I2 ⟨Ex.refl _, fun a o h1 => Ex.new nf _ _ (e _ _ h1), fun a o _ h1 => Ex.new nf _ _ h1, fun a h1 => .inl h1, hFP⟩
      ⟨ps, Ex.new nf _ _ hP, ht, fun p' cv' hcv => ha p' cv' hcv⟩ upd_same hco
end
theorem RS.tabbed {K : Frag} {own : List Nat} {P : Pm} {F0 H0 F F' H' : Hp} {σ : L2.St} {H : Hp} {δ : Env} {i : Nat} {x : Str} (r : RS K own P F0 H0 F σ H δ) (hi : i ∈ own) (h : δ[i]? = some (some (.fn x))) (g : GrowB (tabA K x) F H F' H') (t : TabO F' H' (tabA K x) (lamQ x)) : RS K own P F0 H0 F' σ H' δ := by
  obtain ⟨fp, h1, h2, h3⟩ := r.own
  obtain ⟨v, hv, o⟩ := h1 i _ hi h
  obtain ⟨ps, hH, _, _⟩ := id t
  have hfp : fp i = [tabA K x] ∧ v = .ref (He.ga K x) := by
    generalize fp i = g at o
    cases o with
    | tab _ => exact ⟨rfl, rfl⟩
  obtain ⟨hfp, rfl⟩ := hfp
  have hpi : tabA K x ∈ fp i := by rw [hfp]; exact List.mem_singleton.2 rfl
  obtain ⟨a1, a2, a3⟩ := h2 i _ hpi
  exact {
    ff := r.ff.trans g.ff
    fh := g.fh
    hh := fun a q n e => by
      have : a ≠ tabA K x := fun z => by
        subst z
        exact a3.elim (fun z => by rw [z] at e; cases e) fun z => n z.1
      exact g.hh a q this (r.hh a q n e)
    dm := fun a e => by
      by_cases z : a = tabA K x
      · subst z; rw [hH]; simp
      · cases e2 : H a with
        | none => exact absurd e2 (r.dm a e)
        | some o => rw [g.hh a o z e2]; simp
    nw := fun a e => (g.nw a e).elim (r.nw a) fun z => .inr (by
      cases e0 : H0 a with
      | none => rfl
      | some o => exact absurd z (r.dm a (by rw [e0]; simp)))
    ln := r.ln
    par := r.par
    bxh := r.bxh
    val := fun j d hj e => by
      obtain ⟨w, hw, rw'⟩ := r.val j d hj e
      exact ⟨w, hw, rw'.mono g.ff⟩
    own := by
      refine ⟨fp, fun j d hj e => ?_, fun j a ha => ?_, h3⟩
      · by_cases q : i = j
        · subst q
          rw [h] at e; cases e
          exact ⟨_, hv, by rw [hfp]; exact .tab t⟩
        · obtain ⟨w, hw, ow⟩ := h1 j d hj e
          exact ⟨w, hw, ow.keep g.ff fun a ha o e => g.hh a o (fun z : a = tabA K x => h3 i j (tabA K x) q hpi (z ▸ ha)) e⟩
      · obtain ⟨b1, b2, b3⟩ := h2 j a ha
        by_cases z : a = tabA K x
        · subst z; exact ⟨g.np, by rw [hH]; simp, b3⟩
        · refine ⟨?_, ?_, b3⟩
          · cases q : F' a with
            | none => rfl
            | some o => exact ((g.nw a (by rw [q]; simp)).elim (fun z => absurd b1 z) fun z => absurd z b2)
          · cases q : H a with
            | none => exact absurd q b2
            | some o => rw [g.hh a o z q]; simp }
theorem RS.tab_at {K : Frag} {own : List Nat} {P : Pm} {F0 H0 F : Hp} {σ : L2.St} {H : Hp} {δ : Env} {i : Nat} {x : Str} (r : RS K own P F0 H0 F σ H δ) (hi : i ∈ own) (h : δ[i]? = some (some (.fn x))) : TabO F H (tabA K x) (lamQ x) ∧ F (tabA K x) = none := by
  obtain ⟨fp, h1, h2, h3⟩ := r.own
  obtain ⟨v, hv, o⟩ := h1 i _ hi h
  have hfp : fp i = [tabA K x] ∧ TabO F H (tabA K x) (lamQ x) := by
    generalize fp i = g at o
    cases o with
    | tab t => exact ⟨rfl, t⟩
  exact ⟨hfp.2, (h2 i _ (by rw [hfp.1]; exact List.mem_singleton.2 rfl)).1⟩
end
section
open PySem PySem.Spec PySem.Calls PyProof.Rows PySem.W
def rowK : D → Str
  | .tup (.str k :: _) => k
  | _ => default
def isKey : D → Bool
  | .tup (.str _ :: _) => true
  | _ => false
def leK : D → D → Bool := dataLe false fun d => PyData.str (rowK d)
theorem leK_total : TotalLe leK := sortLe_total (PyProof.Rows.listOrd PyProof.Rows.itemOrd) false fun b => keyToks (PyData.str (rowK b))
def sortKD (xs : List D) : Option (List D) := if xs.all isKey then some (isort leK xs) else none
variable {X : Cx}
theorem each_key {pins : List (Addr × Obj)} {σ : L2.St} {H F : Hp} {s : Shared} (I : Inv X pins σ H s) (e : Ex F H) : ∀ {ws : List V} {ds : List D} {us : List Value}, Reps X.K F ws ds → Vals ws us → ds.all isKey = true →
    EachIs (fun (u : Value) (z : V × D) => RelV z.1 u ∧ ∃ (a : Addr) (its : List Value) (t : Tok), u = .ref a ∧ IsTup s.heap a its.toArray ∧ its[0]? = some (.str (rowK z.2) t)) us (ws.zip ds)
  | _, _, _, .nil, .nil, _ => .nil
  | _, _, _, .cons (v := v) (d := d) hd r, .cons hu ru, hk => by
    rw [List.all_cons, Bool.and_eq_true] at hk
    refine .cons ⟨hu, ?_⟩ (each_key I e r ru hk.2)
    have h1 := hk.1
    unfold isKey at h1
    split at h1
    · rename_i k rest
      cases hd with
      | @tup a vs _ hs rs =>
        cases rs with
        | cons r0 rr =>
          cases r0
          obtain ⟨its, rv, p, _⟩ := I.tuple (ex_t e hs)
          obtain ⟨u0, hu0, ru0⟩ := rv.get (i := 0) rfl
          obtain ⟨t, rfl⟩ := ru0
          exact ⟨a, its, t, hu, p, hu0⟩
    · cases h1
theorem sorted_lam {n : Nat} {F H : Hp} {pins : List (Addr × Obj)} {σ : L2.St} {s : Shared} {f c' a : Addr} {q row : Str} {params : Arguments} {scope : Scope} {pm ctv : Value} {j : Nat} {p1 p2 p3 : Pos} {ws : List V} {ds : List D} {Q : VK}
    (hcalm : X.calm = true) (hr : Room (n + 2) X.A) (hu : X.A.units + 70 < cLine) (I : Inv X pins σ H s) (e : Ex F H) (hs : SqT X.K H a ws) (rs : Reps X.K F ws ds) (hk : ds.all isKey = true)
    (hf : H f = some (.frz (kla_obj "<lambda>" q params (.Subscript (.Name row p1) (.Constant (.int 0) j p2) p3) scope [] pm c' ctv) unO)) (hc : F c' = some (LamX.CodeO c' q))
    (hb : ∀ (u : Value), bindArgs (kla_fn "<lambda>" q params (.Subscript (.Name row p1) (.Constant (.int 0) j p2) p3) scope [] pm (.ref c') ctv) ⟨[u], []⟩ = pure [(row, u)])
    (ks : scope.kind = .function) (co : scope.isCoroutine = false) (gen : scope.isGenerator = false) (nc : ∀ y ∈ scope.names, y.2 ≠ .cell) (lr : scope.names.lookup row = some .local) (hd : (row == ("__debug__" : Str)) = false)
    (hQ : ∀ (p : Addr) (zs : List V), H p = none → Reps X.K F zs (isort leK ds) → Q (.ref p) (upd H p (.lst zs))) :
    wpAny (model X.prog X.w) X.A (call (.builtin "sorted") [.ref a] [(Str.ofString "key", .ref f)]) (EP X pins σ Q) X.xe s := by
  obtain ⟨its, rv, hl, hz⟩ := I.tuple hs
  have e0 := each_key I e rs rv hk
  obtain ⟨hof, _⟩ := I.hok f _ hf
  obtain ⟨⟨oc, vs, t, hoc, hdc, hvc⟩, _, _⟩ := I.hok c' _ (e _ _ hc)
  have sb : Sub X n X.A.in1.in1 := (Sub.in1 (Sub.in1 (⟨hr, rfl⟩ : Sub X (n + 2) X.A)))
  have hlen : ws.length = ds.length := Rep.len rs
  refine sortedT_key_data (b := false) (R := fun (u : Value) (z : V × D) => RelV z.1 u ∧ ∃ (a : Addr) (its : List Value) (t : Tok), u = .ref a ∧ IsTup s.heap a its.toArray ∧ its[0]? = some (.str (rowK z.2) t)) (fun z : V × D => PyData.str (rowK z.2)) hl e0
    (AllAlike.of fun _ _ => by simp [alike]) (Sortable.others fun _ => ⟨fun z => (nomatch z), fun _ z => (nomatch z)⟩) (by rw [List.length_zip]; omega) (fun z _ => ?_) (ksk_s1 _ _) (fun _ => ksk_l1 _ _) (fun _ => ksk_t1 _ _) (fun u z hR _ h tk kp => ?_) fun out c h' tk kp fr hD hlo eo => ?_
  · have hdp : (PyData.str (rowK z.2)).depth = 0 := by simp [PyData.depth]
    rw [hdp]; omega
  · obtain ⟨_, b, its', t', rfl, ht', hx'⟩ := hR
    have ht2 : IsTup h b its'.toArray := by
      obtain ⟨o, ho, r⟩ := ht'
      exact ⟨o, kp _ _ ho, r⟩
    exact lam_row (s := { s with heap := h, toks := tk }) (kp _ _ hof) ⟨c', oc, vs, t, rfl, kp _ _ hoc, hdc, hvc⟩ sb.room.depth (I.nolimit.keeps kp) (hb _) ks co gen nc lr ht2 hx' (fun h2 tk2 k2 => ⟨h2, tk2, rfl, k2, .str _ _⟩) hd
  · have hv : Vals (((ws.zip ds).mergeSort (dataLe false fun z : V × D => PyData.str (rowK z.2))).map Prod.fst) out := by
      have : ∀ {us : List Value} {bs : List (V × D)}, EachIs (fun (u : Value) (z : V × D) => RelV z.1 u ∧ ∃ (a : Addr) (its : List Value) (t : Tok), u = .ref a ∧ IsTup s.heap a its.toArray ∧ its[0]? = some (.str (rowK z.2) t)) us bs → Vals (bs.map Prod.fst) us := by
        intro us bs h
        induction h with
        | nil => exact .nil
        | cons h1 _ ih => exact .cons h1.1 ih
      exact this eo
    have I1 := I.laid (t' := tk) (a := s.heap.objs.size + 1) (h' := h') kp (Nat.le_succ _) (o := .lst (((ws.zip ds).mergeSort (dataLe false fun z : V × D => PyData.str (rowK z.2))).map Prod.fst))
      ⟨by rw [List.length_map, (List.mergeSort_perm _ _).length_eq, List.length_zip]; omega, out, c, hv, hD⟩
    have e2 : isort leK ds = ((ws.zip ds).mergeSort (dataLe false fun z : V × D => PyData.str (rowK z.2))).map Prod.snd := by
      rw [isort_eq leK_total, sort_maps (r := dataLe false fun z : V × D => PyData.str (rowK z.2)) (s := leK) Prod.snd (fun a _ b _ => rfl), List.map_snd_zip (by omega)]
    refine ⟨.ref _, _, I1, rfl, hQ _ _ (I.hok.fresh (Nat.le_succ _)) ?_⟩
    rw [e2]
    exact reps_of_zip fun z hz => reps_zip rs z ((List.mergeSort_perm _ _).mem_iff.1 hz)
def esortK (x : Str) (f : Env → RE D) : Env → RE D := fun δ => bindE (f δ) fun d δ' => match δ'[(40 : Nat)]? with
  | some (some (.fn y)) => if y = x then (match d with
    | .tup ds => (sortKD ds).map fun zs => .ok (.lst zs, δ')
    | _ => none) else none
  | _ => none
set_option maxHeartbeats 2000000 in
theorem je_sortK {own : List Nat} {n : Nat} {x row : Str} {a : Expr} {params : Arguments} {scope : Scope} {j : Nat} {p p1 p2 p3 lpos kpos pos : Pos} {c : Addr} {f : Env → RE D} (hm : X.mg "sorted" = none) (h : JE X own a f) (hr : Room (n + 2) X.A) (hcalm : X.calm = true) (hu : X.A.units + 70 < cLine)
    (TB : LamX.TabB X.base X.mg c (tabA X.K x)) (hcode : X.env.code = .ref c) (ho : 40 ∈ own := by decide) (hq : X.env.qual ++ "<lambda>" = lamQ x := by rfl) (hdef : defaultsOf params X.env = ([], []) := by rfl) (hclo : cloFrom X.env.cells scope.names [] = [] := by rfl)
    (hb : ∀ (pm cv ctv u : Value), bindArgs (kla_fn "<lambda>" (lamQ x) params (.Subscript (.Name row p1) (.Constant (.int 0) j p2) p3) scope [] pm cv ctv) ⟨[u], []⟩ = pure [(row, u)] := by intro _ _ _ _; rfl)
    (ks : scope.kind = .function := by rfl) (co : scope.isCoroutine = false := by rfl) (gen : scope.isGenerator = false := by rfl) (nc : (scope.names.all fun y => decide (y.2 = .local)) = true := by decide) (lr : scope.names.lookup row = some .local := by rfl) (hd : (row == ("__debug__" : Str)) = false := by decide)
    (hg : Gl X "sorted" := by rfl)
    (he0 : starEach [a] X.env = (false, eval a X.env) :: starEach [] X.env := by rfl) (he : backTo pos (starEach [a] X.env) = (false, eval a X.env) :: backTo pos (starEach [] X.env) := by rfl) (hpl : (backTo pos (starEach [a] X.env)).any (·.1) = false := by rfl)
    (hkw : backToKw pos (keywordEach [⟨some "key", .Lambda params (.Subscript (.Name row p1) (.Constant (.int 0) j p2) p3) scope lpos, kpos⟩] X.env) = backToKw pos (keywordEach [⟨some "key", .Lambda params (.Subscript (.Name row p1) (.Constant (.int 0) j p2) p3) scope lpos, kpos⟩] X.env) := by rfl) :
    JE X own (.Call (.Name "sorted" p) [a] [⟨some "key", .Lambda params (.Subscript (.Name row p1) (.Constant (.int 0) j p2) p3) scope lpos, kpos⟩] pos) (esortK x f) := ⟨fun {P F0 H0 σ F H δ W Q o} r tk hg' hP => by
  intro pins s I
  refine wpAny_Call_Name_kw (ld_blt I hg hm PyProof.Rows.boot_sorted (callWith_kw ?_ he hpl rfl rfl))
  have nc' : ∀ y ∈ scope.names, y.2 = .local := fun y hy => of_decide_eq_true (List.all_eq_true.1 nc y hy)
  unfold esortK at hg'
  have hw : WA X [a] σ H (fun vs H1 => ∃ v, vs = [v] ∧ WK X [⟨some "key", .Lambda params (.Subscript (.Name row p1) (.Constant (.int 0) j p2) p3) scope lpos, kpos⟩] σ H1 fun zs H2 => ∃ z, zs = [z] ∧
      ∀ pins s u u', Inv X pins σ H2 s → RelV v u → RelV z u' → wpAny (model X.prog X.w) X.A (call (.builtin "sorted") [u] [(Str.ofString "key", u')]) (EP X pins σ Q) X.xe s) := by
    refine wa_of (pa_cons pe_we pa_nil he0) ?_
    refine js_bind (w := WE X a) h r tk hg' hP fun d v δ1 F1 H1 h1 e1 rx r1 P1 => ?_
    refine ⟨v, rfl, ?_⟩
    split at h1
    · rename_i y hy
      split at h1
      · rename_i hyx
        subst hyx
        split at h1
        · rename_i ds
          cases h2 : sortKD ds with
          | none => rw [h2] at h1; cases h1
          | some zs =>
            rw [h2] at h1
            cases h1
            unfold sortKD at h2
            split at h2
            · rename_i hall
              cases h2
              cases rx with
              | @tup b ws _ hs rs =>
                refine wk_of (pk_cons pe_we pk_nil) ?_
                intro pins1 s1 I1
                obtain ⟨t, nF⟩ := r1.tab_at ho hy
                refine lam_makeO I1 TB hcode hq r1.fh nF t hdef (fun y hy z => by rw [nc' y hy] at z; cases z) hclo fun fa c' pm ctv F2 H2 s2 I2 g t2 hfa hco => ?_
                refine ⟨.ref fa, H2, I2, rfl, ?_⟩
                refine ⟨.ref fa, rfl, fun pins3 s3 u u' I3 ru ru' => ?_⟩
                cases ru
                cases ru'
                have r2 := r1.tabbed ho hy g t2
                refine sorted_lam hcalm hr hu I3 g.fh (ex_t (g.ff.trans g.fh) hs) (rs.mono g.ff) hall hfa hco (fun u => hb _ _ _ u) ks co gen (fun y hy z => by rw [nc' y hy] at z; cases z) lr hd fun p zs hp rz => ?_
                have r3 := r2.grow (Grow.new (o := .lst zs) r2.fh hp)
                exact P1 _ _ _ r3 (g.ff.trans (Ex.new (none_back r2.fh hp))) (.lst upd_same (rz.mono (Ex.new (none_back r2.fh hp))))
            · cases h2
        · cases h1
      · cases h1
    · cases h1
  refine thn (hw pos pins s I) fun us s1 ⟨vs, H1, I1, rv, v, ev, hk⟩ => ?_
  subst ev
  obtain ⟨u, rfl, ru⟩ := rv.one
  refine thn (hk pos pins s1 I1) fun ws s2 ⟨zs, H2, I2, rz, z, ez, hq2⟩ => ?_
  subst ez
  obtain ⟨u', rfl, ru'⟩ := rz.one
  exact hq2 pins s2 u u' I2 ru ru'⟩
end
end PD
end
section
namespace PD
open PySem L2
section
open PySem PySem.Spec PySem.Calls PyProof.Rows PySem.W
theorem inv_ghost {X : Cx} {pins : List (Addr × Obj)} {σ : L2.St} {H : Hp} {s : Shared} {i : Nat} {v : V} (I : Inv X pins σ H s) (h : ∀ x, X.N[i]? = some x → ¬ Vis X.env.scope x) : Inv X pins (σ.set i (some v)) H s :=
  ⟨I.ok, I.os, I.bare, I.base, let ⟨m, hn, hl⟩ := I.loc; ⟨m, hn, fun j x w e1 e2 e3 => by
    by_cases q : i = j
    · subst q; exact absurd e3 (h x e1)
    · rw [List.getElem?_set_ne q] at e2; exact hl j x w e1 e2 e3⟩, I.cell, I.free, I.freeC, I.pin, I.hok, (List.length_set ..).trans I.len⟩
def PostT (K : Frag) (y : Str) (F H : Hp) (o : Except XD D) (Q : VK) (E : XK) : Prop := match o with
  | .ok d => ∀ v F' H', GrowB (tabA K y) F H F' H' → TabO F' H' (tabA K y) (lamQ y) → Rep K F' v d → Q v H'
  | .error x => ∀ cls dd F' H', GrowB (tabA K y) F H F' H' → TabO F' H' (tabA K y) (lamQ y) → RepX K F' cls dd x → E cls dd H'
def spT (K : Frag) (y : Str) (m : List D → Rs D) : Sp := fun vs H Q E => ∃ F ds o, Ex F H ∧ F (tabA K y) = none ∧ TabO F H (tabA K y) (lamQ y) ∧ Reps K F vs ds ∧ m ds = some o ∧ PostT K y F H o Q E
structure FnT (P : Program) (w : World) (K : Frag) (mg : Str → Option Value) (base : Heap) (k : Nat) (x y : Str) (m : List D → Rs D) : Prop where
  at_ : ∃ f fd ps, FnOk P w K mg base (L2.CX P w) k f fd ps (spT K y m) ∧ mg x = some (.ref f) ∧ PySem.W.keepIn K (.ref f) = true ∧ Binds K fd ps []
def envT (n : Nat) (y : Str) (ds : List D) : Env := ds.map some ++ List.replicate (40 - n) none ++ [some (.fn y)]
def hasT (y : Str) (δ : Env) : Bool := match δ[(40 : Nat)]? with
  | some (some (.fn z)) => decide (z = y)
  | _ => false
theorem hasT_at {y : Str} {δ : Env} (h : hasT y δ = true) : δ[(40 : Nat)]? = some (some (.fn y)) := by
  unfold hasT at h
  split at h
  · rename_i z e
    rw [of_decide_eq_true h] at e; exact e
  · cases h
def denT (n : Nat) (y : Str) (body : Env → RO) (ds : List D) : Rs D := if ds.length = n then (match body (envT n y ds) with
  | some (.ok (.rt d, δ)) => if hasT y δ = true then ok d else none
  | some (.ok (.nx, δ)) => if hasT y δ = true then ok .non else none
  | some (.error (x, δ)) => if hasT y δ = true then some (.error x) else none
  | _ => none) else none
def ghostOk (N : List Str) (scope : Scope) : Bool := decide (N.length = 41) && (match N[(40 : Nat)]? with
  | some x => (match scope.names.lookup x with
    | some _ => false
    | none => true)
  | none => false)
theorem ghost_no {N : List Str} {scope : Scope} (h : ghostOk N scope = true) : N.length = 41 ∧ ∀ x, N[(40 : Nat)]? = some x → ¬ Vis scope x := by
  unfold ghostOk at h
  rw [Bool.and_eq_true] at h
  refine ⟨of_decide_eq_true h.1, fun x hx => ?_⟩
  have h2 := h.2
  rw [hx] at h2
  dsimp only at h2
  intro v
  split at h2
  · cases h2
  · rename_i e
    rcases v with v | v | v <;> (rw [v] at e; cases e)
section
variable {P : Program} {w : World} {K : Frag} {mg : Str → Option Value} {base : Heap}
theorem bd_okT {qual y : Str} {body : List Stmt} {scope : Scope} {f : Addr} {N ps : List Str} {own : List Nat} {g : Env → RO} (hon : own.all (fun i => decide (ps.length ≤ i)) = true) (h40 : own.contains 40 = true) (hN : ghostOk N scope = true)
    (hps : decide (ps.length ≤ 40) = true)
    {cdv : Value} {A : Around} {outer : List PySem.Env} {s : Shared} {H : Hp} {E : XK} {vs : List V} {Q : VK} (hb : JB (cxOf (L2.CX P w) P w K mg base N qual scope f cdv A outer s H E) own body g) (h : spT K y (denT ps.length y g) vs H Q E) :
    ∃ t, PSs (cxOf (L2.CX P w) P w K mg base N qual scope f cdv A outer s H E) body t ∧ t { nx := fun _ H' => Q .non H', rt := Q } (L2.start N vs) H := by
  obtain ⟨F', ds, o, e, hF, hT, r, h1, hP⟩ := h
  obtain ⟨hlN, hV⟩ := ghost_no hN
  unfold denT at h1
  by_cases hl : ds.length = ps.length
  · rw [if_pos hl] at h1
    have hl' : ps.length ≤ 40 := of_decide_eq_true hps
    have hlv : vs.length = ps.length := by rw [Rep.len r, hl]
    have h40' : 40 ∈ own := by simpa using h40
    refine ⟨_, pss_wss, ?_⟩
    have tk : Takes (cxOf (L2.CX P w) P w K mg base N qual scope f cdv A outer s H E) (fun cls d _ H => E cls d H) := takes_of rfl rfl rfl rfl
    suffices h : WSs (cxOf (L2.CX P w) P w K mg base N qual scope f cdv A outer s H E) body { nx := fun _ H' => Q .non H', rt := Q } ((L2.start N vs).set 40 (some (.ref (He.ga K y)))) H from fun pins s I => h pins s (inv_ghost I hV)
    have hT' := hT
    obtain ⟨ps0, hH, _, _⟩ := hT'
    have R0 : RSf (cxOf (L2.CX P w) P w K mg base N qual scope f cdv A outer s H E) ⟨own, ⟨fun a => a = tabA K y, fun a => a = tabA K y, fun _ => False⟩, F', H⟩ F' ((L2.start N vs).set 40 (some (.ref (He.ga K y)))) H (envT ps.length y ds) := {
      ff := Ex.refl _
      fh := e
      hh := fun _ _ _ h => h
      dm := fun _ h => h
      nw := fun _ h => .inl h
      ln := by unfold L2.start envT; simp [hl, hlv]; omega
      par := fun _ h => h.elim
      bxh := fun a h => by rw [show a = tabA K y from h]; show H (tabA K y) ≠ none; rw [hH]; simp
      val := fun i d hi h => by
        have hi40 : (40 : Nat) ≠ i := fun z => hi (z ▸ h40')
        rw [List.getElem?_set_ne hi40]
        unfold L2.start
        unfold envT at h
        by_cases hi2 : i < 40
        · rw [List.getElem?_append_left (by simp [hl]; omega)] at h
          by_cases hi3 : i < ds.length
          · rw [List.getElem?_append_left (by simpa using hi3)] at h
            rw [List.getElem?_append_left (by rw [List.length_map, hlv, ← hl]; exact hi3)]
            have := Reps.some_get (n := 0) (m := 0) r (i := i) (d := d) (by simpa using h)
            exact (by simpa using this : ∃ v : V, (List.map some vs)[i]? = some (some v) ∧ Rep K F' v d)
          · rw [List.getElem?_append_right (by simpa using hi3), List.getElem?_replicate] at h
            split at h <;> cases h
        · rw [List.getElem?_append_right (by simp [hl]; omega)] at h
          have : i - (List.map some ds ++ List.replicate (40 - ps.length) (none : Option D)).length ≠ 0 := by
            simp [hl]; omega
          cases q : i - (List.map some ds ++ List.replicate (40 - ps.length) (none : Option D)).length with
          | zero => exact absurd q this
          | succ n => rw [q] at h; cases h
      own := ⟨fun i => if i = 40 then [tabA K y] else [], And.intro (fun (i : Nat) (d : D) hi (h : (envT ps.length y ds)[i]? = some (some d)) => by
        have := of_decide_eq_true (List.all_eq_true.1 hon i hi)
        unfold envT at h
        by_cases hi2 : i < 40
        · rw [List.getElem?_append_left (by simp [hl]; omega), List.getElem?_append_right (by rw [List.length_map, hl]; exact this), List.getElem?_replicate] at h
          split at h <;> cases h
        · by_cases hi3 : i = 40
          · subst hi3
            rw [List.getElem?_append_right (by simp [hl]; omega)] at h
            rw [show 40 - (List.map some ds ++ List.replicate (40 - ps.length) (none : Option D)).length = 0 by simp [hl]; omega] at h
            cases h
            exact ⟨_, List.getElem?_set_self (by unfold L2.start; simp [hlv]; omega), by dsimp only; rw [if_pos rfl]; exact .tab hT⟩
          · rw [List.getElem?_eq_none (by simp [hl]; omega)] at h; cases h) (And.intro (fun i a h => by
            dsimp only at h
            by_cases q : i = 40
            · rw [if_pos q] at h; cases List.mem_singleton.1 h; exact ⟨hF, by rw [hH]; simp, .inr ⟨rfl, fun _ => .inr q⟩⟩
            · rw [if_neg q] at h; cases h) (fun i j a hij h h2 => by
            dsimp only at h h2
            by_cases q : i = 40
            · rw [if_neg (fun z => hij (q.trans z.symm))] at h2; cases h2
            · rw [if_neg q] at h; cases h))⟩ }
    have fin : ∀ (own' : List Nat) (_ : 40 ∈ own') (σ' : L2.St) (F1 H1 : Hp) (δ' : Env), RSf (cxOf (L2.CX P w) P w K mg base N qual scope f cdv A outer s H E) ⟨own', ⟨fun a => a = tabA K y, fun a => a = tabA K y, fun _ => False⟩, F', H⟩ F1 σ' H1 δ' → hasT y δ' = true → GrowB (tabA K y) F' H F1 H1 ∧ TabO F1 H1 (tabA K y) (lamQ y) := fun own' ho' σ' F1 H1 δ' r1 ht => by
      obtain ⟨t, nF⟩ := r1.tab_at ho' (hasT_at ht)
      exact ⟨⟨r1.ff, r1.fh, fun a o hne h => r1.hh a o hne h, r1.nw, nF⟩, t⟩
    cases e2 : g (envT ps.length y ds) with
    | none => rw [e2] at h1; cases h1
    | some z =>
      rw [e2] at h1
      refine hb.run R0 tk e2 fun own' _ ho' => ?_
      rcases z with ⟨x, δ'⟩ | ⟨o1, δ'⟩
      · dsimp only at h1
        split at h1
        · rename_i ht
          cases h1
          exact fun cls dd σ' F1 H1 r1 e1 rx => let ⟨a, b⟩ := fin own' (ho' h40') σ' F1 H1 δ' r1 ht; hP cls dd F1 H1 a b rx
        · cases h1
      · cases o1 with
        | rt d =>
          dsimp only at h1
          split at h1
          · rename_i ht
            cases h1
            exact fun v σ' F1 H1 r1 e1 rx => let ⟨a, b⟩ := fin own' (ho' h40') σ' F1 H1 δ' r1 ht; hP v F1 H1 a b rx
          · cases h1
        | nx =>
          dsimp only at h1
          split at h1
          · rename_i ht
            cases h1
            exact fun σ' F1 H1 r1 e1 => let ⟨a, b⟩ := fin own' (ho' h40') σ' F1 H1 δ' r1 ht; hP .non F1 H1 a b .non
          · cases h1
        | bk => cases h1
        | ct => cases h1
  · rw [if_neg hl] at h1; cases h1
theorem spT_len {y : Str} {n : Nat} {g : Env → RO} {vs : List V} {H : Hp} {Q : VK} {E : XK} (h : spT K y (denT n y g) vs H Q E) : vs.length = n := by
  obtain ⟨F', ds, o, e, _, _, r, h1, _⟩ := h
  unfold denT at h1
  by_cases hl : ds.length = n
  · rw [Rep.len r, hl]
  · rw [if_neg hl] at h1; cases h1
theorem fnT_ok {x y : Str} {params : Arguments} {body : List Stmt} {scope : Scope} {fd : FuncData} {dvs : List V} {kws : List (Str × V)} {N ps : List Str} {k : Nat} {own : List Nat} {g : Env → RO} (F : FunD K x x params body scope dvs kws (He.ga K x) fd) (S : FnScope N ps scope) (hon : own.all (fun i => decide (ps.length ≤ i)) = true) (h40 : own.contains 40 = true) (hN : ghostOk N scope = true)
    (hps : decide (ps.length ≤ 40) = true)
    (hb : ∀ (cdv : Value) (A : Around) (outer : List PySem.Env) (s : Shared) (H : Hp) (E : XK), cdv = .ref (He.cT K (x, none)).1 → Room k (A.deeper (PyProof.Rows.envOfC x scope s.heap.objs.size (He.ga K x) cdv)) → JB (cxOf (L2.CX P w) P w K mg base N x scope (He.ga K x) cdv A outer s H E) own body g) :
    FnOk P w K mg base (L2.CX P w) (k + 1) (He.ga K x) fd ps (spT K y (denT ps.length y g)) := by
  obtain ⟨oc, od, dV, kV, doc, pm, an, cdv, ct, osl, rfl, lk, hcd, _, _⟩ := F.ex
  have hc : cdv = .ref (He.cT K (x, none)).1 := by
    obtain ⟨c, rfl⟩ := He.codeIn_ref hcd
    rw [show (He.cT K (x, none)).1 = He.codeOf K (x, none) from rfl, He.codeOf_eq (p := (x, none)) lk rfl]
  exact fn_of lk hcd S (fun vs H Q E h => spT_len h) fun A outer s H vs Q E hr hsp => bd_okT hon h40 hN hps (hb cdv A outer s H E hc hr) hsp
end
section
variable {X : Cx} {own : List Nat} {e a : Expr} {es : List Expr} {pos : Pos}
def ecallT (m : List D → Rs D) (y : Str) (a : Env → RE (List D)) : Env → RE D := fun δ => bindE (a δ) fun xs δ' => if hasT y δ' = true then (match m xs with
  | none => none
  | some (.ok d) => some (.ok (d, δ'))
  | some (.error x) => some (.error (x, δ'))) else none
theorem je_callT {k : Nat} {x y : Str} {p : Pos} {m : List D → Rs D} {f : Env → RE (List D)} (hf : FnT X.prog X.w X.K X.mg X.base k x y m) (hr : Room k X.A) (ha : JAE X own (e :: es) f) (ho : 40 ∈ own := by decide) (hg : Gl X x := by rfl)
    (hdb : (x == ("__debug__" : Str)) = false := by decide) (he : starEach (e :: es) X.env = (false, eval e X.env) :: starEach es X.env := by rfl) (hpl : (backTo pos (starEach es X.env)).any (·.1) = false := by rfl) :
    JE X own (.Call (.Name x p) (e :: es) [] pos) (ecallT m y f) := ⟨fun {P F0 H0 σ F H δ W Q o} r tk hg' hP => by
  obtain ⟨fa, fd, ps, F, hm, hk, hb⟩ := hf.at_
  refine we_of (pe_callS F hr hg hm hk hb (fun σ => passAt tk σ) pa_wa hdb he hpl) (js_bind (w := WA X (e :: es)) ha r tk hg' hP fun xs vs δ1 F1 H1 h1 e1 rx r1 P1 => ?_)
  split at h1
  · rename_i ht
    obtain ⟨t, nF⟩ := r1.tab_at ho (hasT_at ht)
    cases em : m xs with
    | none => rw [em] at h1; cases h1
    | some z =>
      rw [em] at h1
      cases z with
      | ok d => cases h1; exact ⟨F1, xs, _, r1.fh, nF, t, rx, em, fun v F' H' g t' rv => P1 v F' H' (r1.tabbed ho (hasT_at ht) g t') g.ff rv⟩
      | error z => cases h1; exact ⟨F1, xs, _, r1.fh, nF, t, rx, em, fun c dd F' H' g t' rv => P1 c dd F' H' (r1.tabbed ho (hasT_at ht) g t') g.ff rv⟩
  · cases h1⟩
end
structure GrowBT (p t : Addr) (F H F' H' : Hp) : Prop where
  ff : Ex F F'
  fh : Ex F' H'
  hh : ∀ a o, a ≠ p → a ≠ t → H a = some o → H' a = some o
  nw : ∀ a, F' a ≠ none → F a ≠ none ∨ H a = none
  np : F' p = none
  nt : F' t = none
def spBT (K : Frag) (y : Str) (m : List D → List D → Option (D × List D)) : Sp := fun vs H Q _ => ∃ F p ws bs B ds d B', vs = .ref p :: ws ∧ Ex F H ∧ F p = none ∧ H p = some (.lst bs) ∧ F (tabA K y) = none ∧ TabO F H (tabA K y) (lamQ y) ∧ Reps K F bs B ∧ Reps K F ws ds ∧ m B ds = some (d, B') ∧
  ∀ v F' H' bs', GrowBT p (tabA K y) F H F' H' → H' p = some (.lst bs') → TabO F' H' (tabA K y) (lamQ y) → Reps K F' bs' B' → Rep K F' v d → Q v H'
def denBT (n : Nat) (y : Str) (body : Env → RO) (B ds : List D) : Option (D × List D) := if ds.length + 1 = n then (match body (envT n y (.lst B :: ds)) with
  | some (.ok (.rt d, δ)) => if hasT y δ = true then bxOf d δ else none
  | some (.ok (.nx, δ)) => if hasT y δ = true then bxOf .non δ else none
  | _ => none) else none
section
variable {P : Program} {w : World} {K : Frag} {mg : Str → Option Value} {base : Heap}
theorem bdB_okT {qual y : Str} {body : List Stmt} {scope : Scope} {f : Addr} {N ps : List Str} {own : List Nat} {g : Env → RO} (hon : own.all (fun i => decide (i = 0 ∨ ps.length ≤ i)) = true) (h0 : own.contains 0 = true) (h40 : own.contains 40 = true) (hN : ghostOk N scope = true)
    (hps : decide (ps.length ≤ 40) = true)
    {cdv : Value} {A : Around} {outer : List PySem.Env} {s : Shared} {H : Hp} {E : XK} {vs : List V} {Q : VK} (hb : JB (cxOf (L2.CX P w) P w K mg base N qual scope f cdv A outer s H E) own body g) (h : spBT K y (denBT ps.length y g) vs H Q E) :
    ∃ t, PSs (cxOf (L2.CX P w) P w K mg base N qual scope f cdv A outer s H E) body t ∧ t { nx := fun _ H' => Q .non H', rt := Q } (L2.start N vs) H := by
  obtain ⟨F', p, ws, bs, B, ds, d, B', rfl, e, hF, hH, hFT, hT, rb, rd, h1, hP⟩ := h
  obtain ⟨hlN, hV⟩ := ghost_no hN
  unfold denBT at h1
  by_cases hl : ds.length + 1 = ps.length
  · rw [if_pos hl] at h1
    have hl' : ps.length ≤ 40 := of_decide_eq_true hps
    have hlv : ws.length = ds.length := Rep.len rd
    have h40' : 40 ∈ own := by simpa using h40
    have h0' : 0 ∈ own := by simpa using h0
    refine ⟨_, pss_wss, ?_⟩
    have tk : Takes (cxOf (L2.CX P w) P w K mg base N qual scope f cdv A outer s H E) (fun cls d _ H => E cls d H) := takes_of rfl rfl rfl rfl
    suffices h : WSs (cxOf (L2.CX P w) P w K mg base N qual scope f cdv A outer s H E) body { nx := fun _ H' => Q .non H', rt := Q } ((L2.start N (.ref p :: ws)).set 40 (some (.ref (He.ga K y)))) H from fun pins s I => h pins s (inv_ghost I hV)
    have hT' := hT
    obtain ⟨ps0, hHT, _, _⟩ := hT'
    have npt : p ≠ tabA K y := fun z => by rw [z, hHT] at hH; cases hH
    have R0 : RSf (cxOf (L2.CX P w) P w K mg base N qual scope f cdv A outer s H E) ⟨own, ⟨fun a => a = p ∨ a = tabA K y, fun a => a = p ∨ a = tabA K y, fun a => a = p⟩, F', H⟩ F' ((L2.start N (.ref p :: ws)).set 40 (some (.ref (He.ga K y)))) H (envT ps.length y (.lst B :: ds)) := {
      ff := Ex.refl _
      fh := e
      hh := fun _ _ _ h => h
      dm := fun _ h => h
      nw := fun _ h => .inl h
      ln := by unfold L2.start envT; simp [hlv]; omega
      par := fun a h => ⟨h0', by rw [show a = p from h, List.getElem?_set_ne (by decide)]; rfl⟩
      bxh := fun a h => by
        rcases h with rfl | rfl
        · show H a ≠ none; rw [hH]; simp
        · show H (tabA K y) ≠ none; rw [hHT]; simp
      val := fun i d hi h => by
        have hi40 : (40 : Nat) ≠ i := fun z => hi (z ▸ h40')
        rw [List.getElem?_set_ne hi40]
        unfold L2.start
        unfold envT at h
        cases i with
        | zero => exact absurd h0' hi
        | succ i =>
          by_cases hi2 : i + 1 < 40
          · rw [List.getElem?_append_left (by simp; omega)] at h
            by_cases hi3 : i < ds.length
            · rw [List.getElem?_append_left (by simpa using hi3), List.map_cons, List.getElem?_cons_succ] at h
              rw [List.map_cons, List.cons_append, List.getElem?_cons_succ, List.getElem?_append_left (by rw [List.length_map, hlv]; exact hi3)]
              have := Reps.some_get (n := 0) (m := 0) rd (i := i) (d := d) (by simpa using h)
              exact (by simpa using this : ∃ v : V, (List.map some ws)[i]? = some (some v) ∧ Rep K F' v d)
            · rw [List.getElem?_append_right (by simpa using hi3), List.getElem?_replicate] at h
              split at h <;> cases h
          · rw [List.getElem?_append_right (by simp; omega)] at h
            have : i + 1 - (List.map some (D.lst B :: ds) ++ List.replicate (40 - ps.length) (none : Option D)).length ≠ 0 := by
              simp; omega
            cases q : i + 1 - (List.map some (D.lst B :: ds) ++ List.replicate (40 - ps.length) (none : Option D)).length with
            | zero => exact absurd q this
            | succ n => rw [q] at h; cases h
      own := ⟨fun i => if i = 40 then [tabA K y] else if i = 0 then [p] else [], And.intro (fun (i : Nat) (d : D) hi (h : (envT ps.length y (.lst B :: ds))[i]? = some (some d)) => by
        have := of_decide_eq_true (List.all_eq_true.1 hon i hi)
        unfold envT at h
        by_cases hi3 : i = 40
        · subst hi3
          rw [List.getElem?_append_right (by simp; omega)] at h
          rw [show 40 - (List.map some (D.lst B :: ds) ++ List.replicate (40 - ps.length) (none : Option D)).length = 0 by simp; omega] at h
          cases h
          exact ⟨_, List.getElem?_set_self (by unfold L2.start; simp [hlv]; omega), by dsimp only; rw [if_pos rfl]; exact .tab hT⟩
        · rw [List.getElem?_set_ne (Ne.symm hi3)]
          dsimp only
          rw [if_neg hi3]
          by_cases hi0 : i = 0
          · subst hi0
            cases h
            rw [if_pos rfl]
            exact ⟨.ref p, rfl, .lst hH rb⟩
          · have hge : ps.length ≤ i := this.resolve_left hi0
            by_cases hi2 : i < 40
            · rw [List.getElem?_append_left (by simp; omega), List.getElem?_append_right (by simp; omega), List.getElem?_replicate] at h
              split at h <;> cases h
            · rw [List.getElem?_eq_none (by simp; omega)] at h; cases h) (And.intro (fun i a h => by
            dsimp only at h
            by_cases q : i = 40
            · rw [if_pos q] at h; cases List.mem_singleton.1 h; exact ⟨hFT, by rw [hHT]; simp, .inr ⟨.inr rfl, fun _ => .inr q⟩⟩
            · rw [if_neg q] at h
              by_cases q0 : i = 0
              · rw [if_pos q0] at h; cases List.mem_singleton.1 h; exact ⟨hF, by rw [hH]; simp, .inr ⟨.inl rfl, fun _ => .inl q0⟩⟩
              · rw [if_neg q0] at h; cases h) (fun i j a hij h h2 => by
            dsimp only at h h2
            by_cases q : i = 40
            · rw [if_pos q] at h; cases List.mem_singleton.1 h
              rw [if_neg (fun z => hij (q.trans z.symm))] at h2
              split at h2
              · exact npt (List.mem_singleton.1 h2).symm
              · cases h2
            · rw [if_neg q] at h
              split at h
              · rename_i q0
                cases List.mem_singleton.1 h
                split at h2
                · exact npt (List.mem_singleton.1 h2)
                · rw [if_neg (fun z => hij (q0.trans z.symm))] at h2; cases h2
              · cases h))⟩ }
    have fin : ∀ (own' : List Nat) (_ : 0 ∈ own') (_ : 40 ∈ own') (v : V) (σ' : L2.St) (F1 H1 : Hp) (δ' : Env), RSf (cxOf (L2.CX P w) P w K mg base N qual scope f cdv A outer s H E) ⟨own', ⟨fun a => a = p ∨ a = tabA K y, fun a => a = p ∨ a = tabA K y, fun a => a = p⟩, F', H⟩ F1 σ' H1 δ' → hasT y δ' = true → δ'[0]? = some (some (.lst B')) → Rep K F1 v d → Q v H1 := fun own' ho' ho2 v σ' F1 H1 δ' r1 ht hB rv => by
      obtain ⟨t, nF⟩ := r1.tab_at ho2 (hasT_at ht)
      obtain ⟨p', bs', hp', hH', rb', hF1⟩ := r1.lst ho' hB
      have := (r1.par p rfl).2
      rw [this] at hp'; cases hp'
      exact hP v F1 H1 bs' ⟨r1.ff, r1.fh, fun a o h1 h2 h => r1.hh a o (fun z => z.elim h1 h2) h, r1.nw, hF1, nF⟩ hH' t rb' rv
    cases e2 : g (envT ps.length y (.lst B :: ds)) with
    | none => rw [e2] at h1; cases h1
    | some z =>
      rw [e2] at h1
      refine hb.run R0 tk e2 fun own' ho' ho2 => ?_
      rcases z with ⟨x, δ'⟩ | ⟨o1, δ'⟩
      · cases h1
      · cases o1 with
        | rt d1 =>
          dsimp only at h1
          split at h1
          · rename_i ht
            obtain ⟨rfl, hB⟩ := bxOf_some h1
            exact fun v σ' F1 H1 r1 e1 rx => fin own' (ho' p rfl) (ho2 h40') v σ' F1 H1 δ' r1 ht hB rx
          · cases h1
        | nx =>
          dsimp only at h1
          split at h1
          · rename_i ht
            obtain ⟨rfl, hB⟩ := bxOf_some h1
            exact fun σ' F1 H1 r1 e1 => fin own' (ho' p rfl) (ho2 h40') .non σ' F1 H1 δ' r1 ht hB .non
          · cases h1
        | bk => cases h1
        | ct => cases h1
  · rw [if_neg hl] at h1; cases h1
end
theorem LS.changedT {K : Frag} {own : List Nat} {P : Pm} {F0 H0 F F' H' : Hp} {σ : L2.St} {H : Hp} {δ : Env} {Dd : Addr} {ob : HO} {y : Str} (l : LS K own P F0 H0 Dd ob F σ H δ) (ho : 40 ∈ own) (h : δ[(40 : Nat)]? = some (some (.fn y))) (g : GrowBT Dd (tabA K y) F H F' H') (t : TabO F' H' (tabA K y) (lamQ y)) : RS K own P F0 H0 F' σ H' δ := by
  have hD : H Dd = some ob := l.at
  have nD : Dd ≠ tabA K y := fun z => by
    obtain ⟨⟨P', Fb, Hb, r2, c, e, n, nf⟩, nh⟩ := l
    obtain ⟨fp, h1, h2, h3⟩ := r2.own
    obtain ⟨v, hv, o⟩ := h1 40 _ ho h
    have hfp : tabA K y ∈ fp 40 := by
      generalize fp 40 = g at o
      cases o with
      | tab _ => exact List.mem_singleton.2 rfl
    exact (h2 40 _ hfp).2.2.elim (fun q => by rw [← z, e] at q; cases q) fun q => n (z ▸ q.1)
  let H1 : Hp := fun a => if a = Dd then H Dd else H' a
  have a1 : H1 Dd = H Dd := if_pos rfl
  have a2 : ∀ a, a ≠ Dd → H1 a = H' a := fun a ha => if_neg ha
  have g1 : GrowB (tabA K y) F H F' H1 := ⟨g.ff, fun a o e => by
    have : a ≠ Dd := fun z => by rw [z, g.np] at e; cases e
    rw [a2 a this]; exact g.fh a o e, fun a o hne e => by
    by_cases z : a = Dd
    · subst z; rw [a1]; exact e
    · rw [a2 a z]; exact g.hh a o z hne e, g.nw, g.nt⟩
  have t1 : TabO F' H1 (tabA K y) (lamQ y) := t.keep (Ex.refl _) fun o e => by rw [a2 _ (Ne.symm nD)]; exact e
  have l1 : LS K own P F0 H0 Dd ob F' σ H1 δ := by
    obtain ⟨⟨P', Fb, Hb, r2, c, e, n, nf⟩, nh⟩ := l
    exact ⟨⟨P', Fb, Hb, r2.tabbed ho h g1 t1, c, e, n, nf⟩, nh⟩
  refine l1.changed ⟨Ex.refl _, g.fh, fun a o hne e => ?_, fun a e => .inl e, g.np⟩
  rw [a2 a hne] at e; exact e
section
variable {X : Cx} {own : List Nat} {e a : Expr} {es : List Expr} {pos : Pos}
def ecallBNT (m : List D → List D → Option (D × List D)) (y : Str) (fa : Env → RE D) (f : Env → RE (List D)) : Env → RE D := fun δ => bindE (fa δ) fun d δ1 => bindE (f δ1) fun ds δ2 => if hasT y δ2 = true then (match d with
  | .lst B => (m B ds).map fun z => .ok (z.1, δ2)
  | _ => none) else none
end
end
end PD
end
section
namespace PD
open PySem L2
section
open PySem.W HandSHeadRun
end
section
open PySem.Spec PyProof.Rows
theorem law_spT {K : Frag} {y : Str} {m : List D → Rs D} {H : Hp} {a : Addr} {ns : List Int} (hT : H (tabA K y) = some (.tbl #[])) (hS : SqL K H a (ns.map V.int)) (h : m [.scr (ns.map D.int)] = some (.ok (.bl true))) :
    spT K y m [.ref a] H (fun v _ => v = .bl true) fun _ _ _ => False := by
  let F : Hp := fun b => if b = tabA K y then none else H b
  have e : Ex F H := fun b o z => by
    by_cases q : b = tabA K y
    · rw [show F b = none from if_pos q] at z; cases z
    · rwa [show F b = H b from if_neg q] at z
  have r : ∀ ns : List Int, Reps K F (ns.map V.int) (ns.map D.int) := fun ns => by
    induction ns with
    | nil => exact .nil
    | cons n ns ih => exact .cons (.int n) ih
  have hF : SqL K F a (ns.map V.int) := by
    rcases hS with (hS | ⟨o, hS⟩) | hS
    · refine .inl (.inl ?_)
      have : a ≠ tabA K y := fun z => by rw [z, hT] at hS; cases hS
      rw [show F a = H a from if_neg this]; exact hS
    · refine .inl (.inr ⟨o, ?_⟩)
      have : a ≠ tabA K y := fun z => by rw [z, hT] at hS; cases hS
      rw [show F a = H a from if_neg this]; exact hS
    · exact .inr hS
  refine ⟨F, [.scr (ns.map D.int)], _, e, if_pos rfl, ⟨#[], hT, trivial, fun pos cv z => ?_⟩, .cons (.scr hF (r ns)) .nil, h, fun v F' H' g t rv => ?_⟩
  · simp [codeAmong] at z
  · cases rv; rfl
end
end PD
end
section
namespace PD
open PySem L2
section
open PySem PySem.Spec PySem.Calls PyProof.Rows PySem.W
theorem pmk_own0 {X : Cx} {C : Addr} {bmB : List Value} {B newId initId : String} {x : Str} {p pos : Pos} (F : ExcBaseFacts B newId initId bmB) (q : PySem.W.excIn X.K C bmB newId = true) (gC : X.mg x = some (.ref C)) (kC : PySem.W.keepIn X.K (.ref C) = true) (r : Raises X (.ref C)) (hg : Gl X x)
    (hdb : (x == ("__debug__" : Str)) = false := by decide) :
    PMk X (.Call (.Name x p) [] [] pos) (fun _ H Q => Q (.ref C) none H) := by
  intro pins s σ H Q I h
  refine wpAny_Call_Name_kw (ld_glob I hg gC ?_ hdb)
  refine PySem.W.callWith_K0 I.kIn kC ?_
  show wpAny _ _ (call (.ref C) []) _ _ _
  obtain ⟨bm, N, nm, qn, bs, hdct, sn, sub, ab, col, dd, k0, k1, k2, k3, k5, mN, hC, hN, hni, T⟩ := exc_obj I.kIn q
  refine wpAny_call_exc_subT F T hC hN hni (fun h' e hm => ?_) (Nat.zero_le _)
  exact mk_of I hm r h (I.hok.gone hm.new)
variable [XLs]
variable {X : Cx} {own : List Nat}
def sraise0 (c : Str) : Env → RO := fun δ => some (.error (⟨c, []⟩, δ))
theorem js_raise0 {p pos pos2 : Pos} {file : Str} (T : XAll X.K X.mg file) (hl : xLastB X.K = true) (hcalm : X.calm = true := by rfl) (hc : ("LastFlow" : Str) ∈ XL := by decide) (hg : Gl X "LastFlow" := by rfl) :
    JS X own (.Raise (some (.Call (.Name "LastFlow" p) [] [] pos)) none pos2) (sraise0 "LastFlow") := ⟨fun {P F0 H0 σ F H δ W o D} _ r tk hg' hP => by
  have c := T.cls _ hc
  refine ws_of (ps_raise hcalm tk (pmk_own0 xb_R.fb hl c.g c.kp (raises_own c.ex c.ty) hg (by decide))) ?_
  cases hg'
  exact hP _ _ σ F H r (Ex.refl _) ⟨rfl, [], .inl ⟨rfl, rfl⟩, .nil⟩⟩
end
section
open PySem PySem.Spec PySem.Calls PyProof.Rows
def rCntD (K : Frag) : V → List V → Hp → VK → Prop := fun x vs H Q => ∃ l xs y p qs, x = .ref l ∧ vs = [y] ∧ SqL K H l xs ∧ Dp K H y p ∧ DpAll K H xs qs ∧ PyData.plainAll qs = true ∧ p.plain = true ∧ p.depth ≤ 60 ∧ Q (.int ((qs.countP fun z => PyData.eqv z p : Nat) : Int)) H
theorem mt_cntD {X : Cx} (hu : X.A.units + 64 < cLine) : MtM X "list.count" (rCntD X.K) := by
  intro pins s σ H x vs v us Q I rx rv h
  obtain ⟨l, xs, y, p, qs, rfl, rfl, hH, dy, dq, hp1, hp2, hd, q⟩ := h
  cases rx
  obtain ⟨u, rfl, ru⟩ := rv.one
  obtain ⟨its, r, pl, hl⟩ := I.list hH
  obtain ⟨as, ra⟩ := dps_reads I r dq
  obtain ⟨bs, rb⟩ := Dp.reads I _ _ _ dy ru
  exact SeqAt.count_list_data (vs := its.toArray) pl.isList (by simpa using ra) rb hp1 hp2 (by
    have := Nat.min_le_right (PyData.depthAll qs) p.depth
    omega) ⟨.int _, H, I.tok _, ⟨_, rfl⟩, q⟩
def cntAt (ds : List D) (d : D) : Option Nat := (toPy d).bind fun p => (toPys ds).bind fun qs => if PyData.plainAll qs = true ∧ p.plain = true ∧ p.depth ≤ 60 then some (qs.countP fun z => PyData.eqv z p) else none
def dCount : D → D → Option D
  | .lst ds, d => (cntAt ds d).map fun n : Nat => D.int n
  | _, _ => none
def isLs : D → Bool
  | .lst _ => true
  | _ => false
def vcount (a b : Env → Rs D) : Env → Rs D := fun δ => bind (a δ) fun x => if isLs x = true then bind (b δ) fun y => opt (dCount x y) else none
theorem jp_count {X : Cx} {o e : Expr} {apos cpos : Pos} {fa fb : Env → Rs D} (hu : X.A.units + 64 < cLine) (ha : JP X o fa) (hb : JP X e fb)
    (hbase : attributeBase o "count" X.env (eval o X.env) = eval o X.env := by rfl)
    (hfew : ((backTo cpos (starEach [e] X.env)).all (fun x => !x.1) && (backToKw cpos (keywordEach [] X.env)).all (fun x => x.1.isSome) && decide (([e] : List Expr).length + ([] : List Keyword).length + (if ([] : List Keyword).isEmpty then 0 else 1) < 30)) = true := by rfl)
    (hline : (apos.endLine == cpos.line) = true := by rfl) (hs : starEach [e] X.env = (false, eval e X.env) :: starEach [] X.env := by rfl) (hplain : (backTo cpos (starEach [] X.env)).any (·.1) = false := by rfl) :
    JP X (.Call (.Attribute o "count" apos) [e] [] cpos) (vcount fa fb) := ⟨fun rp tk hg hP =>
  we_of (pe_bm PySem.F.plainAttrs_list PySem.F.slot_list_count PySem.F.type_list_count (mt_cntD hu) pe_we (pa_cons pe_we pa_nil hs) hbase hfew hline hs hplain) (jp_bind ha rp tk hg hP fun x vx F1 H1 q1 g1 rx r1 P1 => by
    split at q1
    · rename_i hx
      cases rx with
      | lst hp rk =>
        refine ⟨.inl ⟨rfl, _, SqL.of (r1.ex _ _ hp)⟩, jp_bind hb r1 tk q1 P1 fun y vy F2 H2 q2 g2 ry r2 P2 => ?_⟩
        obtain ⟨u, hu', rfl⟩ := opt_some q2
        simp only [dCount, Option.map_eq_some_iff] at hu'
        obtain ⟨n, hn, rfl⟩ := hu'
        unfold cntAt at hn
        obtain ⟨pd, h3, hn⟩ := Option.bind_eq_some_iff.1 hn
        obtain ⟨qs, h4, hn⟩ := Option.bind_eq_some_iff.1 hn
        split at hn
        · rename_i hc
          cases hn
          exact ⟨_, _, vy, pd, qs, rfl, rfl, SqL.of (g2.hh _ _ (r1.ex _ _ hp)), dp_of r2.ex ry h3, dps_of r2.ex (rk.mono g2.ff) h4, hc.1, hc.2.1, hc.2.2, P2 _ F2 H2 (.refl r2.ex) (.int _)⟩
        · cases hn
      | _ => cases hx
    · cases q1)⟩
end
section
open PySem PySem.Spec PySem.Calls PyProof.Rows
structure FnKT (P : Program) (w : World) (K : Frag) (mg : Str → Option Value) (base : Heap) (k : Nat) (x y : Str) (m : List D → Rs D) (ks : List Str) (ix : List Nat) : Prop where
  at_ : ∃ f fd ps, FnOk P w K mg base (L2.CX P w) k f fd ps (spT K y m) ∧ mg x = some (.ref f) ∧ PySem.W.keepIn K (.ref f) = true ∧ KBn K fd ps 0 ks (fun us ws => pick ix ws) (fun vs zs => pick ix zs)
def ecallKT (m : List D → Rs D) (y : Str) (nk : Nat) (ix : List Nat) (a : Env → RE (List D)) : Env → RE D := fun δ => bindE (a δ) fun xs δ' => if xs.length = nk then (if hasT y δ' = true then (match m (pick ix xs) with
  | none => none
  | some (.ok d) => some (.ok (d, δ'))
  | some (.error x) => some (.error (x, δ'))) else none) else none
theorem je_callKT {X : Cx} {own : List Nat} {k : Nat} {x y : Str} {p pos : Pos} {m : List D → Rs D} {ks : List Str} {ix : List Nat} {kws : List Keyword} {a : Env → Rs (List D)} (hf : FnKT X.prog X.w X.K X.mg X.base k x y m ks ix) (hr : Room k X.A) (ha : JK X kws a) (ho : 40 ∈ own := by decide) (hg : Gl X x := by rfl)
    (hall : (backToKw pos (keywordEach kws X.env)).all (·.1.isSome) = true := by rfl) (hks : (backToKw pos (keywordEach kws X.env)).filterMap (·.1) = ks := by rfl) (hdb : (x == ("__debug__" : Str)) = false := by decide)
    (hpl : ((backTo pos (starEach [] X.env)).any (·.1) || (backToKw pos (keywordEach kws X.env)).any (·.1.isNone)) = false := by rfl) : JE X own (.Call (.Name x p) [] kws pos) (ecallKT m y ks.length ix (lf own a)) := ⟨fun {P F0 H0 σ F H δ W Q o} r tk hg' hP => by
  obtain ⟨f, fd, ps, Fo, hm, hk, hb⟩ := hf.at_
  intro pins s I
  refine wpAny_Call_Name_kw (ld_glob I hg hm ?_ hdb)
  refine PySem.W.callWith_KW0 (h₀ := X.base) I.ok.mod.kin hk hall ?_ hpl
  have hw : WK X kws σ H (fun zs H2 => zs.length = ks.length ∧ spT X.K y m (pick ix zs) H2 Q (L2.WE W σ)) := js_bind (w := WK X kws) (js_lift ha) r tk hg' hP fun xs vs δ1 F1 H1 h1 e1 rx r1 P1 => by
    split at h1
    · rename_i hl
      split at h1
      · rename_i ht
        obtain ⟨t, nF⟩ := r1.tab_at ho (hasT_at ht)
        refine ⟨by rw [Rep.len rx]; exact hl, ?_⟩
        cases em : m (pick ix xs) with
        | none => rw [em] at h1; cases h1
        | some z =>
          rw [em] at h1
          cases z with
          | ok d => cases h1; exact ⟨F1, _, _, r1.fh, nF, t, reps_pick rx ix, em, fun v F' H' g t' rv => P1 v F' H' (r1.tabbed ho (hasT_at ht) g t') g.ff rv⟩
          | error z => cases h1; exact ⟨F1, _, _, r1.fh, nF, t, reps_pick rx ix, em, fun c dd F' H' g t' rv => P1 c dd F' H' (r1.tabbed ho (hasT_at ht) g t') g.ff rv⟩
      · cases h1
    · cases h1
  refine thn (hw pos pins s I) fun ws s2 ⟨zs, H2, I2, rz, l2, q2⟩ => ⟨I2.kIn, ?_⟩
  rw [hks]
  exact run_fnNS (us := []) (vs := []) Fo hr hb (passAt tk σ) I2 .nil rz rfl l2 q2⟩
end
end PD
end
section
namespace PD
open PySem L2
section
open PySem PySem.Spec PySem.Calls PyProof.Rows PySem.W
section
variable {P : Program} {w : World} {K : Frag} {mg : Str → Option Value} {base : Heap}
theorem fnT_okG {x y qual : Str} {params : Arguments} {body : List Stmt} {scope : Scope} {f : Addr} {fd : FuncData} {dvs : List V} {kws : List (Str × V)} {N ps : List Str} {k : Nat} {own : List Nat} {g : Env → RO} (F : FunD K x qual params body scope dvs kws f fd) (S : FnScope N ps scope) (hon : own.all (fun i => decide (ps.length ≤ i)) = true) (h40 : own.contains 40 = true) (hN : ghostOk N scope = true)
    (hps : decide (ps.length ≤ 40) = true)
    (hb : ∀ (cdv : Value) (A : Around) (outer : List PySem.Env) (s : Shared) (H : Hp) (E : XK), Room k (A.deeper (PyProof.Rows.envOfC qual scope s.heap.objs.size f cdv)) → (A.deeper (PyProof.Rows.envOfC qual scope s.heap.objs.size f cdv)).guards = some [] → JB (cxOf (L2.CX P w) P w K mg base N qual scope f cdv A outer s H E) own body g) :
    FnOkG P w K mg base (L2.CX P w) (k + 1) f fd ps (spT K y (denT ps.length y g)) :=
  FunD.okG F S (fun vs H Q E h => spT_len h) (fun cdv A outer s H vs Q E hr hgu h => bd_okT hon h40 hN hps (hb cdv A outer s H E hr hgu) h)
theorem fnBT_okG {x y qual : Str} {params : Arguments} {body : List Stmt} {scope : Scope} {f : Addr} {fd : FuncData} {dvs : List V} {kws : List (Str × V)} {N ps : List Str} {k : Nat} {own : List Nat} {g : Env → RO} (F : FunD K x qual params body scope dvs kws f fd) (S : FnScope N ps scope) (hon : own.all (fun i => decide (i = 0 ∨ ps.length ≤ i)) = true) (h0 : own.contains 0 = true) (h40 : own.contains 40 = true) (hN : ghostOk N scope = true)
    (hps : decide (ps.length ≤ 40) = true)
    (hb : ∀ (cdv : Value) (A : Around) (outer : List PySem.Env) (s : Shared) (H : Hp) (E : XK), Room k (A.deeper (PyProof.Rows.envOfC qual scope s.heap.objs.size f cdv)) → (A.deeper (PyProof.Rows.envOfC qual scope s.heap.objs.size f cdv)).guards = some [] → JB (cxOf (L2.CX P w) P w K mg base N qual scope f cdv A outer s H E) own body g) :
    FnOkG P w K mg base (L2.CX P w) (k + 1) f fd ps (spBT K y (denBT ps.length y g)) := by
  refine FunD.okG F S (fun vs H Q E h => ?_) (fun cdv A outer s H vs Q E hr hgu h => bdB_okT hon h0 h40 hN hps (hb cdv A outer s H E hr hgu) h)
  obtain ⟨F', p, ws, bs, B, ds, d, B', rfl, _, _, _, _, _, _, rd, h1, _⟩ := h
  unfold denBT at h1
  by_cases hl : ds.length + 1 = ps.length
  · rw [List.length_cons, Rep.len rd, hl]
  · rw [if_neg hl] at h1; cases h1
end
structure FnBTG (P : Program) (w : World) (K : Frag) (mg : Str → Option Value) (base : Heap) (k : Nat) (x y : Str) (m : List D → List D → Option (D × List D)) : Prop where
  at_ : ∃ f fd ps, FnOkG P w K mg base (L2.CX P w) k f fd ps (spBT K y m) ∧ mg x = some (.ref f) ∧ PySem.W.keepIn K (.ref f) = true ∧ Binds K fd ps []
section
variable {X : Cx} {own : List Nat} {e a : Expr} {es : List Expr} {pos : Pos}
theorem je_callBNTG {k : Nat} {x y : Str} {p : Pos} {m : List D → List D → Option (D × List D)} {fa : Env → RE D} {f : Env → RE (List D)} (hf : FnBTG X.prog X.w X.K X.mg X.base k x y m) (hgu : X.A.guards = some []) (hr : Room k X.A) (hn : JN X own a fa) (ha : JAE X own es f) (ho : 40 ∈ own := by decide) (hg : Gl X x := by rfl)
    (hdb : (x == ("__debug__" : Str)) = false := by decide) (he : starEach (a :: es) X.env = (false, eval a X.env) :: starEach es X.env := by rfl) (hpl : (backTo pos (starEach es X.env)).any (·.1) = false := by rfl) :
    JE X own (.Call (.Name x p) (a :: es) [] pos) (ecallBNT m y fa f) := ⟨fun {P F0 H0 σ F H δ W Q o} r tk hg' hP => by
  obtain ⟨fa', fd, ps, Fo, hm, hk, hb⟩ := hf.at_
  refine we_of (pe_callG Fo hgu hr hg hm hk hb (fun σ => passAt tk σ) (pa_cons pe_we pa_wa he) hdb he hpl) ?_
  rcases bindE_some hg' with ⟨z, h1, rfl⟩ | ⟨d, δ1, h1, hg'⟩
  · exact hn.run r tk h1 hP
  · refine hn.run r tk h1 fun Dd ob F1 H1 l e1 ro => ?_
    obtain ⟨⟨P', Fb, Hb, r1, c, e, n, nf⟩, nh⟩ := l
    rcases bindE_some hg' with ⟨z, h2, rfl⟩ | ⟨ds, δ2, h2, hg'⟩
    · exact ha.run (P := P') (F0 := Fb) (H0 := Hb) r1 tk h2 fun cc dd F' H' r2 e2 rx => hP cc dd F' H' (RS.back r2 c) (e1.trans e2) rx
    · refine ha.run (P := P') (F0 := Fb) (H0 := Hb) r1 tk h2 fun vs F2 H2 r2 e2 rx => ?_
      have l2 : LS X.K own P F0 H0 Dd ob F2 σ H2 δ2 := ⟨⟨P', Fb, Hb, r2, c, e, n, nf⟩, nh⟩
      split at hg'
      · rename_i ht
        obtain ⟨t, nT⟩ := r2.tab_at ho (hasT_at ht)
        cases ro with
        | dic _ => cases hg'
        | @lst ws B rr =>
          dsimp only at hg'
          simp only [Option.map_eq_some_iff] at hg'
          obtain ⟨⟨d, B'⟩, hm', rfl⟩ := hg'
          exact ⟨F2, Dd, vs, ws, B, ds, d, B', rfl, l2.rs.fh, l2.nF, l2.at, nT, t, rr.mono e2, rx, hm', fun v F' H' bs' g hH' t' rb rd => hP v F' H' (l2.changedT ho (hasT_at ht) g t') (e1.trans (e2.trans g.ff)) rd⟩
      · cases hg'⟩
end
end
section
open PySem PySem.Spec PySem.Calls PyProof.Rows L2
theorem law_callTG {P : Program} {w : World} {K : Frag} {mg mb : Str → Option Value} {CX : CXT} {k : Nat} {fa a c t : Addr} {fd : FuncData} {x : Str} {sp : Sp} {s₁ : Shared} {vs : List Value} {ns : List Int}
    (KX : K.In s₁.heap) (hns : s₁.heap.Ns mainGlobals mg) (hb : s₁.heap.Ns builtinsNs mb) (hbb : ∀ x : Str, x ≠ "__name__" → mb x = bootBuiltins x) (hlim : s₁.heap.NoLimit) (hg : s₁.gens = #[])
    (hT : s₁.heap.get? t = some { cls := .none, data := .fields #[] }) (nT : K.lookup t = none) (C : PySem.W.CodeHd s₁.heap c t)
    (hbm : ∃ (bm : Addr) (ob : Obj), mg "__builtins__" = some (.ref bm) ∧ bm ≠ builtinsNs ∧ s₁.heap.get? bm = some ob ∧ ob.cls = .type "module" ∧ ob.dict = some builtinsNs ∧ ob.data = .plain)
    (ha : s₁.heap.get? a = some { cls := .type "list", data := .seq vs.toArray }) (hi : IntsAre vs ns) (hl : ns.length ≤ sizeLine) (hr : Room k callerA)
    (F : ∀ base : Heap, K.In base → base.Ns mainGlobals mg → LamX.TabB base mg c t → FnOkG P w K mg base CX k fa fd [x] sp) (hbind : ∀ (s : Shared) (u : Value), BindsTo s fd ⟨[u], []⟩ [(x, u)])
    (hsp : ∀ H : Hp, H t = some (.tbl #[]) → SqL K H a (ns.map V.int) → sp [.ref a] H (fun v _ => v = .bl true) fun _ _ _ => False)
    (hCX : ∀ H e s', CX [] H s₁ (fun _ _ _ => False) e s' → False) :
    codeAny (model P w) callerA (.call (.ref fa) ⟨[.ref a], []⟩) (fun r s' => r = .ok (.ret (.bool true)) ∧ OldK s₁.heap s'.heap ∧ s'.os = s₁.os ∧ AllBare s'.gens) s₁ := by
  have rv := vals_ints hi
  have lenV := hi.length
  have nat : a ≠ t := fun z => by rw [z, hT] at ha; cases ha
  obtain ⟨S, hS0, hS1⟩ : ∃ S : Option HO, (K.lookup a = none → S = some (.frz { cls := .type "list", data := .seq vs.toArray } (.lst (ns.map V.int)))) ∧ (K.lookup a ≠ none → S = none) := by
    by_cases q : K.lookup a = none
    · exact ⟨_, fun _ => rfl, fun z => absurd q z⟩
    · exact ⟨none, fun z => absurd z q, fun _ => rfl⟩
  let H : Hp := fun b => if b = t then some (.tbl #[]) else if b = a then S else none
  have Ht : H t = some (.tbl #[]) := if_pos rfl
  have Ha : H a = S := (if_neg nat).trans (if_pos rfl)
  have Hn : ∀ b, b ≠ t → b ≠ a → H b = none := fun b h1 h2 => (if_neg h1).trans (if_neg h2)
  have SqS : SqL K H a (ns.map V.int) := by
    cases q : K.lookup a with
    | none => exact .inl (.inr ⟨_, Ha.trans (hS0 q)⟩)
    | some o =>
      have e := KX a o q
      rw [ha] at e; cases e
      exact .inr ⟨_, vs.toArray, _, q, rfl, rfl, rfl, by rw [List.size_toArray, lenV]; exact hl, by simpa using rv⟩
  have hok : HOk P w H s₁.heap := fun b u z => by
    by_cases h1 : b = t
    · rw [h1, Ht] at z; cases z; rw [h1]; exact hT
    · by_cases h2 : b = a
      · rw [h2, Ha] at z
        rw [h2]
        cases q : K.lookup a with
        | none => rw [hS0 q] at z; cases z; exact ⟨ha, by rw [List.length_map]; exact hl, vs, _, rv, ha⟩
        | some o => rw [hS1 (by rw [q]; simp)] at z; cases z
      · rw [Hn b h1 h2] at z; cases z
  have low : ∀ {b : Addr} {o : Obj}, s₁.heap.get? b = some o → H b = none → (hidT s₁.heap H).get? b = some o := fun e n => hidT_get e n
  have free : ∀ {b : Addr} {o : Obj}, s₁.heap.get? b = some o → (∀ us n, o.data ≠ .seq us n) → o.data ≠ .fields #[] → H b = none := fun {b o} e h1 h2 =>
    Hn b (fun z => by rw [z, hT] at e; cases e; exact h2 rfl) (fun z => by rw [z, ha] at e; cases e; exact h1 _ _ rfl)
  have nsK : ∀ {b : Addr} {m : Str → Option Value}, s₁.heap.Ns b m → (hidT s₁.heap H).Ns b m := fun {b m} ⟨o, es, ep, e, d, r⟩ => ⟨o, es, ep, low e (free e (fun us n z => by rw [d] at z; cases z) fun z => by rw [d] at z; cases z), d, r⟩
  have hKb : K.In (hidT s₁.heap H) := fun b o e => low (KX b o e) (by
    by_cases h1 : b = t
    · rw [h1, nT] at e; cases e
    · by_cases h2 : b = a
      · rw [h2, Ha]; exact hS1 (by rw [← h2, e]; simp)
      · exact Hn b h1 h2)
  have hM : L2.Mod K mg (hidT s₁.heap H) := ⟨hKb, nsK hns, ⟨mb, nsK hb, hbb⟩, let ⟨mc, h1, h2⟩ := hlim; ⟨mc, nsK h1, h2⟩⟩
  have TB : LamX.TabB (hidT s₁.heap H) mg c t := by
    refine ⟨?_, ?_, fun z => ?_⟩
    · obtain ⟨o, us, file, tf, flags, tg, inF, text, tt, e1, r1, r2, r3, r4, r5, r6, r7, r8, hne⟩ := C
      exact ⟨o, us, file, tf, flags, tg, inF, text, tt, low e1 (free e1 (fun vs n z => by rw [r2] at z; cases z) fun z => by rw [r2] at z; cases z; simp at r3), r1, r2, r3, r4, r5, r6, r7, r8, hne⟩
    · obtain ⟨bm, ob, b1, b2, b3, b4, b5, b6⟩ := hbm
      refine ⟨bm, ob, b1, b2, fun q => ?_, fun q => ?_, low b3 (free b3 (fun vs n z => by rw [b6] at z; cases z) fun z => by rw [b6] at z; cases z), b4, b5, b6⟩
      · obtain ⟨o, es, ep, e, hd, _⟩ := hns
        rw [q, e] at b3; cases b3; rw [hd] at b6; cases b6
      · rw [q, hT] at b3; cases b3; cases b6
    · obtain ⟨o, es, ep, e, hd, _⟩ := hns
      rw [z, hT] at e; cases e; cases hd
  have e0 : Env0 P w K mg (hidT s₁.heap H) callerA [] s₁ H := ⟨rfl, hM, fun b o e => of_hidT e, Nat.le_of_eq (hidT_size _ _), trivial, fun b hb => absurd (show b ∈ ([] : List Addr) from hb) (by simp), hok, .of_eq hg⟩
  refine codeAny_mono ((F _ hKb (nsK hns) TB).run callerA [] s₁ H ⟨[.ref a], []⟩ [.ref a] [.ref a] _ _ hr rfl e0 (hbind s₁ (.ref a)) (.cons rfl .nil) (hsp H Ht SqS)) fun r s' h => ?_
  cases r with
  | error e => exact (hCX H e s' h).elim
  | ok fl =>
    cases fl with
    | next => exact h.elim
    | brk => exact h.elim
    | cont => exact h.elim
    | ret u =>
      obtain ⟨v, H', os, bare, un, hok', r', q⟩ := h
      cases (show v = .bl true from q)
      cases (show u = Value.bool true from r')
      have old : ∀ b o, b ≠ t → s₁.heap.get? b = some o → s'.heap.get? b = some o := fun b o nb e => by
        cases q : H b with
        | none => exact un.keep b o e q (by intro z; exact absurd (show b ∈ ([] : List Addr) from z) (by simp)) (by simp)
        | some u =>
          by_cases h2 : b = a
          · rw [h2, Ha] at q
            have hk : K.lookup a = none := Classical.byContradiction fun z => by rw [hS1 z] at q; cases q
            have z := Ha.trans (hS0 hk)
            obtain ⟨e1, _⟩ := hok a _ z
            obtain ⟨e2, _⟩ := hok' a _ (un.frzs a _ _ z)
            rw [h2, e1] at e
            cases e; rw [h2]; exact e2
          · rw [Hn b nb h2] at q; cases q
      obtain ⟨more, hm⟩ : ∃ more : Array Value, s'.heap.get? t = some { cls := .none, data := .fields more } := by
        obtain ⟨more, z⟩ := un.tbls t #[] Ht
        exact ⟨_, hok' t _ z⟩
      refine ⟨rfl, ⟨fun b o e => ?_, fun b o e => ?_⟩, os, bare⟩
      · by_cases hb : b = t
        · rw [hb, hT] at e
          cases e
          rw [hb]
          exact .inr (.inl ⟨(C.tab hT).isCodeTable, rfl, #[], more, rfl, by rw [Array.empty_append]; exact hm⟩)
        · exact .inl (old b o hb e)
      · by_cases hb : b = t
        · rw [hb]; exact ⟨_, hm⟩
        · exact ⟨o, old b o hb e⟩
def LawAtSG (l : PySem.W.OpenLaw) (w : World) (K : Frag) (CX : CXT) (k n : Nat) (x : Str) (mg : Str → Option Value) (fa : Addr) (h : Heap) : Prop :=
  ∃ (fd : FuncData) (c t : Addr) (sp : Sp), h.get? t = some { cls := .none, data := .fields #[] } ∧ K.lookup t = none ∧ PySem.W.CodeHd h c t ∧ (∀ (s : Shared) (u : Value), BindsTo s fd ⟨[u], []⟩ [(x, u)]) ∧
    (∀ (H : Hp) (a : Addr) (ns : List Int), ns.length ≤ n → H t = some (.tbl #[]) → SqL K H a (ns.map V.int) → sp [.ref a] H (fun v _ => v = .bl true) fun _ _ _ => False) ∧
    ∀ base : Heap, K.In base → base.Ns mainGlobals mg → LamX.TabB base mg c t → FnOkG l.prog w K mg base CX k fa fd [x] sp
theorem walk_ofTG {l : PySem.W.OpenLaw} {n k : Nat} {q : Program} {loose : List Str} {XP : (Str → Option Value) → Heap → Prop} {YP : World → Heap → Prop} {d : DefRec} {CX : World → CXT} {x : Str}
    (hn : l.most = some n) (hn2 : n ≤ sizeLine) (hdf : d.params.defaults = []) (hr : Room k callerA)
    (F : ∀ (w : World) (mg : Str → Option Value) (fa : Addr) (h : Heap), YP w h → h.Ns mainGlobals mg → mg d.name = some (.ref fa) → ∃ K : PySem.W.Frag, K.In h ∧ LawAtSG l w K (CX w) k n x mg fa h)
    (hCX : ∀ (w : World) (H : Hp) (s : Shared) (e : Value) (s' : Shared), CX w [] H s (fun _ _ _ => False) e s' → False) :
    PySem.W.WalkO q loose XP YP l.row.toRowW d [] (fun f vs => PySem.call f vs) := by
  refine Att.attach_call hn hdf fun w s₀ s₁ mg mb fa o pm cd doc a vs ns G Y ho hd hcd hmg hobj hints hlen hg => ?_
  obtain ⟨K, KX, fd, c, t, sp, hT, nT, C, hb, hsp, hF⟩ := F w mg fa _ Y G.T.g hmg
  exact law_callTG KX G.T.g G.T.b G.T.builtins G.T.nolimit hg hT nT C G.T.bmain hobj hints (Nat.le_trans hlen hn2) hr hF hb (fun H hH hS => hsp H a ns hlen hH hS) fun H e s' => hCX w H s₁ e s'
end
end PD
end
section
set_option maxHeartbeats 4000000
namespace Lw
open PySem L2 PD
structure Txt (P : Program) (K : Frag) (mg : Str → Option Value) : Prop where
  b_LookupError : mg "LookupError" = none
  b_RuntimeError : mg "RuntimeError" = none
  b_ValueError : mg "ValueError" = none
  b_abs : mg "abs" = none
  b_all : mg "all" = none
  b_bool : mg "bool" = none
  b_enumerate : mg "enumerate" = none
  b_int : mg "int" = none
  b_isinstance : mg "isinstance" = none
  b_iter : mg "iter" = none
  b_len : mg "len" = none
  b_list : mg "list" = none
  b_max : mg "max" = none
  b_range : mg "range" = none
  b_repr : mg "repr" = none
  b_sorted : mg "sorted" = none
  b_str : mg "str" = none
  b_tuple : mg "tuple" = none
  b_zip : mg "zip" = none
  xx : XAll K mg FILE
  pf : PF P FILE
  xl : xLastB K = true
  c_Net : SlX.SCls K (He.ga K "Net")
  mk_Net : Mk K (He.ga K "Net") (He.ma K (He.ga K "Net") "__init__")
  gc_Net : mg "Net" = some (.ref (He.ga K "Net"))
  sl_Net_own_flows : SlF K "Net" "own_flows" 0
  sl_Net_own_names : SlF K "Net" "own_names" 1
  sl_Net_own_rooms : SlF K "Net" "own_rooms" 2
  m_Net___iter__ : Meth K (He.ga K "Net") "__iter__" (He.ma K (He.ga K "Net") "__iter__")
  f_Net___iter__ : ∃ fd, FunD K "__iter__" "Net.__iter__" (defArgs (meth 16 2)) (defBody (meth 16 2)) (defScope (meth 16 2)) [] [] (He.ma K (He.ga K "Net") "__iter__") fd
  f_Net___init__ : ∃ fd, FunD K "__init__" "Net.__init__" (defArgs (meth 16 1)) (defBody (meth 16 1)) (defScope (meth 16 1)) [] [] (He.ma K (He.ga K "Net") "__init__") fd
  m_Net_has_line : Meth K (He.ga K "Net") "has_line" (He.ma K (He.ga K "Net") "has_line")
  f_Net_has_line : ∃ fd, FunD K "has_line" "Net.has_line" (defArgs (meth 16 4)) (defBody (meth 16 4)) (defScope (meth 16 4)) [] [] (He.ma K (He.ga K "Net") "has_line") fd
  m_Net_has_flow : Meth K (He.ga K "Net") "has_flow" (He.ma K (He.ga K "Net") "has_flow")
  f_Net_has_flow : ∃ fd, FunD K "has_flow" "Net.has_flow" (defArgs (meth 16 5)) (defBody (meth 16 5)) (defScope (meth 16 5)) [] [] (He.ma K (He.ga K "Net") "has_flow") fd
  f_tupled : ∃ fd, FunD K "tupled" "tupled" (defArgs (top 11)) (defBody (top 11)) (defScope (top 11)) [] [] (He.ga K "tupled") fd
  g_tupled : mg "tupled" = some (.ref (He.ga K "tupled"))
  f_is_number : ∃ fd, FunD K "is_number" "is_number" (defArgs (top 13)) (defBody (top 13)) (defScope (top 13)) [] [] (He.ga K "is_number") fd
  g_is_number : mg "is_number" = some (.ref (He.ga K "is_number"))
  f_whole : ∃ fd, FunD K "whole" "whole" (defArgs (top 14)) (defBody (top 14)) (defScope (top 14)) [] [] (He.ga K "whole") fd
  g_whole : mg "whole" = some (.ref (He.ga K "whole"))
  f_widened : ∃ fd, FunD K "widened" "widened" (defArgs (top 18)) (defBody (top 18)) (defScope (top 18)) [] [] (He.ga K "widened") fd
  g_widened : mg "widened" = some (.ref (He.ga K "widened"))
  f_with_flow : ∃ fd, FunD K "with_flow" "with_flow" (defArgs (top 19)) (defBody (top 19)) (defScope (top 19)) [] [] (He.ga K "with_flow") fd
  g_with_flow : mg "with_flow" = some (.ref (He.ga K "with_flow"))
  f_without_flow : ∃ fd, FunD K "without_flow" "without_flow" (defArgs (top 20)) (defBody (top 20)) (defScope (top 20)) [] [] (He.ga K "without_flow") fd
  g_without_flow : mg "without_flow" = some (.ref (He.ga K "without_flow"))
  f__law_box : ∃ fd, FunD K "_law_box" "_law_box" (defArgs (top 22)) (defBody (top 22)) (defScope (top 22)) [] [] (He.ga K "_law_box") fd
  g__law_box : mg "_law_box" = some (.ref (He.ga K "_law_box"))
  f__law_take : ∃ fd, FunD K "_law_take" "_law_take" (defArgs (top 23)) (defBody (top 23)) (defScope (top 23)) [] [] (He.ga K "_law_take") fd
  g__law_take : mg "_law_take" = some (.ref (He.ga K "_law_take"))
  f__law_cells : ∃ fd, FunD K "_law_cells" "_law_cells" (defArgs (top 24)) (defBody (top 24)) (defScope (top 24)) [] [] (He.ga K "_law_cells") fd
  g__law_cells : mg "_law_cells" = some (.ref (He.ga K "_law_cells"))
  f__law_of : ∃ fd, FunD K "_law_of" "_law_of" (defArgs (top 25)) (defBody (top 25)) (defScope (top 25)) [] [] (He.ga K "_law_of") fd
  g__law_of : mg "_law_of" = some (.ref (He.ga K "_law_of"))
  f__law_lists : ∃ fd, FunD K "_law_lists" "_law_lists" (defArgs (top 26)) (defBody (top 26)) (defScope (top 26)) [] [] (He.ga K "_law_lists") fd
  g__law_lists : mg "_law_lists" = some (.ref (He.ga K "_law_lists"))
  f__law_same : ∃ fd, FunD K "_law_same" "_law_same" (defArgs (top 27)) (defBody (top 27)) (defScope (top 27)) [] [] (He.ga K "_law_same") fd
  g__law_same : mg "_law_same" = some (.ref (He.ga K "_law_same"))
  f__law_drawn_net : ∃ fd, FunD K "_law_drawn_net" "_law_drawn_net" (defArgs (top 28)) (defBody (top 28)) (defScope (top 28)) [] [] (He.ga K "_law_drawn_net") fd
  g__law_drawn_net : mg "_law_drawn_net" = some (.ref (He.ga K "_law_drawn_net"))
  f__law_row : ∃ fd, FunD K "_law_row" "_law_row" (defArgs (top 29)) (defBody (top 29)) (defScope (top 29)) [] [] (He.ga K "_law_row") fd
  g__law_row : mg "_law_row" = some (.ref (He.ga K "_law_row"))
  f__law_set_wide : ∃ fd, FunD K "_law_set_wide" "_law_set_wide" (defArgs (top 30)) (defBody (top 30)) (defScope (top 30)) [] [] (He.ga K "_law_set_wide") fd
  g__law_set_wide : mg "_law_set_wide" = some (.ref (He.ga K "_law_set_wide"))
  f__law_heard : ∃ fd, FunD K "_law_heard" "_law_heard" (defArgs (top 31)) (defBody (top 31)) (defScope (top 31)) [] [] (He.ga K "_law_heard") fd
  g__law_heard : mg "_law_heard" = some (.ref (He.ga K "_law_heard"))
  f__law_cases : ∃ fd, FunD K "_law_cases" "_law_cases" (defArgs (top 32)) (defBody (top 32)) (defScope (top 32)) [] [] (He.ga K "_law_cases") fd
  g__law_cases : mg "_law_cases" = some (.ref (He.ga K "_law_cases"))
  f__law_right : ∃ fd, FunD K "_law_right" "_law_right" (defArgs (top 33)) (defBody (top 33)) (defScope (top 33)) [] [] (He.ga K "_law_right") fd
  g__law_right : mg "_law_right" = some (.ref (He.ga K "_law_right"))
  f_law : ∃ fd, FunD K "law" "law" (defArgs (top 34)) (defBody (top 34)) (defScope (top 34)) [] [] (He.ga K "law") fd
  g_law : mg "law" = some (.ref (He.ga K "law"))
section
variable {P : Program} {w : World} {K : Frag} {mg : Str → Option Value} {base : Heap}
theorem sc_tupled : FnScope ["thing", "part"] ["thing"] (defScope s_tupled) := ⟨rfl, rfl, rfl, by decide +kernel, rfl, by decide +kernel, by decide +kernel⟩
def d_tupled : Nat → List D → Rs D
  | 0 => fun _ => none
  | n + 1 => den 1 2 (sret (lf [] (vif (tr (visi2 .list .tuple (v 0))) (vcallB (one dTuple) (acons (pur (ecomp [1] (iany (lf [] (v 0))) (gn 1) tyes (lf [] (vcall (d_tupled n) (acons (v 1) anil))))) anil)) (v 0))))
theorem ok_tupled (T : Txt P K mg) {fd : FuncData} (F : FunD K "tupled" "tupled" (defArgs s_tupled) (defBody s_tupled) (defScope s_tupled) [] [] (He.ga K "tupled") fd) : ∀ n, FnOk P w K mg base (L2.CX P w) (1 + n) (He.ga K "tupled") fd ["thing"] (spP K (d_tupled n))
  | 0 => fn_none F sc_tupled
  | n + 1 => by
    have sc := sc_tupled
    have ih : Fn P w K mg base (1 + n) "tupled" (d_tupled n) := ⟨_, fd, ["thing"], ok_tupled T F n, T.g_tupled, F.kp, F.bindsN fun _ _ _ _ _ _ us hl => match us, hl with | [_], _ => rfl⟩
    exact fn_okB (k := 1 + n) F sc (own := []) rfl rfl (fun cdv A outer s H E hr => (jb_of (js_one (js_ret (js_lift (jp_if (jt_truth (jp_isi2 .list .tuple T.b_isinstance T.b_list PyProof.Rows.boot_list T.b_tuple PyProof.Rows.boot_tuple (jp_v 0))) (jp_callTy call_tupleP d_tuple T.b_tuple PyProof.Rows.boot_tuple (ja_cons (j_of (je_lc (ow := [("part", 1)]) rfl sc.nd (ji_any (js_lift (jp_v 0))) (blkOk_by (by kernel_rfl)) (fun _ _ _ _ _ => (jg_n 1 sc.nd)) (fun _ _ _ _ _ => jts_nil) (fun _ _ _ _ _ => (js_lift (jp_call ih (hr.mono (by omega)) (ja_cons (jp_v 1) ja_nil)))))) ja_nil)) (jp_v 0)))))))
theorem fn_tupled (T : Txt P K mg) (n : Nat) : Fn P w K mg base (1 + n) "tupled" (d_tupled n) := by
  obtain ⟨fd, F⟩ := T.f_tupled
  exact ⟨_, fd, ["thing"], ok_tupled T F n, T.g_tupled, F.kp, F.bindsN fun _ _ _ _ _ _ us hl => match us, hl with | [_], _ => rfl⟩
theorem sc_is_number : FnScope ["thing"] ["thing"] (defScope s_is_number) := ⟨rfl, rfl, rfl, by decide +kernel, rfl, by decide +kernel, by decide +kernel⟩
def d_is_number : List D → Rs D := den 1 1 (sret (lf [] (vand (visi .int (v 0)) (vnot (visi .bool (v 0))))))
theorem ok_is_number (T : Txt P K mg) {fd : FuncData} (F : FunD K "is_number" "is_number" (defArgs s_is_number) (defBody s_is_number) (defScope s_is_number) [] [] (He.ga K "is_number") fd) : FnOk P w K mg base (L2.CX P w) 1 (He.ga K "is_number") fd ["thing"] (spP K d_is_number) := by
  have sc := sc_is_number
  exact fn_okB F sc (own := []) rfl rfl (fun cdv A outer s H E hr => (jb_of (js_one (js_ret (js_lift (jp_and (jp_isi .int T.b_isinstance T.b_int PyProof.Rows.boot_int (jp_v 0)) (jp_one (jp_not (jp_isi .bool T.b_isinstance T.b_bool PyProof.Rows.boot_bool (jp_v 0))))))))))
theorem fn_is_number (T : Txt P K mg) : Fn P w K mg base 1 "is_number" d_is_number := by
  obtain ⟨fd, F⟩ := T.f_is_number
  exact ⟨_, fd, ["thing"], ok_is_number T F, T.g_is_number, F.kp, F.bindsN fun _ _ _ _ _ _ us hl => match us, hl with | [_], _ => rfl⟩
theorem sc_whole : FnScope ["number"] ["number"] (defScope s_whole) := ⟨rfl, rfl, rfl, by decide +kernel, rfl, by decide +kernel, by decide +kernel⟩
def d_whole : List D → Rs D := den 1 1 (sret (lf [] (vif (tr (vcall d_is_number (acons (v 0) anil))) (vtup (acons (v 0) (acons (c (.int 1)) anil))) (vcallB (one dTuple) (acons (v 0) anil)))))
theorem ok_whole (T : Txt P K mg) {fd : FuncData} (F : FunD K "whole" "whole" (defArgs s_whole) (defBody s_whole) (defScope s_whole) [] [] (He.ga K "whole") fd) : FnOk P w K mg base (L2.CX P w) 2 (He.ga K "whole") fd ["number"] (spP K d_whole) := by
  have sc := sc_whole
  exact fn_okB F sc (own := []) rfl rfl (fun cdv A outer s H E hr => (jb_of (js_one (js_ret (js_lift (jp_if (jt_truth (jp_call (fn_is_number T) (hr.mono (by omega)) (ja_cons (jp_v 0) ja_nil))) (jp_tup (ja_cons (jp_v 0) (ja_cons jp_int ja_nil))) (jp_callTy call_tupleP d_tuple T.b_tuple PyProof.Rows.boot_tuple (ja_cons (jp_v 0) ja_nil))))))))
theorem fn_whole (T : Txt P K mg) : Fn P w K mg base 2 "whole" d_whole := by
  obtain ⟨fd, F⟩ := T.f_whole
  exact ⟨_, fd, ["number"], ok_whole T F, T.g_whole, F.kp, F.bindsN fun _ _ _ _ _ _ us hl => match us, hl with | [_], _ => rfl⟩
theorem sc_Net___init__ : FnScope ["self", "net", "lines", "flows", "name", "capacity", "row"] ["self", "net"] (defScope s_Net___init__) := ⟨rfl, rfl, rfl, by decide +kernel, rfl, by decide +kernel, by decide +kernel⟩
def d_Net___init__ : List D → Option D := denI "Net" 2 7 (sseq (sasg (gt (gscons (gn 2) (gscons (gn 3) gsnil))) (lf [0] (vcall (d_tupled 12) (acons (v 1) anil)))) (sseq (sfset 0 2 "Net" (lf [0] (pur (edcomp [4, 5] (iany (lf [] (v 2))) (gt (gscons (gn 4) (gscons (gn 5) gsnil))) tyes (lf [] (v 4)) (lf [] (vcall d_whole (acons (v 5) anil))))))) (sseq (sfset 0 0 "Net" (lf [0] (pur (edcomp [6] (iany (lf [] (v 3))) (gn 6) tyes (lf [] (op2 dIx (v 6) (c (.int 0)))) (lf [] (v 6)))))) (sfset 0 1 "Net" (ecallG (one dSorted2) (econs (efld 0 0 "Net") enil))))))
theorem ok_Net___init__ (T : Txt P K mg) {fd : FuncData} (F : FunD K "__init__" "Net.__init__" (defArgs s_Net___init__) (defBody s_Net___init__) (defScope s_Net___init__) [] [] (He.ma K (He.ga K "Net") "__init__") fd) : FnOk P w K mg base (L2.CX P w) 14 (He.ma K (He.ga K "Net") "__init__") fd ["self", "net"] (spI K "Net" d_Net___init__) := by
  have sc := sc_Net___init__
  exact fnI_okB "Net" F sc (own := [0]) rfl rfl rfl (fun cdv A outer s H E hr => (jb_cons (js_asg (jg_t rfl (jgs_cons (jg_n 2 sc.nd) (jgs_cons (jg_n 3 sc.nd) jgs_nil)) (gl_cons (gl_cons gl_nil))) (js_lift (jp_call (fn_tupled T 12) (hr.mono (by omega)) (ja_cons (jp_v 1) ja_nil)))) (jb_cons (js_fset 0 T.sl_Net_own_rooms (js_lift (j_of (je_n (jn_dc (ow := [("name", 4), ("capacity", 5)]) rfl sc.nd (ji_any (js_lift (jp_v 2))) (blkOk_by (by kernel_rfl)) (fun _ _ _ _ _ => (jg_t rfl (jgs_cons (jg_n 4 sc.nd) (jgs_cons (jg_n 5 sc.nd) jgs_nil)) (gl_cons (gl_cons gl_nil)))) (fun _ _ _ _ _ => jts_nil) (fun _ _ _ _ _ => (js_lift (jp_v 4))) (fun _ _ _ _ _ => (js_lift (jp_call (fn_whole T) (hr.mono (by omega)) (ja_cons (jp_v 5) ja_nil))))))))) (jb_cons (js_fset 0 T.sl_Net_own_flows (js_lift (j_of (je_n (jn_dc (ow := [("row", 6)]) rfl sc.nd (ji_any (js_lift (jp_v 3))) (blkOk_by (by kernel_rfl)) (fun _ _ _ _ _ => (jg_n 6 sc.nd)) (fun _ _ _ _ _ => jts_nil) (fun _ _ _ _ _ => (js_lift (jp_ix hr (jp_v 6) jp_int))) (fun _ _ _ _ _ => (js_lift (jp_v 6)))))))) (jb_of (js_one (js_fset 0 T.sl_Net_own_names (je_bi (b_sorted2 rfl (hu70 hr)) d_sorted2 T.b_sorted rfl (jae_cons (je_fld 0 T.sl_Net_own_flows) jae_nil)))))))))
theorem fn_Net___init__ (T : Txt P K mg) : FnI P w K mg base 14 "Net" d_Net___init__ := by
  obtain ⟨fd, F⟩ := T.f_Net___init__
  exact ⟨_, fd, ["self", "net"], ok_Net___init__ T F, T.mk_Net, T.gc_Net, F.bindsN fun _ _ _ _ _ _ us hl => match us, hl with | [_, _], _ => rfl⟩
theorem sc_Net_has_line : FnScope ["self", "line"] ["self", "line"] (defScope s_Net_has_line) := ⟨rfl, rfl, rfl, by decide +kernel, rfl, by decide +kernel, by decide +kernel⟩
def d_Net_has_line : List D → Rs D := den 2 2 (sret (lf [] (op2 dIn (v 1) (vattr "Net" 2 (v 0)))))
theorem ok_Net_has_line (T : Txt P K mg) {fd : FuncData} (F : FunD K "has_line" "Net.has_line" (defArgs s_Net_has_line) (defBody s_Net_has_line) (defScope s_Net_has_line) [] [] (He.ma K (He.ga K "Net") "has_line") fd) : FnOk P w K mg base (L2.CX P w) 1 (He.ma K (He.ga K "Net") "has_line") fd ["self", "line"] (spP K d_Net_has_line) := by
  have sc := sc_Net_has_line
  exact fn_okB F sc (own := []) rfl rfl (fun cdv A outer s H E hr => (jb_of (js_one (js_ret (js_lift (jp_c (jc_in hr (jp_v 1) (jp_attr T.sl_Net_own_rooms (jp_v 0)))))))))
theorem fn_Net_has_line (T : Txt P K mg) : FnM P w K mg base 1 "Net" "has_line" d_Net_has_line := by
  obtain ⟨fd, F⟩ := T.f_Net_has_line
  exact ⟨T.c_Net, _, fd, ["self", "line"], ok_Net_has_line T F, T.m_Net_has_line, F.bindsN fun _ _ _ _ _ _ us hl => match us, hl with | [_, _], _ => rfl⟩
theorem sc_Net_has_flow : FnScope ["self", "flow"] ["self", "flow"] (defScope s_Net_has_flow) := ⟨rfl, rfl, rfl, by decide +kernel, rfl, by decide +kernel, by decide +kernel⟩
def d_Net_has_flow : List D → Rs D := den 2 2 (sret (lf [] (op2 dIn (v 1) (vattr "Net" 0 (v 0)))))
theorem ok_Net_has_flow (T : Txt P K mg) {fd : FuncData} (F : FunD K "has_flow" "Net.has_flow" (defArgs s_Net_has_flow) (defBody s_Net_has_flow) (defScope s_Net_has_flow) [] [] (He.ma K (He.ga K "Net") "has_flow") fd) : FnOk P w K mg base (L2.CX P w) 1 (He.ma K (He.ga K "Net") "has_flow") fd ["self", "flow"] (spP K d_Net_has_flow) := by
  have sc := sc_Net_has_flow
  exact fn_okB F sc (own := []) rfl rfl (fun cdv A outer s H E hr => (jb_of (js_one (js_ret (js_lift (jp_c (jc_in hr (jp_v 1) (jp_attr T.sl_Net_own_flows (jp_v 0)))))))))
theorem fn_Net_has_flow (T : Txt P K mg) : FnM P w K mg base 1 "Net" "has_flow" d_Net_has_flow := by
  obtain ⟨fd, F⟩ := T.f_Net_has_flow
  exact ⟨T.c_Net, _, fd, ["self", "flow"], ok_Net_has_flow T F, T.m_Net_has_flow, F.bindsN fun _ _ _ _ _ _ us hl => match us, hl with | [_, _], _ => rfl⟩
theorem sc_widened : FnScope ["net", "line", "number", "lines", "flows", "name", "capacity"] ["net", "line", "number"] (defScope s_widened) := ⟨rfl, rfl, rfl, by decide +kernel, rfl, by decide +kernel, by decide +kernel⟩
def d_widened : List D → Rs D := den 3 7 (sseq (sif (lf [] (fun δ => bind ((tr (vmeth "Net" d_Net_has_line (vmake d_Net___init__ (acons (v 0) anil)) (acons (v 1) anil))) δ) fun b => ok (!b))) (sraise "NoLine" (lf [] (v 1))) snext) (sseq (sasg (gt (gscons (gn 3) (gscons (gn 4) gsnil))) (lf [] (vcall (d_tupled 12) (acons (v 0) anil)))) (sret (lf [] (vtup (acons (vcallB (one dTuple) (acons (pur (ecomp [5, 6] (iany (lf [] (v 3))) (gt (gscons (gn 5) (gscons (gn 6) gsnil))) tyes (lf [] (vtup (acons (v 5) (acons (vif (tb (op2 dEq (v 5) (v 1))) (v 2) (v 6)) anil)))))) anil)) (acons (v 4) anil)))))))
theorem ok_widened (T : Txt P K mg) {fd : FuncData} (F : FunD K "widened" "widened" (defArgs s_widened) (defBody s_widened) (defScope s_widened) [] [] (He.ga K "widened") fd) : FnOk P w K mg base (L2.CX P w) 16 (He.ga K "widened") fd ["net", "line", "number"] (spP K d_widened) := by
  have sc := sc_widened
  exact fn_okB F sc (own := []) rfl rfl (fun cdv A outer s H E hr => (jb_cons (js_if (js_lift (jt_not (jt_truth (jp_meth (fn_Net_has_line T) (hr.mono (by omega)) (jp_make (fn_Net___init__ T) (hr.mono (by omega)) (ja_cons (jp_v 0) ja_nil)) (ja_cons (jp_v 1) ja_nil))))) (js_one (js_raise (pf := T.pf) T.xx hr (js_lift (jp_v 1)))) js_nil) (jb_cons (js_asg (jg_t rfl (jgs_cons (jg_n 3 sc.nd) (jgs_cons (jg_n 4 sc.nd) jgs_nil)) (gl_cons (gl_cons gl_nil))) (js_lift (jp_call (fn_tupled T 12) (hr.mono (by omega)) (ja_cons (jp_v 0) ja_nil)))) (jb_of (js_one (js_ret (js_lift (jp_tup (ja_cons (jp_callTy call_tupleP d_tuple T.b_tuple PyProof.Rows.boot_tuple (ja_cons (j_of (je_lc (ow := [("name", 5), ("capacity", 6)]) rfl sc.nd (ji_any (js_lift (jp_v 3))) (blkOk_by (by kernel_rfl)) (fun _ _ _ _ _ => (jg_t rfl (jgs_cons (jg_n 5 sc.nd) (jgs_cons (jg_n 6 sc.nd) jgs_nil)) (gl_cons (gl_cons gl_nil)))) (fun _ _ _ _ _ => jts_nil) (fun _ _ _ _ _ => (js_lift (jp_tup (ja_cons (jp_v 5) (ja_cons (jp_if (jt_eq hr (jp_v 5) (jp_v 1)) (jp_v 2) (jp_v 6)) ja_nil))))))) ja_nil)) (ja_cons (jp_v 4) ja_nil))))))))))
theorem fn_widened (T : Txt P K mg) : Fn P w K mg base 16 "widened" d_widened := by
  obtain ⟨fd, F⟩ := T.f_widened
  exact ⟨_, fd, ["net", "line", "number"], ok_widened T F, T.g_widened, F.kp, F.bindsN fun _ _ _ _ _ _ us hl => match us, hl with | [_, _, _], _ => rfl⟩
theorem sc_with_flow : FnScope [("net" : Str), ("flow" : Str), ("known" : Str), ("more" : Str), ("line" : Str), ("lines" : Str), ("flows" : Str), (" 7" : Str), (" 8" : Str), (" 9" : Str), (" 10" : Str), (" 11" : Str), (" 12" : Str), (" 13" : Str), (" 14" : Str), (" 15" : Str), (" 16" : Str), (" 17" : Str), (" 18" : Str), (" 19" : Str), (" 20" : Str), (" 21" : Str), (" 22" : Str), (" 23" : Str), (" 24" : Str), (" 25" : Str), (" 26" : Str), (" 27" : Str), (" 28" : Str), (" 29" : Str), (" 30" : Str), (" 31" : Str), (" 32" : Str), (" 33" : Str), (" 34" : Str), (" 35" : Str), (" 36" : Str), (" 37" : Str), (" 38" : Str), (" 39" : Str), (" 40" : Str)] ["net", "flow"] (defScope s_with_flow) := ⟨rfl, rfl, rfl, by decide +kernel, rfl, by decide +kernel, by decide +kernel⟩
def d_with_flow : List D → Rs D := denT 2 "with_flow" (sseq (spar2 2 3 (lf [40] (acons (vmake d_Net___init__ (acons (v 0) anil)) (acons (vcall (d_tupled 12) (acons (v 1) anil)) anil)))) (sseq (sif (lf [40] (tr (vmeth "Net" d_Net_has_flow (v 2) (acons (op2 dIx (v 3) (c (.int 0))) anil)))) (sraise "Doubled" (lf [40] (op2 dIx (v 3) (c (.int 0))))) snext) (sseq (sforI (iany (lf [40] (op2 dIx (v 3) (c (.int 1))))) (gn 4) (sif (lf [40] (fun δ => bind ((tr (vmeth "Net" d_Net_has_line (v 2) (acons (v 4) anil))) δ) fun b => ok (!b))) (sraise "NoLine" (lf [40] (v 4))) snext)) (sseq (sasg (gt (gscons (gn 5) (gscons (gn 6) gsnil))) (lf [40] (vcall (d_tupled 12) (acons (v 0) anil)))) (sret (etup (econs (lf [40] (v 5)) (econs (ecallG (one dTuple) (econs (esortK "with_flow" (lf [40] (op2 dAdd (v 6) (vtup (acons (v 3) anil))))) enil)) enil))))))))
theorem ok_with_flow (T : Txt P K mg) (TB : LamX.TabB base mg (He.cT K ("with_flow", none)).1 (He.cT K ("with_flow", none)).2) {fd : FuncData} (F : FunD K "with_flow" "with_flow" (defArgs s_with_flow) (defBody s_with_flow) (defScope s_with_flow) [] [] (He.ga K "with_flow") fd) : FnOk P w K mg base (L2.CX P w) 16 (He.ga K "with_flow") fd ["net", "flow"] (spT K "with_flow" d_with_flow) := by
  have sc := sc_with_flow
  exact fnT_ok F sc (own := [40]) rfl rfl rfl rfl (fun cdv A outer s H E hcv hr => (jb_cons (js_par2 2 3 rfl sc.nd (js_lift (ja_cons (jp_make (fn_Net___init__ T) (hr.mono (by omega)) (ja_cons (jp_v 0) ja_nil)) (ja_cons (jp_call (fn_tupled T 12) (hr.mono (by omega)) (ja_cons (jp_v 1) ja_nil)) ja_nil)))) (jb_cons (js_if (js_lift (jt_truth (jp_meth (fn_Net_has_flow T) (hr.mono (by omega)) (jp_v 2) (ja_cons (jp_ix hr (jp_v 3) jp_int) ja_nil)))) (js_one (js_raise (pf := T.pf) T.xx hr (js_lift (jp_ix hr (jp_v 3) jp_int)))) js_nil) (jb_cons (js_for (passes_of rfl) rfl (ji_any (js_lift (jp_ix hr (jp_v 3) jp_int))) (jg_n 4 sc.nd) (js_one (js_if (js_lift (jt_not (jt_truth (jp_meth (fn_Net_has_line T) (hr.mono (by omega)) (jp_v 2) (ja_cons (jp_v 4) ja_nil))))) (js_one (js_raise (pf := T.pf) T.xx hr (js_lift (jp_v 4)))) js_nil))) (jb_cons (js_asg (jg_t rfl (jgs_cons (jg_n 5 sc.nd) (jgs_cons (jg_n 6 sc.nd) jgs_nil)) (gl_cons (gl_cons gl_nil))) (js_lift (jp_call (fn_tupled T 12) (hr.mono (by omega)) (ja_cons (jp_v 0) ja_nil)))) (jb_of (js_one (js_ret (je_tup (jae_cons (js_lift (jp_v 5)) (jae_cons (je_ty call_tupleP d_tuple T.b_tuple PyProof.Rows.boot_tuple (jae_cons (je_sortK (n := 1) T.b_sorted (js_lift (jp_add (jp_v 6) (jp_tup (ja_cons (jp_v 3) ja_nil)))) (hr.mono (by omega)) rfl (hu70 hr) TB hcv) jae_nil)) jae_nil)))))))))))
theorem fn_with_flow (T : Txt P K mg) (TB : LamX.TabB base mg (He.cT K ("with_flow", none)).1 (He.cT K ("with_flow", none)).2) : FnT P w K mg base 16 "with_flow" "with_flow" d_with_flow := by
  obtain ⟨fd, F⟩ := T.f_with_flow
  exact ⟨_, fd, ["net", "flow"], ok_with_flow T TB F, T.g_with_flow, F.kp, F.bindsN fun _ _ _ _ _ _ us hl => match us, hl with | [_, _], _ => rfl⟩
theorem sc_without_flow : FnScope ["net", "name", "lines", "flows", "row"] ["net", "name"] (defScope s_without_flow) := ⟨rfl, rfl, rfl, by decide +kernel, rfl, by decide +kernel, by decide +kernel⟩
def d_without_flow : List D → Rs D := den 2 5 (sseq (sif (lf [] (fun δ => bind ((tr (vmeth "Net" d_Net_has_flow (vmake d_Net___init__ (acons (v 0) anil)) (acons (v 1) anil))) δ) fun b => ok (!b))) (sraise "NoFlow" (lf [] (v 1))) snext) (sseq (sasg (gt (gscons (gn 2) (gscons (gn 3) gsnil))) (lf [] (vcall (d_tupled 12) (acons (v 0) anil)))) (sseq (sif (lf [] (tb (op2 dEq (vcallB (one dLen) (acons (v 3) anil)) (c (.int 1))))) (sraise0 "LastFlow") snext) (sret (lf [] (vtup (acons (v 2) (acons (vcallB (one dTuple) (acons (pur (ecomp [4] (iany (lf [] (v 3))) (gn 4) (lf [] (tb (op2 dNe (op2 dIx (v 4) (c (.int 0))) (v 1)))) (lf [] (v 4)))) anil)) anil))))))))
theorem ok_without_flow (T : Txt P K mg) {fd : FuncData} (F : FunD K "without_flow" "without_flow" (defArgs s_without_flow) (defBody s_without_flow) (defScope s_without_flow) [] [] (He.ga K "without_flow") fd) : FnOk P w K mg base (L2.CX P w) 16 (He.ga K "without_flow") fd ["net", "name"] (spP K d_without_flow) := by
  have sc := sc_without_flow
  exact fn_okB F sc (own := []) rfl rfl (fun cdv A outer s H E hr => (jb_cons (js_if (js_lift (jt_not (jt_truth (jp_meth (fn_Net_has_flow T) (hr.mono (by omega)) (jp_make (fn_Net___init__ T) (hr.mono (by omega)) (ja_cons (jp_v 0) ja_nil)) (ja_cons (jp_v 1) ja_nil))))) (js_one (js_raise (pf := T.pf) T.xx hr (js_lift (jp_v 1)))) js_nil) (jb_cons (js_asg (jg_t rfl (jgs_cons (jg_n 2 sc.nd) (jgs_cons (jg_n 3 sc.nd) jgs_nil)) (gl_cons (gl_cons gl_nil))) (js_lift (jp_call (fn_tupled T 12) (hr.mono (by omega)) (ja_cons (jp_v 0) ja_nil)))) (jb_cons (js_if (js_lift (jt_eq hr (jp_callB b_len d_len T.b_len PySem.boot_len (ja_cons (jp_v 3) ja_nil)) jp_int)) (js_one (js_raise0 T.xx T.xl)) js_nil) (jb_of (js_one (js_ret (js_lift (jp_tup (ja_cons (jp_v 2) (ja_cons (jp_callTy call_tupleP d_tuple T.b_tuple PyProof.Rows.boot_tuple (ja_cons (j_of (je_lc (ow := [("row", 4)]) rfl sc.nd (ji_any (js_lift (jp_v 3))) (blkOk_by (by kernel_rfl)) (fun _ _ _ _ _ => (jg_n 4 sc.nd)) (fun _ _ _ _ _ => (jts_one (js_lift (jt_ne hr (jp_ix hr (jp_v 4) jp_int) (jp_v 1))))) (fun _ _ _ _ _ => (js_lift (jp_v 4))))) ja_nil)) ja_nil)))))))))))
theorem fn_without_flow (T : Txt P K mg) : Fn P w K mg base 16 "without_flow" d_without_flow := by
  obtain ⟨fd, F⟩ := T.f_without_flow
  exact ⟨_, fd, ["net", "name"], ok_without_flow T F, T.g_without_flow, F.kp, F.bindsN fun _ _ _ _ _ _ us hl => match us, hl with | [_, _], _ => rfl⟩
theorem sc__law_box : FnScope ["_law_script", "_law_k", "_law_cell"] ["_law_script", "_law_k"] (defScope s__law_box) := ⟨rfl, rfl, rfl, by decide +kernel, rfl, by decide +kernel, by decide +kernel⟩
def d__law_box : List D → Rs D := denN 2 3 (rseq (sset 2 (lf [] (vif (tb (op2 dLt (v 1) (vcallB (one dLen) (acons (v 0) anil)))) (op2 dIx (v 0) (v 1)) (c (.int 0))))) (elst (lf [] (acons (op2 dMul (vcallB (one dAbs) (acons (v 2) anil)) (vcallB (one dInt) (acons (op2 dGe (vcallB (one dAbs) (acons (v 2) anil)) (op2 dPow (c (.int 10)) (c (.int 18)))) anil))) (acons (op2 dAdd (op2 dAdd (op2 dMod (vcallB (one dInt) (acons (v 2) anil)) (c (.int 2305843009213693951))) (op2 dMul (c (.int 39373)) (v 1))) (c (.int 131))) (acons (c (.int 0)) anil))))))
theorem ok__law_box (T : Txt P K mg) {fd : FuncData} (F : FunD K "_law_box" "_law_box" (defArgs s__law_box) (defBody s__law_box) (defScope s__law_box) [] [] (He.ga K "_law_box") fd) : FnOk P w K mg base (L2.CX P w) 1 (He.ga K "_law_box") fd ["_law_script", "_law_k"] (spN K d__law_box) := by
  have sc := sc__law_box
  exact fnN_ok F sc (own := []) rfl rfl (fun cdv A outer s H E hr => (jr_cons (js_set 2 sc.nd (js_lift (jp_if (jt_lt (jp_v 1) (jp_callB b_len d_len T.b_len PySem.boot_len (ja_cons (jp_v 0) ja_nil))) (jp_ix hr (jp_v 0) (jp_v 1)) jp_int))) (jr_ret (jn_lst (js_lift (ja_cons (jp_mul (jp_callB call_abs d_abs T.b_abs PyProof.Rows.boot_abs (ja_cons (jp_v 2) ja_nil)) (jp_callTy b_int d_int T.b_int PyProof.Rows.boot_int (ja_cons (jp_ge (jp_callB call_abs d_abs T.b_abs PyProof.Rows.boot_abs (ja_cons (jp_v 2) ja_nil)) (jp_pow jp_int jp_int)) ja_nil))) (ja_cons (jp_add (jp_add (jp_mod (jp_callTy b_int d_int T.b_int PyProof.Rows.boot_int (ja_cons (jp_v 2) ja_nil)) jp_int) (jp_mul jp_int (jp_v 1))) jp_int) (ja_cons jp_int ja_nil))))))))
theorem fn__law_box (T : Txt P K mg) : FnN P w K mg base 1 "_law_box" d__law_box := by
  obtain ⟨fd, F⟩ := T.f__law_box
  exact ⟨_, fd, ["_law_script", "_law_k"], ok__law_box T F, T.g__law_box, F.kp, F.bindsN fun _ _ _ _ _ _ us hl => match us, hl with | [_, _], _ => rfl⟩
theorem sc__law_take : FnScope ["_law_box_here", "_law_below", "_law_drawn", "_law_once", "_law_far", "_law_twice"] ["_law_box_here", "_law_below"] (defScope s__law_take) := ⟨rfl, rfl, rfl, by decide +kernel, rfl, by decide +kernel, by decide +kernel⟩
def d__law_take : List D → List D → Option (D × List D) := denB 2 6 (sseq (sif (lfT (tb (op2 dGt (op2 dIx (v 0) (c (.int 0))) (c (.int 0))))) (sseq (sset 2 (lfo (op2 dMod (vcallB (one dInt) (acons (op2 dIx (v 0) (c (.int 0))) anil)) (v 1)))) (sseq (sixset 0 (lf [0] (c (.int 0))) (lfo (op2 dFdiv (op2 dIx (v 0) (c (.int 0))) (v 1)))) (sret (lf [0] (v 2))))) snext) (sseq (sixset 0 (lf [0] (c (.int 2))) (lfo (op2 dAdd (op2 dIx (v 0) (c (.int 2))) (c (.int 1))))) (sseq (sset 3 (lfo (op2 dMod (vcallB (one dInt) (acons (op2 dMul (op2 dAdd (op2 dIx (v 0) (c (.int 1))) (op2 dMul (c (.int 48271)) (op2 dIx (v 0) (c (.int 2))))) (op2 dAdd (c (.int 39373)) (op2 dIx (v 0) (c (.int 2))))) anil)) (c (.int 2147483647))))) (sseq (sset 4 (lf [0] (op2 dAdd (op2 dMod (vcallB (one dInt) (acons (v 3) anil)) (c (.int 40009))) (c (.int 7))))) (sseq (sset 5 (lfo (op2 dMod (vcallB (one dInt) (acons (op2 dMul (op2 dAdd (op2 dAdd (v 3) (op2 dIx (v 0) (c (.int 2)))) (op2 dFdiv (op2 dIx (v 0) (c (.int 1))) (c (.int 1000003)))) (v 4)) anil)) (c (.int 2147483629))))) (sret (lf [0] (op2 dMod (vcallB (one dInt) (acons (op2 dFdiv (op2 dMod (vcallB (one dInt) (acons (op2 dAdd (op2 dMul (v 5) (c (.int 48271))) (v 3)) anil)) (c (.int 2147483587))) (c (.int 64))) anil)) (v 1)))))))))
theorem ok__law_take (T : Txt P K mg) {fd : FuncData} (F : FunD K "_law_take" "_law_take" (defArgs s__law_take) (defBody s__law_take) (defScope s__law_take) [] [] (He.ga K "_law_take") fd) : FnOk P w K mg base (L2.CX P w) 1 (He.ga K "_law_take") fd ["_law_box_here", "_law_below"] (spB K d__law_take) := by
  have sc := sc__law_take
  exact fnB_okB F sc (own := [0]) rfl rfl rfl (fun cdv A outer s H E hr => (jb_cons (js_if (jte_o (jt_gt (jp_ix hr (jp_v 0) jp_int) jp_int)) (js_cons (js_set 2 sc.nd (je_o (jp_mod (jp_callTy b_int d_int T.b_int PyProof.Rows.boot_int (ja_cons (jp_ix hr (jp_v 0) jp_int) ja_nil)) (jp_v 1)))) (js_cons (js_ixset 0 (je_o (jp_fdiv (jp_ix hr (jp_v 0) jp_int) (jp_v 1))) (js_lift jp_int)) (js_one (js_ret (js_lift (jp_v 2)))))) js_nil) (jb_cons (js_ixset 0 (je_o (jp_add (jp_ix hr (jp_v 0) jp_int) jp_int)) (js_lift jp_int)) (jb_cons (js_set 3 sc.nd (je_o (jp_mod (jp_callTy b_int d_int T.b_int PyProof.Rows.boot_int (ja_cons (jp_mul (jp_add (jp_ix hr (jp_v 0) jp_int) (jp_mul jp_int (jp_ix hr (jp_v 0) jp_int))) (jp_add jp_int (jp_ix hr (jp_v 0) jp_int))) ja_nil)) jp_int))) (jb_cons (js_set 4 sc.nd (js_lift (jp_add (jp_mod (jp_callTy b_int d_int T.b_int PyProof.Rows.boot_int (ja_cons (jp_v 3) ja_nil)) jp_int) jp_int))) (jb_cons (js_set 5 sc.nd (je_o (jp_mod (jp_callTy b_int d_int T.b_int PyProof.Rows.boot_int (ja_cons (jp_mul (jp_add (jp_add (jp_v 3) (jp_ix hr (jp_v 0) jp_int)) (jp_fdiv (jp_ix hr (jp_v 0) jp_int) jp_int)) (jp_v 4)) ja_nil)) jp_int))) (jb_of (js_one (js_ret (js_lift (jp_mod (jp_callTy b_int d_int T.b_int PyProof.Rows.boot_int (ja_cons (jp_fdiv (jp_mod (jp_callTy b_int d_int T.b_int PyProof.Rows.boot_int (ja_cons (jp_add (jp_mul (jp_v 5) jp_int) (jp_v 3)) ja_nil)) jp_int) jp_int) ja_nil)) (jp_v 1))))))))))))
theorem fn__law_take (T : Txt P K mg) : FnB P w K mg base 1 "_law_take" d__law_take := by
  obtain ⟨fd, F⟩ := T.f__law_take
  exact ⟨_, fd, ["_law_box_here", "_law_below"], ok__law_take T F, T.g__law_take, F.kp, F.bindsN fun _ _ _ _ _ _ us hl => match us, hl with | [_, _], _ => rfl⟩
theorem sc__law_cells : FnScope ["_law_script", "_law_most", "_law_cells_here", "_law_k", "_law_cell", "_law_at_so"] ["_law_script", "_law_most"] (defScope s__law_cells) := ⟨rfl, rfl, rfl, by decide +kernel, rfl, by decide +kernel, by decide +kernel⟩
def d__law_cells : List D → Rs D := den 2 6 (sseq (sset 2 (enor (ecallG (one dList) (lf [2] (acons (vsl (v 0) onone (osome (v 1))) anil))) (elst (lf [2] (acons (c (.int 0)) anil))))) (sseq (sforI (ienum (lf [2] (vsl (v 0) (osome (v 1)) (osome (c (.int 63)))))) (gt (gscons (gn 3) (gscons (gn 4) gsnil))) (sseq (sset 5 (lf [2] (op2 dMod (vcallB (one dInt) (acons (v 3) anil)) (v 1)))) (sixset 2 (lf [2] (v 5)) (lfo (op2 dAdd (op2 dIx (v 2) (v 5)) (op2 dMul (v 4) (op2 dAdd (v 3) (c (.int 2))))))))) (sfrz [2] (sret (lf [] (v 2))))))
theorem ok__law_cells (T : Txt P K mg) {fd : FuncData} (F : FunD K "_law_cells" "_law_cells" (defArgs s__law_cells) (defBody s__law_cells) (defScope s__law_cells) [] [] (He.ga K "_law_cells") fd) : FnOk P w K mg base (L2.CX P w) 1 (He.ga K "_law_cells") fd ["_law_script", "_law_most"] (spP K d__law_cells) := by
  have sc := sc__law_cells
  exact fn_okB F sc (own := [2]) rfl rfl (fun cdv A outer s H E hr => (jb_cons (js_setN 2 sc.nd (jn_or (jn_ty (b_list rfl) n_list T.b_list PyProof.Rows.boot_list (js_lift (ja_cons (jp_sl (jp_v 0) jo_none (jo_some (jp_v 1))) ja_nil))) (jn_lst (js_lift (ja_cons jp_int ja_nil))))) (jb_cons (js_for (passes_of rfl) rfl (ji_enum T.b_enumerate (js_lift (jp_sl (jp_v 0) (jo_some (jp_v 1)) (jo_some jp_int)))) (jg_t rfl (jgs_cons (jg_n 3 sc.nd) (jgs_cons (jg_n 4 sc.nd) jgs_nil)) (gl_cons (gl_cons gl_nil))) (js_cons (js_set 5 sc.nd (js_lift (jp_mod (jp_callTy b_int d_int T.b_int PyProof.Rows.boot_int (ja_cons (jp_v 3) ja_nil)) (jp_v 1)))) (js_one (js_ixset 2 (je_o (jp_add (jp_ix hr (jp_v 2) (jp_v 5)) (jp_mul (jp_v 4) (jp_add (jp_v 3) jp_int)))) (js_lift (jp_v 5)))))) (jb_frz (own := [2]) 2 (jb_of (js_one (js_ret (js_lift (jp_v 2)))))))))
theorem fn__law_cells (T : Txt P K mg) : Fn P w K mg base 1 "_law_cells" d__law_cells := by
  obtain ⟨fd, F⟩ := T.f__law_cells
  exact ⟨_, fd, ["_law_script", "_law_most"], ok__law_cells T F, T.g__law_cells, F.kp, F.bindsN fun _ _ _ _ _ _ us hl => match us, hl with | [_, _], _ => rfl⟩
theorem sc__law_of : FnScope ["_law_box_here", "_law_some"] ["_law_box_here", "_law_some"] (defScope s__law_of) := ⟨rfl, rfl, rfl, by decide +kernel, rfl, by decide +kernel, by decide +kernel⟩
def d__law_of : List D → List D → Option (D × List D) := denB 2 2 (sret (eop2 dIx (lf [0] (v 1)) (ecallB d__law_take 0 (lf [0] (acons (vcallB (one dLen) (acons (v 1) anil)) anil)))))
theorem ok__law_of (T : Txt P K mg) {fd : FuncData} (F : FunD K "_law_of" "_law_of" (defArgs s__law_of) (defBody s__law_of) (defScope s__law_of) [] [] (He.ga K "_law_of") fd) : FnOk P w K mg base (L2.CX P w) 2 (He.ga K "_law_of") fd ["_law_box_here", "_law_some"] (spB K d__law_of) := by
  have sc := sc__law_of
  exact fnB_okB F sc (own := [0]) rfl rfl rfl (fun cdv A outer s H E hr => (jb_of (js_one (js_ret (je_ix hr (js_lift (jp_v 1)) (je_callB 0 (fn__law_take T) (hr.mono (by omega)) (js_lift (ja_cons (jp_callB b_len d_len T.b_len PySem.boot_len (ja_cons (jp_v 1) ja_nil)) ja_nil))))))))
theorem fn__law_of (T : Txt P K mg) : FnB P w K mg base 2 "_law_of" d__law_of := by
  obtain ⟨fd, F⟩ := T.f__law_of
  exact ⟨_, fd, ["_law_box_here", "_law_some"], ok__law_of T F, T.g__law_of, F.kp, F.bindsN fun _ _ _ _ _ _ us hl => match us, hl with | [_, _], _ => rfl⟩
theorem sc__law_lists : FnScope ["_law_matter", "_law_bit"] ["_law_matter"] (defScope s__law_lists) := ⟨rfl, rfl, rfl, by decide +kernel, rfl, by decide +kernel, by decide +kernel⟩
def d__law_lists : Nat → List D → Rs D
  | 0 => fun _ => none
  | n + 1 => den 1 2 (sret (lf [] (vif (tr (visi2 .list .tuple (v 0))) (pur (ecomp [1] (iany (lf [] (v 0))) (gn 1) tyes (lf [] (vcall (d__law_lists n) (acons (v 1) anil))))) (v 0))))
theorem ok__law_lists (T : Txt P K mg) {fd : FuncData} (F : FunD K "_law_lists" "_law_lists" (defArgs s__law_lists) (defBody s__law_lists) (defScope s__law_lists) [] [] (He.ga K "_law_lists") fd) : ∀ n, FnOk P w K mg base (L2.CX P w) (1 + n) (He.ga K "_law_lists") fd ["_law_matter"] (spP K (d__law_lists n))
  | 0 => fn_none F sc__law_lists
  | n + 1 => by
    have sc := sc__law_lists
    have ih : Fn P w K mg base (1 + n) "_law_lists" (d__law_lists n) := ⟨_, fd, ["_law_matter"], ok__law_lists T F n, T.g__law_lists, F.kp, F.bindsN fun _ _ _ _ _ _ us hl => match us, hl with | [_], _ => rfl⟩
    exact fn_okB (k := 1 + n) F sc (own := []) rfl rfl (fun cdv A outer s H E hr => (jb_of (js_one (js_ret (js_lift (jp_if (jt_truth (jp_isi2 .list .tuple T.b_isinstance T.b_list PyProof.Rows.boot_list T.b_tuple PyProof.Rows.boot_tuple (jp_v 0))) (j_of (je_lc (ow := [("_law_bit", 1)]) rfl sc.nd (ji_any (js_lift (jp_v 0))) (blkOk_by (by kernel_rfl)) (fun _ _ _ _ _ => (jg_n 1 sc.nd)) (fun _ _ _ _ _ => jts_nil) (fun _ _ _ _ _ => (js_lift (jp_call ih (hr.mono (by omega)) (ja_cons (jp_v 1) ja_nil)))))) (jp_v 0)))))))
theorem fn__law_lists (T : Txt P K mg) (n : Nat) : Fn P w K mg base (1 + n) "_law_lists" (d__law_lists n) := by
  obtain ⟨fd, F⟩ := T.f__law_lists
  exact ⟨_, fd, ["_law_matter"], ok__law_lists T F n, T.g__law_lists, F.kp, F.bindsN fun _ _ _ _ _ _ us hl => match us, hl with | [_], _ => rfl⟩
theorem sc__law_same : FnScope ["_law_found", "_law_due", "_law_mine", "_law_its"] ["_law_found", "_law_due"] (defScope s__law_same) := ⟨rfl, rfl, rfl, by decide +kernel, rfl, by decide +kernel, by decide +kernel⟩
def d__law_same : Nat → List D → Rs D
  | 0 => fun _ => none
  | n + 1 => den 2 4 (sseq (sif (lf [] (tr (visi2 .list .tuple (v 1)))) (sseq (sif (lf [] (tor (tb (op2 dNe (visi .list (v 0)) (visi .list (v 1)))) (tb (op2 dNe (visi .tuple (v 0)) (visi .tuple (v 1)))))) (sret (lf [] (c (.bl false)))) snext) (sret (lf [] (vand (op2 dEq (vcallB (one dLen) (acons (v 0) anil)) (vcallB (one dLen) (acons (v 1) anil))) (vcallB (one dAll) (acons (pur (ecomp [2, 3] (izip (lf [] (acons (v 0) (acons (v 1) anil)))) (gt (gscons (gn 2) (gscons (gn 3) gsnil))) tyes (lf [] (vcall (d__law_same n) (acons (v 2) (acons (v 3) anil)))))) anil)))))) snext) (sseq (sif (lf [] (tor (fun δ => bind ((v 1) δ) fun x => ok (isNon x)) (tr (visi2 .bool .str (v 1))))) (sret (lf [] (vand (op2 dEq (v 0) (v 1)) (vand (op2 dEq (visi .bool (v 0)) (visi .bool (v 1))) (op2 dEq (vis (v 0)) (vis (v 1))))))) snext) (sret (lf [] (vand (visi .int (v 0)) (vand (vnot (visi .bool (v 0))) (op2 dEq (v 0) (v 1))))))))
theorem ok__law_same (T : Txt P K mg) {fd : FuncData} (F : FunD K "_law_same" "_law_same" (defArgs s__law_same) (defBody s__law_same) (defScope s__law_same) [] [] (He.ga K "_law_same") fd) : ∀ n, FnOk P w K mg base (L2.CX P w) (1 + n) (He.ga K "_law_same") fd ["_law_found", "_law_due"] (spP K (d__law_same n))
  | 0 => fn_none F sc__law_same
  | n + 1 => by
    have sc := sc__law_same
    have ih : Fn P w K mg base (1 + n) "_law_same" (d__law_same n) := ⟨_, fd, ["_law_found", "_law_due"], ok__law_same T F n, T.g__law_same, F.kp, F.bindsN fun _ _ _ _ _ _ us hl => match us, hl with | [_, _], _ => rfl⟩
    exact fn_okB (k := 1 + n) F sc (own := []) rfl rfl (fun cdv A outer s H E hr => (jb_cons (js_if (js_lift (jt_truth (jp_isi2 .list .tuple T.b_isinstance T.b_list PyProof.Rows.boot_list T.b_tuple PyProof.Rows.boot_tuple (jp_v 1)))) (js_cons (js_if (js_lift (jt_w (jw_or (jt_ne hr (jp_isi .list T.b_isinstance T.b_list PyProof.Rows.boot_list (jp_v 0)) (jp_isi .list T.b_isinstance T.b_list PyProof.Rows.boot_list (jp_v 1))) (jw_or1 (jt_ne hr (jp_isi .tuple T.b_isinstance T.b_tuple PyProof.Rows.boot_tuple (jp_v 0)) (jp_isi .tuple T.b_isinstance T.b_tuple PyProof.Rows.boot_tuple (jp_v 1))))))) (js_one (js_ret (js_lift jp_bl))) js_nil) (js_one (js_ret (js_lift (jp_and (jp_eq hr (jp_callB b_len d_len T.b_len PySem.boot_len (ja_cons (jp_v 0) ja_nil)) (jp_callB b_len d_len T.b_len PySem.boot_len (ja_cons (jp_v 1) ja_nil))) (jp_one (jp_callB (cr_all rfl) d_all T.b_all PyProof.Rows.boot_all (ja_cons (j_of (je_lc (ow := [("_law_mine", 2), ("_law_its", 3)]) rfl sc.nd (ji_zip T.b_zip (js_lift (ja_cons (jp_v 0) (ja_cons (jp_v 1) ja_nil)))) (blkOk_by (by kernel_rfl)) (fun _ _ _ _ _ => (jg_t rfl (jgs_cons (jg_n 2 sc.nd) (jgs_cons (jg_n 3 sc.nd) jgs_nil)) (gl_cons (gl_cons gl_nil)))) (fun _ _ _ _ _ => jts_nil) (fun _ _ _ _ _ => (js_lift (jp_call ih (hr.mono (by omega)) (ja_cons (jp_v 2) (ja_cons (jp_v 3) ja_nil))))))) ja_nil)))))))) js_nil) (jb_cons (js_if (js_lift (jt_w (jw_or (jt_is (jp_v 1)) (jw_or1 (jt_truth (jp_isi2 .bool .str T.b_isinstance T.b_bool PyProof.Rows.boot_bool T.b_str PyProof.Rows.boot_str (jp_v 1))))))) (js_one (js_ret (js_lift (jp_and (jp_eq hr (jp_v 0) (jp_v 1)) (jp_and (jp_eq hr (jp_isi .bool T.b_isinstance T.b_bool PyProof.Rows.boot_bool (jp_v 0)) (jp_isi .bool T.b_isinstance T.b_bool PyProof.Rows.boot_bool (jp_v 1))) (jp_one (jp_eq hr (jp_is (jp_v 0)) (jp_is (jp_v 1))))))))) js_nil) (jb_of (js_one (js_ret (js_lift (jp_and (jp_isi .int T.b_isinstance T.b_int PyProof.Rows.boot_int (jp_v 0)) (jp_and (jp_not (jp_isi .bool T.b_isinstance T.b_bool PyProof.Rows.boot_bool (jp_v 0))) (jp_one (jp_eq hr (jp_v 0) (jp_v 1))))))))))))
theorem fn__law_same (T : Txt P K mg) (n : Nat) : Fn P w K mg base (1 + n) "_law_same" (d__law_same n) := by
  obtain ⟨fd, F⟩ := T.f__law_same
  exact ⟨_, fd, ["_law_found", "_law_due"], ok__law_same T F n, T.g__law_same, F.kp, F.bindsN fun _ _ _ _ _ _ us hl => match us, hl with | [_, _], _ => rfl⟩
theorem sc__law_drawn_net : FnScope ["_law_box_here", "_law_wires", "_law_many", "_law_kind", "_law_left", "_law_found", "_law_turn", "_law_labels", "_law_rows", "_law_own", "_law_weight", "_law_bottom", "_law_top", "_law_line_so"] ["_law_box_here", "_law_wires", "_law_many", "_law_kind"] (defScope s__law_drawn_net) := ⟨rfl, rfl, rfl, by decide +kernel, rfl, by decide +kernel, by decide +kernel⟩
def d__law_drawn_net : List D → List D → Option (D × List D) := denB 4 14 (sseq (spar2 4 5 (econs (elst (lf [0, 4, 5, 7, 8] (acons (c (.str "a")) (acons (c (.str "b")) (acons (c (.str "c")) (acons (c (.str "d")) (acons (c (.str "ab")) (acons (c (.str "k")) anil)))))))) (econs (elst (lf [0, 4, 5, 7, 8] anil)) enil))) (sseq (sforI (irng1 (lf [0, 4, 5, 7, 8] (v 1))) (gn 6) (sapp 5 (etup (econs (epop 4 (ecallB d__law_take 0 (econs (lfo (vcallB (one dLen) (acons (v 4) anil))) enil))) (econs (eop2 dAdd (lf [0, 4, 5, 7, 8] (c (.int 1))) (ecallB d__law_take 0 (lf [0, 4, 5, 7, 8] (acons (c (.int 12)) anil)))) enil))))) (sfrz [0, 4, 5, 7, 8] (sfrz [0, 5, 7, 8] (sseq (spar3 5 7 8 (econs (lf [0, 7, 8] (vcallB (one dSorted2) (acons (v 5) anil))) (econs (elst (lf [0, 7, 8] (acons (c (.str "p")) (acons (c (.str "q")) (acons (c (.str "r")) (acons (c (.str "s")) (acons (c (.str "t")) (acons (c (.str "u")) (acons (c (.str "ab")) (acons (c (.str "z")) (acons (c (.str "x")) anil))))))))))) (econs (elst (lf [0, 7, 8] anil)) enil)))) (sseq (sforI (irng1 (lf [0, 7, 8] (v 2))) (gn 6) (sseq (sset 9 (ecomp [13] (iany (lf [0, 7, 8] (v 5))) (gn 13) (etb (eop2 dEq (ecallB d__law_take 0 (lf [0, 7, 8] (acons (c (.int 2)) anil))) (lf [0, 7, 8] (c (.int 0))))) (lf [0, 7, 8] (op2 dIx (v 13) (c (.int 0)))))) (sseq (sset 9 (eif (lf [0, 7, 8] (tb (op2 dNe (v 9) (vlst anil)))) (lf [0, 7, 8] (v 9)) (elst (econs (eop2 dIx (eop2 dIx (lf [0, 7, 8] (v 5)) (ecallB d__law_take 0 (lf [0, 7, 8] (acons (v 1) anil)))) (lf [0, 7, 8] (c (.int 0)))) enil)))) (sseq (sset 10 (eif (lf [0, 7, 8] (tb (op2 dGt (v 3) (c (.int 0))))) (eop2 dAdd (lf [0, 7, 8] (c (.int 1))) (ecallB d__law_take 0 (lf [0, 7, 8] (acons (c (.int 3)) anil)))) (lf [0, 7, 8] (c (.int 1))))) (sseq (sasg (gt (gscons (gn 11) (gscons (gn 12) gsnil))) (lf [0, 7, 8] (vtup (acons (c (.int 0)) (acons (c .non) anil))))) (sseq (sif (lf [0, 7, 8] (tb (op2 dGt (v 3) (c (.int 1))))) (sseq (sset 11 (ecallB d__law_of 0 (lf [0, 7, 8] (acons (vlst (acons (c (.int 0)) (acons (c (.int 0)) (acons (c (.int 0)) (acons (c (.int 1)) (acons (c (.int 2)) anil)))))) anil)))) (sset 12 (ecallB d__law_of 0 (lf [0, 7, 8] (acons (vlst (acons (c .non) (acons (c .non) (acons (vcallB (two dMax2) (acons (c (.int 1)) (acons (v 11) anil))) (acons (op2 dAdd (v 11) (c (.int 1))) (acons (op2 dAdd (v 11) (c (.int 3))) anil)))))) anil))))) snext) (sapp 8 (etup (econs (epop 7 (ecallB d__law_take 0 (econs (lfo (vcallB (one dLen) (acons (v 7) anil))) enil))) (econs (lf [0, 7, 8] (vcallB (one dTuple) (acons (v 9) anil))) (econs (lf [0, 7, 8] (v 10)) (econs (lf [0, 7, 8] (v 11)) (econs (lf [0, 7, 8] (v 12)) enil))))))))))))) (sfrz [0, 7, 8] (sfrz [0, 8] (sret (lf [0] (vtup (acons (vcallB (one dTuple) (acons (v 5) anil)) (acons (vcallB (one dTuple) (acons (vcallB (one dSorted2) (acons (v 8) anil)) anil)) anil)))))))))))))
theorem ok__law_drawn_net (T : Txt P K mg) {fd : FuncData} (F : FunD K "_law_drawn_net" "_law_drawn_net" (defArgs s__law_drawn_net) (defBody s__law_drawn_net) (defScope s__law_drawn_net) [] [] (He.ga K "_law_drawn_net") fd) : FnOk P w K mg base (L2.CX P w) 3 (He.ga K "_law_drawn_net") fd ["_law_box_here", "_law_wires", "_law_many", "_law_kind"] (spB K d__law_drawn_net) := by
  have sc := sc__law_drawn_net
  exact fnB_okB F sc (own := [0, 4, 5, 7, 8]) rfl rfl rfl (fun cdv A outer s H E hr => (jb_cons (js_par2X 4 5 rfl sc.nd (jx_new (jn_lst (js_lift (ja_cons jp_str (ja_cons jp_str (ja_cons jp_str (ja_cons jp_str (ja_cons jp_str (ja_cons jp_str ja_nil)))))))) (jx_new (jn_lst (js_lift ja_nil)) jx_nil))) (jb_cons (js_for (passes_of rfl) rfl (ji_rng1 T.b_range (js_lift (jp_v 1))) (jg_n 6 sc.nd) (js_one (js_app 5 (je_tup (jae_cons (je_pop 4 (je_callB 0 (fn__law_take T) (hr.mono (by omega)) (jae_cons (je_o (jp_callB b_len d_len T.b_len PySem.boot_len (ja_cons (jp_v 4) ja_nil))) jae_nil))) (jae_cons (je_op o_add d_add (js_lift jp_int) (je_callB 0 (fn__law_take T) (hr.mono (by omega)) (js_lift (ja_cons jp_int ja_nil)))) jae_nil)))))) (jb_frz (own := [0, 4, 5, 7, 8]) 4 (jb_frz (own := [0, 5, 7, 8]) 5 (jb_cons (js_par3X 5 7 8 rfl sc.nd (jx_cons (js_lift (jp_callB (b_sorted2 rfl (hu70 hr)) d_sorted2 T.b_sorted rfl (ja_cons (jp_v 5) ja_nil))) (jx_new (jn_lst (js_lift (ja_cons jp_str (ja_cons jp_str (ja_cons jp_str (ja_cons jp_str (ja_cons jp_str (ja_cons jp_str (ja_cons jp_str (ja_cons jp_str (ja_cons jp_str ja_nil))))))))))) (jx_new (jn_lst (js_lift ja_nil)) jx_nil)))) (jb_cons (js_for (passes_of rfl) rfl (ji_rng1 T.b_range (js_lift (jp_v 2))) (jg_n 6 sc.nd) (js_cons (js_setLc (ow := [("_law_line_so", 13)]) 9 rfl sc.nd (ji_any (js_lift (jp_v 5))) (blkOk_by (by kernel_rfl)) (fun _ _ _ _ _ => (jg_n 13 sc.nd)) (fun _ _ _ _ _ => (jts_one (jte_cmp (op_eqD (hu64b hr)) d_eq (je_callB 0 (fn__law_take T) (hr.mono (by omega)) (js_lift (ja_cons jp_int ja_nil))) (js_lift jp_int)))) (fun _ _ _ _ _ => (js_lift (jp_ix hr (jp_v 13) jp_int)))) (js_cons (js_set 9 sc.nd (je_if (js_lift (jt_ne hr (jp_v 9) (jp_lst ja_nil))) (js_lift (jp_v 9)) (je_lst (jae_cons (je_ix hr (je_ix hr (js_lift (jp_v 5)) (je_callB 0 (fn__law_take T) (hr.mono (by omega)) (js_lift (ja_cons (jp_v 1) ja_nil)))) (js_lift jp_int)) jae_nil)))) (js_cons (js_set 10 sc.nd (je_if (js_lift (jt_gt (jp_v 3) jp_int)) (je_op o_add d_add (js_lift jp_int) (je_callB 0 (fn__law_take T) (hr.mono (by omega)) (js_lift (ja_cons jp_int ja_nil)))) (js_lift jp_int))) (js_cons (js_asg (jg_t rfl (jgs_cons (jg_n 11 sc.nd) (jgs_cons (jg_n 12 sc.nd) jgs_nil)) (gl_cons (gl_cons gl_nil))) (js_lift (jp_tup (ja_cons jp_int (ja_cons jp_non ja_nil))))) (js_cons (js_if (js_lift (jt_gt (jp_v 3) jp_int)) (js_cons (js_set 11 sc.nd (je_callB 0 (fn__law_of T) (hr.mono (by omega)) (js_lift (ja_cons (jp_lst (ja_cons jp_int (ja_cons jp_int (ja_cons jp_int (ja_cons jp_int (ja_cons jp_int ja_nil)))))) ja_nil)))) (js_one (js_set 12 sc.nd (je_callB 0 (fn__law_of T) (hr.mono (by omega)) (js_lift (ja_cons (jp_lst (ja_cons jp_non (ja_cons jp_non (ja_cons (jp_callB (call_max2 rfl) d_max2 T.b_max PyProof.Rows.boot_max (ja_cons jp_int (ja_cons (jp_v 11) ja_nil))) (ja_cons (jp_add (jp_v 11) jp_int) (ja_cons (jp_add (jp_v 11) jp_int) ja_nil)))))) ja_nil)))))) js_nil) (js_one (js_app 8 (je_tup (jae_cons (je_pop 7 (je_callB 0 (fn__law_take T) (hr.mono (by omega)) (jae_cons (je_o (jp_callB b_len d_len T.b_len PySem.boot_len (ja_cons (jp_v 7) ja_nil))) jae_nil))) (jae_cons (js_lift (jp_callTy call_tupleP d_tuple T.b_tuple PyProof.Rows.boot_tuple (ja_cons (jp_v 9) ja_nil))) (jae_cons (js_lift (jp_v 10)) (jae_cons (js_lift (jp_v 11)) (jae_cons (js_lift (jp_v 12)) jae_nil)))))))))))))) (jb_frz (own := [0, 7, 8]) 7 (jb_frz (own := [0, 8]) 8 (jb_of (js_one (js_ret (js_lift (jp_tup (ja_cons (jp_callTy call_tupleP d_tuple T.b_tuple PyProof.Rows.boot_tuple (ja_cons (jp_v 5) ja_nil)) (ja_cons (jp_callTy call_tupleP d_tuple T.b_tuple PyProof.Rows.boot_tuple (ja_cons (jp_callB (b_sorted2 rfl (hu70 hr)) d_sorted2 T.b_sorted rfl (ja_cons (jp_v 8) ja_nil)) ja_nil)) ja_nil))))))))))))))))
theorem fn__law_drawn_net (T : Txt P K mg) : FnB P w K mg base 3 "_law_drawn_net" d__law_drawn_net := by
  obtain ⟨fd, F⟩ := T.f__law_drawn_net
  exact ⟨_, fd, ["_law_box_here", "_law_wires", "_law_many", "_law_kind"], ok__law_drawn_net T F, T.g__law_drawn_net, F.kp, F.bindsN fun _ _ _ _ _ _ us hl => match us, hl with | [_, _, _, _], _ => rfl⟩
theorem sc__law_row : FnScope ["_law_box_here", "_law_net_so", "_law_label", "_law_kind", "_law_own", "_law_lines", "_law_weight", "_law_line_so"] ["_law_box_here", "_law_net_so", "_law_label", "_law_kind"] (defScope s__law_row) := ⟨rfl, rfl, rfl, by decide +kernel, rfl, by decide +kernel, by decide +kernel⟩
def d__law_row : List D → List D → Option (D × List D) := denB 4 8 (sseq (sset 5 (ecomp [4] (iany (lf [0] (op2 dIx (v 1) (c (.int 0))))) (gn 4) tyes (lf [0] (op2 dIx (v 4) (c (.int 0)))))) (sseq (sset 4 (eor (ecallG (one dTuple) (econs (ecomp [7] (iany (lf [0] (v 5))) (gn 7) (etb (eop2 dEq (ecallB d__law_take 0 (lf [0] (acons (c (.int 2)) anil))) (lf [0] (c (.int 0))))) (lf [0] (v 7))) enil)) (etup (econs (ecallB d__law_of 0 (lf [0] (acons (v 5) anil))) enil)))) (sseq (sset 6 (eif (lf [0] (tb (op2 dGt (v 3) (c (.int 0))))) (eop2 dAdd (lf [0] (c (.int 1))) (ecallB d__law_take 0 (lf [0] (acons (c (.int 3)) anil)))) (lf [0] (c (.int 1))))) (sret (etup (econs (lf [0] (v 2)) (econs (lf [0] (v 4)) (econs (lf [0] (v 6)) (econs (lf [0] (c (.int 0))) (econs (eif (lf [0] (tb (op2 dGt (v 3) (c (.int 1))))) (ecallB d__law_of 0 (lf [0] (acons (vlst (acons (c .non) (acons (c .non) (acons (c (.int 1)) (acons (c (.int 3)) anil))))) anil))) (lf [0] (c .non))) enil))))))))))
theorem ok__law_row (T : Txt P K mg) {fd : FuncData} (F : FunD K "_law_row" "_law_row" (defArgs s__law_row) (defBody s__law_row) (defScope s__law_row) [] [] (He.ga K "_law_row") fd) : FnOk P w K mg base (L2.CX P w) 3 (He.ga K "_law_row") fd ["_law_box_here", "_law_net_so", "_law_label", "_law_kind"] (spB K d__law_row) := by
  have sc := sc__law_row
  exact fnB_okB F sc (own := [0]) rfl rfl rfl (fun cdv A outer s H E hr => (jb_cons (js_setLc (ow := [("_law_own", 4)]) 5 rfl sc.nd (ji_any (js_lift (jp_ix hr (jp_v 1) jp_int))) (blkOk_by (by kernel_rfl)) (fun _ _ _ _ _ => (jg_n 4 sc.nd)) (fun _ _ _ _ _ => jts_nil) (fun _ _ _ _ _ => (js_lift (jp_ix hr (jp_v 4) jp_int)))) (jb_cons (js_set 4 sc.nd (je_or (je_ty call_tupleP d_tuple T.b_tuple PyProof.Rows.boot_tuple (jae_cons (je_lc (ow := [("_law_line_so", 7)]) rfl sc.nd (ji_any (js_lift (jp_v 5))) (blkOk_by (by kernel_rfl)) (fun _ _ _ _ _ => (jg_n 7 sc.nd)) (fun _ _ _ _ _ => (jts_one (jte_cmp (op_eqD (hu64b hr)) d_eq (je_callB 0 (fn__law_take T) (hr.mono (by omega)) (js_lift (ja_cons jp_int ja_nil))) (js_lift jp_int)))) (fun _ _ _ _ _ => (js_lift (jp_v 7)))) jae_nil)) (je_tup (jae_cons (je_callB 0 (fn__law_of T) (hr.mono (by omega)) (js_lift (ja_cons (jp_v 5) ja_nil))) jae_nil)))) (jb_cons (js_set 6 sc.nd (je_if (js_lift (jt_gt (jp_v 3) jp_int)) (je_op o_add d_add (js_lift jp_int) (je_callB 0 (fn__law_take T) (hr.mono (by omega)) (js_lift (ja_cons jp_int ja_nil)))) (js_lift jp_int))) (jb_of (js_one (js_ret (je_tup (jae_cons (js_lift (jp_v 2)) (jae_cons (js_lift (jp_v 4)) (jae_cons (js_lift (jp_v 6)) (jae_cons (js_lift jp_int) (jae_cons (je_if (js_lift (jt_gt (jp_v 3) jp_int)) (je_callB 0 (fn__law_of T) (hr.mono (by omega)) (js_lift (ja_cons (jp_lst (ja_cons jp_non (ja_cons jp_non (ja_cons jp_int (ja_cons jp_int ja_nil))))) ja_nil))) (js_lift jp_non)) jae_nil)))))))))))))
theorem fn__law_row (T : Txt P K mg) : FnB P w K mg base 3 "_law_row" d__law_row := by
  obtain ⟨fd, F⟩ := T.f__law_row
  exact ⟨_, fd, ["_law_box_here", "_law_net_so", "_law_label", "_law_kind"], ok__law_row T F, T.g__law_row, F.kp, F.bindsN fun _ _ _ _ _ _ us hl => match us, hl with | [_, _, _, _], _ => rfl⟩
theorem sc__law_set_wide : FnScope ["_law_net_so", "_law_label", "_law_room", "_law_own", "_law_was"] ["_law_net_so", "_law_label", "_law_room"] (defScope s__law_set_wide) := ⟨rfl, rfl, rfl, by decide +kernel, rfl, by decide +kernel, by decide +kernel⟩
def d__law_set_wide : List D → Rs D := den 3 5 (sret (lf [] (vtup (acons (vcallB (one dTuple) (acons (pur (ecomp [3, 4] (iany (lf [] (op2 dIx (v 0) (c (.int 0))))) (gt (gscons (gn 3) (gscons (gn 4) gsnil))) tyes (lf [] (vtup (acons (v 3) (acons (vif (tb (op2 dEq (v 3) (v 1))) (v 2) (v 4)) anil)))))) anil)) (acons (op2 dIx (v 0) (c (.int 1))) anil)))))
theorem ok__law_set_wide (T : Txt P K mg) {fd : FuncData} (F : FunD K "_law_set_wide" "_law_set_wide" (defArgs s__law_set_wide) (defBody s__law_set_wide) (defScope s__law_set_wide) [] [] (He.ga K "_law_set_wide") fd) : FnOk P w K mg base (L2.CX P w) 1 (He.ga K "_law_set_wide") fd ["_law_net_so", "_law_label", "_law_room"] (spP K d__law_set_wide) := by
  have sc := sc__law_set_wide
  exact fn_okB F sc (own := []) rfl rfl (fun cdv A outer s H E hr => (jb_of (js_one (js_ret (js_lift (jp_tup (ja_cons (jp_callTy call_tupleP d_tuple T.b_tuple PyProof.Rows.boot_tuple (ja_cons (j_of (je_lc (ow := [("_law_own", 3), ("_law_was", 4)]) rfl sc.nd (ji_any (js_lift (jp_ix hr (jp_v 0) jp_int))) (blkOk_by (by kernel_rfl)) (fun _ _ _ _ _ => (jg_t rfl (jgs_cons (jg_n 3 sc.nd) (jgs_cons (jg_n 4 sc.nd) jgs_nil)) (gl_cons (gl_cons gl_nil)))) (fun _ _ _ _ _ => jts_nil) (fun _ _ _ _ _ => (js_lift (jp_tup (ja_cons (jp_v 3) (ja_cons (jp_if (jt_eq hr (jp_v 3) (jp_v 1)) (jp_v 2) (jp_v 4)) ja_nil))))))) ja_nil)) (ja_cons (jp_ix hr (jp_v 0) jp_int) ja_nil))))))))
theorem fn__law_set_wide (T : Txt P K mg) : Fn P w K mg base 1 "_law_set_wide" d__law_set_wide := by
  obtain ⟨fd, F⟩ := T.f__law_set_wide
  exact ⟨_, fd, ["_law_net_so", "_law_label", "_law_room"], ok__law_set_wide T F, T.g__law_set_wide, F.kp, F.bindsN fun _ _ _ _ _ _ us hl => match us, hl with | [_, _, _], _ => rfl⟩
theorem sc__law_heard : FnScope [("_law_door" : Str), ("_law_rest" : Str), ("_law_caught" : Str), ("_law_told" : Str), ("error" : Str), ("_law_flags" : Str), ("_law_sorts" : Str), (" 7" : Str), (" 8" : Str), (" 9" : Str), (" 10" : Str), (" 11" : Str), (" 12" : Str), (" 13" : Str), (" 14" : Str), (" 15" : Str), (" 16" : Str), (" 17" : Str), (" 18" : Str), (" 19" : Str), (" 20" : Str), (" 21" : Str), (" 22" : Str), (" 23" : Str), (" 24" : Str), (" 25" : Str), (" 26" : Str), (" 27" : Str), (" 28" : Str), (" 29" : Str), (" 30" : Str), (" 31" : Str), (" 32" : Str), (" 33" : Str), (" 34" : Str), (" 35" : Str), (" 36" : Str), (" 37" : Str), (" 38" : Str), (" 39" : Str), (" 40" : Str)] ["_law_door", "_law_rest"] (defScope s__law_heard) := ⟨rfl, rfl, rfl, by decide +kernel, rfl, by decide +kernel, by decide +kernel⟩
def d__law_heard : List D → Rs D := denT 2 "with_flow" (sseq (sasg (gt (gscons (gn 2) (gscons (gn 3) gsnil))) (lf [5, 40] (vtup (acons (c .non) (acons (c .non) anil))))) (sseq (stry [("BadLine" : Str), ("Doubled" : Str), ("LastFlow" : Str), ("NoFlow" : Str), ("NoLine" : Str), ("NotChanged" : Str), ("NotPlain" : Str), ("TooFull" : Str)] 4 2 (sif (lf [5, 40] (tb (op2 dEq (v 0) (c (.int 0))))) (sset 3 (lf [5, 40] (vcall d_widened (acons (op2 dIx (v 1) (c (.int 0))) (acons (op2 dIx (v 1) (c (.int 1))) (acons (op2 dIx (v 1) (c (.int 2))) anil)))))) (sif (lf [5, 40] (tb (op2 dEq (v 0) (c (.int 1))))) (sset 3 (ecallT d_with_flow "with_flow" (lf [5, 40] (acons (op2 dIx (v 1) (c (.int 0))) (acons (op2 dIx (v 1) (c (.int 1))) anil))))) (sset 3 (lf [5, 40] (vcall d_without_flow (acons (op2 dIx (v 1) (c (.int 0))) (acons (op2 dIx (v 1) (c (.int 1))) anil)))))))) (sseq (sif (lf [5, 40] (fun δ => bind ((v 2) δ) fun x => ok (isNon x))) (sret (lf [5, 40] (v 3))) snext) (sseq (sset 5 (elst (lf [5, 40] (acons (visX [("NoLine" : Str)] (v 2)) (acons (visX [("Doubled" : Str)] (v 2)) (acons (visX [("NoFlow" : Str)] (v 2)) anil)))))) (sseq (sapp 5 (lf [5, 40] (visX [("LastFlow" : Str)] (v 2)))) (sfrz [5, 40] (sseq (sset 6 (lf [40] (vlst (acons (visX [("LookupError" : Str)] (v 2)) (acons (visX [("ValueError" : Str)] (v 2)) (acons (visX [("RuntimeError" : Str)] (v 2)) anil)))))) (sseq (sif (lf [40] (tor (tb (op2 dNe (vcount (v 5) (c (.bl true))) (c (.int 1)))) (tb (op2 dNe (v 6) (vlst (acons (vor (op2 dIx (v 5) (c (.int 0))) (op2 dIx (v 5) (c (.int 2)))) (acons (op2 dIx (v 5) (c (.int 1))) (acons (op2 dIx (v 5) (c (.int 3))) anil)))))))) (sret (lf [40] (vlst (acons (c (.str "other")) anil)))) snext) (sseq (sif (lf [40] (tr (op2 dIx (v 5) (c (.int 3))))) (sret (lf [40] (vlst (acons (c (.str "last")) anil)))) snext) (sret (lf [40] (vif (tr (op2 dIx (v 5) (c (.int 0)))) (vlst (acons (c (.str "line")) (acons (vattrX "line" (v 2)) anil))) (vif (tr (op2 dIx (v 5) (c (.int 1)))) (vlst (acons (c (.str "twice")) (acons (vattrX "name" (v 2)) anil))) (vlst (acons (c (.str "flow")) (acons (vattrX "flow" (v 2)) anil))))))))))))))))
theorem ok__law_heard (T : Txt P K mg) (TB : LamX.TabB base mg (He.cT K ("with_flow", none)).1 (He.cT K ("with_flow", none)).2) {fd : FuncData} (F : FunD K "_law_heard" "_law_heard" (defArgs s__law_heard) (defBody s__law_heard) (defScope s__law_heard) [] [] (He.ga K "_law_heard") fd) : FnOk P w K mg base (L2.CX P w) 17 (He.ga K "_law_heard") fd ["_law_door", "_law_rest"] (spT K "with_flow" d__law_heard) := by
  have sc := sc__law_heard
  exact fnT_ok F sc (own := [5, 40]) rfl rfl rfl rfl (fun cdv A outer s H E hcv hr => (jb_cons (js_asg (jg_t rfl (jgs_cons (jg_n 2 sc.nd) (jgs_cons (jg_n 3 sc.nd) jgs_nil)) (gl_cons (gl_cons gl_nil))) (js_lift (jp_tup (ja_cons jp_non (ja_cons jp_non ja_nil))))) (jb_cons (js_try (p4 := ⟨0, 0, 0, 0⟩) T.xx sc.nd (.cons rfl (by decide) (by decide) rfl (.cons rfl (by decide) (by decide) rfl (.cons rfl (by decide) (by decide) rfl (.cons rfl (by decide) (by decide) rfl (.cons rfl (by decide) (by decide) rfl (.cons rfl (by decide) (by decide) rfl (.cons rfl (by decide) (by decide) rfl (.cons rfl (by decide) (by decide) rfl .nil)))))))) (fun pn xe => (js_one (js_if (js_lift (jt_eq hr (jp_v 0) jp_int)) (js_one (js_set 3 sc.nd (js_lift (jp_call (fn_widened T) (hr.mono (by omega)) (ja_cons (jp_ix hr (jp_v 1) jp_int) (ja_cons (jp_ix hr (jp_v 1) jp_int) (ja_cons (jp_ix hr (jp_v 1) jp_int) ja_nil))))))) (js_one (js_if (js_lift (jt_eq hr (jp_v 0) jp_int)) (js_one (js_set 3 sc.nd (je_callT (fn_with_flow T TB) (hr.mono (by omega)) (js_lift (ja_cons (jp_ix hr (jp_v 1) jp_int) (ja_cons (jp_ix hr (jp_v 1) jp_int) ja_nil)))))) (js_one (js_set 3 sc.nd (js_lift (jp_call (fn_without_flow T) (hr.mono (by omega)) (ja_cons (jp_ix hr (jp_v 1) jp_int) (ja_cons (jp_ix hr (jp_v 1) jp_int) ja_nil)))))))))))) (jb_cons (js_if (js_lift (jt_is (jp_v 2))) (js_one (js_ret (js_lift (jp_v 3)))) js_nil) (jb_cons (js_setN 5 sc.nd (jn_lst (js_lift (ja_cons (jp_isX T.xx T.b_isinstance (.own .nil) (jp_v 2)) (ja_cons (jp_isX T.xx T.b_isinstance (.own .nil) (jp_v 2)) (ja_cons (jp_isX T.xx T.b_isinstance (.own .nil) (jp_v 2)) ja_nil)))))) (jb_cons (js_app 5 (js_lift (jp_isX T.xx T.b_isinstance (.own .nil) (jp_v 2)))) (jb_frz (own := [5, 40]) 5 (jb_cons (js_set 6 sc.nd (js_lift (jp_lst (ja_cons (jp_isX T.xx T.b_isinstance (.blt T.b_LookupError .nil) (jp_v 2)) (ja_cons (jp_isX T.xx T.b_isinstance (.blt T.b_ValueError .nil) (jp_v 2)) (ja_cons (jp_isX T.xx T.b_isinstance (.blt T.b_RuntimeError .nil) (jp_v 2)) ja_nil)))))) (jb_cons (js_if (js_lift (jt_w (jw_or (jt_ne hr (jp_count (hu64b hr) (jp_v 5) jp_bl) jp_int) (jw_or1 (jt_ne hr (jp_v 6) (jp_lst (ja_cons (jp_or (jp_ix hr (jp_v 5) jp_int) (jp_one (jp_ix hr (jp_v 5) jp_int))) (ja_cons (jp_ix hr (jp_v 5) jp_int) (ja_cons (jp_ix hr (jp_v 5) jp_int) ja_nil))))))))) (js_one (js_ret (js_lift (jp_lst (ja_cons jp_str ja_nil))))) js_nil) (jb_cons (js_if (js_lift (jt_truth (jp_ix hr (jp_v 5) jp_int))) (js_one (js_ret (js_lift (jp_lst (ja_cons jp_str ja_nil))))) js_nil) (jb_of (js_one (js_ret (js_lift (jp_if (jt_truth (jp_ix hr (jp_v 5) jp_int)) (jp_lst (ja_cons jp_str (ja_cons (jp_attrX T.xx (jp_v 2)) ja_nil))) (jp_if (jt_truth (jp_ix hr (jp_v 5) jp_int)) (jp_lst (ja_cons jp_str (ja_cons (jp_attrX T.xx (jp_v 2)) ja_nil))) (jp_lst (ja_cons jp_str (ja_cons (jp_attrX T.xx (jp_v 2)) ja_nil)))))))))))))))))))
theorem fn__law_heard (T : Txt P K mg) (TB : LamX.TabB base mg (He.cT K ("with_flow", none)).1 (He.cT K ("with_flow", none)).2) : FnT P w K mg base 17 "_law_heard" "with_flow" d__law_heard := by
  obtain ⟨fd, F⟩ := T.f__law_heard
  exact ⟨_, fd, ["_law_door", "_law_rest"], ok__law_heard T TB F, T.g__law_heard, F.kp, F.bindsN fun _ _ _ _ _ _ us hl => match us, hl with | [_, _], _ => rfl⟩
theorem sc__law_cases : FnScope ["_law_box_here", "_law_net_so", "_law_label", "_law_room", "_law_found", "_law_row_here", "_law_old", "_law_lines", "_law_rest", "_law_own"] ["_law_box_here", "_law_net_so"] (defScope s__law_cases) := ⟨rfl, rfl, rfl, by decide +kernel, rfl, by decide +kernel, by decide +kernel⟩
def d__law_cases : List D → List D → Option (D × List D) := denB 2 10 (sseq (spar2 2 3 (econs (eop2 dIx (ecallB d__law_of 0 (lf [0, 4] (acons (op2 dIx (v 1) (c (.int 0))) anil))) (lf [0, 4] (c (.int 0)))) (econs (eop2 dAdd (lf [0, 4] (c (.int 1))) (ecallB d__law_take 0 (lf [0, 4] (acons (c (.int 30)) anil)))) enil))) (sseq (sset 4 (elst (lf [0, 4] (acons (vtup (acons (c (.int 0)) (acons (vlst (acons (v 1) (acons (v 2) (acons (v 3) anil)))) (acons (vcall d__law_set_wide (acons (v 1) (acons (v 2) (acons (v 3) anil)))) anil)))) anil)))) (sseq (sapp 4 (lf [0, 4] (vtup (acons (c (.int 0)) (acons (vlst (acons (v 1) (acons (c (.str "none")) (acons (v 3) anil)))) (acons (vlst (acons (c (.str "line")) (acons (c (.str "none")) anil))) anil)))))) (sseq (sset 5 (ecallB d__law_row 0 (lf [0, 4] (acons (v 1) (acons (c (.str "mm")) (acons (c (.int 2)) anil)))))) (sseq (sapp 4 (lf [0, 4] (vtup (acons (c (.int 1)) (acons (vlst (acons (v 1) (acons (v 5) anil))) (acons (vtup (acons (op2 dIx (v 1) (c (.int 0))) (acons (vcallB (one dTuple) (acons (vcallB (one dSorted3) (acons (op2 dAdd (op2 dIx (v 1) (c (.int 1))) (vtup (acons (v 5) anil))) anil)) anil)) anil))) anil)))))) (sseq (sset 6 (ecallB d__law_of 0 (lf [0, 4] (acons (op2 dIx (v 1) (c (.int 1))) anil)))) (sseq (sapp 4 (lf [0, 4] (vtup (acons (c (.int 1)) (acons (vlst (acons (v 1) (acons (op2 dAdd (vtup (acons (op2 dIx (v 6) (c (.int 0))) anil)) (vsl (v 5) (osome (c (.int 1))) onone)) anil))) (acons (vlst (acons (c (.str "twice")) (acons (op2 dIx (v 6) (c (.int 0))) anil))) anil)))))) (sseq (sapp 4 (lf [0, 4] (vtup (acons (c (.int 1)) (acons (vlst (acons (v 1) (acons (vtup (acons (op2 dIx (v 6) (c (.int 0))) (acons (vtup (acons (c (.str "none")) anil)) (acons (c (.int 1)) (acons (c (.int 0)) (acons (c .non) anil)))))) anil))) (acons (vlst (acons (c (.str "twice")) (acons (op2 dIx (v 6) (c (.int 0))) anil))) anil)))))) (sseq (sset 7 (lf [0, 4] (vcallB (one dTuple) (acons (vcallB (one dSorted3) (acons (vlst (acons (v 2) (acons (c (.str "none")) (acons (c (.str "zz")) anil)))) anil)) anil)))) (sseq (sapp 4 (lf [0, 4] (vtup (acons (c (.int 1)) (acons (vlst (acons (v 1) (acons (vtup (acons (c (.str "mm")) (acons (v 7) (acons (c (.int 1)) (acons (c (.int 0)) (acons (c .non) anil)))))) anil))) (acons (vlst (acons (c (.str "line")) (acons (c (.str "none")) anil))) anil)))))) (sseq (sset 8 (lf [0, 4] (vtup (acons (op2 dIx (v 1) (c (.int 0))) (acons (vcallB (one dTuple) (acons (pur (ecomp [9] (iany (lf [] (op2 dIx (v 1) (c (.int 1))))) (gn 9) (lf [] (tb (op2 dNe (v 9) (v 6)))) (lf [] (v 9)))) anil)) anil))))) (sseq (sapp 4 (lf [0, 4] (vtup (acons (c (.int 2)) (acons (vlst (acons (v 1) (acons (op2 dIx (v 6) (c (.int 0))) anil))) (acons (vif (tb (op2 dNe (op2 dIx (v 8) (c (.int 1))) (vtup anil))) (v 8) (vlst (acons (c (.str "last")) anil))) anil)))))) (sseq (sapp 4 (lf [0, 4] (vtup (acons (c (.int 2)) (acons (vlst (acons (v 1) (acons (c (.str "nobody")) anil))) (acons (vlst (acons (c (.str "flow")) (acons (c (.str "nobody")) anil))) anil)))))) (sfrz [0, 4] (sret (lf [0] (v 4)))))))))))))))))
theorem ok__law_cases (T : Txt P K mg) {fd : FuncData} (F : FunD K "_law_cases" "_law_cases" (defArgs s__law_cases) (defBody s__law_cases) (defScope s__law_cases) [] [] (He.ga K "_law_cases") fd) : FnOk P w K mg base (L2.CX P w) 4 (He.ga K "_law_cases") fd ["_law_box_here", "_law_net_so"] (spB K d__law_cases) := by
  have sc := sc__law_cases
  exact fnB_okB F sc (own := [0, 4]) rfl rfl rfl (fun cdv A outer s H E hr => (jb_cons (js_par2 2 3 rfl sc.nd (jae_cons (je_ix hr (je_callB 0 (fn__law_of T) (hr.mono (by omega)) (js_lift (ja_cons (jp_ix hr (jp_v 1) jp_int) ja_nil))) (js_lift jp_int)) (jae_cons (je_op o_add d_add (js_lift jp_int) (je_callB 0 (fn__law_take T) (hr.mono (by omega)) (js_lift (ja_cons jp_int ja_nil)))) jae_nil))) (jb_cons (js_setN 4 sc.nd (jn_lst (js_lift (ja_cons (jp_tup (ja_cons jp_int (ja_cons (jp_lst (ja_cons (jp_v 1) (ja_cons (jp_v 2) (ja_cons (jp_v 3) ja_nil)))) (ja_cons (jp_call (fn__law_set_wide T) (hr.mono (by omega)) (ja_cons (jp_v 1) (ja_cons (jp_v 2) (ja_cons (jp_v 3) ja_nil)))) ja_nil)))) ja_nil)))) (jb_cons (js_app 4 (js_lift (jp_tup (ja_cons jp_int (ja_cons (jp_lst (ja_cons (jp_v 1) (ja_cons jp_str (ja_cons (jp_v 3) ja_nil)))) (ja_cons (jp_lst (ja_cons jp_str (ja_cons jp_str ja_nil))) ja_nil)))))) (jb_cons (js_set 5 sc.nd (je_callB 0 (fn__law_row T) (hr.mono (by omega)) (js_lift (ja_cons (jp_v 1) (ja_cons jp_str (ja_cons jp_int ja_nil)))))) (jb_cons (js_app 4 (js_lift (jp_tup (ja_cons jp_int (ja_cons (jp_lst (ja_cons (jp_v 1) (ja_cons (jp_v 5) ja_nil))) (ja_cons (jp_tup (ja_cons (jp_ix hr (jp_v 1) jp_int) (ja_cons (jp_callTy call_tupleP d_tuple T.b_tuple PyProof.Rows.boot_tuple (ja_cons (jp_callB (b_sorted3 rfl (hu70 hr)) d_sorted3 T.b_sorted rfl (ja_cons (jp_add (jp_ix hr (jp_v 1) jp_int) (jp_tup (ja_cons (jp_v 5) ja_nil))) ja_nil)) ja_nil)) ja_nil))) ja_nil)))))) (jb_cons (js_set 6 sc.nd (je_callB 0 (fn__law_of T) (hr.mono (by omega)) (js_lift (ja_cons (jp_ix hr (jp_v 1) jp_int) ja_nil)))) (jb_cons (js_app 4 (js_lift (jp_tup (ja_cons jp_int (ja_cons (jp_lst (ja_cons (jp_v 1) (ja_cons (jp_add (jp_tup (ja_cons (jp_ix hr (jp_v 6) jp_int) ja_nil)) (jp_sl (jp_v 5) (jo_some jp_int) jo_none)) ja_nil))) (ja_cons (jp_lst (ja_cons jp_str (ja_cons (jp_ix hr (jp_v 6) jp_int) ja_nil))) ja_nil)))))) (jb_cons (js_app 4 (js_lift (jp_tup (ja_cons jp_int (ja_cons (jp_lst (ja_cons (jp_v 1) (ja_cons (jp_tup (ja_cons (jp_ix hr (jp_v 6) jp_int) (ja_cons (jp_tup (ja_cons jp_str ja_nil)) (ja_cons jp_int (ja_cons jp_int (ja_cons jp_non ja_nil)))))) ja_nil))) (ja_cons (jp_lst (ja_cons jp_str (ja_cons (jp_ix hr (jp_v 6) jp_int) ja_nil))) ja_nil)))))) (jb_cons (js_set 7 sc.nd (js_lift (jp_callTy call_tupleP d_tuple T.b_tuple PyProof.Rows.boot_tuple (ja_cons (jp_callB (b_sorted3 rfl (hu70 hr)) d_sorted3 T.b_sorted rfl (ja_cons (jp_lst (ja_cons (jp_v 2) (ja_cons jp_str (ja_cons jp_str ja_nil)))) ja_nil)) ja_nil)))) (jb_cons (js_app 4 (js_lift (jp_tup (ja_cons jp_int (ja_cons (jp_lst (ja_cons (jp_v 1) (ja_cons (jp_tup (ja_cons jp_str (ja_cons (jp_v 7) (ja_cons jp_int (ja_cons jp_int (ja_cons jp_non ja_nil)))))) ja_nil))) (ja_cons (jp_lst (ja_cons jp_str (ja_cons jp_str ja_nil))) ja_nil)))))) (jb_cons (js_set 8 sc.nd (js_lift (jp_tup (ja_cons (jp_ix hr (jp_v 1) jp_int) (ja_cons (jp_callTy call_tupleP d_tuple T.b_tuple PyProof.Rows.boot_tuple (ja_cons (j_of (je_lc (ow := [("_law_own", 9)]) rfl sc.nd (ji_any (js_lift (jp_ix hr (jp_v 1) jp_int))) (blkOk_by (by kernel_rfl)) (fun _ _ _ _ _ => (jg_n 9 sc.nd)) (fun _ _ _ _ _ => (jts_one (js_lift (jt_ne hr (jp_v 9) (jp_v 6))))) (fun _ _ _ _ _ => (js_lift (jp_v 9))))) ja_nil)) ja_nil))))) (jb_cons (js_app 4 (js_lift (jp_tup (ja_cons jp_int (ja_cons (jp_lst (ja_cons (jp_v 1) (ja_cons (jp_ix hr (jp_v 6) jp_int) ja_nil))) (ja_cons (jp_if (jt_ne hr (jp_ix hr (jp_v 8) jp_int) (jp_tup ja_nil)) (jp_v 8) (jp_lst (ja_cons jp_str ja_nil))) ja_nil)))))) (jb_cons (js_app 4 (js_lift (jp_tup (ja_cons jp_int (ja_cons (jp_lst (ja_cons (jp_v 1) (ja_cons jp_str ja_nil))) (ja_cons (jp_lst (ja_cons jp_str (ja_cons jp_str ja_nil))) ja_nil)))))) (jb_frz (own := [0, 4]) 4 (jb_of (js_one (js_ret (js_lift (jp_v 4))))))))))))))))))))
theorem fn__law_cases (T : Txt P K mg) : FnB P w K mg base 4 "_law_cases" d__law_cases := by
  obtain ⟨fd, F⟩ := T.f__law_cases
  exact ⟨_, fd, ["_law_box_here", "_law_net_so"], ok__law_cases T F, T.g__law_cases, F.kp, F.bindsN fun _ _ _ _ _ _ us hl => match us, hl with | [_, _], _ => rfl⟩
theorem fnk_with_flow_1_0 (T : Txt P K mg) (TB : LamX.TabB base mg (He.cT K ("with_flow", none)).1 (He.cT K ("with_flow", none)).2) : FnKT P w K mg base 16 "with_flow" "with_flow" d_with_flow ["flow", "net"] [1, 0] := by
  obtain ⟨fd, F⟩ := T.f_with_flow
  exact ⟨_, fd, ["net", "flow"], ok_with_flow T TB F, T.g_with_flow, F.kp, kbn_of F fun _ _ _ _ _ _ ws hl => match ws, hl with | [_, _], _ => rfl⟩
theorem fnk_widened_2_1_0 (T : Txt P K mg) : FnK P w K mg base 16 "widened" d_widened ["number", "line", "net"] [2, 1, 0] := by
  obtain ⟨fd, F⟩ := T.f_widened
  exact ⟨_, fd, ["net", "line", "number"], ok_widened T F, T.g_widened, F.kp, kbn_of F fun _ _ _ _ _ _ ws hl => match ws, hl with | [_, _, _], _ => rfl⟩
theorem fnk_without_flow_1_0 (T : Txt P K mg) : FnK P w K mg base 16 "without_flow" d_without_flow ["name", "net"] [1, 0] := by
  obtain ⟨fd, F⟩ := T.f_without_flow
  exact ⟨_, fd, ["net", "name"], ok_without_flow T F, T.g_without_flow, F.kp, kbn_of F fun _ _ _ _ _ _ ws hl => match ws, hl with | [_, _], _ => rfl⟩
theorem sc__law_right : FnScope [("_law_box_here" : Str), ("_law_turn" : Str), ("_law_net_so" : Str), ("_law_kept" : Str), ("_law_door" : Str), ("_law_rest" : Str), ("_law_due" : Str), ("_law_soft" : Str), ("_law_label" : Str), ("_law_row_here" : Str), ("_law_told" : Str), (" 11" : Str), (" 12" : Str), (" 13" : Str), (" 14" : Str), (" 15" : Str), (" 16" : Str), (" 17" : Str), (" 18" : Str), (" 19" : Str), (" 20" : Str), (" 21" : Str), (" 22" : Str), (" 23" : Str), (" 24" : Str), (" 25" : Str), (" 26" : Str), (" 27" : Str), (" 28" : Str), (" 29" : Str), (" 30" : Str), (" 31" : Str), (" 32" : Str), (" 33" : Str), (" 34" : Str), (" 35" : Str), (" 36" : Str), (" 37" : Str), (" 38" : Str), (" 39" : Str), (" 40" : Str)] ["_law_box_here"] (defScope s__law_right) := ⟨rfl, rfl, rfl, by decide +kernel, rfl, by decide +kernel, by decide +kernel⟩
def d__law_right : List D → List D → Option (D × List D) := denBT 1 "with_flow" (sseq (sforI (irng1 (lf [0, 40] (c (.int 3)))) (gn 1) (smsq [0, 40] (sset 2 (ecallB d__law_drawn_net 0 (econs (eop2 dAdd (lf [0, 40] (c (.int 1))) (ecallB d__law_take 0 (lf [0, 40] (acons (c (.int 4)) anil)))) (econs (eop2 dAdd (lf [0, 40] (c (.int 1))) (ecallB d__law_take 0 (lf [0, 40] (acons (c (.int 5)) anil)))) (econs (lf [0, 40] (c (.int 2))) enil))))) (smsq [0, 40] (sset 3 (lf [0, 40] (vcallB (one dRepr) (acons (v 2) anil)))) (smsq [0, 40] (sforI (iany (ecallB d__law_cases 0 (lf [0, 40] (acons (v 2) anil)))) (gt (gscons (gn 4) (gscons (gn 5) (gscons (gn 6) gsnil)))) (sseq (sset 7 (lf [0, 40] (vcall (d__law_lists 12) (acons (v 5) anil)))) (sseq (sif (etnot (etr (ecall (d__law_same 12) (econs (elst (econs (ecallT d__law_heard "with_flow" (lf [0, 40] (acons (v 4) (acons (v 5) anil)))) (econs (ecallT d__law_heard "with_flow" (lf [0, 40] (acons (v 4) (acons (v 7) anil)))) enil))) (econs (lf [0, 40] (vlst (acons (v 6) (acons (v 6) anil)))) enil))))) (sret (lf [0, 40] (c (.bl false)))) snext) (sif (lf [0, 40] (tb (op2 dNe (v 7) (vcall (d__law_lists 12) (acons (v 5) anil))))) (sret (lf [0, 40] (c (.bl false)))) snext)))) (smsq [0, 40] (spar2 8 9 (econs (lf [0, 40] (op2 dIx (op2 dIx (op2 dIx (v 2) (c (.int 0))) (c (.int 0))) (c (.int 0)))) (econs (ecallB d__law_row 0 (lf [0, 40] (acons (v 2) (acons (c (.str "mm")) (acons (c (.int 2)) anil))))) enil))) (sexo 10 (smsq [0, 10, 40] (sset 10 (elst (econs (lf [0, 10, 40] (vcallK d_widened 3 [2, 1, 0] (acons (c (.int 7)) (acons (v 8) (acons (v 2) anil))))) (econs (ecallKT d_with_flow "with_flow" 2 [1, 0] (lf [0, 10, 40] (acons (v 9) (acons (v 2) anil)))) enil)))) (sexo 6 (smsq [0, 6, 10, 40] (sset 6 (elst (lf [0, 6, 10, 40] (acons (vcall d__law_set_wide (acons (v 2) (acons (v 8) (acons (c (.int 7)) anil)))) (acons (vtup (acons (op2 dIx (v 2) (c (.int 0))) (acons (vcallB (one dTuple) (acons (vcallB (one dSorted3) (acons (op2 dAdd (op2 dIx (v 2) (c (.int 1))) (vtup (acons (v 9) anil))) anil)) anil)) anil))) anil))))) (smsq [0, 6, 10, 40] (sif (lf [0, 6, 10, 40] (tb (op2 dGt (vcallB (one dLen) (acons (op2 dIx (v 2) (c (.int 1))) anil)) (c (.int 1))))) (sseq (sapp 10 (lf [0, 6, 10, 40] (vcallK d_without_flow 2 [1, 0] (acons (op2 dIx (op2 dIx (op2 dIx (v 2) (c (.int 1))) (c (.int 0))) (c (.int 0))) (acons (v 2) anil))))) (sapp 6 (lf [0, 6, 10, 40] (vtup (acons (op2 dIx (v 2) (c (.int 0))) (acons (vsl (op2 dIx (v 2) (c (.int 1))) (osome (c (.int 1))) onone) anil)))))) snext) (sfrz [0, 6, 10, 40] (sfrz [0, 6, 40] (sif (lf [0, 40] (tor (fun δ => bind ((tr (vcall (d__law_same 12) (acons (v 10) (acons (v 6) anil)))) δ) fun b => ok (!b)) (tb (op2 dNe (vcallB (one dRepr) (acons (v 2) anil)) (v 3))))) (sret (lf [0, 40] (c (.bl false)))) snext))))))))))))) (sret (lf [0, 40] (c (.bl true)))))
theorem ok__law_right (T : Txt P K mg) (TB : LamX.TabB base mg (He.cT K ("with_flow", none)).1 (He.cT K ("with_flow", none)).2) {fd : FuncData} (F : FunD K "_law_right" "_law_right" (defArgs s__law_right) (defBody s__law_right) (defScope s__law_right) [] [] (He.ga K "_law_right") fd) : FnOkG P w K mg base (L2.CX P w) 18 (He.ga K "_law_right") fd ["_law_box_here"] (spBT K "with_flow" d__law_right) := by
  have sc := sc__law_right
  exact fnBT_okG F sc (own := [0, 40]) rfl rfl rfl rfl rfl (fun cdv A outer s H E hr hgu => (jb_cons (js_for (passes_of rfl) rfl (ji_rng1 T.b_range (js_lift jp_int)) (jg_n 1 sc.nd) (jss_of (jm_cons (cur := [0, 40]) [] (js_set 2 sc.nd (je_callB 0 (fn__law_drawn_net T) (hr.mono (by omega)) (jae_cons (je_op o_add d_add (js_lift jp_int) (je_callB 0 (fn__law_take T) (hr.mono (by omega)) (js_lift (ja_cons jp_int ja_nil)))) (jae_cons (je_op o_add d_add (js_lift jp_int) (je_callB 0 (fn__law_take T) (hr.mono (by omega)) (js_lift (ja_cons jp_int ja_nil)))) (jae_cons (js_lift jp_int) jae_nil))))) (jm_cons (cur := [0, 40]) [] (js_set 3 sc.nd (js_lift (jp_callB (cr_repr hgu (hu70 hr)) d_repr T.b_repr rfl (ja_cons (jp_v 2) ja_nil)))) (jm_cons (cur := [0, 40]) [] (js_for (passes_of rfl) rfl (ji_any (je_callB 0 (fn__law_cases T) (hr.mono (by omega)) (js_lift (ja_cons (jp_v 2) ja_nil)))) (jg_t rfl (jgs_cons (jg_n 4 sc.nd) (jgs_cons (jg_n 5 sc.nd) (jgs_cons (jg_n 6 sc.nd) jgs_nil))) (gl_cons (gl_cons (gl_cons gl_nil)))) (js_cons (js_set 7 sc.nd (js_lift (jp_call (fn__law_lists T 12) (hr.mono (by omega)) (ja_cons (jp_v 5) ja_nil)))) (js_cons (js_if (jte_not (jte_truth (je_call (fn__law_same T 12) (hr.mono (by omega)) (jae_cons (je_lst (jae_cons (je_callT (fn__law_heard T TB) (hr.mono (by omega)) (js_lift (ja_cons (jp_v 4) (ja_cons (jp_v 5) ja_nil)))) (jae_cons (je_callT (fn__law_heard T TB) (hr.mono (by omega)) (js_lift (ja_cons (jp_v 4) (ja_cons (jp_v 7) ja_nil)))) jae_nil))) (jae_cons (js_lift (jp_lst (ja_cons (jp_v 6) (ja_cons (jp_v 6) ja_nil)))) jae_nil))))) (js_one (js_ret (js_lift jp_bl))) js_nil) (js_one (js_if (js_lift (jt_ne hr (jp_v 7) (jp_call (fn__law_lists T 12) (hr.mono (by omega)) (ja_cons (jp_v 5) ja_nil)))) (js_one (js_ret (js_lift jp_bl))) js_nil))))) (jm_cons (cur := [0, 40]) [] (js_par2 8 9 rfl sc.nd (jae_cons (js_lift (jp_ix hr (jp_ix hr (jp_ix hr (jp_v 2) jp_int) jp_int) jp_int)) (jae_cons (je_callB 0 (fn__law_row T) (hr.mono (by omega)) (js_lift (ja_cons (jp_v 2) (ja_cons jp_str (ja_cons jp_int ja_nil))))) jae_nil))) (jm_ext (cur2 := [0, 10, 40]) 10 (jm_cons (cur := [0, 10, 40]) [10] (js_setN 10 sc.nd (jn_lst (jae_cons (js_lift (jp_callK (fnk_widened_2_1_0 T) (hr.mono (by omega)) (jk_cons jp_int (jk_cons (jp_v 8) (jk_cons (jp_v 2) jk_nil))))) (jae_cons (je_callKT (fnk_with_flow_1_0 T TB) (hr.mono (by omega)) (jk_cons (jp_v 9) (jk_cons (jp_v 2) jk_nil))) jae_nil)))) (jm_ext (cur2 := [0, 6, 10, 40]) 6 (jm_cons (cur := [0, 6, 10, 40]) [6, 10] (js_setN 6 sc.nd (jn_lst (js_lift (ja_cons (jp_call (fn__law_set_wide T) (hr.mono (by omega)) (ja_cons (jp_v 2) (ja_cons (jp_v 8) (ja_cons jp_int ja_nil)))) (ja_cons (jp_tup (ja_cons (jp_ix hr (jp_v 2) jp_int) (ja_cons (jp_callTy call_tupleP d_tuple T.b_tuple PyProof.Rows.boot_tuple (ja_cons (jp_callB (b_sorted3 rfl (hu70 hr)) d_sorted3 T.b_sorted rfl (ja_cons (jp_add (jp_ix hr (jp_v 2) jp_int) (jp_tup (ja_cons (jp_v 9) ja_nil))) ja_nil)) ja_nil)) ja_nil))) ja_nil))))) (jm_cons (cur := [0, 6, 10, 40]) [6, 10] (js_if (js_lift (jt_gt (jp_callB b_len d_len T.b_len PySem.boot_len (ja_cons (jp_ix hr (jp_v 2) jp_int) ja_nil)) jp_int)) (js_cons (js_app 10 (js_lift (jp_callK (fnk_without_flow_1_0 T) (hr.mono (by omega)) (jk_cons (jp_ix hr (jp_ix hr (jp_ix hr (jp_v 2) jp_int) jp_int) jp_int) (jk_cons (jp_v 2) jk_nil))))) (js_one (js_app 6 (js_lift (jp_tup (ja_cons (jp_ix hr (jp_v 2) jp_int) (ja_cons (jp_sl (jp_ix hr (jp_v 2) jp_int) (jo_some jp_int) jo_none) ja_nil))))))) js_nil) (jm_frz (cur := [0, 6, 10, 40]) (cur2 := [0, 6, 40]) 10 (jm_frz (cur := [0, 6, 40]) (cur2 := [0, 40]) 6 (jm_of (js_one (js_if (js_lift (jt_w (jw_or (jt_not (jt_truth (jp_call (fn__law_same T 12) (hr.mono (by omega)) (ja_cons (jp_v 10) (ja_cons (jp_v 6) ja_nil))))) (jw_or1 (jt_ne hr (jp_callB (cr_repr hgu (hu70 hr)) d_repr T.b_repr rfl (ja_cons (jp_v 2) ja_nil)) (jp_v 3)))))) (js_one (js_ret (js_lift jp_bl))) js_nil)))))))))))))))) (jb_of (js_one (js_ret (js_lift jp_bl))))))
theorem fn__law_right (T : Txt P K mg) (TB : LamX.TabB base mg (He.cT K ("with_flow", none)).1 (He.cT K ("with_flow", none)).2) : FnBTG P w K mg base 18 "_law_right" "with_flow" d__law_right := by
  obtain ⟨fd, F⟩ := T.f__law_right
  exact ⟨_, fd, ["_law_box_here"], ok__law_right T TB F, T.g__law_right, F.kp, F.bindsN fun _ _ _ _ _ _ us hl => match us, hl with | [_], _ => rfl⟩
theorem sc_law : FnScope [("_law_script" : Str), ("_law_cells_here" : Str), ("_law_k" : Str), (" 3" : Str), (" 4" : Str), (" 5" : Str), (" 6" : Str), (" 7" : Str), (" 8" : Str), (" 9" : Str), (" 10" : Str), (" 11" : Str), (" 12" : Str), (" 13" : Str), (" 14" : Str), (" 15" : Str), (" 16" : Str), (" 17" : Str), (" 18" : Str), (" 19" : Str), (" 20" : Str), (" 21" : Str), (" 22" : Str), (" 23" : Str), (" 24" : Str), (" 25" : Str), (" 26" : Str), (" 27" : Str), (" 28" : Str), (" 29" : Str), (" 30" : Str), (" 31" : Str), (" 32" : Str), (" 33" : Str), (" 34" : Str), (" 35" : Str), (" 36" : Str), (" 37" : Str), (" 38" : Str), (" 39" : Str), (" 40" : Str)] ["_law_script"] (defScope s_law) := ⟨rfl, rfl, rfl, by decide +kernel, rfl, by decide +kernel, by decide +kernel⟩
def d_law : List D → Rs D := denT 1 "with_flow" (sseq (sset 1 (lf [40] (vcall d__law_cells (acons (v 0) (acons (c (.int 2)) anil))))) (sseq (sforI (irng1 (lf [40] (vcallB (one dLen) (acons (v 1) anil)))) (gn 2) (sif (etnot (etr (ecallBNT d__law_right "with_flow" (ecall d__law_box (lf [40] (acons (v 1) (acons (v 2) anil)))) (lf [40] anil)))) (sret (lf [40] (c (.bl false)))) snext)) (sret (lf [40] (c (.bl true))))))
theorem ok_law (T : Txt P K mg) (TB : LamX.TabB base mg (He.cT K ("with_flow", none)).1 (He.cT K ("with_flow", none)).2) {fd : FuncData} (F : FunD K "law" "law" (defArgs s_law) (defBody s_law) (defScope s_law) [] [] (He.ga K "law") fd) : FnOkG P w K mg base (L2.CX P w) 19 (He.ga K "law") fd ["_law_script"] (spT K "with_flow" d_law) := by
  have sc := sc_law
  exact fnT_okG F sc (own := [40]) rfl rfl rfl rfl (fun cdv A outer s H E hr hgu => (jb_cons (js_set 1 sc.nd (js_lift (jp_call (fn__law_cells T) (hr.mono (by omega)) (ja_cons (jp_v 0) (ja_cons jp_int ja_nil))))) (jb_cons (js_for (passes_of rfl) rfl (ji_rng1 T.b_range (js_lift (jp_callB b_len d_len T.b_len PySem.boot_len (ja_cons (jp_v 1) ja_nil)))) (jg_n 2 sc.nd) (js_one (js_if (jte_not (jte_truth (je_callBNTG (fn__law_right T TB) hgu (hr.mono (by omega)) (jn_call (fn__law_box T) (hr.mono (by omega)) (js_lift (ja_cons (jp_v 1) (ja_cons (jp_v 2) ja_nil)))) (js_lift ja_nil)))) (js_one (js_ret (js_lift jp_bl))) js_nil))) (jb_of (js_one (js_ret (js_lift jp_bl)))))))
end
end Lw
end
section
set_option maxHeartbeats 0
namespace Lw
open PySem L2 PD
theorem pfR : PF (PySem.Challenge.rw_leastshare_k20_nets_that_are_changed).prog FILE := ⟨by kernel_rfl, by kernel_rfl⟩
theorem txt {K : Frag} {h : Heap} {mg : Str → Option Value} (X : K.In h) (G : h.Ns mainGlobals mg) (c : He.SaysD fa fn K) (x : exb K = true) : Txt (PySem.Challenge.rw_leastshare_k20_nets_that_are_changed).prog K mg where
  b_LookupError := He.free_ok X G (c.fact 19 (f := .free "LookupError") rfl)
  b_RuntimeError := He.free_ok X G (c.fact 20 (f := .free "RuntimeError") rfl)
  b_ValueError := He.free_ok X G (c.fact 21 (f := .free "ValueError") rfl)
  b_abs := He.free_ok X G (c.fact 22 (f := .free "abs") rfl)
  b_all := He.free_ok X G (c.fact 23 (f := .free "all") rfl)
  b_bool := He.free_ok X G (c.fact 24 (f := .free "bool") rfl)
  b_enumerate := He.free_ok X G (c.fact 25 (f := .free "enumerate") rfl)
  b_int := He.free_ok X G (c.fact 26 (f := .free "int") rfl)
  b_isinstance := He.free_ok X G (c.fact 27 (f := .free "isinstance") rfl)
  b_iter := He.free_ok X G (c.fact 28 (f := .free "iter") rfl)
  b_len := He.free_ok X G (c.fact 29 (f := .free "len") rfl)
  b_list := He.free_ok X G (c.fact 30 (f := .free "list") rfl)
  b_max := He.free_ok X G (c.fact 31 (f := .free "max") rfl)
  b_range := He.free_ok X G (c.fact 32 (f := .free "range") rfl)
  b_repr := He.free_ok X G (c.fact 33 (f := .free "repr") rfl)
  b_sorted := He.free_ok X G (c.fact 34 (f := .free "sorted") rfl)
  b_str := He.free_ok X G (c.fact 35 (f := .free "str") rfl)
  b_tuple := He.free_ok X G (c.fact 36 (f := .free "tuple") rfl)
  b_zip := He.free_ok X G (c.fact 37 (f := .free "zip") rfl)
  xx := xall_of X G (ex_at x 0 rfl)
  pf := pfR
  xl := ex_at x 1 rfl
  c_Net := scls_of (ex_at x 2 rfl)
  sl_Net_own_flows := slot_of (scls_of (ex_at x 2 rfl)) (ex_at x 3 rfl)
  sl_Net_own_names := slot_of (scls_of (ex_at x 2 rfl)) (ex_at x 4 rfl)
  sl_Net_own_rooms := slot_of (scls_of (ex_at x 2 rfl)) (ex_at x 5 rfl)
  mk_Net := He.mkr_ok (c.fact 38 (f := .mkr "Net") rfl)
  gc_Net := He.glo_ok X G (c.fact 39 (f := .glo "Net") rfl)
  m_Net___iter__ := He.meth_ok (c.fact 40 (f := .meth "Net" "__iter__") rfl)
  m_Net_has_line := He.meth_ok (c.fact 41 (f := .meth "Net" "has_line") rfl)
  m_Net_has_flow := He.meth_ok (c.fact 42 (f := .meth "Net" "has_flow") rfl)
  f_tupled := c.def_ 0 (d := ⟨("tupled", none), "tupled", "tupled", defArgs s_tupled, defBody s_tupled, defScope s_tupled, [], []⟩) rfl
  g_tupled := He.glo_ok X G (c.fact 0 (f := .glo "tupled") rfl)
  f_is_number := c.def_ 1 (d := ⟨("is_number", none), "is_number", "is_number", defArgs s_is_number, defBody s_is_number, defScope s_is_number, [], []⟩) rfl
  g_is_number := He.glo_ok X G (c.fact 1 (f := .glo "is_number") rfl)
  f_whole := c.def_ 2 (d := ⟨("whole", none), "whole", "whole", defArgs s_whole, defBody s_whole, defScope s_whole, [], []⟩) rfl
  g_whole := He.glo_ok X G (c.fact 2 (f := .glo "whole") rfl)
  f_widened := c.def_ 3 (d := ⟨("widened", none), "widened", "widened", defArgs s_widened, defBody s_widened, defScope s_widened, [], []⟩) rfl
  g_widened := He.glo_ok X G (c.fact 3 (f := .glo "widened") rfl)
  f_with_flow := c.def_ 4 (d := ⟨("with_flow", none), "with_flow", "with_flow", defArgs s_with_flow, defBody s_with_flow, defScope s_with_flow, [], []⟩) rfl
  g_with_flow := He.glo_ok X G (c.fact 4 (f := .glo "with_flow") rfl)
  f_without_flow := c.def_ 5 (d := ⟨("without_flow", none), "without_flow", "without_flow", defArgs s_without_flow, defBody s_without_flow, defScope s_without_flow, [], []⟩) rfl
  g_without_flow := He.glo_ok X G (c.fact 5 (f := .glo "without_flow") rfl)
  f__law_box := c.def_ 6 (d := ⟨("_law_box", none), "_law_box", "_law_box", defArgs s__law_box, defBody s__law_box, defScope s__law_box, [], []⟩) rfl
  g__law_box := He.glo_ok X G (c.fact 6 (f := .glo "_law_box") rfl)
  f__law_take := c.def_ 7 (d := ⟨("_law_take", none), "_law_take", "_law_take", defArgs s__law_take, defBody s__law_take, defScope s__law_take, [], []⟩) rfl
  g__law_take := He.glo_ok X G (c.fact 7 (f := .glo "_law_take") rfl)
  f__law_cells := c.def_ 8 (d := ⟨("_law_cells", none), "_law_cells", "_law_cells", defArgs s__law_cells, defBody s__law_cells, defScope s__law_cells, [], []⟩) rfl
  g__law_cells := He.glo_ok X G (c.fact 8 (f := .glo "_law_cells") rfl)
  f__law_of := c.def_ 9 (d := ⟨("_law_of", none), "_law_of", "_law_of", defArgs s__law_of, defBody s__law_of, defScope s__law_of, [], []⟩) rfl
  g__law_of := He.glo_ok X G (c.fact 9 (f := .glo "_law_of") rfl)
  f__law_lists := c.def_ 10 (d := ⟨("_law_lists", none), "_law_lists", "_law_lists", defArgs s__law_lists, defBody s__law_lists, defScope s__law_lists, [], []⟩) rfl
  g__law_lists := He.glo_ok X G (c.fact 10 (f := .glo "_law_lists") rfl)
  f__law_same := c.def_ 11 (d := ⟨("_law_same", none), "_law_same", "_law_same", defArgs s__law_same, defBody s__law_same, defScope s__law_same, [], []⟩) rfl
  g__law_same := He.glo_ok X G (c.fact 11 (f := .glo "_law_same") rfl)
  f__law_drawn_net := c.def_ 12 (d := ⟨("_law_drawn_net", none), "_law_drawn_net", "_law_drawn_net", defArgs s__law_drawn_net, defBody s__law_drawn_net, defScope s__law_drawn_net, [], []⟩) rfl
  g__law_drawn_net := He.glo_ok X G (c.fact 12 (f := .glo "_law_drawn_net") rfl)
  f__law_row := c.def_ 13 (d := ⟨("_law_row", none), "_law_row", "_law_row", defArgs s__law_row, defBody s__law_row, defScope s__law_row, [], []⟩) rfl
  g__law_row := He.glo_ok X G (c.fact 13 (f := .glo "_law_row") rfl)
  f__law_set_wide := c.def_ 14 (d := ⟨("_law_set_wide", none), "_law_set_wide", "_law_set_wide", defArgs s__law_set_wide, defBody s__law_set_wide, defScope s__law_set_wide, [], []⟩) rfl
  g__law_set_wide := He.glo_ok X G (c.fact 14 (f := .glo "_law_set_wide") rfl)
  f__law_heard := c.def_ 15 (d := ⟨("_law_heard", none), "_law_heard", "_law_heard", defArgs s__law_heard, defBody s__law_heard, defScope s__law_heard, [], []⟩) rfl
  g__law_heard := He.glo_ok X G (c.fact 15 (f := .glo "_law_heard") rfl)
  f__law_cases := c.def_ 16 (d := ⟨("_law_cases", none), "_law_cases", "_law_cases", defArgs s__law_cases, defBody s__law_cases, defScope s__law_cases, [], []⟩) rfl
  g__law_cases := He.glo_ok X G (c.fact 16 (f := .glo "_law_cases") rfl)
  f__law_right := c.def_ 17 (d := ⟨("_law_right", none), "_law_right", "_law_right", defArgs s__law_right, defBody s__law_right, defScope s__law_right, [], []⟩) rfl
  g__law_right := He.glo_ok X G (c.fact 17 (f := .glo "_law_right") rfl)
  f_law := c.def_ 18 (d := ⟨("law", none), "law", "law", defArgs s_law, defBody s_law, defScope s_law, [], []⟩) rfl
  g_law := He.glo_ok X G (c.fact 18 (f := .glo "law") rfl)
  f_Net___iter__ := c.def_ 19 (d := ⟨("Net", some "__iter__"), "__iter__", "Net.__iter__", defArgs s_Net___iter__, defBody s_Net___iter__, defScope s_Net___iter__, [], []⟩) rfl
  f_Net___init__ := c.def_ 20 (d := ⟨("Net", some "__init__"), "__init__", "Net.__init__", defArgs s_Net___init__, defBody s_Net___init__, defScope s_Net___init__, [], []⟩) rfl
  f_Net_has_line := c.def_ 21 (d := ⟨("Net", some "has_line"), "has_line", "Net.has_line", defArgs s_Net_has_line, defBody s_Net_has_line, defScope s_Net_has_line, [], []⟩) rfl
  f_Net_has_flow := c.def_ 22 (d := ⟨("Net", some "has_flow"), "has_flow", "Net.has_flow", defArgs s_Net_has_flow, defBody s_Net_has_flow, defScope s_Net_has_flow, [], []⟩) rfl
theorem law_holds (main : ∀ ns : List Int, ns.length ≤ 63 → d_law [.scr (ns.map D.int)] = some (.ok (.bl true))) : PySem.Challenge.rw_leastshare_k20_nets_that_are_changed.Holds := by
  w_on; o_law
  refine HandSHeadRun.head_any (r := PySem.W.OpenLaw.row PySem.Challenge.rw_leastshare_k20_nets_that_are_changed) (q := PySem.W.view (PySem.W.OpenLaw.row PySem.Challenge.rw_leastshare_k20_nets_that_are_changed).prog [34]) (H := hk) (ob := ob) (M := 6000) (loose := loose) (d := HandSHeadRun.topDef (PySem.W.OpenLaw.row PySem.Challenge.rw_leastshare_k20_nets_that_are_changed).prog 34) (kwd := []) ob_eq
    (by kernel_rfl) (fun s => by kernel_rfl) run (by kernel_rfl) (by kernel_rfl) (by kernel_rfl) (by rfl) (by first | assumption | decide +kernel) (by decide +kernel) ⟨rfl, rfl, rfl, rfl, rfl, by decide +kernel⟩ ?hw ?hc
  case hw => w_witness2
  case hc =>
    refine PD.walk_ofTG (l := PySem.Challenge.rw_leastshare_k20_nets_that_are_changed) (n := 63) (k := 19) (x := "_law_script") (CX := fun w => L2.CX (PySem.Challenge.rw_leastshare_k20_nets_that_are_changed).prog w) rfl (by decide) (by kernel_rfl) ⟨rfl, by decide, by decide⟩ ?F (fun w H s e s' z => cx_false z)
    intro w mg fa' h Y G hmg0
    obtain ⟨K, KX, cD, cE, cT⟩ := Y
    have hmg : mg ("law" : PySem.Str) = some (.ref fa') := by
      have e : (HandSHeadRun.topDef (PySem.W.OpenLaw.row PySem.Challenge.rw_leastshare_k20_nets_that_are_changed).prog 34).name = ("law" : PySem.Str) := by kernel_rfl
      rw [← e]
      exact hmg0
    have T := txt KX G cD cE
    obtain ⟨fd, F⟩ := T.f_law
    cases hmg.symm.trans T.g_law
    have b := FunD.bindsA (ps := ["_law_script"]) F fun _ _ _ _ _ _ us hl => match us, hl with | [_], _ => rfl
    have mem : (("with_flow" : PySem.Str), (none : Option PySem.Str)) ∈ tfL := List.mem_singleton.2 rfl
    exact ⟨K, KX, fd, (He.cT K ("with_flow", none)).1, (He.cT K ("with_flow", none)).2, spT K "with_flow" d_law, cT.empty _ mem, cT.out _ mem, PySem.W.codeHd_of_K KX (cT.hd _ mem),
      fun s v => b s [v] rfl, fun H a ns hl hT hS => law_spT hT hS (main ns hl), fun base _ _ TB => ok_law T TB F⟩
end Lw
end
section
namespace PD
open PySem L2
abbrev PropOf {β : Type} (_ : β → Prop) : Type := Prop
abbrev PropOf2 {β : Type} (_ : β → Env → Prop) : Type := Prop
def okR {α : Type} (o : Rs α) (Q : α → Prop) : PropOf Q := ∃ a, o = some (.ok a) ∧ Q a
def okE {α : Type} (o : RE α) (Q : α → Env → Prop) : PropOf2 Q := ∃ a δ, o = some (.ok (a, δ)) ∧ Q a δ
def okO {α : Type} (o : Option α) (Q : α → Prop) : PropOf Q := ∃ a, o = some a ∧ Q a
theorem okO.mono {α : Type} {o : Option α} {Q R : α → Prop} (h : okO o Q) (k : ∀ a, Q a → R a) : okO o R := let ⟨a, e, q⟩ := h; ⟨a, e, k a q⟩
theorem okR.mono {α : Type} {o : Rs α} {Q R : α → Prop} (h : okR o Q) (k : ∀ a, Q a → R a) : okR o R := let ⟨a, e, q⟩ := h; ⟨a, e, k a q⟩
theorem okE.mono {α : Type} {o : RE α} {Q R : α → Env → Prop} (h : okE o Q) (k : ∀ a δ, Q a δ → R a δ) : okE o R := let ⟨a, δ, e, q⟩ := h; ⟨a, δ, e, k a δ q⟩
@[simp] theorem okR_some {α : Type} {a : α} {Q : α → Prop} : okR (some (.ok a)) Q = Q a := by
  apply propext; constructor
  · rintro ⟨b, e, q⟩; cases e; exact q
  · exact fun q => ⟨a, rfl, q⟩
@[simp] theorem okR_ok {α : Type} {a : α} {Q : α → Prop} : okR (ok a) Q = Q a := okR_some
@[simp] theorem okR_bind {α β : Type} {x : Rs α} {f : α → Rs β} {Q : β → Prop} : okR (bind x f) Q = okR x fun a => okR (f a) Q := by
  apply propext
  cases x with
  | none => constructor <;> (rintro ⟨_, e, _⟩; cases e)
  | some y => cases y with
    | error e => constructor <;> (rintro ⟨_, e, _⟩; cases e)
    | ok a => rw [okR_some]; exact Iff.rfl
@[simp] theorem okR_opt {α : Type} {x : Option α} {Q : α → Prop} : okR (opt x) Q = okO x Q := by
  apply propext
  cases x with
  | none => constructor <;> (rintro ⟨_, e, _⟩; cases e)
  | some y => constructor
              · rintro ⟨_, e, q⟩; cases e; exact ⟨_, rfl, q⟩
              · rintro ⟨_, e, q⟩; cases e; exact ⟨_, rfl, q⟩
@[simp] theorem okR_ite {α : Type} {p : Prop} [Decidable p] {x y : Rs α} {Q : α → Prop} : okR (if p then x else y) Q = if p then okR x Q else okR y Q := by split <;> rfl
@[simp] theorem okO_some {α : Type} {x : α} {Q : α → Prop} : okO (some x) Q = Q x := by
  apply propext; constructor
  · rintro ⟨b, e, q⟩; cases e; exact q
  · exact fun q => ⟨x, rfl, q⟩
@[simp] theorem okE_some {α : Type} {a : α} {δ : Env} {Q : α → Env → Prop} : okE (some (.ok (a, δ))) Q = Q a δ := by
  apply propext; constructor
  · rintro ⟨b, _, e, q⟩; cases e; exact q
  · exact fun q => ⟨a, δ, rfl, q⟩
@[simp] theorem okE_bind {α β : Type} {x : RE α} {f : α → Env → RE β} {Q : β → Env → Prop} : okE (bindE x f) Q = okE x fun a δ => okE (f a δ) Q := by
  apply propext
  cases x with
  | none => constructor <;> (rintro ⟨_, _, e, _⟩; cases e)
  | some y => cases y with
    | error e => constructor <;> (rintro ⟨_, _, e, _⟩; cases e)
    | ok a => obtain ⟨a, δ⟩ := a; rw [okE_some]; exact Iff.rfl
@[simp] theorem okE_ite {α : Type} {p : Prop} [Decidable p] {x y : RE α} {Q : α → Env → Prop} : okE (if p then x else y) Q = if p then okE x Q else okE y Q := by split <;> rfl
@[simp] theorem okE_map {α : Type} {x : Option D} {δ : Env} {g : D → α} {Q : α → Env → Prop} : okE (x.map fun z => .ok (g z, δ)) Q = okO x fun z => Q (g z) δ := by
  apply propext
  cases x with
  | none => constructor
            · rintro ⟨_, _, e, _⟩; cases e
            · rintro ⟨_, e, _⟩; cases e
  | some y => constructor
              · rintro ⟨_, _, e, q⟩; cases e; exact ⟨_, rfl, q⟩
              · rintro ⟨_, e, q⟩; cases e; exact ⟨_, _, rfl, q⟩
@[simp] theorem okE_lf {α : Type} {own : List Nat} {g : Env → Rs α} {δ : Env} {Q : α → Env → Prop} : okE (lf own g δ) Q = okR (g (mask own δ)) fun d => Q d δ := by
  apply propext
  unfold lf
  cases g (mask own δ) with
  | none => constructor <;> (first | (rintro ⟨_, _, e, _⟩; cases e) | (rintro ⟨_, e, _⟩; cases e))
  | some y => cases y with
    | error e => constructor <;> (first | (rintro ⟨_, _, e, _⟩; cases e) | (rintro ⟨_, e, _⟩; cases e))
    | ok a => simp only [okR_some, okE_some]
@[simp] theorem okE_lfo {g : Env → Rs D} {δ : Env} {Q : D → Env → Prop} : okE (lfo g δ) Q = okR (g δ) fun d => flat d = true ∧ Q d δ := by
  apply propext
  unfold lfo
  cases g δ with
  | none => constructor <;> (first | (rintro ⟨_, _, e, _⟩; cases e) | (rintro ⟨_, e, _⟩; cases e))
  | some y => cases y with
    | error e => constructor <;> (first | (rintro ⟨_, _, e, _⟩; cases e) | (rintro ⟨_, e, _⟩; cases e))
    | ok a =>
      simp only [okR_some]
      cases h : flat a with
      | true => simp [okE_some]
      | false => simp; rintro ⟨_, _, e, _⟩; cases e
@[simp] theorem okE_lfT {g : Env → Rs Bool} {δ : Env} {Q : Bool → Env → Prop} : okE (lfT g δ) Q = okR (g δ) fun d => Q d δ := by
  apply propext
  unfold lfT
  cases g δ with
  | none => constructor <;> (first | (rintro ⟨_, _, e, _⟩; cases e) | (rintro ⟨_, e, _⟩; cases e))
  | some y => cases y with
    | error e => constructor <;> (first | (rintro ⟨_, _, e, _⟩; cases e) | (rintro ⟨_, e, _⟩; cases e))
    | ok a => simp only [okR_some, okE_some]
@[simp] theorem okR_pur {α : Type} {f : Env → RE α} {δ : Env} {Q : α → Prop} : okR (pur f δ) Q = okE (f δ) fun a _ => Q a := by
  apply propext
  unfold pur
  cases f δ with
  | none => constructor <;> (first | (rintro ⟨_, _, e, _⟩; cases e) | (rintro ⟨_, e, _⟩; cases e))
  | some y => cases y with
    | error e => constructor <;> (first | (rintro ⟨_, _, e, _⟩; cases e) | (rintro ⟨_, e, _⟩; cases e))
    | ok a => obtain ⟨a, δ1⟩ := a; simp only [okR_some, okE_some]
@[simp] theorem okE_ecall {m : List D → Rs D} {a : Env → RE (List D)} {δ : Env} {Q : D → Env → Prop} : okE (ecall m a δ) Q = okE (a δ) fun xs δ' => okR (m xs) fun d => Q d δ' := by
  unfold ecall
  rw [okE_bind]
  congr; funext xs δ'
  apply propext
  cases m xs with
  | none => constructor <;> (first | (rintro ⟨_, _, e, _⟩; cases e) | (rintro ⟨_, e, _⟩; cases e))
  | some y => cases y with
    | error e => constructor <;> (first | (rintro ⟨_, _, e, _⟩; cases e) | (rintro ⟨_, e, _⟩; cases e))
    | ok a => simp only [okR_some, okE_some]
theorem okS_seq {a b : Env → RO} {δ : Env} {Q : Out → Env → Prop} (h : okE (a δ) fun o δ' => match o with | .nx => okE (b δ') Q | o => Q o δ') : okE (sseq a b δ) Q := by
  obtain ⟨o, δ', e, q⟩ := h
  unfold sseq
  cases o with
  | nx => rw [e]; exact q
  | rt d => rw [e]; exact ⟨_, _, rfl, q⟩
  | bk => rw [e]; exact ⟨_, _, rfl, q⟩
  | ct => rw [e]; exact ⟨_, _, rfl, q⟩
@[simp] theorem okS_seqE {a b : Env → RO} {δ : Env} {Q : Out → Env → Prop} : okE (sseq a b δ) Q = okE (a δ) fun o δ' => match o with | .nx => okE (b δ') Q | .rt d => Q (.rt d) δ' | .bk => Q .bk δ' | .ct => Q .ct δ' := by
  apply propext; constructor
  · rintro ⟨o, δ', e, q⟩
    unfold sseq at e
    cases h : a δ with
    | none => rw [h] at e; cases e
    | some y => rcases y with x | ⟨o1, δ1⟩
                · rw [h] at e; cases e
                · rw [h] at e
                  cases o1 with
                  | nx => exact ⟨_, _, rfl, _, _, e, q⟩
                  | rt d => cases e; exact ⟨_, _, rfl, q⟩
                  | bk => cases e; exact ⟨_, _, rfl, q⟩
                  | ct => cases e; exact ⟨_, _, rfl, q⟩
  · intro h
    refine okS_seq (h.mono fun o δ' q => ?_)
    cases o <;> exact q
@[simp] theorem okS_set {i : Nat} {f : Env → RE D} {δ : Env} {Q : Out → Env → Prop} : okE (sset i f δ) Q = okE (f δ) fun d δ' => Q .nx (δ'.set i (some d)) := by
  unfold sset; rw [okE_bind]; congr; funext d δ'; rw [okE_some]
@[simp] theorem okS_ret {f : Env → RE D} {δ : Env} {Q : Out → Env → Prop} : okE (sret f δ) Q = okE (f δ) fun d δ' => Q (.rt d) δ' := by
  unfold sret; rw [okE_bind]; congr; funext d δ'; rw [okE_some]
@[simp] theorem okS_next {δ : Env} {Q : Out → Env → Prop} : okE (snext δ) Q = Q .nx δ := okE_some
@[simp] theorem okS_if {t : Env → RE Bool} {a b : Env → RO} {δ : Env} {Q : Out → Env → Prop} : okE (sif t a b δ) Q = okE (t δ) fun k δ' => if k = true then okE (a δ') Q else okE (b δ') Q := by
  unfold sif; rw [okE_bind]; congr; funext d δ'; rw [okE_ite]
theorem okS_for {g : D → Env → Option Env} {b : Env → RO} {Q : Out → Env → Prop} (I : Nat → Env → Prop) : ∀ {ds : List D} {n : Nat} {δ : Env}, I n δ →
    (∀ i d δ, ds[i]? = some d → I (n + i) δ → ∃ δ1, g d δ = some δ1 ∧ okE (b δ1) fun o δ2 => match o with | .nx => I (n + i + 1) δ2 | .ct => I (n + i + 1) δ2 | .rt d => Q (.rt d) δ2 | .bk => Q .nx δ2) →
    (∀ δ, I (n + ds.length) δ → Q .nx δ) → okE (sfor g b ds δ) Q
  | [], n, δ, h0, _, hq => ⟨_, _, rfl, hq δ h0⟩
  | d :: ds, n, δ, h0, hs, hq => by
    obtain ⟨δ1, e1, o, δ2, e2, q⟩ := hs 0 d δ rfl h0
    have go : I (n + 1) δ2 → okE (sfor g b ds δ2) Q := fun h => okS_for I h (fun i d δ hi hI => by
      have := hs (i + 1) d δ hi (by rw [← Nat.add_assoc, Nat.add_right_comm]; exact hI)
      rw [← Nat.add_assoc, Nat.add_right_comm n i 1] at this; exact this) (fun δ hI => hq δ (by rw [List.length_cons, Nat.add_comm ds.length, ← Nat.add_assoc]; exact hI))
    unfold sfor; rw [e1]; simp only []; rw [e2]
    cases o with
    | nx => exact go q
    | ct => exact go q
    | rt d => exact ⟨_, _, rfl, q⟩
    | bk => exact ⟨_, _, rfl, q⟩
@[simp] theorem okS_forI {f : Env → RE (List D)} {g : D → Env → Option Env} {b : Env → RO} {δ : Env} {Q : Out → Env → Prop} : okE (sforI f g b δ) Q = okE (f δ) fun ds δ' => okE (sfor g b ds δ') Q := by
  unfold sforI; rw [okE_bind]
theorem okE_scomp {vs : List Nat} {g : D → Env → Option Env} {t : Env → RE Bool} {e : Env → RE D} (I : Nat → List D → Env → Prop) : ∀ {ds acc : List D} {n : Nat} {δ : Env}, I n acc δ →
    (∀ i d acc δ, ds[i]? = some d → I (n + i) acc δ → ∃ δ1, g d δ = some δ1 ∧ okE (t δ1) fun k δ2 => if k = true then okE (e δ2) (fun y δ3 => acc.length < sizeLine ∧ I (n + i + 1) (acc ++ [y]) (wipeD vs δ3)) else I (n + i + 1) acc (wipeD vs δ2)) →
    okE (scomp vs g t e ds acc δ) (I (n + ds.length))
  | [], acc, n, δ, h0, _ => ⟨_, _, rfl, h0⟩
  | d :: ds, acc, n, δ, h0, hs => by
    obtain ⟨δ1, e1, k, δ2, e2, q⟩ := hs 0 d acc δ rfl h0
    have go : ∀ {acc δ2}, I (n + 1) acc δ2 → okE (scomp vs g t e ds acc δ2) (I (n + (d :: ds).length)) := fun {acc δ2} h => by
      have := okE_scomp (vs := vs) (g := g) (t := t) (e := e) I (ds := ds) h (fun i d acc δ hi hI => by
        have := hs (i + 1) d acc δ hi (by rw [← Nat.add_assoc, Nat.add_right_comm]; exact hI)
        rw [← Nat.add_assoc, Nat.add_right_comm n i 1] at this; exact this)
      rw [List.length_cons, Nat.add_comm ds.length, ← Nat.add_assoc]; exact this
    unfold scomp; rw [e1]; simp only []; rw [e2]
    cases k with
    | false => exact go q
    | true =>
      obtain ⟨y, δ3, e3, hl, q⟩ := q
      simp only []; rw [e3]; simp only []; rw [if_pos hl]
      exact go q
@[simp] theorem okE_ecomp {vs : List Nat} {f : Env → RE (List D)} {g : D → Env → Option Env} {t : Env → RE Bool} {e : Env → RE D} {δ : Env} {Q : D → Env → Prop} : okE (ecomp vs f g t e δ) Q = okE (f δ) fun ds δ' => okE (scomp vs g t e ds [] (wipeD vs δ')) fun ys δ2 => Q (.lst ys) δ2 := by
  unfold ecomp; rw [okE_bind]; congr; funext ds δ'; rw [okE_bind]; congr; funext ys δ2; rw [okE_some]
end PD
end
section
namespace PD
open PySem L2
@[simp] theorem okR_v {i : Nat} {δ : Env} {Q : D → Prop} : okR (v i δ) Q = okO (δ[i]?.join) fun d => Q d := okR_opt
@[simp] theorem okR_c {d : D} {δ : Env} {Q : D → Prop} : okR (c d δ) Q = Q d := okR_ok
@[simp] theorem okR_op2 {g : D → D → Option D} {a b : Env → Rs D} {δ : Env} {Q : D → Prop} : okR (op2 g a b δ) Q = okR (a δ) fun x => okR (b δ) fun y => okO (g x y) fun z => Q z := by
  unfold op2; rw [okR_bind]; congr; funext x; rw [okR_bind]; congr; funext y; rw [okR_opt]
@[simp] theorem okR_tr {g : Env → Rs D} {δ : Env} {Q : Bool → Prop} : okR (tr g δ) Q = okR (g δ) fun x => okO (truth x) fun b => Q b := by
  unfold tr; rw [okR_bind]; congr; funext x; rw [okR_opt]
@[simp] theorem okR_tb {g : Env → Rs D} {δ : Env} {Q : Bool → Prop} : okR (tb g δ) Q = okR (g δ) fun x => okO (asB x) fun b => Q b := by
  unfold tb; rw [okR_bind]; congr; funext x; rw [okR_opt]
@[simp] theorem okR_tor {t u : Env → Rs Bool} {δ : Env} {Q : Bool → Prop} : okR (tor t u δ) Q = okR (t δ) fun b => if b = true then Q true else okR (u δ) Q := by
  unfold tor; rw [okR_bind]; congr; funext b; rw [okR_ite, okR_ok]
@[simp] theorem okR_vand {a b : Env → Rs D} {δ : Env} {Q : D → Prop} : okR (vand a b δ) Q = okR (a δ) fun x => okO (truth x) fun k => if k = true then okR (b δ) Q else Q x := by
  unfold vand; rw [okR_bind]; congr; funext x; rw [okR_bind, okR_opt]; congr; funext k; rw [okR_ite, okR_ok]
@[simp] theorem okR_vor {a b : Env → Rs D} {δ : Env} {Q : D → Prop} : okR (vor a b δ) Q = okR (a δ) fun x => okO (truth x) fun k => if k = true then Q x else okR (b δ) Q := by
  unfold vor; rw [okR_bind]; congr; funext x; rw [okR_bind, okR_opt]; congr; funext k; rw [okR_ite, okR_ok]
@[simp] theorem okR_vnot {a : Env → Rs D} {δ : Env} {Q : D → Prop} : okR (vnot a δ) Q = okR (a δ) fun x => okO (truth x) fun k => Q (.bl (!k)) := by
  unfold vnot; rw [okR_bind]; congr; funext x; rw [okR_bind, okR_opt]; congr; funext k; rw [okR_ok]
@[simp] theorem okR_vif {t : Env → Rs Bool} {a b : Env → Rs D} {δ : Env} {Q : D → Prop} : okR (vif t a b δ) Q = okR (t δ) fun k => if k = true then okR (a δ) Q else okR (b δ) Q := by
  unfold vif; rw [okR_bind]; congr; funext b; rw [okR_ite]
@[simp] theorem okR_vis {a : Env → Rs D} {δ : Env} {Q : D → Prop} : okR (vis a δ) Q = okR (a δ) fun x => Q (.bl (isNon x)) := by
  unfold vis; rw [okR_bind]; congr; funext x; rw [okR_ok]
@[simp] theorem okR_visi {t : Ty} {a : Env → Rs D} {δ : Env} {Q : D → Prop} : okR (visi t a δ) Q = okR (a δ) fun x => okO (isA t x) fun b => Q (.bl b) := by
  unfold visi; rw [okR_bind]; congr; funext x; rw [okR_opt]; apply propext; cases isA t x <;> simp [okO]
@[simp] theorem okR_visi2 {t u : Ty} {a : Env → Rs D} {δ : Env} {Q : D → Prop} : okR (visi2 t u a δ) Q = okR (a δ) fun x => okO (isA2 t u x) fun b => Q (.bl b) := by
  unfold visi2; rw [okR_bind]; congr; funext x; rw [okR_opt]; apply propext; cases isA2 t u x <;> simp [okO]
@[simp] theorem okR_anil {δ : Env} {Q : List D → Prop} : okR (anil δ) Q = Q [] := okR_ok
@[simp] theorem okR_acons {a : Env → Rs D} {r : Env → Rs (List D)} {δ : Env} {Q : List D → Prop} : okR (acons a r δ) Q = okR (a δ) fun x => okR (r δ) fun xs => Q (x :: xs) := by
  unfold acons; rw [okR_bind]; congr; funext x; rw [okR_bind]; congr; funext xs; rw [okR_ok]
@[simp] theorem okR_vtup {a : Env → Rs (List D)} {δ : Env} {Q : D → Prop} : okR (vtup a δ) Q = okR (a δ) fun xs => xs.length ≤ sizeLine ∧ Q (.tup xs) := by
  unfold vtup; rw [okR_bind]; congr; funext xs; rw [okR_ite, okR_ok]; apply propext
  split
  · simp [*]
  · rename_i hn; constructor
    · rintro ⟨_, e, _⟩; cases e
    · exact fun h => absurd h.1 hn
@[simp] theorem okR_vlst {a : Env → Rs (List D)} {δ : Env} {Q : D → Prop} : okR (vlst a δ) Q = okR (a δ) fun xs => xs.length ≤ sizeLine ∧ Q (.lst xs) := by
  unfold vlst; rw [okR_bind]; congr; funext xs; rw [okR_ite, okR_ok]; apply propext
  split
  · simp [*]
  · rename_i hn; constructor
    · rintro ⟨_, e, _⟩; cases e
    · exact fun h => absurd h.1 hn
@[simp] theorem okR_vcall {m : List D → Rs D} {a : Env → Rs (List D)} {δ : Env} {Q : D → Prop} : okR (vcall m a δ) Q = okR (a δ) fun xs => okR (m xs) Q := okR_bind
@[simp] theorem okR_vcallB {g : List D → Option D} {a : Env → Rs (List D)} {δ : Env} {Q : D → Prop} : okR (vcallB g a δ) Q = okR (a δ) fun xs => okO (g xs) fun z => Q z := by
  unfold vcallB; rw [okR_bind]; congr; funext x; rw [okR_opt]
@[simp] theorem okR_vcallK {m : List D → Rs D} {n : Nat} {ix : List Nat} {a : Env → Rs (List D)} {δ : Env} {Q : D → Prop} : okR (vcallK m n ix a δ) Q = okR (a δ) fun xs => xs.length = n ∧ okR (m (pick ix xs)) Q := by
  unfold vcallK; rw [okR_bind]; congr; funext xs; rw [okR_ite]; apply propext
  split
  · simp [*]
  · rename_i hn; constructor
    · rintro ⟨_, e, _⟩; cases e
    · exact fun h => absurd h.1 hn
@[simp] theorem okR_onone {δ : Env} {Q : Option Int → Prop} : okR (onone δ) Q = Q none := okR_ok
@[simp] theorem okR_osome {a : Env → Rs D} {δ : Env} {Q : Option Int → Prop} : okR (osome a δ) Q = okR (a δ) fun x => okO (asI x) fun z => Q z := by
  unfold osome; rw [okR_bind]; congr; funext x; rw [okR_opt]
@[simp] theorem okR_vsl {a : Env → Rs D} {lo hi : Env → Rs (Option Int)} {δ : Env} {Q : D → Prop} : okR (vsl a lo hi δ) Q = okR (a δ) fun x => okR (lo δ) fun l => okR (hi δ) fun h => okO (dSl x l h) fun z => Q z := by
  unfold vsl; rw [okR_bind]; congr; funext x; rw [okR_bind]; congr; funext l; rw [okR_bind]; congr; funext h; rw [okR_opt]
@[simp] theorem okE_enil {δ : Env} {Q : List D → Env → Prop} : okE (enil δ) Q = Q [] δ := okE_some
@[simp] theorem okE_econs {a : Env → RE D} {r : Env → RE (List D)} {δ : Env} {Q : List D → Env → Prop} : okE (econs a r δ) Q = okE (a δ) fun x δ1 => okE (r δ1) fun xs δ2 => Q (x :: xs) δ2 := by
  unfold econs; rw [okE_bind]; congr; funext x δ1; rw [okE_bind]; congr; funext xs δ2; rw [okE_some]
@[simp] theorem okE_etup {a : Env → RE (List D)} {δ : Env} {Q : D → Env → Prop} : okE (etup a δ) Q = okE (a δ) fun xs δ' => xs.length ≤ sizeLine ∧ Q (.tup xs) δ' := by
  unfold etup; rw [okE_bind]; congr; funext xs δ'; rw [okE_ite, okE_some]; apply propext
  split
  · simp [*]
  · rename_i hn; constructor
    · rintro ⟨_, _, e, _⟩; cases e
    · exact fun h => absurd h.1 hn
@[simp] theorem okE_elst {a : Env → RE (List D)} {δ : Env} {Q : D → Env → Prop} : okE (elst a δ) Q = okE (a δ) fun xs δ' => xs.length ≤ sizeLine ∧ Q (.lst xs) δ' := by
  unfold elst; rw [okE_bind]; congr; funext xs δ'; rw [okE_ite, okE_some]; apply propext
  split
  · simp [*]
  · rename_i hn; constructor
    · rintro ⟨_, _, e, _⟩; cases e
    · exact fun h => absurd h.1 hn
@[simp] theorem okE_eop2 {g : D → D → Option D} {a b : Env → RE D} {δ : Env} {Q : D → Env → Prop} : okE (eop2 g a b δ) Q = okE (a δ) fun x δ1 => okE (b δ1) fun y δ2 => okO (g x y) fun z => Q z δ2 := by
  unfold eop2; rw [okE_bind]; congr; funext x δ1; rw [okE_bind]; congr; funext y δ2; exact okE_map
@[simp] theorem okE_etb {g : Env → RE D} {δ : Env} {Q : Bool → Env → Prop} : okE (etb g δ) Q = okE (g δ) fun x δ' => okO (asB x) fun b => Q b δ' := by
  unfold etb; rw [okE_bind]; congr; funext x δ'; apply propext
  cases asB x with
  | none => constructor
            · rintro ⟨_, _, e, _⟩; cases e
            · rintro ⟨_, e, _⟩; cases e
  | some y => constructor
              · rintro ⟨_, _, e, q⟩; cases e; exact ⟨_, rfl, q⟩
              · rintro ⟨_, e, q⟩; cases e; exact ⟨_, _, rfl, q⟩
@[simp] theorem okE_etr {g : Env → RE D} {δ : Env} {Q : Bool → Env → Prop} : okE (etr g δ) Q = okE (g δ) fun x δ' => okO (truth x) fun b => Q b δ' := by
  unfold etr; rw [okE_bind]; congr; funext x δ'; apply propext
  cases truth x with
  | none => constructor
            · rintro ⟨_, _, e, _⟩; cases e
            · rintro ⟨_, e, _⟩; cases e
  | some y => constructor
              · rintro ⟨_, _, e, q⟩; cases e; exact ⟨_, rfl, q⟩
              · rintro ⟨_, e, q⟩; cases e; exact ⟨_, _, rfl, q⟩
@[simp] theorem okE_eif {t : Env → RE Bool} {a b : Env → RE D} {δ : Env} {Q : D → Env → Prop} : okE (eif t a b δ) Q = okE (t δ) fun k δ' => if k = true then okE (a δ') Q else okE (b δ') Q := by
  unfold eif; rw [okE_bind]; congr; funext k δ'; rw [okE_ite]
@[simp] theorem okE_etnot {t : Env → RE Bool} {δ : Env} {Q : Bool → Env → Prop} : okE (etnot t δ) Q = okE (t δ) fun k δ' => Q (!k) δ' := by
  unfold etnot; rw [okE_bind]; congr; funext k δ'; rw [okE_some]
@[simp] theorem okE_tyes {δ : Env} {Q : Bool → Env → Prop} : okE (tyes δ) Q = Q true δ := okE_some
@[simp] theorem okE_ecallG {g : List D → Option D} {f : Env → RE (List D)} {δ : Env} {Q : D → Env → Prop} : okE (ecallG g f δ) Q = okE (f δ) fun xs δ' => okO (g xs) fun z => Q z δ' := by
  unfold ecallG; rw [okE_bind]; congr; funext xs δ'; exact okE_map
@[simp] theorem okE_iany {f : Env → RE D} {δ : Env} {Q : List D → Env → Prop} : okE (iany f δ) Q = okE (f δ) fun d δ' => okO (itemsA d) fun xs => Q xs δ' := by
  unfold iany; rw [okE_bind]; congr; funext x δ'; apply propext
  cases itemsA x with
  | none => constructor
            · rintro ⟨_, _, e, _⟩; cases e
            · rintro ⟨_, e, _⟩; cases e
  | some y => constructor
              · rintro ⟨_, _, e, q⟩; cases e; exact ⟨_, rfl, q⟩
              · rintro ⟨_, e, q⟩; cases e; exact ⟨_, _, rfl, q⟩
theorem okE_irng1 {f : Env → RE D} {δ : Env} {Q : List D → Env → Prop} (h : okE (f δ) fun d δ' => ∃ n : Int, d = .int n ∧ -(2 ^ 62) ≤ n ∧ n < 2 ^ 62 ∧ Q (rng 0 n) δ') : okE (irng1 f δ) Q := by
  unfold irng1; rw [okE_bind]
  refine h.mono fun d δ' ⟨n, e, h1, h2, q⟩ => ?_
  subst e
  simp only []
  rw [if_pos ⟨h1, h2⟩]; exact ⟨_, _, rfl, q⟩
theorem okS_par2 {i j : Nat} {f : Env → RE (List D)} {δ : Env} {Q : Out → Env → Prop} (h : okE (f δ) fun ds δ' => ∃ a b, ds = [a, b] ∧ Q .nx ((δ'.set i (some a)).set j (some b))) : okE (spar2 i j f δ) Q := by
  unfold spar2; rw [okE_bind]
  exact h.mono fun ds δ' ⟨a, b, e, q⟩ => by subst e; exact ⟨_, _, rfl, q⟩
theorem okS_par3 {i j l : Nat} {f : Env → RE (List D)} {δ : Env} {Q : Out → Env → Prop} (h : okE (f δ) fun ds δ' => ∃ a b e, ds = [a, b, e] ∧ Q .nx (((δ'.set i (some a)).set j (some b)).set l (some e))) : okE (spar3 i j l f δ) Q := by
  unfold spar3; rw [okE_bind]
  exact h.mono fun ds δ' ⟨a, b, e, h, q⟩ => by subst h; exact ⟨_, _, rfl, q⟩
@[simp] theorem okS_asg {g : D → Env → Option Env} {f : Env → RE D} {δ : Env} {Q : Out → Env → Prop} : okE (sasg g f δ) Q = okE (f δ) fun d δ' => okO (g d δ') fun δ2 => Q .nx δ2 := by
  unfold sasg; rw [okE_bind]; congr; funext d δ'; apply propext
  cases g d δ' with
  | none => constructor
            · rintro ⟨_, _, e, _⟩; cases e
            · rintro ⟨_, e, _⟩; cases e
  | some y => constructor
              · rintro ⟨_, _, e, q⟩; cases e; exact ⟨_, rfl, q⟩
              · rintro ⟨_, e, q⟩; cases e; exact ⟨_, _, rfl, q⟩
theorem okS_app {i : Nat} {f : Env → RE D} {δ : Env} {Q : Out → Env → Prop} {d0 : List D} (h0 : δ[i]? = some (some (.lst d0))) (h : okE (f δ) fun d δ' => ∃ ds, δ'[i]? = some (some (.lst ds)) ∧ ds.length < sizeLine ∧ Q .nx (δ'.set i (some (.lst (ds ++ [d]))))) : okE (sapp i f δ) Q := by
  unfold sapp; rw [h0]; simp only []; rw [okE_bind]
  exact h.mono fun d δ' ⟨ds, e, hl, q⟩ => by rw [e]; simp only []; rw [if_pos hl]; exact ⟨_, _, rfl, q⟩
theorem okE_pop {i : Nat} {f : Env → RE D} {δ : Env} {Q : D → Env → Prop} {d0 : List D} (h0 : δ[i]? = some (some (.lst d0))) (h : okE (f δ) fun d δ' => ∃ ds n y, δ'[i]? = some (some (.lst ds)) ∧ d = .int n ∧ 0 ≤ n ∧ n < 2 ^ 63 ∧ ds[n.toNat]? = some y ∧ Q y (δ'.set i (some (.lst (ds.eraseIdx n.toNat))))) : okE (epop i f δ) Q := by
  unfold epop; rw [h0]; simp only []; rw [okE_bind]
  exact h.mono fun d δ' ⟨ds, n, y, e, ed, h1, h2, h3, q⟩ => by rw [e, ed]; simp only []; rw [if_pos ⟨h1, h2⟩, h3]; exact ⟨_, _, rfl, q⟩
theorem okE_callB {m : List D → List D → Option (D × List D)} {i : Nat} {a : Env → RE (List D)} {δ : Env} {Q : D → Env → Prop} {b0 : List D} (h0 : δ[i]? = some (some (.lst b0))) (h : okE (a δ) fun ds δ' => ∃ B r B', δ'[i]? = some (some (.lst B)) ∧ m B ds = some (r, B') ∧ Q r (δ'.set i (some (.lst B')))) : okE (ecallB m i a δ) Q := by
  unfold ecallB; rw [h0]; simp only []; rw [okE_bind]
  exact h.mono fun d δ' ⟨B, r, B', e, em, q⟩ => by rw [e]; simp only []; rw [em]; exact ⟨_, _, rfl, q⟩
theorem okS_ixset {i : Nat} {fk f : Env → RE D} {δ : Env} {Q : Out → Env → Prop} (h : okE (f δ) fun d δ1 => (∃ d0, δ1[i]? = some (some (.lst d0))) ∧ okE (fk δ1) fun k δ2 => ∃ ds n j, δ2[i]? = some (some (.lst ds)) ∧ k = .int n ∧ ixN ds.length n = some j ∧ Q .nx (δ2.set i (some (.lst (ds.set j d))))) : okE (sixset i fk f δ) Q := by
  unfold sixset; rw [okE_bind]
  refine h.mono fun d δ1 ⟨⟨d0, e0⟩, h⟩ => ?_
  rw [e0]; simp only []; rw [okE_bind]
  exact h.mono fun k δ2 ⟨ds, n, j, e, ek, ej, q⟩ => by rw [e, ek]; simp only []; rw [ej]; exact ⟨_, _, rfl, q⟩
theorem den_ok {n N : Nat} {body : Env → RO} {ds : List D} {Q : D → Prop} (hl : ds.length = n) (h : okE (body (ds.map some ++ List.replicate (N - n) none)) fun o _ => match o with | .rt d => Q d | .nx => Q .non | _ => False) : okR (den n N body ds) Q := by
  unfold den; rw [if_pos hl]
  obtain ⟨o, δ, e, q⟩ := h
  rw [e]
  cases o with
  | rt d => exact ⟨_, rfl, q⟩
  | nx => exact ⟨_, rfl, q⟩
  | bk => exact q.elim
  | ct => exact q.elim
theorem denB_ok {n N : Nat} {body : Env → RO} {B ds : List D} {Q : D → List D → Prop} (hl : ds.length + 1 = n) (h : okE (body (some (.lst B) :: (ds.map some ++ List.replicate (N - n) none))) fun o δ => match o with | .rt d => ∃ B', δ[(0 : Nat)]? = some (some (.lst B')) ∧ Q d B' | .nx => ∃ B', δ[(0 : Nat)]? = some (some (.lst B')) ∧ Q .non B' | _ => False) : ∃ d B', denB n N body B ds = some (d, B') ∧ Q d B' := by
  unfold denB; rw [if_pos hl]
  obtain ⟨o, δ, e, q⟩ := h
  rw [e]
  cases o with
  | rt d => obtain ⟨B', e, q⟩ := q; exact ⟨d, B', by simp only [bxOf]; rw [e], q⟩
  | nx => obtain ⟨B', e, q⟩ := q; exact ⟨.non, B', by simp only [bxOf]; rw [e], q⟩
  | bk => exact q.elim
  | ct => exact q.elim
theorem denN_ok {n N : Nat} {body : Env → RE D} {ds : List D} {Q : D → Prop} (hl : ds.length = n) (h : okE (body (ds.map some ++ List.replicate (N - n) none)) fun d _ => Q d) : okR (denN n N body ds) Q := by
  unfold denN; rw [if_pos hl]
  obtain ⟨o, δ, e, q⟩ := h
  rw [e]; exact ⟨_, rfl, q⟩
theorem okE_rseq {a : Env → RO} {b : Env → RE D} {δ : Env} {Q : D → Env → Prop} (h : okE (a δ) fun o δ' => match o with | .nx => okE (b δ') Q | _ => False) : okE (rseq a b δ) Q := by
  unfold rseq
  obtain ⟨o, δ', e, q⟩ := h
  rw [e]
  cases o with
  | nx => exact q
  | rt d => exact q.elim
  | bk => exact q.elim
  | ct => exact q.elim
end PD
end
section
set_option maxHeartbeats 1000000
namespace PD
open PySem L2
@[simp] theorem dAdd_int {a b : Int} : dAdd (.int a) (.int b) = some (.int (a + b)) := rfl
@[simp] theorem dInt_int {a : Int} : dInt (.int a) = some (.int a) := rfl
@[simp] theorem dInt_bl {b : Bool} : dInt (.bl b) = some (.int (if b then 1 else 0)) := rfl
@[simp] theorem dAbs_int {a : Int} : dAbs (.int a) = some (.int (if a < 0 then -a else a)) := rfl
@[simp] theorem dMax2_int {a b : Int} : dMax2 (.int a) (.int b) = some (.int (if b > a then b else a)) := rfl
@[simp] theorem dCmp_int {fi : Int → Int → Bool} {fs : List Nat → List Nat → Bool} {a b : Int} : dCmp fi fs (.int a) (.int b) = some (.bl (fi a b)) := rfl
@[simp] theorem one_one {g : D → Option D} {x : D} : one g [x] = g x := rfl
@[simp] theorem two_two {g : D → D → Option D} {x y : D} : two g [x, y] = g x y := rfl
@[simp] theorem asB_bl {b : Bool} : asB (.bl b) = some b := rfl
@[simp] theorem truth_bl {b : Bool} : truth (.bl b) = some b := rfl
@[simp] theorem dLen_tup {xs : List D} : dLen (.tup xs) = some (.int xs.length) := rfl
@[simp] theorem dLen_lst {xs : List D} : dLen (.lst xs) = some (.int xs.length) := rfl
@[simp] theorem dLen_scr {xs : List D} : dLen (.scr xs) = some (.int xs.length) := rfl
@[simp] theorem dList_tup {xs : List D} : dList (.tup xs) = some (.lst xs) := rfl
@[simp] theorem dList_lst {xs : List D} : dList (.lst xs) = some (.lst xs) := rfl
@[simp] theorem dTuple_tup {xs : List D} : dTuple (.tup xs) = some (.tup xs) := rfl
@[simp] theorem dTuple_lst {xs : List D} : dTuple (.lst xs) = some (.tup xs) := rfl
@[simp] theorem itemsA_lst {xs : List D} : itemsA (.lst xs) = some xs := rfl
@[simp] theorem itemsA_tup {xs : List D} : itemsA (.tup xs) = some xs := rfl
@[simp] theorem asI_int {i : Int} : asI (.int i) = some (some i) := rfl
@[simp] theorem dIx_lst {xs : List D} {i : Int} : dIx (.lst xs) (.int i) = atI xs i := rfl
@[simp] theorem dIx_tup {xs : List D} {i : Int} : dIx (.tup xs) (.int i) = atI xs i := rfl
@[simp] theorem dIx_scr {xs : List D} {i : Int} : dIx (.scr xs) (.int i) = atI xs i := rfl
@[simp] theorem atI_nat {xs : List D} {i : Nat} : atI xs (i : Int) = xs[i]? := by
  simp only [atI, ixN]
  by_cases h : i < xs.length
  · simp [h]
  · simp [h]
theorem ixN_lt {n : Nat} {i : Int} (h : 0 ≤ i) (h2 : i < n) : ixN n i = some i.toNat := by simp [ixN, h, h2]
theorem ixN_nat {n i : Nat} : ixN n (i : Int) = if i < n then some i else none := by
  simp only [ixN]
  rw [if_pos (Int.natCast_nonneg i)]
  simp
@[simp] theorem atI_0 {xs : List D} : atI xs 0 = xs[0]? := atI_nat (i := 0)
@[simp] theorem ixN_0 {n : Nat} : ixN n 0 = if 0 < n then some 0 else none := ixN_nat (i := 0)
@[simp] theorem atI_1 {xs : List D} : atI xs 1 = xs[1]? := atI_nat (i := 1)
@[simp] theorem ixN_1 {n : Nat} : ixN n 1 = if 1 < n then some 1 else none := ixN_nat (i := 1)
@[simp] theorem atI_2 {xs : List D} : atI xs 2 = xs[2]? := atI_nat (i := 2)
@[simp] theorem ixN_2 {n : Nat} : ixN n 2 = if 2 < n then some 2 else none := ixN_nat (i := 2)
@[simp] theorem atI_3 {xs : List D} : atI xs 3 = xs[3]? := atI_nat (i := 3)
@[simp] theorem ixN_3 {n : Nat} : ixN n 3 = if 3 < n then some 3 else none := ixN_nat (i := 3)
@[simp] theorem atI_4 {xs : List D} : atI xs 4 = xs[4]? := atI_nat (i := 4)
@[simp] theorem ixN_4 {n : Nat} : ixN n 4 = if 4 < n then some 4 else none := ixN_nat (i := 4)
@[simp] theorem atI_5 {xs : List D} : atI xs 5 = xs[5]? := atI_nat (i := 5)
@[simp] theorem ixN_5 {n : Nat} : ixN n 5 = if 5 < n then some 5 else none := ixN_nat (i := 5)
@[simp] theorem atI_6 {xs : List D} : atI xs 6 = xs[6]? := atI_nat (i := 6)
@[simp] theorem ixN_6 {n : Nat} : ixN n 6 = if 6 < n then some 6 else none := ixN_nat (i := 6)
@[simp] theorem atI_7 {xs : List D} : atI xs 7 = xs[7]? := atI_nat (i := 7)
@[simp] theorem ixN_7 {n : Nat} : ixN n 7 = if 7 < n then some 7 else none := ixN_nat (i := 7)
@[simp] theorem atI_8 {xs : List D} : atI xs 8 = xs[8]? := atI_nat (i := 8)
@[simp] theorem ixN_8 {n : Nat} : ixN n 8 = if 8 < n then some 8 else none := ixN_nat (i := 8)
@[simp] theorem flat_int {i : Int} : flat (.int i) = true := rfl
@[simp] theorem flat_str {i : Str} : flat (.str i) = true := rfl
@[simp] theorem flat_bl {i : Bool} : flat (.bl i) = true := rfl
@[simp] theorem flat_non : flat .non = true := rfl
@[simp] theorem mask_nil {δ : Env} : mask [] δ = δ := rfl
@[simp] theorem mask_cons {i : Nat} {own : List Nat} {δ : Env} : mask (i :: own) δ = mask own (δ.set i none) := rfl
@[simp] theorem wipeD_nil {δ : Env} : wipeD [] δ = δ := rfl
@[simp] theorem wipeD_cons {i : Nat} {own : List Nat} {δ : Env} : wipeD (i :: own) δ = wipeD own (δ.set i none) := rfl
@[simp] theorem len_le0 : (0 : Nat) ≤ sizeLine := Nat.zero_le _
@[simp] theorem gn_eq {i : Nat} {d : D} {δ : Env} : gn i d δ = some (δ.set i (some d)) := rfl
@[simp] theorem gt_tup {h : List D → Env → Option Env} {ds : List D} {δ : Env} : gt h (.tup ds) δ = h ds δ := rfl
@[simp] theorem gscons_eq {h : D → Env → Option Env} {r : List D → Env → Option Env} {d : D} {ds : List D} {δ : Env} : gscons h r (d :: ds) δ = (h d δ).bind fun δ' => r ds δ' := rfl
@[simp] theorem gsnil_eq {δ : Env} : gsnil [] δ = some δ := rfl
@[simp] theorem dAll_lst {xs : List D} : dAll (.lst xs) = (dbools xs).map fun is => .bl (is.all id) := rfl
theorem log2_lt {i : Int} {k : Nat} (h : i.natAbs < 2 ^ k) (hk : 0 < k) : i.natAbs.log2 < k := by
  by_cases h0 : i.natAbs = 0
  · rw [h0]; simpa using hk
  · exact (Nat.log2_lt h0).2 h
theorem dMul_r {i j : Int} (h : -(2 ^ 64) < j) (h2 : j < 2 ^ 64) : dMul (.int i) (.int j) = some (.int (i * j)) := by
  simp only [dMul]
  split
  · rfl
  · rw [if_pos (show CMul i j from Or.inr ⟨h, h2⟩)]
theorem dFdiv_ok {i j : Int} (h : 0 < j) (h2 : j < 2 ^ 200) : dFdiv (.int i) (.int j) = some (.int (i.fdiv j)) := by
  simp only [dFdiv]; rw [if_pos]
  exact ⟨by omega, by have := log2_lt (i := j) (k := 200) (by omega) (by omega); omega⟩
theorem dMod_ok {i j : Int} (h : 0 < j) : dMod (.int i) (.int j) = some (.int (i.fmod j)) := by
  simp only [dMod]; rw [if_pos (by omega)]
theorem fmod_bd {i j : Int} (h : 0 < j) : 0 ≤ i.fmod j ∧ i.fmod j < j := ⟨Int.fmod_nonneg_of_pos i h, Int.fmod_lt_of_pos i h⟩
theorem sz {n : Nat} (h : n ≤ 16777216) : n ≤ sizeLine := by rw [PySem.sizeLine_eq]; exact h
def lstAt (δ : Env) (i : Nat) : Option (List D) := match δ[i]? with
  | some (some (.lst ds)) => some ds
  | _ => none
@[simp] theorem lstAt_zero {ds : List D} {δ : Env} : lstAt (some (.lst ds) :: δ) 0 = some ds := rfl
@[simp] theorem lstAt_succ {x : Option D} {δ : Env} {i : Nat} : lstAt (x :: δ) (i + 1) = lstAt δ i := rfl
theorem lstAt_some {δ : Env} {i : Nat} {ds : List D} (h : lstAt δ i = some ds) : δ[i]? = some (some (.lst ds)) := by
  unfold lstAt at h
  split at h
  · rename_i e; cases h; exact e
  · cases h
theorem lstAt_of {δ : Env} {i : Nat} {ds : List D} (h : δ[i]? = some (some (.lst ds))) : lstAt δ i = some ds := by
  unfold lstAt; rw [h]
def asInt : D → Option Int
  | .int i => some i
  | _ => none
@[simp] theorem asInt_int {i : Int} : asInt (.int i) = some i := rfl
theorem asInt_some {d : D} {i : Int} (h : asInt d = some i) : d = .int i := by cases d <;> simp_all [asInt]
def asLst : D → Option (List D)
  | .lst i => some i
  | _ => none
@[simp] theorem asLst_lst {i : List D} : asLst (.lst i) = some i := rfl
theorem asLst_some {d : D} {i : List D} (h : asLst d = some i) : d = .lst i := by cases d <;> simp_all [asLst]
theorem ok_app {i : Nat} {f : Env → RE D} {δ : Env} {Q : Out → Env → Prop} (h : okO (lstAt δ i) fun _ => okE (f δ) fun d δ' => okO (lstAt δ' i) fun ds => ds.length < sizeLine ∧ Q .nx (δ'.set i (some (.lst (ds ++ [d]))))) : okE (sapp i f δ) Q := by
  obtain ⟨d0, e0, h⟩ := h
  exact okS_app (lstAt_some e0) (h.mono fun d δ' ⟨ds, e, q⟩ => ⟨ds, lstAt_some e, q⟩)
theorem ok_pop {i : Nat} {f : Env → RE D} {δ : Env} {Q : D → Env → Prop} (h : okO (lstAt δ i) fun _ => okE (f δ) fun d δ' => okO (lstAt δ' i) fun ds => okO (asInt d) fun n => 0 ≤ n ∧ n < 2 ^ 63 ∧ okO (ds[n.toNat]?) fun y => Q y (δ'.set i (some (.lst (ds.eraseIdx n.toNat))))) : okE (epop i f δ) Q := by
  obtain ⟨d0, e0, h⟩ := h
  exact okE_pop (lstAt_some e0) (h.mono fun d δ' ⟨ds, e, n, en, h1, h2, y, h3, q⟩ => ⟨ds, n, y, lstAt_some e, asInt_some en, h1, h2, h3, q⟩)
theorem ok_callB {m : List D → List D → Option (D × List D)} {i : Nat} {a : Env → RE (List D)} {δ : Env} {Q : D → Env → Prop} (h : okO (lstAt δ i) fun _ => okE (a δ) fun ds δ' => okO (lstAt δ' i) fun B => okO (m B ds) fun q => Q q.1 (δ'.set i (some (.lst q.2)))) : okE (ecallB m i a δ) Q := by
  obtain ⟨d0, e0, h⟩ := h
  exact okE_callB (lstAt_some e0) (h.mono fun d δ' ⟨B, e, ⟨r, B'⟩, em, q⟩ => ⟨B, r, B', lstAt_some e, em, q⟩)
theorem ok_ixset {i : Nat} {fk f : Env → RE D} {δ : Env} {Q : Out → Env → Prop} (h : okE (f δ) fun d δ1 => okO (lstAt δ1 i) fun _ => okE (fk δ1) fun k δ2 => okO (lstAt δ2 i) fun ds => okO (asInt k) fun n => okO (ixN ds.length n) fun j => Q .nx (δ2.set i (some (.lst (ds.set j d))))) : okE (sixset i fk f δ) Q :=
  okS_ixset (h.mono fun d δ1 ⟨d0, e0, h⟩ => ⟨⟨d0, lstAt_some e0⟩, h.mono fun k δ2 ⟨ds, e, n, en, j, ej, q⟩ => ⟨ds, n, j, lstAt_some e, asInt_some en, ej, q⟩⟩)
theorem ok_par2 {i j : Nat} {f : Env → RE (List D)} {δ : Env} {Q : Out → Env → Prop} : okE (spar2 i j f δ) Q = okE (f δ) fun ds δ' => okO (ds[0]?) fun a => okO (ds[1]?) fun b => ds.length = 2 ∧ Q .nx ((δ'.set i (some a)).set j (some b)) := by
  apply propext; constructor
  · rintro ⟨o, δ', e, q⟩
    unfold spar2 at e
    rw [show f δ = f δ from rfl] at e
    cases h : f δ with
    | none => rw [h] at e; cases e
    | some y => rcases y with x | ⟨ds, δ1⟩
                · rw [h] at e; cases e
                · rw [h] at e
                  simp only [bindE] at e
                  split at e
                  · cases e; exact ⟨_, _, rfl, _, rfl, _, rfl, rfl, q⟩
                  · cases e
  · intro h
    refine okS_par2 (h.mono fun ds δ' ⟨a, ea, b, eb, hl, q⟩ => ?_)
    match ds, hl with
    | [x, y], _ => cases ea; cases eb; exact ⟨_, _, rfl, q⟩
end PD
end
section
set_option maxHeartbeats 1000000
namespace PD
open PySem L2
@[simp] theorem okE_callBE {m : List D → List D → Option (D × List D)} {i : Nat} {a : Env → RE (List D)} {δ : Env} {Q : D → Env → Prop} : okE (ecallB m i a δ) Q = okO (lstAt δ i) fun _ => okE (a δ) fun ds δ' => okO (lstAt δ' i) fun B => okO (m B ds) fun q => Q q.1 (δ'.set i (some (.lst q.2))) := by
  apply propext; refine ⟨?_, ok_callB⟩
  rintro ⟨r, δ2, e, q⟩
  unfold ecallB at e
  split at e
  · rename_i d0 h0
    refine ⟨d0, lstAt_of h0, ?_⟩
    cases h : a δ with
    | none => rw [h] at e; cases e
    | some y => rcases y with x | ⟨ds, δ1⟩
                · rw [h] at e; cases e
                · rw [h] at e; simp only [bindE] at e
                  split at e
                  · rename_i B hB
                    cases hm : m B ds with
                    | none => rw [hm] at e; cases e
                    | some z => rw [hm] at e; cases e; exact ⟨ds, δ1, rfl, B, lstAt_of hB, z, hm, q⟩
                  · cases e
  · cases e
@[simp] theorem okE_popE {i : Nat} {f : Env → RE D} {δ : Env} {Q : D → Env → Prop} : okE (epop i f δ) Q = okO (lstAt δ i) fun _ => okE (f δ) fun d δ' => okO (lstAt δ' i) fun ds => okO (asInt d) fun n => 0 ≤ n ∧ n < 2 ^ 63 ∧ okO (ds[n.toNat]?) fun y => Q y (δ'.set i (some (.lst (ds.eraseIdx n.toNat)))) := by
  apply propext; refine ⟨?_, ok_pop⟩
  rintro ⟨r, δ2, e, q⟩
  unfold epop at e
  split at e
  · rename_i d0 h0
    refine ⟨d0, lstAt_of h0, ?_⟩
    cases h : f δ with
    | none => rw [h] at e; cases e
    | some y => rcases y with x | ⟨d, δ1⟩
                · rw [h] at e; cases e
                · rw [h] at e; simp only [bindE] at e
                  split at e
                  · rename_i ds hB
                    split at e
                    · rename_i k
                      split at e
                      · rename_i hk
                        split at e
                        · rename_i hy
                          cases e; exact ⟨_, δ1, rfl, ds, lstAt_of hB, k, rfl, hk.1, hk.2, _, hy, q⟩
                        · cases e
                      · cases e
                    · cases e
                  · cases e
  · cases e
@[simp] theorem okS_appE {i : Nat} {f : Env → RE D} {δ : Env} {Q : Out → Env → Prop} : okE (sapp i f δ) Q = okO (lstAt δ i) fun _ => okE (f δ) fun d δ' => okO (lstAt δ' i) fun ds => ds.length < sizeLine ∧ Q .nx (δ'.set i (some (.lst (ds ++ [d])))) := by
  apply propext; refine ⟨?_, ok_app⟩
  rintro ⟨r, δ2, e, q⟩
  unfold sapp at e
  split at e
  · rename_i d0 h0
    refine ⟨d0, lstAt_of h0, ?_⟩
    cases h : f δ with
    | none => rw [h] at e; cases e
    | some y => rcases y with x | ⟨d, δ1⟩
                · rw [h] at e; cases e
                · rw [h] at e; simp only [bindE] at e
                  split at e
                  · rename_i ds hB
                    split at e
                    · rename_i hk; cases e; exact ⟨_, δ1, rfl, ds, lstAt_of hB, hk, q⟩
                    · cases e
                  · cases e
  · cases e
@[simp] theorem okS_ixsetE {i : Nat} {fk f : Env → RE D} {δ : Env} {Q : Out → Env → Prop} : okE (sixset i fk f δ) Q = okE (f δ) fun d δ1 => okO (lstAt δ1 i) fun _ => okE (fk δ1) fun k δ2 => okO (lstAt δ2 i) fun ds => okO (asInt k) fun n => okO (ixN ds.length n) fun j => Q .nx (δ2.set i (some (.lst (ds.set j d)))) := by
  apply propext; refine ⟨?_, ok_ixset⟩
  rintro ⟨r, δ2, e, q⟩
  unfold sixset at e
  cases h : f δ with
  | none => rw [h] at e; cases e
  | some y =>
    rcases y with x | ⟨d, δ1⟩
    · rw [h] at e; cases e
    · rw [h] at e; simp only [bindE] at e
      split at e
      · rename_i d0 h0
        refine ⟨d, δ1, rfl, d0, lstAt_of h0, ?_⟩
        cases h1 : fk δ1 with
        | none => rw [h1] at e; cases e
        | some y =>
          rcases y with x | ⟨k, δ3⟩
          · rw [h1] at e; cases e
          · rw [h1] at e; simp only [] at e
            split at e
            · rename_i ds hB
              split at e
              · rename_i n
                split at e
                · rename_i j hj; cases e; exact ⟨_, _, rfl, ds, lstAt_of hB, n, rfl, j, hj, q⟩
                · cases e
              · cases e
            · cases e
      · cases e
@[simp] theorem okS_par2E {i j : Nat} {f : Env → RE (List D)} {δ : Env} {Q : Out → Env → Prop} : okE (spar2 i j f δ) Q = okE (f δ) fun ds δ' => okO (ds[0]?) fun a => okO (ds[1]?) fun b => ds.length = 2 ∧ Q .nx ((δ'.set i (some a)).set j (some b)) := ok_par2
@[simp] theorem okS_par3E {i j l : Nat} {f : Env → RE (List D)} {δ : Env} {Q : Out → Env → Prop} : okE (spar3 i j l f δ) Q = okE (f δ) fun ds δ' => okO (ds[0]?) fun a => okO (ds[1]?) fun b => okO (ds[2]?) fun e => ds.length = 3 ∧ Q .nx (((δ'.set i (some a)).set j (some b)).set l (some e)) := by
  apply propext; constructor
  · rintro ⟨o, δ', e, q⟩
    unfold spar3 at e
    cases h : f δ with
    | none => rw [h] at e; cases e
    | some y => rcases y with x | ⟨ds, δ1⟩
                · rw [h] at e; cases e
                · rw [h] at e
                  simp only [bindE] at e
                  split at e
                  · cases e; exact ⟨_, _, rfl, _, rfl, _, rfl, _, rfl, rfl, q⟩
                  · cases e
  · intro h
    refine okS_par3 (h.mono fun ds δ' ⟨a, ea, b, eb, x, ex, hl, q⟩ => ?_)
    match ds, hl with
    | [x, y, z], _ => cases ea; cases eb; cases ex; exact ⟨_, _, _, rfl, q⟩
@[simp] theorem okE_irng1E {f : Env → RE D} {δ : Env} {Q : List D → Env → Prop} : okE (irng1 f δ) Q = okE (f δ) fun d δ' => okO (asInt d) fun n => (-(2 ^ 62) ≤ n ∧ n < 2 ^ 62) ∧ Q (rng 0 n) δ' := by
  apply propext; constructor
  · rintro ⟨o, δ', e, q⟩
    unfold irng1 at e
    cases h : f δ with
    | none => rw [h] at e; cases e
    | some y => rcases y with x | ⟨ds, δ1⟩
                · rw [h] at e; cases e
                · rw [h] at e
                  simp only [bindE] at e
                  split at e
                  · split at e
                    · rename_i hc; cases e; exact ⟨_, _, rfl, _, rfl, hc, q⟩
                    · cases e
                  · cases e
  · intro h
    exact okE_irng1 (h.mono fun d δ' ⟨n, e, hc, q⟩ => ⟨n, asInt_some e, hc.1, hc.2, q⟩)
@[simp] theorem okE_enorE {f g : Env → RE D} {δ : Env} {Q : D → Env → Prop} : okE (enor f g δ) Q = okE (f δ) fun d δ' => okO (asLst d) fun xs => if xs = [] then okE (g δ') Q else Q (.lst xs) δ' := by
  unfold enor; rw [okE_bind]; congr; funext d δ'
  apply propext; constructor
  · intro h
    split at h
    · exact ⟨_, rfl, by simpa using h⟩
    · rw [okE_some] at h; exact ⟨_, rfl, by simpa using h⟩
    · obtain ⟨_, _, e, _⟩ := h; cases e
  · rintro ⟨xs, e, h⟩
    cases asLst_some e
    cases xs with
    | nil => simpa using h
    | cons x xs => simp only []; rw [okE_some]; simpa using h
@[simp] theorem okE_ienumE {f : Env → RE D} {δ : Env} {Q : List D → Env → Prop} : okE (ienum f δ) Q = okE (f δ) fun d δ' => okO (seqL d) fun xs => Q (enumD 0 xs) δ' := by
  unfold ienum; rw [okE_bind]; congr; funext d δ'
  apply propext; constructor
  · intro h
    split at h
    · rw [okE_some] at h; exact ⟨_, rfl, h⟩
    · rw [okE_some] at h; exact ⟨_, rfl, h⟩
    · obtain ⟨_, _, e, _⟩ := h; cases e
  · rintro ⟨xs, e, h⟩
    cases d <;> first | (cases e; exact ⟨_, _, rfl, h⟩) | cases e
@[simp] theorem seqL_lst {xs : List D} : seqL (.lst xs) = some xs := rfl
@[simp] theorem seqL_scr {xs : List D} : seqL (.scr xs) = some xs := rfl
theorem sfrz_ok {own : List Nat} {k : Env → RO} {δ : Env} {Q : Out → Env → Prop} : okE (sfrz own k δ) Q = (bxIn own δ = true ∧ okE (k δ) Q) := by
  unfold sfrz
  by_cases h : bxIn own δ = true
  · rw [if_pos h]; simp [h]
  · rw [if_neg h]; apply propext; constructor
    · rintro ⟨_, _, e, _⟩; cases e
    · exact fun h2 => absurd h2.1 h
@[simp] theorem okS_frzE {own : List Nat} {k : Env → RO} {δ : Env} {Q : Out → Env → Prop} : okE (sfrz own k δ) Q = (bxIn own δ = true ∧ okE (k δ) Q) := sfrz_ok
@[simp] theorem bxIn_some {own : List Nat} {x : D} {δ : Env} : bxIn own (some x :: δ) = true := by simp [bxIn]
end PD
end
section
set_option maxHeartbeats 1000000
set_option exponentiation.threshold 3000
namespace PD
open PySem L2
mutual
def pl : D → Bool
  | .non => true
  | .bl _ => true
  | .int i => decide (i.natAbs < 2 ^ 1900)
  | .str x => decide (x.length ≤ 1000) && PyData.strOk x
  | .tup xs => pls xs
  | .lst xs => pls xs
  | _ => false
def pls : List D → Bool
  | [] => true
  | x :: xs => pl x && pls xs
end
mutual
def wt : D → Nat
  | .non => 10
  | .bl _ => 10
  | .int _ => 600
  | .str x => 10 * x.length + 10
  | .tup xs => wts xs + 10
  | .lst xs => wts xs + 10
  | _ => 0
def wts : List D → Nat
  | [] => 0
  | x :: xs => wt x + 2 + wts xs
end
mutual
def dpt : D → Nat
  | .tup xs => dpts xs + 1
  | .lst xs => dpts xs + 1
  | _ => 0
def dpts : List D → Nat
  | [] => 0
  | x :: xs => max (dpt x) (dpts xs)
end
theorem textFrom_le : ∀ (ts : List Str) (k : Nat) (acc : Str), (PySem.textFrom k acc ts).length ≤ acc.length + PySem.piled ts
  | [], k, acc => by simp [PySem.textFrom]
  | t :: ts, k, acc => by
    rw [PySem.textFrom, PySem.piled_cons]
    have := textFrom_le ts (k + 1) (acc ++ (if k > 0 then ", " else "" : String) ++ t)
    have e : (acc ++ (if k > 0 then ", " else "" : String) ++ t).length = acc.length + (if k > 0 then 2 else 0) + t.length := by
      rw [strLen_append, strLen_append]
      split <;> rfl
    rw [e] at this
    have h2 : (if k > 0 then 2 else 0) ≤ 2 := by split <;> omega
    omega
theorem listText_le (ts : List Str) : (PySem.listText ts).length ≤ PySem.piled ts + 2 := by
  unfold PySem.listText
  rw [strLen_append]
  have := textFrom_le ts 0 "["
  have e1 : (("[" : String) : Str).length = 1 := rfl
  have e2 : (("]" : String) : Str).length = 1 := rfl
  omega
theorem tupleText_le (ts : List Str) : (PySem.tupleText ts).length ≤ PySem.piled ts + 3 := by
  unfold PySem.tupleText
  rw [strLen_append, strLen_append]
  have e1 : (("(" : String) : Str).length = 1 := rfl
  have e2 : ((if ts.length == 1 then ",)" else ")" : String) : Str).length ≤ 2 := by split <;> decide
  cases ts with
  | nil =>
    have : (Str.join ", " []).length = 0 := rfl
    omega
  | cons t ts =>
    have := PySem.join_length_add (t :: ts) (by simp)
    omega
theorem int_len {i : Int} (h : i.natAbs < 2 ^ 1900) : ((toString i : String) : Str).length ≤ 600 := by
  have e : ∀ s : String, (Str.ofString s).length = s.length := fun s => by
    rw [Str.ofString_eq_toList]; show (s.toList.map Char.toNat).toArray.size = _; rw [List.size_toArray, List.length_map, String.length_toList]
  show (Str.ofString (toString i)).length ≤ 600
  rw [e, Int.toString_eq_repr, Int.repr_eq_if]
  have h2 : (2 : Nat) ^ 1900 ≤ 10 ^ 599 := by decide +kernel
  have k : ∀ n : Nat, n < 2 ^ 1900 → n.repr.length ≤ 599 := fun n hn => (Nat.length_repr_le_iff (by decide)).2 (Nat.lt_of_lt_of_le hn h2)
  split
  · have := k i.toNat (by have : i.toNat = i.natAbs := by omega
                          rw [this]; exact h)
    omega
  · have := k (-i).toNat (by have : (-i).toNat = i.natAbs := by omega
                             rw [this]; exact h)
    rw [String.length_append]
    have : "-".length = 1 := rfl
    omega
mutual
theorem pl_py : ∀ {d : D}, pl d = true → ∃ p, toPy d = some p ∧ p.canLay0 = true ∧ p.showable = true ∧ p.depth = dpt d ∧ p.shown.length ≤ wt d
  | .non, _ => ⟨_, rfl, rfl, rfl, rfl, by decide⟩
  | .bl b, _ => ⟨_, rfl, rfl, rfl, rfl, by cases b <;> decide⟩
  | .int i, h => by
    have h1 : i.natAbs < 2 ^ 1900 := by simpa [pl] using h
    refine ⟨.int i, rfl, by simp [PyData.canLay0], ?_, by simp [PyData.depth, dpt], ?_⟩
    · simp only [PyData.showable, decide_eq_true_eq]
      exact Nat.lt_of_lt_of_le (log2_lt h1 (by decide)) (by decide)
    · rw [PyData.shown]; exact int_len h1
  | .str x, h => by
    simp only [pl, Bool.and_eq_true, decide_eq_true_eq] at h
    refine ⟨.str x, rfl, by simp [PyData.canLay0, h.2], by simp [PyData.showable], by simp [PyData.depth, dpt], ?_⟩
    rw [PyData.shown, wt]
    have := PySem.StrLaws.reprText_len x (fun c hc => by
      have h2 := h.2
      unfold PyData.strOk at h2
      have := (Array.all_eq_true'.1 h2) c (by simpa using hc)
      simp at this
      omega)
    omega
  | .tup xs, h => by
    obtain ⟨ps, h1, h2, h3, h4, h5⟩ := pls_py (xs := xs) (by simpa [pl] using h)
    refine ⟨.tuple ps, by simp [toPy, h1], by simpa [PyData.canLay0] using h2, by simpa [PyData.showable] using h3, by simp [PyData.depth, dpt, h4], ?_⟩
    rw [PyData.shown, wt]
    have := tupleText_le (PyData.shownAll ps)
    omega
  | .lst xs, h => by
    obtain ⟨ps, h1, h2, h3, h4, h5⟩ := pls_py (xs := xs) (by simpa [pl] using h)
    refine ⟨.list ps, by simp [toPy, h1], by simpa [PyData.canLay0] using h2, by simpa [PyData.showable] using h3, by simp [PyData.depth, dpt, h4], ?_⟩
    rw [PyData.shown, wt]
    have := listText_le (PyData.shownAll ps)
    omega
  | .scr _, h => by cases h
  | .npt _, h => by cases h
  | .dic _, h => by cases h
  | .obj _ _, h => by cases h
  | .ins _ _, h => by cases h
theorem pls_py : ∀ {xs : List D}, pls xs = true → ∃ ps, toPys xs = some ps ∧ PyData.canLayAll0 ps = true ∧ PyData.showableAll ps = true ∧ PyData.depthAll ps = dpts xs ∧ PySem.piled (PyData.shownAll ps) ≤ wts xs
  | [], _ => ⟨[], rfl, rfl, rfl, rfl, by simp [PyData.shownAll, PySem.piled]⟩
  | x :: xs, h => by
    simp only [pls, Bool.and_eq_true] at h
    obtain ⟨p, a1, a2, a3, a4, a5⟩ := pl_py h.1
    obtain ⟨ps, h1, h2, h3, h4, h5⟩ := pls_py h.2
    refine ⟨p :: ps, by simp [toPys, a1, h1], by simp [PyData.canLayAll0, a2, h2], by simp [PyData.showableAll, a3, h3], by simp [PyData.depthAll, dpts, a4, h4], ?_⟩
    rw [PyData.shownAll, PySem.piled_cons, wts]
    omega
end
@[simp] theorem dEq_int {a b : Int} : dEq (.int a) (.int b) = some (.bl (a == b)) := by
  simp [dEq, eqD, toPy, SeqAt.shaped, PyData.canLay0, PyData.depth, PyData.eqv]
@[simp] theorem dNe_int {a b : Int} : dNe (.int a) (.int b) = some (.bl (a != b)) := by
  simp [dNe, eqD, toPy, SeqAt.shaped, PyData.canLay0, PyData.depth, PyData.eqv, bne]
@[simp] theorem dEq_bl {a b : Bool} : dEq (.bl a) (.bl b) = some (.bl (a == b)) := by
  simp [dEq, eqD, toPy, SeqAt.shaped, PyData.canLay0, PyData.depth, PyData.eqv]
@[simp] theorem dNe_bl {a b : Bool} : dNe (.bl a) (.bl b) = some (.bl (a != b)) := by
  simp [dNe, eqD, toPy, SeqAt.shaped, PyData.canLay0, PyData.depth, PyData.eqv, bne]
theorem eqD_str {a b : Str} (ha : PyData.strOk a = true) (hb : PyData.strOk b = true) : eqD (.str a) (.str b) = some (a == b) := by
  simp [eqD, toPy, SeqAt.shaped, PyData.canLay0, PyData.depth, PyData.eqv, ha, hb]
theorem eq_of_okR {α : Type} {o : Rs α} {a : α} (h : okR o fun d => d = a) : o = some (.ok a) := by
  obtain ⟨d, e, rfl⟩ := h; exact e
@[simp] theorem dbools_map {α : Type} {f : α → Bool} : ∀ {xs : List α}, dbools (xs.map fun x => .bl (f x)) = some (xs.map f)
  | [] => rfl
  | x :: xs => by simp [dbools, dbools_map (xs := xs)]
end PD
end
section
set_option maxHeartbeats 1000000
namespace PD
open PySem L2
theorem strOk_iff {x : Str} : PyData.strOk x = true ↔ ∀ e ∈ x.cps.toList, e < 1114112 := by
  unfold PyData.strOk
  rw [Array.all_eq_true']
  simp
theorem strOk_app {a b : Str} (ha : PyData.strOk a = true) (hb : PyData.strOk b = true) : PyData.strOk (a ++ b) = true := by
  rw [strOk_iff] at *
  intro e he
  have : (a ++ b).cps = a.cps ++ b.cps := rfl
  rw [this, Array.toList_append] at he
  rcases List.mem_append.1 he with h | h
  · exact ha e h
  · exact hb e h
theorem char_lt (c : Char) : c.toNat < 1114112 := by
  have := c.valid
  rcases this with h | h
  · have h2 : c.toNat = c.val.toNat := rfl
    omega
  · have h2 : c.toNat = c.val.toNat := rfl
    omega
theorem strOk_of (s : String) : PyData.strOk (Str.ofString s) = true := by
  rw [strOk_iff, Str.ofString_eq_toList]
  intro e he
  simp at he
  obtain ⟨c, _, rfl⟩ := he
  exact char_lt c
theorem reprChar_ok {q e : Nat} (hq : q < 1114112) (he : e < 1114112) : ∀ x ∈ Builtin.Str.reprChar q e, x < 1114112 := by
  have hex : ∀ w, ∀ x ∈ List.replicate (w - ((Nat.toDigits 16 e).map Char.toNat).length) 48 ++ (Nat.toDigits 16 e).map Char.toNat, x < 1114112 := by
    intro w x hx
    rcases List.mem_append.1 hx with h | h
    · rw [(List.mem_replicate.1 h).2]; decide
    · obtain ⟨c, _, rfl⟩ := List.mem_map.1 h
      exact char_lt c
  unfold Builtin.Str.reprChar
  dsimp only
  repeat' split
  all_goals intro x hx
  all_goals first | (rcases List.mem_append.1 hx with hx | hx; (simp at hx; omega); exact hex _ x hx) | (simp at hx; omega)
theorem fold_ok {q : Nat} (hq : q < 1114112) : ∀ (l : List Nat) (acc : Array Nat), (∀ e ∈ acc.toList, e < 1114112) → (∀ e ∈ l, e < 1114112) → ∀ e ∈ (l.foldl (fun out c => out ++ (Builtin.Str.reprChar q c).toArray) acc).toList, e < 1114112
  | [], acc, ha, _ => ha
  | x :: l, acc, ha, hl => by
    rw [List.foldl_cons]
    refine fold_ok hq l _ ?_ fun e he => hl e (List.mem_cons_of_mem _ he)
    intro e he
    rw [Array.toList_append] at he
    rcases List.mem_append.1 he with h | h
    · exact ha e h
    · exact reprChar_ok hq (hl x List.mem_cons_self) e (by simpa using h)
theorem reprText_ok {x : Str} (h : PyData.strOk x = true) : PyData.strOk (PySem.reprText x) = true := by
  rw [strOk_iff] at *
  have hq : PySem.reprQuote x < 1114112 := by unfold PySem.reprQuote; split <;> decide
  intro e he
  unfold PySem.reprText at he
  simp only [Array.toList_push] at he
  rcases List.mem_append.1 he with h1 | h1
  · rw [← Array.foldl_toList] at h1
    exact fold_ok hq _ _ (by simpa using hq) h e h1
  · rw [List.mem_singleton.1 h1]; exact hq
theorem textFrom_ok : ∀ (ts : List Str) (k : Nat) (acc : Str), PyData.strOk acc = true → (∀ t ∈ ts, PyData.strOk t = true) → PyData.strOk (PySem.textFrom k acc ts) = true
  | [], _, _, h, _ => h
  | t :: ts, k, acc, h, ht => by
    rw [PySem.textFrom]
    exact textFrom_ok ts _ _ (strOk_app (strOk_app h (strOk_of _)) (ht t List.mem_cons_self)) fun u hu => ht u (List.mem_cons_of_mem _ hu)
theorem join_ok {sep : Str} (hs : PyData.strOk sep = true) : ∀ (ts : List Str), (∀ t ∈ ts, PyData.strOk t = true) → PyData.strOk (Str.join sep ts) = true
  | [], _ => by rw [strOk_iff]; simp [Str.join, Str.empty]
  | [t], h => h t List.mem_cons_self
  | t :: u :: ts, h => by
    rw [Str.join]
    · exact strOk_app (strOk_app (h t List.mem_cons_self) hs) (join_ok hs (u :: ts) fun x hx => h x (List.mem_cons_of_mem _ hx))
    · simp
mutual
theorem shown_ok : ∀ {p : PyData}, p.canLay0 = true → PyData.strOk p.shown = true
  | .none, _ => by rw [PyData.shown]; exact strOk_of _
  | .bool b, _ => by rw [PyData.shown]; split <;> exact strOk_of _
  | .int i, _ => by rw [PyData.shown]; exact strOk_of _
  | .str x, h => by rw [PyData.shown]; exact reprText_ok (by simpa [PyData.canLay0] using h)
  | .list xs, h => by
    rw [PyData.shown, PySem.listText]
    exact strOk_app (textFrom_ok _ _ _ (strOk_of _) (showns_ok (by simpa [PyData.canLay0] using h))) (strOk_of _)
  | .tuple xs, h => by
    rw [PyData.shown, PySem.tupleText]
    exact strOk_app (strOk_app (strOk_of _) (join_ok (strOk_of _) _ (showns_ok (by simpa [PyData.canLay0] using h)))) (strOk_of _)
  | .dict _, h => by simp [PyData.canLay0] at h
theorem showns_ok : ∀ {ps : List PyData}, PyData.canLayAll0 ps = true → ∀ t ∈ PyData.shownAll ps, PyData.strOk t = true
  | [], _, t, h => by simp [PyData.shownAll] at h
  | p :: ps, h, t, ht => by
    simp only [PyData.canLayAll0, Bool.and_eq_true] at h
    rw [PyData.shownAll] at ht
    rcases List.mem_cons.1 ht with rfl | ht
    · exact shown_ok h.1
    · exact showns_ok h.2 t ht
end
theorem dRepr_same {d : D} (h : pl d = true) (h2 : dpt d ≤ 64) (h3 : wt d ≤ 16000000) : ∃ s, dRepr d = some (.str s) ∧ dNe (.str s) (.str s) = some (.bl false) := by
  obtain ⟨p, a1, a2, a3, a4, a5⟩ := pl_py h
  refine ⟨p.shown, ?_, ?_⟩
  · unfold dRepr
    rw [a1, Option.bind_some, if_pos]
    have : p.shown.length ≤ sizeLine := sz (by omega)
    simp [a3, a4, h2, this]
  · rw [dNe, eqD_str (shown_ok a2) (shown_ok a2)]; simp
end PD
end
section
namespace PD
open PySem L2
theorem okO_none {α : Type} {Q : α → Prop} : ¬ okO (none : Option α) Q := by rintro ⟨_, e, _⟩; cases e
theorem okR_none {α : Type} {Q : α → Prop} : ¬ okR (none : Rs α) Q := by rintro ⟨_, e, _⟩; cases e
theorem okE_none {α : Type} {Q : α → Env → Prop} : ¬ okE (none : RE α) Q := by rintro ⟨_, _, e, _⟩; cases e
@[simp] theorem okR_vattr {c : Str} {i : Nat} {g : Env → Rs D} {δ : Env} {Q : D → Prop} : okR (vattr c i g δ) Q = okR (g δ) fun x => okO (attrD c i x) fun z => Q z := by
  unfold vattr; rw [okR_bind]; congr; funext x; rw [okR_opt]
@[simp] theorem attrD_obj {c : Str} {i : Nat} {fs : List (Option D)} : attrD c i (.obj c fs) = fs[i]?.join := by simp [attrD]
def objAt (c : Str) : D → Option (List (Option D))
  | .obj c' fs => if c' = c then some fs else none
  | _ => none
@[simp] theorem objAt_obj {c : Str} {fs : List (Option D)} : objAt c (.obj c fs) = some fs := by simp [objAt]
@[simp] theorem okR_vmeth {c : Str} {m : List D → Rs D} {g : Env → Rs D} {a : Env → Rs (List D)} {δ : Env} {Q : D → Prop} : okR (vmeth c m g a δ) Q = okR (g δ) fun x => okO (objAt c x) fun fs => okR (a δ) fun xs => okR (m (.obj c fs :: xs)) Q := by
  unfold vmeth; rw [okR_bind]; congr; funext x
  apply propext
  cases x with
  | obj c' fs =>
    by_cases h : c' = c
    · subst h; simp
    · simp only [objAt, if_neg h]
      exact ⟨fun q => (okR_none q).elim, fun q => (okO_none q).elim⟩
  | _ => exact ⟨fun q => (okR_none q).elim, fun q => (okO_none q).elim⟩
@[simp] theorem okR_vmake {m : List D → Option D} {a : Env → Rs (List D)} {δ : Env} {Q : D → Prop} : okR (vmake m a δ) Q = okR (a δ) fun xs => okO (m xs) fun z => Q z := by
  unfold vmake; rw [okR_bind]; congr; funext xs; rw [okR_opt]
@[simp] theorem okE_edcomp {vs : List Nat} {f : Env → RE (List D)} {g : D → Env → Option Env} {t : Env → RE Bool} {ek ev : Env → RE D} {δ : Env} {Q : D → Env → Prop} : okE (edcomp vs f g t ek ev δ) Q = okE (f δ) fun ds δ' => okE (dcomp vs g t ek ev ds [] (wipeD vs δ')) fun ys δ2 => Q (.dic ys) δ2 := by
  unfold edcomp; rw [okE_bind]; congr; funext ds δ'; rw [okE_bind]; congr; funext ys δ2; rw [okE_some]
def objIn (c : Str) (δ : Env) (i : Nat) : Option (List (Option D)) := match δ[i]? with
  | some (some d) => objAt c d
  | _ => none
@[simp] theorem objIn_zero {c : Str} {fs : List (Option D)} {δ : Env} : objIn c (some (.obj c fs) :: δ) 0 = some fs := by simp [objIn]
@[simp] theorem objIn_succ {c : Str} {x : Option D} {δ : Env} {i : Nat} : objIn c (x :: δ) (i + 1) = objIn c δ i := rfl
@[simp] theorem okS_fset {i j : Nat} {c : Str} {f : Env → RE D} {δ : Env} {Q : Out → Env → Prop} : okE (sfset i j c f δ) Q = okE (f δ) fun d δ1 => okO (objIn c δ1 i) fun fs => Q .nx (δ1.set i (some (.obj c (putF j d fs)))) := by
  unfold sfset; rw [okE_bind]; congr; funext d δ1
  unfold objIn
  generalize δ1[i]? = y
  apply propext
  cases y with
  | none => exact ⟨fun q => (okE_none q).elim, fun q => (okO_none q).elim⟩
  | some y => cases y with
    | none => exact ⟨fun q => (okE_none q).elim, fun q => (okO_none q).elim⟩
    | some z => cases z with
      | obj c' fs =>
        by_cases h : c' = c
        · subst h; simp [objAt]
        · simp only [objAt, if_neg h]
          exact ⟨fun q => (okE_none q).elim, fun q => (okO_none q).elim⟩
      | _ => exact ⟨fun q => (okE_none q).elim, fun q => (okO_none q).elim⟩
@[simp] theorem okE_efld {i j : Nat} {c : Str} {δ : Env} {Q : D → Env → Prop} : okE (efld i j c δ) Q = okO (objIn c δ i) fun fs => okO (fs[j]?.join) fun d => Q d δ := by
  unfold efld objIn
  generalize δ[i]? = y
  apply propext
  cases y with
  | none => exact ⟨fun q => (okE_none q).elim, fun q => (okO_none q).elim⟩
  | some y => cases y with
    | none => exact ⟨fun q => (okE_none q).elim, fun q => (okO_none q).elim⟩
    | some z => cases z with
      | obj c' fs =>
        by_cases h : c' = c
        · subst h
          simp only [objAt, if_true, okO_some]
          cases fs[j]? with
          | none => exact ⟨fun q => (okE_none q).elim, fun q => (okO_none q).elim⟩
          | some y => cases y with
            | none => exact ⟨fun q => (okE_none q).elim, fun q => (okO_none q).elim⟩
            | some d => simp
        · simp only [objAt, if_neg h]
          exact ⟨fun q => (okE_none q).elim, fun q => (okO_none q).elim⟩
      | _ => exact ⟨fun q => (okE_none q).elim, fun q => (okO_none q).elim⟩
theorem denI_ok {c : Str} {n N : Nat} {body : Env → RO} {ds : List D} {Q : D → Prop} (hl : ds.length + 1 = n) (h : okE (body (some (.obj c []) :: (ds.map some ++ List.replicate (N - n) none))) fun o δ => match o with | .rt d => d = .non ∧ okO (δ[(0 : Nat)]?.join) Q | .nx => okO (δ[(0 : Nat)]?.join) Q | _ => False) : okO (denI c n N body ds) Q := by
  unfold denI denO; rw [if_pos hl]
  obtain ⟨o, δ, e, q⟩ := h
  rw [e]
  have fin : okO (δ[(0 : Nat)]?.join) Q → okO (match oOf .non δ with | some (.non, B) => some B | _ => none) Q := fun ⟨B, e, q⟩ => by
    unfold oOf
    cases h : δ[(0 : Nat)]? with
    | none => rw [h] at e; cases e
    | some y => rw [h] at e; cases y with
      | none => cases e
      | some z => cases e; exact ⟨_, rfl, q⟩
  cases o with
  | rt d => obtain ⟨rfl, q⟩ := q; exact fin q
  | nx => exact fin q
  | bk => exact q.elim
  | ct => exact q.elim
end PD
end
section
namespace PD
open PySem L2
end PD
end
section
namespace PD
open PySem L2
end PD
end
section
namespace PD
open PySem L2
end PD
end
section
namespace PD
open PySem L2
end PD
end
section
namespace PD
open PySem L2
end PD
end
section
namespace PD
open PySem L2
theorem okS_stepM {cur : List Nat} {a b : Env → RO} {δ : Env} {Q : Out → Env → Prop} (h : ∀ K : Out → Env → Prop, (∀ δ', okE (b δ') Q → K .nx δ') → (∀ d δ', bxIn cur δ' = true → Q (.rt d) δ' → K (.rt d) δ') → okE (a δ) K) : okE (smsq cur a b δ) Q := by
  obtain ⟨o, δ', e, q⟩ := h (fun o δ' => match o with
    | .nx => okE (b δ') Q
    | .rt d => bxIn cur δ' = true ∧ Q (.rt d) δ'
    | _ => False) (fun δ' q => q) (fun d δ' hb q => ⟨hb, q⟩)
  unfold smsq
  rw [e]
  cases o with
  | nx => exact q
  | rt d =>
    dsimp only
    rw [if_pos q.1]
    exact ⟨_, _, rfl, q.2⟩
  | bk => exact q.elim
  | ct => exact q.elim
@[simp] theorem okS_sexo {i : Nat} {k : Env → RO} {δ : Env} {Q : Out → Env → Prop} : okE (sexo i k δ) Q = okE (k (δ.set i none)) Q := rfl
end PD
end
section
namespace PD
open PySem L2
end PD
end
section
namespace PD
open PySem L2
end PD
end
section
namespace PD
open PySem L2
end PD
end
section
namespace PD
open PySem L2
end PD
end
section
namespace PD
open PySem L2
@[simp] theorem okE_eor {f g : Env → RE D} {δ : Env} {Q : D → Env → Prop} : okE (eor f g δ) Q = okE (f δ) fun x δ1 => okO (truth x) fun b => if b = true then Q x δ1 else okE (g δ1) Q := by
  unfold eor
  rw [okE_bind]
  congr; funext x δ1
  apply propext
  cases truth x with
  | none => exact ⟨fun q => (okE_none q).elim, fun q => (okO_none q).elim⟩
  | some b => cases b <;> simp
end PD
end
section
namespace PD
open PySem L2
end PD
end
section
namespace PD
open PySem L2
end PD
end
section
namespace PD
open PySem L2
@[simp] theorem restD_nil {δ δ' : Env} : restD [] δ δ' = δ' := rfl
@[simp] theorem restD_cons {v : Nat} {vs : List Nat} {δ δ' : Env} : restD (v :: vs) δ δ' = restD vs δ (match δ[v]? with | some o => δ'.set v o | none => δ') := rfl
end PD
end
section
namespace PD
open PySem L2
@[simp] theorem dSorted3_tup {xs : List D} : dSorted3 (.tup xs) = (sortD xs).map .lst := rfl
@[simp] theorem dSorted3_lst {xs : List D} : dSorted3 (.lst xs) = dSorted2 (.lst xs) := rfl
@[simp] theorem dSorted3_dic {ks : List (Key × D)} : dSorted3 (.dic ks) = dSorted2 (.dic ks) := rfl
@[simp] theorem dSorted3_fdc {ks : List (Key × D)} : dSorted3 (.fdc ks) = dSorted2 (.fdc ks) := rfl
end PD
end
section
namespace PD
open PySem L2
variable [XLs]
@[simp] theorem okR_visX {cs : List Str} {f : Env → Rs D} {δ : Env} {Q : D → Prop} : okR (visX cs f δ) Q = okR (f δ) fun x => okO (isXs cs x) fun b => Q (.bl b) := by
  unfold visX; rw [okR_bind]; congr; funext x; rw [okR_opt]; apply propext; cases isXs cs x <;> simp [okO]
@[simp] theorem okR_vattrX {g : Str} {f : Env → Rs D} {δ : Env} {Q : D → Prop} : okR (vattrX g f δ) Q = okR (f δ) fun x => okO (attrX g x) fun z => Q z := by
  unfold vattrX; rw [okR_bind]; congr; funext x; rw [okR_opt]
@[simp] theorem okE_sraise {c : Str} {g : Env → RE D} {δ : Env} {Q : Out → Env → Prop} : okE (sraise c g δ) Q = False := by
  apply propext
  constructor
  · rintro ⟨_, _, e, _⟩
    unfold sraise at e
    cases h : g δ with
    | none => rw [h] at e; cases e
    | some y => cases y with
      | error z => rw [h] at e; cases e
      | ok z => rw [h] at e; cases e
  · exact False.elim
theorem stry_ok {cs : List Str} {i j : Nat} {f : Env → RO} {δ : Env} {Q : Out → Env → Prop} (h : okE (f δ) Q) : okE (stry cs i j f δ) Q := by
  obtain ⟨a, δ', e, q⟩ := h
  exact ⟨a, δ', by unfold stry; rw [e], q⟩
theorem stry_er {cs : List Str} {i j : Nat} {f : Env → RO} {δ δ' : Env} {x : XD} {Q : Out → Env → Prop} (e : f δ = some (.error (x, δ'))) (h1 : x.cls ∈ XL) (h2 : x.cls ∈ cs) (q : Q .nx ((δ'.set j (some (.exc x.cls x.fs))).set i none)) : okE (stry cs i j f δ) Q :=
  ⟨_, _, by unfold stry; rw [e]; dsimp only; rw [if_pos ⟨h1, h2⟩], q⟩
end PD
end
section
namespace PD
open PySem L2
def erR {α : Type} (o : Rs α) (x : XD) : Prop := o = some (.error x)
def erE {α : Type} (o : RE α) (x : XD) : Prop := ∃ δ, o = some (.error (x, δ))
theorem erR_of {α : Type} {o : Rs α} {x : XD} (h : o = some (.error x)) : erR o x = True := eq_true h
@[simp] theorem erR_ok {α : Type} {a : α} {x : XD} : erR (ok a) x = False := propext ⟨fun h => (by cases h), False.elim⟩
@[simp] theorem erR_opt {α : Type} {a : Option α} {x : XD} : erR (opt a) x = False := propext ⟨fun h => (by cases a <;> cases h), False.elim⟩
@[simp] theorem erR_none {α : Type} {x : XD} : erR (none : Rs α) x = False := propext ⟨fun h => (by cases h), False.elim⟩
@[simp] theorem okR_false {α : Type} {o : Rs α} : okR o (fun _ => False) = False := propext ⟨fun ⟨_, _, h⟩ => h, False.elim⟩
@[simp] theorem okE_false {α : Type} {o : RE α} : okE o (fun _ _ => False) = False := propext ⟨fun ⟨_, _, _, h⟩ => h, False.elim⟩
theorem okR_f {α : Type} {o : Rs α} {Q : α → Prop} (h : ∀ v, Q v = False) : okR o Q = False := by
  rw [show Q = fun _ => False from funext h, okR_false]
theorem okE_f {α : Type} {o : RE α} {Q : α → Env → Prop} (h : ∀ v δ, Q v δ = False) : okE o Q = False := by
  rw [show Q = fun _ _ => False from funext fun v => funext (h v), okE_false]
@[simp] theorem erR_bind {α β : Type} {a : Rs α} {f : α → Rs β} {x : XD} : erR (bind a f) x = (erR a x ∨ okR a fun v => erR (f v) x) := by
  apply propext
  cases a with
  | none => exact ⟨fun h => (by cases h), fun h => h.elim (fun h => (by cases h)) fun ⟨_, e, _⟩ => (by cases e)⟩
  | some y => cases y with
    | error e =>
      constructor
      · intro h
        have h' : (some (.error e) : Rs β) = some (.error x) := h
        cases h'
        exact .inl rfl
      · rintro (h | ⟨_, e, _⟩)
        · have h' : (some (.error _) : Rs α) = some (.error x) := h
          cases h'
          exact rfl
        · cases e
    | ok a =>
      rw [okR_some]
      constructor
      · intro h; exact .inr h
      · rintro (h | h)
        · cases h
        · exact h
@[simp] theorem erR_ite {α : Type} {p : Prop} [Decidable p] {a b : Rs α} {x : XD} : erR (if p then a else b) x = if p then erR a x else erR b x := by split <;> rfl
@[simp] theorem erR_v {i : Nat} {δ : Env} {x : XD} : erR (v i δ) x = False := erR_opt
@[simp] theorem erR_c {d : D} {δ : Env} {x : XD} : erR (c d δ) x = False := erR_ok
@[simp] theorem erR_op2 {g : D → D → Option D} {a b : Env → Rs D} {δ : Env} {x : XD} : erR (op2 g a b δ) x = (erR (a δ) x ∨ okR (a δ) fun _ => erR (b δ) x) := by
  unfold op2; rw [erR_bind]; congr; funext v; rw [erR_bind, okR_f fun _ => erR_opt, or_false]
@[simp] theorem erR_anil {δ : Env} {x : XD} : erR (anil δ) x = False := erR_ok
@[simp] theorem erR_acons {a : Env → Rs D} {r : Env → Rs (List D)} {δ : Env} {x : XD} : erR (acons a r δ) x = (erR (a δ) x ∨ okR (a δ) fun _ => erR (r δ) x) := by
  unfold acons; rw [erR_bind]; congr; funext v; rw [erR_bind, okR_f fun _ => erR_ok, or_false]
@[simp] theorem erR_vtup {a : Env → Rs (List D)} {δ : Env} {x : XD} : erR (vtup a δ) x = erR (a δ) x := by
  unfold vtup; rw [erR_bind, okR_f, or_false]; intro v; rw [erR_ite, erR_ok, erR_none, ite_self]
@[simp] theorem erR_vlst {a : Env → Rs (List D)} {δ : Env} {x : XD} : erR (vlst a δ) x = erR (a δ) x := by
  unfold vlst; rw [erR_bind, okR_f, or_false]; intro v; rw [erR_ite, erR_ok, erR_none, ite_self]
@[simp] theorem erR_vcall {m : List D → Rs D} {a : Env → Rs (List D)} {δ : Env} {x : XD} : erR (vcall m a δ) x = (erR (a δ) x ∨ okR (a δ) fun xs => erR (m xs) x) := erR_bind
@[simp] theorem erR_vcallB {g : List D → Option D} {a : Env → Rs (List D)} {δ : Env} {x : XD} : erR (vcallB g a δ) x = erR (a δ) x := by
  unfold vcallB; rw [erR_bind, okR_f fun _ => erR_opt, or_false]
@[simp] theorem erR_vmake {g : List D → Option D} {a : Env → Rs (List D)} {δ : Env} {x : XD} : erR (vmake g a δ) x = erR (a δ) x := by
  unfold vmake; rw [erR_bind, okR_f fun _ => erR_opt, or_false]
@[simp] theorem erR_vcallK {m : List D → Rs D} {n : Nat} {ix : List Nat} {a : Env → Rs (List D)} {δ : Env} {x : XD} : erR (vcallK m n ix a δ) x = (erR (a δ) x ∨ okR (a δ) fun xs => xs.length = n ∧ erR (m (pick ix xs)) x) := by
  unfold vcallK; rw [erR_bind]; congr; funext xs; rw [erR_ite, erR_none]; apply propext
  by_cases h : xs.length = n <;> simp [h]
@[simp] theorem erE_some {α : Type} {a : α × Env} {x : XD} : erE (some (.ok a) : RE α) x = False := propext ⟨fun ⟨_, e⟩ => (by cases e), False.elim⟩
@[simp] theorem erE_none {α : Type} {x : XD} : erE (none : RE α) x = False := propext ⟨fun ⟨_, e⟩ => (by cases e), False.elim⟩
@[simp] theorem erE_bind {α β : Type} {a : RE α} {f : α → Env → RE β} {x : XD} : erE (bindE a f) x = (erE a x ∨ okE a fun v δ => erE (f v δ) x) := by
  apply propext
  cases a with
  | none => exact ⟨fun ⟨_, e⟩ => (by cases e), fun h => h.elim (fun ⟨_, e⟩ => (by cases e)) fun ⟨_, _, e, _⟩ => (by cases e)⟩
  | some y => cases y with
    | error e =>
      constructor
      · rintro ⟨δ, h⟩
        have h' : (some (.error e) : RE β) = some (.error (x, δ)) := h
        cases h'
        exact .inl ⟨δ, rfl⟩
      · rintro (⟨δ, h⟩ | ⟨_, _, e, _⟩)
        · have h' : (some (.error _) : RE α) = some (.error (x, δ)) := h
          cases h'
          exact ⟨δ, rfl⟩
        · cases e
    | ok a =>
      obtain ⟨a, δ⟩ := a
      rw [okE_some]
      constructor
      · intro h; exact .inr h
      · rintro (⟨_, h⟩ | h)
        · cases h
        · exact h
@[simp] theorem erE_ite {α : Type} {p : Prop} [Decidable p] {a b : RE α} {x : XD} : erE (if p then a else b) x = if p then erE a x else erE b x := by split <;> rfl
@[simp] theorem erE_lf {α : Type} {own : List Nat} {g : Env → Rs α} {δ : Env} {x : XD} : erE (lf own g δ) x = erR (g (mask own δ)) x := by
  apply propext
  unfold lf erE erR
  cases g (mask own δ) with
  | none => exact ⟨fun ⟨_, e⟩ => (by cases e), fun e => (by cases e)⟩
  | some y => cases y with
    | error e => exact ⟨fun ⟨_, e⟩ => (by cases e; rfl), fun e => (by cases e; exact ⟨_, rfl⟩)⟩
    | ok a => exact ⟨fun ⟨_, e⟩ => (by cases e), fun e => (by cases e)⟩
@[simp] theorem erE_sset {i : Nat} {f : Env → RE D} {δ : Env} {x : XD} : erE (sset i f δ) x = erE (f δ) x := by
  unfold sset; rw [erE_bind, okE_f fun _ _ => erE_some, or_false]
@[simp] theorem erE_sret {f : Env → RE D} {δ : Env} {x : XD} : erE (sret f δ) x = erE (f δ) x := by
  unfold sret; rw [erE_bind, okE_f fun _ _ => erE_some, or_false]
@[simp] theorem erE_sif {t : Env → RE Bool} {a b : Env → RO} {δ : Env} {x : XD} : erE (sif t a b δ) x = (erE (t δ) x ∨ okE (t δ) fun k δ' => if k = true then erE (a δ') x else erE (b δ') x) := by
  unfold sif; rw [erE_bind]; congr; funext k δ'; rw [erE_ite]
@[simp] theorem erE_snext {δ : Env} {x : XD} : erE (snext δ) x = False := erE_some
@[simp] theorem erE_sseq {a b : Env → RO} {δ : Env} {x : XD} : erE (sseq a b δ) x = (erE (a δ) x ∨ okE (a δ) fun o δ' => o = .nx ∧ erE (b δ') x) := by
  apply propext
  unfold sseq
  cases a δ with
  | none => exact ⟨fun ⟨_, e⟩ => (by cases e), fun h => h.elim (fun ⟨_, e⟩ => (by cases e)) fun ⟨_, _, e, _⟩ => (by cases e)⟩
  | some y => cases y with
    | error e =>
      constructor
      · intro h; exact .inl h
      · rintro (h | ⟨_, _, e, _⟩)
        · exact h
        · cases e
    | ok a =>
      obtain ⟨a, δ1⟩ := a
      rw [okE_some]
      cases a with
      | nx =>
        constructor
        · intro h; exact .inr ⟨rfl, h⟩
        · rintro (⟨_, h⟩ | h)
          · cases h
          · exact h.2
      | _ =>
        constructor
        · rintro ⟨_, h⟩; cases h
        · rintro (⟨_, h⟩ | h)
          · cases h
          · cases h.1
@[simp] theorem erE_ecall {m : List D → Rs D} {f : Env → RE (List D)} {δ : Env} {x : XD} : erE (ecall m f δ) x = (erE (f δ) x ∨ okE (f δ) fun xs _ => erR (m xs) x) := by
  unfold ecall; rw [erE_bind]; congr; funext xs δ'; apply propext
  unfold erR erE
  cases m xs with
  | none => exact ⟨fun ⟨_, e⟩ => (by cases e), fun e => (by cases e)⟩
  | some y => cases y with
    | error e => exact ⟨fun ⟨_, e⟩ => (by cases e; rfl), fun e => (by cases e; exact ⟨_, rfl⟩)⟩
    | ok a => exact ⟨fun ⟨_, e⟩ => (by cases e), fun e => (by cases e)⟩
@[simp] theorem erE_sraise {c : Str} {g : Env → RE D} {δ : Env} {x : XD} : erE (sraise c g δ) x = (erE (g δ) x ∨ okE (g δ) fun d _ => x = ⟨c, [(xFld c, d)]⟩) := by
  unfold sraise; rw [erE_bind]; congr; funext d δ'; apply propext
  exact ⟨fun ⟨_, e⟩ => (by cases e; rfl), fun e => ⟨δ', by rw [e]⟩⟩
@[simp] theorem erR_vmeth {c : Str} {m : List D → Rs D} {g : Env → Rs D} {a : Env → Rs (List D)} {δ : Env} {x : XD} : erR (vmeth c m g a δ) x = (erR (g δ) x ∨ okR (g δ) fun o => ∃ fs, o = .obj c fs ∧ (erR (a δ) x ∨ okR (a δ) fun xs => erR (m (.obj c fs :: xs)) x)) := by
  unfold vmeth; rw [erR_bind]; congr; funext o; apply propext
  cases o <;> (try (exact ⟨fun h => (by cases h), fun ⟨_, e, _⟩ => (by cases e)⟩))
  rename_i c' fs
  by_cases h : c' = c
  · subst h
    simp only [if_true]
    rw [erR_bind]
    exact ⟨fun h => ⟨fs, rfl, h⟩, fun ⟨_, e, h⟩ => (by cases e; exact h)⟩
  · simp only [if_neg h]
    exact ⟨fun h => (by cases h), fun ⟨_, e, _⟩ => (by cases e; exact absurd rfl h)⟩
theorem den_er {n N : Nat} {body : Env → RO} {ds : List D} {x : XD} (hl : ds.length = n) (h : erE (body (ds.map some ++ List.replicate (N - n) none)) x) : den n N body ds = some (.error x) := by
  obtain ⟨δ', e⟩ := h
  unfold den
  rw [if_pos hl, e]
end PD
end
section
namespace PD
open PySem L2
end PD
end
section
namespace PD
open PySem L2
@[simp] theorem erR_tb {g : Env → Rs D} {δ : Env} {x : XD} : erR (tb g δ) x = erR (g δ) x := by
  unfold tb; rw [erR_bind, okR_f fun _ => erR_opt, or_false]
@[simp] theorem erR_tr {g : Env → Rs D} {δ : Env} {x : XD} : erR (tr g δ) x = erR (g δ) x := by
  unfold tr; rw [erR_bind, okR_f fun _ => erR_opt, or_false]
end PD
end
section
namespace PD
open PySem L2
end PD
end
section
namespace PD
open PySem L2
end PD
end
section
namespace PD
open PySem L2
def Tl (y : Str) (k : Nat) : Env := List.replicate k none ++ [some (.fn y)]
@[simp] theorem Tl_get {y : Str} {k : Nat} : (Tl y k)[k]? = some (some (.fn y)) := by
  unfold Tl
  rw [List.getElem?_append_right (by simp)]
  simp
@[simp] theorem hasT_eq {y : Str} {δ : Env} : (hasT y δ = true) = (δ[(40 : Nat)]? = some (some (.fn y))) := propext ⟨hasT_at, fun h => by
  unfold hasT
  rw [h]
  exact decide_eq_true rfl⟩
theorem denT_ok {n : Nat} {y : Str} {body : Env → RO} {ds : List D} {Q : D → Prop} (j k : Nat) (hl : ds.length = n) (hk : n + j + k = 40) (h : okE (body (ds.map some ++ (List.replicate j none ++ Tl y k))) fun o δ => δ[(40 : Nat)]? = some (some (.fn y)) ∧ match o with | .rt d => Q d | .nx => Q .non | _ => False) : okR (denT n y body ds) Q := by
  have e0 : envT n y ds = ds.map some ++ (List.replicate j none ++ Tl y k) := by
    unfold envT Tl
    rw [show 40 - n = j + k by omega, ← List.replicate_append_replicate]
    simp only [List.map_cons, List.cons_append, List.append_assoc]
  unfold denT; rw [if_pos hl, e0]
  obtain ⟨o, δ, e, t, q⟩ := h
  rw [e]
  have ht : hasT y δ = true := hasT_eq.mpr t
  cases o with
  | rt d => dsimp only; rw [if_pos ht]; exact ⟨_, rfl, q⟩
  | nx => dsimp only; rw [if_pos ht]; exact ⟨_, rfl, q⟩
  | bk => exact q.elim
  | ct => exact q.elim
theorem denBT_ok {n : Nat} {y : Str} {body : Env → RO} {B ds : List D} {Q : D → List D → Prop} (j k : Nat) (hl : ds.length + 1 = n) (hk : n + j + k = 40) (h : okE (body (some (.lst B) :: (ds.map some ++ (List.replicate j none ++ Tl y k)))) fun o δ => δ[(40 : Nat)]? = some (some (.fn y)) ∧ match o with | .rt d => ∃ B', δ[(0 : Nat)]? = some (some (.lst B')) ∧ Q d B' | .nx => ∃ B', δ[(0 : Nat)]? = some (some (.lst B')) ∧ Q .non B' | _ => False) :
    ∃ d B', denBT n y body B ds = some (d, B') ∧ Q d B' := by
  have e0 : envT n y (.lst B :: ds) = some (.lst B) :: (ds.map some ++ (List.replicate j none ++ Tl y k)) := by
    unfold envT Tl
    rw [show 40 - n = j + k by omega, ← List.replicate_append_replicate]
    simp only [List.map_cons, List.cons_append, List.append_assoc]
  unfold denBT; rw [if_pos hl, e0]
  obtain ⟨o, δ, e, t, q⟩ := h
  rw [e]
  have ht : hasT y δ = true := hasT_eq.mpr t
  cases o with
  | rt d => obtain ⟨B', e, q⟩ := q; exact ⟨d, B', by dsimp only; rw [if_pos ht]; simp only [bxOf]; rw [e], q⟩
  | nx => obtain ⟨B', e, q⟩ := q; exact ⟨.non, B', by dsimp only; rw [if_pos ht]; simp only [bxOf]; rw [e], q⟩
  | bk => exact q.elim
  | ct => exact q.elim
@[simp] theorem okE_ecallT {m : List D → Rs D} {y : Str} {a : Env → RE (List D)} {δ : Env} {Q : D → Env → Prop} : okE (ecallT m y a δ) Q = okE (a δ) fun xs δ' => δ'[(40 : Nat)]? = some (some (.fn y)) ∧ okR (m xs) fun d => Q d δ' := by
  unfold ecallT
  rw [okE_bind]
  congr; funext xs δ'
  apply propext
  by_cases h : hasT y δ' = true
  · rw [if_pos h]
    have h2 := hasT_eq.mp h
    cases m xs with
    | none => constructor <;> (first | (rintro ⟨_, _, _, e, _⟩; cases e) | (rintro ⟨_, _, e, _⟩; cases e))
    | some z => cases z with
      | error e => constructor <;> (first | (rintro ⟨_, _, _, e, _⟩; cases e) | (rintro ⟨_, _, e, _⟩; cases e))
      | ok a => simp only [okR_some, okE_some, h2, true_and]
  · rw [if_neg h]
    have h2 : ¬ δ'[(40 : Nat)]? = some (some (.fn y)) := fun z => h (hasT_eq.mpr z)
    constructor
    · rintro ⟨_, _, e, _⟩; cases e
    · exact fun z => absurd z.1 h2
@[simp] theorem okE_ecallBNT {m : List D → List D → Option (D × List D)} {y : Str} {fa : Env → RE D} {f : Env → RE (List D)} {δ : Env} {Q : D → Env → Prop} : okE (ecallBNT m y fa f δ) Q = okE (fa δ) fun d δ1 => okE (f δ1) fun ds δ2 => δ2[(40 : Nat)]? = some (some (.fn y)) ∧ okO (asLst d) fun B => okO (m B ds) fun q => Q q.1 δ2 := by
  unfold ecallBNT; rw [okE_bind]; congr; funext d δ1; rw [okE_bind]; congr; funext ds δ2
  apply propext
  by_cases h : hasT y δ2 = true
  · rw [if_pos h]
    have h2 := hasT_eq.mp h
    constructor
    · rintro ⟨r, δ3, e, q⟩
      split at e
      · rename_i B
        cases hm : m B ds with
        | none => rw [hm] at e; cases e
        | some z => rw [hm] at e; cases e; exact ⟨h2, B, rfl, z, hm, q⟩
      · cases e
    · rintro ⟨_, B, e, z, hm, q⟩
      cases d with
      | lst B' => cases e; dsimp only; rw [hm]; exact ⟨_, _, rfl, q⟩
      | _ => cases e
  · rw [if_neg h]
    have h2 : ¬ δ2[(40 : Nat)]? = some (some (.fn y)) := fun z => h (hasT_eq.mpr z)
    constructor
    · rintro ⟨_, _, e, _⟩; cases e
    · exact fun z => absurd z.1 h2
def sortKT : D → Option (List D)
  | .tup ds => sortKD ds
  | _ => none
@[simp] theorem okE_esortK {x : Str} {f : Env → RE D} {δ : Env} {Q : D → Env → Prop} : okE (esortK x f δ) Q = okE (f δ) fun d δ' => δ'[(40 : Nat)]? = some (some (.fn x)) ∧ okO (sortKT d) fun zs => Q (.lst zs) δ' := by
  unfold esortK; rw [okE_bind]; congr; funext d δ'
  apply propext; constructor
  · rintro ⟨r, δ3, e, q⟩
    split at e
    · rename_i z hz
      split at e
      · rename_i hzx
        subst hzx
        refine ⟨hz, ?_⟩
        split at e
        · rename_i ds
          cases h2 : sortKD ds with
          | none => rw [h2] at e; cases e
          | some zs => rw [h2] at e; cases e; exact ⟨zs, h2, q⟩
        · cases e
      · cases e
    · cases e
  · rintro ⟨hz, zs, e, q⟩
    cases d with
    | tup ds =>
      rw [hz]
      dsimp only
      rw [if_pos rfl]
      have e' : sortKD ds = some zs := e
      rw [e']
      exact ⟨_, _, rfl, q⟩
    | _ => cases e
end PD
end
section
namespace PD
open PySem L2
@[simp] theorem okR_vcount {a b : Env → Rs D} {δ : Env} {Q : D → Prop} : okR (vcount a b δ) Q = okR (a δ) fun x => isLs x = true ∧ okR (b δ) fun y => okO (dCount x y) fun u => Q u := by
  unfold vcount; rw [okR_bind]; congr; funext x; rw [okR_ite]
  split
  · rename_i h
    have e : (okR (bind (b δ) fun y => opt (dCount x y)) Q) = okR (b δ) fun y => okO (dCount x y) fun u => Q u := by
      rw [okR_bind]; congr; funext y; rw [okR_opt]
    rw [e]
    exact propext ⟨fun q => ⟨h, q⟩, fun q => q.2⟩
  · rename_i h
    exact propext ⟨fun q => (okR_none q).elim, fun q => absurd q.1 h⟩
@[simp] theorem okE_sraise0 {c : Str} {δ : Env} {Q : Out → Env → Prop} : okE (sraise0 c δ) Q = False := propext ⟨fun ⟨_, _, e, _⟩ => (by cases e), False.elim⟩
@[simp] theorem erE_sraise0 {c : Str} {δ : Env} {x : XD} : erE (sraise0 c δ) x = (x = ⟨c, []⟩) := propext ⟨fun ⟨_, e⟩ => (by cases e; rfl), fun e => ⟨δ, by rw [e]; rfl⟩⟩
@[simp] theorem okE_ecallKT {m : List D → Rs D} {y : Str} {n : Nat} {ix : List Nat} {a : Env → RE (List D)} {δ : Env} {Q : D → Env → Prop} : okE (ecallKT m y n ix a δ) Q = okE (a δ) fun xs δ' => xs.length = n ∧ δ'[(40 : Nat)]? = some (some (.fn y)) ∧ okR (m (pick ix xs)) fun d => Q d δ' := by
  unfold ecallKT
  rw [okE_bind]
  congr; funext xs δ'
  apply propext
  by_cases hl : xs.length = n
  · rw [if_pos hl]
    by_cases h : hasT y δ' = true
    · rw [if_pos h]
      have h2 := hasT_eq.mp h
      cases m (pick ix xs) with
      | none => exact ⟨fun ⟨_, _, e, _⟩ => (by cases e), fun ⟨_, _, _, e, _⟩ => (by cases e)⟩
      | some z => cases z with
        | error e => exact ⟨fun ⟨_, _, e, _⟩ => (by cases e), fun ⟨_, _, _, e, _⟩ => (by cases e)⟩
        | ok a => simp only [okR_some, okE_some, h2, hl, true_and]
    · rw [if_neg h]
      have h2 : ¬ δ'[(40 : Nat)]? = some (some (.fn y)) := fun z => h (hasT_eq.mpr z)
      constructor
      · rintro ⟨_, _, e, _⟩; cases e
      · exact fun z => absurd z.2.1 h2
  · rw [if_neg hl]
    constructor
    · rintro ⟨_, _, e, _⟩; cases e
    · exact fun z => absurd z.1 hl
def erP {α : Type} (o : RE α) (x : XD) (P : Env → Prop) : Prop := ∃ δ, o = some (.error (x, δ)) ∧ P δ
theorem denT_er {n : Nat} {y : Str} {body : Env → RO} {ds : List D} {x : XD} (j k : Nat) (hl : ds.length = n) (hk : n + j + k = 40) (h : erP (body (ds.map some ++ (List.replicate j none ++ Tl y k))) x fun δ => δ[(40 : Nat)]? = some (some (.fn y))) : denT n y body ds = some (.error x) := by
  have e0 : envT n y ds = ds.map some ++ (List.replicate j none ++ Tl y k) := by
    unfold envT Tl
    rw [show 40 - n = j + k by omega, ← List.replicate_append_replicate]
    simp only [List.map_cons, List.cons_append, List.append_assoc]
  obtain ⟨δ, e, t⟩ := h
  unfold denT; rw [if_pos hl, e0, e]
  dsimp only
  rw [if_pos (hasT_eq.mpr t)]
theorem erP_seq1 {a b : Env → RO} {δ : Env} {x : XD} {P : Env → Prop} (h : erP (a δ) x P) : erP (sseq a b δ) x P := by
  obtain ⟨δ', e, p⟩ := h
  exact ⟨δ', by unfold sseq; rw [e], p⟩
theorem erP_seq2 {a b : Env → RO} {δ : Env} {x : XD} {P : Env → Prop} (h : okE (a δ) fun o δ' => o = .nx ∧ erP (b δ') x P) : erP (sseq a b δ) x P := by
  obtain ⟨o, δ', e, rfl, δ2, e2, p⟩ := h
  exact ⟨δ2, by unfold sseq; rw [e]; exact e2, p⟩
@[simp] theorem erP_sraise0 {c : Str} {δ : Env} {x : XD} {P : Env → Prop} : erP (sraise0 c δ) x P = (x = ⟨c, []⟩ ∧ P δ) := propext ⟨fun ⟨_, e, p⟩ => (by cases e; exact ⟨rfl, p⟩), fun ⟨e, p⟩ => ⟨δ, by rw [e]; rfl, p⟩⟩
theorem erP_sif {t : Env → RE Bool} {a b : Env → RO} {δ : Env} {x : XD} {P : Env → Prop} (h : okE (t δ) fun k δ' => if k = true then erP (a δ') x P else erP (b δ') x P) : erP (sif t a b δ) x P := by
  obtain ⟨k, δ', e, q⟩ := h
  unfold sif bindE
  rw [e]
  dsimp only
  split at q
  · rename_i hk; rw [if_pos hk]; exact q
  · rename_i hk; rw [if_neg hk]; exact q
theorem erP_sraise {c : Str} {g : Env → RE D} {δ : Env} {d : D} {P : Env → Prop} (h : okE (g δ) fun d' δ' => d' = d ∧ P δ') : erP (sraise c g δ) ⟨c, [(xFld c, d)]⟩ P := by
  obtain ⟨d', δ', e, rfl, p⟩ := h
  exact ⟨δ', by unfold sraise bindE; rw [e], p⟩
theorem erP_sfor {g : D → Env → Option Env} {b : Env → RO} {x : XD} {P : Env → Prop} {d : D} {post : List D} (I : Env → Prop)
    (last : ∀ δ, I δ → ∃ δ1, g d δ = some δ1 ∧ erP (b δ1) x P) : ∀ {pre : List D} {δ : Env}, (∀ y ∈ pre, ∀ δ, I δ → ∃ δ1, g y δ = some δ1 ∧ okE (b δ1) fun o δ2 => o = .nx ∧ I δ2) → I δ → erP (sfor g b (pre ++ d :: post) δ) x P
  | [], δ, _, h => by
    obtain ⟨δ1, e1, δ2, e2, p⟩ := last δ h
    refine ⟨δ2, ?_, p⟩
    show sfor g b (d :: post) δ = _
    unfold sfor
    rw [e1]
    dsimp only
    rw [e2]
  | y :: pre, δ, hs, h => by
    obtain ⟨δ1, e1, o, δ2, e2, rfl, h2⟩ := hs y List.mem_cons_self δ h
    obtain ⟨δ3, e3, p⟩ := erP_sfor I last (pre := pre) (fun z hz => hs z (List.mem_cons_of_mem _ hz)) h2
    refine ⟨δ3, ?_, p⟩
    show sfor g b (y :: (pre ++ d :: post)) δ = _
    unfold sfor
    rw [e1]
    dsimp only
    rw [e2]
    exact e3
theorem erP_sforI {f : Env → RE (List D)} {g : D → Env → Option Env} {b : Env → RO} {δ : Env} {x : XD} {P : Env → Prop} (h : okE (f δ) fun ds δ' => erP (sfor g b ds δ') x P) : erP (sforI f g b δ) x P := by
  obtain ⟨ds, δ', e, q⟩ := h
  unfold sforI bindE
  rw [e]
  exact q
theorem erP_sset {i : Nat} {f : Env → RE D} {δ : Env} {x : XD} {P : Env → Prop} (h : erP (f δ) x P) : erP (sset i f δ) x P := by
  obtain ⟨δ', e, p⟩ := h
  exact ⟨δ', by unfold sset bindE; rw [e], p⟩
theorem erP_ecallT {m : List D → Rs D} {y : Str} {a : Env → RE (List D)} {δ : Env} {x : XD} {P : Env → Prop} (h : okE (a δ) fun xs δ' => δ'[(40 : Nat)]? = some (some (.fn y)) ∧ erR (m xs) x ∧ P δ') : erP (ecallT m y a δ) x P := by
  obtain ⟨xs, δ', e, t, q, p⟩ := h
  refine ⟨δ', ?_, p⟩
  unfold ecallT bindE
  rw [e]
  dsimp only
  rw [if_pos (hasT_eq.mpr t), show m xs = some (.error x) from q]
theorem erP_lf {α : Type} {own : List Nat} {g : Env → Rs α} {δ : Env} {x : XD} {P : Env → Prop} (h : erR (g (mask own δ)) x) (p : P δ) : erP (lf own g δ) x P := by
  refine ⟨δ, ?_, p⟩
  unfold lf
  rw [show g (mask own δ) = some (.error x) from h]
theorem stry_erP [XLs] {cs : List Str} {i j : Nat} {f : Env → RO} {δ : Env} {x : XD} {Q : Out → Env → Prop} (h : erP (f δ) x fun δ' => x.cls ∈ XL ∧ x.cls ∈ cs ∧ Q .nx ((δ'.set j (some (.exc x.cls x.fs))).set i none)) : okE (stry cs i j f δ) Q := by
  obtain ⟨δ', e, h1, h2, q⟩ := h
  exact stry_er e h1 h2 q
end PD
end
section
namespace Fa
def LL : Nat := 5624043567677125526551547131200
def DenL (k : Nat) (q : Rat) : Prop := ∃ n : Int, q * ((LL ^ k : Nat) : Rat) = (n : Rat)
theorem DenL.int {k : Nat} (i : Int) : DenL k (i : Rat) := ⟨i * ((LL ^ k : Nat) : Int), by
  rw [Rat.intCast_mul, Rat.intCast_natCast]⟩
theorem DenL.add {k : Nat} {p q : Rat} (hp : DenL k p) (hq : DenL k q) : DenL k (p + q) := by
  obtain ⟨n, hn⟩ := hp
  obtain ⟨m, hm⟩ := hq
  exact ⟨n + m, by rw [Rat.add_mul, hn, hm, Rat.intCast_add]⟩
theorem DenL.neg {k : Nat} {p : Rat} (hp : DenL k p) : DenL k (-p) := by
  obtain ⟨n, hn⟩ := hp
  exact ⟨-n, by rw [Rat.neg_mul, hn, Rat.intCast_neg]⟩
theorem DenL.sub {k : Nat} {p q : Rat} (hp : DenL k p) (hq : DenL k q) : DenL k (p - q) := by
  rw [Rat.sub_eq_add_neg]; exact hp.add hq.neg
theorem DenL.imul {k : Nat} {p : Rat} (i : Int) (hp : DenL k p) : DenL k ((i : Rat) * p) := by
  obtain ⟨n, hn⟩ := hp
  exact ⟨i * n, by rw [Rat.mul_assoc, hn, Rat.intCast_mul]⟩
theorem LL_pow_succ {k : Nat} : ((LL ^ (k + 1) : Nat) : Rat) = ((LL ^ k : Nat) : Rat) * (LL : Rat) := by
  rw [Nat.pow_succ, Rat.natCast_mul]
theorem DenL.div {k : Nat} {p : Rat} {w : Nat} (hp : DenL k p) (h0 : 0 < w) (hw : w ∣ LL) : DenL (k + 1) (p / (w : Rat)) := by
  obtain ⟨n, hn⟩ := hp
  obtain ⟨m, hm⟩ := hw
  refine ⟨n * (m : Int), ?_⟩
  have hw0 : (w : Rat) ≠ 0 := by
    have : (0 : Rat) < (w : Rat) := Rat.natCast_pos.2 h0
    grind
  have e : (LL : Rat) = (w : Rat) * (m : Rat) := by rw [hm, Rat.natCast_mul]
  rw [LL_pow_succ, e, Rat.intCast_mul, Rat.intCast_natCast, ← hn]
  grind
theorem DenL.mono {k j : Nat} {p : Rat} (hp : DenL k p) (h : k ≤ j) : DenL j p := by
  obtain ⟨n, hn⟩ := hp
  obtain ⟨i, rfl⟩ : ∃ i, j = k + i := ⟨j - k, by omega⟩
  refine ⟨n * ((LL ^ i : Nat) : Int), ?_⟩
  rw [Nat.pow_add, Rat.natCast_mul, ← Rat.mul_assoc, hn, Rat.intCast_mul, Rat.intCast_natCast]
theorem small_dvd : ∀ w : Nat, 0 < w → w ≤ 72 → w ∣ LL := by
  intro w h1 h2
  have : ∀ w : Fin 73, 0 < w.1 → w.1 ∣ LL := by decide +kernel
  exact this ⟨w, by omega⟩ h1
end Fa
end
section
namespace Fa
variable {α : Type} [DecidableEq α]
structure Row (α : Type) where
  name : α
  lines : List α
  w : Nat
  lo : Nat
  hi : Option Nat
structure Net (α : Type) where
  wires : List (α × Nat)
  rows : List (Row α)
def get (s : List (α × Rat)) (x : α) : Option Rat := (s.find? fun kv => decide (kv.1 = x)).map (·.2)
def put (s : List (α × Rat)) (x : α) (q : Rat) : List (α × Rat) := if (s.any fun kv => decide (kv.1 = x)) = true then s.map (fun kv => if kv.1 = x then (kv.1, q) else kv) else s ++ [(x, q)]
def at_ (r : Row α) (h : Rat) : Rat := if (r.lo : Rat) < (r.w : Rat) * h then (r.w : Rat) * h else (r.lo : Rat)
def val (s : List (α × Rat)) (h : Rat) (r : Row α) : Rat := (get s r.name).getD (at_ r h)
def sumQ (qs : List Rat) : Rat := qs.foldl (· + ·) 0
def onL (x : α) (r : Row α) : Bool := decide (x ∈ r.lines)
def load (N : Net α) (s : List (α × Rat)) (h : Rat) (x : α) : Rat := sumQ ((N.rows.filter (onL x)).map (val s h))
def full (N : Net α) (s : List (α × Rat)) (h : Rat) (r : Row α) : Bool := r.lines.any fun x => N.wires.any fun c => decide (c.1 = x) && decide (load N s h x = (c.2 : Rat))
def most (r : Row α) (h : Rat) : Bool := match r.hi with
  | some m => decide (at_ r h = (m : Rat))
  | none => false
def stops (N : Net α) (s : List (α × Rat)) (h : Rat) (r : Row α) : Bool := (get s r.name).isNone && (full N s h r || most r h)
def stop (N : Net α) (s : List (α × Rat)) (h : Rat) : List (α × Rat) := (N.rows.filter (stops N s h)).foldl (fun acc r => put acc r.name (at_ r h)) s
def lev (r : Row α) : Rat := (r.lo : Rat) / (r.w : Rat)
def rising (N : Net α) (s : List (α × Rat)) (h : Rat) (x : α) : List (Row α) := N.rows.filter fun r => onL x r && (get s r.name).isNone && !decide (h < lev r)
def wsum (rs : List (Row α)) : Nat := (rs.map Row.w).sum
def evR (r : Row α) : List Rat := lev r :: (match r.hi with
  | some m => [(m : Rat) / (r.w : Rat)]
  | none => [])
def evL (N : Net α) (s : List (α × Rat)) (h : Rat) (c : α × Nat) : List Rat := if rising N s h c.1 = [] then [] else [h + ((c.2 : Rat) - load N s h c.1) / (wsum (rising N s h c.1) : Rat)]
def events (N : Net α) (s : List (α × Rat)) (h : Rat) : List Rat := ((N.rows.filter fun r => (get s r.name).isNone).flatMap evR) ++ N.wires.flatMap (evL N s h)
theorem sum_from (qs : List Rat) : ∀ a : Rat, qs.foldl (· + ·) a = a + sumQ qs := by
  induction qs with
  | nil => intro a; simp [sumQ, Rat.add_zero]
  | cons q qs ih =>
    intro a
    unfold sumQ
    rw [List.foldl_cons, List.foldl_cons, ih, ih (0 + q)]
    grind
theorem sum_cons (q : Rat) (qs : List Rat) : sumQ (q :: qs) = q + sumQ qs := by
  show List.foldl (· + ·) (0 + q) qs = _
  rw [sum_from]; grind
theorem sum_nil : sumQ [] = 0 := rfl
theorem sum_nonneg : ∀ {qs : List Rat}, (∀ q ∈ qs, 0 ≤ q) → 0 ≤ sumQ qs
  | [], _ => by rw [sum_nil]; grind
  | q :: qs, h => by
    rw [sum_cons]
    have h1 := h q (by simp)
    have h2 := sum_nonneg (qs := qs) fun p hp => h p (by simp [hp])
    grind
theorem sum_mem : ∀ {qs : List Rat} {q : Rat}, (∀ q ∈ qs, 0 ≤ q) → q ∈ qs → q ≤ sumQ qs
  | q :: qs, p, h, hp => by
    rw [sum_cons]
    have h1 := h q (by simp)
    rcases List.mem_cons.1 hp with rfl | hp
    · have h2 := sum_nonneg (qs := qs) fun p hp => h p (by simp [hp])
      grind
    · have h2 := sum_mem (qs := qs) (fun p hp => h p (by simp [hp])) hp
      grind
theorem get_put (s : List (α × Rat)) (x y : α) (q : Rat) : get (put s x q) y = if y = x then some q else get s y := by
  unfold put
  split
  · rename_i h
    induction s with
    | nil => simp at h
    | cons kv s ih =>
      by_cases h1 : kv.1 = x
      · by_cases h2 : y = x
        · simp [get, h1, h2]
        · simp only [get, List.map_cons, h1, if_true, List.find?_cons]
          have e1 : decide (x = y) = false := by simp; exact fun z => h2 z.symm
          rw [e1]; simp only [if_neg h2]
          have : ∀ l : List (α × Rat), (List.find? (fun kv => decide (kv.1 = y)) (l.map fun kv => if kv.1 = x then (kv.1, q) else kv)) = List.find? (fun kv => decide (kv.1 = y)) l := fun l => by
            induction l with
            | nil => rfl
            | cons a l ih =>
              rw [List.map_cons]
              by_cases h3 : a.1 = x
              · simp only [h3, if_true, List.find?_cons, e1]; exact ih
              · simp only [h3, if_false, List.find?_cons]
                split
                · rfl
                · exact ih
          rw [this]
      · have h' : (s.any fun kv => decide (kv.1 = x)) = true := by simpa [h1] using h
        have ih := ih h'
        simp only [get, List.map_cons, h1, if_false, List.find?_cons] at ih ⊢
        by_cases h3 : kv.1 = y
        · simp [h3]; intro z; exact absurd (h3.trans z) h1
        · simp only [decide_eq_false h3]; exact ih
  · rename_i h
    have hn : ∀ kv ∈ s, kv.1 ≠ x := fun kv hkv e => h (List.any_eq_true.2 ⟨kv, hkv, by simpa using e⟩)
    unfold get
    rw [List.find?_append]
    by_cases h2 : y = x
    · subst h2
      have : List.find? (fun kv => decide (kv.1 = y)) s = none := List.find?_eq_none.2 fun kv hkv => by simpa using hn kv hkv
      simp [this]
    · have : decide (x = y) = false := by simp; exact fun z => h2 z.symm
      simp only [List.find?_cons, this, List.find?_nil, Option.or_none, if_neg h2]
theorem get_fold {h : Rat} : ∀ (rs : List (Row α)) (s : List (α × Rat)) (y : α), (rs.map Row.name).Nodup → get (rs.foldl (fun acc r => put acc r.name (at_ r h)) s) y = (match rs.find? (fun r => decide (r.name = y)) with | some r => some (at_ r h) | none => get s y)
  | [], s, y, _ => rfl
  | r :: rs, s, y, hn => by
    rw [List.map_cons, List.nodup_cons] at hn
    rw [List.foldl_cons, get_fold rs _ y hn.2, get_put, List.find?_cons]
    by_cases h1 : r.name = y
    · have e : rs.find? (fun r => decide (r.name = y)) = none := List.find?_eq_none.2 fun q hq => by
        simp; intro z; exact hn.1 (List.mem_map.2 ⟨q, hq, by rw [z, h1]⟩)
      rw [e]; simp [h1]
    · simp only [decide_eq_false h1]
      have : ¬ y = r.name := fun z => h1 z.symm
      rw [if_neg this]
theorem find_name {rs : List (Row α)} {p : Row α → Bool} {r : Row α} (hn : (rs.map Row.name).Nodup) (hr : r ∈ rs) : (rs.filter p).find? (fun q => decide (q.name = r.name)) = if p r = true then some r else none := by
  induction rs with
  | nil => simp at hr
  | cons q rs ih =>
    rw [List.map_cons, List.nodup_cons] at hn
    rcases List.mem_cons.1 hr with rfl | hr
    · have e : (rs.filter p).find? (fun q => decide (q.name = r.name)) = none := List.find?_eq_none.2 fun q hq => by
        simp; intro z; exact hn.1 (List.mem_map.2 ⟨q, (List.mem_filter.1 hq).1, z⟩)
      by_cases hp : p r = true
      · rw [List.filter_cons_of_pos hp, if_pos hp]; simp
      · rw [List.filter_cons_of_neg hp, if_neg hp, e]
    · have hne : q.name ≠ r.name := fun z => hn.1 (List.mem_map.2 ⟨r, hr, z.symm⟩)
      by_cases hp : p q = true
      · rw [List.filter_cons_of_pos hp, List.find?_cons, decide_eq_false hne]; exact ih hn.2 hr
      · rw [List.filter_cons_of_neg hp]; exact ih hn.2 hr
theorem nodup_filter {rs : List (Row α)} {p : Row α → Bool} (hn : (rs.map Row.name).Nodup) : ((rs.filter p).map Row.name).Nodup :=
  hn.sublist ((List.filter_sublist).map _)
theorem get_stop {N : Net α} {s : List (α × Rat)} {h : Rat} {r : Row α} (hn : (N.rows.map Row.name).Nodup) (hr : r ∈ N.rows) : get (stop N s h) r.name = if stops N s h r = true then some (at_ r h) else get s r.name := by
  unfold stop
  rw [get_fold _ _ _ (nodup_filter hn), find_name hn hr]
  split <;> rename_i e <;> split at e <;> first | (cases e; rfl) | (cases e; done) | rfl | skip
  all_goals simp_all
theorem val_stop {N : Net α} {s : List (α × Rat)} {h : Rat} {r : Row α} (hn : (N.rows.map Row.name).Nodup) (hr : r ∈ N.rows) : val (stop N s h) h r = val s h r := by
  unfold val
  rw [get_stop hn hr]
  split
  · rename_i e
    have : (get s r.name).isNone = true := by
      unfold stops at e
      simp only [Bool.and_eq_true] at e
      exact e.1
    rw [Option.isNone_iff_eq_none] at this
    rw [this]; rfl
  · rfl
theorem load_stop {N : Net α} {s : List (α × Rat)} {h : Rat} {x : α} (hn : (N.rows.map Row.name).Nodup) : load N (stop N s h) h x = load N s h x := by
  unfold load
  congr 1
  exact List.map_congr_left fun r hr => val_stop hn (List.mem_filter.1 hr).1
end Fa
end
section
namespace Fa
variable {α : Type} [DecidableEq α]
structure Ok (N : Net α) : Prop where
  nd : (N.rows.map Row.name).Nodup
  wd : (N.wires.map (·.1)).Nodup
  w1 : ∀ r ∈ N.rows, 1 ≤ r.w ∧ r.w ≤ 9
  ln : ∀ r ∈ N.rows, r.lines ≠ [] ∧ ∀ x ∈ r.lines, ∃ c, (x, c) ∈ N.wires
  hi : ∀ r ∈ N.rows, ∀ m, r.hi = some m → r.lo ≤ m ∧ m ≤ 2000
  lo : ∀ r ∈ N.rows, r.lo ≤ 2000
  few : N.rows.length ≤ 8
  cap : ∀ c ∈ N.wires, c.2 ≤ 2000
  room : ∀ c ∈ N.wires, load N [] 0 c.1 ≤ (c.2 : Rat)
theorem wpos {N : Net α} (ok : Ok N) {r : Row α} (hr : r ∈ N.rows) : (0 : Rat) < (r.w : Rat) := Rat.natCast_pos.2 (ok.w1 r hr).1
theorem mul_div {a b : Rat} (hb : 0 < b) : b * (a / b) = a := by grind
theorem lt_lev {N : Net α} (ok : Ok N) {r : Row α} (hr : r ∈ N.rows) {h : Rat} : h < lev r ↔ (r.w : Rat) * h < (r.lo : Rat) := by
  have hw := wpos ok hr
  unfold lev
  rw [Rat.lt_div_iff hw]
  rw [Rat.mul_comm]
theorem at_lo {r : Row α} {h : Rat} : (r.lo : Rat) ≤ at_ r h := by unfold at_; split <;> grind
theorem at_w {r : Row α} {h : Rat} : (r.w : Rat) * h ≤ at_ r h := by unfold at_; split <;> grind
theorem at_cases {r : Row α} {h : Rat} : at_ r h = (r.lo : Rat) ∨ at_ r h = (r.w : Rat) * h := by unfold at_; split <;> simp
theorem at_nonneg {r : Row α} {h : Rat} : 0 ≤ at_ r h := by
  have := at_lo (r := r) (h := h)
  have h0 : (0 : Rat) ≤ (r.lo : Rat) := Rat.natCast_nonneg
  grind
def inc (s : List (α × Rat)) (h : Rat) (r : Row α) : Rat := if (get s r.name).isNone && !decide (h < lev r) then (r.w : Rat) else 0
theorem val_rise {N : Net α} (ok : Ok N) {s : List (α × Rat)} {h h' : Rat} (hh : h ≤ h') {r : Row α} (hr : r ∈ N.rows) (hl : get s r.name = none → h < lev r → h' ≤ lev r) : val s h' r = val s h r + (h' - h) * inc s h r := by
  have hw := wpos ok hr
  unfold val inc
  cases hg : get s r.name with
  | some q => simp; grind
  | none =>
    simp only [Option.getD_none, Option.isNone_none, Bool.true_and]
    by_cases hlt : h < lev r
    · have h2 := hl hg hlt
      have h3 := (lt_lev ok hr).1 hlt
      have h4 : ¬ ((r.lo : Rat) < (r.w : Rat) * h') := by
        intro z
        have : (r.w : Rat) * h' ≤ (r.w : Rat) * lev r := Rat.mul_le_mul_of_nonneg_left h2 (by grind)
        rw [show (r.w : Rat) * lev r = (r.lo : Rat) from mul_div hw] at this
        grind
      have h5 : ¬ ((r.lo : Rat) < (r.w : Rat) * h) := by grind
      simp [at_, h4, h5, hlt]; grind
    · have h3 : ¬ ((r.w : Rat) * h < (r.lo : Rat)) := fun z => hlt ((lt_lev ok hr).2 z)
      have h4 : (r.w : Rat) * h ≤ (r.w : Rat) * h' := Rat.mul_le_mul_of_nonneg_left hh (by grind)
      have e1 : at_ r h = (r.w : Rat) * h := by unfold at_; split <;> grind
      have e2 : at_ r h' = (r.w : Rat) * h' := by unfold at_; split <;> grind
      rw [e1, e2]; simp [hlt]; grind
theorem sum_rise {N : Net α} (ok : Ok N) {s : List (α × Rat)} {h h' : Rat} (hh : h ≤ h') : ∀ {rs : List (Row α)}, (∀ r ∈ rs, r ∈ N.rows ∧ (get s r.name = none → h < lev r → h' ≤ lev r)) →
    sumQ (rs.map (val s h')) = sumQ (rs.map (val s h)) + (h' - h) * sumQ (rs.map (inc s h))
  | [], _ => by simp [sum_nil]; grind
  | r :: rs, hs => by
    rw [List.map_cons, List.map_cons, List.map_cons, sum_cons, sum_cons, sum_cons, sum_rise ok hh (rs := rs) fun q hq => hs q (by simp [hq]), val_rise ok hh (hs r (by simp)).1 (hs r (by simp)).2]
    grind
theorem inc_sum {N : Net α} {s : List (α × Rat)} {h : Rat} {x : α} : ∀ {rs : List (Row α)}, sumQ ((rs.filter (onL x)).map (inc s h)) = (wsum (rs.filter fun r => onL x r && (get s r.name).isNone && !decide (h < lev r)) : Rat)
  | [] => by simp [sum_nil, wsum]
  | r :: rs => by
    have ih := inc_sum (N := N) (s := s) (h := h) (x := x) (rs := rs)
    by_cases h1 : onL x r = true
    · rw [List.filter_cons_of_pos h1, List.map_cons, sum_cons, ih]
      by_cases h2 : ((get s r.name).isNone && !decide (h < lev r)) = true
      · rw [List.filter_cons_of_pos (by rw [Bool.and_assoc, h1, h2]; rfl)]
        unfold inc wsum
        rw [if_pos h2, List.map_cons, List.sum_cons, Rat.natCast_add]
      · rw [List.filter_cons_of_neg (by rw [Bool.and_assoc, h1]; simpa using h2)]
        unfold inc
        rw [if_neg h2]; grind
    · rw [List.filter_cons_of_neg h1, ih, List.filter_cons_of_neg (by simp [h1])]
theorem load_rise {N : Net α} (ok : Ok N) {s : List (α × Rat)} {h h' : Rat} {x : α} (hh : h ≤ h') (hl : ∀ r ∈ N.rows, get s r.name = none → h < lev r → h' ≤ lev r) : load N s h' x = load N s h x + (h' - h) * (wsum (rising N s h x) : Rat) := by
  unfold load rising
  rw [sum_rise ok hh fun r hr => ⟨(List.mem_filter.1 hr).1, hl r (List.mem_filter.1 hr).1⟩, inc_sum (N := N)]
structure Inv (N : Net α) (s : List (α × Rat)) (h : Rat) : Prop where
  h0 : 0 ≤ h
  ld : ∀ c ∈ N.wires, load N s h c.1 ≤ (c.2 : Rat)
  tp : ∀ r ∈ N.rows, get s r.name = none → ∀ m, r.hi = some m → at_ r h ≤ (m : Rat)
  nn : ∀ x q, get s x = some q → 0 ≤ q
theorem val_nonneg {N : Net α} {s : List (α × Rat)} {h : Rat} (I : Inv N s h) (r : Row α) : 0 ≤ val s h r := by
  unfold val
  cases e : get s r.name with
  | none => exact at_nonneg
  | some q => exact I.nn _ q e
theorem val_le {N : Net α} (ok : Ok N) {s : List (α × Rat)} {h : Rat} (I : Inv N s h) {r : Row α} (hr : r ∈ N.rows) : val s h r ≤ 2000 := by
  obtain ⟨hne, hx⟩ := ok.ln r hr
  obtain ⟨x, hxm⟩ := List.exists_mem_of_ne_nil _ hne
  obtain ⟨c, hc⟩ := hx x hxm
  have h1 := I.ld _ hc
  have h2 : val s h r ≤ load N s h x := by
    unfold load
    refine sum_mem (fun q hq => ?_) (List.mem_map.2 ⟨r, List.mem_filter.2 ⟨hr, by simpa [onL] using hxm⟩, rfl⟩)
    obtain ⟨r', _, rfl⟩ := List.mem_map.1 hq
    exact val_nonneg I r'
  have h3 : ((c : Nat) : Rat) ≤ 2000 := by
    have := ok.cap _ hc
    have h4 : ((c : Nat) : Rat) ≤ ((2000 : Nat) : Rat) := Rat.natCast_le_natCast.2 this
    simpa using h4
  dsimp only at h1
  grind
theorem inv_stop {N : Net α} (ok : Ok N) {s : List (α × Rat)} {h : Rat} (I : Inv N s h) (hk : ∀ x q, get s x = some q → ∃ r ∈ N.rows, r.name = x) : Inv N (stop N s h) h ∧ ∀ x q, get (stop N s h) x = some q → ∃ r ∈ N.rows, r.name = x := by
  have keys : ∀ x q, get (stop N s h) x = some q → ∃ r ∈ N.rows, r.name = x := fun x q e => by
    unfold stop at e
    rw [get_fold _ _ _ (nodup_filter ok.nd)] at e
    split at e
    · rename_i r hr
      have := List.find?_some hr
      exact ⟨r, (List.mem_filter.1 (List.mem_of_find?_eq_some hr)).1, by simpa using this⟩
    · exact hk x q e
  refine ⟨⟨I.h0, fun c hc => by rw [load_stop ok.nd]; exact I.ld c hc, fun r hr hg m hm => ?_, fun x q e => ?_⟩, keys⟩
  · rw [get_stop ok.nd hr] at hg
    split at hg
    · cases hg
    · exact I.tp r hr hg m hm
  · obtain ⟨r, hr, rfl⟩ := keys x q e
    rw [get_stop ok.nd hr] at e
    split at e
    · cases e; exact at_nonneg
    · exact I.nn _ q e
structure Calm (N : Net α) (s : List (α × Rat)) (h : Rat) : Prop where
  ln : ∀ r ∈ N.rows, get s r.name = none → ∀ c ∈ N.wires, c.1 ∈ r.lines → load N s h c.1 ≠ (c.2 : Rat)
  tp : ∀ r ∈ N.rows, get s r.name = none → ∀ m, r.hi = some m → at_ r h ≠ (m : Rat)
theorem calm_stop {N : Net α} (ok : Ok N) {s : List (α × Rat)} {h : Rat} : Calm N (stop N s h) h := by
  have key : ∀ r ∈ N.rows, get (stop N s h) r.name = none → full N s h r = false ∧ most r h = false := fun r hr hg => by
    rw [get_stop ok.nd hr] at hg
    split at hg
    · cases hg
    · rename_i hs
      unfold stops at hs
      rw [hg] at hs
      simp at hs
      exact hs
  refine ⟨fun r hr hg c hc hx e => ?_, fun r hr hg m hm e => ?_⟩
  · have h1 := (key r hr hg).1
    rw [load_stop ok.nd] at e
    have : full N s h r = true := by
      unfold full
      refine List.any_eq_true.2 ⟨c.1, hx, List.any_eq_true.2 ⟨c, hc, ?_⟩⟩
      simp [e]
    rw [this] at h1; cases h1
  · have h1 := (key r hr hg).2
    unfold most at h1
    rw [hm] at h1
    simp at h1
    exact h1 e
end Fa
end
section
namespace Fa
variable {α : Type} [DecidableEq α]
def later (N : Net α) (s : List (α × Rat)) (h : Rat) : List Rat := (events N s h).filter fun e => decide (h < e)
theorem wsum_pos {N : Net α} (ok : Ok N) {rs : List (Row α)} (hs : ∀ r ∈ rs, r ∈ N.rows) (h0 : rs ≠ []) : 0 < wsum rs := by
  cases rs with
  | nil => exact absurd rfl h0
  | cons r rs =>
    have := (ok.w1 r (hs r (by simp))).1
    unfold wsum
    rw [List.map_cons, List.sum_cons]; omega
theorem wsum_le : ∀ {rs : List (Row α)}, (∀ r ∈ rs, r.w ≤ 9) → wsum rs ≤ 9 * rs.length
  | [], _ => by simp [wsum]
  | r :: rs, h => by
    have h1 := h r (by simp)
    have h2 := wsum_le (rs := rs) fun q hq => h q (by simp [hq])
    unfold wsum at *
    rw [List.map_cons, List.sum_cons, List.length_cons]; omega
theorem rising_sub {N : Net α} {s : List (α × Rat)} {h : Rat} {x : α} : ∀ r ∈ rising N s h x, r ∈ N.rows := fun r hr => (List.mem_filter.1 hr).1
theorem mem_events {N : Net α} {s : List (α × Rat)} {h e : Rat} : e ∈ events N s h ↔ (∃ r ∈ N.rows, get s r.name = none ∧ e ∈ evR r) ∨ ∃ c ∈ N.wires, e ∈ evL N s h c := by
  unfold events
  rw [List.mem_append, List.mem_flatMap, List.mem_flatMap]
  constructor
  · rintro (⟨r, hr, he⟩ | h)
    · obtain ⟨h1, h2⟩ := List.mem_filter.1 hr
      exact .inl ⟨r, h1, by simpa using h2, he⟩
    · exact .inr h
  · rintro (⟨r, hr, h2, he⟩ | h)
    · exact .inl ⟨r, List.mem_filter.2 ⟨hr, by simpa using h2⟩, he⟩
    · exact .inr h
theorem mem_later {N : Net α} {s : List (α × Rat)} {h e : Rat} : e ∈ later N s h ↔ e ∈ events N s h ∧ h < e := by
  unfold later; rw [List.mem_filter]; simp
theorem lev_later {N : Net α} {s : List (α × Rat)} {h : Rat} {r : Row α} (hr : r ∈ N.rows) (hg : get s r.name = none) (hl : h < lev r) : lev r ∈ later N s h :=
  mem_later.2 ⟨mem_events.2 (.inl ⟨r, hr, hg, by simp [evR]⟩), hl⟩
theorem line_later {N : Net α} (ok : Ok N) {s : List (α × Rat)} {h : Rat} (I : Inv N s h) (C : Calm N s h) {c : α × Nat} (hc : c ∈ N.wires) (h0 : rising N s h c.1 ≠ []) : h + ((c.2 : Rat) - load N s h c.1) / (wsum (rising N s h c.1) : Rat) ∈ later N s h := by
  have hW : (0 : Rat) < (wsum (rising N s h c.1) : Rat) := Rat.natCast_pos.2 (wsum_pos ok rising_sub h0)
  refine mem_later.2 ⟨mem_events.2 (.inr ⟨c, hc, by unfold evL; rw [if_neg h0]; simp⟩), ?_⟩
  obtain ⟨r, hr⟩ := List.exists_mem_of_ne_nil _ h0
  obtain ⟨h1, h2⟩ := List.mem_filter.1 hr
  simp only [Bool.and_eq_true] at h2
  have hg : get s r.name = none := by simpa using h2.1.2
  have hx : c.1 ∈ r.lines := by simpa [onL] using h2.1.1
  have h3 := C.ln r h1 hg c hc hx
  have h4 := I.ld c hc
  have h5 : 0 < (c.2 : Rat) - load N s h c.1 := by grind
  have h6 : 0 < ((c.2 : Rat) - load N s h c.1) / (wsum (rising N s h c.1) : Rat) := by
    rw [Rat.div_def]; exact Rat.mul_pos h5 (Rat.inv_pos.2 hW)
  grind
theorem inv_next {N : Net α} (ok : Ok N) {s : List (α × Rat)} {h h' : Rat} (I : Inv N s h) (C : Calm N s h) (hm : h' ∈ later N s h) (hmin : ∀ e ∈ later N s h, h' ≤ e) :
    Inv N s h' ∧ h < h' ∧ ((∃ r ∈ N.rows, get s r.name = none ∧ h < lev r ∧ ¬ h' < lev r) ∨ ∃ r ∈ N.rows, stops N s h' r = true) := by
  obtain ⟨he, hlt⟩ := mem_later.1 hm
  have hle : h ≤ h' := Rat.le_of_lt hlt
  have hl : ∀ r ∈ N.rows, get s r.name = none → h < lev r → h' ≤ lev r := fun r hr hg z => hmin _ (lev_later hr hg z)
  have key : ∀ c ∈ N.wires, load N s h' c.1 = load N s h c.1 + (h' - h) * (wsum (rising N s h c.1) : Rat) := fun c hc => load_rise ok hle hl
  refine ⟨⟨by have := I.h0; grind, fun c hc => ?_, fun r hr hg m hm' => ?_, I.nn⟩, hlt, ?_⟩
  · rw [key c hc]
    by_cases h0 : rising N s h c.1 = []
    · rw [h0]
      have := I.ld c hc
      simp [wsum]; grind
    · have hW : (0 : Rat) < (wsum (rising N s h c.1) : Rat) := Rat.natCast_pos.2 (wsum_pos ok rising_sub h0)
      have h1 := hmin _ (line_later ok I C hc h0)
      have h2 : (h' - h) * (wsum (rising N s h c.1) : Rat) ≤ ((c.2 : Rat) - load N s h c.1) / (wsum (rising N s h c.1) : Rat) * (wsum (rising N s h c.1) : Rat) := Rat.mul_le_mul_of_nonneg_right (by grind) (by grind)
      rw [show ((c.2 : Rat) - load N s h c.1) / (wsum (rising N s h c.1) : Rat) * (wsum (rising N s h c.1) : Rat) = (c.2 : Rat) - load N s h c.1 by grind] at h2
      grind
  · have hw := wpos ok hr
    have h1 := I.tp r hr hg m hm'
    have h2 := C.tp r hr hg m hm'
    have h3 : (r.w : Rat) * h < (m : Rat) := by have := at_w (r := r) (h := h); grind
    have h4 : h < (m : Rat) / (r.w : Rat) := by rw [Rat.lt_div_iff hw, Rat.mul_comm]; exact h3
    have h5 := hmin _ (mem_later.2 ⟨mem_events.2 (.inl ⟨r, hr, hg, by simp [evR, hm']⟩), h4⟩)
    have h6 : (r.w : Rat) * h' ≤ (r.w : Rat) * ((m : Rat) / (r.w : Rat)) := Rat.mul_le_mul_of_nonneg_left h5 (by grind)
    rw [mul_div hw] at h6
    have h7 : (r.lo : Rat) ≤ (m : Rat) := Rat.natCast_le_natCast.2 (ok.hi r hr m hm').1
    rcases at_cases (r := r) (h := h') with e | e <;> rw [e] <;> assumption
  · rcases mem_events.1 he with ⟨r, hr, hg, he⟩ | ⟨c, hc, he⟩
    · have hw := wpos ok hr
      unfold evR at he
      rcases List.mem_cons.1 he with e | he
      · exact .inl ⟨r, hr, hg, by rw [← e]; exact hlt, by rw [e]; exact Rat.lt_irrefl⟩
      · cases hm' : r.hi with
        | none => rw [hm'] at he; simp at he
        | some m =>
          rw [hm'] at he
          have e : h' = (m : Rat) / (r.w : Rat) := by simpa using he
          refine .inr ⟨r, hr, ?_⟩
          have h7 : (r.lo : Rat) ≤ (m : Rat) := Rat.natCast_le_natCast.2 (ok.hi r hr m hm').1
          have h8 : (r.w : Rat) * h' = (m : Rat) := by rw [e]; exact mul_div hw
          have h9 : at_ r h' = (m : Rat) := by unfold at_; rw [h8]; split <;> grind
          unfold stops most
          rw [hg, hm']; simp [h9]
    · unfold evL at he
      split at he
      · simp at he
      · rename_i h0
        have e : h' = h + ((c.2 : Rat) - load N s h c.1) / (wsum (rising N s h c.1) : Rat) := by simpa using he
        have hW : (0 : Rat) < (wsum (rising N s h c.1) : Rat) := Rat.natCast_pos.2 (wsum_pos ok rising_sub h0)
        obtain ⟨r, hr⟩ := List.exists_mem_of_ne_nil _ h0
        obtain ⟨h1, h2⟩ := List.mem_filter.1 hr
        simp only [Bool.and_eq_true] at h2
        have hg : get s r.name = none := by simpa using h2.1.2
        have hx : c.1 ∈ r.lines := by simpa [onL] using h2.1.1
        refine .inr ⟨r, h1, ?_⟩
        have hf : load N s h' c.1 = (c.2 : Rat) := by
          rw [key c hc, e]
          grind
        have : full N s h' r = true := by
          unfold full
          exact List.any_eq_true.2 ⟨c.1, hx, List.any_eq_true.2 ⟨c, hc, by simp [hf]⟩⟩
        unfold stops
        rw [hg, this]; rfl
def nUn (N : Net α) (s : List (α × Rat)) : Nat := (N.rows.filter fun r => (get s r.name).isNone).length
def nLow (N : Net α) (s : List (α × Rat)) (h : Rat) : Nat := (N.rows.filter fun r => (get s r.name).isNone && decide (h < lev r)).length
def P (N : Net α) (s : List (α × Rat)) (h : Rat) : Nat := 2 * nUn N s + nLow N s h + (if N.rows.any (stops N s h) = true then 0 else 1)
theorem filt_le {β : Type} {p q : β → Bool} : ∀ {l : List β}, (∀ x ∈ l, p x = true → q x = true) → (l.filter p).length ≤ (l.filter q).length
  | [], _ => by simp
  | x :: l, h => by
    have ih := filt_le (p := p) (q := q) (l := l) fun y hy => h y (by simp [hy])
    by_cases hp : p x = true
    · rw [List.filter_cons_of_pos hp, List.filter_cons_of_pos (h x (by simp) hp), List.length_cons, List.length_cons]; omega
    · rw [List.filter_cons_of_neg hp]
      by_cases hq : q x = true
      · rw [List.filter_cons_of_pos hq, List.length_cons]; omega
      · rw [List.filter_cons_of_neg hq]; exact ih
theorem filt_lt {β : Type} {p q : β → Bool} : ∀ {l : List β}, (∀ x ∈ l, p x = true → q x = true) → (∃ x ∈ l, q x = true ∧ p x = false) → (l.filter p).length < (l.filter q).length
  | [], _, ⟨_, h, _⟩ => by simp at h
  | x :: l, h, ⟨y, hy, h1, h2⟩ => by
    have hle := filt_le (p := p) (q := q) (l := l) fun y hy => h y (by simp [hy])
    rcases List.mem_cons.1 hy with rfl | hy
    · rw [List.filter_cons_of_neg (by rw [h2]; simp), List.filter_cons_of_pos h1, List.length_cons]; omega
    · have ih := filt_lt (p := p) (q := q) (l := l) (fun y hy => h y (by simp [hy])) ⟨y, hy, h1, h2⟩
      by_cases hp : p x = true
      · rw [List.filter_cons_of_pos hp, List.filter_cons_of_pos (h x (by simp) hp), List.length_cons, List.length_cons]; omega
      · rw [List.filter_cons_of_neg hp]
        by_cases hq : q x = true
        · rw [List.filter_cons_of_pos hq, List.length_cons]; omega
        · rw [List.filter_cons_of_neg hq]; exact ih
theorem get_stop_none {N : Net α} (ok : Ok N) {s : List (α × Rat)} {h : Rat} {r : Row α} (hr : r ∈ N.rows) (hg : get (stop N s h) r.name = none) : get s r.name = none := by
  rw [get_stop ok.nd hr] at hg
  split at hg
  · cases hg
  · exact hg
theorem P_less {N : Net α} (ok : Ok N) {s : List (α × Rat)} {h h' : Rat} (I : Inv N s h) (hk : ∀ x q, get s x = some q → ∃ r ∈ N.rows, r.name = x) (hm : h' ∈ later N (stop N s h) h) (hmin : ∀ e ∈ later N (stop N s h) h, h' ≤ e) : P N (stop N s h) h' < P N s h := by
  obtain ⟨I1, _⟩ := inv_stop ok I hk
  obtain ⟨I2, hlt, pr⟩ := inv_next ok I1 (calm_stop ok) hm hmin
  have hb : nLow N (stop N s h) h' ≤ nLow N s h := filt_le fun r hr hp => by
    simp only [Bool.and_eq_true, decide_eq_true_eq, Option.isNone_iff_eq_none] at hp ⊢
    exact ⟨get_stop_none ok hr hp.1, by have := hp.2; grind⟩
  have ha : nUn N (stop N s h) ≤ nUn N s := filt_le fun r hr hp => by
    simp only [Option.isNone_iff_eq_none] at hp ⊢
    exact get_stop_none ok hr hp
  unfold P
  by_cases hs : N.rows.any (stops N s h) = true
  · rw [if_pos hs]
    have : nUn N (stop N s h) < nUn N s := by
      obtain ⟨r, hr, hr2⟩ := List.any_eq_true.1 hs
      refine filt_lt (fun r hr hp => ?_) ⟨r, hr, ?_, ?_⟩
      · simp only [Option.isNone_iff_eq_none] at hp ⊢
        exact get_stop_none ok hr hp
      · unfold stops at hr2
        simp only [Bool.and_eq_true] at hr2
        exact hr2.1
      · rw [get_stop ok.nd hr, if_pos hr2]; rfl
    split <;> omega
  · rw [if_neg hs]
    have hf : ∀ r ∈ N.rows, stops N s h r = false := fun r hr => by
      cases e : stops N s h r with
      | false => rfl
      | true => exact absurd (List.any_eq_true.2 ⟨r, hr, e⟩) hs
    have e : stop N s h = s := by
      unfold stop
      rw [List.filter_eq_nil_iff.2 fun r hr => by rw [hf r hr]; simp]
      rfl
    rw [e] at pr hb ⊢
    rcases pr with ⟨r, hr, hg, h1, h2⟩ | ⟨r, hr, hr2⟩
    · have : nLow N s h' < nLow N s h := by
        refine filt_lt (fun r hr hp => ?_) ⟨r, hr, by simp [hg, h1], by simp [hg, h2]⟩
        simp only [Bool.and_eq_true, decide_eq_true_eq] at hp ⊢
        exact ⟨hp.1, by have := hp.2; grind⟩
      split <;> omega
    · rw [if_pos (List.any_eq_true.2 ⟨r, hr, hr2⟩)]; omega
structure Dn (k : Nat) (s : List (α × Rat)) (h : Rat) : Prop where
  h : DenL k h
  s : ∀ x q, get s x = some q → DenL k q
theorem DenL.nat {k : Nat} (i : Nat) : DenL k (i : Rat) := by rw [← Rat.intCast_natCast]; exact DenL.int _
theorem DenL.nmul {k : Nat} {p : Rat} (i : Nat) (hp : DenL k p) : DenL k ((i : Rat) * p) := by rw [← Rat.intCast_natCast]; exact hp.imul _
theorem DenL.sum {k : Nat} : ∀ {qs : List Rat}, (∀ q ∈ qs, DenL k q) → DenL k (sumQ qs)
  | [], _ => by rw [sum_nil]; exact (DenL.nat 0 : DenL k ((0 : Nat) : Rat))
  | q :: qs, h => by rw [sum_cons]; exact (h q (by simp)).add (DenL.sum fun p hp => h p (by simp [hp]))
theorem den_at {k : Nat} {r : Row α} {h : Rat} (hh : DenL k h) : DenL k (at_ r h) := by
  rcases at_cases (r := r) (h := h) with e | e <;> rw [e]
  · exact .nat _
  · exact hh.nmul _
theorem den_val {k : Nat} {s : List (α × Rat)} {h : Rat} (d : Dn k s h) (r : Row α) : DenL k (val s h r) := by
  unfold val
  cases e : get s r.name with
  | none => exact den_at d.h
  | some q => exact d.s _ q e
theorem den_load {k : Nat} {N : Net α} {s : List (α × Rat)} {h : Rat} (d : Dn k s h) (x : α) : DenL k (load N s h x) := by
  unfold load
  exact DenL.sum fun q hq => by obtain ⟨r, _, rfl⟩ := List.mem_map.1 hq; exact den_val d r
theorem dn_stop {k : Nat} {N : Net α} (ok : Ok N) {s : List (α × Rat)} {h : Rat} (d : Dn k s h) : Dn k (stop N s h) h where
  h := d.h
  s := fun x q e => by
    unfold stop at e
    rw [get_fold _ _ _ (nodup_filter ok.nd)] at e
    split at e
    · cases e; exact den_at d.h
    · exact d.s x q e
theorem wsum24 {N : Net α} (ok : Ok N) {s : List (α × Rat)} {h : Rat} {x : α} : wsum (rising N s h x) ≤ 72 := by
  have h1 := wsum_le (rs := rising N s h x) fun r hr => (ok.w1 r (rising_sub r hr)).2
  have h2 : (rising N s h x).length ≤ N.rows.length := List.length_filter_le _ _
  have := ok.few
  omega
theorem den_event {k : Nat} {N : Net α} (ok : Ok N) {s : List (α × Rat)} {h e : Rat} (d : Dn k s h) (he : e ∈ events N s h) : DenL (k + 1) e := by
  rcases mem_events.1 he with ⟨r, hr, hg, he⟩ | ⟨c, hc, he⟩
  · have hw := ok.w1 r hr
    have q : ∀ n : Nat, DenL (k + 1) ((n : Rat) / (r.w : Rat)) := fun n => (DenL.nat (k := k) n).div (by omega) (small_dvd _ (by omega) (by omega))
    unfold evR at he
    rcases List.mem_cons.1 he with rfl | he
    · exact q _
    · cases hm : r.hi with
      | none => rw [hm] at he; simp at he
      | some m => rw [hm] at he; rw [List.mem_singleton.1 he]; exact q _
  · unfold evL at he
    split at he
    · simp at he
    · rename_i h0
      rw [List.mem_singleton.1 he]
      exact (d.h.mono (by omega)).add (((DenL.nat _).sub (den_load d _)).div (wsum_pos ok rising_sub h0) (small_dvd _ (wsum_pos ok rising_sub h0) (wsum24 ok)))
theorem Dn.mono {k j : Nat} {s : List (α × Rat)} {h : Rat} (d : Dn k s h) (hk : k ≤ j) : Dn j s h := ⟨d.h.mono hk, fun x q e => (d.s x q e).mono hk⟩
theorem h_le {N : Net α} (ok : Ok N) {s : List (α × Rat)} {h : Rat} (I : Inv N s h) {r : Row α} (hr : r ∈ N.rows) (hg : get s r.name = none) : h ≤ 2000 := by
  have h1 := val_le ok I hr
  unfold val at h1
  rw [hg] at h1
  have h2 := at_w (r := r) (h := h)
  have hw := (ok.w1 r hr).1
  have h3 : (1 : Rat) ≤ (r.w : Rat) := by
    have : ((1 : Nat) : Rat) ≤ (r.w : Rat) := Rat.natCast_le_natCast.2 hw
    simpa using this
  have h4 : 1 * h ≤ (r.w : Rat) * h := Rat.mul_le_mul_of_nonneg_right h3 I.h0
  simp at h1
  grind
theorem cap64 {N : Net α} (ok : Ok N) {c : α × Nat} (hc : c ∈ N.wires) : (c.2 : Rat) ≤ 2000 := by
  have h4 : ((c.2 : Nat) : Rat) ≤ ((2000 : Nat) : Rat) := Rat.natCast_le_natCast.2 (ok.cap _ hc)
  simpa using h4
theorem div_le_self {a : Rat} {n : Nat} (ha : 0 ≤ a) (hn : 0 < n) : a / (n : Rat) ≤ a := by
  have h1 : (1 : Rat) ≤ (n : Rat) := by
    have : ((1 : Nat) : Rat) ≤ (n : Rat) := Rat.natCast_le_natCast.2 hn
    simpa using this
  have h0 : (0 : Rat) < (n : Rat) := by grind
  have h2 : a / (n : Rat) * 1 ≤ a / (n : Rat) * (n : Rat) := Rat.mul_le_mul_of_nonneg_left h1 (by rw [Rat.div_def]; exact Rat.mul_nonneg ha (Rat.le_of_lt (Rat.inv_pos.2 h0)))
  rw [Rat.mul_one, Rat.div_mul_cancel (by grind)] at h2
  exact h2
theorem div_nonneg {a : Rat} {n : Nat} (ha : 0 ≤ a) (hn : 0 < n) : 0 ≤ a / (n : Rat) := by
  rw [Rat.div_def]
  exact Rat.mul_nonneg ha (Rat.le_of_lt (Rat.inv_pos.2 (Rat.natCast_pos.2 hn)))
theorem event_bd {N : Net α} (ok : Ok N) {s : List (α × Rat)} {h e : Rat} (I : Inv N s h) (he : e ∈ events N s h) : 0 ≤ e ∧ e ≤ 5000 := by
  rcases mem_events.1 he with ⟨r, hr, hg, he⟩ | ⟨c, hc, he⟩
  · have hw := ok.w1 r hr
    have q : ∀ n : Nat, n ≤ 2000 → 0 ≤ (n : Rat) / (r.w : Rat) ∧ (n : Rat) / (r.w : Rat) ≤ 5000 := fun n hn => by
      have h1 := div_le_self (a := (n : Rat)) Rat.natCast_nonneg (show 0 < r.w by omega)
      have h2 : ((n : Nat) : Rat) ≤ ((2000 : Nat) : Rat) := Rat.natCast_le_natCast.2 hn
      have h3 : ((2000 : Nat) : Rat) = 2000 := rfl
      exact ⟨div_nonneg Rat.natCast_nonneg (by omega), by grind⟩
    unfold evR at he
    rcases List.mem_cons.1 he with rfl | he
    · exact q _ (by have := ok.lo r hr; omega)
    · cases hm : r.hi with
      | none => rw [hm] at he; simp at he
      | some m => rw [hm] at he; rw [List.mem_singleton.1 he]; exact q _ (ok.hi r hr m hm).2
  · unfold evL at he
    split at he
    · simp at he
    · rename_i h0
      rw [List.mem_singleton.1 he]
      have hp := wsum_pos ok rising_sub h0
      obtain ⟨r, hr⟩ := List.exists_mem_of_ne_nil _ h0
      obtain ⟨h1, h2⟩ := List.mem_filter.1 hr
      simp only [Bool.and_eq_true] at h2
      have hg : get s r.name = none := by simpa using h2.1.2
      have a1 := h_le ok I h1 hg
      have a2 := I.h0
      have a3 := I.ld c hc
      have a4 := cap64 ok hc
      have a5 : 0 ≤ load N s h c.1 := by
        unfold load
        exact sum_nonneg fun q hq => by obtain ⟨r, _, rfl⟩ := List.mem_map.1 hq; exact val_nonneg I r
      have a6 : 0 ≤ (c.2 : Rat) - load N s h c.1 := by grind
      have a7 := div_le_self a6 hp
      have a8 := div_nonneg a6 hp
      exact ⟨by grind, by grind⟩
def minQ (a : Rat) (l : List Rat) : Rat := l.foldl (fun a e => if e < a then e else a) a
theorem minQ_spec : ∀ (l : List Rat) (a : Rat), (minQ a l = a ∨ minQ a l ∈ l) ∧ minQ a l ≤ a ∧ ∀ e ∈ l, minQ a l ≤ e
  | [], a => ⟨.inl rfl, Rat.le_refl, by simp⟩
  | x :: l, a => by
    have ih := minQ_spec l (if x < a then x else a)
    have e : minQ a (x :: l) = minQ (if x < a then x else a) l := rfl
    rw [e]
    obtain ⟨h1, h2, h3⟩ := ih
    by_cases hx : x < a
    · rw [if_pos hx] at h1 h2 h3 ⊢
      refine ⟨.inr (by rcases h1 with h | h <;> simp [h]), by grind, fun y hy => ?_⟩
      rcases List.mem_cons.1 hy with rfl | hy
      · exact h2
      · exact h3 y hy
    · rw [if_neg hx] at h1 h2 h3 ⊢
      refine ⟨by rcases h1 with h | h <;> simp [h], h2, fun y hy => ?_⟩
      rcases List.mem_cons.1 hy with rfl | hy
      · grind
      · exact h3 y hy
theorem minQ_mem {l : List Rat} {a : Rat} (ha : a ∈ l) : minQ a l ∈ l ∧ ∀ e ∈ l, minQ a l ≤ e := by
  obtain ⟨h1, h2, h3⟩ := minQ_spec l a
  exact ⟨h1.elim (fun e => by rw [e]; exact ha) id, h3⟩
theorem len_sub {β : Type} [DecidableEq β] : ∀ {l m : List β}, l.Nodup → (∀ x ∈ l, x ∈ m) → l.length ≤ m.length
  | [], _, _, _ => by simp
  | x :: l, m, hn, hs => by
    rw [List.nodup_cons] at hn
    have hx : x ∈ m := hs x (by simp)
    have ih := len_sub (l := l) (m := m.erase x) hn.2 fun y hy => (List.mem_erase_of_ne (fun e => hn.1 (by rw [← e]; exact hy))).2 (hs y (by simp [hy]))
    rw [List.length_erase_of_mem hx] at ih
    have : 0 < m.length := List.length_pos_of_mem hx
    rw [List.length_cons]; omega
theorem get_none {s : List (α × Rat)} {x : α} : get s x = none ↔ x ∉ s.map (·.1) := by
  unfold get
  rw [Option.map_eq_none_iff, List.find?_eq_none, List.mem_map]
  constructor
  · rintro h ⟨kv, hkv, rfl⟩; simpa using h kv hkv
  · intro h kv hkv; simp; exact fun e => h ⟨kv, hkv, e⟩
structure Tab (N : Net α) (s : List (α × Rat)) : Prop where
  nd : (s.map (·.1)).Nodup
  ks : ∀ x ∈ s.map (·.1), ∃ r ∈ N.rows, r.name = x
theorem Tab.keys {N : Net α} {s : List (α × Rat)} (t : Tab N s) : ∀ x q, get s x = some q → ∃ r ∈ N.rows, r.name = x := fun x q e => t.ks x (by
  cases Classical.em (x ∈ s.map (·.1)) with
  | inl h => exact h
  | inr h => rw [get_none.2 h] at e; cases e)
theorem put_keys {s : List (α × Rat)} {x : α} {q : Rat} : (put s x q).map (·.1) = if x ∈ s.map (·.1) then s.map (·.1) else s.map (·.1) ++ [x] := by
  unfold put
  by_cases h : (s.any fun kv => decide (kv.1 = x)) = true
  · rw [if_pos h, if_pos (by obtain ⟨kv, h1, h2⟩ := List.any_eq_true.1 h; exact List.mem_map.2 ⟨kv, h1, by simpa using h2⟩)]
    rw [List.map_map]
    exact List.map_congr_left fun kv _ => by dsimp only [Function.comp]; split <;> rfl
  · rw [if_neg h, if_neg (by rintro hx; obtain ⟨kv, h1, h2⟩ := List.mem_map.1 hx; exact h (List.any_eq_true.2 ⟨kv, h1, by simpa using h2⟩))]
    simp
theorem tab_put {N : Net α} {s : List (α × Rat)} (t : Tab N s) {r : Row α} (hr : r ∈ N.rows) {q : Rat} : Tab N (put s r.name q) := by
  refine ⟨?_, fun x hx => ?_⟩
  · rw [put_keys]
    split
    · exact t.nd
    · rename_i h
      rw [List.nodup_append]
      exact ⟨t.nd, by simp, fun a ha b hb e => h (by rw [List.mem_singleton.1 hb] at e; rw [← e]; exact ha)⟩
  · rw [put_keys] at hx
    split at hx
    · exact t.ks x hx
    · rcases List.mem_append.1 hx with hx | hx
      · exact t.ks x hx
      · exact ⟨r, hr, (List.mem_singleton.1 hx).symm⟩
theorem tab_stop {N : Net α} {s : List (α × Rat)} {h : Rat} (t : Tab N s) : Tab N (stop N s h) := by
  unfold stop
  have : ∀ (rs : List (Row α)) (s : List (α × Rat)), (∀ r ∈ rs, r ∈ N.rows) → Tab N s → Tab N (rs.foldl (fun acc r => put acc r.name (at_ r h)) s) := by
    intro rs
    induction rs with
    | nil => intro s _ t; exact t
    | cons r rs ih => intro s hs t; exact ih _ (fun q hq => hs q (by simp [hq])) (tab_put t (hs r (by simp)))
  exact this _ _ (fun r hr => (List.mem_filter.1 hr).1) t
end Fa
end
section
namespace Fa
variable {α : Type} [DecidableEq α]
def tot (N : Net α) (s : List (α × Rat)) (x : α) : Rat := sumQ ((N.rows.filter (onL x)).map fun r => (get s r.name).getD 0)
def Bott (N : Net α) (s : List (α × Rat)) (r : Row α) (q : Rat) : Prop := ∃ c ∈ N.wires, c.1 ∈ r.lines ∧ (∀ r' ∈ N.rows, c.1 ∈ r'.lines → ∃ q', get s r'.name = some q' ∧ (q' = (r'.lo : Rat) ∨ q' * (r.w : Rat) ≤ q * (r'.w : Rat))) ∧ tot N s c.1 = (c.2 : Rat)
structure FairS (N : Net α) (s : List (α × Rat)) : Prop where
  row : ∀ r ∈ N.rows, ∃ q, get s r.name = some q ∧ (r.lo : Rat) ≤ q ∧ (∀ m, r.hi = some m → q ≤ (m : Rat)) ∧ ((∃ m, r.hi = some m ∧ q = (m : Rat)) ∨ Bott N s r q)
  ld : ∀ c ∈ N.wires, tot N s c.1 ≤ (c.2 : Rat)
def key (s t : List (α × Rat)) (r : Row α) : Rat := let q := (get s r.name).getD 0; let p := (get t r.name).getD 0; (if q < p then q else p) / (r.w : Rat)
end Fa
end
section
namespace Fa
variable {α : Type} [DecidableEq α]
end Fa
end
section
namespace Fa
variable {α : Type} [DecidableEq α]
end Fa
end
section
namespace Fa
variable {α : Type} [DecidableEq α]
def mov (N : Net α) (s : List (α × Rat)) (x : α) : List (Row α) := N.rows.filter fun r => onL x r && (get s r.name).isNone
end Fa
end
section
namespace Fa
variable {α : Type} [DecidableEq α]
def shr (s : List (α × Rat)) (r : Row α) : Rat := (get s r.name).getD 0
def lvl (s : List (α × Rat)) (r : Row α) : Rat := shr s r / (r.w : Rat)
def above (s : List (α × Rat)) (r r' : Row α) : Bool := decide (lvl s r < lvl s r') && !decide (shr s r' = (r'.lo : Rat))
def holdsB (N : Net α) (s : List (α × Rat)) (c : α × Nat) (r : Row α) : Bool := decide (tot N s c.1 = (c.2 : Rat)) && !(N.rows.filter (onL c.1)).any (above s r)
def hold (N : Net α) (s : List (α × Rat)) (r : Row α) : List (α × Nat) := N.wires.filter fun c => onL c.1 r && holdsB N s c r
def topped (s : List (α × Rat)) (r : Row α) : Bool := match r.hi with
  | none => false
  | some m => decide (shr s r = (m : Rat))
theorem FairS.all {N : Net α} {s : List (α × Rat)} (h : FairS N s) : ∀ r ∈ N.rows, ∃ q, get s r.name = some q := fun r hr => by
  obtain ⟨q, e, _⟩ := h.row r hr
  exact ⟨q, e⟩
theorem tot_congr {N : Net α} {s t : List (α × Rat)} (h : ∀ r ∈ N.rows, get s r.name = get t r.name) (x : α) : tot N s x = tot N t x := by
  unfold tot
  congr 1
  exact List.map_congr_left fun r hr => by rw [h r (List.mem_filter.1 hr).1]
end Fa
end
section
namespace Fa
variable {α : Type} [DecidableEq α]
theorem get_rows {f : Row α → Rat} : ∀ {l : List (Row α)} {r : Row α}, (l.map Row.name).Nodup → r ∈ l → get (l.map fun r => (r.name, f r)) r.name = some (f r)
  | a :: l, r, hn, hr => by
    rw [List.map_cons, List.nodup_cons] at hn
    unfold get
    rw [List.map_cons, List.find?_cons]
    rcases List.mem_cons.1 hr with rfl | hr
    · simp
    · have : ¬ a.name = r.name := fun e => hn.1 (List.mem_map.2 ⟨r, hr, e.symm⟩)
      simp only [decide_eq_false this]
      exact get_rows hn.2 hr
theorem bott_congr {N : Net α} {s t : List (α × Rat)} (h : ∀ r ∈ N.rows, get s r.name = get t r.name) {r : Row α} {q : Rat} (b : Bott N s r q) : Bott N t r q := by
  obtain ⟨c, hc, hcr, ha, ht⟩ := b
  refine ⟨c, hc, hcr, fun r' hr' hx => ?_, by rw [← tot_congr h]; exact ht⟩
  obtain ⟨q', e, z⟩ := ha r' hr' hx
  exact ⟨q', by rw [← h r' hr']; exact e, z⟩
theorem FairS.congr {N : Net α} {s t : List (α × Rat)} (h : ∀ r ∈ N.rows, get s r.name = get t r.name) (f : FairS N s) : FairS N t := by
  refine ⟨fun r hr => ?_, fun c hc => by rw [← tot_congr h]; exact f.ld c hc⟩
  obtain ⟨q, e, h1, h2, h3⟩ := f.row r hr
  exact ⟨q, by rw [← h r hr]; exact e, h1, h2, h3.imp id (bott_congr h)⟩
theorem shr_get {s : List (α × Rat)} {r : Row α} {q : Rat} (h : get s r.name = some q) : shr s r = q := by unfold shr; rw [h]; rfl
theorem FairS.get {N : Net α} {s : List (α × Rat)} (h : FairS N s) {r : Row α} (hr : r ∈ N.rows) : get s r.name = some (shr s r) := by
  obtain ⟨q, e⟩ := h.all r hr
  rw [shr_get e, e]
theorem tot_shr {N : Net α} {s : List (α × Rat)} {x : α} : tot N s x = sumQ ((N.rows.filter (onL x)).map (shr s)) := rfl
end Fa
end
section
namespace Fa
variable {α : Type} [DecidableEq α]
theorem FairS.lo {N : Net α} {s : List (α × Rat)} (h : FairS N s) {r : Row α} (hr : r ∈ N.rows) : (r.lo : Rat) ≤ shr s r := by
  obtain ⟨q, e, h1, _⟩ := h.row r hr
  rw [shr_get e]; exact h1
theorem FairS.hi {N : Net α} {s : List (α × Rat)} (h : FairS N s) {r : Row α} (hr : r ∈ N.rows) {m : Nat} (hm : r.hi = some m) : shr s r ≤ (m : Rat) := by
  obtain ⟨q, e, _, h2, _⟩ := h.row r hr
  rw [shr_get e]; exact h2 m hm
theorem FairS.nn {N : Net α} {s : List (α × Rat)} (h : FairS N s) {r : Row α} (hr : r ∈ N.rows) : 0 ≤ shr s r := by
  have h1 := h.lo hr
  have h0 : (0 : Rat) ≤ (r.lo : Rat) := Rat.natCast_nonneg
  grind
def Held1 (N : Net α) (s : List (α × Rat)) (r : Row α) (c : α × Nat) : Prop := c.1 ∈ r.lines ∧ tot N s c.1 = (c.2 : Rat) ∧ ∀ r' ∈ N.rows, c.1 ∈ r'.lines → shr s r' = (r'.lo : Rat) ∨ shr s r' * (r.w : Rat) ≤ shr s r * (r'.w : Rat)
theorem FairS.of {N : Net α} {s : List (α × Rat)} (hg : ∀ r ∈ N.rows, Fa.get s r.name = some (shr s r)) (hl : ∀ r ∈ N.rows, (r.lo : Rat) ≤ shr s r) (hh : ∀ r ∈ N.rows, ∀ m, r.hi = some m → shr s r ≤ (m : Rat))
    (hw : ∀ r ∈ N.rows, (∃ m, r.hi = some m ∧ shr s r = (m : Rat)) ∨ ∃ c ∈ N.wires, Held1 N s r c) (hld : ∀ c ∈ N.wires, tot N s c.1 ≤ (c.2 : Rat)) : FairS N s := by
  refine ⟨fun r hr => ⟨shr s r, hg r hr, hl r hr, hh r hr, ?_⟩, hld⟩
  rcases hw r hr with z | ⟨c, hc, h1, h2, h3⟩
  · exact .inl z
  · exact .inr ⟨c, hc, h1, fun r' hr' hx => ⟨shr s r', hg r' hr', h3 r' hr' hx⟩, h2⟩
end Fa
end
section
namespace Fa
variable {α : Type} [DecidableEq α]
theorem name_inj {rs : List (Row α)} {r k : Row α} (hn : (rs.map Row.name).Nodup) (hr : r ∈ rs) (hk : k ∈ rs) (e : r.name = k.name) : r = k := by
  have h1 := find_name (p := fun _ => true) hn hr
  have h2 := find_name (p := fun _ => true) hn hk
  rw [e, h2] at h1
  simpa using h1.symm
section
variable {g : Row α → Row α} {N : Net α} {s t : List (α × Rat)} {k : Row α}
end
end Fa
end
section
namespace Fa
variable {α : Type} [DecidableEq α]
section
variable {N M : Net α} {P : Row α → Bool} {z : α} {cap : Nat} {s : List (α × Rat)}
end
end Fa
end
section
namespace Fa
variable {α : Type} [DecidableEq α]
section
variable {g : Row α → Row α} {N : Net α} {s t : List (α × Rat)} {k : Row α}
end
end Fa
end
section
namespace Fa
variable {α : Type} [DecidableEq α]
def gone (N : Net α) (r0 : Row α) (q : Nat) : Net α := ⟨N.wires.map fun c => (c.1, if onL c.1 r0 = true then c.2 - q else c.2), N.rows.filter fun r => decide (r.name ≠ r0.name)⟩
end Fa
end
section
namespace Fa
variable {α : Type} [DecidableEq α]
def maxQ (a : Rat) (l : List Rat) : Rat := l.foldl (fun a e => if a < e then e else a) a
def restL (s : List (α × Rat)) (r : Row α) : Rat := if shr s r = (r.lo : Rat) then 0 else lvl s r
def topL (N : Net α) (s : List (α × Rat)) (x : α) : Rat := maxQ 0 ((N.rows.filter (onL x)).map (restL s))
def fillL (N : Net α) (s : List (α × Rat)) (c : α × Nat) : Option Rat := if tot N s c.1 = (c.2 : Rat) then some (topL N s c.1) else none
def fillX (N : Net α) (s : List (α × Rat)) (x : α) : Option Rat := (N.wires.find? fun c => decide (c.1 = x)).bind (fillL N s)
def minL : List Rat → Rat
  | [] => 0
  | a :: l => minQ a (a :: l)
def hgt (N : Net α) (s : List (α × Rat)) (r : Row α) : Rat := if shr s r = (r.lo : Rat) then (if r.hi = some r.lo then 0 else minL (r.lines.filterMap (fillX N s))) else lvl s r
section
variable {N : Net α} {s f : List (α × Rat)} {h h' : Rat} {F : α → Rat}
def Sub (N : Net α) (s f : List (α × Rat)) : Prop := ∀ r ∈ N.rows, ∀ q, get s r.name = some q → get f r.name = some q
end
end Fa
end
section
namespace Fa
variable {α : Type} [DecidableEq α]
section
variable {N : Net α} {s f : List (α × Rat)} {h h' : Rat} {F : α → Rat}
structure Mo (N : Net α) (s : List (α × Rat)) (h : Rat) (fl : List α) (hs : List Rat) : Prop where
  asc : hs.Pairwise (· < ·)
  le : ∀ t ∈ hs, t ≤ h
  hit : ∀ f, Sub N s f → FairS N f → ∀ t ∈ hs, ∃ r ∈ N.rows, hgt N f r = t
  row : ∀ f, Sub N s f → FairS N f → ∀ r ∈ N.rows, get s r.name ≠ none → hgt N f r ∈ hs
  fl1 : ∀ x ∈ fl, ∃ c ∈ N.wires, c.1 = x ∧ ∀ f, Sub N s f → FairS N f → ∃ t ∈ hs, fillL N f c = some t
  fl2 : ∀ c ∈ N.wires, mov N s c.1 = [] → load N s h c.1 = (c.2 : Rat) → c.1 ∈ fl
  calm : hs ≠ [] → Calm N s h
end
end Fa
end
section
namespace Fa
variable {α : Type} [DecidableEq α]
section
variable {N : Net α} {s f : List (α × Rat)}
theorem minL_mem {l : List Rat} (h : l ≠ []) : minL l ∈ l ∧ ∀ u ∈ l, minL l ≤ u := by
  cases l with
  | nil => exact absurd rfl h
  | cons a l => exact minQ_mem (l := a :: l) (a := a) (by simp)
end
end Fa
end
section
namespace Fa
variable {α : Type} [DecidableEq α]
section
variable {N : Net α} {f : List (α × Rat)} {far : Nat}
end
end Fa
end
section
namespace Fa
variable {α : Type} [DecidableEq α]
def tabR (N : Net α) (g : Row α → Rat) : List (α × Rat) := N.rows.map fun r => (r.name, g r)
def ldF (N : Net α) (g : Row α → Rat) (x : α) : Rat := sumQ ((N.rows.filter (onL x)).map g)
structure Good (N : Net α) (g : Row α → Rat) : Prop where
  lo : ∀ r ∈ N.rows, (r.lo : Rat) ≤ g r
  hi : ∀ r ∈ N.rows, ∀ m, r.hi = some m → g r ≤ (m : Rat)
  ld : ∀ c ∈ N.wires, ldF N g c.1 ≤ (c.2 : Rat)
def setF (g : Row α → Rat) (x : α) (q : Rat) : Row α → Rat := fun r => if r.name = x then q else g r
section
variable {N : Net α} {g g' : Row α → Rat} {f : List (α × Rat)}
theorem get_tabR (ok : Ok N) {r : Row α} (hr : r ∈ N.rows) : get (tabR N g) r.name = some (g r) := get_rows ok.nd hr
theorem shr_tabR (ok : Ok N) {r : Row α} (hr : r ∈ N.rows) : shr (tabR N g) r = g r := shr_get (get_tabR ok hr)
theorem tabR_keys : (tabR N g).map (·.1) = N.rows.map Row.name := by unfold tabR; rw [List.map_map]; rfl
theorem tab_tabR (ok : Ok N) : Tab N (tabR N g) := ⟨by rw [tabR_keys]; exact ok.nd, fun x hx => by
  rw [tabR_keys] at hx
  obtain ⟨r, hr, e⟩ := List.mem_map.1 hx
  exact ⟨r, hr, e⟩⟩
theorem ldF_congr {x : α} (h : ∀ r ∈ N.rows, g r = g' r) : ldF N g x = ldF N g' x := by
  unfold ldF
  rw [List.map_congr_left fun r hr => h r (List.mem_filter.1 hr).1]
theorem Good.congr (h : ∀ r ∈ N.rows, g r = g' r) (G : Good N g) : Good N g' := ⟨fun r hr => by rw [← h r hr]; exact G.lo r hr, fun r hr m e => by rw [← h r hr]; exact G.hi r hr m e, fun c hc => by rw [← ldF_congr h]; exact G.ld c hc⟩
theorem tot_tabR (ok : Ok N) {x : α} : tot N (tabR N g) x = ldF N g x := by
  rw [tot_shr]
  unfold ldF
  rw [List.map_congr_left fun r hr => shr_tabR ok (List.mem_filter.1 hr).1]
theorem setF_at {r : Row α} {q : Rat} : setF g r.name q r = q := if_pos rfl
theorem setF_ne {r r' : Row α} {q : Rat} (h : r'.name ≠ r.name) : setF g r.name q r' = g r' := if_neg h
theorem ldF_set (ok : Ok N) {r : Row α} (hr : r ∈ N.rows) {q : Rat} {x : α} : ldF N (setF g r.name q) x = ldF N g x + (if x ∈ r.lines then q - g r else 0) := by
  unfold ldF
  have key : ∀ l : List (Row α), (l.map Row.name).Nodup → (∀ r' ∈ l, r' ∈ N.rows) → sumQ ((l.filter (onL x)).map (setF g r.name q)) = sumQ ((l.filter (onL x)).map g) + (if r.name ∈ l.map Row.name ∧ x ∈ r.lines then q - g r else 0) := fun l => by
    induction l with
    | nil => intro _ _; simp [sum_nil]; grind
    | cons a l ih =>
      intro hn hm
      rw [List.map_cons, List.nodup_cons] at hn
      have ih := ih hn.2 fun r' h => hm r' (by simp [h])
      by_cases he : a.name = r.name
      · have ea : a = r := by
          have h1 := hm a (by simp)
          exact name_inj ok.nd h1 hr he
        subst ea
        have h0 : ¬ (a.name ∈ l.map Row.name) := hn.1
        rw [if_neg (fun z => h0 z.1)] at ih
        by_cases hx : x ∈ a.lines
        · rw [List.filter_cons_of_pos (by simpa [onL] using hx), List.map_cons, List.map_cons, sum_cons, sum_cons, ih, setF_at, if_pos ⟨by simp, hx⟩]; grind
        · rw [List.filter_cons_of_neg (by simpa [onL] using hx), ih, if_neg fun z => hx z.2]
      · have hiff : (r.name ∈ (a :: l).map Row.name ∧ x ∈ r.lines) ↔ (r.name ∈ l.map Row.name ∧ x ∈ r.lines) := by
          rw [List.map_cons, List.mem_cons]
          exact ⟨fun z => ⟨z.1.resolve_left fun e => he e.symm, z.2⟩, fun z => ⟨.inr z.1, z.2⟩⟩
        simp only [hiff]
        by_cases hx : x ∈ a.lines
        · rw [List.filter_cons_of_pos (by simpa [onL] using hx), List.map_cons, List.map_cons, sum_cons, sum_cons, ih, setF_ne he]; grind
        · rw [List.filter_cons_of_neg (by simpa [onL] using hx), ih]
  rw [key N.rows ok.nd fun _ h => h]
  congr 1
  have : r.name ∈ N.rows.map Row.name := List.mem_map.2 ⟨r, hr, rfl⟩
  simp [this]
theorem Good.nn (G : Good N g) {r : Row α} (hr : r ∈ N.rows) : 0 ≤ g r := by
  have h1 := G.lo r hr
  have h2 : (0 : Rat) ≤ (r.lo : Rat) := Rat.natCast_nonneg
  grind
theorem Good.le_ld (G : Good N g) {r : Row α} (hr : r ∈ N.rows) {x : α} (hx : x ∈ r.lines) : g r ≤ ldF N g x := by
  unfold ldF
  refine sum_mem (fun q hq => ?_) (List.mem_map.2 ⟨r, List.mem_filter.2 ⟨hr, by simpa [onL] using hx⟩, rfl⟩)
  obtain ⟨r', hr', rfl⟩ := List.mem_map.1 hq
  exact G.nn (List.mem_filter.1 hr').1
theorem Good.bd (ok : Ok N) (G : Good N g) {r : Row α} (hr : r ∈ N.rows) : 0 ≤ g r ∧ g r ≤ 2000 := by
  obtain ⟨h1, h2⟩ := ok.ln r hr
  obtain ⟨x, hx⟩ := List.exists_mem_of_ne_nil _ h1
  obtain ⟨c, hc⟩ := h2 x hx
  have h3 := G.le_ld hr hx
  have h4 := G.ld _ hc
  have h5 : (c : Rat) ≤ ((2000 : Nat) : Rat) := Rat.natCast_le_natCast.2 (ok.cap _ hc)
  have e : ((2000 : Nat) : Rat) = 2000 := rfl
  exact ⟨G.nn hr, by grind⟩
def hiF (g : Row α → Rat) (r : Row α) : List Rat := match r.hi with
  | none => []
  | some m => [(m : Rat) - g r]
def gaps (N : Net α) (g : Row α → Rat) (r : Row α) (ws : List (α × Nat)) : List Rat := hiF g r ++ (ws.filter fun c => onL c.1 r).map fun c => (c.2 : Rat) - ldF N g c.1
def spare (N : Net α) (g : Row α → Rat) (r : Row α) : Rat := minL (gaps N g r N.wires)
theorem gaps_ne (ok : Ok N) {r : Row α} (hr : r ∈ N.rows) : gaps N g r N.wires ≠ [] := by
  obtain ⟨h1, h2⟩ := ok.ln r hr
  obtain ⟨x, hx⟩ := List.exists_mem_of_ne_nil _ h1
  obtain ⟨c, hc⟩ := h2 x hx
  intro e
  have := (List.append_eq_nil_iff.1 e).2
  have h3 : (x, c) ∈ N.wires.filter fun c => onL c.1 r := List.mem_filter.2 ⟨hc, by simpa [onL] using hx⟩
  rw [List.map_eq_nil_iff] at this
  rw [this] at h3
  simp at h3
theorem spare_le (ok : Ok N) {r : Row α} (hr : r ∈ N.rows) : (∀ m, r.hi = some m → spare N g r ≤ (m : Rat) - g r) ∧ (∀ c ∈ N.wires, c.1 ∈ r.lines → spare N g r ≤ (c.2 : Rat) - ldF N g c.1) := by
  have h := (minL_mem (gaps_ne (g := g) ok hr)).2
  refine ⟨fun m e => h _ ?_, fun c hc hx => h _ ?_⟩
  · refine List.mem_append_left _ ?_
    unfold hiF; rw [e]; simp
  · exact List.mem_append_right _ (List.mem_map.2 ⟨c, List.mem_filter.2 ⟨hc, by simpa [onL] using hx⟩, rfl⟩)
theorem Good.push (ok : Ok N) (G : Good N g) {r : Row α} (hr : r ∈ N.rows) {d : Rat} (hd : 0 ≤ d) (hd2 : d ≤ spare N g r) : Good N (setF g r.name (g r + d)) := by
  obtain ⟨s1, s2⟩ := spare_le (g := g) ok hr
  have hq : ∀ r' ∈ N.rows, r'.name = r.name → r' = r := fun r' hr' e => name_inj ok.nd hr' hr e
  refine ⟨fun r' hr' => ?_, fun r' hr' m e => ?_, fun c hc => ?_⟩
  · by_cases h : r'.name = r.name
    · rw [hq r' hr' h, setF_at]; have := G.lo r hr; grind
    · rw [setF_ne h]; exact G.lo r' hr'
  · by_cases h : r'.name = r.name
    · have := hq r' hr' h
      subst this
      rw [setF_at]; have := s1 m e; grind
    · rw [setF_ne h]; exact G.hi r' hr' m e
  · rw [ldF_set ok hr]
    have h1 := G.ld c hc
    by_cases hx : c.1 ∈ r.lines
    · rw [if_pos hx]; have := s2 c hc hx; grind
    · rw [if_neg hx]; grind
end
end Fa
end
section
namespace Fa
variable {α β : Type} [DecidableEq α] [DecidableEq β]
section
variable {φ ψ : β → α} {N : Net β} {s : List (β × Rat)} (hφ : ∀ a b, φ a = φ b → a = b) (hψ : ∀ a b, ψ a = ψ b → a = b)
include hφ in
include hψ in
include hψ in
include hψ in
include hφ in
include hφ in
include hφ hψ in
include hφ hψ in
include hφ hψ in
include hφ hψ in
include hφ hψ in
include hφ hψ in
include hφ hψ in
include hφ in
include hφ hψ in
end
end Fa
end
section
namespace Fa
variable {α : Type} [DecidableEq α]
end Fa
end
section
namespace Fa
def ascF : Nat → List Rat → List Rat
  | 0, _ => []
  | n + 1, l => if l = [] then [] else minL l :: ascF n (l.erase (minL l))
def asc (l : List Rat) : List Rat := ascF l.length l
variable {α : Type} [DecidableEq α]
variable {N : Net α} {g : Row α → Rat} {f : List (α × Rat)}
end Fa
end
section
namespace Fa
variable {α : Type} [DecidableEq α]
section
variable {N : Net α} {s t : List (α × Rat)} {x : α}
def wideW (N : Net α) (x : α) (m : Nat) : List (α × Nat) := N.wires.map fun c => (c.1, if c.1 = x then m else c.2)
end
end Fa
end
section
namespace Fa
variable {α : Type} [DecidableEq α]
section
variable {N M : Net α} {s t : List (α × Rat)}
end
end Fa
end
section
namespace Fa
variable {α : Type} [DecidableEq α]
section
variable {N M : Net α} {s t : List (α × Rat)}
end
end Fa
end
section
namespace Fa
variable {α : Type} [DecidableEq α]
section
variable {N M : Net α} {s t : List (α × Rat)}
end
end Fa
end
section
namespace Fa
variable {α : Type} [DecidableEq α]
section
variable {N M : Net α} {s t f : List (α × Rat)}
end
end Fa
end
section
namespace PD
open PySem L2
def encQ (q : Rat) : D := .tup [.int q.num, .int q.den]
def Bd (q : Rat) : Prop := q.num.natAbs < 2 ^ 4000 ∧ q.den < 2 ^ 4000
def esteps : Nat → Nat → Nat → Nat
  | 0, _, _ => 0
  | f + 1, a, b => if b = 0 then 0 else 1 + esteps f b (a % b)
def eN (a b : Nat) : Nat := esteps (2 * (b.log2 + 1) + 2) a b
open Fa
theorem Bd_of {k : Nat} {q : Rat} (h : DenL k q) (hk : k ≤ 38) (h1 : -(2 ^ 30 : Int) ≤ q) (h2 : q ≤ (2 ^ 30 : Int)) : Bd q := by
  obtain ⟨n, hn⟩ := h
  have hN : (LL ^ k : Nat) ≠ 0 := Nat.ne_of_gt (Nat.pow_pos (by decide))
  have hpos : (0 : Rat) < ((LL ^ k : Nat) : Rat) := Rat.natCast_pos.2 (by omega)
  have e : q = Rat.divInt n ((LL ^ k : Nat) : Int) := by
    rw [Rat.divInt_eq_div, Rat.intCast_natCast, ← hn]
    grind
  have hLk : LL ^ k ≤ 2 ^ 3914 := by
    refine Nat.le_trans (Nat.pow_le_pow_right (by decide) hk) ?_
    have : LL ≤ 2 ^ 103 := by decide
    refine Nat.le_trans (Nat.pow_le_pow_left this 38) ?_
    rw [← Nat.pow_mul]
    exact Nat.pow_le_pow_right (by decide) (by decide)
  have hnb : n.natAbs ≤ 2 ^ 30 * LL ^ k := by
    have a1 : (n : Rat) ≤ ((2 ^ 30 : Int) : Rat) * ((LL ^ k : Nat) : Rat) := by rw [← hn]; exact Rat.mul_le_mul_of_nonneg_right h2 (by grind)
    have a2 : ((-(2 ^ 30 : Int) : Int) : Rat) * ((LL ^ k : Nat) : Rat) ≤ (n : Rat) := by rw [← hn]; exact Rat.mul_le_mul_of_nonneg_right (by simpa using h1) (by grind)
    rw [← Rat.intCast_natCast, ← Rat.intCast_mul, Rat.intCast_le_intCast] at a1 a2
    generalize hM : LL ^ k = M at a1 a2 ⊢
    omega
  have big : 2 ^ 30 * 2 ^ 3914 < 2 ^ 4000 := by rw [← Nat.pow_add]; exact Nat.pow_lt_pow_right (by decide) (by decide)
  rw [e, Rat.divInt_ofNat]
  constructor
  · rw [Rat.num_mkRat, if_neg hN]
    have : (n / ((LL ^ k).gcd n.natAbs : Nat)).natAbs ≤ n.natAbs := Int.natAbs_ediv_le_natAbs _ _
    refine Nat.lt_of_le_of_lt this (Nat.lt_of_le_of_lt hnb (Nat.lt_of_le_of_lt (Nat.mul_le_mul_left _ hLk) big))
  · rw [Rat.den_mkRat, if_neg hN]
    refine Nat.lt_of_le_of_lt (Nat.div_le_self _ _) (Nat.lt_of_le_of_lt hLk ?_)
    exact Nat.pow_lt_pow_right (by decide) (by decide)
end PD
end
section
section
namespace Lw
open PySem L2 PD Fa
theorem okS_step {a b : PD.Env → RO} {δ : PD.Env} {Q : Out → PD.Env → Prop} (h : ∀ K : Out → PD.Env → Prop, (∀ δ', okE (b δ') Q → K .nx δ') → (∀ d δ', Q (.rt d) δ' → K (.rt d) δ') → okE (a δ) K) : okE (sseq a b δ) Q :=
  okS_seq (h _ (fun _ h => h) (fun _ _ h => h))
theorem enc_int (n : Int) : encQ (n : Rat) = .tup [.int n, .int 1] := by simp [encQ]
theorem enc_nat (n : Nat) : encQ (n : Rat) = .tup [.int n, .int 1] := by rw [← Rat.intCast_natCast, enc_int]
end Lw
end
section
namespace PD
open PySem L2 Fa
structure Sm (k : Nat) (q : Rat) : Prop where
  d : DenL k q
  l : -1000000 ≤ q
  u : q ≤ 1000000
theorem Sm.bd {k : Nat} {q : Rat} (h : Sm k q) (hk : k ≤ 38) : Bd q := by
  refine Bd_of h.d hk ?_ ?_
  · have := h.l
    have e : ((2 ^ 30 : Int) : Rat) = 1073741824 := rfl
    rw [e]; grind
  · have := h.u
    have e : ((2 ^ 30 : Int) : Rat) = 1073741824 := rfl
    rw [e]; grind
def encHi : Option Nat → D
  | none => .non
  | some m => .int m
def encRow (r : Row Str) : D := .tup [.str r.name, .tup (r.lines.map .str), .int r.w, .int r.lo, encHi r.hi]
def encWire (c : Str × Nat) : D := .tup [.str c.1, .int c.2]
def encNet (N : Net Str) : D := .tup [.tup (N.wires.map encWire), .tup (N.rows.map encRow)]
def encK (s : List (Str × Rat)) : List (Key × D) := s.map fun kv => (Sum.inr kv.1, encQ kv.2)
def encS (s : List (Str × Rat)) : D := .dic (encK s)
theorem find_enc {s : List (Str × Rat)} {x : Str} : ((encK s).find? fun kv => decide (kv.1 = .inr x)).map (·.2) = (get s x).map encQ := by
  unfold encK Fa.get
  induction s with
  | nil => rfl
  | cons kv s ih =>
    rw [List.map_cons, List.find?_cons, List.find?_cons]
    by_cases h : kv.1 = x
    · simp [h]
    · have e : decide ((Sum.inr kv.1 : Key) = .inr x) = false := by simp [h]
      simp only [e, decide_eq_false h]
      exact ih
@[simp] theorem dIx_enc {s : List (Str × Rat)} {x : Str} : dIx (encS s) (.str x) = (get s x).map encQ := find_enc
theorem in_enc {s : List (Str × Rat)} {x : Str} : inD (.str x) (encS s) = some (get s x).isSome := by
  show (some (Sum.inr x : Key)).map (fun k => (((encK s).find? fun kv => decide (kv.1 = k)).map (·.2)).isSome) = _
  rw [Option.map_some, find_enc]; simp
@[simp] theorem dIn_enc {s : List (Str × Rat)} {x : Str} : dIn (.str x) (encS s) = some (.bl (get s x).isSome) := by rw [dIn, in_enc]; rfl
@[simp] theorem keyOf_str {x : Str} : keyOf (.str x) = some (.inr x) := rfl
theorem encK_len {s : List (Str × Rat)} : (encK s).length = s.length := by simp [encK]
theorem inD_tup {x : Str} {ys : List Str} (hx : PyData.strOk x = true) (hy : ∀ x ∈ ys, PyData.strOk x = true) : inD (.str x) (.tup (ys.map D.str)) = some (decide (x ∈ ys)) := by
  have e1 : ∀ {xs : List Str}, toPys (xs.map D.str) = some (xs.map PyData.str) := fun {xs} => by
    induction xs with
    | nil => rfl
    | cons x xs ih => simp [toPys, toPy, ih]
  have e2 : ∀ {ys : List Str}, (ys.map PyData.str).any (fun z => PyData.eqv z (.str x)) = decide (x ∈ ys) := fun {ys} => by
    induction ys with
    | nil => rfl
    | cons y ys ih =>
      rw [List.map_cons, List.any_cons, ih, PyData.eqv]
      rw [Bool.eq_iff_iff]
      simp
      constructor
      · rintro (h | h)
        · exact .inl h.symm
        · exact .inr h
      · rintro (h | h)
        · exact .inl h.symm
        · exact .inr h
  have e3 : ∀ {xs : List Str}, (∀ x ∈ xs, PyData.strOk x = true) → PyData.canLayAll0 (xs.map PyData.str) = true := fun {xs} h => by
    induction xs with
    | nil => rfl
    | cons x xs ih => simp [PyData.canLayAll0, PyData.canLay0, h x (by simp), ih fun y hy => h y (by simp [hy])]
  have e4 : ∀ {xs : List Str}, PyData.depthAll (xs.map PyData.str) = 0 := fun {xs} => by
    induction xs with
    | nil => rfl
    | cons x xs ih => simp [PyData.depthAll, PyData.depth, ih]
  simp only [inD, toPy, e1, Option.bind_some, e2]
  rw [if_pos]
  simp [SeqAt.shaped, PyData.canLay0, PyData.depth, e3 hy, e4, hx]
def sle (a b : Str) : Prop := leD (.str a) (.str b) = true
structure NetOk (N : Net Str) : Prop where
  ok : Ok N
  rn : ∀ r ∈ N.rows, PyData.strOk r.name = true ∧ ∀ x ∈ r.lines, PyData.strOk x = true
  wn : ∀ c ∈ N.wires, PyData.strOk c.1 = true
  fw : N.wires.length ≤ 9
  ll : ∀ r ∈ N.rows, r.lines.length ≤ 100
  wa : (N.wires.map (·.1)).Pairwise sle
  ra : (N.rows.map Row.name).Pairwise sle
  la : ∀ r ∈ N.rows, r.lines.Sublist (N.wires.map (·.1))
theorem NetOk.dIn {N : Net Str} (h : NetOk N) {c : Str × Nat} (hc : c ∈ N.wires) {r : Row Str} (hr : r ∈ N.rows) : PD.dIn (.str c.1) (.tup (r.lines.map .str)) = some (.bl (onL c.1 r)) := by
  rw [PD.dIn, inD_tup (h.wn c hc) (h.rn r hr).2]; rfl
end PD
namespace Lw
open PySem L2 PD Fa
end Lw
end
section
namespace PD
open PySem L2 Fa
theorem okE_compR {β : Type} {enc : β → D} {vs : List Nat} {g : D → Env → Option Env} {t : Env → RE Bool} {e : Env → RE D} {δ : Env} {Q : List D → Env → Prop} (T : β → Bool) (F : β → D) : ∀ {bs : List β} {acc : List D}, (∀ b ∈ bs, okO (g (enc b) δ) fun δ1 => wipeD vs δ1 = δ ∧ okE (t δ1) fun k δ2 => k = T b ∧ δ2 = δ1 ∧ (T b = true → okE (e δ1) fun y δ3 => y = F b ∧ δ3 = δ1)) → acc.length + bs.length ≤ sizeLine →
    Q (acc ++ (bs.filter T).map F) δ → okE (scomp vs g t e (bs.map enc) acc δ) Q
  | [], acc, _, _, q => by simpa [scomp] using q
  | b :: bs, acc, h, hl, q => by
    rw [List.length_cons] at hl
    obtain ⟨δ1, e1, ew, k, δ2, e2, rfl, rfl, h3⟩ := h b List.mem_cons_self
    rw [List.map_cons]
    unfold scomp; rw [e1]; simp only []; rw [e2]
    cases ht : T b with
    | false =>
      simp only []
      rw [ew]
      exact okE_compR T F (fun x hx => h x (List.mem_cons_of_mem _ hx)) (by omega) (by rw [List.filter_cons_of_neg (by rw [ht]; simp)] at q; exact q)
    | true =>
      obtain ⟨y, δ3, e3, rfl, rfl⟩ := h3 ht
      simp only []
      rw [e3]; simp only []
      rw [if_pos (by omega), ew]
      refine okE_compR T F (fun x hx => h x (List.mem_cons_of_mem _ hx)) (by rw [List.length_append, List.length_singleton]; omega) ?_
      rw [List.filter_cons_of_pos ht] at q
      simpa using q
structure St (N : Net Str) (k : Nat) (s : List (Str × Rat)) (h : Rat) : Prop where
  I : Inv N s h
  d : Dn k s h
  hb : h ≤ 5000
  hk : k ≤ 36
  t : Tab N s
theorem sm_nat {k n : Nat} (h : n ≤ 100000) : Sm k (n : Rat) := by
  have h1 : (n : Rat) ≤ ((100000 : Nat) : Rat) := Rat.natCast_le_natCast.2 h
  have h2 : (0 : Rat) ≤ (n : Rat) := Rat.natCast_nonneg
  have e : ((100000 : Nat) : Rat) = 100000 := rfl
  exact ⟨.nat n, by grind, by grind⟩
section
variable {N : Net Str} {k : Nat} {s : List (Str × Rat)} {h : Rat}
theorem St.sh (st : St N k s h) : Sm k h := ⟨st.d.h, by have := st.I.h0; grind, by have := st.hb; grind⟩
theorem St.stop (st : St N k s h) (ok : Ok N) : St N k (Fa.stop N s h) h := ⟨(inv_stop ok st.I st.t.keys).1, dn_stop ok st.d, st.hb, st.hk, tab_stop st.t⟩
end
end PD
namespace Lw
open PySem L2 PD Fa
section
variable {N : Net Str} {k : Nat} {s : List (Str × Rat)} {h : Rat}
end
end Lw
end
section
namespace PD
open PySem L2 Fa
def pyQ (q : Rat) : PyData := .tuple [.int q.num, .int q.den]
theorem toPy_enc (q : Rat) : toPy (encQ q) = some (pyQ q) := by simp [encQ, toPy, toPys, pyQ]
theorem toPys_enc : ∀ {qs : List Rat}, toPys (qs.map encQ) = some (qs.map pyQ)
  | [] => rfl
  | q :: qs => by simp [toPys, toPy_enc, toPys_enc (qs := qs)]
theorem rat_ext {p q : Rat} : p = q ↔ p.num = q.num ∧ (p.den : Int) = q.den := by
  constructor
  · rintro rfl; exact ⟨rfl, rfl⟩
  · rintro ⟨h1, h2⟩; exact Rat.ext h1 (by omega)
theorem eqv_enc {p q : Rat} : PyData.eqv (pyQ p) (pyQ q) = decide (p = q) := by
  simp only [pyQ, PyData.eqv, PyData.eqvAll]
  rw [Bool.eq_iff_iff]
  simp [rat_ext]
theorem shaped_enc (q : Rat) : SeqAt.shaped (pyQ q) = true := by simp [pyQ, SeqAt.shaped, PyData.canLay0, PyData.canLayAll0, PyData.depth, PyData.depthAll]
@[simp] theorem dEq_enc {p q : Rat} : dEq (encQ p) (encQ q) = some (.bl (decide (p = q))) := by
  simp [dEq, eqD, toPy_enc, shaped_enc, eqv_enc]
theorem eqv_nil {ps : List PyData} : PyData.eqv (.list ps) (.list []) = ps.isEmpty := by
  cases ps <;> simp [PyData.eqv, PyData.eqvAll]
theorem ne_nil {xs : List D} {ps : List PyData} (h : toPys xs = some ps) (h1 : PyData.canLayAll0 ps = true) (h2 : PyData.depthAll ps ≤ 60) : dNe (.lst xs) (.lst []) = some (.bl (!xs.isEmpty)) := by
  have hl : ps.isEmpty = xs.isEmpty := by
    cases xs with
    | nil => cases h; rfl
    | cons x xs =>
      simp only [toPys, Option.bind_eq_some_iff, Option.map_eq_some_iff] at h
      obtain ⟨p, _, qs, _, rfl⟩ := h
      rfl
  have s1 : SeqAt.shaped (.list ps) = true := by simp [SeqAt.shaped, PyData.canLay0, h1, PyData.depth]; omega
  have s2 : SeqAt.shaped (.list []) = true := by decide
  simp only [dNe, eqD, toPy, h, Option.map_some, Option.bind_some, toPys, s1, s2, eqv_nil, hl]
  rfl
theorem lays_enc : ∀ {qs : List Rat}, PyData.canLayAll0 (qs.map pyQ) = true ∧ PyData.depthAll (qs.map pyQ) ≤ 1
  | [] => ⟨rfl, by simp [PyData.depthAll]⟩
  | q :: qs => by
    obtain ⟨h1, h2⟩ := lays_enc (qs := qs)
    refine ⟨by simp [PyData.canLayAll0, h1, pyQ, PyData.canLay0], ?_⟩
    simp only [List.map_cons, PyData.depthAll, pyQ, PyData.depth]
    simp; omega
@[simp] theorem ne_nilQ {qs : List Rat} : dNe (.lst (qs.map encQ)) (.lst []) = some (.bl (!qs.isEmpty)) := by
  rw [ne_nil toPys_enc lays_enc.1 (Nat.le_trans lays_enc.2 (by decide))]; simp
theorem ne_nilS {xs : List Str} (h : ∀ x ∈ xs, PyData.strOk x = true) : dNe (.lst (xs.map D.str)) (.lst []) = some (.bl (!xs.isEmpty)) := by
  have e1 : ∀ {xs : List Str}, toPys (xs.map D.str) = some (xs.map PyData.str) := fun {xs} => by
    induction xs with
    | nil => rfl
    | cons x xs ih => simp [toPys, toPy, ih]
  have e3 : ∀ {xs : List Str}, (∀ x ∈ xs, PyData.strOk x = true) → PyData.canLayAll0 (xs.map PyData.str) = true := fun {xs} h => by
    induction xs with
    | nil => rfl
    | cons x xs ih => simp [PyData.canLayAll0, PyData.canLay0, h x (by simp), ih fun y hy => h y (by simp [hy])]
  have e4 : ∀ {xs : List Str}, PyData.depthAll (xs.map PyData.str) = 0 := fun {xs} => by
    induction xs with
    | nil => rfl
    | cons x xs ih => simp [PyData.depthAll, PyData.depth, ih]
  rw [ne_nil e1 (e3 h) (by rw [e4]; decide)]; simp
theorem tab_len {N : Net Str} {s : List (Str × Rat)} (t : Tab N s) : s.length ≤ N.rows.length := by
  have := len_sub (l := s.map (·.1)) (m := N.rows.map Row.name) t.nd fun x hx => by
    obtain ⟨r, hr, rfl⟩ := t.ks x hx
    exact List.mem_map.2 ⟨r, hr, rfl⟩
  simpa using this
def rooms (N : Net Str) : List (Str × Rat) := N.wires.map fun c => (c.1, (c.2 : Rat))
theorem take_succ {β : Type} {l : List β} {i : Nat} {b : β} (h : l[i]? = some b) : l.take (i + 1) = l.take i ++ [b] := by rw [List.take_add_one, h]; rfl
end PD
namespace Lw
open PySem L2 PD Fa
section
variable {N : Net Str} {k : Nat} {s : List (Str × Rat)} {h : Rat}
theorem okE_cut {α : Type} {o : RE α} {Q : α → PD.Env → Prop} (h : ∀ K : α → PD.Env → Prop, (∀ a δ, Q a δ → K a δ) → okE o K) : okE o Q := h Q fun _ _ h => h
end
end Lw
end
section
namespace PD
open PySem L2 Fa
end PD
namespace Lw
open PySem L2 PD Fa
section
variable {N : Net Str} {k : Nat} {s : List (Str × Rat)} {h : Rat}
end
end Lw
end
section
namespace PD
open PySem L2 Fa
theorem nodup_inr {β : Type} {f : β → Str} {g : β → D} {l : List β} (h : (l.map f).Nodup) : ((l.map fun b => ((Sum.inr (f b) : Key), g b)).map (·.1)).Nodup := by
  rw [List.map_map]
  have : ((l.map f).map (Sum.inr : Str → Key)).Nodup := List.Pairwise.map _ (fun a b hab e => hab (by cases e; rfl)) h
  rwa [List.map_map] at this
@[simp] theorem dLen_enc {s : List (Str × Rat)} : dLen (encS s) = some (.int s.length) := by simp [encS, dLen, encK_len]
structure Shares (N : Net Str) (k : Nat) (s : List (Str × Rat)) : Prop where
  t : Tab N s
  all : ∀ r ∈ N.rows, ∃ q, get s r.name = some q
  sm : ∀ x q, get s x = some q → DenL k q ∧ 0 ≤ q ∧ q ≤ 2000
theorem St.next {N : Net Str} {k : Nat} {s : List (Str × Rat)} {h h' : Rat} (ok : Ok N) (st : St N k s h) (hk : k + 1 ≤ 36) (hm : h' ∈ later N (Fa.stop N s h) h) (hmin : ∀ e ∈ later N (Fa.stop N s h) h, h' ≤ e) : St N (k + 1) (Fa.stop N s h) h' ∧ P N (Fa.stop N s h) h' < P N s h := by
  have st1 := st.stop ok
  have hn := inv_next ok st1.I (calm_stop ok) hm hmin
  refine ⟨⟨hn.1, ⟨den_event ok st1.d (mem_later.1 hm).1, fun x q e => (st1.d.s x q e).mono (by omega)⟩, (event_bd ok st1.I (mem_later.1 hm).1).2, hk, st1.t⟩, P_less ok st.I st.t.keys hm hmin⟩
end PD
namespace Lw
open PySem L2 PD Fa
section
variable {N : Net Str}
end
end Lw
end
section
namespace Lw
open PySem L2 PD
structure Box (n : Nat) (B : List D) : Prop where
  is : ∃ a b e : Int, B = [.int a, .int b, .int e] ∧ 0 ≤ b ∧ b < 2 ^ 62 ∧ 0 ≤ e ∧ e ≤ n
theorem Box.mono {n m : Nat} {B : List D} (h : Box n B) (k : n ≤ m) : Box m B := by
  obtain ⟨a, b, e, r, h1, h2, h3, h4⟩ := h
  exact ⟨a, b, e, r, h1, h2, h3, by omega⟩
theorem take_ok {n : Nat} {B : List D} {m : Int} (hB : Box n B) (hn : n < 2 ^ 40) (hm : 0 < m) (hm2 : m < 2 ^ 60) : ∃ r B', d__law_take B [.int m] = some (r, B') ∧ ∃ i : Int, r = .int i ∧ 0 ≤ i ∧ i < m ∧ Box (n + 1) B' := by
  obtain ⟨a, b, e, rfl, h1, h2, h3, h4⟩ := hB
  refine denB_ok rfl ?_
  by_cases ha : 0 < a
  · simp [ha, dMod_ok hm, dFdiv_ok hm (show m < 2 ^ 200 by omega)]
    exact ⟨(fmod_bd hm).1, (fmod_bd hm).2, ⟨_, _, _, rfl, h1, h2, h3, by omega⟩⟩
  · simp [ha]
    rw [dMul_r (by omega) (by omega)]; simp
    rw [dMul_r (by omega) (by omega)]; simp
    rw [dMod_ok (by decide)]; simp
    rw [dMod_ok (by decide)]; simp
    rw [dFdiv_ok (by decide) (by decide)]; simp
    generalize hx : ((b + 48271 * (e + 1)) * (39373 + (e + 1))).fmod 2147483647 = x
    have hb := fmod_bd (i := x) (j := 40009) (by decide)
    rw [dMul_r (by omega) (by omega)]; simp
    rw [dMod_ok (by decide)]; simp
    rw [dMul_r (by omega) (by omega)]; simp
    rw [dMod_ok (by decide)]; simp
    rw [dFdiv_ok (by decide) (by decide)]; simp
    rw [dMod_ok hm]; simp
    exact ⟨(fmod_bd hm).1, (fmod_bd hm).2, ⟨_, _, _, rfl, h1, h2, by omega, by omega⟩⟩
theorem okO_take {n : Nat} {B : List D} {m : Int} {Q : D × List D → Prop} (hB : Box n B) (hn : n < 2 ^ 40) (hm : 0 < m) (hm2 : m < 2 ^ 60) (q : ∀ (i : Int) B', 0 ≤ i → i < m → Box (n + 1) B' → Q (.int i, B')) : okO (d__law_take B [.int m]) Q := by
  obtain ⟨r, B', e, i, rfl, h1, h2, h3⟩ := take_ok hB hn hm hm2
  rw [e, okO_some]; exact q i B' h1 h2 h3
theorem okO_of {n : Nat} {B : List D} {xs : List D} {Q : D × List D → Prop} (hB : Box n B) (hn : n < 2 ^ 40) (h0 : xs ≠ []) (hl : xs.length < 2 ^ 60) (q : ∀ d B', d ∈ xs → Box (n + 1) B' → Q (d, B')) : okO (d__law_of B [.lst xs]) Q := by
  have h : ∃ d B', d__law_of B [.lst xs] = some (d, B') ∧ (d ∈ xs ∧ Box (n + 1) B') := by
    refine denB_ok rfl ?_
    simp
    have h1 : 0 < xs.length := List.length_pos_iff.2 h0
    refine okO_take hB hn (by omega) (by omega) fun i B' h1 h2 h3 => ?_
    obtain ⟨k, rfl⟩ := Int.eq_ofNat_of_zero_le h1
    have hk : k < xs.length := by omega
    simp [hk]
    exact h3
  obtain ⟨d, B', e, h1, h2⟩ := h
  rw [e, okO_some]; exact q d B' h1 h2
end Lw
namespace Lw
open PySem L2 PD
theorem enumD_get : ∀ {xs : List D} {k i : Nat} {d : D}, (enumD k xs)[i]? = some d → ∃ x, xs[i]? = some x ∧ d = .npt [.int ((k + i : Nat) : Int), x]
  | x :: xs, k, 0, d, h => by cases h; exact ⟨x, rfl, rfl⟩
  | x :: xs, k, i + 1, d, h => by
    obtain ⟨y, h1, rfl⟩ := enumD_get (xs := xs) (k := k + 1) (i := i) h
    exact ⟨y, h1, by rw [show k + 1 + i = k + (i + 1) by omega]⟩
theorem cut_take {xs : List D} {k : Nat} : cutD xs none (some (k : Int)) = xs.take k := by
  unfold cutD
  rw [HT.sIx_nat, HT.sIx_none, Nat.sub_zero, List.drop_zero]
  by_cases h : k ≤ xs.length
  · rw [Nat.min_eq_left h]
  · rw [Nat.min_eq_right (by omega), List.take_of_length_le (Nat.le_refl _), List.take_of_length_le (by omega)]
theorem cut_drop {xs : List D} {k j : Nat} : ∃ ys, cutD xs (some (k : Int)) (some (j : Int)) = ys ∧ ys.length ≤ xs.length - k ∧ ∀ y ∈ ys, y ∈ xs := by
  refine ⟨_, rfl, ?_, ?_⟩
  · unfold cutD
    rw [HT.sIx_nat, HT.sIx_nat]
    simp; omega
  · unfold cutD
    intro y hy
    exact List.mem_of_mem_drop (List.mem_of_mem_take hy)
theorem cells_loop {S : D} {k : Nat} {is : List Int} {ys : List D} (hy : ∀ y ∈ ys, ∃ i : Int, y = .int i) (hl : ys.length ≤ 63) (hk : 0 < k) (h : ys = [] ∨ is.length = k) {Q : Out → PD.Env → Prop} {a b e : Option D}
    (q : ∀ (is' : List Int) a b e, is'.length = is.length → Q .nx [some S, some (.int k), some (.lst (is'.map .int)), a, b, e]) :
    okE (sfor (gt (gscons (gn 3) (gscons (gn 4) gsnil)))
                    (sseq (sset 5 (lf [2] (op2 dMod (vcallB (one dInt) (acons (v 3) anil)) (v 1))))
                      (sixset 2 (lf [2] (v 5))
                        (lfo (op2 dAdd (op2 dIx (v 2) (v 5)) (op2 dMul (v 4) (op2 dAdd (v 3) (c (D.int 2))))))))
                    (enumD 0 ys) [some S, some (D.int k), some (.lst (is.map .int)), a, b, e]) Q := by
  refine okS_for (fun _ δ => ∃ (is' : List Int) (a b e : Option D), δ = [some S, some (.int k), some (.lst (is'.map .int)), a, b, e] ∧ is'.length = is.length) (n := 0) ⟨is, a, b, e, rfl, rfl⟩ ?_ ?_
  · rintro i d δ hi ⟨is', a, b, e, rfl, hl'⟩
    obtain ⟨x, hx, rfl⟩ := enumD_get hi
    obtain ⟨x, rfl⟩ := hy x (List.mem_of_getElem? hx)
    have hi2 : i < ys.length := by
      rcases Nat.lt_or_ge i ys.length with h | h
      · exact h
      · rw [List.getElem?_eq_none h] at hx; cases hx
    have hk2 : is'.length = k := by
      rcases h with h | h
      · subst h; simp at hi2
      · omega
    refine ⟨_, rfl, ?_⟩
    simp
    rw [dMod_ok (by omega)]; simp
    have hm := fmod_bd (i := (i : Int)) (j := k) (by omega)
    obtain ⟨j, hj⟩ := Int.eq_ofNat_of_zero_le hm.1
    rw [hj] at hm ⊢
    have hjk : j < is'.length := by omega
    simp [hjk]
    rw [dMul_r (by omega) (by omega)]; simp
    rw [ixN_lt (by omega) (by omega)]; simp
    exact ⟨is'.set j (is'[j] + x * (i + 2)), by simp, by simp [hl']⟩
  · rintro δ ⟨is', a, b, e, rfl, hl'⟩
    exact q is' a b e hl'
theorem cells_ok {ns : List Int} (hl : ns.length ≤ 63) {k : Nat} (hk : 0 < k) : okR (d__law_cells [.scr (ns.map D.int), .int k]) fun d => ∃ is : List Int, d = .lst (is.map D.int) ∧ 0 < is.length ∧ is.length ≤ k := by
  refine den_ok rfl ?_
  obtain ⟨ys, hy, hy1, hy2⟩ := cut_drop (xs := ns.map D.int) (k := k) (j := 63)
  have hs : dSl (.scr (ns.map D.int)) (some (k : Int)) (some 63) = some (.lst ys) := by rw [← hy]; rfl
  have hy3 : ∀ y ∈ ys, ∃ i : Int, y = .int i := fun y h => by
    obtain ⟨i, _, e⟩ := List.mem_map.1 (hy2 y h)
    exact ⟨i, e.symm⟩
  rw [List.length_map] at hy1
  simp [hs, show dSl (.scr (ns.map D.int)) none (some (k : Int)) = some (.lst ((ns.take k).map D.int)) by rw [List.map_take, ← cut_take]; rfl]
  split
  · rename_i h0
    refine ⟨sz (by omega), ?_⟩
    have hn : ns = [] := by
      rcases h0 with h | h
      · omega
      · exact h
    have : ys = [] := by apply List.length_eq_zero_iff.1; subst hn; simpa using hy1
    exact cells_loop (is := [0]) hy3 (by omega) hk (.inl this) fun is' a b e h => by simp [bxIn]; exact ⟨is', rfl, by simp at h; omega, by simp at h; omega⟩
  · rename_i h0
    have h1 : 0 < ns.length := by
      apply List.length_pos_iff.2
      intro h; exact h0 (.inr h)
    rw [← List.map_take]
    refine cells_loop (is := ns.take k) hy3 (by omega) hk ?_ fun is' a b e h => by simp [bxIn]; exact ⟨is', rfl, by simp at h; omega, by simp at h; omega⟩
    by_cases h : ns.length ≤ k
    · exact .inl (List.length_eq_zero_iff.1 (by omega))
    · exact .inr (by simp; omega)
theorem box_ok {is : List Int} {k : Nat} (hk : k < is.length) (hk2 : is.length ≤ 9) : okR (d__law_box [.lst (is.map D.int), .int k]) fun d => ∃ B, d = .lst B ∧ Box 0 B := by
  refine denN_ok rfl (okE_rseq ?_)
  simp [hk]
  rw [show dPow (.int 10) (.int 18) = some (.int (10 ^ 18)) from rfl]; simp
  rw [dMul_r (by split <;> omega) (by split <;> omega)]; simp
  rw [dMod_ok (by decide)]; simp
  rw [dMul_r (by omega) (by omega)]; simp
  have hm := fmod_bd (i := is[k]) (j := 2305843009213693951) (by decide)
  exact ⟨sz (by omega), ⟨_, _, _, rfl, by omega, by omega, by omega, by omega⟩⟩
theorem lt_of_get {α : Type} {xs : List α} {i : Nat} {d : α} (h : xs[i]? = some d) : i < xs.length := by
  rcases Nat.lt_or_ge i xs.length with h1 | h1
  · exact h1
  · rw [List.getElem?_eq_none h1] at h; cases h
end Lw
end
section
namespace PD
open PySem L2 Fa
theorem alike_strs : ∀ {xs ys : List Str}, W.alikeAll (xs.map PyData.str) (ys.map PyData.str) = true
  | [], _ => by cases ‹List Str› <;> simp [W.alikeAll]
  | _ :: _, [] => by simp [W.alikeAll]
  | x :: xs, y :: ys => by simp [W.alikeAll, W.alike, alike_strs (xs := xs) (ys := ys)]
theorem erase_perm {α : Type} : ∀ {xs : List α} {i : Nat} (h : i < xs.length), (xs[i] :: xs.eraseIdx i).Perm xs
  | x :: xs, 0, _ => .refl _
  | x :: xs, i + 1, h => by
    have := erase_perm (xs := xs) (i := i) (by simpa using h)
    simp only [List.getElem_cons_succ, List.eraseIdx_cons_succ]
    exact (List.Perm.swap _ _ _).trans (this.cons x)
theorem map_eraseIdx {α β : Type} {f : α → β} : ∀ (xs : List α) (i : Nat), (xs.eraseIdx i).map f = (xs.map f).eraseIdx i
  | [], _ => rfl
  | _ :: _, 0 => rfl
  | x :: xs, i + 1 => by simp [map_eraseIdx xs i]
theorem nodup_inj {α β : Type} {f : α → β} : ∀ {xs : List α} {x y : α}, (xs.map f).Nodup → x ∈ xs → y ∈ xs → f x = f y → x = y
  | [], _, _, _, h, _, _ => by simp at h
  | z :: xs, x, y, hn, hx, hy, e => by
    rw [List.map_cons, List.nodup_cons] at hn
    rcases List.mem_cons.1 hx with rfl | hx
    · rcases List.mem_cons.1 hy with rfl | hy
      · rfl
      · exact absurd (List.mem_map.2 ⟨y, hy, e.symm⟩) hn.1
    · rcases List.mem_cons.1 hy with h | hy
      · rw [h] at e; exact absurd (List.mem_map.2 ⟨x, hx, e⟩) hn.1
      · exact nodup_inj hn.2 hx hy e
theorem perm_unmap {α β : Type} {f : α → β} {xs ys : List β} (h : xs.Perm ys) : ∀ {l : List α}, ys = l.map f → ∃ S : List α, xs = S.map f ∧ S.Perm l := by
  induction h with
  | nil => intro l e; exact ⟨l, e, .refl _⟩
  | cons x _ ih =>
    intro l e
    cases l with
    | nil => cases e
    | cons a l =>
      rw [List.map_cons, List.cons.injEq] at e
      obtain ⟨S, rfl, p⟩ := ih e.2
      exact ⟨a :: S, by rw [List.map_cons, e.1], p.cons a⟩
  | swap x y l' =>
    intro l e
    match l, e with
    | [], e => cases e
    | [_], e => cases e
    | a :: b :: l, e =>
      simp only [List.map_cons, List.cons.injEq] at e
      exact ⟨b :: a :: l, by simp [e], .swap _ _ _⟩
  | trans _ _ h1 h2 =>
    intro l e
    obtain ⟨S, rfl, p⟩ := h2 e
    obtain ⟨S', rfl, p'⟩ := h1 rfl
    exact ⟨S', rfl, p'.trans p⟩
theorem toPys_map2 {α : Type} {f : α → D} {g : α → PyData} (h : ∀ a, toPy (f a) = some (g a)) : ∀ {l : List α}, toPys (l.map f) = some (l.map g)
  | [] => rfl
  | a :: l => by simp [toPys, h, toPys_map2 h (l := l)]
theorem toPys_strs {xs : List Str} : toPys (xs.map D.str) = some (xs.map PyData.str) := toPys_map2 fun _ => rfl
theorem dep_strs : ∀ {xs : List Str}, PyData.depthAll (xs.map PyData.str) = 0
  | [] => rfl
  | x :: xs => by simp [PyData.depthAll, PyData.depth, dep_strs (xs := xs)]
theorem leD_first {a b : Str} {xs ys : List D} {ps qs : List PyData} (h : a ≠ b) (hx : toPys xs = some ps) (hy : toPys ys = some qs) : leD (.tup (.str a :: xs)) (.tup (.str b :: ys)) = leD (.str a) (.str b) := by
  have e1 : pyOf (.tup (.str a :: xs)) = .tuple (.str a :: ps) := by simp [pyOf, toPy, toPys, hx]
  have e2 : pyOf (.tup (.str b :: ys)) = .tuple (.str b :: qs) := by simp [pyOf, toPy, toPys, hy]
  have e3 : pyOf (.str a) = .str a := rfl
  have e4 : pyOf (.str b) = .str b := rfl
  unfold leD
  rw [W.dataLe_eq]
  simp only [cond_false, e1, e2, e3, e4]
  rw [W.dataLt_tuple, W.dataLt_cons (by simp [W.alike]), if_neg (by simp [PyData.eqv]; exact fun z => h z.symm)]
theorem asc_first {α : Type} {f : α → Str} {g : α → List D} {ps : α → List PyData} (hg : ∀ a, toPys (g a) = some (ps a)) {S : List α} (hn : (S.map f).Nodup) (h : (S.map fun a => D.tup (.str (f a) :: g a)).Pairwise fun a b => leD a b = true) : (S.map f).Pairwise sle := by
  induction S with
  | nil => exact .nil
  | cons a S ih =>
    rw [List.map_cons, List.nodup_cons] at hn
    rw [List.map_cons, List.pairwise_cons] at h ⊢
    refine ⟨fun y hy => ?_, ih hn.2 h.2⟩
    obtain ⟨b, hb, rfl⟩ := List.mem_map.1 hy
    have := h.1 _ (List.mem_map.2 ⟨b, hb, rfl⟩)
    rw [leD_first (fun z => hn.1 (List.mem_map.2 ⟨b, hb, z.symm⟩)) (hg a) (hg b)] at this
    exact this
theorem sorted_wires {F : List (Str × Nat)} (hn : (F.map (·.1)).Nodup) : ∃ S : List (Str × Nat), dSorted2 (.lst (F.map encWire)) = some (.lst (S.map encWire)) ∧ S.Perm F ∧ (S.map (·.1)).Pairwise sle := by
  have e : toPys (F.map encWire) = some (F.map fun c => .tuple [.str c.1, .int c.2]) := toPys_map2 fun c => by simp [encWire, toPy, toPys]
  have hs : sortOk (F.map fun c => .tuple [.str c.1, .int c.2]) = true := by
    unfold sortOk
    rw [Bool.and_eq_true, Bool.or_eq_true]
    refine ⟨List.all_eq_true.2 fun p hpp => ?_, .inl (Bool.and_eq_true_iff.2 ⟨List.all_eq_true.2 fun p hpp => ?_, List.all_eq_true.2 fun p hpp => List.all_eq_true.2 fun q hqq => ?_⟩)⟩
    · obtain ⟨c, _, rfl⟩ := List.mem_map.1 hpp; simp [PyData.depth, PyData.depthAll, nodict, nodicts]
    · obtain ⟨c, _, rfl⟩ := List.mem_map.1 hpp; rfl
    · obtain ⟨c, _, rfl⟩ := List.mem_map.1 hpp
      obtain ⟨c', _, rfl⟩ := List.mem_map.1 hqq
      simp [itemsOf, lexOk, W.alike]
  obtain ⟨S, e1, p⟩ := perm_unmap (isort_permD (F.map encWire)) rfl
  refine ⟨S, ?_, p, asc_first (g := fun c => [.int c.2]) (ps := fun c => [.int c.2]) (fun c => by simp [toPys, toPy]) ((p.map _).nodup_iff.2 hn) (by have := isort_sorted leD_total (F.map encWire); rw [e1] at this; exact this)⟩
  rw [← e1]
  simp [dSorted2, dSorted, sortD, e, hs]
def pyHi : Option Nat → PyData
  | none => .none
  | some m => .int m
def pyRow (r : Row Str) : PyData := .tuple [.str r.name, .tuple (r.lines.map PyData.str), .int r.w, .int r.lo, pyHi r.hi]
theorem toPy_row (r : Row Str) : toPy (encRow r) = some (pyRow r) := by
  unfold encRow pyRow
  cases r.hi <;> simp [toPy, toPys, toPys_strs, encHi, pyHi]
theorem nodicts_strs : ∀ {ls : List Str}, nodicts (ls.map PyData.str) = true
  | [] => rfl
  | x :: ls => by simp [nodicts, nodict, nodicts_strs (ls := ls)]
def pyHi' (r : Row Str) : List PyData := [.tuple (r.lines.map PyData.str), .int r.w, .int r.lo, pyHi r.hi]
theorem sorted_rows {R : List (Row Str)} (hn : (R.map Row.name).Nodup) : ∃ S : List (Row Str), dSorted2 (.lst (R.map encRow)) = some (.lst (S.map encRow)) ∧ S.Perm R ∧ (S.map Row.name).Pairwise sle := by
  have e : toPys (R.map encRow) = some (R.map pyRow) := toPys_map2 toPy_row
  have hs : sortOk (R.map pyRow) = true := by
    unfold sortOk
    rw [Bool.and_eq_true, Bool.or_eq_true]
    refine ⟨List.all_eq_true.2 fun p hpp => ?_, .inl (Bool.and_eq_true_iff.2 ⟨List.all_eq_true.2 fun p hpp => ?_, List.all_eq_true.2 fun p hpp => List.all_eq_true.2 fun q hqq => ?_⟩)⟩
    · obtain ⟨c, _, rfl⟩ := List.mem_map.1 hpp
      unfold pyRow
      cases c.hi <;> simp [PyData.depth, PyData.depthAll, nodict, nodicts, nodicts_strs, dep_strs, pyHi]
    · obtain ⟨c, _, rfl⟩ := List.mem_map.1 hpp; rfl
    · obtain ⟨x, hx, rfl⟩ := List.mem_map.1 hpp
      obtain ⟨y, hy, rfl⟩ := List.mem_map.1 hqq
      by_cases hss : x.name = y.name
      · cases nodup_inj hn hx hy hss
        unfold pyRow
        cases x.hi <;> simp [itemsOf, lexOk, W.alike, alike_strs, pyHi]
      · simp [pyRow, itemsOf, lexOk, W.alike, PyData.eqv, hss]
  obtain ⟨S, e1, p⟩ := perm_unmap (isort_permD (R.map encRow)) rfl
  refine ⟨S, ?_, p, asc_first (g := fun r : Row Str => [.tup (r.lines.map .str), .int r.w, .int r.lo, encHi r.hi]) (ps := pyHi') (fun r => by unfold pyHi'; cases r.hi <;> simp [toPy, toPys, toPys_strs, encHi, pyHi]) ((p.map _).nodup_iff.2 hn) (by have := isort_sorted leD_total (R.map encRow); rw [e1] at this; exact this)⟩
  rw [← e1]
  simp [dSorted2, dSorted, sortD, e, hs]
end PD
namespace Lw
open PySem L2 PD Fa
def nm6 : List Str := ["a", "b", "c", "d", "ab", "k"]
def nm9 : List Str := ["p", "q", "r", "s", "t", "u", "ab", "z", "x"]
theorem nm6_ok : ∀ s ∈ nm6, PyData.strOk s = true := by decide +kernel
theorem nm9_ok : ∀ s ∈ nm9, PyData.strOk s = true := by decide +kernel
theorem nm6_nd : nm6.Nodup := by decide +kernel
theorem nm9_nd : nm9.Nodup := by decide +kernel
def OnS (S : List (Str × Nat)) (s : Str) : Prop := ∃ c ∈ S, c.1 = s
def WireOk (c : Str × Nat) : Prop := c.1 ∈ nm6 ∧ 1 ≤ c.2 ∧ c.2 ≤ 12
def AllW (F : List (Str × Nat)) : Prop := ∀ f ∈ F, WireOk f
structure RowOk (S : List (Str × Nat)) (r : Row Str) : Prop where
  n : r.name ∈ nm9
  l0 : r.lines ≠ []
  ll : r.lines.length ≤ 6
  ln : ∀ x ∈ r.lines, ∃ c ∈ S, c.1 = x
  ls : r.lines.Sublist (S.map (·.1))
  w1 : 1 ≤ r.w
  w2 : r.w ≤ 3
  lo : r.lo ≤ 2
  hi : ∀ m, r.hi = some m → 1 ≤ m ∧ r.lo ≤ m ∧ m ≤ 5
structure Drawn (N : Net Str) : Prop where
  wd : (N.wires.map (·.1)).Nodup
  ws : ∀ c ∈ N.wires, WireOk c
  nd : (N.rows.map Row.name).Nodup
  rs : ∀ r ∈ N.rows, RowOk N.wires r
  wa : (N.wires.map (·.1)).Pairwise sle
  ra : (N.rows.map Row.name).Pairwise sle
set_option maxHeartbeats 2000000 in
theorem drawn_ok {n : Nat} {B : List D} {w m k : Nat} (hB : Box n B) (hn : n < 2 ^ 30) (hw : 1 ≤ w) (hw2 : w ≤ 6) (hm : m ≤ 9) : ∃ d B', d__law_drawn_net B [.int w, .int m, .int k] = some (d, B') ∧ ∃ N, d = encNet N ∧ N.wires.length = w ∧ N.rows.length = m ∧ Drawn N ∧ Box (n + 1000) B' := by
  refine denB_ok rfl ?_
  simp
  refine ⟨sz (by omega), by omega, ?_⟩
  refine okS_for (fun i δ => ∃ (L : List Str) (F : List (Str × Nat)) (B : List D) (x : Option D), δ = [some (.lst B), some (.int w), some (.int m), some (.int k), some (.lst (L.map D.str)), some (.lst (F.map encWire)), x, none, none, none, none, none, none, none] ∧ i ≤ w ∧ L.length = 6 - i ∧ F.length = i ∧ Box (n + 2 * i) B ∧ (∀ s ∈ L, s ∈ nm6) ∧ AllW F ∧ (F.map (·.1) ++ L).Nodup) (n := 0) ⟨nm6, [], B, none, rfl, by omega, rfl, rfl, hB, fun _ h => h, fun _ h => by simp at h, nm6_nd⟩ ?_ ?_
  · rintro i d δ hi ⟨L, F, B, x, rfl, h1, h2, h3, h4, h5, h6, h7⟩
    rw [Nat.zero_add] at *
    have hi2 := lt_of_get hi
    rw [show (rng 0 (w : Int)).length = w by simp [rng]] at hi2
    refine ⟨_, rfl, ?_⟩
    simp [flat]
    refine okO_take h4 (by omega) (by omega) (by omega) fun j B1 j0 j1 hB1 => ?_
    obtain ⟨j, rfl⟩ := Int.eq_ofNat_of_zero_le j0
    have hj : j < L.length := by omega
    simp [hj]
    refine ⟨by omega, okO_take hB1 (by omega) (by omega) (by omega) fun e B2 e0 e1 hB2 => ?_⟩
    obtain ⟨e, rfl⟩ := Int.eq_ofNat_of_zero_le e0
    simp
    refine ⟨sz (by omega), Nat.lt_of_lt_of_le (show F.length < 100 by omega) (sz (by omega)), L.eraseIdx j, F ++ [(L[j], 1 + e)], B2, ⟨rfl, ?_, ?_⟩, by omega, ?_, by simp [h3], ?_, ?_, ?_, ?_⟩
    · exact (PD.map_eraseIdx _ _).symm
    · simp [encWire]
    · rw [List.length_eraseIdx_of_lt hj]; omega
    · exact hB2.mono (by omega)
    · exact fun s hs => h5 s (List.mem_of_mem_eraseIdx hs)
    · intro f hf
      rcases List.mem_append.1 hf with hf | hf
      · exact h6 f hf
      · rw [List.mem_singleton.1 hf]
        exact ⟨h5 _ (List.getElem_mem _), by show 1 ≤ 1 + e; omega, by show 1 + e ≤ 12; omega⟩
    · have hp := erase_perm hj
      rw [List.map_append, List.append_assoc]
      exact (List.Perm.append_left _ hp).nodup_iff.2 h7
  · rintro δ ⟨L, F, B, x, rfl, h1, h2, h3, h4, h5, h6, h7⟩
    rw [List.nodup_append] at h7
    obtain ⟨S, hS0, hSp, hSa⟩ := sorted_wires (F := F) h7.1
    simp [hS0]
    have hS : ∀ f ∈ S, WireOk f := fun f hf => h6 f (hSp.mem_iff.1 hf)
    have hSd : (S.map (·.1)).Nodup := (hSp.map _).nodup_iff.2 h7.1
    have hSl : S.length = w := by
      rw [hSp.length_eq, h3]; simp [rng]
    clear hS0 hSp h3 h6 h7
    refine ⟨sz (by omega), by omega, ?_⟩
    refine okS_for (fun i δ => ∃ (L' : List Str) (R : List (Row Str)) (B : List D) (x9 x10 x11 x12 x6 : Option D), δ = [some (.lst B), some (.int w), some (.int m), some (.int k), some (.lst (L.map D.str)), some (.lst (S.map encWire)), x6, some (.lst (L'.map D.str)), some (.lst (R.map encRow)), x9, x10, x11, x12, none] ∧ i ≤ m ∧ L'.length = 9 - i ∧ R.length = i ∧ Box (n + 100 + 20 * i) B ∧ (∀ s ∈ L', s ∈ nm9) ∧ (∀ f ∈ R, RowOk S f) ∧ (R.map Row.name ++ L').Nodup) (n := 0) ⟨nm9, [], B, none, none, none, none, x, rfl, by omega, rfl, rfl, h4.mono (by omega), fun _ h => h, by simp, nm9_nd⟩ ?_ ?_
    · rintro i d δ hi ⟨L', R, B, x9, x10, x11, x12, x6, rfl, g1, g2, g3, g4, g5, g6, g7⟩
      rw [Nat.zero_add] at *
      have hi2 := lt_of_get hi
      rw [show (rng 0 (m : Int)).length = m by simp [rng]] at hi2
      refine ⟨_, rfl, ?_⟩
      refine okS_step fun K hK _ => ?_
      simp
      refine okE.mono (okE_scomp (fun j acc δ => ∃ B, δ = [some (.lst B), some (.int w), some (.int m), some (.int k), some (.lst (L.map D.str)), some (.lst (S.map encWire)), some d, some (.lst (L'.map D.str)), some (.lst (R.map encRow)), x9, x10, x11, x12, none] ∧ Box (n + 100 + 20 * i + j) B ∧ acc.length ≤ j ∧ ∃ ss : List Str, acc = ss.map D.str ∧ (∀ s ∈ ss, OnS S s) ∧ ss.Sublist ((S.take j).map (·.1))) (n := 0) ⟨B, rfl, g4, by simp, [], rfl, by simp, by simp⟩ ?_) ?_
      · rintro j f acc δ hj ⟨B, rfl, k1, k2, ss, rfl, k3, k4⟩
        rw [Nat.zero_add] at *
        have hj2 := lt_of_get hj
        rw [List.length_map] at hj2
        rw [List.getElem?_map, Option.map_eq_some_iff] at hj
        obtain ⟨c, hc, rfl⟩ := hj
        have hcS := List.mem_of_getElem? hc
        have hts := take_succ hc
        refine ⟨_, rfl, ?_⟩
        simp
        refine okO_take k1 (by omega) (by omega) (by omega) fun r B1 r0 r1 hB1 => ?_
        simp [encWire]
        split
        · simp at k2
          refine ⟨Nat.lt_of_lt_of_le (show ss.length < 100 by omega) (sz (by omega)), hB1.mono (by omega), by omega, ss ++ [c.1], by simp, ?_, by rw [← List.map_take, hts, List.map_append]; exact k4.append (List.Sublist.refl _)⟩
          intro s' hs'
          rcases List.mem_append.1 hs' with h | h
          · exact k3 s' h
          · rw [List.mem_singleton.1 h]; exact ⟨c, hcS, rfl⟩
        · simp at k2
          exact ⟨hB1.mono (by omega), by omega, ss, rfl, k3, by rw [← List.map_take, hts, List.map_append]; exact k4.trans (List.sublist_append_left _ _)⟩
      · rintro acc δ ⟨B, rfl, k1, k2, ss, rfl, k3, k4⟩
        rw [show (0 + (S.map encWire).length) = S.length by simp, List.take_of_length_le (Nat.le_refl _)] at k4
        rw [Nat.zero_add, show (S.map encWire).length = w by rw [List.length_map, hSl]] at k1 k2
        simp
        refine hK _ ?_
        clear hK
        refine okS_step fun K hK _ => ?_
        suffices hs : ∀ (ss : List Str) (B : List D), ss ≠ [] → ss.length ≤ 6 → (∀ s ∈ ss, OnS S s) → ss.Sublist (S.map (·.1)) → Box (n + 100 + 20 * i + 10) B → K .nx [some (.lst B), some (.int w), some (.int m), some (.int k), some (.lst (L.map D.str)), some (.lst (S.map encWire)), some d, some (.lst (L'.map D.str)), some (.lst (R.map encRow)), some (.lst (ss.map D.str)), x10, x11, x12, none] by
          simp
          have e : dNe (.lst (ss.map D.str)) (.lst []) = some (.bl (!ss.isEmpty)) := ne_nilS fun s hs => by
            obtain ⟨c, hc, rfl⟩ := k3 s hs
            exact nm6_ok _ (hS c hc).1
          rw [e]; simp
          simp at k2
          by_cases h0 : ss = []
          · simp [h0]
            refine okO_take k1 (by omega) (by omega) (by omega) fun r B1 r0 r1 hB1 => ?_
            obtain ⟨r, rfl⟩ := Int.eq_ofNat_of_zero_le r0
            have hr : r < S.length := by omega
            simp [hr, encWire]
            exact ⟨sz (by omega), hs [S[r].1] B1 (by simp) (by simp) (fun s hs => by rw [List.mem_singleton.1 hs]; exact ⟨_, List.getElem_mem hr, rfl⟩) (List.singleton_sublist.2 (List.mem_map.2 ⟨_, List.getElem_mem hr, rfl⟩)) (hB1.mono (by omega))⟩
          · simp [h0]
            exact hs ss B h0 (by omega) k3 k4 (k1.mono (by omega))
        clear k1 k2 k3 k4
        intro ss B k0 k2 k3 k4 k1
        refine hK _ ?_
        clear hK
        refine okS_step fun K hK _ => ?_
        suffices hs : ∀ (W : Nat) (B : List D), 1 ≤ W → W ≤ 3 → Box (n + 100 + 20 * i + 11) B → K .nx [some (.lst B), some (.int w), some (.int m), some (.int k), some (.lst (L.map D.str)), some (.lst (S.map encWire)), some d, some (.lst (L'.map D.str)), some (.lst (R.map encRow)), some (.lst (ss.map D.str)), some (.int W), x11, x12, none] by
          simp
          split
          · refine okO_take k1 (by omega) (by omega) (by omega) fun r B1 r0 r1 hB1 => ?_
            obtain ⟨r, rfl⟩ := Int.eq_ofNat_of_zero_le r0
            simp
            have := hs (1 + r) B1 (by omega) (by omega) (hB1.mono (by omega))
            rwa [Int.natCast_add] at this
          · exact hs 1 B (by omega) (by omega) (k1.mono (by omega))
        clear k1
        intro W B W1 W2 k1
        refine hK _ ?_
        clear hK
        refine okS_step fun K hK _ => ?_
        simp
        refine ⟨sz (by omega), hK _ ?_⟩
        clear hK
        refine okS_step fun K hK _ => ?_
        suffices hs : ∀ (b : Nat) (t : Option Nat) (B : List D), b ≤ 2 → (∀ i, t = some i → 1 ≤ i ∧ b ≤ i ∧ i ≤ 5) → Box (n + 100 + 20 * i + 13) B → K .nx [some (.lst B), some (.int w), some (.int m), some (.int k), some (.lst (L.map D.str)), some (.lst (S.map encWire)), some d, some (.lst (L'.map D.str)), some (.lst (R.map encRow)), some (.lst (ss.map D.str)), some (.int W), some (.int b), some (encHi t), none] by
          simp
          split
          · refine ⟨sz (by omega), okO_of k1 (by omega) (by simp) (by simp) fun b B1 hb hB1 => ?_⟩
            have hb2 : ∃ b' : Nat, b = .int b' ∧ b' ≤ 2 := by
              simp at hb
              rcases hb with rfl | rfl | rfl
              · exact ⟨0, rfl, by omega⟩
              · exact ⟨1, rfl, by omega⟩
              · exact ⟨2, rfl, by omega⟩
            obtain ⟨b, rfl, hb1⟩ := hb2
            simp
            refine ⟨sz (by omega), okO_of hB1 (by omega) (by simp) (by simp) fun t B2 ht hB2 => ?_⟩
            simp
            have ht2 : ∃ t' : Option Nat, t = encHi t' ∧ ∀ i, t' = some i → 1 ≤ i ∧ b ≤ i ∧ i ≤ 5 := by
              simp at ht
              rcases ht with rfl | rfl | rfl | rfl
              · exact ⟨none, rfl, by simp⟩
              · by_cases hb0 : b = 0
                · subst hb0
                  exact ⟨some 1, rfl, fun i hi => by cases hi; omega⟩
                · refine ⟨some b, ?_, fun i hi => by cases hi; omega⟩
                  unfold encHi
                  simp; omega
              · exact ⟨some (b + 1), rfl, fun i hi => by cases hi; omega⟩
              · exact ⟨some (b + 3), rfl, fun i hi => by cases hi; omega⟩
            obtain ⟨t, rfl, ht2⟩ := ht2
            exact hs b t B2 hb1 ht2 (hB2.mono (by omega))
          · exact hs 0 none B (by omega) (by simp) (k1.mono (by omega))
        clear k1
        intro b t B b1 ht k1
        refine hK _ ?_
        clear hK
        refine okE_cut fun K hK => ?_
        simp [flat]
        refine okO_take k1 (by omega) (by omega) (by omega) fun r B1 r0 r1 hB1 => ?_
        obtain ⟨r, rfl⟩ := Int.eq_ofNat_of_zero_le r0
        have hr : r < L'.length := by omega
        simp [hr]
        refine ⟨by omega, sz (by omega), Nat.lt_of_lt_of_le (show R.length < 100 by omega) (sz (by omega)), hK _ _ ?_⟩
        clear hK
        refine ⟨L'.eraseIdx r, R ++ [⟨L'[r], ss, W, b, t⟩], B1, _, _, _, _, _, by rw [PD.map_eraseIdx, List.map_append]; rfl, by omega, ?_, by simp [g3], hB1.mono (by omega), fun s hs => g5 s (List.mem_of_mem_eraseIdx hs), ?_, ?_⟩
        · rw [List.length_eraseIdx_of_lt hr]; omega
        · intro f hf
          rcases List.mem_append.1 hf with hf | hf
          · exact g6 f hf
          · rw [List.mem_singleton.1 hf]
            exact ⟨g5 _ (List.getElem_mem hr), k0, k2, k3, k4, W1, W2, b1, ht⟩
        · have hp := erase_perm hr
          rw [List.map_append, List.append_assoc]
          exact (List.Perm.append_left _ hp).nodup_iff.2 g7
    · rintro δ ⟨L', R, B, x9, x10, x11, x12, x6, rfl, g1, g2, g3, g4, g5, g6, g7⟩
      rw [List.nodup_append] at g7
      obtain ⟨R', hR0, hRp, hRa⟩ := sorted_rows g7.1
      simp [hR0]
      simp [rng] at g4 g3
      exact ⟨sz (by omega), ⟨S, R'⟩, rfl, hSl, by rw [← g3]; exact hRp.length_eq, ⟨hSd, hS, (hRp.map _).nodup_iff.2 g7.1, fun r hr => g6 r (hRp.mem_iff.1 hr), hSa, hRa⟩, g4.mono (by omega)⟩
end Lw
end
section
namespace PD
open PySem L2 Fa
end PD
namespace Lw
open PySem L2 PD Fa
structure Small (N : Net Str) : Prop where
  w : ∀ r ∈ N.rows, r.w ≤ 3
  lo : ∀ r ∈ N.rows, r.lo ≤ 2
  hi : ∀ r ∈ N.rows, ∀ m, r.hi = some m → 1 ≤ m ∧ m ≤ 5
  cap : ∀ c ∈ N.wires, 1 ≤ c.2 ∧ c.2 ≤ 16
  wn : ∀ c ∈ N.wires, c.1 ∈ nm6
  rn : ∀ r ∈ N.rows, r.name ∈ nm9
end Lw
end
section
namespace PD
open PySem L2 Fa
def Leaf (d : D) : Prop := (∃ i, d = .int i) ∨ d = .non ∨ (∃ b, d = .bl b) ∨ ∃ s, d = .str s ∧ PyData.strOk s = true
def Gd : Nat → D → Prop
  | 0, d => Leaf d
  | n + 1, d => Leaf d ∨ ∃ xs, (d = .lst xs ∨ d = .tup xs) ∧ xs.length ≤ 1000 ∧ ∀ x ∈ xs, Gd n x
def lstN : Nat → D → D
  | 0, d => d
  | n + 1, .lst xs => .lst (xs.map (lstN n))
  | n + 1, .tup xs => .lst (xs.map (lstN n))
  | _ + 1, d => d
def tupN : Nat → D → D
  | 0, d => d
  | n + 1, .lst xs => .tup (xs.map (tupN n))
  | n + 1, .tup xs => .tup (xs.map (tupN n))
  | _ + 1, d => d
theorem Gd.leaf {n : Nat} {d : D} (h : Leaf d) : Gd n d := by cases n; exact h; exact .inl h
theorem Gd.succ : ∀ {n : Nat} {d : D}, Gd n d → Gd (n + 1) d
  | 0, d, h => .inl h
  | n + 1, d, h => by
    rcases h with h | ⟨xs, e, hl, h⟩
    · exact .inl h
    · exact .inr ⟨xs, e, hl, fun x hx => (h x hx).succ⟩
theorem Gd.mono {n m : Nat} {d : D} (h : Gd n d) (k : n ≤ m) : Gd m d := by
  obtain ⟨j, rfl⟩ := Nat.exists_eq_add_of_le k
  induction j with
  | zero => exact h
  | succ j ih => exact (ih (by omega)).succ
theorem lstN_leaf {n : Nat} {d : D} (h : Leaf d) : lstN n d = d := by
  cases n with
  | zero => rfl
  | succ n => rcases h with ⟨i, rfl⟩ | rfl | ⟨b, rfl⟩ | ⟨s, rfl, _⟩ <;> rfl
theorem tupN_leaf {n : Nat} {d : D} (h : Leaf d) : tupN n d = d := by
  cases n with
  | zero => rfl
  | succ n => rcases h with ⟨i, rfl⟩ | rfl | ⟨b, rfl⟩ | ⟨s, rfl, _⟩ <;> rfl
theorem Gd.lst : ∀ {n : Nat} {d : D}, Gd n d → Gd n (lstN n d)
  | 0, d, h => h
  | n + 1, d, h => by
    rcases h with h | ⟨xs, e, hl, h⟩
    · rw [lstN_leaf h]; exact .inl h
    · refine .inr ⟨xs.map (lstN n), ?_, by simpa using hl, fun x hx => ?_⟩
      · rcases e with rfl | rfl <;> exact .inl rfl
      · obtain ⟨y, hy, rfl⟩ := List.mem_map.1 hx
        exact (h y hy).lst
theorem tup_lst : ∀ {n : Nat} {d : D}, Gd n d → tupN n (lstN n d) = tupN n d
  | 0, d, h => rfl
  | n + 1, d, h => by
    rcases h with h | ⟨xs, e, hl, h⟩
    · rw [lstN_leaf h]
    · have e2 : (xs.map (lstN n)).map (tupN n) = xs.map (tupN n) := by
        rw [List.map_map]
        exact List.map_congr_left fun x hx => tup_lst (h x hx)
      rcases e with rfl | rfl <;> simp only [lstN, tupN, e2]
def Tu : Nat → D → Prop
  | 0, d => Leaf d
  | n + 1, d => Leaf d ∨ ∃ xs, d = .tup xs ∧ xs.length ≤ 1000 ∧ ∀ x ∈ xs, Tu n x
theorem Tu.gd : ∀ {n : Nat} {d : D}, Tu n d → Gd n d
  | 0, _, h => h
  | n + 1, _, h => by
    rcases h with h | ⟨xs, e, hl, h⟩
    · exact .inl h
    · exact .inr ⟨xs, .inr e, hl, fun x hx => (h x hx).gd⟩
theorem Tu.id : ∀ {n : Nat} {d : D}, Tu n d → tupN n d = d
  | 0, _, h => rfl
  | n + 1, _, h => by
    rcases h with h | ⟨xs, rfl, hl, h⟩
    · exact tupN_leaf h
    · simp only [tupN]
      rw [List.map_congr_left (g := fun x => x) fun x hx => (h x hx).id]; simp
theorem Tu.succ : ∀ {n : Nat} {d : D}, Tu n d → Tu (n + 1) d
  | 0, d, h => .inl h
  | n + 1, d, h => by
    rcases h with h | ⟨xs, e, hl, h⟩
    · exact .inl h
    · exact .inr ⟨xs, e, hl, fun x hx => (h x hx).succ⟩
theorem Tu.mono {n m : Nat} {d : D} (h : Tu n d) (k : n ≤ m) : Tu m d := by
  obtain ⟨j, rfl⟩ := Nat.exists_eq_add_of_le k
  induction j with
  | zero => exact h
  | succ j ih => exact (ih (by omega)).succ
theorem Tu.int {n : Nat} {i : Int} : Tu n (.int i) := by cases n; exact .inl ⟨i, rfl⟩; exact .inl (.inl ⟨i, rfl⟩)
theorem Tu.str {n : Nat} {s : Str} (h : PyData.strOk s = true) : Tu n (.str s) := by cases n; exact .inr (.inr (.inr ⟨s, rfl, h⟩)); exact .inl (.inr (.inr (.inr ⟨s, rfl, h⟩)))
theorem Tu.non {n : Nat} : Tu n .non := by cases n; exact .inr (.inl rfl); exact .inl (.inr (.inl rfl))
theorem Tu.tup {n : Nat} {xs : List D} (hl : xs.length ≤ 1000) (h : ∀ x ∈ xs, Tu n x) : Tu (n + 1) (.tup xs) := .inr ⟨xs, rfl, hl, h⟩
theorem Gd.py : ∀ {n : Nat} {d : D}, Gd n d → ∃ p, toPy d = some p ∧ PyData.canLay0 p = true ∧ PyData.depth p ≤ n ∧ PyData.eqv p p = true
  | n, d, h => by
    have lf : Leaf d → ∃ p, toPy d = some p ∧ PyData.canLay0 p = true ∧ PyData.depth p ≤ n ∧ PyData.eqv p p = true := by
      rintro (⟨i, rfl⟩ | rfl | ⟨b, rfl⟩ | ⟨s, rfl, hs⟩)
      · exact ⟨_, rfl, by simp [PyData.canLay0], by simp [PyData.depth], by simp [PyData.eqv]⟩
      · exact ⟨_, rfl, by simp [PyData.canLay0], by simp [PyData.depth], by simp [PyData.eqv]⟩
      · exact ⟨_, rfl, by simp [PyData.canLay0], by simp [PyData.depth], by simp [PyData.eqv]⟩
      · exact ⟨_, rfl, by simp [PyData.canLay0, hs], by simp [PyData.depth], by simp [PyData.eqv]⟩
    match n, h with
    | 0, h => exact lf h
    | n + 1, h =>
      rcases h with h | ⟨xs, e, hl, h⟩
      · exact lf h
      · have all : ∀ {xs : List D}, (∀ x ∈ xs, Gd n x) → ∃ ps, toPys xs = some ps ∧ PyData.canLayAll0 ps = true ∧ PyData.depthAll ps ≤ n ∧ PyData.eqvAll ps ps = true := fun {xs} h => by
          induction xs with
          | nil => exact ⟨[], rfl, rfl, by simp [PyData.depthAll], by simp [PyData.eqvAll]⟩
          | cons x xs ih =>
            obtain ⟨ps, e1, e2, e3, e4⟩ := ih fun y hy => h y (by simp [hy])
            obtain ⟨p, f1, f2, f3, f4⟩ := (h x (by simp)).py
            exact ⟨p :: ps, by simp [toPys, e1, f1], by simp [PyData.canLayAll0, e2, f2], by simp [PyData.depthAll]; omega, by simp [PyData.eqvAll, e4, f4]⟩
        obtain ⟨ps, e1, e2, e3, e4⟩ := all h
        rcases e with rfl | rfl
        · exact ⟨.list ps, by simp [toPy, e1], by simp [PyData.canLay0, e2], by simp [PyData.depth]; omega, by simp [PyData.eqv, e4]⟩
        · exact ⟨.tuple ps, by simp [toPy, e1], by simp [PyData.canLay0, e2], by simp [PyData.depth]; omega, by simp [PyData.eqv, e4]⟩
theorem Gd.eq {n : Nat} {d : D} (h : Gd n d) (hn : n ≤ 60) : eqD d d = some true := by
  obtain ⟨p, e1, e2, e3, e4⟩ := h.py
  simp [eqD, e1, e4, SeqAt.shaped, e2]; omega
theorem Gd.dEq {n : Nat} {d : D} (h : Gd n d) (hn : n ≤ 60) : PD.dEq d d = some (.bl true) := by rw [PD.dEq, h.eq hn]; rfl
theorem Gd.dNe {n : Nat} {d : D} (h : Gd n d) (hn : n ≤ 60) : PD.dNe d d = some (.bl false) := by rw [PD.dNe, h.eq hn]; rfl
@[simp] theorem gt_npt {h : List D → Env → Option Env} {ds : List D} {δ : Env} : gt h (.npt ds) δ = h ds δ := rfl
theorem okE_compA {β : Type} {enc : β → D} {vs : List Nat} {g : D → Env → Option Env} {e : Env → RE D} {δ : Env} {Q : List D → Env → Prop} (F : β → D) {bs : List β} (h : ∀ b ∈ bs, okO (g (enc b) δ) fun δ1 => wipeD vs δ1 = δ ∧ okE (e δ1) fun y δ3 => y = F b ∧ δ3 = δ1) (hl : bs.length ≤ sizeLine) (q : Q (bs.map F) δ) : okE (scomp vs g tyes e (bs.map enc) [] δ) Q := by
  refine okE_compR (fun _ => true) F (fun b hb => ?_) (by simpa using hl) ?_
  · obtain ⟨δ1, e1, h1, h2⟩ := h b hb
    exact ⟨δ1, e1, h1, ⟨true, δ1, rfl, rfl, rfl, fun _ => h2⟩⟩
  · rw [List.filter_eq_self.2 (fun _ _ => rfl)]; exact q
@[simp] theorem okE_izipL {f : Env → RE (List D)} {δ : Env} {xs : List D} {Q : List D → Env → Prop} (h : f δ = some (.ok ([.lst xs, .lst xs], δ))) : okE (izip f δ) Q = Q (zipD xs xs) δ := by
  unfold izip; rw [h]; simp [bindE]
@[simp] theorem okE_izipT {f : Env → RE (List D)} {δ : Env} {xs : List D} {Q : List D → Env → Prop} (h : f δ = some (.ok ([.tup xs, .tup xs], δ))) : okE (izip f δ) Q = Q (zipD xs xs) δ := by
  unfold izip; rw [h]; simp [bindE]
theorem zip_self : ∀ {xs : List D}, zipD xs xs = xs.map fun x => .npt [x, x]
  | [] => rfl
  | x :: xs => by rw [zipD, zip_self]; rfl
theorem dbools_true {β : Type} : ∀ {l : List β}, dbools (l.map fun _ => D.bl true) = some (l.map fun _ => true)
  | [] => rfl
  | x :: xs => by simp [dbools, dbools_true (l := xs)]
end PD
namespace Lw
open PySem L2 PD Fa
theorem sz1000 {n : Nat} (h : n ≤ 1000) : n ≤ sizeLine := by rw [PySem.sizeLine_eq]; omega
theorem lists_ok : ∀ {n : Nat} {d : D}, Gd n d → d__law_lists (n + 1) [d] = some (.ok (lstN n d))
  | n, d, h => by
    have lfc : Leaf d → d__law_lists (n + 1) [d] = some (.ok (lstN n d)) := fun hl => by
      rw [lstN_leaf hl]
      apply eq_of_okR
      refine den_ok rfl ?_
      rcases hl with ⟨i, rfl⟩ | rfl | ⟨b, rfl⟩ | ⟨s, rfl, hs⟩ <;> simp [isA2, isA]
    match n, h with
    | 0, h => exact lfc h
    | n + 1, h =>
      rcases h with h | ⟨xs, e, hl, h⟩
      · exact lfc h
      · apply eq_of_okR
        refine den_ok rfl ?_
        have e2 : lstN (n + 1) d = .lst (xs.map (lstN n)) := by rcases e with rfl | rfl <;> rfl
        have fin : ∀ {Q : List D → PD.Env → Prop} {z : D}, Q (xs.map (lstN n)) [some z, none] → okE (scomp [1] (gn 1) tyes (lf [] (vcall (d__law_lists (n + 1)) (acons (v 1) anil))) xs [] [some z, none]) Q := fun {Q z} q => by
          have := okE_compA (enc := fun x => x) (vs := [1]) (g := gn 1) (e := lf [] (vcall (d__law_lists (n + 1)) (acons (v 1) anil))) (δ := [some z, none]) (Q := Q) (lstN n) (bs := xs) (fun x hx => by simp [lists_ok (h x hx)]) (sz1000 hl) q
          simpa using this
        rw [e2]
        rcases e with rfl | rfl <;> (simp [isA2, isA]; refine fin ?_; simp)
theorem tupled_ok : ∀ {n : Nat} {d : D}, Gd n d → d_tupled (n + 1) [d] = some (.ok (tupN n d))
  | n, d, h => by
    have lfc : Leaf d → d_tupled (n + 1) [d] = some (.ok (tupN n d)) := fun hl => by
      rw [tupN_leaf hl]
      apply eq_of_okR
      refine den_ok rfl ?_
      rcases hl with ⟨i, rfl⟩ | rfl | ⟨b, rfl⟩ | ⟨s, rfl, hs⟩ <;> simp [isA2, isA]
    match n, h with
    | 0, h => exact lfc h
    | n + 1, h =>
      rcases h with h | ⟨xs, e, hl, h⟩
      · exact lfc h
      · apply eq_of_okR
        refine den_ok rfl ?_
        have e2 : tupN (n + 1) d = .tup (xs.map (tupN n)) := by rcases e with rfl | rfl <;> rfl
        have fin : ∀ {Q : List D → PD.Env → Prop} {z : D}, Q (xs.map (tupN n)) [some z, none] → okE (scomp [1] (gn 1) tyes (lf [] (vcall (d_tupled (n + 1)) (acons (v 1) anil))) xs [] [some z, none]) Q := fun {Q z} q => by
          have := okE_compA (enc := fun x => x) (vs := [1]) (g := gn 1) (e := lf [] (vcall (d_tupled (n + 1)) (acons (v 1) anil))) (δ := [some z, none]) (Q := Q) (tupN n) (bs := xs) (fun x hx => by simp [tupled_ok (h x hx)]) (sz1000 hl) q
          simpa using this
        rw [e2]
        rcases e with rfl | rfl <;> (simp [isA2, isA]; refine fin ?_; simp)
theorem same_ok : ∀ {n : Nat} {d : D}, Gd n d → d__law_same (n + 1) [d, d] = some (.ok (.bl true))
  | n, d, h => by
    have lfc : Leaf d → d__law_same (n + 1) [d, d] = some (.ok (.bl true)) := fun hl => by
      have he : PD.dEq d d = some (.bl true) := (Gd.leaf (n := 0) hl).dEq (by omega)
      apply eq_of_okR
      refine den_ok rfl ?_
      rcases hl with ⟨i, rfl⟩ | rfl | ⟨b, rfl⟩ | ⟨s, rfl, hs⟩ <;> simp [isA2, isA, PD.isNon, he]
    match n, h with
    | 0, h => exact lfc h
    | n + 1, h =>
      rcases h with h | ⟨xs, e, hl, h⟩
      · exact lfc h
      · apply eq_of_okR
        refine den_ok rfl ?_
        have fin : ∀ {Q : List D → PD.Env → Prop} {z w : D}, Q (xs.map fun _ => .bl true) [some z, some w, none, none] → okE (scomp [2, 3] (gt (gscons (gn 2) (gscons (gn 3) gsnil))) tyes (lf [] (vcall (d__law_same (n + 1)) (acons (v 2) (acons (v 3) anil)))) (zipD xs xs) [] [some z, some w, none, none]) Q := fun {Q z w} q => by
          rw [zip_self]
          exact okE_compA (enc := fun x => D.npt [x, x]) (fun _ => .bl true) (bs := xs) (fun x hx => by simp [same_ok (h x hx)]) (sz1000 hl) q
        rcases e with rfl | rfl
        · simp [isA2, isA]
          rw [okE_izipL (xs := xs) rfl]
          refine fin ?_; simp [dbools_true]
        · simp [isA2, isA]
          rw [okE_izipT (xs := xs) rfl]
          refine fin ?_; simp [dbools_true]
end Lw
end
section
namespace PD
open PySem L2 Fa
theorem okE_dcompA {β : Type} {enc : β → D} {vs : List Nat} {g : D → Env → Option Env} {t : Env → RE Bool} {ek ev : Env → RE D} {δ : Env} {Q : List (Key × D) → Env → Prop} (f : β → Str) (F : β → D) : ∀ {bs : List β} {acc : List (Key × D)}, (∀ b ∈ bs, okO (g (enc b) δ) fun δ1 => wipeD vs δ1 = δ ∧ okE (t δ1) fun k δ2 => k = true ∧ δ2 = δ1 ∧ (okE (ek δ1) fun y δ3 => y = .str (f b) ∧ δ3 = δ1) ∧ okE (ev δ1) fun y δ3 => y = F b ∧ δ3 = δ1) → ((acc ++ bs.map fun b => ((Sum.inr (f b) : Key), F b)).map (·.1)).Nodup → acc.length + bs.length ≤ sizeLine →
    Q (acc ++ bs.map fun b => (Sum.inr (f b), F b)) δ → okE (dcomp vs g t ek ev (bs.map enc) acc δ) Q
  | [], acc, _, _, _, q => by simpa [dcomp] using q
  | b :: bs, acc, h, nd, hl, q => by
    rw [List.length_cons] at hl
    obtain ⟨δ1, e1, ew, k, δ2, e2, rfl, rfl, ⟨y, δ3, e3, rfl, rfl⟩, z, δ4, e4, rfl, rfl⟩ := h b List.mem_cons_self
    rw [List.map_cons]
    unfold dcomp; rw [e1]; simp only []; rw [e2]; simp only []
    rw [e3]; simp only []
    rw [e4]; simp only [keyOf_str]
    have ep : putD acc (.inr (f b)) (F b) = acc ++ [(.inr (f b), F b)] := by
      unfold putD
      rw [if_neg]
      intro z
      obtain ⟨kv2, h1, h2⟩ := List.any_eq_true.1 z
      rw [List.map_append, List.nodup_append] at nd
      exact nd.2.2 kv2.1 (List.mem_map.2 ⟨kv2, h1, rfl⟩) (.inr (f b)) (by simp) (by simpa using h2)
    rw [if_pos (by omega), ew, ep]
    refine okE_dcompA f F (fun x hx => h x (List.mem_cons_of_mem _ hx)) (by simpa using nd) (by rw [List.length_append, List.length_singleton]; omega) ?_
    simpa using q
def encF (N : Net Str) : D := .dic (N.rows.map fun r => (Sum.inr r.name, encRow r))
def encObj (N : Net Str) (rs : List (Row Str)) : D := .obj "Net" [some (encF N), some (.lst (rs.map fun r => .str r.name)), some (encS (rooms N))]
theorem isort_strs {xs : List Str} (h : xs.Pairwise sle) : isort leD (xs.map .str) = xs.map .str := by
  refine List.Perm.eq_of_pairwise (le := fun a b => leD a b = true) (fun a b ha hb h1 h2 => ?_) (isort_sorted leD_total _) ?_ (isort_permD _)
  · obtain ⟨x, _, rfl⟩ := List.mem_map.1 ((isort_mem leD _ _).1 ha)
    obtain ⟨y, _, rfl⟩ := List.mem_map.1 hb
    rw [leD_anti h1 h2]
  · rw [List.pairwise_map]; exact h
end PD
namespace Lw
open PySem L2 PD Fa
theorem number_ok {i : Int} : d_is_number [.int i] = some (.ok (.bl true)) := by
  apply eq_of_okR
  refine den_ok rfl ?_
  simp [isA]
theorem whole_ok {n : Nat} : d_whole [.int n] = some (.ok (.tup [.int n, .int 1])) := by
  apply eq_of_okR
  refine den_ok rfl ?_
  simp [number_ok]
  exact sz (by omega)
section
variable {N : Net Str} {s : List (Str × Rat)}
end
end Lw
end
section
namespace Lw
open PySem L2 PD Fa
section
variable {N : Net Str} {rs : List (Row Str)}
end
end Lw
end
section
namespace PD
open PySem L2 Fa
def un (s : List (Str × Rat)) (r : Row Str) : Bool := (get s r.name).isNone
structure Wt (N : Net Str) (k : Nat) (s : List (Str × Rat)) : Prop where
  t : Tab N s
  hk : k ≤ 36
  sm : ∀ x q, get s x = some q → DenL k q ∧ 0 ≤ q ∧ q ≤ 2000
structure Lv (k : Nat) (h : Rat) : Prop where
  d : DenL k h
  l : 0 ≤ h
  u : h ≤ 2000
  hk : k ≤ 36
theorem Lv.sm {k : Nat} {h : Rat} (x : Lv k h) : Sm k h := ⟨x.d, by have := x.l; grind, by have := x.u; grind⟩
theorem Lv.wh {k : Nat} {h : Rat} (x : Lv k h) {n : Nat} (hn : n ≤ 9) : Sm k ((n : Rat) * h) := by
  have h1 : (n : Rat) ≤ ((9 : Nat) : Rat) := Rat.natCast_le_natCast.2 hn
  have h2 : (0 : Rat) ≤ (n : Rat) := Rat.natCast_nonneg
  have e : ((9 : Nat) : Rat) = 9 := rfl
  have h3 := Rat.mul_nonneg h2 x.l
  have h4 := Rat.mul_le_mul_of_nonneg_right h1 x.l
  have h5 := x.u
  exact ⟨x.d.nmul n, by grind, by grind⟩
theorem Wt.val {N : Net Str} {k : Nat} {s : List (Str × Rat)} (w : Wt N k s) (ok : Ok N) {h : Rat} (x : Lv k h) {r : Row Str} (hr : r ∈ N.rows) : Sm k (val s h r) := by
  unfold Fa.val
  cases e : get s r.name with
  | some q =>
    have := w.sm _ _ e
    exact ⟨this.1, by simp; grind, by simp; grind⟩
  | none =>
    simp only [Option.getD_none]
    rcases at_cases (r := r) (h := h) with z | z <;> rw [z]
    · exact sm_nat (by have := ok.lo r hr; omega)
    · exact x.wh (ok.w1 r hr).2
@[simp] theorem dEq_nonQ {q : Rat} : dEq .non (encQ q) = some (.bl false) := by
  simp [dEq, eqD, toPy_enc, shaped_enc, toPy, pyQ, PyData.eqv, SeqAt.shaped, PyData.canLay0, PyData.canLayAll0, PyData.depth, PyData.depthAll]
@[simp] theorem dNe_enc {p q : Rat} : dNe (encQ p) (encQ q) = some (.bl (decide (p ≠ q))) := by
  simp [dNe, eqD, toPy_enc, shaped_enc, eqv_enc]
end PD
namespace Lw
open PySem L2 PD Fa
section
variable {N : Net Str} {rs : List (Row Str)} {s : List (Str × Rat)} {fl : List Str} {ms : List D} {k : Nat}
end
end Lw
end
section
namespace Lw
open PySem L2 PD Fa
section
variable {N : Net Str} {rs : List (Row Str)} {s : List (Str × Rat)} {fl : List Str} {ms : List D} {k : Nat}
end
end Lw
end
section
namespace PD
open PySem L2 Fa
end PD
namespace Lw
open PySem L2 PD Fa
section
variable {N : Net Str} {rs : List (Row Str)} {s : List (Str × Rat)} {fl : List Str} {ms : List D} {k : Nat}
end
end Lw
end
section
namespace PD
open PySem L2 Fa
section
variable {N : Net Str} {rs : List (Row Str)} {s : List (Str × Rat)} {h : Rat} {x : Str}
end
end PD
namespace Lw
open PySem L2 PD Fa
section
variable {N : Net Str} {rs : List (Row Str)} {s : List (Str × Rat)} {fl : List Str} {ms : List D} {k : Nat}
end
end Lw
end
section
namespace PD
open PySem L2 Fa
section
variable {N : Net Str} {rs : List (Row Str)} {s : List (Str × Rat)} {fl : List Str} {k : Nat} {h : Rat}
theorem Wt.up (w : Wt N k s) (hk : k + 1 ≤ 36) : Wt N (k + 1) s := ⟨w.t, hk, fun x q e => ⟨(w.sm x q e).1.mono (by omega), (w.sm x q e).2⟩⟩
end
end PD
end
section
namespace PD
open PySem L2 Fa
section
variable {N : Net Str} {rs : List (Row Str)} {s : List (Str × Rat)} {fl : List Str} {k : Nat} {h : Rat}
end
end PD
end
section
namespace PD
open PySem L2 Fa
end PD
namespace Lw
open PySem L2 PD Fa
section
variable {N : Net Str} {rs : List (Row Str)} {s : List (Str × Rat)} {fl : List Str} {ms : List D} {k : Nat} {h : Rat}
end
end Lw
end
section
namespace PD
open PySem L2 Fa
end PD
namespace Lw
open PySem L2 PD Fa
section
variable {N : Net Str} {rs : List (Row Str)}
end
end Lw
end
section
namespace Lw
open PySem L2 PD Fa
section
variable {N : Net Str}
end
end Lw
end
section
namespace PD
open PySem L2 Fa
def prs (s : List (Str × Rat)) : List D := s.map fun kv => .tup [.str kv.1, encQ kv.2]
end PD
end
section
namespace PD
open PySem L2 Fa
theorem Tu.encQ {n : Nat} {q : Rat} : Tu (n + 1) (PD.encQ q) := Tu.tup (by simp) fun x hx => by
  simp at hx
  rcases hx with rfl | rfl <;> exact Tu.int
theorem Tu.row {N : Net Str} (ok : NetOk N) {r : Row Str} (hr : r ∈ N.rows) : Tu 2 (encRow r) := Tu.tup (by simp) fun x hx => by
  simp at hx
  rcases hx with rfl | rfl | rfl | rfl | rfl
  · exact Tu.str (ok.rn r hr).1
  · refine Tu.tup (by rw [List.length_map]; have := ok.ll r hr; omega) fun x hx => ?_
    obtain ⟨y, hy, rfl⟩ := List.mem_map.1 hx
    exact Tu.str ((ok.rn r hr).2 y hy)
  · exact Tu.int
  · exact Tu.int
  · cases r.hi
    · exact Tu.non
    · exact Tu.int
theorem Gd.two {n : Nat} {a b : D} (ha : Gd n a) (hb : Gd n b) : Gd (n + 1) (.lst [a, b]) := .inr ⟨_, .inl rfl, by simp, fun x hx => by
  simp at hx
  rcases hx with rfl | rfl
  · exact ha
  · exact hb⟩
theorem Tu.due {N : Net Str} (ok : NetOk N) {s : List (Str × Rat)} (t : Tab N s) : Tu 3 (.tup (isort leD (prs s))) := by
  have hl : (isort leD (prs s)).length = s.length := by rw [(isort_permD _).length_eq]; simp [prs]
  have h2 := tab_len t
  have h3 := ok.ok.few
  refine Tu.tup (by omega) fun x hx => ?_
  obtain ⟨kv, hkv, rfl⟩ := List.mem_map.1 ((isort_permD _).mem_iff.1 hx)
  obtain ⟨r, hr, e⟩ := t.ks kv.1 (List.mem_map.2 ⟨kv, hkv, rfl⟩)
  refine Tu.tup (by simp) fun x hx => ?_
  simp at hx
  rcases hx with rfl | rfl
  · rw [← e]; exact Tu.str (ok.rn r hr).1
  · exact Tu.encQ
end PD
namespace Lw
open PySem L2 PD Fa
section
variable {N : Net Str}
theorem tup_id {d : D} (h : Tu 4 d) : d_tupled 12 [d] = some (.ok d) := by
  have := tupled_ok (h.mono (show 4 ≤ 11 by omega)).gd
  rw [this, (h.mono (show 4 ≤ 11 by omega)).id]
theorem tup_soft {d : D} (h : Tu 4 d) : d_tupled 12 [lstN 11 d] = some (.ok d) := by
  have g := (h.mono (show 4 ≤ 11 by omega)).gd
  rw [tupled_ok g.lst, tup_lst g, (h.mono (show 4 ≤ 11 by omega)).id]
end
end Lw
end
section
namespace Lw
open PySem L2 PD Fa
section
variable {N : Net Str}
end
end Lw
end
section
namespace PD
open PySem L2 Fa
structure Tb (N : Net Str) (k : Nat) (s : List (Str × Rat)) : Prop where
  t : Tab N s
  all : ∀ r ∈ N.rows, get s r.name = some (shr s r)
  hk : k ≤ 36
  sm : ∀ r ∈ N.rows, DenL k (shr s r) ∧ -10000 ≤ shr s r ∧ shr s r ≤ 10000
theorem Tb.sh {N : Net Str} {k : Nat} {s : List (Str × Rat)} (tb : Tb N k s) {r : Row Str} (hr : r ∈ N.rows) : Sm k (shr s r) := by
  obtain ⟨h1, h2, h3⟩ := tb.sm r hr
  exact ⟨h1, by grind, by grind⟩
theorem Tb.bd {N : Net Str} {k : Nat} {s : List (Str × Rat)} (tb : Tb N k s) {r : Row Str} (hr : r ∈ N.rows) : Bd (shr s r) := (tb.sh hr).bd (by have := tb.hk; omega)
theorem sum_bd {l : List Rat} {b : Rat} (h : ∀ q ∈ l, -b ≤ q ∧ q ≤ b) : -(b * (l.length : Rat)) ≤ sumQ l ∧ sumQ l ≤ b * (l.length : Rat) := by
  induction l with
  | nil => simp [sum_nil]
  | cons q l ih =>
    have h1 := h q (by simp)
    have h2 := ih fun p hp => h p (by simp [hp])
    have e : ((l.length + 1 : Nat) : Rat) = (l.length : Rat) + 1 := by rw [Rat.natCast_add]; rfl
    rw [sum_cons, List.length_cons, e]
    grind
theorem Tb.tot {N : Net Str} (ok : Ok N) {k : Nat} {s : List (Str × Rat)} (tb : Tb N k s) {x : Str} : Sm k (tot N s x) := by
  rw [tot_shr]
  have hl : ((N.rows.filter (onL x)).map (shr s)).length ≤ 8 := by
    rw [List.length_map]; exact Nat.le_trans (List.length_filter_le _ _) ok.few
  have h1 := sum_bd (l := (N.rows.filter (onL x)).map (shr s)) (b := 10000) fun q hq => by
    obtain ⟨r, hr, rfl⟩ := List.mem_map.1 hq
    exact (tb.sm r (List.mem_filter.1 hr).1).2
  have h2 : (((N.rows.filter (onL x)).map (shr s)).length : Rat) ≤ ((8 : Nat) : Rat) := Rat.natCast_le_natCast.2 hl
  have e : ((8 : Nat) : Rat) = 8 := rfl
  refine ⟨DenL.sum fun q hq => ?_, by grind, by grind⟩
  obtain ⟨r, hr, rfl⟩ := List.mem_map.1 hq
  exact (tb.sm r (List.mem_filter.1 hr).1).1
theorem abs_div {a : Rat} {n : Nat} {b : Rat} (hn : 0 < n) (h1 : -b ≤ a) (h2 : a ≤ b) : -b ≤ a / (n : Rat) ∧ a / (n : Rat) ≤ b := by
  have a1 : (1 : Rat) ≤ (n : Rat) := by
    have : ((1 : Nat) : Rat) ≤ (n : Rat) := Rat.natCast_le_natCast.2 hn
    simpa using this
  have a0 : (0 : Rat) < (n : Rat) := by grind
  have hb : 0 ≤ b := by grind
  have a2 : b * 1 ≤ b * (n : Rat) := Rat.mul_le_mul_of_nonneg_left a1 hb
  constructor
  · refine Classical.byContradiction fun z => ?_
    have h5 := Rat.mul_lt_mul_of_pos_right (show a / (n : Rat) < -b by grind) a0
    rw [Rat.div_mul_cancel (by grind)] at h5
    grind
  · refine Classical.byContradiction fun z => ?_
    have h5 := Rat.mul_lt_mul_of_pos_right (show b < a / (n : Rat) by grind) a0
    rw [Rat.div_mul_cancel (by grind)] at h5
    grind
theorem Tb.lvl {N : Net Str} (ok : Ok N) {k : Nat} {s : List (Str × Rat)} (tb : Tb N k s) {r : Row Str} (hr : r ∈ N.rows) : Sm (k + 1) (lvl s r) := by
  obtain ⟨h1, h2, h3⟩ := tb.sm r hr
  have hw := ok.w1 r hr
  have h4 := abs_div (n := r.w) (by omega) h2 h3
  exact ⟨h1.div (by omega) (small_dvd _ (by omega) (by omega)), by unfold Fa.lvl; grind, by unfold Fa.lvl; grind⟩
structure Tv (N : Net Str) (k : Nat) (s : List (Str × Rat)) : Prop where
  all : ∀ r ∈ N.rows, get s r.name = some (shr s r)
  hk : k ≤ 36
  sm : ∀ r ∈ N.rows, DenL k (shr s r) ∧ -10000 ≤ shr s r ∧ shr s r ≤ 10000
theorem Tb.v {N : Net Str} {k : Nat} {s : List (Str × Rat)} (tb : Tb N k s) : Tv N k s := ⟨tb.all, tb.hk, tb.sm⟩
theorem Tv.sh {N : Net Str} {k : Nat} {s : List (Str × Rat)} (tb : Tv N k s) {r : Row Str} (hr : r ∈ N.rows) : Sm k (shr s r) := by
  obtain ⟨h1, h2, h3⟩ := tb.sm r hr
  exact ⟨h1, by grind, by grind⟩
theorem Tv.bd {N : Net Str} {k : Nat} {s : List (Str × Rat)} (tb : Tv N k s) {r : Row Str} (hr : r ∈ N.rows) : Bd (shr s r) := (tb.sh hr).bd (by have := tb.hk; omega)
theorem Tv.lvl {N : Net Str} (ok : Ok N) {k : Nat} {s : List (Str × Rat)} (tb : Tv N k s) {r : Row Str} (hr : r ∈ N.rows) : Sm (k + 1) (lvl s r) := by
  obtain ⟨h1, h2, h3⟩ := tb.sm r hr
  have hw := ok.w1 r hr
  have h4 := abs_div (n := r.w) (by omega) h2 h3
  exact ⟨h1.div (by omega) (small_dvd _ (by omega) (by omega)), by unfold Fa.lvl; grind, by unfold Fa.lvl; grind⟩
def encR : Option Str → D
  | none => .non
  | some x => .str x
def rsn (N : Net Str) (s : List (Str × Rat)) (r : Row Str) : Option Str := if topped s r = true then none else ((hold N s r).map (·.1)).head?
theorem Wt.tb {N : Net Str} {k : Nat} {s : List (Str × Rat)} (w : Wt N k s) (h : FairS N s) : Tb N k s := ⟨w.t, fun r hr => h.get hr, w.hk, fun r hr => by
  have := w.sm _ _ (h.get hr)
  exact ⟨this.1, by grind, by grind⟩⟩
end PD
end
section
namespace Lw
open PySem L2 PD Fa
section
variable {N : Net Str} {k : Nat} {s : List (Str × Rat)}
end
end Lw
end
section
namespace Lw
open PySem L2 PD Fa
section
variable {N : Net Str} {k : Nat} {s : List (Str × Rat)}
end
end Lw
end
section
namespace Lw
open PySem L2 PD Fa
section
variable {N : Net Str} {k : Nat} {s : List (Str × Rat)}
theorem Tu.prs (ok : NetOk N) {s : List (Str × Rat)} (t : Tab N s) : Tu 3 (.tup (prs s)) := by
  have h2 := tab_len t
  have h3 := ok.ok.few
  refine Tu.tup (by unfold PD.prs; rw [List.length_map]; omega) fun x hx => ?_
  obtain ⟨kv, hkv, rfl⟩ := List.mem_map.1 hx
  obtain ⟨r, hr, e⟩ := t.ks kv.1 (List.mem_map.2 ⟨kv, hkv, rfl⟩)
  refine Tu.tup (by simp) fun x hx => ?_
  simp at hx
  rcases hx with rfl | rfl
  · rw [← e]; exact Tu.str (ok.rn r hr).1
  · exact Tu.encQ
end
end Lw
end
section
namespace Lw
open PySem L2 PD Fa
section
variable {N : Net Str} {k : Nat} {s : List (Str × Rat)}
def encRs (N : Net Str) (f : List (Str × Rat)) : List D := N.rows.map fun r => .tup [.str r.name, encR (rsn N f r)]
end
end Lw
end
section
namespace PD
open PySem L2 Fa
theorem dEq_str {a b : Str} (ha : PyData.strOk a = true) (hb : PyData.strOk b = true) : dEq (.str a) (.str b) = some (.bl (decide (a = b))) := by
  rw [dEq, eqD_str ha hb]
  rw [show (a == b) = decide (a = b) from rfl]; rfl
theorem dNe_str {a b : Str} (ha : PyData.strOk a = true) (hb : PyData.strOk b = true) : dNe (.str a) (.str b) = some (.bl (!decide (a = b))) := by
  rw [dNe, eqD_str ha hb]
  rw [show (a == b) = decide (a = b) from rfl]; rfl
end PD
namespace Lw
open PySem L2 PD Fa
section
variable {N : Net Str} {k : Nat} {s : List (Str × Rat)}
end
end Lw
end
section
namespace PD
open PySem L2 Fa
theorem Shares.tb {N : Net Str} {k : Nat} {s : List (Str × Rat)} (h : Shares N k s) (hk : k ≤ 36) : Tb N k s := by
  have e : ∀ r ∈ N.rows, get s r.name = some (shr s r) := fun r hr => by
    obtain ⟨q, e⟩ := h.all r hr
    rw [shr_get e, e]
  refine ⟨h.t, e, hk, fun r hr => ?_⟩
  have := h.sm _ _ (e r hr)
  exact ⟨this.1, by grind, by grind⟩
theorem rsn_some {N : Net Str} {s : List (Str × Rat)} {r : Row Str} {x : Str} (h : rsn N s r = some x) : ∃ c ∈ N.wires, c.1 = x := by
  unfold rsn at h
  split at h
  · cases h
  · cases hh : hold N s r with
    | nil => rw [hh] at h; simp at h
    | cons c l =>
      rw [hh] at h
      simp at h
      have : c ∈ hold N s r := by rw [hh]; simp
      exact ⟨c, (List.mem_filter.1 this).1, h⟩
theorem Tu.str_or {n : Nat} {o : Option Str} (h : ∀ x, o = some x → PyData.strOk x = true) : Tu n (encR o) := by
  cases o with
  | none => exact Tu.non
  | some x => exact Tu.str (h x rfl)
end PD
namespace Lw
open PySem L2 PD Fa
section
variable {N : Net Str} {k : Nat} {s : List (Str × Rat)}
theorem Tu.rs (ok : NetOk N) : Tu 3 (.tup (encRs N s)) := by
  refine Tu.tup (by unfold encRs; rw [List.length_map]; have := ok.ok.few; omega) fun x hx => ?_
  obtain ⟨r, hr, rfl⟩ := List.mem_map.1 hx
  refine Tu.tup (by simp) fun x hx => ?_
  simp at hx
  rcases hx with rfl | rfl
  · exact Tu.str (ok.rn r hr).1
  · exact Tu.str_or fun x hx => by
      obtain ⟨c, hc, rfl⟩ := rsn_some hx
      exact ok.wn c hc
end
end Lw
end
section
namespace PD
open PySem L2 Fa
end PD
namespace Lw
open PySem L2 PD Fa
section
variable {N : Net Str} {k : Nat} {s : List (Str × Rat)}
end
end Lw
end
section
namespace PD
open PySem L2 Fa
end PD
namespace Lw
open PySem L2 PD Fa
section
variable {N : Net Str}
end
end Lw
end
section
namespace PD
open PySem L2 Fa
structure Fb (N : Net Str) (k : Nat) (g : Row Str → Rat) : Prop where
  hk : k ≤ 36
  sm : ∀ r ∈ N.rows, DenL k (g r) ∧ -10000 ≤ g r ∧ g r ≤ 10000
section
variable {N : Net Str} {k : Nat} {g g' : Row Str → Rat} {f s : List (Str × Rat)}
theorem Fb.tb (b : Fb N k g) (ok : NetOk N) : Tb N k (tabR N g) := ⟨tab_tabR ok.ok, fun r hr => by rw [shr_tabR ok.ok hr]; exact get_tabR ok.ok hr, b.hk, fun r hr => by rw [shr_tabR ok.ok hr]; exact b.sm r hr⟩
theorem Fb.mono (b : Fb N k g) {j : Nat} (hj : k ≤ j) (hj2 : j ≤ 36) : Fb N j g := ⟨hj2, fun r hr => ⟨(b.sm r hr).1.mono hj, (b.sm r hr).2⟩⟩
theorem Fb.of (ok : NetOk N) (G : Good N g) (hk : k ≤ 36) (h : ∀ r ∈ N.rows, DenL k (g r)) : Fb N k g := ⟨hk, fun r hr => by
  have := G.bd ok.ok hr
  exact ⟨h r hr, by grind, by grind⟩⟩
theorem Fb.set (b : Fb N k g) {x : Str} {q : Rat} (h : DenL k q ∧ -10000 ≤ q ∧ q ≤ 10000) : Fb N k (setF g x q) := ⟨b.hk, fun r hr => by
  unfold setF
  split
  · exact h
  · exact b.sm r hr⟩
theorem Fb.ld (ok : NetOk N) (b : Fb N k g) {x : Str} : DenL k (ldF N g x) ∧ -80000 ≤ ldF N g x ∧ ldF N g x ≤ 80000 := by
  have h := (b.tb ok).tot ok.ok (x := x)
  rw [tot_tabR ok.ok] at h
  have hl : ((N.rows.filter (onL x)).map g).length ≤ 8 := by
    rw [List.length_map]; exact Nat.le_trans (List.length_filter_le _ _) ok.ok.few
  have h1 := sum_bd (l := (N.rows.filter (onL x)).map g) (b := 10000) fun q hq => by
    obtain ⟨r, hr, rfl⟩ := List.mem_map.1 hq
    exact (b.sm r (List.mem_filter.1 hr).1).2
  have h2 : (((N.rows.filter (onL x)).map g).length : Rat) ≤ ((8 : Nat) : Rat) := Rat.natCast_le_natCast.2 hl
  have e : ((8 : Nat) : Rat) = 8 := rfl
  have e2 : ldF N g x = sumQ ((N.rows.filter (onL x)).map g) := rfl
  exact ⟨h.1, by grind, by grind⟩
theorem Fb.gaps (ok : NetOk N) (b : Fb N k g) {r : Row Str} (hr : r ∈ N.rows) {ws : List (Str × Nat)} (hw : ∀ c ∈ ws, c ∈ N.wires) : ∀ q ∈ Fa.gaps N g r ws, DenL k q ∧ -90000 ≤ q ∧ q ≤ 90000 := by
  intro q hq
  unfold Fa.gaps at hq
  rcases List.mem_append.1 hq with hq | hq
  · unfold hiF at hq
    cases hh : r.hi with
    | none => rw [hh] at hq; simp at hq
    | some m =>
      rw [hh] at hq
      rw [List.mem_singleton.1 hq]
      obtain ⟨h1, h2, h3⟩ := b.sm r hr
      have hm := (ok.ok.hi r hr m hh).2
      have m5 : (m : Rat) ≤ ((2000 : Nat) : Rat) := Rat.natCast_le_natCast.2 hm
      have m0 : (0 : Rat) ≤ (m : Rat) := Rat.natCast_nonneg
      have e5 : ((2000 : Nat) : Rat) = 2000 := rfl
      exact ⟨(DenL.nat _).sub h1, by grind, by grind⟩
  · obtain ⟨c, hc, rfl⟩ := List.mem_map.1 hq
    have hc := hw c (List.mem_filter.1 hc).1
    have h1 := b.ld ok (x := c.1)
    have h2 : (c.2 : Rat) ≤ ((2000 : Nat) : Rat) := Rat.natCast_le_natCast.2 (ok.ok.cap c hc)
    have e5 : ((2000 : Nat) : Rat) = 2000 := rfl
    have h3 : (0 : Rat) ≤ (c.2 : Rat) := Rat.natCast_nonneg
    exact ⟨(DenL.nat _).sub h1.1, by grind, by grind⟩
theorem Fb.spare (ok : NetOk N) (b : Fb N k g) {r : Row Str} (hr : r ∈ N.rows) : DenL k (Fa.spare N g r) ∧ -90000 ≤ Fa.spare N g r ∧ Fa.spare N g r ≤ 90000 := b.gaps ok hr (fun _ h => h) _ (minL_mem (gaps_ne ok.ok hr)).1
end
end PD
namespace Lw
open PySem L2 PD Fa
section
variable {N : Net Str} {k : Nat} {g g' : Row Str → Rat}
end
end Lw
end
section
namespace Lw
open PySem L2 PD Fa
section
variable {N : Net Str} {k : Nat} {g g' : Row Str → Rat}
end
end Lw
end
section
namespace Lw
open PySem L2 PD Fa
section
variable {N : Net Str} {k : Nat} {g g' : Row Str → Rat}
end
end Lw
end
section
namespace PD
open PySem L2 Fa
end PD
namespace Lw
open PySem L2 PD Fa
section
variable {N : Net Str} {k : Nat} {g g' : Row Str → Rat}
end
end Lw
end
section
namespace PD
open PySem L2 Fa
end PD
namespace Lw
open PySem L2 PD Fa
section
variable {N : Net Str} {k : Nat} {g g' : Row Str → Rat}
end
end Lw
end
section
namespace PD
open PySem L2 Fa
theorem dAdd_tup {xs ys : List D} (h : xs.length + ys.length ≤ 1000) : dAdd (.tup xs) (.tup ys) = some (.tup (xs ++ ys)) := by
  simp only [dAdd]; rw [if_pos (by rw [PySem.sizeLine_eq]; omega)]
theorem dSl_tail {x : D} {xs : List D} : dSl (.tup (x :: xs)) (some 1) none = some (.tup xs) := by
  show some (D.tup (cutD _ (some ((1 : Nat) : Int)) none)) = _
  unfold cutD
  rw [HT.sIx_nat, HT.sIx_none]
  simp
end PD
namespace Lw
open PySem L2 PD Fa
section
variable {N : Net Str} {k : Nat} {g f : Row Str → Rat}
end
end Lw
end
end
section
end
section
namespace Lw
open PySem L2 PD Fa
structure OkW (N : Net Str) : Prop where
  nd : (N.rows.map Row.name).Nodup
  wd : (N.wires.map (·.1)).Nodup
  ln : ∀ r ∈ N.rows, r.lines ≠ [] ∧ ∀ x ∈ r.lines, ∃ c, (x, c) ∈ N.wires
  few : N.rows.length ≤ 8
structure NetW (N : Net Str) : Prop where
  ok : OkW N
  rn : ∀ r ∈ N.rows, PyData.strOk r.name = true ∧ ∀ x ∈ r.lines, PyData.strOk x = true
  wn : ∀ c ∈ N.wires, PyData.strOk c.1 = true
  fw : N.wires.length ≤ 9
  ll : ∀ r ∈ N.rows, r.lines.length ≤ 100
  wa : (N.wires.map (·.1)).Pairwise sle
  ra : (N.rows.map Row.name).Pairwise sle
theorem drawn_netW {N : Net Str} (h : Drawn N) (hw : N.wires.length ≤ 9) (hm : N.rows.length ≤ 8) : NetW N := ⟨⟨h.nd, h.wd, fun r hr => ⟨(h.rs r hr).l0, fun x hx => by
  obtain ⟨c, hc, rfl⟩ := (h.rs r hr).ln x hx
  exact ⟨c.2, hc⟩⟩, hm⟩, fun r hr => ⟨nm9_ok _ (h.rs r hr).n, fun x hx => by
  obtain ⟨c, hc, rfl⟩ := (h.rs r hr).ln x hx
  exact nm6_ok _ (h.ws c hc).1⟩, fun c hc => nm6_ok _ (h.ws c hc).1, hw, fun r hr => by have := (h.rs r hr).ll; omega, h.wa, h.ra⟩
section
variable {N M : Net Str} {k : Nat} {s t f : List (Str × Rat)}
theorem sorted_flowsW {N : Net Str} (ok : NetW N) : dSorted2 (encF N) = some (.lst (N.rows.map fun r => .str r.name)) := by
  have hk : ∀ {l : List (Row Str)}, keysS (l.map fun r => ((Sum.inr r.name : Key), encRow r)) = some (l.map Row.name) := fun {l} => by
    induction l with
    | nil => rfl
    | cons a l ih => rw [List.map_cons, keysS, ih]; rfl
  show (keysS _).bind _ = _
  rw [hk, Option.bind_some, if_pos (by rw [List.length_map]; have := ok.ok.few; omega), isort_strs ok.ra, List.map_map]
  rfl
theorem net_okW (ok : NetW N) {d : D} (hd : d_tupled 12 [d] = some (.ok (encNet N))) : d_Net___init__ [d] = some (encObj N N.rows) := by
  have e := sorted_flowsW ok
  have hfew := ok.ok.few
  have hfw := ok.fw
  have key : okO (d_Net___init__ [d]) fun z => z = encObj N N.rows := by
    refine denI_ok rfl ?_
    simp [hd, encNet]
    refine okE_dcompA (enc := encWire) (fun c => c.1) (fun c => encQ (c.2 : Rat)) (fun c hc => ?_) (by rw [List.nil_append]; exact nodup_inr ok.ok.wd) (by simp; exact sz (by omega)) ?_
    · simp [encWire, whole_ok, enc_nat]
    · have e2 : (D.dic (N.wires.map fun c => (Sum.inr c.1, encQ (c.2 : Rat)))) = encS (rooms N) := by unfold encS encK rooms; rw [List.map_map]; rfl
      rw [List.nil_append, e2]
      simp [PD.putF]
      refine okE_dcompA (enc := encRow) (fun r => r.name) encRow (fun r hr => ?_) (by rw [List.nil_append]; exact nodup_inr ok.ok.nd) (by simp; exact sz (by omega)) ?_
      · simp [encRow]
      · rw [List.nil_append]
        have e3 : (D.dic (N.rows.map fun r => (Sum.inr r.name, encRow r))) = encF N := rfl
        rw [e3]
        simp [PD.putF, e]
        rfl
  obtain ⟨z, e, rfl⟩ := key
  exact e
theorem netW_tu {N : Net Str} (ok : NetW N) : Tu 4 (encNet N) := Tu.tup (by simp) fun x hx => by
  simp at hx
  rcases hx with rfl | rfl
  · refine Tu.tup (by rw [List.length_map]; have := ok.fw; omega) fun x hx => ?_
    obtain ⟨c, hc, rfl⟩ := List.mem_map.1 hx
    exact Tu.tup (by simp) fun x hx => by
      simp at hx
      rcases hx with rfl | rfl
      · exact Tu.str (ok.wn c hc)
      · exact Tu.int
  · refine Tu.tup (by rw [List.length_map]; have := ok.ok.few; omega) fun x hx => ?_
    obtain ⟨r, hr, rfl⟩ := List.mem_map.1 hx
    refine Tu.tup (by simp) fun x hx => ?_
    simp at hx
    rcases hx with rfl | rfl | rfl | rfl | rfl
    · exact Tu.str (ok.rn r hr).1
    · refine Tu.tup (by rw [List.length_map]; have := ok.ll r hr; omega) fun x hx => ?_
      obtain ⟨y, hy, rfl⟩ := List.mem_map.1 hx
      exact Tu.str ((ok.rn r hr).2 y hy)
    · exact Tu.int
    · exact Tu.int
    · cases r.hi
      · exact Tu.non
      · exact Tu.int
theorem hasline_okW {x : Str} : d_Net_has_line [encObj N N.rows, .str x] = some (.ok (.bl (decide (x ∈ N.wires.map (·.1))))) := by
  have h : dIn (.str x) (encS (rooms N)) = some (.bl (decide (x ∈ N.wires.map (·.1)))) := by
    rw [dIn, in_enc]
    show some (D.bl _) = _
    congr 2
    rw [Bool.eq_iff_iff, decide_eq_true_eq]
    unfold Fa.get rooms
    rw [Option.isSome_map, List.find?_isSome]
    constructor
    · rintro ⟨y, hy, e⟩
      obtain ⟨c, hc, rfl⟩ := List.mem_map.1 hy
      simp at e
      exact List.mem_map.2 ⟨c, hc, e⟩
    · intro h
      obtain ⟨c, hc, rfl⟩ := List.mem_map.1 h
      exact ⟨_, List.mem_map.2 ⟨c, hc, rfl⟩, by simp⟩
  apply eq_of_okR
  refine den_ok rfl ?_
  simp [encObj, h]
theorem hasflow_okW {x : Str} : d_Net_has_flow [encObj N N.rows, .str x] = some (.ok (.bl (decide (x ∈ N.rows.map Row.name)))) := by
  have h : dIn (.str x) (PD.encF N) = some (.bl (decide (x ∈ N.rows.map Row.name))) := by
    have e : inD (.str x) (PD.encF N) = some (((N.rows.map fun r => ((Sum.inr r.name : Key), encRow r)).find? fun kv => decide (kv.1 = .inr x)).map (·.2)).isSome := rfl
    rw [dIn, e]
    show some (D.bl _) = _
    congr 2
    rw [Bool.eq_iff_iff, decide_eq_true_eq, Option.isSome_map, List.find?_isSome]
    constructor
    · rintro ⟨y, hy, e⟩
      obtain ⟨r, hr, rfl⟩ := List.mem_map.1 hy
      simp at e
      exact List.mem_map.2 ⟨r, hr, e⟩
    · intro h
      obtain ⟨r, hr, rfl⟩ := List.mem_map.1 h
      exact ⟨_, List.mem_map.2 ⟨r, hr, rfl⟩, by simp⟩
  apply eq_of_okR
  refine den_ok rfl ?_
  simp [encObj, h]
theorem obj_net : ∃ fs, encObj N N.rows = .obj "Net" fs := ⟨_, rfl⟩
theorem widened_okW (ok : NetW N) {d : D} (hd : d_tupled 12 [d] = some (.ok (encNet N))) {x : Str} (hx : x ∈ N.wires.map (·.1)) {m : Nat} : d_widened [d, .str x, .int (m : Int)] = some (.ok (encNet ⟨wideW N x m, N.rows⟩)) := by
  have hfw := ok.fw
  have hn := net_okW ok hd
  have hL := hasline_okW (N := N) (x := x)
  have hxs : PyData.strOk x = true := by
    obtain ⟨c, hc, rfl⟩ := List.mem_map.1 hx
    exact ok.wn c hc
  have hst : ∀ {d : Str × Nat}, d ∈ N.wires → dEq (.str d.1) (.str x) = some (.bl (decide (d.1 = x))) := fun hd => dEq_str (ok.wn _ hd) hxs
  have e5 : encNet ⟨wideW N x m, N.rows⟩ = .tup [.tup (N.wires.map fun d => encWire (d.1, if d.1 = x then m else d.2)), .tup (N.rows.map encRow)] := by
    unfold encNet wideW
    simp only [List.map_map]; rfl
  rw [e5]
  obtain ⟨fs, ho⟩ := obj_net (N := N)
  rw [ho] at hn hL
  apply eq_of_okR
  refine den_ok rfl ?_
  refine okS_step fun K hK _ => ?_
  simp [hn, hL, hx]
  refine hK _ ?_
  clear hK hn hL
  refine okS_step fun K hK _ => ?_
  simp [hd, encNet]
  refine hK _ ?_
  clear hK
  simp
  refine okE_compA (enc := encWire) (fun d : Str × Nat => encWire (d.1, if d.1 = x then m else d.2)) (fun d hdm => ?_) ?_ ?_
  · simp [encWire, hst hdm]
    by_cases e : d.1 = x
    · simp [e]; exact sz (by omega)
    · simp [e]; exact sz (by omega)
  · exact sz (by omega)
  generalize N.wires.map (fun d => encWire (d.1, if d.1 = x then m else d.2)) = W
  generalize N.rows.map encRow = R at *
  simp
  exact sz (by omega)
theorem sortK_rows {R : List (Row Str)} : ∃ S : List (Row Str), sortKT (.tup (R.map encRow)) = some (S.map encRow) ∧ S.Perm R ∧ (S.map Row.name).Pairwise sle := by
  obtain ⟨S, e1, p⟩ := perm_unmap (show (isort leK (R.map encRow)).Perm (R.map encRow) by rw [isort_eq leK_total]; exact List.mergeSort_perm _ _) rfl
  refine ⟨S, ?_, p, ?_⟩
  · have ha : (R.map encRow).all isKey = true := by
      rw [List.all_map]
      exact List.all_eq_true.2 fun r _ => rfl
    show (if _ then _ else _) = _
    rw [if_pos ha, e1]
  · have h := isort_sorted leK_total (R.map encRow)
    rw [e1, List.pairwise_map] at h
    rw [List.pairwise_map]
    exact h.imp fun {a b} h => h
theorem without_okW (ok : NetW N) {d : D} (hd : d_tupled 12 [d] = some (.ok (encNet N))) {x : Str} (hx : x ∈ N.rows.map Row.name) (h2 : N.rows.length ≠ 1) : d_without_flow [d, .str x] = some (.ok (encNet ⟨N.wires, N.rows.filter fun q => decide (q.name ≠ x)⟩)) := by
  have hfew := ok.ok.few
  have hn := net_okW ok hd
  have hL := hasflow_okW (N := N) (x := x)
  have hxs : PyData.strOk x = true := by
    obtain ⟨c, hc, rfl⟩ := List.mem_map.1 hx
    exact (ok.rn c hc).1
  have hst : ∀ {r : Row Str}, r ∈ N.rows → dNe (.str r.name) (.str x) = some (.bl (!decide (r.name = x))) := fun hr => dNe_str (ok.rn _ hr).1 hxs
  have hi0 : ∀ {r : Row Str}, dIx (encRow r) (.int 0) = some (.str r.name) := rfl
  have e5 : encNet ⟨N.wires, N.rows.filter fun q => decide (q.name ≠ x)⟩ = .tup [.tup (N.wires.map encWire), .tup ((N.rows.filter fun q => !decide (q.name = x)).map encRow)] := by
    unfold encNet
    congr 6
    simp
  rw [e5]
  obtain ⟨fs, ho⟩ := obj_net (N := N)
  rw [ho] at hn hL
  have hlen : dLen (.tup (N.rows.map encRow)) = some (.int N.rows.length) := by rw [dLen_tup, List.length_map]
  have h1 : dEq (.int (N.rows.length : Int)) (.int 1) = some (.bl false) := by
    have : ¬ (N.rows.length : Int) = 1 := by omega
    simp [this]
  apply eq_of_okR
  refine den_ok rfl ?_
  refine okS_step fun K hK _ => ?_
  simp [hn, hL, hx]
  refine hK _ ?_
  clear hK hn hL
  refine okS_step fun K hK _ => ?_
  simp [hd, encNet]
  refine hK _ ?_
  clear hK
  refine okS_step fun K hK _ => ?_
  simp [hlen, h1]
  refine hK _ ?_
  clear hK
  simp
  refine okE_compR (enc := encRow) (T := fun q => !decide (q.name = x)) (F := encRow) (fun q hq => ?_) ?_ ?_
  · simp [hi0, hst hq]
  · simp; exact sz (by omega)
  rw [List.nil_append]
  have hl2 := List.length_filter_le (fun q : Row Str => !decide (q.name = x)) N.rows
  generalize N.rows.filter (fun q => !decide (q.name = x)) = R2 at *
  simp
  exact sz (by omega)
theorem with_okW (ok : NetW N) {d e : D} (hd : d_tupled 12 [d] = some (.ok (encNet N))) {x : Row Str} (he : d_tupled 12 [e] = some (.ok (encRow x))) (hx : x.name ∉ N.rows.map Row.name) (hl : ∀ y ∈ x.lines, y ∈ N.wires.map (·.1)) (hll : x.lines.length ≤ 1000) :
    ∃ S, d_with_flow [d, e] = some (.ok (encNet ⟨N.wires, S⟩)) ∧ S.Perm (N.rows ++ [x]) ∧ (S.map Row.name).Pairwise sle := by
  have hfew := ok.ok.few
  have hn := net_okW ok hd
  have hL := hasflow_okW (N := N) (x := x.name)
  have hW := fun {y : Str} => hasline_okW (N := N) (x := y)
  have hi0 : dIx (encRow x) (.int 0) = some (.str x.name) := rfl
  have hi1 : dIx (encRow x) (.int 1) = some (.tup (x.lines.map .str)) := rfl
  obtain ⟨S, hS, p, a⟩ := sortK_rows (R := N.rows ++ [x])
  refine ⟨S, ?_, p, a⟩
  have hSl : S.length ≤ 9 := by rw [p.length_eq, List.length_append]; simp; omega
  have hadd : dAdd (.tup (N.rows.map encRow)) (.tup [encRow x]) = some (.tup ((N.rows ++ [x]).map encRow)) := by
    rw [List.map_append]
    exact dAdd_tup (by simp; omega)
  obtain ⟨fs, ho⟩ := obj_net (N := N)
  rw [ho] at hn hL
  have hW' : ∀ {y : Str}, d_Net_has_line [.obj "Net" fs, .str y] = some (.ok (.bl (decide (y ∈ N.wires.map (·.1))))) := fun {y} => by rw [← ho]; exact hW
  have e5 : encNet ⟨N.wires, S⟩ = .tup [.tup (N.wires.map encWire), .tup (S.map encRow)] := rfl
  rw [e5]
  generalize hX : encRow x = X at *
  apply eq_of_okR
  refine denT_ok 5 33 rfl rfl ?_
  refine okS_step fun K hK _ => ?_
  simp [hn, he]
  refine hK _ ?_
  clear hK hn
  refine okS_step fun K hK _ => ?_
  simp [hi0, hL, hx]
  refine hK _ ?_
  clear hK hL
  refine okS_step fun K hK _ => ?_
  simp [hi1]
  refine okS_for (fun j δ => ∃ x4 : Option D, δ = [some d, some e, some (.obj "Net" fs), some X, x4, none, none] ++ Tl "with_flow" 33) (n := 0) ⟨none, rfl⟩ ?_ ?_
  · rintro j y δ hj ⟨x4, rfl⟩
    rw [List.getElem?_map, Option.map_eq_some_iff] at hj
    obtain ⟨y, hy, rfl⟩ := hj
    have hy' := hl y (List.mem_of_getElem? hy)
    refine ⟨_, rfl, ?_⟩
    simp [hW', hy']
  · rintro δ ⟨x4, rfl⟩
    refine hK _ ?_
    clear hK
    refine okS_step fun K hK _ => ?_
    simp [hd, encNet]
    refine hK _ ?_
    clear hK
    generalize hR : N.rows.map encRow = R at *
    generalize hR2 : (N.rows ++ [x]).map encRow = R2 at *
    generalize hRS : S.map encRow = RS at *
    have hl3 : RS.length ≤ 9 := by rw [← hRS]; simp; exact hSl
    simp [hadd, hS]
    refine ⟨?_, ?_⟩
    · exact sz (by omega)
    · exact sz (by omega)
theorem setwide_okW (ok : NetW M) {c : Str × Nat} (hc : c ∈ M.wires) {m : Nat} : d__law_set_wide [encNet M, .str c.1, .int (m : Int)] = some (.ok (encNet ⟨wideW M c.1 m, M.rows⟩)) := by
  have hfw := ok.fw
  have hxs := ok.wn c hc
  have hst : ∀ {d : Str × Nat}, d ∈ M.wires → dEq (.str d.1) (.str c.1) = some (.bl (decide (d.1 = c.1))) := fun hd => dEq_str (ok.wn _ hd) hxs
  have hM0 : dIx (encNet M) (.int 0) = some (.tup (M.wires.map encWire)) := rfl
  have hM1 : dIx (encNet M) (.int 1) = some (.tup (M.rows.map encRow)) := rfl
  have e5 : encNet ⟨wideW M c.1 m, M.rows⟩ = .tup [.tup (M.wires.map fun d => encWire (d.1, if d.1 = c.1 then m else d.2)), .tup (M.rows.map encRow)] := by
    unfold encNet wideW
    simp only [List.map_map]; rfl
  rw [e5]
  generalize encNet M = Mo at *
  apply eq_of_okR
  refine den_ok rfl ?_
  simp [hM0, hM1]
  refine okE_compA (enc := encWire) (fun d : Str × Nat => encWire (d.1, if d.1 = c.1 then m else d.2)) (fun d hdm => ?_) (sz (by omega)) ?_
  · simp [encWire, hst hdm]
    by_cases e : d.1 = c.1
    · simp [e]; exact sz (by omega)
    · simp [e]; exact sz (by omega)
  generalize M.wires.map (fun d => encWire (d.1, if d.1 = c.1 then m else d.2)) = W
  generalize M.rows.map encRow = R at *
  simp [hM1]
  exact sz (by omega)
theorem row_okW {n : Nat} {B : List D} (hB : Box n B) (hn : n < 2 ^ 30) (ok : NetW M) (h0 : M.wires ≠ []) {x : Str} {kind : Nat} : ∃ d B', d__law_row B [encNet M, .str x, .int kind] = some (d, B') ∧ (∃ r : Row Str, d = encRow r ∧ r.name = x ∧ r.lines ≠ [] ∧ r.lines.Sublist (M.wires.map (·.1)) ∧ (1 ≤ r.w ∧ r.w ≤ 9) ∧ r.lo = 0 ∧ ∀ m, r.hi = some m → 1 ≤ m ∧ m ≤ 3) ∧ Box (n + 20) B' := by
  have hfw := ok.fw
  refine denB_ok rfl ?_
  have eN : encNet M = .tup [.tup (M.wires.map encWire), .tup (M.rows.map encRow)] := rfl
  have hpos : 0 < M.wires.length := List.length_pos_iff.2 h0
  refine okS_step fun K hK _ => ?_
  simp [eN]
  refine okE_compA (enc := encWire) (fun c : Str × Nat => D.str c.1) (fun c hc => ?_) (sz (by omega)) ?_
  · simp [encWire]
  simp
  refine hK _ ?_
  clear hK
  have hmm : (M.wires.map fun c => D.str c.1) = (M.wires.map (·.1)).map D.str := by rw [List.map_map]; rfl
  rw [hmm]
  have hwl : (M.wires.map (·.1)).length = M.wires.length := List.length_map ..
  generalize hW : M.wires.map (·.1) = W at *
  generalize (M.wires.map encWire) = Ew at *
  generalize (M.rows.map encRow) = Er at *
  refine okS_step fun K hK _ => ?_
  simp
  refine okE.mono (okE_scomp (fun i acc δ => ∃ (T : List Str) (B : List D), acc = T.map D.str ∧ T.Sublist (W.take i) ∧ T.length ≤ i ∧ Box (n + i) B ∧ δ = [some (.lst B), some (.tup [.tup Ew, .tup Er]), some (.str x), some (.int (kind : Int)), none, some (.lst (W.map D.str)), none, none]) (n := 0) ⟨[], B, rfl, by simp, by simp, hB, rfl⟩ ?_) ?_
  · rintro i d acc δ hi ⟨T, B, rfl, hT, hTl, hB, rfl⟩
    rw [Nat.zero_add] at *
    rw [List.getElem?_map, Option.map_eq_some_iff] at hi
    obtain ⟨y, hy, rfl⟩ := hi
    have hil := lt_of_get hy
    refine ⟨_, rfl, ?_⟩
    simp
    refine okO_take hB (by omega) (by omega) (by omega) fun u B2 u0 u1 hB2 => ?_
    simp
    by_cases hu : u = 0
    · rw [if_pos hu]
      refine ⟨Nat.lt_of_lt_of_le (show T.length < 100 by omega) (sz (by omega)), T ++ [y], by simp, ?_, by simp; omega, hB2.mono (by omega)⟩
      rw [take_succ hy]
      exact hT.append (List.Sublist.refl _)
    · rw [if_neg hu]
      refine ⟨T, rfl, ?_, by omega, hB2.mono (by omega)⟩
      rw [take_succ hy]
      exact hT.trans (List.sublist_append_left _ _)
  rintro acc δ ⟨T, B2, eA, hT, hTl, hB2, eδ⟩
  rw [eA, eδ]
  rw [Nat.zero_add, List.length_map] at *
  have next : ∀ (L : List Str) (B3 : List D), L ≠ [] → L.Sublist W → Box (n + 12) B3 → K Out.nx [some (.lst B3), some (.tup [.tup Ew, .tup Er]), some (.str x), some (.int (kind : Int)), some (.tup (L.map D.str)), some (.lst (W.map D.str)), none, none] := fun L B3 hL0 hLs hB3 => by
    refine hK _ ?_
    clear hK
    refine okS_step fun K hK _ => ?_
    have next2 : ∀ (w : Nat) (B4 : List D), 1 ≤ w → w ≤ 3 → Box (n + 13) B4 → K Out.nx [some (.lst B4), some (.tup [.tup Ew, .tup Er]), some (.str x), some (.int (kind : Int)), some (.tup (L.map D.str)), some (.lst (W.map D.str)), some (.int (w : Int)), none] := fun w B4 w1 w3 hB4 => by
      refine hK _ ?_
      clear hK
      simp
      by_cases hk : (1 : Int) < (kind : Int)
      · have hk' : 1 < kind := by omega
        rw [if_pos hk]
        refine ⟨sz (by omega), ?_⟩
        refine okO_of hB4 (by omega) (by simp) (by simp) fun d B5 hd hB5 => ?_
        obtain ⟨hi, rfl, hh⟩ : ∃ hi : Option Nat, d = encHi hi ∧ ∀ m, hi = some m → 1 ≤ m ∧ m ≤ 3 := by
          simp at hd
          rcases hd with rfl | rfl | rfl
          · exact ⟨none, rfl, by simp⟩
          · exact ⟨some 1, rfl, fun m e => by cases e; omega⟩
          · exact ⟨some 3, rfl, fun m e => by cases e; omega⟩
        simp
        refine ⟨sz (by omega), ⟨⟨x, L, w, 0, hi⟩, rfl, rfl, hL0, hLs, ⟨w1, by show w ≤ 9; omega⟩, rfl, hh⟩, hB5.mono (by omega)⟩
      · have hk' : ¬ 1 < kind := by omega
        rw [if_neg hk]
        refine ⟨sz (by omega), ⟨⟨x, L, w, 0, none⟩, rfl, rfl, hL0, hLs, ⟨w1, by show w ≤ 9; omega⟩, rfl, by simp⟩, hB4.mono (by omega)⟩
    simp
    by_cases hk : 0 < kind
    · simp [hk]
      refine okO_take hB3 (by omega) (by omega) (by omega) fun u B4 u0 u1 hB4 => ?_
      obtain ⟨u, rfl⟩ := Int.eq_ofNat_of_zero_le u0
      have := next2 (1 + u) B4 (by omega) (by omega) (hB4.mono (by omega))
      rw [Int.natCast_add] at this
      simpa using this
    · simp [hk]
      simpa using next2 1 B3 (by omega) (by omega) (hB3.mono (by omega))
  have hTW : T.Sublist W := hT.trans (List.take_sublist _ _)
  by_cases hT0 : T = []
  · subst hT0
    have htr : truth (D.tup []) = some false := rfl
    simp [htr]
    refine okO_of (xs := W.map D.str) hB2 (by omega) (fun z => by have := congrArg List.length z; rw [List.length_map] at this; simp at this; rw [this] at hwl; simp at hwl; omega) (by rw [List.length_map]; omega) fun d B3 hd hB3 => ?_
    obtain ⟨y, hy, rfl⟩ := List.mem_map.1 hd
    simp
    refine ⟨sz (by omega), ?_⟩
    exact next [y] B3 (by simp) (List.singleton_sublist.2 hy) (hB3.mono (by omega))
  · have htr : truth (D.tup (T.map D.str)) = some true := by
      cases T with
      | nil => exact absurd rfl hT0
      | cons a T => rfl
    simp [htr]
    exact next T B2 hT0 hTW (hB2.mono (by omega))
end
end Lw
end
section
namespace Lw
open PySem L2 PD Fa
section
variable {N M : Net Str} {k : Nat}
theorem widened_no (ok : NetW N) {d : D} (hd : d_tupled 12 [d] = some (.ok (encNet N))) {x : Str} (hx : x ∉ N.wires.map (·.1)) {m : Int} : d_widened [d, .str x, .int m] = some (.error ⟨"NoLine", [("line", .str x)]⟩) := by
  have hn := net_okW ok hd
  have hL := hasline_okW (N := N) (x := x)
  obtain ⟨fs, ho⟩ := obj_net (N := N)
  rw [ho] at hn hL
  refine den_er rfl ?_
  simp [hn, hL, hx]
  exact .inr (by decide)
theorem without_no (ok : NetW N) {d : D} (hd : d_tupled 12 [d] = some (.ok (encNet N))) {x : Str} (hx : x ∉ N.rows.map Row.name) : d_without_flow [d, .str x] = some (.error ⟨"NoFlow", [("flow", .str x)]⟩) := by
  have hn := net_okW ok hd
  have hL := hasflow_okW (N := N) (x := x)
  obtain ⟨fs, ho⟩ := obj_net (N := N)
  rw [ho] at hn hL
  refine den_er rfl ?_
  simp [hn, hL, hx]
  exact .inr (by decide)
theorem without_last (ok : NetW N) {d : D} (hd : d_tupled 12 [d] = some (.ok (encNet N))) {x : Str} (hx : x ∈ N.rows.map Row.name) (h1 : N.rows.length = 1) : d_without_flow [d, .str x] = some (.error ⟨"LastFlow", []⟩) := by
  have hn := net_okW ok hd
  have hL := hasflow_okW (N := N) (x := x)
  obtain ⟨fs, ho⟩ := obj_net (N := N)
  rw [ho] at hn hL
  have hlen : dLen (.tup (N.rows.map encRow)) = some (.int 1) := by rw [dLen_tup, List.length_map, h1]; rfl
  have h11 : dEq (.int (1 : Int)) (.int 1) = some (.bl true) := by rfl
  refine den_er rfl ?_
  simp [hn, hL, hx, hd, encNet, hlen, h11]
theorem with_twice (ok : NetW N) {d e : D} (hd : d_tupled 12 [d] = some (.ok (encNet N))) {x : Str} {zs : List D} (he : d_tupled 12 [e] = some (.ok (.tup (.str x :: zs)))) (hx : x ∈ N.rows.map Row.name) : d_with_flow [d, e] = some (.error ⟨"Doubled", [("name", .str x)]⟩) := by
  have hn := net_okW ok hd
  have hL := hasflow_okW (N := N) (x := x)
  have hi0 : dIx (.tup (.str x :: zs)) (.int 0) = some (.str x) := by simp
  obtain ⟨fs, ho⟩ := obj_net (N := N)
  rw [ho] at hn hL
  generalize D.tup (.str x :: zs) = X at *
  refine denT_er 5 33 rfl rfl ?_
  refine erP_seq2 ?_
  simp [hn, he]
  refine erP_seq1 (erP_sif ?_)
  simp [hi0, hL, hx]
  refine erP_sraise ?_
  simp [hi0]
theorem with_noline (ok : NetW N) {d e : D} (hd : d_tupled 12 [d] = some (.ok (encNet N))) {x y : Str} {pre post : List Str} {zs : List D} (he : d_tupled 12 [e] = some (.ok (.tup (.str x :: .tup ((pre ++ y :: post).map .str) :: zs)))) (hx : x ∉ N.rows.map Row.name) (hp : ∀ z ∈ pre, z ∈ N.wires.map (·.1)) (hy : y ∉ N.wires.map (·.1)) :
    d_with_flow [d, e] = some (.error ⟨"NoLine", [("line", .str y)]⟩) := by
  have hn := net_okW ok hd
  have hL := hasflow_okW (N := N) (x := x)
  have hW := fun {y : Str} => hasline_okW (N := N) (x := y)
  have hi0 : dIx (.tup (.str x :: .tup ((pre ++ y :: post).map .str) :: zs)) (.int 0) = some (.str x) := by simp
  have hi1 : dIx (.tup (.str x :: .tup ((pre ++ y :: post).map .str) :: zs)) (.int 1) = some (.tup ((pre ++ y :: post).map .str)) := by simp
  obtain ⟨fs, ho⟩ := obj_net (N := N)
  rw [ho] at hn hL
  have hW' : ∀ {y : Str}, d_Net_has_line [.obj "Net" fs, .str y] = some (.ok (.bl (decide (y ∈ N.wires.map (·.1))))) := fun {y} => by rw [← ho]; exact hW
  generalize D.tup (.str x :: .tup ((pre ++ y :: post).map .str) :: zs) = X at *
  refine denT_er 5 33 rfl rfl ?_
  refine erP_seq2 ?_
  simp [hn, he]
  refine erP_seq2 ?_
  simp [hi0, hL, hx]
  refine erP_seq1 (erP_sforI ?_)
  simp [hi1]
  refine erP_sfor (fun δ => ∃ x4 : Option D, δ = [some d, some e, some (.obj "Net" fs), some X, x4, none, none] ++ Tl "with_flow" 33) ?_ ?_ ⟨none, rfl⟩
  · rintro δ ⟨x4, rfl⟩
    refine ⟨_, rfl, erP_sif ?_⟩
    simp [hW', hy]
    refine erP_sraise ?_
    simp
  · rintro z hz δ ⟨x4, rfl⟩
    obtain ⟨z2, hz2, rfl⟩ := List.mem_map.1 hz
    have h3 := hp z2 hz2
    refine ⟨_, rfl, ?_⟩
    simp at h3
    simp [hW', h3]
end
end Lw
end
section
namespace Lw
open PySem L2 PD Fa
section
theorem heard0 {r0 r1 r2 z : D} (h : d_widened [r0, r1, r2] = some (.ok z)) : d__law_heard [.int 0, .lst [r0, r1, r2]] = some (.ok z) := by
  apply eq_of_okR
  refine denT_ok 5 33 rfl rfl ?_
  refine okS_step fun K hK _ => ?_
  simp
  refine ⟨sz (by omega), hK _ ?_⟩
  clear hK
  refine okS_step fun K hK _ => ?_
  refine stry_ok ?_
  simp [h]
  refine hK _ ?_
  simp [PD.isNon]
theorem heard1 {r0 r1 z : D} (h : d_with_flow [r0, r1] = some (.ok z)) : d__law_heard [.int 1, .lst [r0, r1]] = some (.ok z) := by
  apply eq_of_okR
  refine denT_ok 5 33 rfl rfl ?_
  refine okS_step fun K hK _ => ?_
  simp
  refine ⟨sz (by omega), hK _ ?_⟩
  clear hK
  refine okS_step fun K hK _ => ?_
  refine stry_ok ?_
  simp [h]
  refine hK _ ?_
  simp [PD.isNon]
theorem heard2 {r0 r1 z : D} (h : d_without_flow [r0, r1] = some (.ok z)) : d__law_heard [.int 2, .lst [r0, r1]] = some (.ok z) := by
  apply eq_of_okR
  refine denT_ok 5 33 rfl rfl ?_
  refine okS_step fun K hK _ => ?_
  simp
  refine ⟨sz (by omega), hK _ ?_⟩
  clear hK
  refine okS_step fun K hK _ => ?_
  refine stry_ok ?_
  simp [h]
  refine hK _ ?_
  simp [PD.isNon]
theorem erP_all {α : Type} {o : RE α} {x : XD} {P : PD.Env → Prop} {δ0 : PD.Env} (h : ∀ P' : PD.Env → Prop, P' δ0 → erP o x P') (p : P δ0) : erP o x P := h P p
def AskEr (k : Int) (rest : D) (x : XD) : Prop := (k = 0 ∧ ∃ r0 r1 r2, rest = .lst [r0, r1, r2] ∧ d_widened [r0, r1, r2] = some (.error x)) ∨ (k = 1 ∧ ∃ r0 r1, rest = .lst [r0, r1] ∧ d_with_flow [r0, r1] = some (.error x)) ∨ (k = 2 ∧ ∃ r0 r1, rest = .lst [r0, r1] ∧ d_without_flow [r0, r1] = some (.error x))
theorem heard_er {k : Int} {rest : D} {x : XD} {out : D} (hk : AskEr k rest x)
    (ho : (∃ y, x = ⟨"NoLine", [("line", .str y)]⟩ ∧ out = .lst [.str "line", .str y]) ∨ (∃ y, x = ⟨"Doubled", [("name", .str y)]⟩ ∧ out = .lst [.str "twice", .str y]) ∨ (∃ y, x = ⟨"NoFlow", [("flow", .str y)]⟩ ∧ out = .lst [.str "flow", .str y]) ∨ (x = ⟨"LastFlow", []⟩ ∧ out = .lst [.str "last"])) : d__law_heard [.int k, rest] = some (.ok out) := by
  apply eq_of_okR
  refine denT_ok 5 33 rfl rfl ?_
  refine okS_step fun K hK _ => ?_
  simp
  refine ⟨sz (by omega), hK _ ?_⟩
  clear hK
  refine okS_step fun K hK _ => ?_
  refine stry_erP (x := x) ?_
  have key : x.cls ∈ XL ∧ x.cls ∈ [("BadLine" : Str), ("Doubled" : Str), ("LastFlow" : Str), ("NoFlow" : Str), ("NoLine" : Str), ("NotChanged" : Str), ("NotPlain" : Str), ("TooFull" : Str)] ∧ K .nx ((([some (.int k), some rest, some .non, some .non, none, none, none] ++ Tl "with_flow" 33 : PD.Env).set 2 (some (.exc x.cls x.fs))).set 4 none) := by
    rcases ho with ⟨y, rfl, rfl⟩ | ⟨y, rfl, rfl⟩ | ⟨y, rfl, rfl⟩ | ⟨rfl, rfl⟩
    · refine ⟨show ("NoLine" : Str) ∈ XL by decide, show ("NoLine" : Str) ∈ _ by decide, hK _ ?_⟩
      clear hK
      have i1 : isXs [("NoLine" : Str)] (.exc "NoLine" [("line", .str y)]) = some true := by simp [isXs, isX1]; decide
      have i2 : isXs [("Doubled" : Str)] (.exc "NoLine" [("line", .str y)]) = some false := by simp [isXs, isX1]; decide
      have i3 : isXs [("NoFlow" : Str)] (.exc "NoLine" [("line", .str y)]) = some false := by simp [isXs, isX1]; decide
      have i4 : isXs [("LastFlow" : Str)] (.exc "NoLine" [("line", .str y)]) = some false := by simp [isXs, isX1]; decide
      have i5 : isXs [("LookupError" : Str)] (.exc "NoLine" [("line", .str y)]) = some true := by simp [isXs, isX1]; decide
      have i6 : isXs [("ValueError" : Str)] (.exc "NoLine" [("line", .str y)]) = some false := by simp [isXs, isX1]; decide
      have i7 : isXs [("RuntimeError" : Str)] (.exc "NoLine" [("line", .str y)]) = some false := by simp [isXs, isX1]; decide
      have i8 : attrX "line" (.exc "NoLine" [("line", .str y)]) = some (.str y) := by simp [attrX]; decide
      have hc : dCount (.lst [.bl true, .bl false, .bl false, .bl false]) (.bl true) = some (.int 1) := by rfl
      have h1 : PD.dNe (.int (1 : Int)) (.int 1) = some (.bl false) := by rfl
      have hn : PD.dNe (.lst [.bl true, .bl false, .bl false]) (.lst [.bl true, .bl false, .bl false]) = some (.bl false) := by rfl
      refine okS_step fun K hK _ => ?_
      simp [PD.isNon]
      refine hK _ ?_
      clear hK
      refine okS_step fun K hK _ => ?_
      simp [i1, i2, i3]
      refine ⟨sz (by omega), hK _ ?_⟩
      clear hK
      refine okS_step fun K hK _ => ?_
      simp [i4]
      refine ⟨sz (by omega), hK _ ?_⟩
      clear hK
      simp [i5, i6, i7, isLs, hc, h1, hn, i8]
      exact ⟨sz (by omega), sz (by omega)⟩
    · refine ⟨show ("Doubled" : Str) ∈ XL by decide, show ("Doubled" : Str) ∈ _ by decide, hK _ ?_⟩
      clear hK
      have i1 : isXs [("NoLine" : Str)] (.exc "Doubled" [("name", .str y)]) = some false := by simp [isXs, isX1]; decide
      have i2 : isXs [("Doubled" : Str)] (.exc "Doubled" [("name", .str y)]) = some true := by simp [isXs, isX1]; decide
      have i3 : isXs [("NoFlow" : Str)] (.exc "Doubled" [("name", .str y)]) = some false := by simp [isXs, isX1]; decide
      have i4 : isXs [("LastFlow" : Str)] (.exc "Doubled" [("name", .str y)]) = some false := by simp [isXs, isX1]; decide
      have i5 : isXs [("LookupError" : Str)] (.exc "Doubled" [("name", .str y)]) = some false := by simp [isXs, isX1]; decide
      have i6 : isXs [("ValueError" : Str)] (.exc "Doubled" [("name", .str y)]) = some true := by simp [isXs, isX1]; decide
      have i7 : isXs [("RuntimeError" : Str)] (.exc "Doubled" [("name", .str y)]) = some false := by simp [isXs, isX1]; decide
      have i8 : attrX "name" (.exc "Doubled" [("name", .str y)]) = some (.str y) := by simp [attrX]; decide
      have hc : dCount (.lst [.bl false, .bl true, .bl false, .bl false]) (.bl true) = some (.int 1) := by rfl
      have h1 : PD.dNe (.int (1 : Int)) (.int 1) = some (.bl false) := by rfl
      have hn : PD.dNe (.lst [.bl false, .bl true, .bl false]) (.lst [.bl false, .bl true, .bl false]) = some (.bl false) := by rfl
      refine okS_step fun K hK _ => ?_
      simp [PD.isNon]
      refine hK _ ?_
      clear hK
      refine okS_step fun K hK _ => ?_
      simp [i1, i2, i3]
      refine ⟨sz (by omega), hK _ ?_⟩
      clear hK
      refine okS_step fun K hK _ => ?_
      simp [i4]
      refine ⟨sz (by omega), hK _ ?_⟩
      clear hK
      simp [i5, i6, i7, isLs, hc, h1, hn, i8]
      exact ⟨sz (by omega), sz (by omega)⟩
    · refine ⟨show ("NoFlow" : Str) ∈ XL by decide, show ("NoFlow" : Str) ∈ _ by decide, hK _ ?_⟩
      clear hK
      have i1 : isXs [("NoLine" : Str)] (.exc "NoFlow" [("flow", .str y)]) = some false := by simp [isXs, isX1]; decide
      have i2 : isXs [("Doubled" : Str)] (.exc "NoFlow" [("flow", .str y)]) = some false := by simp [isXs, isX1]; decide
      have i3 : isXs [("NoFlow" : Str)] (.exc "NoFlow" [("flow", .str y)]) = some true := by simp [isXs, isX1]; decide
      have i4 : isXs [("LastFlow" : Str)] (.exc "NoFlow" [("flow", .str y)]) = some false := by simp [isXs, isX1]; decide
      have i5 : isXs [("LookupError" : Str)] (.exc "NoFlow" [("flow", .str y)]) = some true := by simp [isXs, isX1]; decide
      have i6 : isXs [("ValueError" : Str)] (.exc "NoFlow" [("flow", .str y)]) = some false := by simp [isXs, isX1]; decide
      have i7 : isXs [("RuntimeError" : Str)] (.exc "NoFlow" [("flow", .str y)]) = some false := by simp [isXs, isX1]; decide
      have i8 : attrX "flow" (.exc "NoFlow" [("flow", .str y)]) = some (.str y) := by simp [attrX]; decide
      have hc : dCount (.lst [.bl false, .bl false, .bl true, .bl false]) (.bl true) = some (.int 1) := by rfl
      have h1 : PD.dNe (.int (1 : Int)) (.int 1) = some (.bl false) := by rfl
      have hn : PD.dNe (.lst [.bl true, .bl false, .bl false]) (.lst [.bl true, .bl false, .bl false]) = some (.bl false) := by rfl
      refine okS_step fun K hK _ => ?_
      simp [PD.isNon]
      refine hK _ ?_
      clear hK
      refine okS_step fun K hK _ => ?_
      simp [i1, i2, i3]
      refine ⟨sz (by omega), hK _ ?_⟩
      clear hK
      refine okS_step fun K hK _ => ?_
      simp [i4]
      refine ⟨sz (by omega), hK _ ?_⟩
      clear hK
      simp [i5, i6, i7, isLs, hc, h1, hn, i8]
      exact ⟨sz (by omega), sz (by omega)⟩
    · refine ⟨show ("LastFlow" : Str) ∈ XL by decide, show ("LastFlow" : Str) ∈ _ by decide, hK _ ?_⟩
      clear hK
      have i1 : isXs [("NoLine" : Str)] (.exc "LastFlow" []) = some false := by simp [isXs, isX1]; decide
      have i2 : isXs [("Doubled" : Str)] (.exc "LastFlow" []) = some false := by simp [isXs, isX1]; decide
      have i3 : isXs [("NoFlow" : Str)] (.exc "LastFlow" []) = some false := by simp [isXs, isX1]; decide
      have i4 : isXs [("LastFlow" : Str)] (.exc "LastFlow" []) = some true := by simp [isXs, isX1]; decide
      have i5 : isXs [("LookupError" : Str)] (.exc "LastFlow" []) = some false := by simp [isXs, isX1]; decide
      have i6 : isXs [("ValueError" : Str)] (.exc "LastFlow" []) = some false := by simp [isXs, isX1]; decide
      have i7 : isXs [("RuntimeError" : Str)] (.exc "LastFlow" []) = some true := by simp [isXs, isX1]; decide
      have hc : dCount (.lst [.bl false, .bl false, .bl false, .bl true]) (.bl true) = some (.int 1) := by rfl
      have h1 : PD.dNe (.int (1 : Int)) (.int 1) = some (.bl false) := by rfl
      have hn : PD.dNe (.lst [.bl false, .bl false, .bl true]) (.lst [.bl false, .bl false, .bl true]) = some (.bl false) := by rfl
      refine okS_step fun K hK _ => ?_
      simp [PD.isNon]
      refine hK _ ?_
      clear hK
      refine okS_step fun K hK _ => ?_
      simp [i1, i2, i3]
      refine ⟨sz (by omega), hK _ ?_⟩
      clear hK
      refine okS_step fun K hK _ => ?_
      simp [i4]
      refine ⟨sz (by omega), hK _ ?_⟩
      clear hK
      simp [i5, i6, i7, isLs, hc, h1, hn]
      exact ⟨sz (by omega), sz (by omega)⟩
  clear hK
  refine erP_all (δ0 := [some (.int k), some rest, some .non, some .non, none, none, none] ++ Tl "with_flow" 33) (fun P key => ?_) key
  rcases hk with ⟨rfl, r0, r1, r2, rfl, h⟩ | ⟨rfl, r0, r1, rfl, h⟩ | ⟨rfl, r0, r1, rfl, h⟩
  · refine erP_sif ?_
    simp
    refine erP_sset (erP_lf ?_ key)
    simp [erR_of h]
  · refine erP_sif ?_
    simp
    refine erP_sif ?_
    simp
    refine erP_sset (erP_ecallT ?_)
    simp [erR_of h]
    exact key
  · refine erP_sif ?_
    simp
    refine erP_sif ?_
    simp
    refine erP_sset (erP_lf ?_ key)
    simp [erR_of h]
end
end Lw
end
section
namespace PD
open PySem L2 Fa
theorem lays_stZ : ∀ {xs : List Str}, (∀ x ∈ xs, PyData.strOk x = true) → PyData.canLayAll0 (xs.map PyData.str) = true
  | [], _ => rfl
  | x :: xs, h => by 
    have := lays_stZ (xs := xs) fun y hy => h y (List.mem_cons_of_mem _ hy)
    simp [PyData.canLayAll0, PyData.canLay0, h x (by simp), this]
theorem eqvAll_stZ : ∀ {xs ys : List Str}, PyData.eqvAll (xs.map PyData.str) (ys.map PyData.str) = decide (xs = ys)
  | [], [] => by simp [PyData.eqvAll]
  | [], _ :: _ => by simp [PyData.eqvAll]
  | _ :: _, [] => by simp [PyData.eqvAll]
  | x :: xs, y :: ys => by
    rw [List.map_cons, List.map_cons, PyData.eqvAll, eqvAll_stZ, Bool.eq_iff_iff]
    simp [PyData.eqv]
theorem eqv_rowZ {q r : Row Str} (h : PyData.eqv (pyRow q) (pyRow r) = true) : q = r := by
  obtain ⟨a, b, c, d, e⟩ := q
  obtain ⟨a', b', c', d', e'⟩ := r
  have hh : ∀ {x y : Option Nat}, PyData.eqv (pyHi x) (pyHi y) = true → x = y := fun {x y} h => by
    cases x <;> cases y <;> simp [pyHi, PyData.eqv] at h ⊢
    omega
  simp only [pyRow, PyData.eqv, PyData.eqvAll, eqvAll_stZ, Bool.and_eq_true, Bool.and_true, beq_iff_eq, decide_eq_true_eq] at h
  obtain ⟨h1, h2, h3, h4, h5⟩ := h
  have h6 := hh h5
  have h7 : c = c' := by omega
  have h8 : d = d' := by omega
  subst h1 h2 h6 h7 h8
  rfl
theorem lay_rowZ {r : Row Str} (h : PyData.strOk r.name = true ∧ ∀ x ∈ r.lines, PyData.strOk x = true) : PyData.canLay0 (pyRow r) = true ∧ PyData.depth (pyRow r) ≤ 5 := by
  unfold pyRow
  cases r.hi <;> simp [pyHi, PyData.canLay0, PyData.canLayAll0, lays_stZ h.2, h.1, PyData.depth, PyData.depthAll, dep_strs]
theorem Tu.rowC {r : Row Str} (h : PyData.strOk r.name = true ∧ ∀ x ∈ r.lines, PyData.strOk x = true) (hl : r.lines.length ≤ 1000) : Tu 2 (encRow r) := Tu.tup (by simp) fun x hx => by
  simp at hx
  rcases hx with rfl | rfl | rfl | rfl | rfl
  · exact Tu.str h.1
  · refine Tu.tup (by rw [List.length_map]; exact hl) fun x hx => ?_
    obtain ⟨y, hy, rfl⟩ := List.mem_map.1 hx
    exact Tu.str (h.2 y hy)
  · exact Tu.int
  · exact Tu.int
  · cases r.hi
    · exact Tu.non
    · exact Tu.int
theorem ne_row {q r : Row Str} (hn : q.name = r.name → q = r) (hq : PyData.strOk q.name = true ∧ ∀ x ∈ q.lines, PyData.strOk x = true) (hr : PyData.strOk r.name = true ∧ ∀ x ∈ r.lines, PyData.strOk x = true) (hl : r.lines.length ≤ 1000) : dNe (encRow q) (encRow r) = some (.bl (!decide (q.name = r.name))) := by
  by_cases e : q.name = r.name
  · obtain rfl := hn e
    rw [(Tu.rowC hq hl).gd.dNe (by omega)]; simp
  · have s1 : SeqAt.shaped (pyRow r) = true := by
      have := (lay_rowZ hr).2
      simp [SeqAt.shaped, (lay_rowZ hr).1]; omega
    have s2 : SeqAt.shaped (pyRow q) = true := by
      have := (lay_rowZ hq).2
      simp [SeqAt.shaped, (lay_rowZ hq).1]; omega
    have e2 : PyData.eqv (pyRow q) (pyRow r) = false := by
      cases h : PyData.eqv (pyRow q) (pyRow r) with
      | false => rfl
      | true => exact absurd (congrArg Row.name (eqv_rowZ h)) e
    simp only [dNe, eqD, toPy_row, Option.bind_some, s1, s2, e2]
    simp [e]
end PD
namespace Lw
open PySem L2 PD Fa
section
variable {N M : Net Str}
theorem lst_up : ∀ {n : Nat} {d : D}, Gd n d → lstN (n + 1) d = lstN n d
  | 0, d, h => by rw [lstN_leaf h, lstN_leaf h]
  | n + 1, d, h => by
    rcases h with h | ⟨xs, rfl | rfl, hl, h⟩
    · rw [lstN_leaf h, lstN_leaf h]
    · show D.lst _ = D.lst _
      rw [List.map_congr_left fun x hx => lst_up (h x hx)]
    · show D.lst _ = D.lst _
      rw [List.map_congr_left fun x hx => lst_up (h x hx)]
theorem tup_softW {d : D} (h : Tu 4 d) : d_tupled 12 [lstN 10 d] = some (.ok d) := by
  rw [← lst_up (h.mono (show 4 ≤ 10 by omega)).gd]
  exact tup_soft h
structure CaseOk (k : Int) (rest due : D) : Prop where
  gr : Gd 6 rest
  gd : Gd 6 due
  hard : d__law_heard [.int k, rest] = some (.ok due)
  soft : d__law_heard [.int k, lstN 11 rest] = some (.ok due)
theorem gd_of {n : Nat} {xs : List D} (hl : xs.length ≤ 1000) (h : ∀ x ∈ xs, Gd n x) : Gd (n + 1) (.lst xs) := .inr ⟨xs, .inl rfl, hl, h⟩
theorem gd_told {x y : Str} (hx : PyData.strOk x = true) (hy : PyData.strOk y = true) : Gd 6 (.lst [.str x, .str y]) := (gd_of (n := 1) (by simp) fun z hz => by
  simp at hz
  rcases hz with rfl | rfl
  · exact (Tu.str (n := 1) hx).gd
  · exact (Tu.str (n := 1) hy).gd).mono (by omega)
theorem case_wide (ok : NetW N) {c : Str × Nat} (hc : c ∈ N.wires) {m : Nat} : CaseOk 0 (.lst [encNet N, .str c.1, .int (m : Int)]) (encNet ⟨wideW N c.1 m, N.rows⟩) := by
  have hx : c.1 ∈ N.wires.map (·.1) := List.mem_map.2 ⟨c, hc, rfl⟩
  have okW : NetW ⟨wideW N c.1 m, N.rows⟩ := by
    have e : (wideW N c.1 m).map (·.1) = N.wires.map (·.1) := by unfold wideW; rw [List.map_map]; rfl
    refine ⟨⟨ok.ok.nd, by show ((wideW N c.1 m).map (·.1)).Nodup; rw [e]; exact ok.ok.wd, fun r hr => ⟨(ok.ok.ln r hr).1, fun x hx => ?_⟩, ok.ok.few⟩, ok.rn, fun d hd => ?_, by show (wideW N c.1 m).length ≤ 9; unfold wideW; rw [List.length_map]; exact ok.fw, ok.ll, by show ((wideW N c.1 m).map (·.1)).Pairwise sle; rw [e]; exact ok.wa, ok.ra⟩
    · obtain ⟨d, hd⟩ := (ok.ok.ln r hr).2 x hx
      exact ⟨_, List.mem_map.2 ⟨(x, d), hd, rfl⟩⟩
    · obtain ⟨d2, hd2, rfl⟩ := List.mem_map.1 hd
      exact ok.wn d2 hd2
  refine ⟨?_, ((netW_tu okW).mono (by omega)).gd, heard0 (widened_okW ok (tup_id (netW_tu ok)) hx), heard0 (widened_okW ok (tup_softW (netW_tu ok)) hx)⟩
  refine (gd_of (n := 4) (by simp) fun z hz => ?_).mono (by omega)
  simp at hz
  rcases hz with rfl | rfl | rfl
  · exact (netW_tu ok).gd
  · exact (Tu.str (n := 4) (ok.wn c hc)).gd
  · exact (Tu.int (n := 4)).gd
theorem case_noline (ok : NetW N) {x : Str} (hs : PyData.strOk x = true) (hx : x ∉ N.wires.map (·.1)) {m : Int} : CaseOk 0 (.lst [encNet N, .str x, .int m]) (.lst [.str "line", .str x]) := by
  refine ⟨?_, gd_told (by decide +kernel) hs, heard_er (.inl ⟨rfl, _, _, _, rfl, widened_no ok (tup_id (netW_tu ok)) hx⟩) (.inl ⟨x, rfl, rfl⟩), heard_er (.inl ⟨rfl, _, _, _, rfl, widened_no ok (tup_softW (netW_tu ok)) hx⟩) (.inl ⟨x, rfl, rfl⟩)⟩
  refine (gd_of (n := 4) (by simp) fun z hz => ?_).mono (by omega)
  simp at hz
  rcases hz with rfl | rfl | rfl
  · exact (netW_tu ok).gd
  · exact (Tu.str (n := 4) hs).gd
  · exact (Tu.int (n := 4)).gd
theorem gd_ask (ok : NetW N) {d : D} (h : Tu 4 d) : Gd 6 (.lst [encNet N, d]) := by
  refine (gd_of (n := 4) (by simp) fun z hz => ?_).mono (by omega)
  simp at hz
  rcases hz with rfl | rfl
  · exact (netW_tu ok).gd
  · exact h.gd
theorem case_twice (ok : NetW N) {x : Str} {zs : List D} (ht : Tu 4 (.tup (.str x :: zs))) (hx : x ∈ N.rows.map Row.name) : CaseOk 1 (.lst [encNet N, .tup (.str x :: zs)]) (.lst [.str "twice", .str x]) := by
  have hs : PyData.strOk x = true := by
    obtain ⟨r, hr, rfl⟩ := List.mem_map.1 hx
    exact (ok.rn r hr).1
  exact ⟨gd_ask ok ht, gd_told (by decide +kernel) hs, heard_er (.inr (.inl ⟨rfl, _, _, rfl, with_twice ok (tup_id (netW_tu ok)) (tup_id ht) hx⟩)) (.inr (.inl ⟨x, rfl, rfl⟩)), heard_er (.inr (.inl ⟨rfl, _, _, rfl, with_twice ok (tup_softW (netW_tu ok)) (tup_softW ht) hx⟩)) (.inr (.inl ⟨x, rfl, rfl⟩))⟩
theorem case_missing (ok : NetW N) {x y : Str} {pre post : List Str} {zs : List D} (ht : Tu 4 (.tup (.str x :: .tup ((pre ++ y :: post).map .str) :: zs))) (hx : x ∉ N.rows.map Row.name) (hs : PyData.strOk y = true) (hp : ∀ z ∈ pre, z ∈ N.wires.map (·.1)) (hy : y ∉ N.wires.map (·.1)) : CaseOk 1 (.lst [encNet N, .tup (.str x :: .tup ((pre ++ y :: post).map .str) :: zs)]) (.lst [.str "line", .str y]) :=
  ⟨gd_ask ok ht, gd_told (by decide +kernel) hs, heard_er (.inr (.inl ⟨rfl, _, _, rfl, with_noline ok (tup_id (netW_tu ok)) (tup_id ht) hx hp hy⟩)) (.inl ⟨y, rfl, rfl⟩), heard_er (.inr (.inl ⟨rfl, _, _, rfl, with_noline ok (tup_softW (netW_tu ok)) (tup_softW ht) hx hp hy⟩)) (.inl ⟨y, rfl, rfl⟩)⟩
theorem case_nobody (ok : NetW N) {x : Str} (hs : PyData.strOk x = true) (hx : x ∉ N.rows.map Row.name) : CaseOk 2 (.lst [encNet N, .str x]) (.lst [.str "flow", .str x]) :=
  ⟨gd_ask ok (Tu.str hs), gd_told (by decide +kernel) hs, heard_er (.inr (.inr ⟨rfl, _, _, rfl, without_no ok (tup_id (netW_tu ok)) hx⟩)) (.inr (.inr (.inl ⟨x, rfl, rfl⟩))), heard_er (.inr (.inr ⟨rfl, _, _, rfl, without_no ok (tup_softW (netW_tu ok)) hx⟩)) (.inr (.inr (.inl ⟨x, rfl, rfl⟩)))⟩
theorem case_last (ok : NetW N) {x : Str} (hx : x ∈ N.rows.map Row.name) (h1 : N.rows.length = 1) : CaseOk 2 (.lst [encNet N, .str x]) (.lst [.str "last"]) := by
  have hs : PyData.strOk x = true := by
    obtain ⟨r, hr, rfl⟩ := List.mem_map.1 hx
    exact (ok.rn r hr).1
  refine ⟨gd_ask ok (Tu.str hs), ?_, heard_er (.inr (.inr ⟨rfl, _, _, rfl, without_last ok (tup_id (netW_tu ok)) hx h1⟩)) (.inr (.inr (.inr ⟨rfl, rfl⟩))), heard_er (.inr (.inr ⟨rfl, _, _, rfl, without_last ok (tup_softW (netW_tu ok)) hx h1⟩)) (.inr (.inr (.inr ⟨rfl, rfl⟩)))⟩
  refine (gd_of (n := 1) (by simp) fun z hz => ?_).mono (by omega)
  simp at hz
  rw [hz]
  exact (Tu.str (n := 1) (by decide +kernel)).gd
theorem netW_rows (ok : NetW N) {S : List (Row Str)} (h8 : S.length ≤ 8) (hn : (S.map Row.name).Nodup) (ha : (S.map Row.name).Pairwise sle) (hr : ∀ r ∈ S, r ∈ N.rows ∨ ((PyData.strOk r.name = true ∧ r.lines ≠ []) ∧ (∀ x ∈ r.lines, x ∈ N.wires.map (·.1)) ∧ r.lines.length ≤ 100)) : NetW ⟨N.wires, S⟩ :=
  ⟨⟨hn, ok.ok.wd, fun r h => (hr r h).elim (ok.ok.ln r) fun h => ⟨h.1.2, fun x hx => by
    obtain ⟨c, hc, rfl⟩ := List.mem_map.1 (h.2.1 x hx)
    exact ⟨c.2, hc⟩⟩, h8⟩, fun r h => (hr r h).elim (ok.rn r) fun h => ⟨h.1.1, fun x hx => by
    obtain ⟨c, hc, rfl⟩ := List.mem_map.1 (h.2.1 x hx)
    exact ok.wn c hc⟩, ok.wn, ok.fw, fun r h => (hr r h).elim (ok.ll r) fun h => h.2.2, ok.wa, ha⟩
theorem case_away (ok : NetW N) {x : Str} (hx : x ∈ N.rows.map Row.name) (h1 : N.rows.length ≠ 1) : CaseOk 2 (.lst [encNet N, .str x]) (encNet ⟨N.wires, N.rows.filter fun q => decide (q.name ≠ x)⟩) := by
  have hs : PyData.strOk x = true := by
    obtain ⟨r, hr, rfl⟩ := List.mem_map.1 hx
    exact (ok.rn r hr).1
  have okR : NetW ⟨N.wires, N.rows.filter fun q => decide (q.name ≠ x)⟩ := netW_rows ok (Nat.le_trans (List.length_filter_le _ _) ok.ok.few) (ok.ok.nd.sublist (List.filter_sublist.map _)) (ok.ra.sublist (List.filter_sublist.map _)) fun r hr => .inl ((List.mem_filter.1 hr).1)
  exact ⟨gd_ask ok (Tu.str hs), ((netW_tu okR).mono (by omega)).gd, heard2 (without_okW ok (tup_id (netW_tu ok)) hx h1), heard2 (without_okW ok (tup_softW (netW_tu ok)) hx h1)⟩
end
end Lw
end
section
namespace Lw
open PySem L2 PD Fa
section
variable {N M : Net Str}
theorem okO_ofT {n : Nat} {B : List D} {xs : List D} {Q : D × List D → Prop} (hB : Box n B) (hn : n < 2 ^ 40) (h0 : xs ≠ []) (hl : xs.length < 2 ^ 60) (q : ∀ d B', d ∈ xs → Box (n + 1) B' → Q (d, B')) : okO (d__law_of B [.tup xs]) Q := by
  have h : ∃ d B', d__law_of B [.tup xs] = some (d, B') ∧ (d ∈ xs ∧ Box (n + 1) B') := by
    refine denB_ok rfl ?_
    simp
    have hpos : 0 < xs.length := List.length_pos_iff.2 h0
    refine okO_take hB (by omega) (by omega) (by omega) fun i B1 i0 i1 hB1 => ?_
    obtain ⟨i, rfl⟩ := Int.eq_ofNat_of_zero_le i0
    have hi : i < xs.length := by omega
    simp [hi]
    exact hB1
  obtain ⟨d, B', e, h1, h2⟩ := h
  rw [e, okO_some]; exact q d B' h1 h2
theorem rows_oneO {T E : List (Row Str)} (hp : T.Perm E) (hn : (E.map Row.name).Nodup) (h1 : (T.map Row.name).Pairwise sle) (h2 : (E.map Row.name).Pairwise sle) : T = E := by
  rw [List.pairwise_map] at h1 h2
  refine List.Perm.eq_of_pairwise (le := fun a b : Row Str => sle a.name b.name) (fun a b ha hb q1 q2 => ?_) h1 h2 hp
  have e : a.name = b.name := leD_anti q1 q2
  exact nodup_inj hn (hp.mem_iff.1 ha) hb e
theorem case_new (ok : NetW N) (h7 : N.rows.length ≤ 7) {x : Row Str} (hx : x.name ∉ N.rows.map Row.name) (hs : PyData.strOk x.name = true) (h0 : x.lines ≠ []) (hl : ∀ y ∈ x.lines, y ∈ N.wires.map (·.1)) (hll : x.lines.length ≤ 100) :
    ∃ S : List (Row Str), dSorted3 (.tup ((N.rows ++ [x]).map encRow)) = some (.lst (S.map encRow)) ∧ S.length ≤ 8 ∧ CaseOk 1 (.lst [encNet N, encRow x]) (encNet ⟨N.wires, S⟩) ∧ d_with_flow [encNet N, encRow x] = some (.ok (encNet ⟨N.wires, S⟩)) := by
  have hnd : ((N.rows ++ [x]).map Row.name).Nodup := by
    rw [List.map_append, List.nodup_append]
    refine ⟨ok.ok.nd, by simp, fun a ha b hb e => ?_⟩
    rw [List.mem_singleton.1 hb] at e
    exact hx (e ▸ ha)
  obtain ⟨S, e, p, a⟩ : ∃ S : List (Row Str), dSorted3 (.tup ((N.rows ++ [x]).map encRow)) = some (.lst (S.map encRow)) ∧ S.Perm (N.rows ++ [x]) ∧ (S.map Row.name).Pairwise sle := sorted_rows hnd
  have hS8 : S.length ≤ 8 := by rw [p.length_eq, List.length_append]; simp; omega
  have hSn : (S.map Row.name).Nodup := (p.map _).nodup_iff.2 hnd
  have okS : NetW ⟨N.wires, S⟩ := netW_rows ok hS8 hSn a fun r hr => by
    rcases List.mem_append.1 (p.mem_iff.1 hr) with h | h
    · exact .inl h
    · cases List.mem_singleton.1 h
      exact .inr ⟨⟨hs, h0⟩, hl, hll⟩
  have tx : Tu 4 (encRow x) := (Tu.rowC ⟨hs, fun y hy => by
    obtain ⟨c, hc, rfl⟩ := List.mem_map.1 (hl y hy)
    exact ok.wn c hc⟩ (by omega)).mono (by omega)
  have go : ∀ {d f : D}, d_tupled 12 [d] = some (.ok (encNet N)) → d_tupled 12 [f] = some (.ok (encRow x)) → d_with_flow [d, f] = some (.ok (encNet ⟨N.wires, S⟩)) := fun hd hf => by
    obtain ⟨S2, e2, p2, a2⟩ := with_okW ok hd hf hx hl (by omega)
    rw [e2, rows_oneO (p2.trans p.symm) hSn a2 a]
  exact ⟨S, e, hS8, ⟨gd_ask ok tx, ((netW_tu okS).mono (by omega)).gd, heard1 (go (tup_id (netW_tu ok)) (tup_id tx)), heard1 (go (tup_softW (netW_tu ok)) (tup_softW tx))⟩, go (tup_id (netW_tu ok)) (tup_id tx)⟩
theorem sorted_lines : ∀ x ∈ nm6, dSorted3 (.lst [.str x, .str "none", .str "zz"]) = some (.lst [.str x, .str "none", .str "zz"]) := by
  intro x hx
  simp [nm6] at hx
  rcases hx with rfl | rfl | rfl | rfl | rfl | rfl <;> rfl
end
end Lw
end
section
namespace Lw
open PySem L2 PD Fa
section
variable {N M : Net Str}
theorem toPys_rowsO : ∀ {rs : List (Row Str)}, toPys (rs.map encRow) = some (rs.map pyRow)
  | [] => rfl
  | r :: rs => by simp [toPys, toPy_row, toPys_rowsO (rs := rs)]
theorem ne_nilT {R : List (Row Str)} (hR : ∀ r ∈ R, (PyData.strOk r.name = true ∧ ∀ x ∈ r.lines, PyData.strOk x = true) ∧ r.lines.length ≤ 1000) (hne : R ≠ []) (hl : R.length ≤ 1000) : dNe (.tup (R.map encRow)) (.tup []) = some (.bl true) := by
  have g : Gd 3 (.tup (R.map encRow)) := (Tu.tup (by rw [List.length_map]; exact hl) fun x hx => by
    obtain ⟨r, hr, rfl⟩ := List.mem_map.1 hx
    exact Tu.rowC (hR r hr).1 (hR r hr).2).gd
  obtain ⟨p, e1, e2, e3, e4⟩ := g.py
  have e : toPy (.tup (R.map encRow)) = some (.tuple (R.map pyRow)) := by simp [toPy, toPys_rowsO]
  rw [e] at e1
  cases e1
  have s1 : SeqAt.shaped (.tuple (R.map pyRow)) = true := by simp [SeqAt.shaped, e2]; omega
  have s2 : SeqAt.shaped (.tuple []) = true := by decide +kernel
  have e5 : PyData.eqv (.tuple (R.map pyRow)) (.tuple []) = false := by
    cases R with
    | nil => exact absurd rfl hne
    | cons r R => simp [PyData.eqv, PyData.eqvAll]
  have e6 : toPy (.tup []) = some (.tuple []) := rfl
  simp only [dNe, eqD, e, e6, Option.bind_some, s1, s2, e5]
  rfl
def IsCase (d : D) : Prop := ∃ (k : Int) (rest due : D), d = .tup [.int k, rest, due] ∧ CaseOk k rest due
set_option maxHeartbeats 4000000 in
theorem cases_okH {n : Nat} {B : List D} (hB : Box n B) (hn : n < 2 ^ 29) (h : Drawn N) (hw : N.wires.length ≤ 9) (h7 : N.rows.length ≤ 7) (w0 : N.wires ≠ []) (r0 : N.rows ≠ []) : ∃ d B', d__law_cases B [encNet N] = some (d, B') ∧ (∃ xs : List D, d = .lst xs ∧ ∀ x ∈ xs, IsCase x) ∧ Box (n + 100) B' := by
  have ok := drawn_netW h hw (by omega)
  have hN0 : dIx (encNet N) (.int 0) = some (.tup (N.wires.map encWire)) := rfl
  have hN1 : dIx (encNet N) (.int 1) = some (.tup (N.rows.map encRow)) := rfl
  have e1 : 1 ≤ sizeLine := sz (by omega)
  have e2 : 2 ≤ sizeLine := sz (by omega)
  have e3 : 3 ≤ sizeLine := sz (by omega)
  have e5 : 5 ≤ sizeLine := sz (by omega)
  have l1 : 1 < sizeLine := Nat.lt_of_lt_of_le (show 1 < 100 by omega) (sz (by omega))
  have l2 : 2 < sizeLine := Nat.lt_of_lt_of_le (show 2 < 100 by omega) (sz (by omega))
  have l3 : 3 < sizeLine := Nat.lt_of_lt_of_le (show 3 < 100 by omega) (sz (by omega))
  have l4 : 4 < sizeLine := Nat.lt_of_lt_of_le (show 4 < 100 by omega) (sz (by omega))
  have l5 : 5 < sizeLine := Nat.lt_of_lt_of_le (show 5 < 100 by omega) (sz (by omega))
  have l6 : 6 < sizeLine := Nat.lt_of_lt_of_le (show 6 < 100 by omega) (sz (by omega))
  have l7 : 7 < sizeLine := Nat.lt_of_lt_of_le (show 7 < 100 by omega) (sz (by omega))
  refine denB_ok rfl ?_
  refine okS_step fun K hK _ => ?_
  simp [hN0]
  refine okO_ofT hB (by omega) (by simp [w0]) (by simp; omega) fun dl B1 hdl hB1 => ?_
  obtain ⟨c, hc, rfl⟩ := List.mem_map.1 hdl
  simp [encWire]
  refine okO_take hB1 (by omega) (by omega) (by omega) fun g B2 g0 g1 hB2 => ?_
  obtain ⟨g, rfl⟩ := Int.eq_ofNat_of_zero_le g0
  simp
  refine hK _ ?_
  clear hK
  refine okS_step fun K hK _ => ?_
  have hW := setwide_okW ok hc (m := 1 + g)
  rw [Int.natCast_add] at hW
  simp at hW
  simp [hW, e1, e3]
  have q1 : IsCase (.tup [.int 0, .lst [encNet N, .str c.1, .int (1 + (g : Int))], encNet ⟨wideW N c.1 (1 + g), N.rows⟩]) := ⟨0, _, _, rfl, by
    have := case_wide ok hc (m := 1 + g)
    rw [show ((1 + g : Nat) : Int) = 1 + (g : Int) by omega] at this
    exact this⟩
  generalize D.tup [.int 0, .lst [encNet N, .str c.1, .int (1 + (g : Int))], encNet ⟨wideW N c.1 (1 + g), N.rows⟩] = t1 at *
  refine hK _ ?_
  clear hK hW
  have nameN : ∀ x : Str, x ∉ nm6 → x ∉ N.wires.map (·.1) := fun x hx hm => by
    obtain ⟨c, hc, rfl⟩ := List.mem_map.1 hm
    exact hx (h.ws c hc).1
  have nameR : ∀ x : Str, x ∉ nm9 → x ∉ N.rows.map Row.name := fun x hx hm => by
    obtain ⟨r, hr, rfl⟩ := List.mem_map.1 hm
    exact hx (h.rs r hr).n
  have q2 : IsCase (.tup [.int 0, .lst [encNet N, .str "none", .int (1 + (g : Int))], .lst [.str "line", .str "none"]]) := ⟨0, _, _, rfl, case_noline ok (by decide +kernel) (nameN _ (by decide +kernel))⟩
  refine okS_step fun K hK _ => ?_
  simp [e2, e3, l1]
  generalize D.tup [.int 0, .lst [encNet N, .str "none", .int (1 + (g : Int))], .lst [.str "line", .str "none"]] = t2 at *
  refine hK _ ?_
  clear hK
  refine okS_step fun K hK _ => ?_
  obtain ⟨_, B3, e, ⟨x, rfl, hxn, hx0, hxs, _⟩, hB3⟩ := row_okW hB2 (by omega) ok w0 (x := "mm") (kind := 2)
  simp at e
  simp [e]
  refine hK _ ?_
  clear hK e
  have hl : ∀ y ∈ x.lines, y ∈ N.wires.map (·.1) := fun y hy => hxs.subset hy
  have hll : x.lines.length ≤ 100 := Nat.le_trans hxs.length_le (by rw [List.length_map]; omega)
  have hmm : x.name ∉ N.rows.map Row.name := by rw [hxn]; exact nameR _ (by decide +kernel)
  obtain ⟨S, eS, hS8, q3, _⟩ := case_new ok h7 hmm (by rw [hxn]; decide +kernel) hx0 hl hll
  have hadd : dAdd (.tup (N.rows.map encRow)) (.tup [encRow x]) = some (.tup ((N.rows ++ [x]).map encRow)) := by
    rw [List.map_append]
    exact dAdd_tup (by simp; omega)
  refine okS_step fun K hK _ => ?_
  have eN : encNet ⟨N.wires, S⟩ = .tup [.tup (N.wires.map encWire), .tup (S.map encRow)] := rfl
  rw [eN] at q3
  generalize (N.rows ++ [x]).map encRow = Rx at *
  simp only [dSorted3_tup] at eS
  have lS : S.length ≤ sizeLine := sz (by omega)
  simp [hN0, hN1, hadd, e1, e2, e3, l2, eS, lS]
  have q3' : IsCase (.tup [.int 1, .lst [encNet N, encRow x], .tup [.tup (N.wires.map encWire), .tup (S.map encRow)]]) := ⟨1, _, _, rfl, q3⟩
  generalize D.tup [.int 1, .lst [encNet N, encRow x], .tup [.tup (N.wires.map encWire), .tup (S.map encRow)]] = t3 at *
  refine hK _ ?_
  clear hK eS q3
  -- a flow of a name that is there
  refine okS_step fun K hK _ => ?_
  simp [hN1]
  refine okO_ofT hB3 (by omega) (by simp [r0]) (by simp; omega) fun dr B4 hdr hB4 => ?_
  obtain ⟨q, hq, rfl⟩ := List.mem_map.1 hdr
  refine hK _ ?_
  clear hK
  have hqm : q.name ∈ N.rows.map Row.name := List.mem_map.2 ⟨q, hq, rfl⟩
  have hqs := (ok.rn q hq).1
  have hi0 : dIx (encRow q) (.int 0) = some (.str q.name) := rfl
  have hsl : dSl (encRow x) (some 1) none = some (.tup [.tup (x.lines.map .str), .int x.w, .int x.lo, encHi x.hi]) := dSl_tail
  have hcat : dAdd (.tup [.str q.name]) (.tup [.tup (x.lines.map .str), .int x.w, .int x.lo, encHi x.hi]) = some (.tup [.str q.name, .tup (x.lines.map .str), .int x.w, .int x.lo, encHi x.hi]) := dAdd_tup (by simp)
  have tq : Tu 4 (.tup [.str q.name, .tup (x.lines.map .str), .int x.w, .int x.lo, encHi x.hi]) := (Tu.rowC (r := ⟨q.name, x.lines, x.w, x.lo, x.hi⟩) ⟨hqs, fun y hy => by
    obtain ⟨c, hc, rfl⟩ := List.mem_map.1 (hl y hy)
    exact ok.wn c hc⟩ (by show x.lines.length ≤ 1000; omega)).mono (by omega)
  have q4 : IsCase (.tup [.int 1, .lst [encNet N, .tup [.str q.name, .tup (x.lines.map .str), .int x.w, .int x.lo, encHi x.hi]], .lst [.str "twice", .str q.name]]) := ⟨1, _, _, rfl, case_twice ok tq hqm⟩
  refine okS_step fun K hK _ => ?_
  simp [hi0, hsl, hcat, e1, e2, e3, l3]
  generalize D.tup [.int 1, .lst [encNet N, .tup [.str q.name, .tup (x.lines.map .str), .int x.w, .int x.lo, encHi x.hi]], .lst [.str "twice", .str q.name]] = t4 at *
  refine hK _ ?_
  clear hK
  -- .. and over no line
  have tz : Tu 4 (.tup [.str q.name, .tup [.str "none"], .int 1, .int 0, .non]) := (Tu.rowC (r := ⟨q.name, ["none"], 1, 0, none⟩) ⟨hqs, fun y hy => by
    cases List.mem_singleton.1 hy
    decide +kernel⟩ (by show 1 ≤ 1000; omega)).mono (by omega)
  have q5 : IsCase (.tup [.int 1, .lst [encNet N, .tup [.str q.name, .tup [.str "none"], .int 1, .int 0, .non]], .lst [.str "twice", .str q.name]]) := ⟨1, _, _, rfl, case_twice ok tz hqm⟩
  refine okS_step fun K hK _ => ?_
  simp [hi0, e1, e2, e3, e5, l4]
  generalize D.tup [.int 1, .lst [encNet N, .tup [.str q.name, .tup [.str "none"], .int 1, .int 0, .non]], .lst [.str "twice", .str q.name]] = t5 at *
  refine hK _ ?_
  clear hK
  -- over a line that is not there
  have hsl3 := sorted_lines c.1 (h.ws c hc).1
  simp only [dSorted3_lst] at hsl3
  refine okS_step fun K hK _ => ?_
  simp [hsl3, e3]
  refine hK _ ?_
  clear hK
  have tm : Tu 4 (.tup (.str "mm" :: .tup (([c.1] ++ ("none" : Str) :: [("zz" : Str)]).map .str) :: [.int 1, .int 0, .non])) := (Tu.rowC (r := ⟨"mm", [c.1, "none", "zz"], 1, 0, none⟩) ⟨show PyData.strOk "mm" = true by decide +kernel, fun y hy => by
    simp at hy
    rcases hy with rfl | rfl | rfl
    · exact ok.wn c hc
    · decide +kernel
    · decide +kernel⟩ (by show 3 ≤ 1000; omega)).mono (by omega)
  have q6 : IsCase (.tup [.int 1, .lst [encNet N, .tup [.str "mm", .tup [.str c.1, .str "none", .str "zz"], .int 1, .int 0, .non]], .lst [.str "line", .str "none"]]) := ⟨1, _, _, rfl, case_missing ok tm (nameR _ (by decide +kernel)) (by decide +kernel) (fun z hz => by
    cases List.mem_singleton.1 hz
    exact List.mem_map.2 ⟨c, hc, rfl⟩) (nameN _ (by decide +kernel))⟩
  refine okS_step fun K hK _ => ?_
  simp [e1, e2, e3, e5, l5]
  generalize D.tup [.int 1, .lst [encNet N, .tup [.str "mm", .tup [.str c.1, .str "none", .str "zz"], .int 1, .int 0, .non]], .lst [.str "line", .str "none"]] = t6 at *
  refine hK _ ?_
  clear hK
  -- without one
  refine okS_step fun K hK _ => ?_
  simp [hN0, hN1]
  refine okE_compR (enc := encRow) (T := fun r => !decide (r.name = q.name)) (F := encRow) (fun r hr => ?_) (by simp only [List.length_nil, Nat.zero_add]; exact sz (by omega)) ?_
  · have hne := ne_row (fun e => nodup_inj ok.ok.nd hr hq e) (ok.rn r hr) (ok.rn q hq) (by have := ok.ll q hq; omega)
    simp [hne]
  rw [List.nil_append]
  have hf : N.rows.filter (fun r => !decide (r.name = q.name)) = N.rows.filter fun p => decide (p.name ≠ q.name) := by
    congr 1; funext p; simp
  rw [hf]
  have hRl : (N.rows.filter fun p => decide (p.name ≠ q.name)).length ≤ sizeLine := sz (Nat.le_trans (List.length_filter_le _ _) (by omega))
  have hAway : N.rows.length ≠ 1 → IsCase (.tup [.int 2, .lst [encNet N, .str q.name], .tup [.tup (N.wires.map encWire), .tup ((N.rows.filter fun p => decide (p.name ≠ q.name)).map encRow)]]) := fun h1 => ⟨2, _, _, rfl, case_away ok hqm h1⟩
  have hLast : N.rows.length = 1 → IsCase (.tup [.int 2, .lst [encNet N, .str q.name], .lst [.str "last"]]) := fun h1 => ⟨2, _, _, rfl, case_last ok hqm h1⟩
  have hE1 : N.rows.length = 1 → (N.rows.filter fun p => decide (p.name ≠ q.name)) = [] := fun h1 => by
    obtain ⟨z, hz⟩ := List.length_eq_one_iff.1 h1
    rw [hz] at hq ⊢
    cases List.mem_singleton.1 hq
    simp
  have hE2 : N.rows.length ≠ 1 → (N.rows.filter fun p => decide (p.name ≠ q.name)) ≠ [] := fun h1 e => h1 (by
    have h2 : ∀ p ∈ N.rows, p = q := fun p hp => by
      refine nodup_inj ok.ok.nd hp hq (Classical.byContradiction fun hne => ?_)
      have := List.filter_eq_nil_iff.1 e p hp
      simp [hne] at this
    have hnd := ok.ok.nd
    match hm : N.rows with
    | [] => exact absurd hm r0
    | [z] => rfl
    | a :: b :: l =>
      exfalso
      have ha := h2 a (by rw [hm]; simp)
      have hb := h2 b (by rw [hm]; simp)
      rw [hm] at hnd
      simp [ha, hb] at hnd)
  have hRr : ∀ r ∈ N.rows.filter (fun p => decide (p.name ≠ q.name)), (PyData.strOk r.name = true ∧ ∀ x ∈ r.lines, PyData.strOk x = true) ∧ r.lines.length ≤ 1000 := fun r hr => ⟨ok.rn r (List.mem_filter.1 hr).1, by have := ok.ll r (List.mem_filter.1 hr).1; omega⟩
  have hRl2 : (N.rows.filter fun p => decide (p.name ≠ q.name)).length ≤ 1000 := Nat.le_trans (List.length_filter_le _ _) (by omega)
  generalize (N.rows.filter fun p => decide (p.name ≠ q.name)) = R2 at *
  simp [e2, hRl]
  refine hK _ ?_
  clear hK
  have q8 : IsCase (.tup [.int 2, .lst [encNet N, .str "nobody"], .lst [.str "flow", .str "nobody"]]) := ⟨2, _, _, rfl, case_nobody ok (by decide +kernel) (nameR _ (by decide +kernel))⟩
  have hi1 : ∀ a b : D, dIx (.tup [a, b]) (.int 1) = some b := fun _ _ => rfl
  by_cases h1 : N.rows.length = 1
  · have hR0 := hE1 h1
    subst hR0
    have h0 : dNe (.tup []) (.tup []) = some (.bl false) := by rfl
    refine okS_step fun K hK _ => ?_
    simp [hi0, h0, e1, e2, e3, l6]
    refine hK _ ?_
    clear hK
    refine okS_step fun K hK _ => ?_
    simp [e2, e3, l7]
    refine hK _ ?_
    clear hK
    simp
    exact ⟨⟨q1, q2, q3', q4, q5, q6, hLast h1, q8⟩, hB4.mono (by omega)⟩
  · have hR0 := ne_nilT hRr (hE2 h1) hRl2
    refine okS_step fun K hK _ => ?_
    simp [hi0, hR0, e1, e2, e3, l6]
    refine hK _ ?_
    clear hK
    refine okS_step fun K hK _ => ?_
    simp [e2, e3, l7]
    refine hK _ ?_
    clear hK
    simp
    exact ⟨⟨q1, q2, q3', q4, q5, q6, hAway h1, q8⟩, hB4.mono (by omega)⟩
end
end Lw
end
section
namespace PD
open PySem L2
theorem pls_all : ∀ {xs : List D}, (∀ x ∈ xs, pl x = true) → pls xs = true
  | [], _ => by simp [pls]
  | x :: xs, h => by simp [pls, h x (by simp), pls_all fun y hy => h y (List.mem_cons_of_mem _ hy)]
theorem wtsK_le {k : Nat} : ∀ {xs : List D}, (∀ x ∈ xs, wt x ≤ k) → wts xs ≤ (k + 2) * xs.length
  | [], _ => by simp [wts]
  | x :: xs, h => by
    have h1 := h x (by simp)
    have h2 := wtsK_le fun y hy => h y (List.mem_cons_of_mem x hy)
    simp only [wts, List.length_cons, Nat.mul_succ]
    omega
theorem dptsK_le {k : Nat} : ∀ {xs : List D}, (∀ x ∈ xs, dpt x ≤ k) → dpts xs ≤ k
  | [], _ => by simp [dpts]
  | x :: xs, h => by
    have h1 := h x (by simp)
    have h2 := dptsK_le fun y hy => h y (List.mem_cons_of_mem x hy)
    simp only [dpts]
    omega
end PD
namespace Lw
open PySem L2 PD Fa
section
variable {N M : Net Str}
theorem pl_nat {n : Nat} (h : n ≤ 100) : pl (.int n) = true := by
  simp only [pl, Int.natAbs_natCast, decide_eq_true_eq]
  exact Nat.lt_of_le_of_lt h (by decide)
theorem pl_nm {x : Str} (h : x ∈ nm6 ∨ x ∈ nm9) : pl (.str x) = true ∧ wt (.str x) ≤ 30 := by
  have h6 : ∀ x ∈ nm6, pl (.str x) = true ∧ wt (.str x) ≤ 30 := by decide +kernel
  have h9 : ∀ x ∈ nm9, pl (.str x) = true ∧ wt (.str x) ≤ 30 := by decide +kernel
  exact h.elim (h6 x) (h9 x)
theorem repr_net (h : Drawn N) (hw : N.wires.length ≤ 9) (hm : N.rows.length ≤ 8) : ∃ s, dRepr (encNet N) = some (.str s) ∧ dNe (.str s) (.str s) = some (.bl false) := by
  have wire : ∀ c ∈ N.wires, pl (encWire c) = true ∧ wt (encWire c) ≤ 700 ∧ dpt (encWire c) ≤ 2 := fun c hc => by
    have h1 := pl_nm (.inl (h.ws c hc).1)
    have h2 := pl_nat (n := c.2) (by have := (h.ws c hc).2; omega)
    refine ⟨pls_all (xs := [.str c.1, .int c.2]) fun x hx => ?_, ?_, by simp [encWire, dpt, dpts]⟩
    · simp at hx
      rcases hx with rfl | rfl
      · exact h1.1
      · exact h2
    have := h1.2
    simp only [encWire, wt, wts] at this ⊢
    omega
  have row : ∀ r ∈ N.rows, pl (encRow r) = true ∧ wt (encRow r) ≤ 3000 ∧ dpt (encRow r) ≤ 2 := fun r hr => by
    have R := h.rs r hr
    have h1 := pl_nm (.inr R.n)
    have hln : ∀ x ∈ r.lines, pl (.str x) = true ∧ wt (.str x) ≤ 30 := fun x hx => by
      obtain ⟨c, hc, rfl⟩ := R.ln x hx
      exact pl_nm (.inl (h.ws c hc).1)
    have h2 : pls (r.lines.map D.str) = true := pls_all fun x hx => by
      obtain ⟨y, hy, rfl⟩ := List.mem_map.1 hx
      exact (hln y hy).1
    have h3 : wts (r.lines.map D.str) ≤ 32 * (r.lines.map D.str).length := wtsK_le fun x hx => by
      obtain ⟨y, hy, rfl⟩ := List.mem_map.1 hx
      exact (hln y hy).2
    have h4 : dpts (r.lines.map D.str) ≤ 0 := dptsK_le fun x hx => by
      obtain ⟨y, hy, rfl⟩ := List.mem_map.1 hx
      simp [dpt]
    rw [List.length_map] at h3
    have hl := R.ll
    have w := pl_nat (n := r.w) (by have := R.w2; omega)
    have lo := pl_nat (n := r.lo) (by have := R.lo; omega)
    have hi : pl (encHi r.hi) = true ∧ wt (encHi r.hi) ≤ 600 ∧ dpt (encHi r.hi) = 0 := by
      cases e : r.hi with
      | none => simp [encHi, pl, wt, dpt]
      | some m => exact ⟨pl_nat (by have := R.hi m e; omega), by simp [encHi, wt], by simp [encHi, dpt]⟩
    refine ⟨pls_all (xs := [.str r.name, .tup (r.lines.map .str), .int r.w, .int r.lo, encHi r.hi]) fun x hx => ?_, ?_, ?_⟩
    · simp at hx
      rcases hx with rfl | rfl | rfl | rfl | rfl
      · exact h1.1
      · exact h2
      · exact w
      · exact lo
      · exact hi.1
    · have := h1.2
      have := hi.2.1
      simp only [encRow, wt, wts] at *
      omega
    · have := hi.2.2
      simp only [encRow, dpt, dpts] at *
      omega
  have a1 : pls (N.wires.map encWire) = true := pls_all fun x hx => by
    obtain ⟨c, hc, rfl⟩ := List.mem_map.1 hx
    exact (wire c hc).1
  have a2 : wts (N.wires.map encWire) ≤ 702 * (N.wires.map encWire).length := wtsK_le fun x hx => by
    obtain ⟨c, hc, rfl⟩ := List.mem_map.1 hx
    exact (wire c hc).2.1
  have a3 : dpts (N.wires.map encWire) ≤ 2 := dptsK_le fun x hx => by
    obtain ⟨c, hc, rfl⟩ := List.mem_map.1 hx
    exact (wire c hc).2.2
  have b1 : pls (N.rows.map encRow) = true := pls_all fun x hx => by
    obtain ⟨c, hc, rfl⟩ := List.mem_map.1 hx
    exact (row c hc).1
  have b2 : wts (N.rows.map encRow) ≤ 3002 * (N.rows.map encRow).length := wtsK_le fun x hx => by
    obtain ⟨c, hc, rfl⟩ := List.mem_map.1 hx
    exact (row c hc).2.1
  have b3 : dpts (N.rows.map encRow) ≤ 2 := dptsK_le fun x hx => by
    obtain ⟨c, hc, rfl⟩ := List.mem_map.1 hx
    exact (row c hc).2.2
  rw [List.length_map] at a2 b2
  have eN : encNet N = .tup [.tup (N.wires.map encWire), .tup (N.rows.map encRow)] := rfl
  rw [eN]
  refine dRepr_same (by simp [pl, pls, a1, b1]) ?_ ?_
  · simp only [dpt, dpts]; omega
  · simp only [wt, wts]; omega
end
end Lw
end
section
namespace Lw
open PySem L2 PD Fa
section
variable {N M : Net Str}
set_option maxHeartbeats 4000000 in
theorem right_ok {B : List D} (hB : Box 0 B) : ∃ B', d__law_right B [] = some (.bl true, B') := by
  have e1 : 1 ≤ sizeLine := sz (by omega)
  have e2 : 2 ≤ sizeLine := sz (by omega)
  have e3 : 3 ≤ sizeLine := sz (by omega)
  have l2 : 2 < sizeLine := Nat.lt_of_lt_of_le (show 2 < 100 by omega) (sz (by omega))
  have h : ∃ d B', d__law_right B [] = some (d, B') ∧ d = .bl true := by
    refine denBT_ok 10 29 rfl rfl ?_
    refine okS_step fun K hK hR => ?_
    simp
    refine okS_for (fun j δ => ∃ (B : List D) (x1 x2 x3 x4 x5 x6 x7 x8 x9 x10 : Option D), δ = some (.lst B) :: x1 :: x2 :: x3 :: x4 :: x5 :: x6 :: x7 :: x8 :: x9 :: x10 :: Tl "with_flow" 29 ∧ Box (2000 * j) B) (n := 0) ⟨B, none, none, none, none, none, none, none, none, none, none, rfl, by simpa using hB⟩ ?_ ?_
    · rintro j x δ hj ⟨B, x1, x2, x3, x4, x5, x6, x7, x8, x9, x10, rfl, hB⟩
      rw [Nat.zero_add] at *
      have hj2 := lt_of_get hj
      rw [show (rng 0 3).length = 3 from rfl] at hj2
      have hx : ∃ i : Nat, x = .int i := by
        have := List.mem_of_getElem? hj
        unfold rng at this
        obtain ⟨i, hi, rfl⟩ := List.mem_map.1 this
        exact ⟨i, by simp⟩
      obtain ⟨i, rfl⟩ := hx
      refine ⟨_, rfl, ?_⟩
      refine okS_stepM fun K hK hR => ?_
      simp
      refine okO_take hB (by omega) (by omega) (by omega) fun a B1 a0 a1 hB1 => ?_
      obtain ⟨a, rfl⟩ := Int.eq_ofNat_of_zero_le a0
      simp
      refine okO_take hB1 (by omega) (by omega) (by omega) fun b B2 b0 b1 hB2 => ?_
      obtain ⟨b, rfl⟩ := Int.eq_ofNat_of_zero_le b0
      simp
      obtain ⟨_, B3, e, N, rfl, hw, hm, hN, hB3⟩ := drawn_ok hB2 (by omega) (w := 1 + a) (m := 1 + b) (k := 2) (by omega) (by omega) (by omega)
      rw [show ((1 + a : Nat) : Int) = 1 + (a : Int) by omega, show ((1 + b : Nat) : Int) = 1 + (b : Int) by omega] at e
      simp at e
      simp [e]
      refine hK _ ?_
      clear hK e
      have w0 : N.wires ≠ [] := fun z => by rw [z] at hw; simp at hw; omega
      have r0 : N.rows ≠ [] := fun z => by rw [z] at hm; simp at hm; omega
      have ok := drawn_netW hN (by omega) (by omega)
      obtain ⟨s, hs, hss⟩ := repr_net hN (by omega) (by omega)
      refine okS_stepM fun K hK hR => ?_
      simp [hs]
      refine hK _ ?_
      clear hK
      refine okS_stepM fun K hK hR => ?_
      obtain ⟨_, B4, e, ⟨xs, rfl, hxs⟩, hB4⟩ := cases_okH hB3 (by omega) hN (by omega) (by omega) w0 r0
      simp [e]
      refine okS_for (fun q δ => ∃ (y4 y5 y6 y7 : Option D), δ = some (.lst B4) :: some (.int i) :: some (encNet N) :: some (.str s) :: y4 :: y5 :: y6 :: y7 :: x8 :: x9 :: x10 :: Tl "with_flow" 29) (n := 0) ⟨x4, x5, x6, x7, rfl⟩ ?_ ?_
      · rintro q x δ hq ⟨y4, y5, y6, y7, rfl⟩
        obtain ⟨k, rest, due, rfl, c⟩ := hxs x (List.mem_of_getElem? hq)
        refine ⟨_, rfl, ?_⟩
        have hl : d__law_lists 12 [rest] = some (.ok (lstN 11 rest)) := lists_ok (c.gr.mono (by omega))
        have gs : Gd 11 (lstN 11 rest) := (c.gr.mono (show 6 ≤ 11 by omega)).lst
        have hne := gs.dNe (by omega)
        have hsame : d__law_same 12 [.lst [due, due], .lst [due, due]] = some (.ok (.bl true)) := same_ok ((gd_of (n := 6) (by simp) fun z hz => by
          simp at hz; rw [hz]; exact c.gd).mono (show 7 ≤ 11 by omega))
        have h1 := c.hard
        have h2 := c.soft
        generalize lstN 11 rest = soft at *
        refine okS_step fun K hK _ => ?_
        simp [hl]
        refine hK _ ?_
        clear hK
        refine okS_step fun K hK _ => ?_
        simp [h1, h2, e2, hsame]
        refine hK _ ?_
        clear hK
        simp [hl, hne]
      rintro δ ⟨y4, y5, y6, y7, rfl⟩
      refine hK _ ?_
      clear hK e
      obtain ⟨c, W, hcW⟩ : ∃ c W, N.wires = c :: W := by
        cases hz : N.wires with
        | nil => exact absurd hz w0
        | cons c W => exact ⟨c, W, rfl⟩
      obtain ⟨r, R, hrR⟩ : ∃ r R, N.rows = r :: R := by
        cases hz : N.rows with
        | nil => exact absurd hz r0
        | cons c W => exact ⟨c, W, rfl⟩
      have hc : c ∈ N.wires := by rw [hcW]; simp
      have hr : r ∈ N.rows := by rw [hrR]; simp
      have hN0 : dIx (encNet N) (.int 0) = some (.tup (N.wires.map encWire)) := rfl
      have hN1 : dIx (encNet N) (.int 1) = some (.tup (N.rows.map encRow)) := rfl
      have hi0 : dIx (.tup (N.wires.map encWire)) (.int 0) = some (encWire c) := by rw [hcW]; simp
      have hj0 : dIx (.tup (N.rows.map encRow)) (.int 0) = some (encRow r) := by rw [hrR]; simp
      have hi00 : dIx (encWire c) (.int 0) = some (.str c.1) := rfl
      have hrow0 : N.rows[0]? = some r := by rw [hrR]; rfl
      have hj00 : dIx (encRow r) (.int 0) = some (.str r.name) := rfl
      have hc1 : c.1 ∈ N.wires.map (·.1) := List.mem_map.2 ⟨c, hc, rfl⟩
      refine okS_stepM fun K hK hR => ?_
      obtain ⟨_, B5, e, ⟨x, rfl, hxn, hx0, hxs, _⟩, hB5⟩ := row_okW hB4 (by omega) ok w0 (x := "mm") (kind := 2)
      simp at e
      simp [hN0, hi0, hi00, e]
      refine hK _ ?_
      clear hK e
      have hl : ∀ y ∈ x.lines, y ∈ N.wires.map (·.1) := fun y hy => hxs.subset hy
      have hll : x.lines.length ≤ 100 := Nat.le_trans hxs.length_le (by rw [List.length_map]; omega)
      have hmm : x.name ∉ N.rows.map Row.name := by
        rw [hxn]
        intro hm2
        obtain ⟨r, hr, e⟩ := List.mem_map.1 hm2
        have := (hN.rs r hr).n
        rw [e] at this
        exact absurd this (by decide +kernel)
      obtain ⟨S, eS, hS8, q3, hwith⟩ := case_new ok (by omega) hmm (by rw [hxn]; decide +kernel) hx0 hl hll
      have hwid := widened_okW ok (tup_id (netW_tu ok)) hc1 (m := 7)
      have hset := setwide_okW ok hc (m := 7)
      rw [show ((7 : Nat) : Int) = 7 from rfl] at hwid hset
      simp
      refine okS_stepM fun K hK hR => ?_
      simp [pick, hwid, hwith, e2]
      refine hK _ ?_
      clear hK hwid
      simp
      refine okS_stepM fun K hK hR => ?_
      have hadd : dAdd (.tup (N.rows.map encRow)) (.tup [encRow x]) = some (.tup ((N.rows ++ [x]).map encRow)) := by
        rw [List.map_append]
        exact dAdd_tup (by simp; omega)
      have eN : encNet ⟨N.wires, S⟩ = .tup [.tup (N.wires.map encWire), .tup (S.map encRow)] := rfl
      have lS : S.length ≤ sizeLine := sz (by omega)
      rw [eN] at *
      simp only [dSorted3_tup] at eS
      generalize (N.rows ++ [x]).map encRow = Rx at *
      simp [hset, hN0, hN1, hadd, eS, lS, e1, e2]
      refine hK _ ?_
      clear hK hset eS hadd
      have g1 := (case_wide ok hc (m := 7)).gd
      have g2 : Gd 6 (D.tup [.tup (N.wires.map encWire), .tup (S.map encRow)]) := q3.gd
      clear q3 hwith
      generalize encNet ⟨wideW N c.1 7, N.rows⟩ = Y1 at *
      have hsame : ∀ L : List D, L.length ≤ 1000 → (∀ z ∈ L, Gd 6 z) → d__law_same 12 [.lst L, .lst L] = some (.ok (.bl true)) := fun L hL hg => same_ok ((gd_of hL hg).mono (show 7 ≤ 11 by omega))
      have hnd := ok.ok.nd
      have hrest : N.rows.length ≠ 1 → d_without_flow [encNet N, .str r.name] = some (.ok (.tup [.tup (N.wires.map encWire), .tup (R.map encRow)])) := fun h1 => by
        have e := without_okW ok (tup_id (netW_tu ok)) (List.mem_map.2 ⟨r, hr, rfl⟩) h1
        have e4 : N.rows.filter (fun q => decide (q.name ≠ r.name)) = R := by
          rw [hrR] at hnd ⊢
          rw [List.map_cons, List.nodup_cons] at hnd
          rw [List.filter_cons_of_neg (by simp)]
          exact List.filter_eq_self.2 fun q hq => decide_eq_true fun z => hnd.1 (List.mem_map.2 ⟨q, hq, z⟩)
        rw [e4] at e
        exact e
      have g3 : Gd 6 (.tup [.tup (N.wires.map encWire), .tup (R.map encRow)]) := by
        have okR : NetW ⟨N.wires, R⟩ := netW_rows ok (by have := ok.ok.few; rw [hrR, List.length_cons] at this; omega) (by rw [hrR, List.map_cons, List.nodup_cons] at hnd; exact hnd.2) (by have := ok.ra; rw [hrR, List.map_cons, List.pairwise_cons] at this; exact this.2) fun p hp => .inl (by rw [hrR]; simp [hp])
        exact ((netW_tu okR).mono (show 4 ≤ 6 by omega)).gd
      have hsl : dSl (.tup (N.rows.map encRow)) (some 1) none = some (.tup (R.map encRow)) := by rw [hrR]; exact dSl_tail
      have hlr : dLen (.tup (N.rows.map encRow)) = some (.int N.rows.length) := by rw [dLen_tup, List.length_map]
      generalize N.rows.length = len at *
      generalize D.tup [.tup (N.wires.map encWire), .tup (S.map encRow)] = Y2 at *
      refine okS_stepM fun K hK hR => ?_
      simp [hN1, hlr]
      split
      · rename_i hgt
        have hwo := hrest (by omega)
        simp [hN0, hN1, hrow0, hj00, pick, hwo, hsl, e2, l2]
        refine hK _ ?_
        clear hK
        have hs3 := hsame [Y1, Y2, .tup [.tup (N.wires.map encWire), .tup (R.map encRow)]] (by simp) fun z hz => by
          simp at hz
          rcases hz with rfl | rfl | rfl <;> assumption
        simp [hs3, hs, hss]
        exact hB5.mono (by omega)
      · refine hK _ ?_
        clear hK
        have hs2 := hsame [Y1, Y2] (by simp) fun z hz => by
          simp at hz
          rcases hz with rfl | rfl <;> assumption
        simp [hs2, hs, hss]
        exact hB5.mono (by omega)
    · rintro δ ⟨B, x1, x2, x3, x4, x5, x6, x7, x8, x9, x10, rfl, hB⟩
      refine hK _ ?_
      simp
  obtain ⟨d, B', e, rfl⟩ := h
  exact ⟨B', e⟩
end
end Lw
end
section
namespace Lw
open PySem L2 PD Fa
section
theorem law_okT (H : ∀ B, Box 0 B → ∃ B', d__law_right B [] = some (.bl true, B')) {ns : List Int} (hl : ns.length ≤ 63) : d_law [.scr (ns.map D.int)] = some (.ok (.bl true)) := by
  have h : okR (d_law [.scr (ns.map D.int)]) fun d => d = .bl true := by
    refine denT_ok 2 37 rfl rfl ?_
    refine okS_step fun K hK _ => ?_
    simp
    obtain ⟨d, e, is, rfl, h1, h2⟩ := cells_ok hl (k := 2) (by decide)
    rw [show d__law_cells [.scr (ns.map D.int), .int 2] = _ from e]; simp
    refine hK _ ?_
    clear hK
    refine okS_step fun K hK _ => ?_
    have hr : ∀ d ∈ rng 0 (is.length : Int), ∃ k : Nat, k < is.length ∧ d = .int k := by
      intro d hd
      unfold rng at hd
      obtain ⟨i, hi, rfl⟩ := List.mem_map.1 hd
      exact ⟨i, by simpa using List.mem_range.1 hi, by simp⟩
    simp
    refine ⟨by omega, ?_⟩
    refine okS_for (fun i δ => ∃ x2, δ = some (.scr (ns.map D.int)) :: some (.lst (is.map .int)) :: x2 :: Tl "with_flow" 37) (n := 0) ⟨none, rfl⟩ ?_ ?_
    · rintro i d δ hi ⟨x2, rfl⟩
      obtain ⟨k, hk, rfl⟩ := hr d (List.mem_of_getElem? hi)
      refine ⟨_, rfl, ?_⟩
      obtain ⟨d, e, B, rfl, hB⟩ := box_ok hk (by omega)
      obtain ⟨B', e2⟩ := H B hB
      simp [e, e2]
    · rintro δ ⟨x2, rfl⟩
      refine hK _ ?_
      simp
  obtain ⟨d, e, rfl⟩ := h
  exact e
theorem k_main (ns : List Int) (hl : ns.length ≤ 63) : d_law [.scr (ns.map D.int)] = some (.ok (.bl true)) := law_okT (fun _ hB => right_ok hB) hl
end
end Lw
end
set_option maxRecDepth 100000 in
set_option maxHeartbeats 8000000 in
theorem PySem.Challenge.cw_leastshare_k20_nets_that_are_changed_holds : PySem.Challenge.rw_leastshare_k20_nets_that_are_changed.Holds := by
  exact Lw.law_holds Lw.k_main
