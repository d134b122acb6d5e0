import PyProof.Rows.All
import Wide.All
import OpenK.AllK
import Wide.FinOn
import HandS.ForMost
import HandS.Exc
import HandS.TryOnly
import HandS.ExcOwn
import HandS.WordsExc
import HandS.Defaults
import HandS.CallSlots
import HandS.Conv
import HandS.Flow
import HandS.Style
import HandS.Slots
import HandS.IterVal
import HandS.Wide
import HandS.WideBits
import HandS.SetKeys
import HandS.TupSets
import HandS.DictComp
import HandS.IsInst
import HandS.Deep
import HandS.DeepEq
import HandS.TupAny
import HandS.TupMul
import HandS.Zip
import HandS.Remove
import HandS.ListItems
import HandS.Head0
import HandS.Head1
import HandS.Head2
import HandS.Head3
import HandS.Head4
import HandS.HeadEnd
import HandS.HeadHook1
import HandS.HeadHook2
import HandS.HeadHook3
import HandS.HeadHook4
import HandS.HeadWalk
import KE.SortData
import KE.KRevSl
import OpenK.KMore
import HandS.Ends
import HandS.SlotsVar
import KE.KDictPairs
import HandS.Small
import HandS.OwnIter
import PySem.Challenge.RW_leastshare_k12_loads_and_levels
set_option Elab.async false
set_option linter.all false
set_option maxRecDepth 100000
section
namespace PD
open PySem L2
/-! ### data -/
inductive D where
  | non | bl (b : Bool) | int (i : Int) | str (x : Str) | tup (xs : List D) | lst (xs : List D) | scr (xs : List D)
  | npt (xs : List D)
  | dic (kvs : List (Key × D)) | obj (c : Str) (fs : List (Option D)) | ins (c : Str) (fs : List (Str × D))
  deriving Inhabited
abbrev Frag := PySem.W.Frag
/-- the object of a plain tuple: no dict of its own -/
def PlT (o : Obj) : Prop := o.cls = .type "tuple" ∧ o.dict = none ∧ ∃ its n, o.data = .seq its n
/-- a plain tuple -/
def SqP (K : Frag) (H : Hp) (a : Addr) (xs : List V) : Prop := (∃ o, H a = some (.frz o (.tup xs)) ∧ PlT o) ∨
  ∃ (o : Obj) (its : Array Value) (n : Nat), K.lookup a = some o ∧ o.cls = .type "tuple" ∧ o.dict = none ∧ o.data = .seq its n ∧ its.size ≤ sizeLine ∧ Vals xs its.toList
theorem SqP.t {K : Frag} {H : Hp} {a : Addr} {xs : List V} (h : SqP K H a xs) : SqT K H a xs := by
  rcases h with ⟨o, h, _⟩ | ⟨o, its, n, h1, h2, _, h3, h4⟩
  · exact .inl (.inr ⟨o, h⟩)
  · exact .inr ⟨o, its, n, h1, h2, h3, h4⟩
theorem SqP.of {K : Frag} {H : Hp} {a : Addr} {xs : List V} {o : Obj} (h : H a = some (.frz o (.tup xs))) (p : PlT o) : SqP K H a xs := .inl ⟨o, h, p⟩
mutual
inductive Rep (K : Frag) (F : Hp) : V → D → Prop
  | non : Rep K F .non .non
  | bl (b : Bool) : Rep K F (.bl b) (.bl b)
  | int (i : Int) : Rep K F (.int i) (.int i)
  | str (x : Str) : Rep K F (.str x) (.str x)
  | tup {a : Addr} {vs : List V} {ds : List D} (h : SqP K F a vs) (r : Reps K F vs ds) : Rep K F (.ref a) (.tup ds)
  | lst {a : Addr} {vs : List V} {ds : List D} (h : F a = some (.lst vs)) (r : Reps K F vs ds) : Rep K F (.ref a) (.lst ds)
  | npt {a : Addr} {vs : List V} {ds : List D} (h : SqT K F a vs) (r : Reps K F vs ds) : Rep K F (.ref a) (.npt ds)
  | scr {a : Addr} {vs : List V} {ds : List D} (h : SqL K F a vs) (r : Reps K F vs ds) : Rep K F (.ref a) (.scr ds)
  | dic {a : Addr} {kvs : List (Key × V)} {kds : List (Key × D)} (h : F a = some (.dK kvs)) (r : RepK K F kvs kds) : Rep K F (.ref a) (.dic kds)
  | obj {a dx : Addr} {c : Str} {vs : List (Option V)} {ds : List (Option D)} (h : F a = some (SlX.SlO a (He.ga K c) dx vs)) (hx : F dx = some (.xd [])) (r : RepO K F vs ds) : Rep K F (.ref a) (.obj c ds)
  | ins {a dx : Addr} {c : Str} {fs : List (Str × V)} {ds : List (Str × D)} (h : F a = some (.ins (He.ga K c) dx fs)) (r : RepF K F fs ds) : Rep K F (.ref a) (.ins c ds)
inductive Reps (K : Frag) (F : Hp) : List V → List D → Prop
  | nil : Reps K F [] []
  | cons {v : V} {d : D} {vs : List V} {ds : List D} (h : Rep K F v d) (r : Reps K F vs ds) : Reps K F (v :: vs) (d :: ds)
inductive RepK (K : Frag) (F : Hp) : List (Key × V) → List (Key × D) → Prop
  | nil : RepK K F [] []
  | cons {k : Key} {v : V} {d : D} {vs : List (Key × V)} {ds : List (Key × D)} (h : Rep K F v d) (r : RepK K F vs ds) : RepK K F ((k, v) :: vs) ((k, d) :: ds)
inductive RepF (K : Frag) (F : Hp) : List (Str × V) → List (Str × D) → Prop
  | nil : RepF K F [] []
  | cons {k : Str} {v : V} {d : D} {vs : List (Str × V)} {ds : List (Str × D)} (h : Rep K F v d) (r : RepF K F vs ds) : RepF K F ((k, v) :: vs) ((k, d) :: ds)
inductive RepO (K : Frag) (F : Hp) : List (Option V) → List (Option D) → Prop
  | nil {vs : List (Option V)} : RepO K F vs []
  | none {vs : List (Option V)} {ds : List (Option D)} (r : RepO K F vs.tail ds) : RepO K F vs (none :: ds)
  | some {v : V} {d : D} {vs : List (Option V)} {ds : List (Option D)} (h : Rep K F v d) (r : RepO K F vs ds) : RepO K F (some v :: vs) (some d :: ds)
end
/-- heaps that grow -/
def Ex (H H' : Hp) : Prop := ∀ a o, H a = some o → H' a = some o
theorem Ex.refl (H : Hp) : Ex H H := fun _ _ h => h
theorem Ex.trans {H H1 H2 : Hp} (a : Ex H H1) (b : Ex H1 H2) : Ex H H2 := fun x o h => b x o (a x o h)
theorem Ex.new {H : Hp} {p : Addr} {o : HO} (h : H p = none) : Ex H (upd H p o) := fun a u e => by rw [upd_ne (ne_of_none e h)]; exact e
theorem Ex.upd2 {F H : Hp} {p : Addr} {o : HO} (e : Ex F H) : Ex (upd F p o) (upd H p o) := fun a u h => by
  unfold upd at *
  by_cases h1 : a = p
  · rw [if_pos h1] at *; exact h
  · rw [if_neg h1] at *; exact e a u h
theorem ex_rd {H H' : Hp} {a : Addr} {u : HO} (e : Ex H H') (h : Rd H a u) : Rd H' a u := by
  rcases h with h | ⟨o, h⟩
  · exact Or.inl (e a _ h)
  · exact Or.inr ⟨o, e a _ h⟩
theorem ex_l {K : Frag} {H H' : Hp} {a : Addr} {xs : List V} (e : Ex H H') (h : SqL K H a xs) : SqL K H' a xs := by
  rcases h with h | h
  · exact Or.inl (ex_rd e h)
  · exact Or.inr h
theorem ex_q {K : Frag} {H H' : Hp} {a : Addr} {xs : List V} (e : Ex H H') (h : SqT K H a xs) : SqT K H' a xs := by
  rcases h with h | h
  · exact Or.inl (ex_rd e h)
  · exact Or.inr h
theorem ex_p {K : Frag} {H H' : Hp} {a : Addr} {xs : List V} (e : Ex H H') (h : SqP K H a xs) : SqP K H' a xs := by
  rcases h with ⟨o, h, p⟩ | h
  · exact Or.inl ⟨o, e _ _ h, p⟩
  · exact Or.inr h
theorem ex_t {K : Frag} {H H' : Hp} {a : Addr} {xs : List V} (e : Ex H H') (h : SqP K H a xs) : SqT K H' a xs := (ex_p e h).t
mutual
theorem Rep.mono {K : Frag} {F F' : Hp} (e : Ex F F') : ∀ {v : V} {d : D}, Rep K F v d → Rep K F' v d
  | _, _, .non => .non
  | _, _, .bl b => .bl b
  | _, _, .int i => .int i
  | _, _, .str x => .str x
  | _, _, .tup h r => .tup (ex_p e h) (Reps.mono e r)
  | _, _, .lst h r => .lst (e _ _ h) (Reps.mono e r)
  | _, _, .npt h r => .npt (ex_q e h) (Reps.mono e r)
  | _, _, .scr h r => .scr (ex_l e h) (Reps.mono e r)
  | _, _, .dic h r => .dic (e _ _ h) (RepK.mono e r)
  | _, _, .obj h hx r => .obj (e _ _ h) (e _ _ hx) (RepO.mono e r)
  | _, _, .ins h r => .ins (e _ _ h) (RepF.mono e r)
theorem Reps.mono {K : Frag} {F F' : Hp} (e : Ex F F') : ∀ {v : List V} {d : List D}, Reps K F v d → Reps K F' v d
  | _, _, .nil => .nil
  | _, _, .cons h r => .cons (Rep.mono e h) (Reps.mono e r)
theorem RepK.mono {K : Frag} {F F' : Hp} (e : Ex F F') : ∀ {v : List (Key × V)} {d : List (Key × D)}, RepK K F v d → RepK K F' v d
  | _, _, .nil => .nil
  | _, _, .cons h r => .cons (Rep.mono e h) (RepK.mono e r)
theorem RepF.mono {K : Frag} {F F' : Hp} (e : Ex F F') : ∀ {v : List (Str × V)} {d : List (Str × D)}, RepF K F v d → RepF K F' v d
  | _, _, .nil => .nil
  | _, _, .cons h r => .cons (Rep.mono e h) (RepF.mono e r)
theorem RepO.mono {K : Frag} {F F' : Hp} (e : Ex F F') : ∀ {v : List (Option V)} {d : List (Option D)}, RepO K F v d → RepO K F' v d
  | _, _, .nil => .nil
  | _, _, .none r => .none (RepO.mono e r)
  | _, _, .some h r => .some (Rep.mono e h) (RepO.mono e r)
end
/-- F: what is held fast; H: the heap. Both grow, F by new things alone -/
structure Grow (F H F' H' : Hp) : Prop where
  ff : Ex F F'
  fh : Ex F' H'
  hh : Ex H H'
  nw : ∀ a, F' a ≠ none → F a ≠ none ∨ H a = none
theorem Grow.refl {F H : Hp} (e : Ex F H) : Grow F H F H := ⟨Ex.refl F, e, Ex.refl H, fun a h => Or.inl h⟩
theorem none_back {H H' : Hp} {p : Addr} (e : Ex H H') (h : H' p = none) : H p = none := by
  cases h1 : H p with
  | none => rfl
  | some o => rw [e p o h1] at h; cases h
theorem Grow.trans {F H F1 H1 F2 H2 : Hp} (a : Grow F H F1 H1) (b : Grow F1 H1 F2 H2) : Grow F H F2 H2 :=
  ⟨a.ff.trans b.ff, b.fh, a.hh.trans b.hh, fun x h => (b.nw x h).elim (a.nw x) fun h1 => Or.inr (none_back a.hh h1)⟩
theorem upd_ne_none {F : Hp} {p a : Addr} {o : HO} (h : upd F p o a ≠ none) : F a ≠ none ∨ a = p := by
  by_cases e : a = p
  · exact Or.inr e
  · rw [upd_ne e] at h; exact Or.inl h
theorem Grow.new {F H : Hp} {p : Addr} {o : HO} (e : Ex F H) (h : H p = none) : Grow F H (upd F p o) (upd H p o) :=
  ⟨Ex.new (none_back e h), e.upd2, Ex.new h, fun a ha => (upd_ne_none ha).imp id fun e => by rw [e]; exact h⟩
theorem Grow.ex {F H F' H' : Hp} (g : Grow F H F' H') : Ex F H' := g.ff.trans g.fh
/-! ### outcomes -/
/-- an exception of the program: its class's name, its fields -/
structure XD where
  cls : Str
  fs : List (Str × D)
abbrev Rs (α : Type) := Option (Except XD α)
abbrev Env := List (Option D)
def ok {α : Type} (a : α) : Rs α := some (.ok a)
def bind {α β : Type} (x : Rs α) (f : α → Rs β) : Rs β := match x with
  | none => none
  | some (.error e) => some (.error e)
  | some (.ok a) => f a
/-- a part that may be missing -/
def opt {α : Type} (x : Option α) : Rs α := x.map .ok
structure RepX (K : Frag) (F : Hp) (cls : Value) (dd : Option Addr) (x : XD) : Prop where
  cls : cls = .ref (He.ga K x.cls)
  fs : ∃ d fs, dd = some d ∧ F d = some (.xd fs) ∧ RepF K F fs x.fs
def Post {α β : Type} (rel : Hp → β → α → Prop) (K : Frag) (F H : Hp) (σ : L2.St) (W : WX) (o : Except XD α) (Q : β → Hp → Prop) : Prop := match o with
  | .ok d => ∀ v F' H', Grow F H F' H' → rel F' v d → Q v H'
  | .error x => ∀ cls dd F' H', Grow F H F' H' → RepX K F' cls dd x → W cls dd σ H'
theorem Post.later {α β : Type} {rel : Hp → β → α → Prop} {K : Frag} {F H F1 H1 : Hp} {σ : L2.St} {W : WX} {o : Except XD α} {Q : β → Hp → Prop} (g : Grow F H F1 H1) (p : Post rel K F H σ W o Q) : Post rel K F1 H1 σ W o Q := by
  cases o with
  | ok d => exact fun v F' H' g' r => p v F' H' (g.trans g') r
  | error x => exact fun c d F' H' g' r => p c d F' H' (g.trans g') r
/-- the slots are these data -/
structure RP (K : Frag) (F : Hp) (σ : L2.St) (H : Hp) (δ : Env) : Prop where
  ex : Ex F H
  ln : σ.length = δ.length
  val : ∀ (i : Nat) (d : D), δ[i]? = some (some d) → ∃ v : V, σ[i]? = some (some v) ∧ Rep K F v d
theorem RP.later {K : Frag} {F H F1 H1 : Hp} {σ : L2.St} {δ : Env} (g : Grow F H F1 H1) (r : RP K F σ H δ) : RP K F1 σ H1 δ :=
  ⟨g.fh, r.ln, fun i d h => let ⟨v, a, b⟩ := r.val i d h; ⟨v, a, b.mono g.ff⟩⟩
/-! ### the judgements by what they mean -/
def WE (X : Cx) (e : Expr) (σ : L2.St) (H : Hp) (Q : VK) : Prop := ∀ pins s, Inv X pins σ H s → wpAny (model X.prog X.w) X.A (eval e X.env) (EP X pins σ Q) X.xe s
theorem pe_we {X : Cx} {e : Expr} : PE X e (WE X e) := ⟨fun pins s _ _ _ I h => h pins s I⟩
theorem we_of {X : Cx} {e : Expr} {t : TE} {σ : L2.St} {H : Hp} {Q : VK} (h : PE X e t) (q : t σ H Q) : WE X e σ H Q := fun pins s I => h.run pins s σ H Q I q
def WT (X : Cx) (e : Expr) (σ : L2.St) (H : Hp) (Q : Bool → Hp → Prop) : Prop := ∀ pins s, Inv X pins σ H s → wpAny (model X.prog X.w) X.A (isTrue e X.env (eval e X.env)) (TP X pins σ Q) X.xe s
theorem pt_wt {X : Cx} {e : Expr} : PT X e (WT X e) := ⟨fun pins s _ _ _ I h => h pins s I⟩
theorem wt_of {X : Cx} {e : Expr} {t : TT} {σ : L2.St} {H : Hp} {Q : Bool → Hp → Prop} (h : PT X e t) (q : t σ H Q) : WT X e σ H Q := fun pins s I => h.run pins s σ H Q I q
def WA (X : Cx) (es : List Expr) (σ : L2.St) (H : Hp) (Q : List V → Hp → Prop) : Prop := ∀ pos pins s, Inv X pins σ H s → wpAny (model X.prog X.w) X.A (spliced (backTo pos (starEach es X.env))) (AP X pins σ Q) X.xe s
theorem pa_wa {X : Cx} {es : List Expr} : PA X es (WA X es) := ⟨fun pos pins s _ _ _ I h => h pos pins s I⟩
theorem wa_of {X : Cx} {es : List Expr} {t : TA} {σ : L2.St} {H : Hp} {Q : List V → Hp → Prop} (h : PA X es t) (q : t σ H Q) : WA X es σ H Q := fun pos pins s I => h.run pos pins s σ H Q I q
def WS (X : Cx) (st : Stmt) (D : Ends) (σ : L2.St) (H : Hp) : Prop := ∀ pins s, Inv X pins σ H s → wpAny (model X.prog X.w) X.A (exec st X.env) (SP X pins D) X.xe s
theorem ps_ws {X : Cx} {st : Stmt} : PS X st (WS X st) := ⟨fun pins s _ _ _ I h => h pins s I⟩
theorem ws_of {X : Cx} {st : Stmt} {t : TS} {D : Ends} {σ : L2.St} {H : Hp} (h : PS X st t) (q : t D σ H) : WS X st D σ H := fun pins s I => h.run pins s σ H D I q
def WSs (X : Cx) (st : List Stmt) (D : Ends) (σ : L2.St) (H : Hp) : Prop := ∀ pins s, Inv X pins σ H s → wpAny (model X.prog X.w) X.A (execs st X.env) (SP X pins D) X.xe s
theorem pss_wss {X : Cx} {st : List Stmt} : PSs X st (WSs X st) := ⟨fun pins s _ _ _ I h => h pins s I⟩
theorem wss_of {X : Cx} {st : List Stmt} {t : TS} {D : Ends} {σ : L2.St} {H : Hp} (h : PSs X st t) (q : t D σ H) : WSs X st D σ H := fun pins s I => h.run pins s σ H D I q
/-! ### pure expressions -/
structure J {α β : Type} (X : Cx) (w : L2.St → Hp → (β → Hp → Prop) → Prop) (rel : Hp → β → α → Prop) (g : Env → Rs α) : Prop where
  run : ∀ {σ F H δ W Q o}, RP X.K F σ H δ → Takes X W → g δ = some o → Post rel X.K F H σ W o Q → w σ H Q
abbrev JP (X : Cx) (e : Expr) (g : Env → Rs D) : Prop := J X (WE X e) (Rep X.K) g
abbrev relT (_ : Hp) (b a : Bool) : Prop := b = a
abbrev JT (X : Cx) (e : Expr) (g : Env → Rs Bool) : Prop := J X (WT X e) relT g
abbrev JA (X : Cx) (es : List Expr) (g : Env → Rs (List D)) : Prop := J X (WA X es) (Reps X.K) g
theorem j_bind {α β α2 β2 : Type} {X : Cx} {w : L2.St → Hp → (β → Hp → Prop) → Prop} {rel : Hp → β → α → Prop} {rel2 : Hp → β2 → α2 → Prop} {g : Env → Rs α} {k : α → Rs α2} {σ : L2.St} {F H : Hp} {δ : Env} {W : WX} {o : Except XD α2} {Q : β2 → Hp → Prop} {Q1 : β → Hp → Prop}
    (ha : J X w rel g) (r : RP X.K F σ H δ) (tk : Takes X W) (hg : bind (g δ) k = some o) (hP : Post rel2 X.K F H σ W o Q)
    (hk : ∀ x v F1 H1, k x = some o → Grow F H F1 H1 → rel F1 v x → RP X.K F1 σ H1 δ → Post rel2 X.K F1 H1 σ W o Q → Q1 v H1) : w σ H Q1 := by
  cases e : g δ with
  | none => rw [e] at hg; cases hg
  | some y => cases y with
    | ok x => rw [e] at hg; exact ha.run r tk e fun v F1 H1 gr rx => hk x v F1 H1 hg gr rx (r.later gr) (hP.later gr)
    | error x => rw [e] at hg; cases hg; exact ha.run r tk e hP
theorem jp_bind {α2 β2 : Type} {X : Cx} {a : Expr} {rel2 : Hp → β2 → α2 → Prop} {g : Env → Rs D} {k : D → Rs α2} {σ : L2.St} {F H : Hp} {δ : Env} {W : WX} {o : Except XD α2} {Q : β2 → Hp → Prop} {Q1 : VK}
    (ha : JP X a g) (r : RP X.K F σ H δ) (tk : Takes X W) (hg : bind (g δ) k = some o) (hP : Post rel2 X.K F H σ W o Q)
    (hk : ∀ x v F1 H1, k x = some o → Grow F H F1 H1 → Rep X.K F1 v x → RP X.K F1 σ H1 δ → Post rel2 X.K F1 H1 σ W o Q → Q1 v H1) : WE X a σ H Q1 := j_bind ha r tk hg hP hk
theorem jt_bind {α2 β2 : Type} {X : Cx} {a : Expr} {rel2 : Hp → β2 → α2 → Prop} {g : Env → Rs Bool} {k : Bool → Rs α2} {σ : L2.St} {F H : Hp} {δ : Env} {W : WX} {o : Except XD α2} {Q : β2 → Hp → Prop} {Q1 : Bool → Hp → Prop}
    (ha : JT X a g) (r : RP X.K F σ H δ) (tk : Takes X W) (hg : bind (g δ) k = some o) (hP : Post rel2 X.K F H σ W o Q)
    (hk : ∀ x F1 H1, k x = some o → Grow F H F1 H1 → RP X.K F1 σ H1 δ → Post rel2 X.K F1 H1 σ W o Q → Q1 x H1) : WT X a σ H Q1 := j_bind ha r tk hg hP fun x v F1 H1 h1 g1 e r1 p1 => by cases e; exact hk _ F1 H1 h1 g1 r1 p1
theorem ja_bind {α2 β2 : Type} {X : Cx} {es : List Expr} {rel2 : Hp → β2 → α2 → Prop} {g : Env → Rs (List D)} {k : List D → Rs α2} {σ : L2.St} {F H : Hp} {δ : Env} {W : WX} {o : Except XD α2} {Q : β2 → Hp → Prop} {Q1 : List V → Hp → Prop}
    (ha : JA X es g) (r : RP X.K F σ H δ) (tk : Takes X W) (hg : bind (g δ) k = some o) (hP : Post rel2 X.K F H σ W o Q)
    (hk : ∀ x v F1 H1, k x = some o → Grow F H F1 H1 → Reps X.K F1 v x → RP X.K F1 σ H1 δ → Post rel2 X.K F1 H1 σ W o Q → Q1 v H1) : WA X es σ H Q1 := j_bind ha r tk hg hP hk
/-- an expression's end -/
theorem Post.fin {α β : Type} {rel : Hp → β → α → Prop} {K : Frag} {F H : Hp} {σ : L2.St} {W : WX} {Q : β → Hp → Prop} {d : α} {o : Except XD α} (h : ok d = some o) (p : Post rel K F H σ W o Q) : ∀ v F' H', Grow F H F' H' → rel F' v d → Q v H' := by
  cases h; exact p
/-- .. by something that may be missing -/
theorem opt_some {α : Type} {x : Option α} {o : Except XD α} (h : opt x = some o) : ∃ d, x = some d ∧ o = .ok d := by
  cases x with
  | none => cases h
  | some d => cases h; exact ⟨d, rfl, rfl⟩
def v (i : Nat) : Env → Rs D := fun δ => opt (δ[i]?.join)
theorem jp_v {X : Cx} {x : Str} {pos : Pos} (i : Nat) (hN : X.N[i]? = some x := by rfl) (hv : Vis X.env.scope x := by first | exact Or.inl rfl | exact Or.inr (Or.inl rfl) | exact Or.inr (Or.inr rfl))
    (hd : (x == ("__debug__" : Str)) = false := by decide) (hcd : (x == ("__classdict__" : Str)) = false := by decide) : JP X (.Name x pos) (v i) := ⟨fun {σ F H δ W Q o} r _ hg hP => by
  obtain ⟨d, hd', rfl⟩ := opt_some hg
  have h1 : δ[i]? = some (some d) := by
    cases h : δ[i]? with
    | none => rw [h] at hd'; cases hd'
    | some y => rw [h] at hd'; cases y with
      | none => cases hd'
      | some z => cases hd'; rfl
  obtain ⟨w, hw, rw'⟩ := r.val i d h1
  exact we_of (pe_var hN hv hd hcd) ⟨w, hw, hP w F H (.refl r.ex) rw'⟩⟩
def c (d : D) : Env → Rs D := fun _ => ok d
theorem jp_int {X : Cx} {i j pos} : JP X (.Constant (.int i) j pos) (c (.int i)) := ⟨fun r _ hg hP => we_of pe_int (hP.fin hg _ _ _ (.refl r.ex) (.int _))⟩
theorem jp_bl {X : Cx} {i j pos} : JP X (.Constant (.bool i) j pos) (c (.bl i)) := ⟨fun r _ hg hP => we_of pe_bl (hP.fin hg _ _ _ (.refl r.ex) (.bl _))⟩
theorem jp_non {X : Cx} {j pos} : JP X (.Constant .none j pos) (c .non) := ⟨fun r _ hg hP => we_of pe_non (hP.fin hg _ _ _ (.refl r.ex) .non)⟩
theorem jp_str {X : Cx} {i j pos} : JP X (.Constant (.str i) j pos) (c (.str i)) := ⟨fun r _ hg hP => we_of pe_str (hP.fin hg _ _ _ (.refl r.ex) (.str _))⟩
/-- an operation on data, by the reading of the values -/
def OpD (K : Frag) (r : R2) (g : D → D → Option D) : Prop := ∀ {F H : Hp} {vx vy : V} {x y z : D}, Ex F H → Rep K F vx x → Rep K F vy y → g x y = some z → ∀ Q : VK, (∀ v F' H', Grow F H F' H' → Rep K F' v z → Q v H') → r vx vy H Q
def op2 (g : D → D → Option D) (a b : Env → Rs D) : Env → Rs D := fun δ => bind (a δ) fun x => bind (b δ) fun y => opt (g x y)
theorem jp_op {X : Cx} {a b : Expr} {op : Operator} {pos : Pos} {r : R2} {g : D → D → Option D} {fa fb : Env → Rs D} (ho : OpR X (binaryOp op) r) (hr : OpD X.K r g) (ha : JP X a fa) (hb : JP X b fb) : JP X (.BinOp a op b pos) (op2 g fa fb) := ⟨fun rp tk hg hP =>
  we_of (pe_op ho pe_we pe_we) (jp_bind ha rp tk hg hP fun x vx F1 H1 h1 g1 rx r1 P1 => jp_bind hb r1 tk h1 P1 fun y vy F2 H2 h2 g2 ry r2 P2 => by
    obtain ⟨z, hz, rfl⟩ := opt_some h2
    exact hr r2.ex (rx.mono g2.ff) ry hz _ P2)⟩
theorem jp_cmp {X : Cx} {a b : Expr} {op : CmpOp} {pos : Pos} {r : R2} {g : D → D → Option D} {fa fb : Env → Rs D} (ho : OpR X (compareOp op) r) (hr : OpD X.K r g) (ha : JP X a fa) (hb : JP X b fb)
    (hm : behindInMarks op b = false := by first | exact nomark _ | with_unfolding_all rfl) : JP X (.Compare a [op] [b] pos) (op2 g fa fb) := ⟨fun rp tk hg hP =>
  we_of (pe_cmpR ho pe_we pe_we hm) (jp_bind ha rp tk hg hP fun x vx F1 H1 h1 g1 rx r1 P1 => jp_bind hb r1 tk h1 P1 fun y vy F2 H2 h2 g2 ry r2 P2 => by
    obtain ⟨z, hz, rfl⟩ := opt_some h2
    exact hr r2.ex (rx.mono g2.ff) ry hz _ P2)⟩
end PD
end
section
namespace PD
open PySem L2
theorem Rep.len : ∀ {K : Frag} {F : Hp} {vs : List V} {ds : List D}, Reps K F vs ds → vs.length = ds.length
  | _, _, _, _, .nil => rfl
  | _, _, _, _, .cons _ r => congrArg (· + 1) (Rep.len r)
theorem RepK.len : ∀ {K : Frag} {F : Hp} {vs : List (Key × V)} {ds : List (Key × D)}, RepK K F vs ds → vs.length = ds.length
  | _, _, _, _, .nil => rfl
  | _, _, _, _, .cons _ r => congrArg (· + 1) (RepK.len r)
theorem Reps.get {K : Frag} {F : Hp} : ∀ {vs : List V} {ds : List D} {i : Nat} {d : D}, Reps K F vs ds → ds[i]? = some d → ∃ v, vs[i]? = some v ∧ Rep K F v d
  | _, _, 0, _, .cons h _, e => by cases e; exact ⟨_, rfl, h⟩
  | _, _, _ + 1, _, .cons _ r, e => by rw [List.getElem?_cons_succ] at e ⊢; exact Reps.get r e
  | _, _, _, _, .nil, e => by cases e
theorem Reps.get' {K : Frag} {F : Hp} : ∀ {vs : List V} {ds : List D} {i : Nat} {v : V}, Reps K F vs ds → vs[i]? = some v → ∃ d, ds[i]? = some d ∧ Rep K F v d
  | _, _, 0, _, .cons h _, e => by cases e; exact ⟨_, rfl, h⟩
  | _, _, _ + 1, _, .cons _ r, e => by rw [List.getElem?_cons_succ] at e ⊢; exact Reps.get' r e
  | _, _, _, _, .nil, e => by cases e
theorem Reps.app {K : Frag} {F : Hp} : ∀ {vs ws : List V} {ds es : List D}, Reps K F vs ds → Reps K F ws es → Reps K F (vs ++ ws) (ds ++ es)
  | _, _, _, _, .nil, b => b
  | _, _, _, _, .cons h r, b => .cons h (Reps.app r b)
theorem Reps.drop {K : Frag} {F : Hp} : ∀ {vs : List V} {ds : List D} (n : Nat), Reps K F vs ds → Reps K F (vs.drop n) (ds.drop n)
  | _, _, 0, r => r
  | _, _, _ + 1, .nil => .nil
  | _, _, n + 1, .cons _ r => Reps.drop n r
theorem Reps.take {K : Frag} {F : Hp} : ∀ {vs : List V} {ds : List D} (n : Nat), Reps K F vs ds → Reps K F (vs.take n) (ds.take n)
  | _, _, 0, _ => .nil
  | _, _, _ + 1, .nil => .nil
  | _, _, n + 1, .cons h r => .cons h (Reps.take n r)
theorem RepK.val {K : Frag} {F : Hp} {k : Key} : ∀ {vs : List (Key × V)} {ds : List (Key × D)}, RepK K F vs ds →
    (valV vs k = none ∧ (ds.find? fun kv => decide (kv.1 = k)).map (·.2) = none) ∨ ∃ v d, valV vs k = some v ∧ (ds.find? fun kv => decide (kv.1 = k)).map (·.2) = some d ∧ Rep K F v d
  | _, _, .nil => .inl ⟨rfl, rfl⟩
  | _, _, .cons (k := k1) (v := v) (d := d) h r => by
    by_cases e : k1 = k
    · exact .inr ⟨v, d, by simp [valV, List.find?_cons, e], by simp [List.find?_cons, e], h⟩
    · rcases RepK.val (k := k) r with ⟨a, b⟩ | ⟨v', d', a, b, c⟩
      · exact .inl ⟨by simpa [valV, List.find?_cons, e] using a, by simpa [List.find?_cons, e] using b⟩
      · exact .inr ⟨v', d', by simpa [valV, List.find?_cons, e] using a, by simpa [List.find?_cons, e] using b, c⟩
/-! ### truth -/
def truth : D → Option Bool
  | .non => some false
  | .bl b => some b
  | .int i => some (i != 0)
  | .str y => if y.length ≤ sizeLine then some ((y.length : Int) != 0) else none
  | .tup xs => some (!xs.isEmpty)
  | .lst xs => some (!xs.isEmpty)
  | .scr xs => some (!xs.isEmpty)
  | .dic xs => some (!xs.isEmpty)
  | _ => none
theorem isEmpty_of_len {α β : Type} {a : List α} {b : List β} (h : a.length = b.length) : a.isEmpty = b.isEmpty := by
  cases a <;> cases b <;> simp_all
theorem tru_of {K : Frag} {F H : Hp} {w : V} {d : D} {k : Bool} (e : Ex F H) (r : Rep K F w d) (h : truth d = some k) : TruV K w H k := by
  cases r with
  | non => cases h; rfl
  | bl b => cases h; rfl
  | int i => cases h; rfl
  | str x =>
    simp only [truth] at h
    by_cases hl : x.length ≤ sizeLine
    · rw [if_pos hl] at h; cases h; exact ⟨hl, rfl⟩
    · rw [if_neg hl] at h; cases h
  | tup h1 r1 => cases h; exact .inr (.inl ⟨_, ex_t e h1, by rw [isEmpty_of_len (Rep.len r1)]⟩)
  | lst h1 r1 => cases h; exact .inl ⟨_, SqL.of (e _ _ h1), by rw [isEmpty_of_len (Rep.len r1)]⟩
  | scr h1 r1 => cases h; exact .inl ⟨_, ex_l e h1, by rw [isEmpty_of_len (Rep.len r1)]⟩
  | dic h1 r1 => cases h; exact .inr (.inr ⟨_, e _ _ h1, by rw [isEmpty_of_len (RepK.len r1)]⟩)
  | npt h1 r1 => cases h
  | obj h1 hx r1 => cases h
  | ins h1 r1 => cases h
def tr (g : Env → Rs D) : Env → Rs Bool := fun δ => bind (g δ) fun x => opt (truth x)
theorem jt_truth {X : Cx} {a : Expr} {g : Env → Rs D} (ha : JP X a g) (he : ∀ whole, isTrue a X.env whole = (do let v ← whole; standAt a.pos; holding [v] (truthy v)) := by intro _; rfl) : JT X a (tr g) := ⟨fun rp tk hg hP =>
  wt_of (pt_truth pe_we he) (jp_bind ha rp tk hg hP fun x vx F1 H1 h1 g1 rx r1 P1 => by
    obtain ⟨k, hk, rfl⟩ := opt_some h1
    exact ⟨k, tru_of r1.ex rx hk, P1 k F1 H1 (.refl r1.ex) rfl⟩)⟩
def asB : D → Option Bool
  | .bl b => some b
  | _ => none
def tb (g : Env → Rs D) : Env → Rs Bool := fun δ => bind (g δ) fun x => opt (asB x)
theorem asB_some {d : D} {b : Bool} (h : asB d = some b) : d = .bl b := by cases d <;> simp_all [asB]
theorem bind_assoc {α β γ : Type} (x : Rs α) (f : α → Rs β) (g : β → Rs γ) : bind (bind x f) g = bind x fun a => bind (f a) g := by
  cases x with
  | none => rfl
  | some y => cases y <;> rfl
theorem jt_cmp {X : Cx} {a b : Expr} {op : CmpOp} {pos : Pos} {r : R2} {g : D → D → Option D} {fa fb : Env → Rs D} (ho : OpR X (compareOp op) r) (hr : OpD X.K r g) (ha : JP X a fa) (hb : JP X b fb)
    (hm : behindInMarks op b = false := by first | exact nomark _ | with_unfolding_all rfl) : JT X (.Compare a [op] [b] pos) (tb (op2 g fa fb)) := ⟨fun rp tk hg hP => by
  simp only [tb, op2, bind_assoc] at hg
  exact wt_of (pt_cmpR ho pe_we pe_we hm) (jp_bind ha rp tk hg hP fun x vx F1 H1 h1 g1 rx r1 P1 => jp_bind hb r1 tk h1 P1 fun y vy F2 H2 h2 g2 ry r2 P2 => by
    cases e : g x y with
    | none => rw [e] at h2; cases h2
    | some z =>
      rw [e] at h2
      obtain ⟨q, hq, rfl⟩ := opt_some (x := asB z) h2
      cases asB_some hq
      refine hr r2.ex (Rep.mono g2.ff rx) ry e _ fun v F' H' g3 rv => ?_
      cases rv
      exact ⟨q, rfl, P2 q F' H' g3 rfl⟩)⟩
theorem jt_not {X : Cx} {a : Expr} {pos : Pos} {t : Env → Rs Bool} (ha : JT X a t) : JT X (.UnaryOp .Not a pos) (fun δ => bind (t δ) fun b => ok (!b)) := ⟨fun rp tk hg hP =>
  wt_of (pt_not pt_wt) (jt_bind ha rp tk hg hP fun x F1 H1 h1 g1 r1 P1 => P1.fin h1 _ F1 H1 (.refl r1.ex) rfl)⟩
/-! and, or as tests -/
def WW (X : Cx) (e : Expr) (σ : L2.St) (H : Hp) (Q : Bool → Hp → Prop) : Prop := ∀ (whole : Sem Value) pins s, Inv X pins σ H s → wpAny (model X.prog X.w) X.A (isTrue e X.env whole) (TP X pins σ Q) X.xe s
theorem pw_ww {X : Cx} {e : Expr} : PW X e (WW X e) := ⟨fun whole pins s _ _ _ I h => h whole pins s I⟩
theorem ww_of {X : Cx} {e : Expr} {t : TT} {σ : L2.St} {H : Hp} {Q : Bool → Hp → Prop} (h : PW X e t) (q : t σ H Q) : WW X e σ H Q := fun whole pins s I => h.run whole pins s σ H Q I q
abbrev JW (X : Cx) (e : Expr) (g : Env → Rs Bool) : Prop := J X (WW X e) relT g
theorem jt_w {X : Cx} {e : Expr} {g : Env → Rs Bool} (h : JW X e g) : JT X e g := ⟨fun rp tk hg hP => fun pins s I => h.run rp tk hg hP _ pins s I⟩
theorem jw_and1 {X : Cx} {a : Expr} {pos : Pos} {t : Env → Rs Bool} (ha : JT X a t) : JW X (.BoolOp .And [a] pos) t := ⟨fun rp tk hg hP => ww_of (pw_and1 pt_wt) (ha.run rp tk hg hP)⟩
theorem jw_or1 {X : Cx} {a : Expr} {pos : Pos} {t : Env → Rs Bool} (ha : JT X a t) : JW X (.BoolOp .Or [a] pos) t := ⟨fun rp tk hg hP => ww_of (pw_or1 pt_wt) (ha.run rp tk hg hP)⟩
def tand (t u : Env → Rs Bool) : Env → Rs Bool := fun δ => bind (t δ) fun b => if b = true then u δ else ok false
def tor (t u : Env → Rs Bool) : Env → Rs Bool := fun δ => bind (t δ) fun b => if b = true then ok true else u δ
theorem jw_and {X : Cx} {a b : Expr} {rest : List Expr} {pos : Pos} {t u : Env → Rs Bool} (ha : JT X a t) (hb : JW X (.BoolOp .And (b :: rest) pos) u) : JW X (.BoolOp .And (a :: b :: rest) pos) (tand t u) := ⟨fun rp tk hg hP =>
  ww_of (pw_and pt_wt pw_ww) (jt_bind ha rp tk hg hP fun x F1 H1 h1 g1 r1 P1 => by
    cases x with
    | true => rw [if_pos rfl] at *; exact hb.run r1 tk h1 P1
    | false => rw [if_neg Bool.false_ne_true] at *; exact P1.fin h1 _ F1 H1 (.refl r1.ex) rfl)⟩
theorem jw_or {X : Cx} {a b : Expr} {rest : List Expr} {pos : Pos} {t u : Env → Rs Bool} (ha : JT X a t) (hb : JW X (.BoolOp .Or (b :: rest) pos) u) : JW X (.BoolOp .Or (a :: b :: rest) pos) (tor t u) := ⟨fun rp tk hg hP =>
  ww_of (pw_or pt_wt pw_ww) (jt_bind ha rp tk hg hP fun x F1 H1 h1 g1 r1 P1 => by
    cases x with
    | false => rw [if_neg Bool.false_ne_true] at *; exact hb.run r1 tk h1 P1
    | true => rw [if_pos rfl] at *; exact P1.fin h1 _ F1 H1 (.refl r1.ex) rfl)⟩
/-! .. as values -/
def vand (a b : Env → Rs D) : Env → Rs D := fun δ => bind (a δ) fun x => bind (opt (truth x)) fun k => if k = true then b δ else ok x
def vor (a b : Env → Rs D) : Env → Rs D := fun δ => bind (a δ) fun x => bind (opt (truth x)) fun k => if k = true then ok x else b δ
def vnot (a : Env → Rs D) : Env → Rs D := fun δ => bind (a δ) fun x => bind (opt (truth x)) fun k => ok (.bl (!k))
theorem bind_opt {α β : Type} {x : Option α} {f : α → Rs β} {o : Except XD β} (h : bind (opt x) f = some o) : ∃ a, x = some a ∧ f a = some o := by
  cases x with
  | none => cases h
  | some a => exact ⟨a, rfl, h⟩
theorem jp_one {X : Cx} {a : Expr} {op} {pos : Pos} {g : Env → Rs D} (h : JP X a g) : JP X (.BoolOp op [a] pos) g := ⟨fun rp tk hg hP => we_of (pe_one pe_we) (h.run rp tk hg hP)⟩
theorem jp_and {X : Cx} {a b : Expr} {rest : List Expr} {pos : Pos} {f g : Env → Rs D} (ha : JP X a f) (hb : JP X (.BoolOp .And (b :: rest) pos) g) : JP X (.BoolOp .And (a :: b :: rest) pos) (vand f g) := ⟨fun rp tk hg hP =>
  we_of (pe_andT pe_we pe_we) (jp_bind ha rp tk hg hP fun x vx F1 H1 h1 g1 rx r1 P1 => by
    obtain ⟨k, hk, h2⟩ := bind_opt h1
    refine ⟨k, tru_of r1.ex rx hk, ?_⟩
    cases k with
    | true => rw [if_pos rfl] at *; exact hb.run r1 tk h2 P1
    | false => rw [if_neg Bool.false_ne_true] at *; exact P1.fin h2 _ F1 H1 (.refl r1.ex) rx)⟩
theorem jp_or {X : Cx} {a b : Expr} {rest : List Expr} {pos : Pos} {f g : Env → Rs D} (ha : JP X a f) (hb : JP X (.BoolOp .Or (b :: rest) pos) g) : JP X (.BoolOp .Or (a :: b :: rest) pos) (vor f g) := ⟨fun rp tk hg hP =>
  we_of (pe_orT pe_we pe_we) (jp_bind ha rp tk hg hP fun x vx F1 H1 h1 g1 rx r1 P1 => by
    obtain ⟨k, hk, h2⟩ := bind_opt h1
    refine ⟨k, tru_of r1.ex rx hk, ?_⟩
    cases k with
    | false => rw [if_neg Bool.false_ne_true] at *; exact hb.run r1 tk h2 P1
    | true => rw [if_pos rfl] at *; exact P1.fin h2 _ F1 H1 (.refl r1.ex) rx)⟩
theorem jp_not {X : Cx} {a : Expr} {pos : Pos} {f : Env → Rs D} (ha : JP X a f) : JP X (.UnaryOp .Not a pos) (vnot f) := ⟨fun rp tk hg hP =>
  we_of (pe_notT pe_we) (jp_bind ha rp tk hg hP fun x vx F1 H1 h1 g1 rx r1 P1 => by
    obtain ⟨k, hk, h2⟩ := bind_opt h1
    exact ⟨k, tru_of r1.ex rx hk, P1.fin h2 _ F1 H1 (.refl r1.ex) (.bl _)⟩)⟩
def vif (t : Env → Rs Bool) (a b : Env → Rs D) : Env → Rs D := fun δ => bind (t δ) fun k => if k = true then a δ else b δ
theorem jp_if {X : Cx} {q a b : Expr} {pos : Pos} {t : Env → Rs Bool} {f g : Env → Rs D} (hq : JT X q t) (ha : JP X a f) (hb : JP X b g) : JP X (.IfExp q a b pos) (vif t f g) := ⟨fun rp tk hg hP =>
  we_of (pe_ifExp pt_wt pe_we pe_we) (jt_bind hq rp tk hg hP fun x F1 H1 h1 g1 r1 P1 => by
    cases x with
    | true => rw [if_pos rfl] at *; exact ha.run r1 tk h1 P1
    | false => rw [if_neg Bool.false_ne_true] at *; exact hb.run r1 tk h1 P1)⟩
/-! ### arguments -/
def anil : Env → Rs (List D) := fun _ => ok []
def acons (a : Env → Rs D) (r : Env → Rs (List D)) : Env → Rs (List D) := fun δ => bind (a δ) fun x => bind (r δ) fun xs => ok (x :: xs)
theorem ja_nil {X : Cx} : JA X [] anil := ⟨fun rp tk hg hP => wa_of pa_nil (hP.fin hg _ _ _ (.refl rp.ex) .nil)⟩
theorem ja_cons {X : Cx} {e : Expr} {es : List Expr} {a : Env → Rs D} {r : Env → Rs (List D)} (ha : JP X e a) (hr : JA X es r) (hs : starEach (e :: es) X.env = (false, eval e X.env) :: starEach es X.env := by rfl) : JA X (e :: es) (acons a r) := ⟨fun rp tk hg hP =>
  wa_of (pa_cons pe_we pa_wa hs) (jp_bind ha rp tk hg hP fun x vx F1 H1 h1 g1 rx r1 P1 => ja_bind hr r1 tk h1 P1 fun xs vxs F2 H2 h2 g2 rxs r2 P2 => P2.fin h2 _ F2 H2 (.refl r2.ex) (.cons (rx.mono g2.ff) rxs))⟩
def vtup (a : Env → Rs (List D)) : Env → Rs D := fun δ => bind (a δ) fun xs => if xs.length ≤ sizeLine then ok (.tup xs) else none
def vlst (a : Env → Rs (List D)) : Env → Rs D := fun δ => bind (a δ) fun xs => if xs.length ≤ sizeLine then ok (.lst xs) else none
def tTupP (t : TA) : TE := fun σ H Q => t σ H fun xs H1 => xs.length ≤ sizeLine ∧ ∀ p o, H1 p = none → PlT o → Q (.ref p) (upd H1 p (.frz o (.tup xs)))
open PySem.Spec PyProof.Rows in
theorem pe_tupP {X : Cx} {es : List Expr} {x1} {pos : Pos} {t : TA} (h : PA X es t) : PE X (.Tuple es x1 pos) (tTupP t) := by
  refine ⟨fun pins s σ H Q I hq => ?_⟩
  refine wpAny_Tuple_spliced (thn (h.run pos pins s σ H _ I hq) fun us s1 ⟨xs, H1, I1, r, z, q⟩ => ⟨by rw [← r.length]; exact z, ?_⟩)
  have hf : H1 s1.heap.objs.size = none := I1.hok.fresh (Nat.le_refl _)
  refine ⟨.ref s1.heap.objs.size, upd H1 s1.heap.objs.size (.frz { cls := .type "tuple", data := .seq us.toArray } (.tup xs)), I1.laid (t' := s1.toks) (fun b u e => Heap.get?_push_of_some _ e) (Nat.le_refl _) ?_, rfl, q _ _ hf ?_⟩
  · exact ⟨Heap.get?_push_size _ rfl, z, us, r, ⟨_, Heap.get?_push_size _ rfl, rfl, _, rfl⟩⟩
  · exact ⟨rfl, rfl, _, _, rfl⟩
theorem jp_tup {X : Cx} {es : List Expr} {x1} {pos : Pos} {a : Env → Rs (List D)} (ha : JA X es a) : JP X (.Tuple es x1 pos) (vtup a) := ⟨fun rp tk hg hP =>
  we_of (pe_tupP pa_wa) (ja_bind ha rp tk hg hP fun xs vs F1 H1 h1 g1 rx r1 P1 => by
    by_cases hl : xs.length ≤ sizeLine
    · rw [if_pos hl] at h1
      exact ⟨by rw [Rep.len rx]; exact hl, fun p ob hp hpl => P1.fin h1 _ _ _ (.new r1.ex hp) (.tup (SqP.of upd_same hpl) (rx.mono (Ex.new (none_back r1.ex hp))))⟩
    · rw [if_neg hl] at h1; cases h1)⟩
theorem jp_lst {X : Cx} {es : List Expr} {pos : Pos} {a : Env → Rs (List D)} (ha : JA X es a) : JP X (.List es pos) (vlst a) := ⟨fun rp tk hg hP =>
  we_of (pe_lst pa_wa) (ja_bind ha rp tk hg hP fun xs vs F1 H1 h1 g1 rx r1 P1 => by
    by_cases hl : xs.length ≤ sizeLine
    · rw [if_pos hl] at h1
      exact ⟨by rw [Rep.len rx]; exact hl, fun p hp => P1.fin h1 _ _ _ (.new r1.ex hp) (.lst upd_same (rx.mono (Ex.new (none_back r1.ex hp))))⟩
    · rw [if_neg hl] at h1; cases h1)⟩
/-! ### calls -/
/-- what a def promises: from data to data -/
def spP (K : Frag) (m : List D → Rs D) : Sp := fun vs H Q E => ∃ F ds o, Ex F H ∧ Reps K F vs ds ∧ m ds = some o ∧ Post (Rep K) K F H [] (fun cls dd _ H' => E cls dd H') o Q
/-- a def of the module -/
structure Fn (P : Program) (w : World) (K : Frag) (mg : Str → Option Value) (base : Heap) (k : Nat) (x : Str) (m : List D → Rs D) : Prop where
  at_ : ∃ f fd ps, FnOk P w K mg base (L2.CX P w) k f fd ps (spP K m) ∧ mg x = some (.ref f) ∧ PySem.W.keepIn K (.ref f) = true ∧ Binds K fd ps []
def vcall (m : List D → Rs D) (a : Env → Rs (List D)) : Env → Rs D := fun δ => bind (a δ) m
theorem post_call {K : Frag} {F H : Hp} {σ : L2.St} {W : WX} {o : Except XD D} {Q : VK} (p : Post (Rep K) K F H σ W o Q) : Post (Rep K) K F H [] (fun cls dd _ H' => L2.WE W σ cls dd H') o Q := by
  cases o with
  | ok d => exact p
  | error x => exact p
theorem jp_call {X : Cx} {k : Nat} {x : Str} {p pos : Pos} {e : Expr} {es : List Expr} {m : List D → Rs D} {a : Env → Rs (List D)} (hf : Fn X.prog X.w X.K X.mg X.base k x m) (hr : Room k X.A) (ha : JA X (e :: es) a) (hg : Gl X x := by rfl)
    (hdb : (x == ("__debug__" : Str)) = false := by decide) (he : starEach (e :: es) X.env = (false, eval e X.env) :: starEach es X.env := by rfl) (hpl : (backTo pos (starEach es X.env)).any (·.1) = false := by rfl) :
    JP X (.Call (.Name x p) (e :: es) [] pos) (vcall m a) := ⟨fun rp tk hg' hP => by
  obtain ⟨f, fd, ps, F, hm, hk, hb⟩ := hf.at_
  exact we_of (pe_callS F hr hg hm hk hb (fun σ => passAt tk σ) pa_wa hdb he hpl) (ja_bind ha rp tk hg' hP fun xs vs F1 H1 h1 g1 rx r1 P1 => ⟨F1, xs, _, r1.ex, rx, h1, post_call P1⟩)⟩
/-- a built-in on data -/
def CallD (K : Frag) (r : List V → Hp → VK → Prop) (g : List D → Option D) : Prop := ∀ {F H : Hp} {vs : List V} {xs : List D} {z : D}, Ex F H → Reps K F vs xs → g xs = some z → ∀ Q : VK, (∀ v F' H', Grow F H F' H' → Rep K F' v z → Q v H') → r vs H Q
def vcallB (g : List D → Option D) (a : Env → Rs (List D)) : Env → Rs D := fun δ => bind (a δ) fun xs => opt (g xs)
theorem jp_callB {X : Cx} {id : String} {x : Str} {p pos : Pos} {e : Expr} {es : List Expr} {r : List V → Hp → VK → Prop} {g : List D → Option D} {a : Env → Rs (List D)} (hc : CallR X (.builtin id) r) (hd : CallD X.K r g) (hm : X.mg x = none) (hv : bootBuiltins x = some (.builtin id)) (ha : JA X (e :: es) a) (hg : Gl X x := by rfl)
    (hn : x ≠ "__name__" := by decide) (hdb : (x == ("__debug__" : Str)) = false := by decide) (he : starEach (e :: es) X.env = (false, eval e X.env) :: starEach es X.env := by rfl) (hpl : (backTo pos (starEach es X.env)).any (·.1) = false := by rfl) :
    JP X (.Call (.Name x p) (e :: es) [] pos) (vcallB g a) := ⟨fun rp tk hg' hP =>
  we_of (pe_callB hc hg hm hv pa_wa hn hdb he hpl) (ja_bind ha rp tk hg' hP fun xs vs F1 H1 h1 g1 rx r1 P1 => by
    obtain ⟨z, hz, rfl⟩ := opt_some h1
    exact hd r1.ex rx hz _ P1)⟩
theorem jp_callTy {X : Cx} {T : String} {x : Str} {p pos : Pos} {e : Expr} {es : List Expr} {r : List V → Hp → VK → Prop} {g : List D → Option D} {a : Env → Rs (List D)} (hc : CallR X (.type T) r) (hd : CallD X.K r g) (hm : X.mg x = none) (hv : bootBuiltins x = some (.type T)) (ha : JA X (e :: es) a) (hg : Gl X x := by rfl)
    (hn : x ≠ "__name__" := by decide) (hdb : (x == ("__debug__" : Str)) = false := by decide) (he : starEach (e :: es) X.env = (false, eval e X.env) :: starEach es X.env := by rfl) (hpl : (backTo pos (starEach es X.env)).any (·.1) = false := by rfl) :
    JP X (.Call (.Name x p) (e :: es) [] pos) (vcallB g a) := ⟨fun rp tk hg' hP =>
  we_of (pe_callTy hc hg hm hv pa_wa hn hdb he hpl) (ja_bind ha rp tk hg' hP fun xs vs F1 H1 h1 g1 rx r1 P1 => by
    obtain ⟨z, hz, rfl⟩ := opt_some h1
    exact hd r1.ex rx hz _ P1)⟩
end PD
end
section
namespace PD
open PySem L2
/-! ### own containers -/
/-- which places of an own object hold containers of its own -/
def ownF (c : Str) (i : Nat) : Bool := (c == ("Water" : Str) && (i == 0 || i == 1 || i == 3)) || (c == ("Tide" : Str) && (i == 3 || i == 4)) || (c == ("Rows" : Str) && (i == 0 || i == 1))
inductive OwnC (K : Frag) (F H : Hp) : V → D → Addr → Prop
  | lst {p : Addr} {vs : List V} {ds : List D} (h : H p = some (.lst vs)) (r : Reps K F vs ds) : OwnC K F H (.ref p) (.lst ds) p
  | dic {p : Addr} {vs : List (Key × V)} {ds : List (Key × D)} (h : H p = some (.dK vs)) (r : RepK K F vs ds) : OwnC K F H (.ref p) (.dic ds) p
theorem OwnC.keep {K : Frag} {F H F' H' : Hp} {w : V} {d : D} {p : Addr} (e : Ex F F') (k : ∀ o, H p = some o → H' p = some o) (o : OwnC K F H w d p) : OwnC K F' H' w d p := by
  cases o with
  | lst h r => exact .lst (k _ h) (r.mono e)
  | dic h r => exact .dic (k _ h) (r.mono e)
/-- an object of one's own: its cell, its (empty) dict, the containers of its own -/
structure OwnB (K : Frag) (F H : Hp) (p dx : Addr) (c : Str) (vs : List (Option V)) (ds : List (Option D)) (kp : Nat → Addr) (fp : List Addr) : Prop where
  ob : H p = some (SlX.SlO p (He.ga K c) dx vs)
  dxo : H dx = some (.xd [])
  ne : dx ≠ p
  fld : ∀ (i : Nat) (d : D), ds[i]? = some (some d) → ∃ v : V, vs[i]? = some (some v) ∧ (if ownF c i = true then OwnC K F H v d (kp i) ∧ kp i ∈ fp ∧ kp i ≠ p ∧ kp i ≠ dx else Rep K F v d)
  dis : ∀ (i j : Nat) (d e : D), i ≠ j → ownF c i = true → ownF c j = true → ds[i]? = some (some d) → ds[j]? = some (some e) → kp i ≠ kp j
  inp : p ∈ fp
  inx : dx ∈ fp
  all : ∀ a ∈ fp, a = p ∨ a = dx ∨ ∃ i d, ownF c i = true ∧ ds[i]? = some (some d) ∧ a = kp i
inductive OwnV (K : Frag) (F H : Hp) : V → D → List Addr → Prop
  | lst {p : Addr} {vs : List V} {ds : List D} (h : H p = some (.lst vs)) (r : Reps K F vs ds) : OwnV K F H (.ref p) (.lst ds) [p]
  | dic {p : Addr} {vs : List (Key × V)} {ds : List (Key × D)} (h : H p = some (.dK vs)) (r : RepK K F vs ds) : OwnV K F H (.ref p) (.dic ds) [p]
  | obj {p dx : Addr} {c : Str} {vs : List (Option V)} {ds : List (Option D)} {kp : Nat → Addr} {fp : List Addr} (h : OwnB K F H p dx c vs ds kp fp) : OwnV K F H (.ref p) (.obj c ds) fp
theorem OwnB.keep {K : Frag} {F H F' H' : Hp} {p dx : Addr} {c : Str} {vs : List (Option V)} {ds : List (Option D)} {kp : Nat → Addr} {fp : List Addr} (e : Ex F F') (k : ∀ a ∈ fp, ∀ o, H a = some o → H' a = some o) (o : OwnB K F H p dx c vs ds kp fp) : OwnB K F' H' p dx c vs ds kp fp where
  ob := k _ o.inp _ o.ob
  dxo := k _ o.inx _ o.dxo
  ne := o.ne
  fld := fun i d h => by
    obtain ⟨v, hv, r⟩ := o.fld i d h
    refine ⟨v, hv, ?_⟩
    split
    · rename_i q; rw [if_pos q] at r; exact ⟨r.1.keep e (k _ r.2.1), r.2⟩
    · rename_i q; rw [if_neg q] at r; exact r.mono e
  dis := o.dis
  inp := o.inp
  inx := o.inx
  all := o.all
theorem OwnV.keep {K : Frag} {F H F' H' : Hp} {w : V} {d : D} {fp : List Addr} (e : Ex F F') (k : ∀ a ∈ fp, ∀ o, H a = some o → H' a = some o) (o : OwnV K F H w d fp) : OwnV K F' H' w d fp := by
  cases o with
  | lst h r => exact .lst (k _ (List.mem_singleton.2 rfl) _ h) (r.mono e)
  | dic h r => exact .dic (k _ (List.mem_singleton.2 rfl) _ h) (r.mono e)
  | obj h => exact .obj (h.keep e k)
/-- what a caller lets a body change; bx: the cells of its first argument, rt: that one itself -/
structure Pm where
  ch : Addr → Prop
  bx : Addr → Prop
  rt : Addr → Prop
instance : CoeFun Pm (fun _ => Addr → Prop) := ⟨Pm.ch⟩
def Pm.no : Pm := ⟨fun _ => False, fun _ => False, fun _ => False⟩
/-- at the level of statements the box alone changes -/
class PmOk (P : Pm) : Prop where
  ok : ∀ a, P a → P.bx a
instance : PmOk Pm.no := ⟨fun _ h => h⟩
instance (S r : Addr → Prop) : PmOk ⟨S, S, r⟩ := ⟨fun _ h => h⟩
/-- the slots of a def's body. own: those that hold containers of its own; F0, H0: the entry; P: what the caller lets it change -/
structure RS (K : Frag) (own : List Nat) (P : Pm) (F0 H0 F : Hp) (σ : L2.St) (H : Hp) (δ : Env) : Prop where
  ff : Ex F0 F
  fh : Ex F H
  hh : ∀ a o, ¬ P a → H0 a = some o → H a = some o
  dm : ∀ a, H0 a ≠ none → H a ≠ none
  nw : ∀ a, F a ≠ none → F0 a ≠ none ∨ H0 a = none
  ln : σ.length = δ.length
  par : ∀ a, P.rt a → 0 ∈ own ∧ σ[0]? = some (some (.ref a))
  bxh : ∀ a, P.bx a → H0 a ≠ none
  val : ∀ (i : Nat) (d : D), i ∉ own → δ[i]? = some (some d) → ∃ v : V, σ[i]? = some (some v) ∧ Rep K F v d
  own : ∃ fp : Nat → List Addr, (∀ (i : Nat) (d : D), i ∈ own → δ[i]? = some (some d) → ∃ v : V, σ[i]? = some (some v) ∧ OwnV K F H v d (fp i)) ∧
    (∀ i a, a ∈ fp i → F a = none ∧ H a ≠ none ∧ (H0 a = none ∨ P a ∧ (P.bx a → i = 0))) ∧ ∀ i j a, i ≠ j → a ∈ fp i → a ∉ fp j
def mask (own : List Nat) (δ : Env) : Env := own.foldl (fun δ i => δ.set i none) δ
theorem mask_get : ∀ {own : List Nat} {δ : Env} {i : Nat} {d : D}, (mask own δ)[i]? = some (some d) → i ∉ own ∧ δ[i]? = some (some d)
  | [], _, _, _, h => ⟨by simp, h⟩
  | j :: own, δ, i, d, h => by
    obtain ⟨a, b⟩ := mask_get (own := own) (δ := δ.set j none) h
    by_cases e : j = i
    · subst e
      rw [List.getElem?_set] at b
      by_cases hl : j < δ.length <;> simp [hl] at b
    · rw [List.getElem?_set_ne e] at b
      exact ⟨by simp; exact ⟨fun h => e h.symm, a⟩, b⟩
theorem mask_len : ∀ {own : List Nat} {δ : Env}, (mask own δ).length = δ.length
  | [], _ => rfl
  | j :: own, δ => (mask_len (own := own) (δ := δ.set j none)).trans (List.length_set ..)
theorem RS.rp {K : Frag} {own : List Nat} {P : Pm} {F0 H0 F : Hp} {σ : L2.St} {H : Hp} {δ : Env} (r : RS K own P F0 H0 F σ H δ) : RP K F σ H (mask own δ) :=
  ⟨r.fh, r.ln.trans mask_len.symm, fun i d h => let ⟨a, b⟩ := mask_get h; r.val i d a b⟩
theorem RS.grow {K : Frag} {own : List Nat} {P : Pm} {F0 H0 F F' H' : Hp} {σ : L2.St} {H : Hp} {δ : Env} (r : RS K own P F0 H0 F σ H δ) (g : Grow F H F' H') : RS K own P F0 H0 F' σ H' δ where
  ff := r.ff.trans g.ff
  fh := g.fh
  hh := fun a o p h => g.hh a o (r.hh a o p h)
  dm := fun a h => by
    have := r.dm a h
    cases e : H a with
    | none => exact absurd e this
    | some o => rw [g.hh a o e]; simp
  nw := fun a h => (g.nw a h).elim (r.nw a) fun h1 => by
    by_cases e : H0 a = none
    · exact .inr e
    · exact absurd h1 (r.dm a e)
  ln := r.ln
  par := r.par
  bxh := r.bxh
  val := fun i d h e => let ⟨v, a, b⟩ := r.val i d h e; ⟨v, a, b.mono g.ff⟩
  own := by
    obtain ⟨fp, h1, h2, h3⟩ := r.own
    refine ⟨fp, fun i d hi e => ?_, fun i a ha => ?_, h3⟩
    · obtain ⟨v, a, b⟩ := h1 i d hi e
      exact ⟨v, a, b.keep g.ff fun a _ o h => g.hh a o h⟩
    · obtain ⟨a1, a2, a3⟩ := h2 i a ha
      refine ⟨?_, ?_, a3⟩
      · cases e : F' a with
        | none => rfl
        | some o => exact ((g.nw a (by rw [e]; simp)).elim (fun h => absurd a1 h) fun h => absurd h a2)
      · cases e : H a with
        | none => exact absurd e a2
        | some o => rw [g.hh a o e]; simp
/-! ### outcomes with slots -/
abbrev RE (α : Type) := Option (Except (XD × Env) (α × Env))
def bindE {α β : Type} (x : RE α) (f : α → Env → RE β) : RE β := match x with
  | none => none
  | some (.error e) => some (.error e)
  | some (.ok (a, δ)) => f a δ
def lf {α : Type} (own : List Nat) (g : Env → Rs α) : Env → RE α := fun δ => match g (mask own δ) with
  | none => none
  | some (.ok d) => some (.ok (d, δ))
  | some (.error x) => some (.error (x, δ))
/-- the frame of a body, for short -/
structure Fr where
  own : List Nat
  P : Pm
  F0 : Hp
  H0 : Hp
abbrev RSf (X : Cx) (f : Fr) (F : Hp) (σ : L2.St) (H : Hp) (δ : Env) : Prop := RS X.K f.own f.P f.F0 f.H0 F σ H δ
def PostE {α β : Type} (rel : Hp → β → α → Prop) (X : Cx) (f : Fr) (F : Hp) (σ : L2.St) (W : WX) (o : Except (XD × Env) (α × Env)) (Q : β → Hp → Prop) : Prop := match o with
  | .ok (d, δ') => ∀ v F' H', RSf X f F' σ H' δ' → Ex F F' → rel F' v d → Q v H'
  | .error (x, δ') => ∀ cls dd F' H', RSf X f F' σ H' δ' → Ex F F' → RepX X.K F' cls dd x → W cls dd σ H'
structure JS0 {α β : Type} (X : Cx) (own : List Nat) (w : L2.St → Hp → (β → Hp → Prop) → Prop) (rel : Hp → β → α → Prop) (g : Env → RE α) : Prop where
  run : ∀ {P F0 H0 σ F H δ W Q o}, RSf X ⟨own, P, F0, H0⟩ F σ H δ → Takes X W → g δ = some o → PostE rel X ⟨own, P, F0, H0⟩ F σ W o Q → w σ H Q
abbrev JE (X : Cx) (own : List Nat) (e : Expr) (g : Env → RE D) : Prop := JS0 X own (WE X e) (Rep X.K) g
abbrev JTE (X : Cx) (own : List Nat) (e : Expr) (g : Env → RE Bool) : Prop := JS0 X own (WT X e) relT g
abbrev JAE (X : Cx) (own : List Nat) (es : List Expr) (g : Env → RE (List D)) : Prop := JS0 X own (WA X es) (Reps X.K) g
/-- a pure thing among others -/
theorem js_lift {α β : Type} {X : Cx} {own : List Nat} {w : L2.St → Hp → (β → Hp → Prop) → Prop} {rel : Hp → β → α → Prop} {g : Env → Rs α} (h : J X w rel g) : JS0 X own w rel (lf own g) := ⟨fun {P F0 H0 σ F H δ W Q o} r tk hg hP => by
  unfold lf at hg
  cases e : g (mask own δ) with
  | none => rw [e] at hg; cases hg
  | some y => cases y with
    | ok d => rw [e] at hg; cases hg; exact h.run r.rp tk e fun v F' H' gr rv => hP v F' H' (r.grow gr) gr.ff rv
    | error x => rw [e] at hg; cases hg; exact h.run r.rp tk e fun c d F' H' gr rv => hP c d F' H' (r.grow gr) gr.ff rv⟩
theorem PostE.later {α β : Type} {rel : Hp → β → α → Prop} {X : Cx} {f : Fr} {F F1 : Hp} {σ : L2.St} {W : WX} {o : Except (XD × Env) (α × Env)} {Q : β → Hp → Prop} (e : Ex F F1) (p : PostE rel X f F σ W o Q) : PostE rel X f F1 σ W o Q := by
  cases o with
  | ok d => exact fun v F' H' r g' rv => p v F' H' r (e.trans g') rv
  | error x => exact fun c d F' H' r g' rv => p c d F' H' r (e.trans g') rv
theorem js_bind {α β α2 β2 : Type} {X : Cx} {own : List Nat} {w : L2.St → Hp → (β → Hp → Prop) → Prop} {rel : Hp → β → α → Prop} {rel2 : Hp → β2 → α2 → Prop} {g : Env → RE α} {k : α → Env → RE α2} {σ : L2.St} {P : Pm} {F0 H0 F H : Hp} {δ : Env} {W : WX} {o : Except (XD × Env) (α2 × Env)} {Q : β2 → Hp → Prop} {Q1 : β → Hp → Prop}
    (ha : JS0 X own w rel g) (r : RSf X ⟨own, P, F0, H0⟩ F σ H δ) (tk : Takes X W) (hg : bindE (g δ) k = some o) (hP : PostE rel2 X ⟨own, P, F0, H0⟩ F σ W o Q)
    (hk : ∀ x v δ1 F1 H1, k x δ1 = some o → Ex F F1 → rel F1 v x → RSf X ⟨own, P, F0, H0⟩ F1 σ H1 δ1 → PostE rel2 X ⟨own, P, F0, H0⟩ F1 σ W o Q → Q1 v H1) : w σ H Q1 := by
  cases e : g δ with
  | none => rw [e] at hg; cases hg
  | some y => cases y with
    | ok x => rw [e] at hg; exact ha.run r tk e fun v F1 H1 r1 e1 rx => hk x.1 v x.2 F1 H1 hg e1 rx r1 (hP.later e1)
    | error x => rw [e] at hg; cases hg; exact ha.run r tk e hP
/-! ### statements -/
inductive Out where
  | nx | rt (d : D) | bk | ct
abbrev RO := RE Out
def PostS (X : Cx) (f : Fr) (F : Hp) (W : WX) (o : Except (XD × Env) (Out × Env)) (D : Ends) : Prop := match o with
  | .ok (.nx, δ') => ∀ σ' F' H', RSf X f F' σ' H' δ' → Ex F F' → D.nx σ' H'
  | .ok (.rt d, δ') => ∀ v σ' F' H', RSf X f F' σ' H' δ' → Ex F F' → Rep X.K F' v d → D.rt v H'
  | .ok (.bk, δ') => ∀ σ' F' H', RSf X f F' σ' H' δ' → Ex F F' → D.bk σ' H'
  | .ok (.ct, δ') => ∀ σ' F' H', RSf X f F' σ' H' δ' → Ex F F' → D.ct σ' H'
  | .error (x, δ') => ∀ cls dd σ' F' H', RSf X f F' σ' H' δ' → Ex F F' → RepX X.K F' cls dd x → W cls dd σ' H'
theorem PostS.later {X : Cx} {f : Fr} {F F1 : Hp} {W : WX} {o : Except (XD × Env) (Out × Env)} {D : Ends} (e : Ex F F1) (p : PostS X f F W o D) : PostS X f F1 W o D := by
  rcases o with x | ⟨o, δ'⟩
  · exact fun c d σ F' H' r g' rv => p c d σ F' H' r (e.trans g') rv
  · cases o with
    | nx => exact fun σ F' H' r g' => p σ F' H' r (e.trans g')
    | rt d => exact fun v σ F' H' r g' rv => p v σ F' H' r (e.trans g') rv
    | bk => exact fun σ F' H' r g' => p σ F' H' r (e.trans g')
    | ct => exact fun σ F' H' r g' => p σ F' H' r (e.trans g')
structure JS (X : Cx) (own : List Nat) (st : Stmt) (g : Env → RO) : Prop where
  run : ∀ {P F0 H0 σ F H δ W o D} [PmOk P], RSf X ⟨own, P, F0, H0⟩ F σ H δ → Takes X W → g δ = some o → PostS X ⟨own, P, F0, H0⟩ F W o D → WS X st D σ H
structure JSs (X : Cx) (own : List Nat) (st : List Stmt) (g : Env → RO) : Prop where
  run : ∀ {P F0 H0 σ F H δ W o D} [PmOk P], RSf X ⟨own, P, F0, H0⟩ F σ H δ → Takes X W → g δ = some o → PostS X ⟨own, P, F0, H0⟩ F W o D → WSs X st D σ H
/-- an expression in a statement -/
theorem se_bind {α β : Type} {X : Cx} {own : List Nat} {w : L2.St → Hp → (β → Hp → Prop) → Prop} {rel : Hp → β → α → Prop} {g : Env → RE α} {k : α → Env → RO} {σ : L2.St} {P : Pm} {F0 H0 F H : Hp} {δ : Env} {W : WX} {o : Except (XD × Env) (Out × Env)} {D : Ends} {Q1 : β → Hp → Prop}
    (ha : JS0 X own w rel g) (r : RSf X ⟨own, P, F0, H0⟩ F σ H δ) (tk : Takes X W) (hg : bindE (g δ) k = some o) (hP : PostS X ⟨own, P, F0, H0⟩ F W o D)
    (hk : ∀ x v δ1 F1 H1, k x δ1 = some o → Ex F F1 → rel F1 v x → RSf X ⟨own, P, F0, H0⟩ F1 σ H1 δ1 → PostS X ⟨own, P, F0, H0⟩ F1 W o D → Q1 v H1) : w σ H Q1 := by
  cases e : g δ with
  | none => rw [e] at hg; cases hg
  | some y => cases y with
    | ok x => rw [e] at hg; exact ha.run r tk e fun v F1 H1 r1 e1 rx => hk x.1 v x.2 F1 H1 hg e1 rx r1 (hP.later e1)
    | error x => rw [e] at hg; cases hg; exact ha.run r tk e fun c d F' H' r1 e1 rx => hP c d σ F' H' r1 e1 rx
def snext : Env → RO := fun δ => some (.ok (.nx, δ))
def sseq (a b : Env → RO) : Env → RO := fun δ => match a δ with
  | some (.ok (.nx, δ')) => b δ'
  | x => x
theorem js_nil {X : Cx} {own : List Nat} : JSs X own [] snext := ⟨fun r tk hg hP => by cases hg; exact wss_of pss_nil (hP _ _ _ r (Ex.refl _))⟩
theorem js_one {X : Cx} {own : List Nat} {st : Stmt} {g : Env → RO} (h : JS X own st g) : JSs X own [st] g := ⟨fun r tk hg hP => wss_of (pss_one ps_ws) (h.run r tk hg hP)⟩
theorem js_cons {X : Cx} {own : List Nat} {st : Stmt} {rest : List Stmt} {g k : Env → RO} (h : JS X own st g) (hr : JSs X own rest k) : JSs X own (st :: rest) (sseq g k) := ⟨fun {P F0 H0 σ F H δ W o D} _ r tk hg hP => by
  refine wss_of (pss_cons ps_ws pss_wss) ?_
  show WS X st { D with nx := WSs X rest D } σ H
  unfold sseq at hg
  cases e : g δ with
  | none => rw [e] at hg; cases hg
  | some y => rcases y with x | ⟨o1, δ1⟩
              · rw [e] at hg; cases hg; exact h.run r tk e hP
              · cases o1 with
                | nx => rw [e] at hg; exact h.run r tk e fun σ' F' H' r1 e1 => hr.run r1 tk hg (hP.later e1)
                | rt d => rw [e] at hg; cases hg; exact h.run r tk e hP
                | bk => rw [e] at hg; cases hg; exact h.run r tk e hP
                | ct => rw [e] at hg; cases hg; exact h.run r tk e hP⟩
def sret (f : Env → RE D) : Env → RO := fun δ => bindE (f δ) fun d δ' => some (.ok (.rt d, δ'))
theorem js_ret {X : Cx} {own : List Nat} {e : Expr} {pos : Pos} {f : Env → RE D} (h : JE X own e f) : JS X own (.Return (some e) pos) (sret f) := ⟨fun r tk hg hP => ws_of (ps_ret pe_we) (se_bind h r tk hg hP fun x v δ1 F1 H1 h1 e1 rx r1 P1 => by cases h1; exact P1 v _ F1 H1 r1 (Ex.refl _) rx)⟩
def sretN : Env → RO := fun δ => some (.ok (.rt .non, δ))
theorem js_retN {X : Cx} {own : List Nat} {pos : Pos} : JS X own (.Return none pos) sretN := ⟨fun r tk hg hP => by cases hg; exact ws_of ps_retN (hP .non _ _ _ r (Ex.refl _) .non)⟩
def sdrop (f : Env → RE D) : Env → RO := fun δ => bindE (f δ) fun _ δ' => some (.ok (.nx, δ'))
theorem js_expr {X : Cx} {own : List Nat} {e : Expr} {pos : Pos} {f : Env → RE D} (h : JE X own e f) (hs : swapsWith e none pos.line X.env = pure false := by rfl) : JS X own (.Expr e pos) (sdrop f) := ⟨fun r tk hg hP => ws_of (ps_expr pe_we hs) (se_bind h r tk hg hP fun x v δ1 F1 H1 h1 e1 rx r1 P1 => by cases h1; exact P1 _ F1 H1 r1 (Ex.refl _))⟩
def sif (t : Env → RE Bool) (a b : Env → RO) : Env → RO := fun δ => bindE (t δ) fun k δ' => if k = true then a δ' else b δ'
theorem js_if {X : Cx} {own : List Nat} {q : Expr} {a b : List Stmt} {pos : Pos} {t : Env → RE Bool} {f g : Env → RO} (hq : JTE X own q t) (ha : JSs X own a f) (hb : JSs X own b g) : JS X own (.If q a b pos) (sif t f g) := ⟨fun {P F0 H0 σ F H δ W o D} _ r tk hg hP => by
  refine ws_of (ps_if pt_wt pss_wss pss_wss) ?_
  show WT X q σ H fun k H1 => if k = true then WSs X a D σ H1 else WSs X b D σ H1
  exact se_bind hq r tk hg hP fun x v δ1 F1 H1 h1 e1 rx r1 P1 => by
    cases rx
    cases x with
    | true => rw [if_pos rfl] at *; exact ha.run r1 tk h1 P1
    | false => rw [if_neg Bool.false_ne_true] at *; exact hb.run r1 tk h1 P1⟩
theorem RS.set {K : Frag} {own : List Nat} {P : Pm} {F0 H0 F : Hp} {σ : L2.St} {H : Hp} {δ : Env} {i : Nat} {w : V} {d : D} (r : RS K own P F0 H0 F σ H δ) (hi : i ∉ own) (rw' : Rep K F w d) : RS K own P F0 H0 F (σ.set i (some w)) H (δ.set i (some d)) where
  ff := r.ff
  fh := r.fh
  hh := r.hh
  dm := r.dm
  nw := r.nw
  ln := by rw [List.length_set, List.length_set, r.ln]
  bxh := r.bxh
  par := fun a h => ⟨(r.par a h).1, by rw [List.getElem?_set_ne (fun e => hi (by rw [e]; exact (r.par a h).1))]; exact (r.par a h).2⟩
  val := fun j d' hj e => by
    by_cases h : i = j
    · subst h
      by_cases hl : i < δ.length
      · rw [List.getElem?_set_self hl] at e; cases e
        exact ⟨w, by rw [List.getElem?_set_self (by rw [r.ln]; exact hl)], rw'⟩
      · rw [List.getElem?_eq_none (by rw [List.length_set]; omega)] at e; cases e
    · rw [List.getElem?_set_ne h] at e ⊢
      exact r.val j d' hj e
  own := by
    obtain ⟨fp, h1, h2⟩ := r.own
    refine ⟨fp, fun j d' hj e => ?_, h2⟩
    have h : i ≠ j := fun h => hi (by rw [h]; exact hj)
    rw [List.getElem?_set_ne h] at e ⊢
    exact h1 j d' hj e
def sset (i : Nat) (f : Env → RE D) : Env → RO := fun δ => bindE (f δ) fun d δ' => some (.ok (.nx, δ'.set i (some d)))
theorem js_set {X : Cx} {own : List Nat} (i : Nat) {x : Str} {e : Expr} {pos pos' : Pos} {f : Env → RE D} (hN : X.N.Nodup) (h : JE X own e f) (hi : X.N[i]? = some x := by rfl) (hx : Loc X.env.scope x := by first | exact Or.inl rfl | exact Or.inr rfl) (ho : i ∉ own := by decide)
    (hs : swapsWith e (some (.Name x pos')) pos.line X.env = pure false := by rfl) (hf : X.fn x = true ∨ X.env.scope.names.lookup x = some .local := by first | exact .inl rfl | exact .inr rfl | assumption) : JS X own (.Assign [.Name x pos'] e pos) (sset i f) :=
  ⟨fun r tk hg hP => ws_of (ps_set hN hi hx pe_we hs hf) (se_bind h r tk hg hP fun x v δ1 F1 H1 h1 e1 rx r1 P1 => by cases h1; exact P1 _ F1 H1 (r1.set ho rx) (Ex.refl _))⟩
end PD
end
section
namespace PD
open PySem L2
/-! ### a def -/
def den (n N : Nat) (body : Env → RO) (ds : List D) : Rs D := if ds.length = n then (match body (ds.map some ++ List.replicate (N - n) none) with
  | none => none
  | some (.ok (.rt d, _)) => ok d
  | some (.ok (.nx, _)) => ok .non
  | some (.ok (.bk, _)) => none
  | some (.ok (.ct, _)) => none
  | some (.error (x, _)) => some (.error x)) else none
theorem Reps.some_get {K : Frag} {F : Hp} : ∀ {vs : List V} {ds : List D} {n m i : Nat} {d : D}, Reps K F vs ds → (ds.map some ++ List.replicate n (none : Option D))[i]? = some (some d) → ∃ v : V, (vs.map some ++ List.replicate m (none : Option V))[i]? = some (some v) ∧ Rep K F v d
  | _, _, n, m, i, d, .nil, e => by
    rw [List.map_nil, List.nil_append, List.getElem?_replicate] at e
    by_cases h : i < n
    · rw [if_pos h] at e; cases e
    · rw [if_neg h] at e; cases e
  | _, _, n, m, 0, d, .cons h r, e => by cases e; exact ⟨_, rfl, h⟩
  | _, _, n, m, i + 1, d, .cons h r, e => by
    rw [List.map_cons, List.cons_append, List.getElem?_cons_succ] at e
    rw [List.map_cons, List.cons_append, List.getElem?_cons_succ]
    exact Reps.some_get r e
section
variable {P : Program} {w : World} {K : Frag} {mg : Str → Option Value} {base : Heap}
theorem fn_ok {x qual : Str} {params : Arguments} {body : List Stmt} {scope : Scope} {f : Addr} {fd : FuncData} {dvs : List V} {kws : List (Str × V)} {N ps : List Str} {k : Nat} {own : List Nat} {g : Env → RO} (F : FunD K x qual params body scope dvs kws f fd) (S : FnScope N ps scope) (hon : own.all (fun i => decide (ps.length ≤ i)) = true)
    (hps : decide (ps.length ≤ N.length) = true)
    (hb : ∀ (cdv : Value) (A : Around) (outer : List PySem.Env) (s : Shared) (H : Hp) (E : XK), Room k (A.deeper (PyProof.Rows.envOfC qual scope s.heap.objs.size f cdv)) → JSs (cxOf (L2.CX P w) P w K mg base N qual scope f cdv A outer s H E) own body g) :
    FnOk P w K mg base (L2.CX P w) (k + 1) f fd ps (spP K (den ps.length N.length g)) := by
  refine FunD.ok F S (fun vs H Q E h => ?_) (fun cdv A outer s H vs Q E hr h => ?_)
  · obtain ⟨F', ds, o, e, r, h1, _⟩ := h
    unfold den at h1
    by_cases hl : ds.length = ps.length
    · rw [Rep.len r, hl]
    · rw [if_neg hl] at h1; cases h1
  · obtain ⟨F', ds, o, e, r, h1, hP⟩ := h
    unfold den at h1
    by_cases hl : ds.length = ps.length
    · rw [if_pos hl] at h1
      have hl' : ps.length ≤ N.length := of_decide_eq_true hps
      have hlv : vs.length = ps.length := by rw [Rep.len r, hl]
      refine ⟨_, pss_wss, ?_⟩
      have tk : Takes (cxOf (L2.CX P w) P w K mg base N qual scope f cdv A outer s H E) (fun cls d _ H => E cls d H) := takes_of rfl rfl rfl rfl
      have R0 : RSf (cxOf (L2.CX P w) P w K mg base N qual scope f cdv A outer s H E) ⟨own, Pm.no, F', H⟩ F' (L2.start N vs) H (ds.map some ++ List.replicate (N.length - ps.length) none) := {
        ff := Ex.refl _
        fh := e
        hh := fun _ _ _ h => h
        dm := fun _ h => h
        nw := fun _ h => .inl h
        ln := by unfold L2.start; simp [hl, hlv]
        par := fun _ h => h.elim
        bxh := fun _ h => h.elim
        val := fun i d _ h => by
          unfold L2.start
          exact Reps.some_get r h
        own := ⟨fun _ => [], And.intro (fun (i : Nat) (d : D) hi (h : (List.map some ds ++ List.replicate (N.length - ps.length) (none : Option D))[i]? = some (some d)) => by
          have := of_decide_eq_true (List.all_eq_true.1 hon i hi)
          rw [List.getElem?_append_right (by rw [List.length_map, hl]; exact this), List.getElem?_replicate] at h
          split at h <;> cases h) (And.intro (fun i a h => absurd h (by simp)) (fun i j a _ h => absurd h (by simp)))⟩ }
      cases e2 : g (ds.map some ++ List.replicate (N.length - ps.length) none) with
      | none => rw [e2] at h1; cases h1
      | some y =>
        rw [e2] at h1
        refine (hb cdv A outer s H E hr).run R0 tk e2 ?_
        rcases y with ⟨x, δ'⟩ | ⟨o1, δ'⟩
        · cases h1
          exact fun cls dd σ' F1 H1 r1 e1 rx => hP cls dd F1 H1 ⟨e1, r1.fh, fun a o h => r1.hh a o (fun h => h.elim) h, r1.nw⟩ rx
        · cases o1 with
          | rt d => cases h1; exact fun v σ' F1 H1 r1 e1 rx => hP v F1 H1 ⟨e1, r1.fh, fun a o h => r1.hh a o (fun h => h.elim) h, r1.nw⟩ rx
          | nx => cases h1; exact fun σ' F1 H1 r1 e1 => hP .non F1 H1 ⟨e1, r1.fh, fun a o h => r1.hh a o (fun h => h.elim) h, r1.nw⟩ .non
          | bk => cases h1
          | ct => cases h1
    · rw [if_neg hl] at h1; cases h1
end
/-! ### operators on data -/
def dAdd : D → D → Option D
  | .int i, .int j => some (.int (i + j))
  | .str i, .str j => if i.length + j.length ≤ sizeLine then some (.str (i ++ j)) else none
  | .tup i, .tup j => if i.length + j.length ≤ sizeLine then some (.tup (i ++ j)) else none
  | .lst i, .lst j => if i.length + j.length ≤ sizeLine then some (.lst (i ++ j)) else none
  | _, _ => none
/-- t + u, the new one plain -/
def rCatP (K : Frag) : R2 := fun x y H Q => ∃ a b xs ys, x = .ref a ∧ y = .ref b ∧ SqT K H a xs ∧ SqT K H b ys ∧ xs.length + ys.length ≤ sizeLine ∧
  (xs = [] → Q (.ref b) H) ∧ (xs ≠ [] → ys = [] → Q (.ref a) H) ∧ (xs ≠ [] → ys ≠ [] → ∀ p o, H p = none → PlT o → Q (.ref p) (upd H p (.frz o (.tup (xs ++ ys)))))
open PySem.Spec PyProof.Rows in
theorem op_catP {X : Cx} : OpR X (binaryOp .Add) (rCatP X.K) := by
  intro pins s σ H x y v u Q I rx ry h
  obtain ⟨a, b, xs, ys, rfl, rfl, ha, hb, hz, q0, q1, q2⟩ := h
  by_cases hx : xs = []
  · exact op_catA pins s σ H _ _ v u Q I rx ry ⟨a, b, xs, ys, rfl, rfl, ha, hb, hz, q0, q1, fun h => absurd hx h⟩
  · cases rx
    cases ry
    obtain ⟨its, r1, p1, _⟩ := I.tuple ha
    obtain ⟨its2, r2, p2, _⟩ := I.tuple hb
    refine HT.cat_tup p1 p2 (fun z => hx (r1.nil_iff.mp z)) (fun z => ⟨.ref a, H, I, rfl, q1 hx (r2.nil_iff.mp z)⟩) (fun z => ?_) (by rw [← r1.length, ← r2.length]; exact hz)
    refine ⟨.ref s.heap.objs.size, _, I.laid (t' := s.toks) (o := .frz { cls := .type "tuple", data := .seq (its ++ its2).toArray } (.tup (xs ++ ys))) (fun b ob q => Heap.get?_push_of_some _ q) (Nat.le_refl _) ?_, rfl, q2 hx (fun w => z (r2.nil_iff.mpr w)) _ _ (I.hok.fresh (Nat.le_refl _)) ⟨rfl, rfl, _, _, rfl⟩⟩
    refine ⟨?_, by rw [List.length_append]; exact hz, _, r1.append r2, ?_⟩
    · simpa using Heap.get?_push_size _ rfl
    · simpa using IsTup.new _ _
abbrev rAddI : R2 := rI0 fun i j => .int (i + j)
abbrev rAddS : R2 := fun x y H Q => ∃ i j, x = .str i ∧ y = .str j ∧ i.length + j.length ≤ sizeLine ∧ Q (.str (i ++ j)) H
abbrev rAdd (K : Frag) : R2 := fun x y H Q => (rAddI x y H Q ∨ rAddS x y H Q) ∨ (rCatP K x y H Q ∨ rCat x y H Q)
theorem o_add {X : Cx} : OpR X (binaryOp .Add) (rAdd X.K) := (op_add.or op_add_str).or (op_catP.or op_cat)
theorem isnil {α β : Type} {a : List α} {b : List β} (h : a.length = b.length) : a = [] → b = [] := by
  intro e; subst e; exact List.length_eq_zero_iff.1 h.symm
theorem d_add {K : Frag} : OpD K (rAdd K) dAdd := fun {F H vx vy x y z} e rx ry h Q q => by
  cases rx <;> cases ry <;> (try (cases h; done)) <;> simp only [dAdd] at h
  case int.int i j => cases h; exact .inl (.inl ⟨i, j, rfl, rfl, q _ F H (.refl e) (.int _)⟩)
  case str.str i j =>
    split at h
    · cases h; exact .inl (.inr ⟨i, j, rfl, rfl, by assumption, q _ F H (.refl e) (.str _)⟩)
    · cases h
  case tup.tup a vs ds h1 r1 b ws es h2 r2 =>
    split at h
    · cases h
      have l1 := Rep.len r1
      have l2 := Rep.len r2
      refine .inr (.inl ⟨a, b, vs, ws, rfl, rfl, ex_t e h1, ex_t e h2, by omega, fun e1 => ?_, fun e1 e2 => ?_, fun e1 e2 p ob hp hpl => ?_⟩)
      · cases isnil l1 e1; exact q _ F H (.refl e) (.tup h2 r2)
      · cases isnil l2 e2; rw [List.append_nil] at q; exact q _ F H (.refl e) (.tup h1 r1)
      · exact q _ _ _ (.new e hp) (.tup (SqP.of upd_same hpl) ((r1.app r2).mono (Ex.new (none_back e hp))))
    · cases h
  case lst.lst a vs ds h1 r1 b ws es h2 r2 =>
    split at h
    · cases h
      have l1 := Rep.len r1
      have l2 := Rep.len r2
      exact .inr (.inr ⟨a, b, vs, ws, rfl, rfl, e _ _ h1, e _ _ h2, by omega, fun p hp => q _ _ _ (.new e hp) (.lst upd_same ((r1.app r2).mono (Ex.new (none_back e hp))))⟩)
    · cases h
def dSub : D → D → Option D
  | .int i, .int j => some (.int (i - j))
  | _, _ => none
theorem d_sub {K : Frag} : OpD K (rI0 fun i j => .int (i - j)) dSub := fun {F H vx vy x y z} e rx ry h Q q => by
  cases rx <;> cases ry <;> (try (cases h; done))
  cases h; exact ⟨_, _, rfl, rfl, q _ F H (.refl e) (.int _)⟩
instance (i j : Int) : Decidable (CMulW i j) := inferInstanceAs (Decidable (_ < _))
instance (i j : Int) : Decidable (CMul i j) := inferInstanceAs (Decidable (_ ∨ _))
def dMul : D → D → Option D
  | .int i, .int j => if CMulW i j then some (.int (i * j)) else if CMul i j then some (.int (i * j)) else none
  | .lst xs, .int k => if -(2 ^ 63) ≤ k ∧ k < 2 ^ 63 ∧ xs.length * k.toNat ≤ sizeLine then some (.lst (List.replicate k.toNat xs).flatten) else none
  | _, _ => none
abbrev rMul (K : Frag) : R2 := fun x y H Q => (rI CMulW (fun i j => .int (i * j)) x y H Q ∨ rI CMul (fun i j => .int (i * j)) x y H Q) ∨ (rRep x y H Q ∨ rRepT K x y H Q)
theorem o_mul {X : Cx} : OpR X (binaryOp .Mult) (rMul X.K) := (op_mulW.or op_mul).or (op_rep.or op_repT)
theorem Reps.rep {K : Frag} {F : Hp} {vs : List V} {ds : List D} (r : Reps K F vs ds) : ∀ n : Nat, Reps K F (List.replicate n vs).flatten (List.replicate n ds).flatten
  | 0 => .nil
  | n + 1 => by rw [List.replicate_succ, List.replicate_succ, List.flatten_cons, List.flatten_cons]; exact r.app (Reps.rep r n)
theorem d_mul {K : Frag} : OpD K (rMul K) dMul := fun {F H vx vy x y z} e rx ry h Q q => by
  cases rx <;> cases ry <;> (try (cases h; done)) <;> simp only [dMul] at h
  case int.int i j =>
    split at h
    · cases h; exact .inl (.inl ⟨i, j, rfl, rfl, by assumption, q _ F H (.refl e) (.int _)⟩)
    · split at h
      · cases h; exact .inl (.inr ⟨i, j, rfl, rfl, by assumption, q _ F H (.refl e) (.int _)⟩)
      · cases h
  case lst.int a vs ds h1 r1 k =>
    split at h
    · rename_i hc
      cases h
      have l1 := Rep.len r1
      exact .inr (.inl ⟨a, k, vs, rfl, rfl, e _ _ h1, hc.1, hc.2.1, by rw [l1]; exact hc.2.2, fun p hp => q _ _ _ (.new e hp) (.lst upd_same ((r1.rep _).mono (Ex.new (none_back e hp))))⟩)
    · cases h
abbrev CDivG (_ j : Int) : Prop := j ≠ 0 ∧ j.natAbs.log2 < 9000
theorem o_fdiv {X : Cx} : OpR X (binaryOp .FloorDiv) (rI CDivG fun i j => .int (i.fdiv j)) := opI fun i j _ _ _ _ _ hc q => PyProof.Rows.floordiv_int hc.1 q (.inl (PyProof.noPylong_of_log2 hc.2))
def dFdiv : D → D → Option D
  | .int i, .int j => if CDivG i j then some (.int (i.fdiv j)) else none
  | _, _ => none
theorem d_fdiv {K : Frag} : OpD K (rI CDivG fun i j => .int (i.fdiv j)) dFdiv := fun {F H vx vy x y z} e rx ry h Q q => by
  cases rx <;> cases ry <;> (try (cases h; done)) <;> simp only [dFdiv] at h
  split at h
  · cases h; exact ⟨_, _, rfl, rfl, by assumption, q _ F H (.refl e) (.int _)⟩
  · cases h
def dMod : D → D → Option D
  | .int i, .int j => if j ≠ 0 then some (.int (i.fmod j)) else none
  | _, _ => none
theorem d_mod {K : Frag} : OpD K (rI (fun _ j => j ≠ 0) fun i j => .int (i.fmod j)) dMod := fun {F H vx vy x y z} e rx ry h Q q => by
  cases rx <;> cases ry <;> (try (cases h; done)) <;> simp only [dMod] at h
  split at h
  · cases h; exact ⟨_, _, rfl, rfl, by assumption, q _ F H (.refl e) (.int _)⟩
  · cases h
instance (i j : Int) : Decidable (CPow i j) := inferInstanceAs (Decidable (_ ∧ _))
def dPow : D → D → Option D
  | .int i, .int j => if CPow i j then some (.int (i ^ j.toNat)) else none
  | _, _ => none
theorem d_pow {K : Frag} : OpD K (rI CPow fun i j => .int (i ^ j.toNat)) dPow := fun {F H vx vy x y z} e rx ry h Q q => by
  cases rx <;> cases ry <;> (try (cases h; done)) <;> simp only [dPow] at h
  split at h
  · cases h; exact ⟨_, _, rfl, rfl, by assumption, q _ F H (.refl e) (.int _)⟩
  · cases h
section
variable {X : Cx} {a b : Expr} {pos : Pos} {fa fb : Env → Rs D}
theorem jp_add (ha : JP X a fa) (hb : JP X b fb) : JP X (.BinOp a .Add b pos) (op2 dAdd fa fb) := jp_op o_add d_add ha hb
theorem jp_sub (ha : JP X a fa) (hb : JP X b fb) : JP X (.BinOp a .Sub b pos) (op2 dSub fa fb) := jp_op op_sub d_sub ha hb
theorem jp_mul (ha : JP X a fa) (hb : JP X b fb) : JP X (.BinOp a .Mult b pos) (op2 dMul fa fb) := jp_op o_mul d_mul ha hb
theorem jp_fdiv (ha : JP X a fa) (hb : JP X b fb) : JP X (.BinOp a .FloorDiv b pos) (op2 dFdiv fa fb) := jp_op o_fdiv d_fdiv ha hb
theorem jp_mod (ha : JP X a fa) (hb : JP X b fb) : JP X (.BinOp a .Mod b pos) (op2 dMod fa fb) := jp_op op_modN d_mod ha hb
theorem jp_pow (ha : JP X a fa) (hb : JP X b fb) : JP X (.BinOp a .Pow b pos) (op2 dPow fa fb) := jp_op op_pow d_pow ha hb
end
end PD
end
section
namespace PD
open PySem L2
/-! ### equality -/
mutual
def toPy : D → Option PyData
  | .non => some .none
  | .bl b => some (.bool b)
  | .int i => some (.int i)
  | .str x => some (.str x)
  | .tup xs => (toPys xs).map .tuple
  | .lst xs => (toPys xs).map .list
  | .scr xs => (toPys xs).map .list
  | .npt xs => (toPys xs).map .tuple
  | .dic _ => none
  | .obj _ _ => none
  | .ins _ _ => none
def toPys : List D → Option (List PyData)
  | [] => some []
  | x :: xs => (toPy x).bind fun p => (toPys xs).map fun ps => p :: ps
end
mutual
theorem dp_of {K : Frag} {F H : Hp} (e : Ex F H) : ∀ {w : V} {d : D} {p : PyData}, Rep K F w d → toPy d = some p → Dp K H w p
  | _, _, _, .non, h => by cases h; exact .non
  | _, _, _, .bl b, h => by cases h; exact .bl b
  | _, _, _, .int i, h => by cases h; exact .int i
  | _, _, _, .str x, h => by cases h; exact .str x
  | _, _, _, .tup (ds := ds) h1 r, h => by
    simp only [toPy, Option.map_eq_some_iff] at h
    obtain ⟨ps, h2, rfl⟩ := h
    exact .tup (ex_t e h1) (dps_of e r h2)
  | _, _, _, .npt (ds := ds) h1 r, h => by
    simp only [toPy, Option.map_eq_some_iff] at h
    obtain ⟨ps, h2, rfl⟩ := h
    exact .tup (ex_q e h1) (dps_of e r h2)
  | _, _, _, .lst (ds := ds) h1 r, h => by
    simp only [toPy, Option.map_eq_some_iff] at h
    obtain ⟨ps, h2, rfl⟩ := h
    exact .lst (SqL.of (e _ _ h1)) (dps_of e r h2)
  | _, _, _, .scr (ds := ds) h1 r, h => by
    simp only [toPy, Option.map_eq_some_iff] at h
    obtain ⟨ps, h2, rfl⟩ := h
    exact .lst (ex_l e h1) (dps_of e r h2)
  | _, _, _, .dic _ _, h => by simp [toPy] at h
  | _, _, _, .obj _ _ _, h => by simp [toPy] at h
  | _, _, _, .ins _ _, h => by simp [toPy] at h
theorem dps_of {K : Frag} {F H : Hp} (e : Ex F H) : ∀ {ws : List V} {ds : List D} {ps : List PyData}, Reps K F ws ds → toPys ds = some ps → DpAll K H ws ps
  | _, _, _, .nil, h => by cases h; exact .nil
  | _, _, _, .cons h1 r, h => by
    simp only [toPys, Option.bind_eq_some_iff, Option.map_eq_some_iff] at h
    obtain ⟨p, h2, ps, h3, rfl⟩ := h
    exact .cons (dp_of e h1 h2) (dps_of e r h3)
end
/-- == of data, where it is told -/
def eqD (x y : D) : Option Bool := (toPy x).bind fun p => (toPy y).bind fun q => if SeqAt.shaped p && SeqAt.shaped q then some (PyData.eqv p q) else none
theorem eqD_some {x y : D} {b : Bool} (h : eqD x y = some b) : ∃ p q, toPy x = some p ∧ toPy y = some q ∧ SeqAt.shaped p = true ∧ SeqAt.shaped q = true ∧ b = PyData.eqv p q := by
  simp only [eqD, Option.bind_eq_some_iff] at h
  obtain ⟨p, h1, q, h2, h3⟩ := h
  split at h3
  · rename_i hc
    rw [Bool.and_eq_true] at hc
    cases h3; exact ⟨p, q, h1, h2, hc.1, hc.2, rfl⟩
  · cases h3
def dEq (x y : D) : Option D := (eqD x y).map .bl
def dNe (x y : D) : Option D := (eqD x y).map fun b => .bl (!b)
theorem d_eq {K : Frag} : OpD K (rEqD K) dEq := fun {F H vx vy x y z} e rx ry h Q q => by
  simp only [dEq, Option.map_eq_some_iff] at h
  obtain ⟨b, h1, rfl⟩ := h
  obtain ⟨p, r, hp, hr, s1, s2, rfl⟩ := eqD_some h1
  exact ⟨p, r, dp_of e rx hp, dp_of e ry hr, s1, s2, q _ F H (.refl e) (.bl _)⟩
theorem d_ne {K : Frag} : OpD K (rNeD K) dNe := fun {F H vx vy x y z} e rx ry h Q q => by
  simp only [dNe, Option.map_eq_some_iff] at h
  obtain ⟨b, h1, rfl⟩ := h
  obtain ⟨p, r, hp, hr, s1, s2, rfl⟩ := eqD_some h1
  exact ⟨p, r, dp_of e rx hp, dp_of e ry hr, s1, s2, q _ F H (.refl e) (.bl _)⟩
theorem hu64 {k : Nat} {A : Around} (hr : Room k A) : A.units + 65 < cLine := by have := hr.un; omega
/-! ### order -/
def dCmp (fi : Int → Int → Bool) (fs : List Nat → List Nat → Bool) : D → D → Option D
  | .int i, .int j => some (.bl (fi i j))
  | .str i, .str j => some (.bl (fs i.cps.toList j.cps.toList))
  | _, _ => none
abbrev rCmp (fi : Int → Int → Bool) (fs : List Nat → List Nat → Bool) : R2 := fun x y H Q => rI0 (fun i j => .bl (fi i j)) x y H Q ∨ ∃ i j, x = .str i ∧ y = .str j ∧ Q (.bl (fs i.cps.toList j.cps.toList)) H
theorem d_cmp {K : Frag} {fi : Int → Int → Bool} {fs : List Nat → List Nat → Bool} : OpD K (rCmp fi fs) (dCmp fi fs) := fun {F H vx vy x y z} e rx ry h Q q => by
  cases rx <;> cases ry <;> (try (cases h; done)) <;> simp only [dCmp] at h
  · cases h; exact .inl ⟨_, _, rfl, rfl, q _ F H (.refl e) (.bl _)⟩
  · cases h; exact .inr ⟨_, _, rfl, rfl, q _ F H (.refl e) (.bl _)⟩
abbrev dLt := dCmp (fun i j => decide (i < j)) fun a b => decide (a < b)
abbrev dLe := dCmp (fun i j => decide (i ≤ j)) fun a b => !decide (b < a)
abbrev dGt := dCmp (fun i j => decide (j < i)) fun a b => decide (b < a)
abbrev dGe := dCmp (fun i j => decide (j ≤ i)) fun a b => !decide (a < b)
theorem o_lt {X : Cx} : OpR X (compareOp .Lt) (rCmp (fun i j => decide (i < j)) fun a b => decide (a < b)) := op_lt.or op_lt_str
theorem o_le {X : Cx} : OpR X (compareOp .LtE) (rCmp (fun i j => decide (i ≤ j)) fun a b => !decide (b < a)) := op_le.or op_le_str
theorem o_gt {X : Cx} : OpR X (compareOp .Gt) (rCmp (fun i j => decide (j < i)) fun a b => decide (b < a)) := op_gt.or op_gt_str
theorem o_ge {X : Cx} : OpR X (compareOp .GtE) (rCmp (fun i j => decide (j ≤ i)) fun a b => !decide (a < b)) := op_ge.or op_ge_str
/-! ### is None -/
def isNon : D → Bool
  | .non => true
  | _ => false
theorem isNon_of {K : Frag} {F : Hp} {w : V} {d : D} (r : Rep K F w d) : decide (w = .non) = isNon d := by cases r <;> rfl
section
variable {X : Cx} {a b : Expr} {pos p2 : Pos} {j : Nat} {fa fb : Env → Rs D} {k : Nat}
theorem jp_eq (hr : Room k X.A) (ha : JP X a fa) (hb : JP X b fb) : JP X (.Compare a [.Eq] [b] pos) (op2 dEq fa fb) := jp_cmp (op_eqD (by have := hu64 hr; omega)) d_eq ha hb
theorem jp_ne (hr : Room k X.A) (ha : JP X a fa) (hb : JP X b fb) : JP X (.Compare a [.NotEq] [b] pos) (op2 dNe fa fb) := jp_cmp (op_neD (by have := hu64 hr; omega)) d_ne ha hb
theorem jp_lt (ha : JP X a fa) (hb : JP X b fb) : JP X (.Compare a [.Lt] [b] pos) (op2 dLt fa fb) := jp_cmp o_lt d_cmp ha hb
theorem jp_le (ha : JP X a fa) (hb : JP X b fb) : JP X (.Compare a [.LtE] [b] pos) (op2 dLe fa fb) := jp_cmp o_le d_cmp ha hb
theorem jp_gt (ha : JP X a fa) (hb : JP X b fb) : JP X (.Compare a [.Gt] [b] pos) (op2 dGt fa fb) := jp_cmp o_gt d_cmp ha hb
theorem jp_ge (ha : JP X a fa) (hb : JP X b fb) : JP X (.Compare a [.GtE] [b] pos) (op2 dGe fa fb) := jp_cmp o_ge d_cmp ha hb
theorem jt_eq (hr : Room k X.A) (ha : JP X a fa) (hb : JP X b fb) : JT X (.Compare a [.Eq] [b] pos) (tb (op2 dEq fa fb)) := jt_cmp (op_eqD (by have := hu64 hr; omega)) d_eq ha hb
theorem jt_ne (hr : Room k X.A) (ha : JP X a fa) (hb : JP X b fb) : JT X (.Compare a [.NotEq] [b] pos) (tb (op2 dNe fa fb)) := jt_cmp (op_neD (by have := hu64 hr; omega)) d_ne ha hb
theorem jt_lt (ha : JP X a fa) (hb : JP X b fb) : JT X (.Compare a [.Lt] [b] pos) (tb (op2 dLt fa fb)) := jt_cmp o_lt d_cmp ha hb
theorem jt_le (ha : JP X a fa) (hb : JP X b fb) : JT X (.Compare a [.LtE] [b] pos) (tb (op2 dLe fa fb)) := jt_cmp o_le d_cmp ha hb
theorem jt_gt (ha : JP X a fa) (hb : JP X b fb) : JT X (.Compare a [.Gt] [b] pos) (tb (op2 dGt fa fb)) := jt_cmp o_gt d_cmp ha hb
theorem jt_ge (ha : JP X a fa) (hb : JP X b fb) : JT X (.Compare a [.GtE] [b] pos) (tb (op2 dGe fa fb)) := jt_cmp o_ge d_cmp ha hb
def vis (f : Env → Rs D) : Env → Rs D := fun δ => bind (f δ) fun x => ok (.bl (isNon x))
def vnis (f : Env → Rs D) : Env → Rs D := fun δ => bind (f δ) fun x => ok (.bl (!isNon x))
theorem jp_is (ha : JP X a fa) : JP X (.Compare a [.Is] [.Constant .none j p2] pos) (vis fa) := ⟨fun rp tk hg hP =>
  we_of (pe_cmp (pc_isN pe_we)) (jp_bind ha rp tk hg hP fun x vx F1 H1 h1 g1 rx r1 P1 => by rw [isNon_of rx]; exact P1.fin h1 _ F1 H1 (.refl r1.ex) (.bl _))⟩
theorem jp_nis (ha : JP X a fa) : JP X (.Compare a [.IsNot] [.Constant .none j p2] pos) (vnis fa) := ⟨fun rp tk hg hP =>
  we_of (pe_cmp (pc_notN pe_we)) (jp_bind ha rp tk hg hP fun x vx F1 H1 h1 g1 rx r1 P1 => by rw [isNon_of rx]; exact P1.fin h1 _ F1 H1 (.refl r1.ex) (.bl _))⟩
theorem jt_is (ha : JP X a fa) : JT X (.Compare a [.Is] [.Constant .none j p2] pos) (fun δ => bind (fa δ) fun x => ok (isNon x)) := ⟨fun rp tk hg hP =>
  wt_of (pt_cmp (pc_isN pe_we)) (jp_bind ha rp tk hg hP fun x vx F1 H1 h1 g1 rx r1 P1 => ⟨_, rfl, by rw [isNon_of rx]; exact P1.fin h1 _ F1 H1 (.refl r1.ex) rfl⟩)⟩
theorem jt_nis (ha : JP X a fa) : JT X (.Compare a [.IsNot] [.Constant .none j p2] pos) (fun δ => bind (fa δ) fun x => ok (!isNon x)) := ⟨fun rp tk hg hP =>
  wt_of (pt_cmp (pc_notN pe_we)) (jp_bind ha rp tk hg hP fun x vx F1 H1 h1 g1 rx r1 P1 => ⟨_, rfl, by rw [isNon_of rx]; exact P1.fin h1 _ F1 H1 (.refl r1.ex) rfl⟩)⟩
/-- -e -/
def dNeg : D → Option D
  | .int i => some (.int (-i))
  | _ => none
def vneg (f : Env → Rs D) : Env → Rs D := fun δ => bind (f δ) fun x => opt (dNeg x)
theorem jp_neg (ha : JP X a fa) : JP X (.UnaryOp .USub a pos) (vneg fa) := ⟨fun rp tk hg hP =>
  we_of (pe_un un_neg pe_we) (jp_bind ha rp tk hg hP fun x vx F1 H1 h1 g1 rx r1 P1 => by
    obtain ⟨z, hz, rfl⟩ := opt_some h1
    cases rx <;> (try (cases hz; done))
    cases hz; exact ⟨_, rfl, P1 _ F1 H1 (.refl r1.ex) (.int _)⟩)⟩
end
/-! ### subscripts -/
def dIx : D → D → Option D
  | .tup xs, .int i => atI xs i
  | .lst xs, .int i => atI xs i
  | .scr xs, .int i => atI xs i
  | .str x, .int i => if x.length ≤ sizeLine then (atI x.cps.toList i).map fun c => .str ⟨#[c]⟩ else none
  | .dic kvs, .int i => (kvs.find? fun kv => decide (kv.1 = .inl i)).map (·.2)
  | .dic kvs, .str i => (kvs.find? fun kv => decide (kv.1 = .inr i)).map (·.2)
  | _, _ => none
theorem Reps.atI {K : Frag} {F : Hp} {vs : List V} {ds : List D} {i : Int} {d : D} (r : Reps K F vs ds) (h : L2.atI ds i = some d) : ∃ v, L2.atI vs i = some v ∧ Rep K F v d := by
  unfold L2.atI at *
  rw [Rep.len r]
  cases e : ixN ds.length i with
  | none => rw [e] at h; cases h
  | some j => rw [e] at h; exact r.get h
def isDic : D → Bool
  | .dic _ => true
  | _ => false
def rIx (K : Frag) : R2 := fun x y H Q => rIxL K x y H Q ∨ rIxT K x y H Q ∨ rIxS x y H Q
theorem ix_any {X : Cx} : IxR X (rIx X.K) := fun value slice pins s σ H x y v u Q I rx ry h hs => by
  rcases h with h | h | h
  · exact ix_list value slice pins s σ H x y v u Q I rx ry h hs
  · exact ix_tup value slice pins s σ H x y v u Q I rx ry h hs
  · exact ix_str value slice pins s σ H x y v u Q I rx ry h hs
theorem d_ix {K : Frag} {F H : Hp} {vx vy : V} {x y z : D} (e : Ex F H) (rx : Rep K F vx x) (ry : Rep K F vy y) (h : dIx x y = some z) (nd : isDic x = false) (Q : VK) (q : ∀ v F' H', Grow F H F' H' → Rep K F' v z → Q v H') : rIx K vx vy H Q := by
  cases rx <;> cases ry <;> (try (cases h; done)) <;> (try (cases nd; done)) <;> simp only [dIx] at h
  case str.int x i =>
    split at h
    · rename_i hc
      simp only [Option.map_eq_some_iff] at h
      obtain ⟨c, hc', rfl⟩ := h
      exact .inr (.inr ⟨x, i, c, rfl, rfl, hc, hc', q _ F H (.refl e) (.str _)⟩)
    · cases h
  case tup.int a vs ds h1 r1 i =>
    obtain ⟨w, hw, rw'⟩ := r1.atI h
    exact .inr (.inl ⟨a, vs, i, w, rfl, rfl, ex_t e h1, hw, q _ F H (.refl e) rw'⟩)
  case lst.int a vs ds h1 r1 i =>
    obtain ⟨w, hw, rw'⟩ := r1.atI h
    exact .inl ⟨a, vs, i, w, rfl, rfl, SqL.of (e _ _ h1), hw, q _ F H (.refl e) rw'⟩
  case scr.int a vs ds h1 r1 i =>
    obtain ⟨w, hw, rw'⟩ := r1.atI h
    exact .inl ⟨a, vs, i, w, rfl, rfl, ex_l e h1, hw, q _ F H (.refl e) rw'⟩
theorem d_dget {K : Frag} {F H : Hp} {vx vy : V} {x y z : D} (e : Ex F H) (rx : Rep K F vx x) (ry : Rep K F vy y) (h : dIx x y = some z) (nd : isDic x = true) : ∃ a w, vx = .ref a ∧ DGet H a vy (some w) ∧ Rep K F w z := by
  cases rx <;> (try (cases nd; done))
  case dic a kvs kds h1 r1 =>
    cases ry <;> (try (cases h; done)) <;> simp only [dIx] at h
    case int i =>
      rcases r1.val (k := .inl i) with ⟨_, b⟩ | ⟨w, d, a1, b, c⟩
      · rw [b] at h; cases h
      · rw [b] at h; cases h; exact ⟨a, w, rfl, a1 ▸ DGet.k (k := .inl i) (e _ _ h1), c⟩
    case str i =>
      rcases r1.val (k := .inr i) with ⟨_, b⟩ | ⟨w, d, a1, b, c⟩
      · rw [b] at h; cases h
      · rw [b] at h; cases h; exact ⟨a, w, rfl, a1 ▸ DGet.k (k := .inr i) (e _ _ h1), c⟩
theorem jp_ix {X : Cx} {a b : Expr} {pos : Pos} {fa fb : Env → Rs D} {k : Nat} (hr : Room k X.A) (ha : JP X a fa) (hb : JP X b fb) (hs : PlainIx b := by exact fun _ _ => rfl) : JP X (.Subscript a b pos) (op2 dIx fa fb) := ⟨fun {σ F H δ W Q o} rp tk hg hP => by
  by_cases hd : ∃ x, fa δ = some (.ok x) ∧ isDic x = true
  · obtain ⟨x0, e0, hx0⟩ := hd
    refine we_of (pe_dget (hu_of hr) pe_we pe_we hs) (ha.run rp tk e0 fun vx F1 H1 g1 rx => ?_)
    unfold op2 at hg
    rw [e0] at hg
    exact jp_bind hb (rp.later g1) tk hg (hP.later g1) fun y vy F2 H2 h2 g2 ry r2 P2 => by
      obtain ⟨z, hz, rfl⟩ := opt_some h2
      obtain ⟨p, w, e1, hD, rw'⟩ := d_dget r2.ex (rx.mono g2.ff) ry hz hx0
      exact ⟨p, w, e1, hD, P2 w F2 H2 (.refl r2.ex) rw'⟩
  · refine we_of (pe_ix ix_any pe_we pe_we hs) ?_
    unfold op2 at hg
    cases e0 : fa δ with
    | none => rw [e0] at hg; cases hg
    | some y0 => cases y0 with
      | error x => rw [e0] at hg; cases hg; exact ha.run rp tk e0 hP
      | ok x =>
        rw [e0] at hg
        exact ha.run rp tk e0 fun vx F1 H1 g1 rx => jp_bind hb (rp.later g1) tk hg (hP.later g1) fun y vy F2 H2 h2 g2 ry r2 P2 => by
          obtain ⟨z, hz, rfl⟩ := opt_some h2
          cases hx : isDic x with
          | false => exact d_ix r2.ex (rx.mono g2.ff) ry hz hx _ P2
          | true => exact absurd ⟨x, e0, hx⟩ hd⟩
end PD
end
section
namespace PD
open PySem L2
/-! ### in -/
section
variable {X : Cx}
def rInT (K : Frag) (neg : Bool) : R2 := fun x y H Q => ∃ d ds, Dp K H x d ∧ Dp K H y (.tuple ds) ∧ SeqAt.shaped d = true ∧ SeqAt.shaped (.tuple ds) = true ∧ Q (.bl (if neg then !(ds.any fun z => PyData.eqv z d) else ds.any fun z => PyData.eqv z d)) H
theorem op_inT (hu : X.A.units + 65 < cLine) : OpR X (compareOp .In) (rInT X.K false) := by
  intro pins s σ H x y v u Q I rx ry h
  obtain ⟨d, ds, hd, he, sd, se, q⟩ := h
  obtain ⟨as, r1⟩ := Dp.reads I d x v hd rx
  obtain ⟨bs, r2⟩ := Dp.reads I (.tuple ds) y u he ry
  exact SeqAt.in_tuple_reads r2 r1 (SeqAt.canLay_of_shaped se) (SeqAt.canLay_of_shaped sd) (PyProof.Rows.room_in_shaped sd hu) ⟨.bl _, H, I, rfl, q⟩
theorem op_notInT (hu : X.A.units + 65 < cLine) : OpR X (compareOp .NotIn) (rInT X.K true) := by
  intro pins s σ H x y v u Q I rx ry h
  obtain ⟨d, ds, hd, he, sd, se, q⟩ := h
  obtain ⟨as, r1⟩ := Dp.reads I d x v hd rx
  obtain ⟨bs, r2⟩ := Dp.reads I (.tuple ds) y u he ry
  exact SeqAt.notIn_tuple_reads r2 r1 (SeqAt.canLay_of_shaped se) (SeqAt.canLay_of_shaped sd) (PyProof.Rows.room_in_shaped sd hu) ⟨.bl _, H, I, rfl, q⟩
end
def keyOf : D → Option Key
  | .int i => some (.inl i)
  | .str x => some (.inr x)
  | _ => none
theorem keyOf_rep {K : Frag} {F : Hp} {w : V} {d : D} {k : Key} (r : Rep K F w d) (h : keyOf d = some k) : w = kV k := by
  cases r <;> (try (cases h; done)) <;> cases h <;> rfl
/-- x in y -/
def inD : D → D → Option Bool
  | x, .tup ys => (toPy x).bind fun p => (toPys ys).bind fun qs => if SeqAt.shaped p && SeqAt.shaped (.tuple qs) then some (qs.any fun z => PyData.eqv z p) else none
  | x, .lst ys => (toPy x).bind fun p => (toPys ys).bind fun qs => if SeqAt.shaped p && SeqAt.shaped (.list qs) then some (qs.any fun z => PyData.eqv z p) else none
  | x, .dic kvs => (keyOf x).map fun k => ((kvs.find? fun kv => decide (kv.1 = k)).map (·.2)).isSome
  | .str x, .str z => if x.cps.size = 1 then some (decide (x.cps.getD 0 0 ∈ z.cps.toList)) else none
  | _, _ => none
def dIn (x y : D) : Option D := (inD x y).map .bl
def dNotIn (x y : D) : Option D := (inD x y).map fun b => .bl (!b)
def rIn1 (K : Frag) : R2 := fun x y H Q => (rInT K false x y H Q ∨ rInD K x y H Q) ∨ ∃ (c : Nat) (z : Str), x = .str ⟨#[c]⟩ ∧ y = .str z ∧ Q (.bl (decide (c ∈ z.cps.toList))) H
def rIn2 (K : Frag) : R2 := fun x y H Q => (rInT K true x y H Q ∨ rNotInD K x y H Q) ∨ ∃ (c : Nat) (z : Str), x = .str ⟨#[c]⟩ ∧ y = .str z ∧ Q (.bl (!decide (c ∈ z.cps.toList))) H
theorem one_sign {x : Str} (h : x.cps.size = 1) : x = ⟨#[x.cps.getD 0 0]⟩ := by
  obtain ⟨⟨l⟩⟩ := x
  cases l with
  | nil => cases h
  | cons a r => cases r with
    | nil => rfl
    | cons b r => simp at h
theorem d_in {K : Frag} {F H : Hp} {vx vy : V} {x y : D} {b : Bool} (e : Ex F H) (rx : Rep K F vx x) (ry : Rep K F vy y) (h : inD x y = some b) (nd : isDic y = false) : (∀ Q : VK, Q (.bl b) H → rIn1 K vx vy H Q) ∧ (∀ Q : VK, Q (.bl (!b)) H → rIn2 K vx vy H Q) := by
  cases ry with
  | tup h1 r1 =>
    simp only [inD, Option.bind_eq_some_iff] at h
    obtain ⟨p, hp, qs, hq, h3⟩ := h
    split at h3
    · rename_i hc
      rw [Bool.and_eq_true] at hc
      cases h3
      have dx := dp_of e rx hp
      have dy : Dp K H _ (.tuple qs) := .tup (ex_t e h1) (dps_of e r1 hq)
      exact ⟨fun Q q => .inl (.inl ⟨p, qs, dx, dy, hc.1, hc.2, q⟩), fun Q q => .inl (.inl ⟨p, qs, dx, dy, hc.1, hc.2, q⟩)⟩
    · cases h3
  | lst h1 r1 =>
    simp only [inD, Option.bind_eq_some_iff] at h
    obtain ⟨p, hp, qs, hq, h3⟩ := h
    split at h3
    · rename_i hc
      rw [Bool.and_eq_true] at hc
      cases h3
      have dx := dp_of e rx hp
      have dy : Dp K H _ (.list qs) := .lst (SqL.of (e _ _ h1)) (dps_of e r1 hq)
      exact ⟨fun Q q => .inl (.inr ⟨p, qs, dx, dy, hc.1, hc.2, q⟩), fun Q q => .inl (.inr ⟨p, qs, dx, dy, hc.1, hc.2, q⟩)⟩
    · cases h3
  | dic h1 r1 => cases nd
  | str z =>
    cases rx with
    | str x =>
      simp only [inD] at h
      split at h
      · rename_i hc
        cases h
        exact ⟨fun Q q => .inr ⟨_, z, congrArg V.str (one_sign hc), rfl, q⟩, fun Q q => .inr ⟨_, z, congrArg V.str (one_sign hc), rfl, q⟩⟩
      · cases h
    | _ => simp [inD] at h
  | _ => cases rx <;> simp [inD] at h
section
variable {X : Cx} {a b : Expr} {pos : Pos} {fa fb : Env → Rs D} {k : Nat}
theorem o_in (hr : Room k X.A) : OpR X (compareOp .In) (rIn1 X.K) := ((op_inT (hu64 hr)).or (op_inD (hu64 hr))).or op_in_sign
theorem o_nin (hr : Room k X.A) : OpR X (compareOp .NotIn) (rIn2 X.K) := ((op_notInT (hu64 hr)).or (op_notInD (hu64 hr))).or op_notIn_sign
/-- a, b evaluated: by what b is -/
theorem in_cases {g : D → D → Option D} {σ : L2.St} {F H : Hp} {δ : Env} {W : WX} {Q1 : V → V → Hp → Prop} {Q : VK} {o : Except XD D} (ha : JP X a fa) (hb : JP X b fb) (rp : RP X.K F σ H δ) (tk : Takes X W) (hg : op2 g fa fb δ = some o) (hP : Post (Rep X.K) X.K F H σ W o Q)
    (fin : ∀ x y vx vy z F2 H2, fa δ = some (.ok x) → fb δ = some (.ok y) → g x y = some z → Rep X.K F2 vx x → Rep X.K F2 vy y → Ex F2 H2 → (∀ v F' H', Grow F2 H2 F' H' → Rep X.K F' v z → Q v H') → Q1 vx vy H2) :
    WE X a σ H fun x H1 => WE X b σ H1 fun y H2 => Q1 x y H2 := by
  unfold op2 at hg
  cases e0 : fa δ with
  | none => rw [e0] at hg; cases hg
  | some y0 => cases y0 with
    | error x => rw [e0] at hg; cases hg; exact ha.run rp tk e0 hP
    | ok x =>
      rw [e0] at hg
      refine ha.run rp tk e0 fun vx F1 H1 g1 rx => ?_
      cases e1 : fb δ with
      | none => simp only [bind] at hg; rw [e1] at hg; cases hg
      | some y1 => cases y1 with
        | error z => simp only [bind] at hg; rw [e1] at hg; cases hg; exact hb.run (rp.later g1) tk e1 (hP.later g1)
        | ok y =>
          simp only [bind] at hg
          rw [e1] at hg
          obtain ⟨z, hz, rfl⟩ := opt_some hg
          exact hb.run (rp.later g1) tk e1 fun vy F2 H2 g2 ry => fin x y vx vy z F2 H2 e0 e1 hz (rx.mono g2.ff) ry g2.fh fun v F' H' g3 rv => hP v F' H' ((g1.trans g2).trans g3) rv
theorem inD_dic {K : Frag} {F H : Hp} {vx vy : V} {x y : D} {b : Bool} (e : Ex F H) (rx : Rep K F vx x) (ry : Rep K F vy y) (h : inD x y = some b) (nd : isDic y = true) : ∃ a o, vy = .ref a ∧ DGet H a vx o ∧ b = o.isSome := by
  cases ry <;> (try (cases nd; done))
  case dic a kvs kds h1 r1 =>
    simp only [inD, Option.map_eq_some_iff] at h
    obtain ⟨k, hk, rfl⟩ := h
    cases keyOf_rep rx hk
    refine ⟨a, _, rfl, DGet.k (e _ _ h1), ?_⟩
    rcases r1.val (k := k) with ⟨a1, b1⟩ | ⟨w, d, a1, b1, c1⟩
    · rw [a1, b1]; rfl
    · rw [a1, b1]; rfl
def WC (X : Cx) (op : CmpOp) (a b : Expr) (σ : L2.St) (H : Hp) (Q : VK) : Prop := ∀ pins s, Inv X pins σ H s →
  wpAny (model X.prog X.w) X.A (eval a X.env) (fun v s₁ => wpAny (model X.prog X.w) X.A (eval b X.env) (fun u s₂ => wpAny (model X.prog X.w) X.A (compareOp op v u) (EP X pins σ Q) X.xe s₂) X.xe s₁) X.xe s
theorem pc_wc {op : CmpOp} : PC X op a b (WC X op a b) := ⟨fun pins s _ _ _ I h => h pins s I⟩
theorem wc_of {op : CmpOp} {t : TE} {σ : L2.St} {H : Hp} {Q : VK} (h : PC X op a b t) (q : t σ H Q) : WC X op a b σ H Q := fun pins s I => h.run pins s σ H Q I q
theorem pc_op {op : CmpOp} {r : R2} {ta tb : TE} (ho : OpR X (compareOp op) r) (ha : PE X a ta) (hb : PE X b tb) : PC X op a b (tOp r ta tb) := ⟨fun pins s σ H Q I h => binT ha hb I h fun v u s2 x y H2 I2 rx ry q => ho pins s2 σ H2 x y v u Q I2 rx ry q⟩
abbrev JC (X : Cx) (op : CmpOp) (a b : Expr) (g : Env → Rs D) : Prop := J X (WC X op a b) (Rep X.K) g
theorem jp_c {op : CmpOp} {g : Env → Rs D} (h : JC X op a b g) (hm : behindInMarks op b = false := by first | exact nomark _ | with_unfolding_all rfl) : JP X (.Compare a [op] [b] pos) g := ⟨fun rp tk hg hP => we_of (pe_cmp pc_wc hm) (h.run rp tk hg hP)⟩
theorem jt_c {op : CmpOp} {g : Env → Rs D} (h : JC X op a b g) (hm : behindInMarks op b = false := by first | exact nomark _ | with_unfolding_all rfl) : JT X (.Compare a [op] [b] pos) (tb g) := ⟨fun {σ F H δ W Q o} rp tk hg hP => wt_of (pt_cmp pc_wc hm) (j_bind (w := WC X op a b) h rp tk hg hP fun x vx F1 H1 h1 g1 rx r1 P1 => by
    obtain ⟨q, hq, rfl⟩ := opt_some h1
    cases asB_some hq
    cases rx
    exact ⟨q, rfl, P1 q F1 H1 (.refl r1.ex) rfl⟩)⟩
theorem jc_in (hr : Room k X.A) (ha : JP X a fa) (hb : JP X b fb) : JC X .In a b (op2 dIn fa fb) := ⟨fun {σ F H δ W Q o} rp tk hg hP => by
  by_cases hd : ∃ y, fb δ = some (.ok y) ∧ isDic y = true
  · obtain ⟨y0, e0, h0⟩ := hd
    refine wc_of (pc_din (hu_of hr) pe_we pe_we) (in_cases ha hb rp tk hg hP fun x y vx vy z F2 H2 ex ey hz rx ry e q => ?_)
    rw [e0] at ey; cases ey
    simp only [dIn, Option.map_eq_some_iff] at hz
    obtain ⟨b1, hz, rfl⟩ := hz
    obtain ⟨p, o1, e1, hD, rfl⟩ := inD_dic e rx ry hz h0
    exact ⟨p, o1, e1, hD, q _ F2 H2 (.refl e) (.bl _)⟩
  · refine wc_of (pc_op (o_in hr) pe_we pe_we) (in_cases ha hb rp tk hg hP fun x y vx vy z F2 H2 ex ey hz rx ry e q => ?_)
    simp only [dIn, Option.map_eq_some_iff] at hz
    obtain ⟨b1, hz, rfl⟩ := hz
    cases hx : isDic y with
    | true => exact absurd ⟨y, ey, hx⟩ hd
    | false => exact (d_in e rx ry hz hx).1 _ (q _ F2 H2 (.refl e) (.bl _))⟩
theorem jc_nin (hr : Room k X.A) (ha : JP X a fa) (hb : JP X b fb) : JC X .NotIn a b (op2 dNotIn fa fb) := ⟨fun {σ F H δ W Q o} rp tk hg hP => by
  by_cases hd : ∃ y, fb δ = some (.ok y) ∧ isDic y = true
  · obtain ⟨y0, e0, h0⟩ := hd
    refine wc_of (pc_dnotin (hu_of hr) pe_we pe_we) (in_cases ha hb rp tk hg hP fun x y vx vy z F2 H2 ex ey hz rx ry e q => ?_)
    rw [e0] at ey; cases ey
    simp only [dNotIn, Option.map_eq_some_iff] at hz
    obtain ⟨b1, hz, rfl⟩ := hz
    obtain ⟨p, o1, e1, hD, rfl⟩ := inD_dic e rx ry hz h0
    exact ⟨p, o1, e1, hD, q _ F2 H2 (.refl e) (.bl _)⟩
  · refine wc_of (pc_op (o_nin hr) pe_we pe_we) (in_cases ha hb rp tk hg hP fun x y vx vy z F2 H2 ex ey hz rx ry e q => ?_)
    simp only [dNotIn, Option.map_eq_some_iff] at hz
    obtain ⟨b1, hz, rfl⟩ := hz
    cases hx : isDic y with
    | true => exact absurd ⟨y, ey, hx⟩ hd
    | false => exact (d_in e rx ry hz hx).2 _ (q _ F2 H2 (.refl e) (.bl _))⟩
/-- a test by a value that is a bool -/
theorem jt_b {e : Expr} {g : Env → Rs D} (h : JP X e g) (he : ∀ whole, isTrue e X.env whole = (do let v ← whole; standAt e.pos; holding [v] (truthy v)) := by intro _; rfl) : JT X e (tb g) := ⟨fun rp tk hg hP =>
  wt_of (pt_val pe_we he) (jp_bind h rp tk hg hP fun x vx F1 H1 h1 g1 rx r1 P1 => by
    obtain ⟨q, hq, rfl⟩ := opt_some h1
    cases asB_some hq
    cases rx
    exact ⟨q, rfl, P1 q F1 H1 (.refl r1.ex) rfl⟩)⟩
end
end PD
end
section
namespace PD
open PySem L2
/-! ### isinstance -/
inductive Ty where
  | int | bool | str | list | tuple | dict
def Ty.nm : Ty → String
  | .int => "int" | .bool => "bool" | .str => "str" | .list => "list" | .tuple => "tuple" | .dict => "dict"
def tyName : D → Option String
  | .non => some "NoneType"
  | .bl _ => some "bool"
  | .int _ => some "int"
  | .str _ => some "str"
  | .tup _ => some "tuple"
  | .lst _ => some "list"
  | .scr _ => some "list"
  | .dic _ => some "dict"
  | _ => none
def isA : Ty → D → Option Bool
  | .int, .int _ => some true
  | .int, .bl _ => some true
  | .bool, .bl _ => some true
  | .str, .str _ => some true
  | .list, .lst _ => some true
  | .list, .scr _ => some true
  | .tuple, .tup _ => some true
  | .dict, .dic _ => some true
  | _, .obj _ _ => none
  | _, .ins _ _ => none
  | _, .npt _ => none
  | _, _ => some false
theorem isA_kit {K : Frag} {t : Ty} {d : D} {b : Bool} (h : isA t d = some b) : ∃ n, tyName d = some n ∧ PySem.W.kitOne K (.type n) (.type t.nm) = some b := by
  cases t <;> cases d <;> (try (cases h; done)) <;> cases h <;> exact ⟨_, rfl, kit_ty (by decide +kernel)⟩
theorem tyX_of {K : Frag} {F H : Hp} {w : V} {d : D} {n : String} (e : Ex F H) (r : Rep K F w d) (h : tyName d = some n) : TyX K H w (.type n) := by
  cases r with
  | non => cases h; exact .base .non
  | bl b => cases h; exact .base (.bl b)
  | int i => cases h; exact .base (.int i)
  | str x => cases h; exact .base (.str x)
  | tup h1 r1 =>
    cases h
    rcases ex_t e h1 with h1 | ⟨o, its, m, h2, h3, h4⟩
    · rcases h1 with h1 | ⟨o, h1⟩
      · exact .base (.tup h1)
      · exact .fTuple h1
    · exact .kTuple h2 h3
  | lst h1 r1 => cases h; exact .base (.lst (e _ _ h1))
  | scr h1 r1 =>
    cases h
    rcases ex_l e h1 with h1 | ⟨o, its, m, h2, h3, h4⟩
    · rcases h1 with h1 | ⟨o, h1⟩
      · exact .base (.lst h1)
      · exact .base (.frz h1)
    · exact .kList h2 h3
  | dic h1 r1 => cases h; exact .base (.dK (e _ _ h1))
  | npt h1 r1 => cases h
  | obj h1 hx r1 => cases h
  | ins h1 r1 => cases h
section
variable {X : Cx} {a : Expr} {p p1 p2 p3 pos pt : Pos} {fa : Env → Rs D}
def visi (t : Ty) (f : Env → Rs D) : Env → Rs D := fun δ => bind (f δ) fun x => opt ((isA t x).map .bl)
theorem jp_isi (t : Ty) {x : Str} (hi : X.mg "isinstance" = none) (hx : X.mg x = none) (hv : bootBuiltins x = some (.type t.nm)) (ha : JP X a fa) (hg : Gl X "isinstance" := by rfl) (hgx : Gl X x := by rfl) (hn : x ≠ "__name__" := by decide) (hdb : (x == ("__debug__" : Str)) = false := by decide)
    (hs1 : starEach [a, .Name x p1] X.env = (false, eval a X.env) :: starEach [.Name x p1] X.env := by rfl) (hs2 : starEach [.Name x p1] X.env = (false, eval (.Name x p1) X.env) :: starEach [] X.env := by rfl) (hpl : (backTo pos (starEach [.Name x p1] X.env)).any (·.1) = false := by rfl) :
    JP X (.Call (.Name "isinstance" p) [a, .Name x p1] [] pos) (visi t fa) := ⟨fun rp tk hg' hP =>
  we_of (pe_callB call_isi hg hi PyProof.Rows.boot_isinstance (pa_cons pe_we (pa_cons (pe_bltn (v := .ty t.nm) hgx hx hv rfl hn hdb) pa_nil hs2) hs1) (he := hs1) (hpl := hpl)) (jp_bind ha rp tk hg' hP fun x vx F1 H1 h1 g1 rx r1 P1 => by
    obtain ⟨z, hz, rfl⟩ := opt_some h1
    simp only [Option.map_eq_some_iff] at hz
    obtain ⟨b, hb, rfl⟩ := hz
    obtain ⟨n, hn, hk⟩ := isA_kit (K := X.K) hb
    exact ⟨_, _, _, _, b, rfl, .ty _, tyX_of r1.ex rx hn, hk, P1 _ F1 H1 (.refl r1.ex) (.bl _)⟩)⟩
def isA2 (t u : Ty) (d : D) : Option Bool := (isA t d).bind fun b => if b = true then some true else isA u d
theorem isA2_kit {K : Frag} {t u : Ty} {d : D} {b : Bool} (h : isA2 t u d = some b) : ∃ n, tyName d = some n ∧ PySem.W.kitAny K (.type n) [.type t.nm, .type u.nm] = some b := by
  simp only [isA2, Option.bind_eq_some_iff] at h
  obtain ⟨b1, h1, h2⟩ := h
  obtain ⟨n, hn, hk⟩ := isA_kit (K := K) h1
  refine ⟨n, hn, kitAny_cons hk (fun e => ?_) (fun e => ?_)⟩
  · subst e
    rw [if_neg Bool.false_ne_true] at h2
    obtain ⟨n', hn', hk'⟩ := isA_kit (K := K) h2
    rw [hn] at hn'; cases hn'
    exact kitAny_cons hk' (fun e => by subst e; exact kitAny_nil) (fun e => e)
  · subst e
    rw [if_pos rfl] at h2; cases h2; rfl
def visi2 (t u : Ty) (f : Env → Rs D) : Env → Rs D := fun δ => bind (f δ) fun x => opt ((isA2 t u x).map .bl)
theorem jp_isi2 (t u : Ty) {x y : Str} {k : Nat} (hi : X.mg "isinstance" = none) (hx : X.mg x = none) (hv : bootBuiltins x = some (.type t.nm)) (hy : X.mg y = none) (hw : bootBuiltins y = some (.type u.nm)) (ha : JP X a fa) (hg : Gl X "isinstance" := by rfl) (hgx : Gl X x := by rfl) (hgy : Gl X y := by rfl)
    (hn : x ≠ "__name__" := by decide) (hdb : (x == ("__debug__" : Str)) = false := by decide) (hn' : y ≠ "__name__" := by decide) (hdb' : (y == ("__debug__" : Str)) = false := by decide)
    (hs1 : starEach [a, .Tuple [.Name x p1, .Name y p2] k pt] X.env = (false, eval a X.env) :: starEach [.Tuple [.Name x p1, .Name y p2] k pt] X.env := by rfl) (hs2 : starEach [.Tuple [.Name x p1, .Name y p2] k pt] X.env = (false, eval (.Tuple [.Name x p1, .Name y p2] k pt) X.env) :: starEach [] X.env := by rfl)
    (hs3 : starEach [.Name x p1, .Name y p2] X.env = (false, eval (.Name x p1) X.env) :: starEach [.Name y p2] X.env := by rfl) (hs4 : starEach [.Name y p2] X.env = (false, eval (.Name y p2) X.env) :: starEach [] X.env := by rfl)
    (hpl : (backTo pos (starEach [.Tuple [.Name x p1, .Name y p2] k pt] X.env)).any (·.1) = false := by rfl) :
    JP X (.Call (.Name "isinstance" p) [a, .Tuple [.Name x p1, .Name y p2] k pt] [] pos) (visi2 t u fa) := ⟨fun rp tk hg' hP =>
  we_of (pe_callB call_isiT hg hi PyProof.Rows.boot_isinstance (pa_cons pe_we (pa_cons (pe_tup (pa_cons (pe_bltn (v := .ty t.nm) hgx hx hv rfl hn hdb) (pa_cons (pe_bltn (v := .ty u.nm) hgy hy hw rfl hn' hdb') pa_nil hs4) hs3)) pa_nil hs2) hs1) (he := hs1) (hpl := hpl)) (jp_bind ha rp tk hg' hP fun x vx F1 H1 h1 g1 rx r1 P1 => by
    obtain ⟨z, hz, rfl⟩ := opt_some h1
    simp only [Option.map_eq_some_iff] at hz
    obtain ⟨b, hb, rfl⟩ := hz
    obtain ⟨n, hn, hk⟩ := isA2_kit (K := X.K) hb
    have g2 : ∀ q, H1 q = none → Grow F1 H1 F1 (upd H1 q (.tup [.ty t.nm, .ty u.nm])) := fun q hq => ⟨Ex.refl _, r1.ex.trans (Ex.new hq), Ex.new hq, fun a h => .inl h⟩
    exact ⟨by show 2 ≤ sizeLine; decide, fun q hq => ⟨_, q, [.ty t.nm, .ty u.nm], _, [.type t.nm, .type u.nm], b, rfl, upd_same, .cons (.ty _) (.cons (.ty _) .nil), tyX_of (g2 q hq).fh rx hn, hk, P1 _ F1 _ (g2 q hq) (.bl _)⟩⟩)⟩
end
/-! ### built-ins -/
def one (g : D → Option D) : List D → Option D
  | [x] => g x
  | _ => none
def two (g : D → D → Option D) : List D → Option D
  | [x, y] => g x y
  | _ => none
theorem one_some {g : D → Option D} {xs : List D} {z : D} (h : one g xs = some z) : ∃ x, xs = [x] ∧ g x = some z := by
  unfold one at h; split at h
  · exact ⟨_, rfl, h⟩
  · cases h
theorem two_some {g : D → D → Option D} {xs : List D} {z : D} (h : two g xs = some z) : ∃ x y, xs = [x, y] ∧ g x y = some z := by
  unfold two at h; split at h
  · exact ⟨_, _, rfl, h⟩
  · cases h
theorem reps1 {K : Frag} {F : Hp} {vs : List V} {x : D} (r : Reps K F vs [x]) : ∃ w, vs = [w] ∧ Rep K F w x := by
  cases r with | cons h r => cases r; exact ⟨_, rfl, h⟩
theorem reps2 {K : Frag} {F : Hp} {vs : List V} {x y : D} (r : Reps K F vs [x, y]) : ∃ w u, vs = [w, u] ∧ Rep K F w x ∧ Rep K F u y := by
  cases r with | cons h r => cases r with | cons h2 r => cases r; exact ⟨_, _, rfl, h, h2⟩
def dLen : D → Option D
  | .str x => if x.length ≤ sizeLine then some (.int x.length) else none
  | .tup xs => some (.int xs.length)
  | .lst xs => some (.int xs.length)
  | .scr xs => some (.int xs.length)
  | .dic xs => some (.int xs.length)
  | _ => none
abbrev rLen0 (K : Frag) : List V → Hp → VK → Prop := fun xs H Q => (∃ x n, xs = [x] ∧ LenV K x H n ∧ Q (.int n) H) ∨ ∃ a kvs, xs = [V.ref a] ∧ H a = some (.dK kvs) ∧ Q (.int kvs.length) H
theorem b_len {X : Cx} : CallR X (.builtin "len") (rLen0 X.K) := call_len.or call_lenD
theorem d_len {K : Frag} : CallD K (rLen0 K) (one dLen) := fun {F H vs xs z} e r h Q q => by
  obtain ⟨x, e0, h0⟩ := one_some h; subst e0; clear h; have h := h0; clear h0
  obtain ⟨w, rfl, rr⟩ := reps1 r
  cases rr with
  | str x =>
    simp only [dLen] at h
    split at h
    · cases h; exact .inl ⟨_, _, rfl, ⟨by assumption, rfl⟩, q _ F H (.refl e) (.int _)⟩
    · cases h
  | tup h1 r1 => cases h; exact .inl ⟨_, _, rfl, .inr ⟨_, ex_t e h1, rfl⟩, by rw [Rep.len r1]; exact q _ F H (.refl e) (.int _)⟩
  | lst h1 r1 => cases h; exact .inl ⟨_, _, rfl, .inl ⟨_, SqL.of (e _ _ h1), rfl⟩, by rw [Rep.len r1]; exact q _ F H (.refl e) (.int _)⟩
  | scr h1 r1 => cases h; exact .inl ⟨_, _, rfl, .inl ⟨_, ex_l e h1, rfl⟩, by rw [Rep.len r1]; exact q _ F H (.refl e) (.int _)⟩
  | dic h1 r1 => cases h; exact .inr ⟨_, _, rfl, e _ _ h1, by rw [RepK.len r1]; exact q _ F H (.refl e) (.int _)⟩
  | _ => cases h
def dAbs : D → Option D
  | .int i => some (.int (if i < 0 then -i else i))
  | _ => none
theorem d_abs {K : Frag} : CallD K (fun xs H Q => ∃ i, xs = [.int i] ∧ Q (.int (if i < 0 then -i else i)) H) (one dAbs) := fun {F H vs xs z} e r h Q q => by
  obtain ⟨x, e0, h0⟩ := one_some h; subst e0; clear h; have h := h0; clear h0
  obtain ⟨w, rfl, rr⟩ := reps1 r
  cases rr <;> (try (cases h; done))
  cases h; exact ⟨_, rfl, q _ F H (.refl e) (.int _)⟩
def dInt : D → Option D
  | .int i => some (.int i)
  | .bl k => some (.int (if k then 1 else 0))
  | .str a => if a.length ≤ 640 then (PySem.intText? a).map .int else none
  | _ => none
abbrev rInt0 : List V → Hp → VK → Prop := fun xs H Q => ((∃ i, xs = [.int i] ∧ Q (.int i) H) ∨ ∃ k, xs = [.bl k] ∧ Q (.int (if k then 1 else 0)) H) ∨ ∃ a n, xs = [.str a] ∧ PySem.intText? a = some n ∧ a.length ≤ 640 ∧ Q (.int n) H
theorem b_int {X : Cx} : CallR X (.type "int") rInt0 := call_int1.or call_int_str
theorem d_int {K : Frag} : CallD K rInt0 (one dInt) := fun {F H vs xs z} e r h Q q => by
  obtain ⟨x, e0, h0⟩ := one_some h; subst e0; clear h; have h := h0; clear h0
  obtain ⟨w, rfl, rr⟩ := reps1 r
  cases rr with
  | int i => cases h; exact .inl (.inl ⟨_, rfl, q _ F H (.refl e) (.int _)⟩)
  | bl b => cases h; exact .inl (.inr ⟨_, rfl, q _ F H (.refl e) (.int _)⟩)
  | str x =>
    simp only [dInt] at h
    split at h
    · simp only [Option.map_eq_some_iff] at h
      obtain ⟨n, hn, rfl⟩ := h
      exact .inr ⟨_, n, rfl, hn, by assumption, q _ F H (.refl e) (.int _)⟩
    · cases h
  | _ => cases h
def dMax2 : D → D → Option D
  | .int i, .int j => some (.int (if j > i then j else i))
  | _, _ => none
theorem d_max2 {K : Frag} : CallD K (fun xs H Q => ∃ i j, xs = [.int i, .int j] ∧ Q (.int (if j > i then j else i)) H) (two dMax2) := fun {F H vs xs z} e r h Q q => by
  obtain ⟨x, y, e0, h0⟩ := two_some h; subst e0; clear h; have h := h0; clear h0
  obtain ⟨w, u, rfl, rr, r2⟩ := reps2 r
  cases rr <;> (try (cases h; done)) <;> cases r2 <;> (try (cases h; done))
  cases h; exact ⟨_, _, rfl, q _ F H (.refl e) (.int _)⟩
def dMin2 : D → D → Option D
  | .int i, .int j => some (.int (if j < i then j else i))
  | _, _ => none
theorem d_min2 {K : Frag} : CallD K (fun xs H Q => ∃ i j, xs = [.int i, .int j] ∧ Q (.int (if j < i then j else i)) H) (two dMin2) := fun {F H vs xs z} e r h Q q => by
  obtain ⟨x, y, e0, h0⟩ := two_some h; subst e0; clear h; have h := h0; clear h0
  obtain ⟨w, u, rfl, rr, r2⟩ := reps2 r
  cases rr <;> (try (cases h; done)) <;> cases r2 <;> (try (cases h; done))
  cases h; exact ⟨_, _, rfl, q _ F H (.refl e) (.int _)⟩
def kD : Key → D
  | .inl i => .int i
  | .inr x => .str x
theorem kV_rep {K : Frag} {F : Hp} (k : Key) : Rep K F (kV k) (kD k) := by cases k; exact .int _; exact .str _
theorem RepK.keys {K : Frag} {F : Hp} : ∀ {vs : List (Key × V)} {ds : List (Key × D)}, RepK K F vs ds → Reps K F (vs.map fun kv => kV kv.1) (ds.map fun kv => kD kv.1)
  | _, _, .nil => .nil
  | _, _, .cons h r => .cons (kV_rep _) (RepK.keys r)
def dList : D → Option D
  | .tup xs => some (.lst xs)
  | .lst xs => some (.lst xs)
  | .scr xs => some (.lst xs)
  | .dic xs => some (.lst (xs.map fun kv => kD kv.1))
  | _ => none
abbrev rList0 (K : Frag) : List V → Hp → VK → Prop := fun xs H Q => (∃ p ys, xs = [.ref p] ∧ (SqL K H p ys ∨ SqT K H p ys) ∧ ∀ l, H l = none → Q (.ref l) (upd H l (.lst ys))) ∨ ∃ (a : Addr) (kvs : List (Key × V)), xs = [.ref a] ∧ Rd H a (.dK kvs) ∧ ∀ p, H p = none → Q (.ref p) (upd H p (.lst (kvs.map fun kv => kV kv.1)))
theorem b_list {X : Cx} (hc : X.calm = true) : CallR X (.type "list") (rList0 X.K) := call_list_of.or (call_listD hc)
theorem d_list {K : Frag} : CallD K (rList0 K) (one dList) := fun {F H vs xs z} e r h Q q => by
  obtain ⟨x, e0, h0⟩ := one_some h; subst e0; clear h; have h := h0; clear h0
  obtain ⟨w, rfl, rr⟩ := reps1 r
  cases rr with
  | tup h1 r1 => cases h; exact .inl ⟨_, _, rfl, .inr (ex_t e h1), fun p hp => q _ _ _ (.new e hp) (.lst upd_same (r1.mono (Ex.new (none_back e hp))))⟩
  | lst h1 r1 => cases h; exact .inl ⟨_, _, rfl, .inl (SqL.of (e _ _ h1)), fun p hp => q _ _ _ (.new e hp) (.lst upd_same (r1.mono (Ex.new (none_back e hp))))⟩
  | scr h1 r1 => cases h; exact .inl ⟨_, _, rfl, .inl (ex_l e h1), fun p hp => q _ _ _ (.new e hp) (.lst upd_same (r1.mono (Ex.new (none_back e hp))))⟩
  | dic h1 r1 => cases h; exact .inr ⟨_, _, rfl, .of (e _ _ h1), fun p hp => q _ _ _ (.new e hp) (.lst upd_same (r1.keys.mono (Ex.new (none_back e hp))))⟩
  | _ => cases h
def dTuple : D → Option D
  | .tup xs => some (.tup xs)
  | .lst xs => some (.tup xs)
  | .scr xs => some (.tup xs)
  | _ => none
def rTupleP (K : Frag) : List V → Hp → VK → Prop := fun xs H Q => ∃ p ys, xs = [.ref p] ∧ ((SqL K H p ys ∧ ∀ l o, H l = none → PlT o → Q (.ref l) (upd H l (.frz o (.tup ys)))) ∨ (SqT K H p ys ∧ Q (.ref p) H))
open PySem.Spec PyProof.Rows in
theorem call_tupleP {X : Cx} : CallR X (.type "tuple") (rTupleP X.K) := by
  intro pins s σ H xs us Q I r h
  obtain ⟨p, ys, rfl, h⟩ := h
  obtain ⟨u, rfl, rx⟩ := vals1 r
  cases rx
  rcases h with ⟨hq, q⟩ | ⟨hq, q⟩
  · obtain ⟨its, r', pl, hz⟩ := I.list hq
    have hlen := r'.length
    refine call_tuple_list pl.isList (fun h' kp => ?_) (by simp only [List.size_toArray] <;> omega)
    have I1 : Inv X pins σ H { s with heap := h' } := I.kept (t' := s.toks) kp
    have I2 : Inv X pins σ (upd H h'.objs.size (.frz { cls := .type "tuple", data := .seq its.toArray } (.tup ys))) { s with heap := h'.push { cls := .type "tuple", data := .seq its.toArray } } :=
      I1.laid (t' := s.toks) (fun b o e => Heap.get?_push_of_some _ e) (Nat.le_refl _) (show ObjOk X.prog X.w _ _ _ (.frz _ (.tup ys)) from ⟨Heap.get?_push_size _ rfl, hz, its, r', IsTup.new _ _⟩)
    exact ⟨.ref h'.objs.size, _, I2, rfl, q _ _ (I1.hok.fresh (Nat.le_refl _)) ⟨rfl, rfl, _, _, rfl⟩⟩
  · obtain ⟨its, r', pl, hz⟩ := I.tuple hq
    exact call_tuple_same pl ⟨.ref p, H, I, rfl, q⟩
theorem d_tuple {K : Frag} : CallD K (rTupleP K) (one dTuple) := fun {F H vs xs z} e r h Q q => by
  obtain ⟨x, e0, h0⟩ := one_some h; subst e0; clear h; have h := h0; clear h0
  obtain ⟨w, rfl, rr⟩ := reps1 r
  cases rr with
  | tup h1 r1 => cases h; exact ⟨_, _, rfl, .inr ⟨ex_t e h1, q _ F H (.refl e) (.tup h1 r1)⟩⟩
  | lst h1 r1 => cases h; exact ⟨_, _, rfl, .inl ⟨SqL.of (e _ _ h1), fun p ob hp hpl => q _ _ _ (.new e hp) (.tup (SqP.of upd_same hpl) (r1.mono (Ex.new (none_back e hp))))⟩⟩
  | scr h1 r1 => cases h; exact ⟨_, _, rfl, .inl ⟨ex_l e h1, fun p ob hp hpl => q _ _ _ (.new e hp) (.tup (SqP.of upd_same hpl) (r1.mono (Ex.new (none_back e hp))))⟩⟩
  | _ => cases h
def dints : List D → Option (List Int)
  | [] => some []
  | .int i :: r => (dints r).map fun is => i :: is
  | _ => none
def dbools : List D → Option (List Bool)
  | [] => some []
  | .bl i :: r => (dbools r).map fun is => i :: is
  | _ => none
theorem dints_rep {K : Frag} {F : Hp} : ∀ {ds : List D} {vs : List V} {is : List Int}, Reps K F vs ds → dints ds = some is → vs = is.map V.int
  | _, _, _, .nil, h => by cases h; rfl
  | _, _, _, .cons h1 r, h => by
    cases h1 <;> (try (cases h; done))
    simp only [dints, Option.map_eq_some_iff] at h
    obtain ⟨is, h2, rfl⟩ := h
    rw [dints_rep r h2]; rfl
theorem dbools_rep {K : Frag} {F : Hp} : ∀ {ds : List D} {vs : List V} {is : List Bool}, Reps K F vs ds → dbools ds = some is → vs = is.map V.bl
  | _, _, _, .nil, h => by cases h; rfl
  | _, _, _, .cons h1 r, h => by
    cases h1 <;> (try (cases h; done))
    simp only [dbools, Option.map_eq_some_iff] at h
    obtain ⟨is, h2, rfl⟩ := h
    rw [dbools_rep r h2]; rfl
def dSum : D → Option D
  | .lst xs => (dints xs).map fun is => .int is.sum
  | _ => none
theorem d_sum {K : Frag} : CallD K (rSum K) (one dSum) := fun {F H vs xs z} e r h Q q => by
  obtain ⟨x, e0, h0⟩ := one_some h; subst e0; clear h; have h := h0; clear h0
  obtain ⟨w, rfl, rr⟩ := reps1 r
  cases rr <;> (try (cases h; done))
  case lst a vs ds h1 r1 =>
    simp only [dSum, Option.map_eq_some_iff] at h
    obtain ⟨is, h2, rfl⟩ := h
    cases dints_rep r1 h2
    exact ⟨_, is, rfl, SqL.of (e _ _ h1), q _ F H (.refl e) (.int _)⟩
def dAll : D → Option D
  | .lst xs => (dbools xs).map fun is => .bl (is.all id)
  | _ => none
theorem d_all {K : Frag} : CallD K (rAll K) (one dAll) := fun {F H vs xs z} e r h Q q => by
  obtain ⟨x, e0, h0⟩ := one_some h; subst e0; clear h; have h := h0; clear h0
  obtain ⟨w, rfl, rr⟩ := reps1 r
  cases rr <;> (try (cases h; done))
  case lst a vs ds h1 r1 =>
    simp only [dAll, Option.map_eq_some_iff] at h
    obtain ⟨is, h2, rfl⟩ := h
    cases dbools_rep r1 h2
    exact ⟨_, is, rfl, SqL.of (e _ _ h1), q _ F H (.refl e) (.bl _)⟩
def dAny : D → Option D
  | .lst xs => (dbools xs).map fun is => .bl (is.any id)
  | _ => none
theorem d_any {K : Frag} : CallD K (rAny K) (one dAny) := fun {F H vs xs z} e r h Q q => by
  obtain ⟨x, e0, h0⟩ := one_some h; subst e0; clear h; have h := h0; clear h0
  obtain ⟨w, rfl, rr⟩ := reps1 r
  cases rr <;> (try (cases h; done))
  case lst a vs ds h1 r1 =>
    simp only [dAny, Option.map_eq_some_iff] at h
    obtain ⟨is, h2, rfl⟩ := h
    cases dbools_rep r1 h2
    exact ⟨_, is, rfl, SqL.of (e _ _ h1), q _ F H (.refl e) (.bl _)⟩
end PD
end
section
namespace PD
open PySem L2
/-! ### from statements' expressions to pure ones -/
theorem RP.rs {K : Frag} {F H : Hp} {σ : L2.St} {δ : Env} (r : RP K F σ H δ) : RS K [] Pm.no F H F σ H δ where
  ff := Ex.refl _
  fh := r.ex
  hh := fun _ _ _ h => h
  dm := fun _ h => h
  nw := fun _ h => .inl h
  ln := r.ln
  par := fun _ h => h.elim
  bxh := fun _ h => h.elim
  val := fun i d _ h => r.val i d h
  own := ⟨fun _ => [], fun i d hi _ => absurd hi (by simp), fun i a h => absurd h (by simp), fun i j a _ h => absurd h (by simp)⟩
theorem RS.gr {K : Frag} {own : List Nat} {F0 H0 F : Hp} {σ : L2.St} {H : Hp} {δ : Env} (r : RS K own Pm.no F0 H0 F σ H δ) : Grow F0 H0 F H := ⟨r.ff, r.fh, fun a o h => r.hh a o (fun h => h.elim) h, r.nw⟩
def pur {α : Type} (f : Env → RE α) : Env → Rs α := fun δ => match f δ with
  | none => none
  | some (.ok (a, _)) => some (.ok a)
  | some (.error (x, _)) => some (.error x)
theorem j_of {α β : Type} {X : Cx} {w : L2.St → Hp → (β → Hp → Prop) → Prop} {rel : Hp → β → α → Prop} {f : Env → RE α} (h : JS0 X [] w rel f) : J X w rel (pur f) := ⟨fun {σ F H δ W Q o} rp tk hg hP => by
  unfold pur at hg
  cases e : f δ with
  | none => rw [e] at hg; cases hg
  | some y =>
    rw [e] at hg
    rcases y with ⟨x, δ1⟩ | ⟨d, δ1⟩
    · cases hg; exact h.run rp.rs tk e fun c dd F' H' r1 e1 rx => hP c dd F' H' r1.gr rx
    · cases hg; exact h.run rp.rs tk e fun v F' H' r1 e1 rx => hP v F' H' r1.gr rx⟩
/-! ### what is walked, targets -/
def WI (X : Cx) (tg iter : Expr) (σ : L2.St) (H : Hp) (R : It → Hp → Prop) : Prop := ∀ pins s, Inv X pins σ H s → wpAny (model X.prog X.w) X.A (eval iter X.env) (fun v s1 => wpAny (model X.prog X.w) X.A (pyIter v) (PIE X pins σ tg R) X.xe s1) X.xe s
theorem pi_wi {X : Cx} {tg iter : Expr} : PI X tg iter (WI X tg iter) := ⟨fun pins s _ _ _ I h => h pins s I⟩
theorem wi_of {X : Cx} {tg iter : Expr} {t : TI} {σ : L2.St} {H : Hp} {R : It → Hp → Prop} (h : PI X tg iter t) (q : t σ H R) : WI X tg iter σ H R := fun pins s I => h.run pins s σ H R I q
def WG (X : Cx) (tg : Expr) (v : V) (σ : L2.St) (H : Hp) (Q : L2.St → Hp → Prop) : Prop := ∀ pins s u, Inv X pins σ H s → RelV v u → wpAny (model X.prog X.w) X.A (assign tg X.env u) (fun _ s' => ∃ σ' H', Inv X pins σ' H' s' ∧ Q σ' H') X.xe s
theorem pg_wg {X : Cx} {tg : Expr} : PG X tg (WG X tg) := ⟨fun pins s _ _ v u _ I r h => h pins s u I r⟩
theorem wg_of {X : Cx} {tg : Expr} {t : TG} {v : V} {σ : L2.St} {H : Hp} {Q : L2.St → Hp → Prop} (h : PG X tg t) (q : t v σ H Q) : WG X tg v σ H Q := fun pins s u I r => h.run pins s σ H v u Q I r q
structure Src (K : Frag) (F : Hp) (ds : List D) (J : It) : Prop where
  go : ∀ {F1 H1 : Hp}, Ex F F1 → Ex F1 H1 → ∀ {i : Nat} {d : D}, ds[i]? = some d → J.go i H1 ∧ ∀ x H', J.yld i H1 x H' → ∃ F', Grow F1 H1 F' H' ∧ Rep K F' x d
  stop : ∀ {F1 H1 : Hp}, Ex F F1 → Ex F1 H1 → ∀ {i : Nat}, ds.length ≤ i → J.stop i H1
structure JI (X : Cx) (own : List Nat) (tg iter : Expr) (f : Env → RE (List D)) : Prop where
  run : ∀ {P F0 H0 σ F H δ W o} {R : It → Hp → Prop}, RSf X ⟨own, P, F0, H0⟩ F σ H δ → Takes X W → f δ = some o → (match o with
    | .ok (ds, δ') => ∀ J F' H', RSf X ⟨own, P, F0, H0⟩ F' σ H' δ' → Ex F F' → Src X.K F' ds J → R J H'
    | .error (x, δ') => ∀ cls dd F' H', RSf X ⟨own, P, F0, H0⟩ F' σ H' δ' → Ex F F' → RepX X.K F' cls dd x → W cls dd σ H') → WI X tg iter σ H R
theorem wipe_get {σ : L2.St} {j : Nat} : ∀ {vs : List Nat}, (wipe σ vs)[j]? = if j ∈ vs then σ[j]?.map (fun _ => none) else σ[j]?
  | [] => by simp [wipe]
  | v :: vs => by
    show ((wipe σ vs).set v none)[j]? = _
    by_cases h : v = j
    · subst h
      rw [List.getElem?_set]
      simp only [List.mem_cons, true_or, if_true]
      by_cases hl : v < σ.length
      · rw [if_pos (by rw [wipe_length]; exact hl), List.getElem?_eq_getElem hl]; rfl
      · rw [if_neg (by rw [wipe_length]; exact hl), List.getElem?_eq_none (by omega)]; rfl
    · rw [List.getElem?_set_ne h, wipe_get]
      have e : (j ∈ v :: vs) ↔ j ∈ vs := by simp; exact fun e => absurd e.symm h
      by_cases hv : j ∈ vs
      · rw [if_pos hv, if_pos (e.2 hv)]
      · rw [if_neg hv, if_neg (fun h => hv (e.1 h))]
theorem wipe_set {σ : L2.St} {i : Nat} {x : Option V} {vs : List Nat} (h : i ∈ vs) : wipe (σ.set i x) vs = wipe σ vs := by
  apply List.ext_getElem?
  intro j
  rw [wipe_get, wipe_get]
  by_cases hj : i = j
  · subst hj
    rw [if_pos h, if_pos h, List.getElem?_set]
    by_cases hl : i < σ.length
    · simp [hl]
    · simp [hl]
  · rw [List.getElem?_set_ne hj]
structure JG (X : Cx) (own : List Nat) (tg : Expr) (is : List Nat) (h : D → Env → Option Env) : Prop where
  run : ∀ {P F0 H0 σ F H δ d v δ'} {Q : L2.St → Hp → Prop}, RSf X ⟨own, P, F0, H0⟩ F σ H δ → Rep X.K F v d → h d δ = some δ' → (∀ σ' F' H', RSf X ⟨own, P, F0, H0⟩ F' σ' H' δ' → Ex F F' → (∀ vs : List Nat, (∀ i, i ∈ is → i ∈ vs) → wipe σ' vs = wipe σ vs) → Q σ' H') → WG X tg v σ H Q
def gn (i : Nat) : D → Env → Option Env := fun d δ => some (δ.set i (some d))
theorem jg_n {X : Cx} {own : List Nat} {x : Str} {pos : Pos} (i : Nat) (hN : X.N.Nodup) (hi : X.N[i]? = some x := by rfl) (hx : Loc X.env.scope x := by first | exact Or.inl rfl | exact Or.inr rfl) (ho : i ∉ own := by decide)
    (hf : X.fn x = true ∨ X.env.scope.names.lookup x = some .local := by first | exact .inl rfl | exact .inr rfl | assumption) : JG X own (.Name x pos) [i] (gn i) :=
  ⟨fun r rv h q => by cases h; exact wg_of (pg_name hN hi hx hf) (q _ _ _ (r.set ho rv) (Ex.refl _) fun vs hv => wipe_set (hv i (List.mem_singleton.2 rfl)))⟩
def WGs (X : Cx) (tgs : List Expr) (vs : List V) (σ : L2.St) (H : Hp) (Q : L2.St → Hp → Prop) : Prop := ∀ pins s us, Inv X pins σ H s → Vals vs us → wpAny (model X.prog X.w) X.A (assignInOrder ((assignEach tgs X.env).map (·.2)) us) (fun _ s' => ∃ σ' H', Inv X pins σ' H' s' ∧ Q σ' H') X.xe s
theorem pgs_wgs {X : Cx} {tgs : List Expr} : PGs X tgs (WGs X tgs) := ⟨fun pins s _ _ vs us _ I r h => h pins s us I r⟩
theorem wgs_of {X : Cx} {tgs : List Expr} {t : TGs} {vs : List V} {σ : L2.St} {H : Hp} {Q : L2.St → Hp → Prop} (h : PGs X tgs t) (q : t vs σ H Q) : WGs X tgs vs σ H Q := fun pins s us I r => h.run pins s σ H vs us Q I r q
/-- several targets -/
structure JGs (X : Cx) (own : List Nat) (tgs : List Expr) (is : List Nat) (h : List D → Env → Option Env) : Prop where
  run : ∀ {P F0 H0 σ F H δ ds vs δ'} {Q : L2.St → Hp → Prop}, RSf X ⟨own, P, F0, H0⟩ F σ H δ → Reps X.K F vs ds → h ds δ = some δ' → (∀ σ' F' H', RSf X ⟨own, P, F0, H0⟩ F' σ' H' δ' → Ex F F' → (∀ vs : List Nat, (∀ i, i ∈ is → i ∈ vs) → wipe σ' vs = wipe σ vs) → Q σ' H') → WGs X tgs vs σ H Q
def gsnil : List D → Env → Option Env
  | [], δ => some δ
  | _, _ => none
def gscons (h : D → Env → Option Env) (r : List D → Env → Option Env) : List D → Env → Option Env
  | d :: ds, δ => (h d δ).bind fun δ' => r ds δ'
  | _, _ => none
theorem jgs_nil {X : Cx} {own : List Nat} : JGs X own [] [] gsnil := ⟨fun {P F0 H0 σ F H δ ds vs δ' Q} r rv h q => by
  cases rv with
  | nil => cases h; exact wgs_of pgs_nil ⟨rfl, q _ _ _ r (Ex.refl _) fun _ _ => rfl⟩
  | cons _ _ => cases h⟩
theorem jgs_cons {X : Cx} {own : List Nat} {e : Expr} {es : List Expr} {is js : List Nat} {h : D → Env → Option Env} {k : List D → Env → Option Env} (h1 : JG X own e is h) (h2 : JGs X own es js k) (hs : (assignEach (e :: es) X.env).map (·.2) = assign e X.env :: (assignEach es X.env).map (·.2) := by rfl) : JGs X own (e :: es) (is ++ js) (gscons h k) := ⟨fun {P F0 H0 σ F H δ ds vs δ' Q} r rv hh q => by
  cases rv with
  | nil => cases hh
  | cons ra rb =>
    simp only [gscons, Option.bind_eq_some_iff] at hh
    obtain ⟨δ1, e1, e2⟩ := hh
    exact wgs_of (pgs_cons pg_wg pgs_wgs hs) ⟨_, _, rfl, h1.run r ra e1 fun σ1 F1 H1 r1 x1 w1 => h2.run r1 (rb.mono x1) e2 fun σ2 F2 H2 r2 x2 w2 => q σ2 F2 H2 r2 (x1.trans x2) fun vs hv => (w2 vs fun i hi => hv i (List.mem_append_right _ hi)).trans (w1 vs fun i hi => hv i (List.mem_append_left _ hi))⟩⟩
def gt (h : List D → Env → Option Env) : D → Env → Option Env
  | .tup ds, δ => h ds δ
  | .npt ds, δ => h ds δ
  | _, _ => none
theorem jg_t {X : Cx} {own : List Nat} {es : List Expr} {k n : Nat} {pos : Pos} {is : List Nat} {h : List D → Env → Option Env} (hc : X.calm = true) (hk : JGs X own es is h) (hl : ∀ ds δ δ', h ds δ = some δ' → ds.length = n) (hn : (assignEach es X.env).length = n := by rfl) (hst : (assignEach es X.env).findIdx? (·.1) = none := by rfl) : JG X own (.Tuple es k pos) is (gt h) := ⟨fun {P F0 H0 σ F H δ d v δ' Q} r rv hh q => by
  cases rv <;> (try (cases hh; done))
  case tup a vs ds h1 r1 =>
    exact wg_of (pg_tup hc pgs_wgs hn hst) ⟨a, vs, rfl, ex_t r.fh h1, (Rep.len r1).trans (hl _ _ _ hh), hk.run r r1 hh q⟩
  case npt a vs ds h1 r1 =>
    exact wg_of (pg_tup hc pgs_wgs hn hst) ⟨a, vs, rfl, ex_q r.fh h1, (Rep.len r1).trans (hl _ _ _ hh), hk.run r r1 hh q⟩⟩
theorem gl_nil : ∀ (ds : List D) (δ δ' : Env), gsnil ds δ = some δ' → ds.length = 0
  | [], _, _, _ => rfl
  | _ :: _, _, _, h => by cases h
theorem gl_cons {n : Nat} {h : D → Env → Option Env} {r : List D → Env → Option Env} (hr : ∀ (ds : List D) (δ δ' : Env), r ds δ = some δ' → ds.length = n) : ∀ (ds : List D) (δ δ' : Env), gscons h r ds δ = some δ' → ds.length = n + 1
  | [], _, _, h => by cases h
  | d :: ds, δ, δ', hh => by
    simp only [gscons, Option.bind_eq_some_iff] at hh
    obtain ⟨δ1, e1, e2⟩ := hh
    rw [List.length_cons, hr _ _ _ e2]
/-! lists, tuples -/
theorem src_list {K : Frag} {F : Hp} {a : Addr} {vs : List V} {ds : List D} (h : SqL K F a vs) (r : Reps K F vs ds) : Src K F ds (Itl K a) where
  go := fun {F1 H1} e1 e2 {i d} hd => by
    obtain ⟨w, hw, rw'⟩ := r.get hd
    refine ⟨⟨vs, w, ex_l (e1.trans e2) h, hw⟩, fun x H' ⟨e, hx⟩ => ?_⟩
    subst e
    have := hx vs (ex_l (e1.trans e2) h)
    rw [hw] at this; cases this
    exact ⟨F1, .refl e2, rw'.mono e1⟩
  stop := fun {F1 H1} e1 e2 {i} hi => ⟨vs, ex_l (e1.trans e2) h, by rw [Rep.len r]; exact hi⟩
theorem src_tup {K : Frag} {F : Hp} {a : Addr} {vs : List V} {ds : List D} (h : SqP K F a vs) (r : Reps K F vs ds) : Src K F ds (Itt K a) where
  go := fun {F1 H1} e1 e2 {i d} hd => by
    obtain ⟨w, hw, rw'⟩ := r.get hd
    refine ⟨⟨vs, w, ex_t (e1.trans e2) h, hw⟩, fun x H' ⟨e, hx⟩ => ?_⟩
    subst e
    have := hx vs (ex_t (e1.trans e2) h)
    rw [hw] at this; cases this
    exact ⟨F1, .refl e2, rw'.mono e1⟩
  stop := fun {F1 H1} e1 e2 {i} hi => ⟨vs, ex_t (e1.trans e2) h, by rw [Rep.len r]; exact hi⟩
def items : D → Option (List D)
  | .lst xs => some xs
  | .scr xs => some xs
  | .tup xs => some xs
  | _ => none
def iseq (f : Env → RE D) : Env → RE (List D) := fun δ => bindE (f δ) fun d δ' => (items d).map fun xs => .ok (xs, δ')
theorem ji_seq {X : Cx} {own : List Nat} {tg e : Expr} {f : Env → RE D} (h : JE X own e f) : JI X own tg e (iseq f) := ⟨fun {P F0 H0 σ F H δ W o R} r tk hg hP => by
  unfold iseq at hg
  cases e0 : f δ with
  | none => rw [e0] at hg; cases hg
  | some y =>
    rw [e0] at hg
    rcases y with ⟨x, δ1⟩ | ⟨d, δ1⟩
    · cases hg; exact wi_of (pi_list pe_we) (h.run r tk e0 hP)
    · simp only [bindE, Option.map_eq_some_iff] at hg
      obtain ⟨xs, hx, rfl⟩ := hg
      cases d <;> (try (cases hx; done))
      case tup => cases hx; exact wi_of (pi_tup pe_we) (h.run r tk e0 fun v F1 H1 r1 e1 rx => by cases rx with | tup h1 r2 => exact ⟨_, rfl, ⟨_, ex_t r1.fh h1⟩, hP _ F1 H1 r1 e1 (src_tup h1 r2)⟩)
      case lst => cases hx; exact wi_of (pi_list pe_we) (h.run r tk e0 fun v F1 H1 r1 e1 rx => by cases rx with | lst h1 r2 => exact ⟨_, rfl, ⟨_, SqL.of (r1.fh _ _ h1)⟩, hP _ F1 H1 r1 e1 (src_list (SqL.of h1) r2)⟩)
      case scr => cases hx; exact wi_of (pi_list pe_we) (h.run r tk e0 fun v F1 H1 r1 e1 rx => by cases rx with | scr h1 r2 => exact ⟨_, rfl, ⟨_, ex_l r1.fh h1⟩, hP _ F1 H1 r1 e1 (src_list h1 r2)⟩)⟩
def rng (lo hi : Int) : List D := (List.range (hi - lo).toNat).map fun i => .int (lo + (i : Nat))
theorem src_rng {K : Frag} {F : Hp} {lo hi : Int} : Src K F (rng lo hi) (Itr lo (hi - lo).toNat) where
  go := fun {F1 H1} e1 e2 {i d} hd => by
    unfold rng at hd
    rw [List.getElem?_map, Option.map_eq_some_iff] at hd
    obtain ⟨j, hj, rfl⟩ := hd
    have := List.getElem?_eq_some_iff.1 hj
    obtain ⟨h1, h2⟩ := this
    rw [List.length_range] at h1
    rw [List.getElem_range] at h2
    subst h2
    exact ⟨h1, fun x H' ⟨e, hx⟩ => by subst e; subst hx; exact ⟨F1, .refl e2, .int _⟩⟩
  stop := fun {F1 H1} e1 e2 {i} hi => by unfold rng at hi; rw [List.length_map, List.length_range] at hi; exact hi
def irng1 (f : Env → RE D) : Env → RE (List D) := fun δ => bindE (f δ) fun d δ' => match d with
  | .int n => if -(2 ^ 62) ≤ n ∧ n < 2 ^ 62 then some (.ok (rng 0 n, δ')) else none
  | _ => none
theorem ji_rng1 {X : Cx} {own : List Nat} {tg e : Expr} {p pos : Pos} {f : Env → RE D} (hm : X.mg "range" = none) (h : JE X own e f) (hg : Gl X "range" := by rfl) (hs : starEach [e] X.env = [(false, eval e X.env)] := by rfl) : JI X own tg (.Call (.Name "range" p) [e] [] pos) (irng1 f) := ⟨fun {P F0 H0 σ F H δ W o R} r tk hg' hP => by
  refine wi_of (pi_range1 hg hm (pa_cons pe_we pa_nil hs) hs) ?_
  unfold irng1 at hg'
  cases e0 : f δ with
  | none => rw [e0] at hg'; cases hg'
  | some y =>
    rw [e0] at hg'
    rcases y with ⟨x, δ1⟩ | ⟨d, δ1⟩
    · cases hg'; exact h.run r tk e0 hP
    · simp only [bindE] at hg'
      cases d <;> (try (cases hg'; done))
      case int n =>
        by_cases hc : -(2 ^ 62) ≤ n ∧ n < 2 ^ 62
        · dsimp only at hg'; rw [if_pos hc] at hg'
          cases hg'
          refine h.run r tk e0 fun v F1 H1 r1 e1 rx => ?_
          cases rx
          refine ⟨n, rfl, hc.1, hc.2, ?_⟩
          have := hP (Itr 0 (n - 0).toNat) F1 H1 r1 e1 src_rng
          rw [Int.sub_zero] at this
          exact this
        · dsimp only at hg'; rw [if_neg hc] at hg'; cases hg'⟩
/-! ### while, for -/
def swhile (t : Env → RE Bool) (b : Env → RO) : Nat → Env → RO
  | 0, _ => none
  | n + 1, δ => bindE (t δ) fun k δ1 => if k = true then (match b δ1 with
    | some (.ok (.nx, δ2)) => swhile t b n δ2
    | some (.ok (.ct, δ2)) => swhile t b n δ2
    | some (.ok (.bk, δ2)) => some (.ok (.nx, δ2))
    | x => x) else some (.ok (.nx, δ1))
theorem js_while {X : Cx} {own : List Nat} {q : Expr} {body : List Stmt} {pos : Pos} {t : Env → RE Bool} {b : Env → RO} (n : Nat) (hp : PassesOwn (model X.prog X.w) X.A X.env X.xe) (hq : JTE X own q t) (hb : JSs X own body b) : JS X own (.While q body [] pos) (swhile t b n) := ⟨fun {P F0 H0 σ F H δ W o D} _ r tk hg hP => by
  refine ws_of (ps_while hp pt_wt pss_wss) ?_
  refine ⟨fun m σ' H' => ∃ F' δ', RSf X ⟨own, P, F0, H0⟩ F' σ' H' δ' ∧ Ex F F' ∧ swhile t b m δ' = some o, ⟨n, F, δ, r, Ex.refl _, hg⟩, ?_⟩
  rintro m σ1 H1 ⟨F1, δ1, r1, e1, h1⟩
  cases m with
  | zero => cases h1
  | succ m =>
    refine se_bind hq r1 tk h1 (hP.later e1) fun k v δ2 F2 H2 h2 e2 rx r2 P2 => ?_
    cases rx
    cases k with
    | false => rw [if_neg Bool.false_ne_true] at *; cases h2; exact P2 _ F2 H2 r2 (Ex.refl _)
    | true =>
      rw [if_pos rfl] at h2 ⊢
      refine ⟨fun σ' H' => ∃ F' δ', RSf X ⟨own, P, F0, H0⟩ F' σ' H' δ' ∧ Ex F F' ∧ swhile t b m δ' = some o, fun σ' H' h => ⟨m, Nat.lt_succ_self m, h⟩, ?_⟩
      cases e3 : b δ2 with
      | none => rw [e3] at h2; cases h2
      | some y =>
        rw [e3] at h2
        rcases y with ⟨x, δ3⟩ | ⟨o1, δ3⟩
        · cases h2; exact hb.run r2 tk e3 P2
        · cases o1 with
          | nx => exact hb.run r2 tk e3 fun σ' F' H' r3 x3 => ⟨F', δ3, r3, (e1.trans e2).trans x3, h2⟩
          | ct => exact hb.run r2 tk e3 fun σ' F' H' r3 x3 => ⟨F', δ3, r3, (e1.trans e2).trans x3, h2⟩
          | bk => cases h2; exact hb.run r2 tk e3 P2
          | rt d => cases h2; exact hb.run r2 tk e3 P2⟩
def sfor (g : D → Env → Option Env) (b : Env → RO) : List D → Env → RO
  | [], δ => some (.ok (.nx, δ))
  | d :: ds, δ => match g d δ with
    | none => none
    | some δ1 => match b δ1 with
      | some (.ok (.nx, δ2)) => sfor g b ds δ2
      | some (.ok (.ct, δ2)) => sfor g b ds δ2
      | some (.ok (.bk, δ2)) => some (.ok (.nx, δ2))
      | x => x
def sforI (f : Env → RE (List D)) (g : D → Env → Option Env) (b : Env → RO) : Env → RO := fun δ => bindE (f δ) fun ds δ' => sfor g b ds δ'
theorem js_for {X : Cx} {own : List Nat} {tg iter : Expr} {body : List Stmt} {pos : Pos} {f : Env → RE (List D)} {g : D → Env → Option Env} {is : List Nat} {b : Env → RO} (hp : PassesOwn (model X.prog X.w) X.A X.env X.xe) (hc : X.calm = true) (hi : JI X own tg iter f) (hg : JG X own tg is g) (hb : JSs X own body b)
    (hs : ∀ x, foldedSetIterable iter X.env x = pure x := by intro _; rfl) : JS X own (.For tg iter body [] pos) (sforI f g b) := ⟨fun {P F0 H0 σ F H δ W o D} _ r tk hh hP => by
  refine ws_of (ps_for hp hc pi_wi pg_wg pss_wss hs) ?_
  unfold sforI at hh
  cases e0 : f δ with
  | none => rw [e0] at hh; cases hh
  | some y =>
    rw [e0] at hh
    rcases y with ⟨x, δ1⟩ | ⟨ds, δ1⟩
    · cases hh; exact hi.run r tk e0 fun c dd F' H' r1 e1 rx => hP c dd σ F' H' r1 e1 rx
    · simp only [bindE] at hh
      refine hi.run r tk e0 fun J F1 H1 r1 e1 src => ?_
      refine ⟨fun i m σ' H' => ∃ F' δ', RSf X ⟨own, P, F0, H0⟩ F' σ' H' δ' ∧ Ex F1 F' ∧ i + m = ds.length ∧ sfor g b (ds.drop i) δ' = some o, ⟨ds.length, F1, δ1, r1, Ex.refl _, Nat.zero_add _, hh⟩, ?_⟩
      rintro i m σ2 H2 ⟨F2, δ2, r2, e2, hm, h2⟩
      cases hd : ds[i]? with
      | none =>
        have hl : ds.length ≤ i := List.getElem?_eq_none_iff.1 hd
        rw [List.drop_of_length_le hl] at h2
        cases h2
        exact .inl ⟨src.stop e2 r2.fh hl, hP σ2 F2 H2 r2 (e1.trans e2)⟩
      | some d =>
        have hl : i < ds.length := (List.getElem?_eq_some_iff.1 hd).1
        have hd' : ds[i] = d := (List.getElem?_eq_some_iff.1 hd).2
        rw [List.drop_eq_getElem_cons hl, hd'] at h2
        obtain ⟨g1, g2⟩ := src.go e2 r2.fh hd
        refine .inr ⟨g1, fun σ' H' => ∃ F' δ', RSf X ⟨own, P, F0, H0⟩ F' σ' H' δ' ∧ Ex F1 F' ∧ (i + 1) + (m - 1) = ds.length ∧ sfor g b (ds.drop (i + 1)) δ' = some o, fun σ' H' h => ⟨m - 1, by omega, h⟩, fun x H' hy => ?_⟩
        obtain ⟨F3, g3, rx⟩ := g2 x H' hy
        simp only [sfor] at h2
        cases e4 : g d δ2 with
        | none => rw [e4] at h2; cases h2
        | some δ4 =>
          rw [e4] at h2
          simp only [] at h2
          refine hg.run (r2.grow g3) rx e4 fun σ4 F4 H4 r4 x4 _ => ?_
          have ex4 : Ex F1 F4 := (e2.trans g3.ff).trans x4
          have P4 := hP.later (e1.trans ex4)
          cases e5 : b δ4 with
          | none => rw [e5] at h2; cases h2
          | some z =>
            rw [e5] at h2
            rcases z with ⟨x, δ5⟩ | ⟨o1, δ5⟩
            · cases h2; exact hb.run r4 tk e5 P4
            · cases o1 with
              | nx => exact hb.run r4 tk e5 fun σ' F' H' r3 x3 => ⟨F', δ5, r3, ex4.trans x3, by omega, h2⟩
              | ct => exact hb.run r4 tk e5 fun σ' F' H' r3 x3 => ⟨F', δ5, r3, ex4.trans x3, by omega, h2⟩
              | bk => cases h2; exact hb.run r4 tk e5 P4
              | rt d => cases h2; exact hb.run r4 tk e5 P4⟩
end PD
end
section
namespace PD
open PySem L2
/-! ### own containers read by a pure expression -/
mutual
def flat : D → Bool
  | .non => true
  | .bl _ => true
  | .int _ => true
  | .str _ => true
  | .tup xs => flats xs
  | _ => false
def flats : List D → Bool
  | [] => true
  | x :: xs => flat x && flats xs
end
def notTup : Option HO → Bool
  | some (.tup _) => false
  | some (.frz _ (.tup _)) => false
  | _ => true
open Classical in
/-- F without some cells -/
noncomputable def less (F : Hp) (A : Addr → Prop) : Hp := fun a => if A a then none else F a
mutual
theorem unfz {K : Frag} {F : Hp} {A : Addr → Prop} (h : ∀ a, A a → notTup (F a) = true) : ∀ {v : V} {d : D}, Rep K F v d → flat d = true → Rep K (less F A) v d
  | _, _, .non, _ => .non
  | _, _, .bl b, _ => .bl b
  | _, _, .int i, _ => .int i
  | _, _, .str x, _ => .str x
  | _, _, .tup (a := a) (ds := ds) h1 r, hf => by
    rw [flat] at hf
    refine .tup ?_ (unfzs h r hf)
    rcases h1 with ⟨o, h1, hpl⟩ | h1
    · have na : ¬ A a := fun ha => by
        have := h a ha
        rw [h1] at this; cases this
      exact .inl ⟨o, by unfold less; rw [if_neg na]; exact h1, hpl⟩
    · exact .inr h1
  | _, _, .lst _ _, hf => by simp [flat] at hf
  | _, _, .scr _ _, hf => by simp [flat] at hf
  | _, _, .npt _ _, hf => by simp [flat] at hf
  | _, _, .dic _ _, hf => by simp [flat] at hf
  | _, _, .obj _ _ _, hf => by simp [flat] at hf
  | _, _, .ins _ _, hf => by simp [flat] at hf
theorem unfzs {K : Frag} {F : Hp} {A : Addr → Prop} (h : ∀ a, A a → notTup (F a) = true) : ∀ {v : List V} {d : List D}, Reps K F v d → flats d = true → Reps K (less F A) v d
  | _, _, .nil, _ => .nil
  | _, _, .cons h1 r, hf => by
    rw [flats, Bool.and_eq_true] at hf
    exact .cons (unfz h h1 hf.1) (unfzs h r hf.2)
end
theorem unfzK {K : Frag} {F : Hp} {A : Addr → Prop} (h : ∀ a, A a → notTup (F a) = true) : ∀ {v : List (Key × V)} {d : List (Key × D)}, RepK K F v d → flats (d.map (·.2)) = true → RepK K (less F A) v d
  | _, _, .nil, _ => .nil
  | _, _, .cons h1 r, hf => by
    rw [List.map_cons, flats, Bool.and_eq_true] at hf
    exact .cons (unfz h h1 hf.1) (unfzK h r hf.2)
/-- the fields of an object, one by one -/
theorem repO_of {K : Frag} {F : Hp} : ∀ {ds : List (Option D)} {vs : List (Option V)}, (∀ (i : Nat) (d : D), ds[i]? = some (some d) → ∃ v : V, vs[i]? = some (some v) ∧ Rep K F v d) → RepO K F vs ds
  | [], vs, h => RepO.nil
  | none :: ds, vs, h => RepO.none (repO_of fun i d hd => by
      obtain ⟨v, hv, r⟩ := h (i + 1) d hd
      refine ⟨v, ?_, r⟩
      cases vs with
      | nil => simp at hv
      | cons x vs => simpa using hv)
  | some d :: ds, vs, h => by
    obtain ⟨v, hv, r⟩ := h 0 d rfl
    cases vs with
    | nil => simp at hv
    | cons x vs =>
      simp at hv
      subst hv
      exact .some r (repO_of fun i d hd => by
        obtain ⟨v, hv, r⟩ := h (i + 1) d hd
        exact ⟨v, by simpa using hv, r⟩)
open Classical in
/-- all own containers held fast -/
theorem RS.frz {K : Frag} {own : List Nat} {P : Pm} {F0 H0 F : Hp} {σ : L2.St} {H : Hp} {δ : Env} (r : RS K own P F0 H0 F σ H δ) :
    ∃ A : Addr → Prop, (∀ a, A a → F a = none ∧ H a ≠ none) ∧ ∃ F1, Ex F F1 ∧ RP K F1 σ H δ ∧ (∀ a, A a → notTup (F1 a) = true ∧ F1 a ≠ none) ∧ ∀ a, ¬ A a → F1 a = F a := by
  obtain ⟨fp, h1, h2, h3⟩ := r.own
  refine ⟨fun a => ∃ i d, i ∈ own ∧ δ[i]? = some (some d) ∧ a ∈ fp i, fun a ⟨i, d, hi, hd, ha⟩ => ⟨(h2 i a ha).1, (h2 i a ha).2.1⟩, fun a => if (∃ i d, i ∈ own ∧ δ[i]? = some (some d) ∧ a ∈ fp i) then H a else F a, ?_, ?_, ?_, ?_⟩
  · intro a o e
    show (if _ then _ else _) = _
    split
    · exact r.fh a o e
    · exact e
  · have ef : Ex F (fun a => if (∃ i d, i ∈ own ∧ δ[i]? = some (some d) ∧ a ∈ fp i) then H a else F a) := by
      intro a o e
      show (if _ then _ else _) = _
      split
      · exact r.fh a o e
      · exact e
    refine ⟨fun a o e => ?_, r.ln, fun i d hd => ?_⟩
    · have e' : (if (∃ i d, i ∈ own ∧ δ[i]? = some (some d) ∧ a ∈ fp i) then H a else F a) = some o := e
      split at e'
      · exact e'
      · exact r.fh a o e'
    · by_cases hi : i ∈ own
      · obtain ⟨v, hv, o⟩ := h1 i d hi hd
        refine ⟨v, hv, ?_⟩
        have hp : ∀ p, p ∈ fp i → (if (∃ i d, i ∈ own ∧ δ[i]? = some (some d) ∧ p ∈ fp i) then H p else F p) = H p := fun p hp => if_pos ⟨i, d, hi, hd, hp⟩
        generalize hfp : fp i = fpi at o hp
        cases o with
        | lst h r2 => exact .lst (by show (if _ then _ else _) = _; rw [hp _ (by simp)]; exact h) (r2.mono ef)
        | dic h r2 => exact .dic (by show (if _ then _ else _) = _; rw [hp _ (by simp)]; exact h) (r2.mono ef)
        | obj h =>
          refine .obj (by show (if _ then _ else _) = _; rw [hp _ h.inp]; exact h.ob) (by show (if _ then _ else _) = _; rw [hp _ h.inx]; exact h.dxo) ?_
          refine repO_of fun j e hj => ?_
          obtain ⟨w, hw, rw'⟩ := h.fld j e hj
          refine ⟨w, hw, ?_⟩
          split at rw'
          · obtain ⟨oc, hk, _⟩ := rw'
            cases oc with
            | lst h2 r2 => exact .lst (by show (if _ then _ else _) = _; rw [hp _ hk]; exact h2) (r2.mono ef)
            | dic h2 r2 => exact .dic (by show (if _ then _ else _) = _; rw [hp _ hk]; exact h2) (r2.mono ef)
          · exact rw'.mono ef
      · obtain ⟨v, hv, rv⟩ := r.val i d hi hd
        exact ⟨v, hv, rv.mono ef⟩
  · rintro a ⟨i, d, hi, hd, ha⟩
    show notTup (if _ then _ else _) = true ∧ (if _ then _ else _) ≠ none
    rw [if_pos ⟨i, d, hi, hd, ha⟩]
    obtain ⟨v, hv, o⟩ := h1 i d hi hd
    generalize fp i = fpi at o ha
    cases o with
    | lst h r2 => cases List.mem_singleton.1 ha; rw [h]; exact ⟨rfl, by simp⟩
    | dic h r2 => cases List.mem_singleton.1 ha; rw [h]; exact ⟨rfl, by simp⟩
    | obj h =>
      rcases h.all a ha with rfl | rfl | ⟨j, e, hj, he, rfl⟩
      · rw [h.ob]; exact ⟨rfl, by simp⟩
      · rw [h.dxo]; exact ⟨rfl, by simp⟩
      · obtain ⟨w, hw, rw'⟩ := h.fld j e he
        rw [if_pos hj] at rw'
        obtain ⟨oc, hk, _⟩ := rw'
        cases oc with
        | lst h2 r2 => rw [h2]; exact ⟨rfl, by simp⟩
        | dic h2 r2 => rw [h2]; exact ⟨rfl, by simp⟩
  · intro a ha
    show (if _ then _ else _) = _
    rw [if_neg ha]
theorem less_grow {F F1 H F2 H2 : Hp} {A : Addr → Prop} (hA : ∀ a, A a → F a = none ∧ H a ≠ none) (e : Ex F F1) (hn : ∀ a, A a → F1 a ≠ none) (hs : ∀ a, ¬ A a → F1 a = F a) (g : Grow F1 H F2 H2) : Grow F H (less F2 A) H2 where
  ff := fun a o h => by
    have na : ¬ A a := fun ha => by rw [(hA a ha).1] at h; cases h
    unfold less; rw [if_neg na]; exact g.ff a o (e a o h)
  fh := fun a o h => by
    unfold less at h
    split at h
    · cases h
    · exact g.fh a o h
  hh := g.hh
  nw := fun a h => by
    unfold less at h
    split at h
    · exact absurd rfl h
    · rename_i na
      rcases g.nw a h with h1 | h1
      · rw [hs a na] at h1; exact .inl h1
      · exact .inr h1
/-- own containers read, the result flat -/
def lfo (g : Env → Rs D) : Env → RE D := fun δ => match g δ with
  | some (.ok d) => if flat d = true then some (.ok (d, δ)) else none
  | _ => none
def lfT (g : Env → Rs Bool) : Env → RE Bool := fun δ => match g δ with
  | some (.ok d) => some (.ok (d, δ))
  | _ => none
theorem je_o {X : Cx} {own : List Nat} {e : Expr} {g : Env → Rs D} (h : JP X e g) : JE X own e (lfo g) := ⟨fun {P F0 H0 σ F H δ W Q o} r tk hg hP => by
  unfold lfo at hg
  cases e0 : g δ with
  | none => rw [e0] at hg; cases hg
  | some y => cases y with
    | error x => rw [e0] at hg; cases hg
    | ok d =>
      rw [e0] at hg
      dsimp only at hg
      split at hg
      · rename_i hf
        cases hg
        obtain ⟨A, hA, F1, ef, rp, hn, hs⟩ := r.frz
        refine h.run rp tk e0 fun v F2 H2 g2 rv => ?_
        have g3 := less_grow hA ef (fun a ha => (hn a ha).2) hs g2
        exact hP v _ H2 (r.grow g3) g3.ff (unfz (fun a ha => by
          have h1 := (hn a ha).2
          have h2 := (hn a ha).1
          cases e1 : F1 a with
          | none => exact absurd e1 h1
          | some o => rw [e1] at h2; rw [g2.ff a o e1]; exact h2) rv hf)
      · cases hg⟩
theorem jte_o {X : Cx} {own : List Nat} {e : Expr} {g : Env → Rs Bool} (h : JT X e g) : JTE X own e (lfT g) := ⟨fun {P F0 H0 σ F H δ W Q o} r tk hg hP => by
  unfold lfT at hg
  cases e0 : g δ with
  | none => rw [e0] at hg; cases hg
  | some y => cases y with
    | error x => rw [e0] at hg; cases hg
    | ok d =>
      rw [e0] at hg
      cases hg
      obtain ⟨A, hA, F1, ef, rp, hn, hs⟩ := r.frz
      refine h.run rp tk e0 fun v F2 H2 g2 rv => ?_
      have g3 := less_grow hA ef (fun a ha => (hn a ha).2) hs g2
      exact hP v _ H2 (r.grow g3) g3.ff rv⟩
/-! ### several names at once -/
def spar2 (i j : Nat) (f : Env → RE (List D)) : Env → RO := fun δ => bindE (f δ) fun ds δ' => match ds with
  | [a, b] => some (.ok (.nx, (δ'.set i (some a)).set j (some b)))
  | _ => none
theorem js_par2 {X : Cx} {own : List Nat} (i j : Nat) {x y : Str} {a b : Expr} {px py pt pos : Pos} {kt k2 pt2} {f : Env → RE (List D)} (hc : X.calm = true) (hN : X.N.Nodup) (ha : JAE X own [a, b] f) (hi : X.N[i]? = some x := by rfl) (hj : X.N[j]? = some y := by rfl) (hij : i ≠ j := by decide)
    (hx : X.env.scope.names.lookup x = some .local := by rfl) (hy : X.env.scope.names.lookup y = some .local := by rfl) (oi : i ∉ own := by decide) (oj : j ∉ own := by decide)
    (hw : swappedStores [.Tuple [.Name x px, .Name y py] kt pt] (.Tuple [a, b] k2 pt2) X.env = pure (some [x, y]) := by rfl)
    (hs : swapsWithSole [.Tuple [.Name x px, .Name y py] kt pt] (.Tuple [a, b] k2 pt2) pos.line X.env = pure false := by rfl) :
    JS X own (.Assign [.Tuple [.Name x px, .Name y py] kt pt] (.Tuple [a, b] k2 pt2) pos) (spar2 i j f) :=
  ⟨fun r tk hg hP => ws_of (ps_par hc hN hi hj hij hx hy pa_wa hw hs) (se_bind ha r tk hg hP fun ds vs δ1 F1 H1 h1 e1 rx r1 P1 => by
    rcases ds with _ | ⟨d1, _ | ⟨d2, _ | ⟨d3, ds⟩⟩⟩ <;> (try (cases h1; done))
    obtain ⟨w, u, rfl, ra, rb⟩ := reps2 rx
    cases h1
    exact ⟨w, u, rfl, P1 _ F1 H1 ((r1.set oi ra).set oj rb) (Ex.refl _)⟩)⟩
def spar3 (i j l : Nat) (f : Env → RE (List D)) : Env → RO := fun δ => bindE (f δ) fun ds δ' => match ds with
  | [a, b, c] => some (.ok (.nx, ((δ'.set i (some a)).set j (some b)).set l (some c)))
  | _ => none
theorem reps3 {K : Frag} {F : Hp} {vs : List V} {x y z : D} (r : Reps K F vs [x, y, z]) : ∃ w u t, vs = [w, u, t] ∧ Rep K F w x ∧ Rep K F u y ∧ Rep K F t z := by
  cases r with | cons h r => cases r with | cons h2 r => cases r with | cons h3 r => cases r; exact ⟨_, _, _, rfl, h, h2, h3⟩
theorem js_par3 {X : Cx} {own : List Nat} (i j l : Nat) {x y z : Str} {a b c : Expr} {px py pz pt pos : Pos} {kt k2 pt2} {f : Env → RE (List D)} (hc : X.calm = true) (hN : X.N.Nodup) (ha : JAE X own [a, b, c] f) (hi : X.N[i]? = some x := by rfl) (hj : X.N[j]? = some y := by rfl) (hl : X.N[l]? = some z := by rfl) (hij : i ≠ j := by decide) (hil : i ≠ l := by decide) (hjl : j ≠ l := by decide)
    (hx : X.env.scope.names.lookup x = some .local := by rfl) (hy : X.env.scope.names.lookup y = some .local := by rfl) (hz : X.env.scope.names.lookup z = some .local := by rfl) (oi : i ∉ own := by decide) (oj : j ∉ own := by decide) (ol : l ∉ own := by decide)
    (hw : swappedStores [.Tuple [.Name x px, .Name y py, .Name z pz] kt pt] (.Tuple [a, b, c] k2 pt2) X.env = pure (some [x, y, z]) := by rfl)
    (hs : swapsWithSole [.Tuple [.Name x px, .Name y py, .Name z pz] kt pt] (.Tuple [a, b, c] k2 pt2) pos.line X.env = pure false := by rfl) :
    JS X own (.Assign [.Tuple [.Name x px, .Name y py, .Name z pz] kt pt] (.Tuple [a, b, c] k2 pt2) pos) (spar3 i j l f) :=
  ⟨fun r tk hg hP => ws_of (ps_par3 hc hN hi hj hl hij hil hjl hx hy hz pa_wa hw hs) (se_bind ha r tk hg hP fun ds vs δ1 F1 H1 h1 e1 rx r1 P1 => by
    rcases ds with _ | ⟨d1, _ | ⟨d2, _ | ⟨d3, _ | ⟨d4, ds⟩⟩⟩⟩ <;> (try (cases h1; done))
    obtain ⟨w, u, t, rfl, ra, rb, rc⟩ := reps3 rx
    cases h1
    exact ⟨w, u, t, rfl, P1 _ F1 H1 (((r1.set oi ra).set oj rb).set ol rc) (Ex.refl _)⟩)⟩
/-- target = value, by a target of any form -/
def sasg (g : D → Env → Option Env) (f : Env → RE D) : Env → RO := fun δ => bindE (f δ) fun d δ' => (g d δ').map fun δ2 => .ok (.nx, δ2)
theorem js_asg {X : Cx} {own : List Nat} {tg e : Expr} {pos : Pos} {f : Env → RE D} {g : D → Env → Option Env} {is : List Nat} (hg : JG X own tg is g) (h : JE X own e f) (hs : swapsWithSole [tg] e pos.line X.env = pure false := by rfl) (hw : swappedStores [tg] e X.env = pure none := by rfl) (h1 : (assignEach [tg] X.env).map (·.2) = [assign tg X.env] := by rfl) :
    JS X own (.Assign [tg] e pos) (sasg g f) := ⟨fun r tk hh hP => ws_of (ps_asg pe_we pg_wg hs hw h1) (se_bind h r tk hh hP fun x v δ1 F1 H1 h1 e1 rx r1 P1 => by
    simp only [Option.map_eq_some_iff] at h1
    obtain ⟨δ2, h2, rfl⟩ := h1
    exact hg.run r1 rx h2 fun σ' F' H' r2 x2 _ => P1 σ' F' H' r2 x2)⟩
/-! ### stateful arguments and displays -/
def enil : Env → RE (List D) := fun δ => some (.ok ([], δ))
def econs (a : Env → RE D) (r : Env → RE (List D)) : Env → RE (List D) := fun δ => bindE (a δ) fun x δ1 => bindE (r δ1) fun xs δ2 => some (.ok (x :: xs, δ2))
theorem PostE.fin {α β : Type} {rel : Hp → β → α → Prop} {X : Cx} {f : Fr} {F : Hp} {σ : L2.St} {W : WX} {Q : β → Hp → Prop} {d : α} {δ : Env} {o : Except (XD × Env) (α × Env)} (h : some (.ok (d, δ)) = some o) (p : PostE rel X f F σ W o Q) : ∀ v F' H', RSf X f F' σ H' δ → Ex F F' → rel F' v d → Q v H' := by
  cases h; exact p
section
variable {X : Cx} {own : List Nat} {e a b : Expr} {es : List Expr} {pos : Pos}
theorem jae_nil : JAE X own [] enil := ⟨fun r tk hg hP => wa_of pa_nil (hP.fin hg _ _ _ r (Ex.refl _) .nil)⟩
theorem jae_cons {f : Env → RE D} {k : Env → RE (List D)} (ha : JE X own e f) (hr : JAE X own es k) (hs : starEach (e :: es) X.env = (false, eval e X.env) :: starEach es X.env := by rfl) : JAE X own (e :: es) (econs f k) := ⟨fun {P F0 H0 σ F H δ W Q o} r tk hg hP =>
  wa_of (pa_cons pe_we pa_wa hs) (js_bind (w := WE X e) ha r tk hg hP fun x vx δ1 F1 H1 h1 e1 rx r1 P1 => js_bind (w := WA X es) hr r1 tk h1 P1 fun xs vxs δ2 F2 H2 h2 e2 rxs r2 P2 => P2.fin h2 _ F2 H2 r2 (Ex.refl _) (.cons (rx.mono e2) rxs))⟩
/-- new things in a state -/
theorem RS.new {K : Frag} {own : List Nat} {P : Pm} {F0 H0 F : Hp} {σ : L2.St} {H : Hp} {δ : Env} {p : Addr} {o : HO} (r : RS K own P F0 H0 F σ H δ) (hp : H p = none) : RS K own P F0 H0 (upd F p o) σ (upd H p o) δ := r.grow (.new r.fh hp)
def etup (a : Env → RE (List D)) : Env → RE D := fun δ => bindE (a δ) fun xs δ' => if xs.length ≤ sizeLine then some (.ok (.tup xs, δ')) else none
def elst (a : Env → RE (List D)) : Env → RE D := fun δ => bindE (a δ) fun xs δ' => if xs.length ≤ sizeLine then some (.ok (.lst xs, δ')) else none
theorem je_tup {x1} {f : Env → RE (List D)} (ha : JAE X own es f) : JE X own (.Tuple es x1 pos) (etup f) := ⟨fun {P F0 H0 σ F H δ W Q o} r tk hg hP =>
  we_of (pe_tupP pa_wa) (js_bind (w := WA X es) ha r tk hg hP fun xs vs δ1 F1 H1 h1 e1 rx r1 P1 => by
    by_cases hl : xs.length ≤ sizeLine
    · rw [if_pos hl] at h1
      exact ⟨by rw [Rep.len rx]; exact hl, fun p ob hp hpl => P1.fin h1 _ _ _ (r1.new hp) (Ex.new (none_back r1.fh hp)) (.tup (SqP.of upd_same hpl) (rx.mono (Ex.new (none_back r1.fh hp))))⟩
    · rw [if_neg hl] at h1; cases h1)⟩
theorem je_lst {f : Env → RE (List D)} (ha : JAE X own es f) : JE X own (.List es pos) (elst f) := ⟨fun {P F0 H0 σ F H δ W Q o} r tk hg hP =>
  we_of (pe_lst pa_wa) (js_bind (w := WA X es) ha r tk hg hP fun xs vs δ1 F1 H1 h1 e1 rx r1 P1 => by
    by_cases hl : xs.length ≤ sizeLine
    · rw [if_pos hl] at h1
      exact ⟨by rw [Rep.len rx]; exact hl, fun p hp => P1.fin h1 _ _ _ (r1.new hp) (Ex.new (none_back r1.fh hp)) (.lst upd_same (rx.mono (Ex.new (none_back r1.fh hp))))⟩
    · rw [if_neg hl] at h1; cases h1)⟩
/-- operators -/
theorem RS.opd {K : Frag} {own : List Nat} {P : Pm} {F0 H0 F F' H' : Hp} {σ : L2.St} {H : Hp} {δ : Env} (r : RS K own P F0 H0 F σ H δ) (g : Grow F H F' H') : RS K own P F0 H0 F' σ H' δ := r.grow g
def eop2 (g : D → D → Option D) (a b : Env → RE D) : Env → RE D := fun δ => bindE (a δ) fun x δ1 => bindE (b δ1) fun y δ2 => (g x y).map fun z => .ok (z, δ2)
theorem je_op {op : Operator} {rr : R2} {g : D → D → Option D} {fa fb : Env → RE D} (ho : OpR X (binaryOp op) rr) (hr : OpD X.K rr g) (ha : JE X own a fa) (hb : JE X own b fb) : JE X own (.BinOp a op b pos) (eop2 g fa fb) := ⟨fun {P F0 H0 σ F H δ W Q o} r tk hg hP =>
  we_of (pe_op ho pe_we pe_we) (js_bind (w := WE X a) ha r tk hg hP fun x vx δ1 F1 H1 h1 e1 rx r1 P1 => js_bind (w := WE X b) hb r1 tk h1 P1 fun y vy δ2 F2 H2 h2 e2 ry r2 P2 => by
    simp only [Option.map_eq_some_iff] at h2
    obtain ⟨z, hz, rfl⟩ := h2
    exact hr r2.fh (rx.mono e2) ry hz _ fun v F' H' g rv => P2 v F' H' (r2.grow g) g.ff rv)⟩
def etb (g : Env → RE D) : Env → RE Bool := fun δ => bindE (g δ) fun x δ' => (asB x).map fun b => .ok (b, δ')
theorem jte_cmp {op : CmpOp} {rr : R2} {g : D → D → Option D} {fa fb : Env → RE D} (ho : OpR X (compareOp op) rr) (hr : OpD X.K rr g) (ha : JE X own a fa) (hb : JE X own b fb) (hm : behindInMarks op b = false := by first | exact nomark _ | with_unfolding_all rfl) : JTE X own (.Compare a [op] [b] pos) (etb (eop2 g fa fb)) := ⟨fun {P F0 H0 σ F H δ W Q o} r tk hg hP => by
  have hg' : bindE (fa δ) (fun x δ1 => bindE (fb δ1) fun y δ2 => bindE ((g x y).map fun z => (.ok (z, δ2) : Except (XD × Env) (D × Env))) fun x δ' => (asB x).map fun b => .ok (b, δ')) = some o := by
    rw [← hg]; unfold etb eop2
    cases fa δ with
    | none => rfl
    | some y => cases y with
      | error x => rfl
      | ok p => dsimp only [bindE]; cases fb p.2 with
        | none => rfl
        | some y => cases y <;> rfl
  exact wt_of (pt_cmpR ho pe_we pe_we hm) (js_bind (w := WE X a) ha r tk hg' hP fun x vx δ1 F1 H1 h1 e1 rx r1 P1 => js_bind (w := WE X b) hb r1 tk h1 P1 fun y vy δ2 F2 H2 h2 e2 ry r2 P2 => by
    cases e : g x y with
    | none => rw [e] at h2; cases h2
    | some z =>
      rw [e] at h2
      simp only [Option.map_some, bindE, Option.map_eq_some_iff] at h2
      obtain ⟨q, hq, rfl⟩ := h2
      cases asB_some hq
      refine hr r2.fh (rx.mono e2) ry e _ fun v F' H' g3 rv => ?_
      cases rv
      exact ⟨q, rfl, P2 q F' H' (r2.grow g3) g3.ff rfl⟩)⟩
def eif (t : Env → RE Bool) (a b : Env → RE D) : Env → RE D := fun δ => bindE (t δ) fun k δ' => if k = true then a δ' else b δ'
theorem je_if {q : Expr} {t : Env → RE Bool} {f g : Env → RE D} (hq : JTE X own q t) (ha : JE X own a f) (hb : JE X own b g) : JE X own (.IfExp q a b pos) (eif t f g) := ⟨fun {P F0 H0 σ F H δ W Q o} r tk hg hP =>
  we_of (pe_ifExp pt_wt pe_we pe_we) (js_bind (w := WT X q) hq r tk hg hP fun k v δ1 F1 H1 h1 e1 rx r1 P1 => by
    cases rx
    cases k with
    | true => rw [if_pos rfl] at *; exact ha.run r1 tk h1 P1
    | false => rw [if_neg Bool.false_ne_true] at *; exact hb.run r1 tk h1 P1)⟩
/-- a call of a pure def with stateful arguments -/
def ecall (m : List D → Rs D) (a : Env → RE (List D)) : Env → RE D := fun δ => bindE (a δ) fun xs δ' => match m xs with
  | none => none
  | some (.ok d) => some (.ok (d, δ'))
  | some (.error x) => some (.error (x, δ'))
theorem je_call {k : Nat} {x : Str} {p : Pos} {m : List D → Rs D} {f : Env → RE (List D)} (hf : Fn X.prog X.w X.K X.mg X.base k x m) (hr : Room k X.A) (ha : JAE X own (e :: es) f) (hg : Gl X x := by rfl)
    (hdb : (x == ("__debug__" : Str)) = false := by decide) (he : starEach (e :: es) X.env = (false, eval e X.env) :: starEach es X.env := by rfl) (hpl : (backTo pos (starEach es X.env)).any (·.1) = false := by rfl) :
    JE X own (.Call (.Name x p) (e :: es) [] pos) (ecall m f) := ⟨fun {P F0 H0 σ F H δ W Q o} r tk hg' hP => by
  obtain ⟨fa, fd, ps, F, hm, hk, hb⟩ := hf.at_
  refine we_of (pe_callS F hr hg hm hk hb (fun σ => passAt tk σ) pa_wa hdb he hpl) (js_bind (w := WA X (e :: es)) ha r tk hg' hP fun xs vs δ1 F1 H1 h1 e1 rx r1 P1 => ?_)
  cases em : m xs with
  | none => rw [em] at h1; cases h1
  | some y =>
    rw [em] at h1
    cases y with
    | ok d => cases h1; exact ⟨F1, xs, _, r1.fh, rx, em, fun v F' H' g rv => P1 v F' H' (r1.grow g) g.ff rv⟩
    | error z => cases h1; exact ⟨F1, xs, _, r1.fh, rx, em, fun c dd F' H' g rv => P1 c dd F' H' (r1.grow g) g.ff rv⟩⟩
end
end PD
end
section
namespace PD
open PySem L2
/-! ### another base -/
structure Chn (P : Pm) (F0 H0 : Hp) (P' : Pm) (F1 H1 : Hp) : Prop where
  ff : Ex F0 F1
  hh : ∀ a o, ¬ P a → H0 a = some o → H1 a = some o
  dm : ∀ a, H0 a ≠ none → H1 a ≠ none
  nw : ∀ a, F1 a ≠ none → F0 a ≠ none ∨ H0 a = none
  pp : ∀ a, P' a → H0 a = none ∨ P a
  bx : ∀ a, P.bx a → P'.bx a
  rt : ∀ a, P.rt a → P'.rt a
  bh : ∀ a, P.bx a → H0 a ≠ none
section
variable {K : Frag} {own : List Nat} {P P' : Pm} {F0 H0 F1 H1 F : Hp} {σ : L2.St} {H : Hp} {δ : Env}
theorem RS.back (r : RS K own P' F1 H1 F σ H δ) (c : Chn P F0 H0 P' F1 H1) : RS K own P F0 H0 F σ H δ where
  ff := c.ff.trans r.ff
  fh := r.fh
  hh := fun a o p h => r.hh a o (fun q => (c.pp a q).elim (fun e => by rw [e] at h; cases h) p) (c.hh a o p h)
  dm := fun a h => r.dm a (c.dm a h)
  nw := fun a h => (r.nw a h).elim (c.nw a) fun e => .inr (by
    cases e0 : H0 a with
    | none => rfl
    | some o => exact absurd e (c.dm a (by rw [e0]; simp)))
  ln := r.ln
  par := fun a h => r.par a (c.rt a h)
  bxh := c.bh
  val := r.val
  own := by
    obtain ⟨fp, h1, h2, h3⟩ := r.own
    refine ⟨fp, h1, fun i a ha => ?_, h3⟩
    obtain ⟨a1, a2, a3⟩ := h2 i a ha
    refine ⟨a1, a2, a3.elim (fun e => .inl ?_) fun q => (c.pp a q.1).imp id fun z => ⟨z, fun y => q.2 (c.bx a y)⟩⟩
    cases e0 : H0 a with
    | none => rfl
    | some o => exact absurd e (c.dm a (by rw [e0]; simp))
/-- the cell Dd of no one (known to the base) is written; a new base -/
theorem RS.mut {Dd : Addr} {o : HO} (r : RS K own P F0 H0 F σ H δ) (hD : H0 Dd ≠ none) (nP : ¬ P Dd) (nF : F Dd = none) : ∃ P' : Pm, RS K own P' F (upd H Dd o) F σ (upd H Dd o) δ ∧ ¬ P' Dd ∧ (∀ a, P' a → H0 a = none ∨ P a) ∧ P'.bx = P.bx ∧ P'.rt = P.rt := by
  obtain ⟨fp, h1, h2, h3⟩ := r.own
  have bxi : ∀ i a, a ∈ fp i → P.bx a → i = 0 := fun i a ha hb => (h2 i a ha).2.2.elim (fun e => absurd e (r.bxh a hb)) fun q => q.2 hb
  have nD : ∀ i, Dd ∉ fp i := fun i hi => (h2 i Dd hi).2.2.elim (fun e => hD e) fun q => nP q.1
  have ne : ∀ i a, a ∈ fp i → a ≠ Dd := fun i a ha e => nD i (e ▸ ha)
  refine ⟨⟨fun a => ∃ i, a ∈ fp i, P.bx, P.rt⟩, ?_, fun ⟨i, hi⟩ => nD i hi, fun a ⟨i, hi⟩ => (h2 i a hi).2.2.imp id And.left, rfl, rfl⟩
  exact {
    ff := Ex.refl _
    fh := fun a q e => by
      have : a ≠ Dd := fun x => by rw [x, nF] at e; cases e
      rw [upd_ne this]; exact r.fh a q e
    hh := fun _ _ _ h => h
    dm := fun _ h => h
    nw := fun _ h => .inl h
    ln := r.ln
    par := r.par
    bxh := fun a h => by
      by_cases z : a = Dd
      · rw [z, upd_same]; simp
      · rw [upd_ne z]; exact r.dm a (r.bxh a h)
    val := r.val
    own := ⟨fp, fun i d hi hd => by
      obtain ⟨v, hv, o⟩ := h1 i d hi hd
      exact ⟨v, hv, o.keep (Ex.refl _) fun a ha q e => by rw [upd_ne (ne i a ha)]; exact e⟩, fun i a ha => ⟨(h2 i a ha).1, by rw [upd_ne (ne i a ha)]; exact (h2 i a ha).2.1, .inr ⟨⟨i, ha⟩, bxi i a ha⟩⟩, h3⟩ }
theorem RS.chn (r : RS K own P F0 H0 F σ H δ) {Dd : Addr} {o : HO} {P' : Pm} (h0 : H0 Dd = none) (pp : ∀ a, P' a → H0 a = none ∨ P a) (bx : ∀ a, P.bx a → P'.bx a) (rt : ∀ a, P.rt a → P'.rt a) : Chn P F0 H0 P' F (upd H Dd o) where
  ff := r.ff
  hh := fun a q p h => by
    have : a ≠ Dd := fun e => by rw [e, h0] at h; cases h
    rw [upd_ne this]; exact r.hh a q p h
  dm := fun a h => by
    have : a ≠ Dd := fun e => by rw [e] at h; exact h h0
    rw [upd_ne this]; exact r.dm a h
  nw := r.nw
  pp := pp
  bx := bx
  rt := rt
  bh := r.bxh
/-- while a new list grows at Dd -/
structure LS (K : Frag) (own : List Nat) (P : Pm) (F0 H0 : Hp) (Dd : Addr) (ob : HO) (F : Hp) (σ : L2.St) (H : Hp) (δ : Env) : Prop where
  r : ∃ P' F1 H1, RS K own P' F1 H1 F σ H δ ∧ Chn P F0 H0 P' F1 H1 ∧ H1 Dd = some ob ∧ ¬ P' Dd ∧ F1 Dd = none
  h0 : H0 Dd = none
theorem LS.nF {Dd : Addr} {ob : HO} (l : LS K own P F0 H0 Dd ob F σ H δ) : F Dd = none := by
  obtain ⟨P', F1, H1, r, c, e, n, f⟩ := l.r
  cases q : F Dd with
  | none => rfl
  | some u => exact absurd (r.nw Dd (by rw [q]; simp)) (by rintro (h | h); exact h f; rw [e] at h; cases h)
theorem LS.at {Dd : Addr} {ob : HO} (l : LS K own P F0 H0 Dd ob F σ H δ) : H Dd = some ob := by
  obtain ⟨P', F1, H1, r, c, e, n, nf⟩ := l.r
  exact r.hh Dd _ n e
theorem LS.rs {Dd : Addr} {ob : HO} (l : LS K own P F0 H0 Dd ob F σ H δ) : RS K own P F0 H0 F σ H δ := by
  obtain ⟨P', F1, H1, r, c, e, n, nf⟩ := l.r
  exact r.back c
theorem LS.start {Dd : Addr} {ob : HO} (r : RS K own P F0 H0 F σ H δ) (hn : H Dd = none) : LS K own P F0 H0 Dd ob F σ (upd H Dd ob) δ := by
  have h0 : H0 Dd = none := by
    cases e : H0 Dd with
    | none => rfl
    | some o => exact absurd hn (r.dm Dd (by rw [e]; simp))
  obtain ⟨fp, h1, h2, h3⟩ := r.own
  have bxi : ∀ i a, a ∈ fp i → P.bx a → i = 0 := fun i a ha hb => (h2 i a ha).2.2.elim (fun e => absurd e (r.bxh a hb)) fun q => q.2 hb
  have ne : ∀ i a, a ∈ fp i → a ≠ Dd := fun i a ha e => (h2 i a ha).2.1 (e ▸ hn)
  refine ⟨⟨⟨fun a => ∃ i, a ∈ fp i, P.bx, P.rt⟩, F, upd H Dd ob, ?_, r.chn h0 (fun a ⟨i, hi⟩ => (h2 i a hi).2.2.imp id And.left) (fun _ h => h) (fun _ h => h), upd_same, fun ⟨i, hi⟩ => ne i _ hi rfl, none_back r.fh hn⟩, h0⟩
  exact {
    ff := Ex.refl _
    fh := r.fh.trans (Ex.new hn)
    hh := fun _ _ _ h => h
    dm := fun _ h => h
    nw := fun _ h => .inl h
    ln := r.ln
    par := r.par
    bxh := fun a h => by
      by_cases z : a = Dd
      · rw [z, upd_same]; simp
      · rw [upd_ne z]; exact r.dm a (r.bxh a h)
    val := r.val
    own := ⟨fp, fun i d hi hd => by
      obtain ⟨v, hv, o⟩ := h1 i d hi hd
      exact ⟨v, hv, o.keep (Ex.refl _) fun a ha q e => by rw [upd_ne (ne i a ha)]; exact e⟩, fun i a ha => ⟨(h2 i a ha).1, by rw [upd_ne (ne i a ha)]; exact (h2 i a ha).2.1, .inr ⟨⟨i, ha⟩, bxi i a ha⟩⟩, h3⟩ }
theorem Chn.trans {P2 : Pm} {F2 H2 : Hp} (a : Chn P F0 H0 P' F1 H1) (b : Chn P' F1 H1 P2 F2 H2) : Chn P F0 H0 P2 F2 H2 where
  ff := a.ff.trans b.ff
  hh := fun x o p h => b.hh x o (fun q => (a.pp x q).elim (fun e => by rw [e] at h; cases h) p) (a.hh x o p h)
  dm := fun x h => b.dm x (a.dm x h)
  nw := fun x h => (b.nw x h).elim (a.nw x) fun e => .inr (by
    cases e0 : H0 x with
    | none => rfl
    | some o => exact absurd e (a.dm x (by rw [e0]; simp)))
  pp := fun x h => (b.pp x h).elim (fun e => .inl (by
    cases e0 : H0 x with
    | none => rfl
    | some o => exact absurd e (a.dm x (by rw [e0]; simp)))) (a.pp x)
  bx := fun x h => b.bx x (a.bx x h)
  rt := fun x h => b.rt x (a.rt x h)
  bh := a.bh
theorem LS.app {Dd : Addr} {ob ob' : HO} (l : LS K own P F0 H0 Dd ob F σ H δ) : LS K own P F0 H0 Dd ob' F σ (upd H Dd ob') δ := by
  obtain ⟨P', F1, H1, r, c, e, n, nf⟩ := l.r
  obtain ⟨P2, r2, n2, p2, b2, t2⟩ := r.mut (o := ob') (by rw [e]; simp) n l.nF
  refine ⟨⟨P2, F, _, r2, ?_, upd_same, n2, l.nF⟩, l.h0⟩
  refine { ff := c.ff.trans r.ff, hh := fun a q p h => ?_, dm := fun a h => ?_, nw := fun a h => (l.rs).nw a h, pp := fun a h => ?_, bx := fun a h => by rw [b2]; exact c.bx a h, rt := fun a h => by rw [t2]; exact c.rt a h, bh := c.bh }
  · have : a ≠ Dd := fun e => by rw [e, l.h0] at h; cases h
    rw [upd_ne this]; exact (l.rs).hh a q p h
  · have : a ≠ Dd := fun e => by rw [e] at h; exact h l.h0
    rw [upd_ne this]; exact (l.rs).dm a h
  · exact (p2 a h).elim (fun e => .inl (by
      cases e0 : H0 a with
      | none => rfl
      | some o => exact absurd e (c.dm a (by rw [e0]; simp)))) (c.pp a)
end
/-! ### list comprehensions -/
def wipeD (vs : List Nat) (δ : Env) : Env := mask vs δ
theorem RS.wipe {K : Frag} {own vs : List Nat} {P : Pm} {F0 H0 F : Hp} {σ : L2.St} {H : Hp} {δ : Env} (r : RS K own P F0 H0 F σ H δ) (hv : ∀ i, i ∈ vs → i ∉ own) : RS K own P F0 H0 F (L2.wipe σ vs) H (wipeD vs δ) where
  ff := r.ff
  fh := r.fh
  hh := r.hh
  dm := r.dm
  nw := r.nw
  ln := by rw [wipe_length, wipeD, mask_len, r.ln]
  bxh := r.bxh
  par := fun a h => ⟨(r.par a h).1, by rw [wipe_get, if_neg (fun q => hv 0 q (r.par a h).1)]; exact (r.par a h).2⟩
  val := fun i d hi h => by
    obtain ⟨a, b⟩ := mask_get h
    obtain ⟨v, hv, rv⟩ := r.val i d hi b
    exact ⟨v, by rw [wipe_get, if_neg a]; exact hv, rv⟩
  own := by
    obtain ⟨fp, h1, h2⟩ := r.own
    refine ⟨fp, fun i d hi h => ?_, h2⟩
    obtain ⟨a, b⟩ := mask_get h
    obtain ⟨v, hv, o⟩ := h1 i d hi b
    exact ⟨v, by rw [wipe_get, if_neg a]; exact hv, o⟩
theorem RS.unwipe {K : Frag} {own vs : List Nat} {P : Pm} {F0 H0 F : Hp} {σ : L2.St} {H : Hp} {δ : Env} (r : RS K own P F0 H0 F (L2.wipe σ vs) H δ) : RS K own P F0 H0 F σ H δ where
  ff := r.ff
  fh := r.fh
  hh := r.hh
  dm := r.dm
  nw := r.nw
  ln := by rw [← r.ln, wipe_length]
  bxh := r.bxh
  par := fun a h => ⟨(r.par a h).1, (wipe_some (r.par a h).2).1⟩
  val := fun i d hi h => by
    obtain ⟨v, hv, rv⟩ := r.val i d hi h
    exact ⟨v, (wipe_some hv).1, rv⟩
  own := by
    obtain ⟨fp, h1, h2⟩ := r.own
    refine ⟨fp, fun i d hi h => ?_, h2⟩
    obtain ⟨v, hv, o⟩ := h1 i d hi h
    exact ⟨v, (wipe_some hv).1, o⟩
theorem takes_false {X : Cx} {W : WX} (h : ∀ c d σ H, ¬ W c d σ H) : Takes X W := fun u s' ⟨_, _, _, _, _, _, _, _, _, _, _, _, _, _, _, _, w⟩ => absurd w (h _ _ _ _)
def scomp (vs : List Nat) (g : D → Env → Option Env) (t : Env → RE Bool) (e : Env → RE D) : List D → List D → Env → RE (List D)
  | [], acc, δ => some (.ok (acc, δ))
  | d :: ds, acc, δ => match g d δ with
    | none => none
    | some δ1 => match t δ1 with
      | some (.ok (true, δ2)) => (match e δ2 with
        | some (.ok (y, δ3)) => if acc.length < sizeLine then scomp vs g t e ds (acc ++ [y]) (wipeD vs δ3) else none
        | _ => none)
      | some (.ok (false, δ2)) => scomp vs g t e ds acc (wipeD vs δ2)
      | _ => none
def tyes : Env → RE Bool := fun δ => some (.ok (true, δ))
section
variable {X : Cx} {own : List Nat} {elt tg iter : Expr} {ifs : List Expr} {scope : Scope} {ow : List (Str × Nat)} {pos : Pos} {f : Env → RE (List D)} {g : D → Env → Option Env} {is : List Nat} {t : Env → RE Bool} {e : Env → RE D}
/-- the tests of a clause -/
def WTs (X : Cx) (ifs : List Expr) (σ : L2.St) (H : Hp) (Q : Bool → Hp → Prop) : Prop := ∀ pins s, Inv X pins σ H s → wpAny (model X.prog X.w) X.A (forIn ifs true fun c r => if r = true then do let ok ← isTrue c X.env (eval c X.env); pure (ForInStep.yield ok) else pure (ForInStep.yield r)) (TP X pins σ Q) X.xe s
theorem pts_wts {X : Cx} {ifs : List Expr} : PTs X ifs (WTs X ifs) := ⟨fun pins s _ _ _ I h => h pins s I⟩
theorem wts_of {X : Cx} {ifs : List Expr} {t : TT} {σ : L2.St} {H : Hp} {Q : Bool → Hp → Prop} (h : PTs X ifs t) (q : t σ H Q) : WTs X ifs σ H Q := fun pins s I => h.run pins s σ H Q I q
abbrev JTs (X : Cx) (own : List Nat) (ifs : List Expr) (g : Env → RE Bool) : Prop := JS0 X own (WTs X ifs) relT g
theorem jts_nil {X : Cx} {own : List Nat} : JTs X own [] tyes := ⟨fun r tk hg hP => wts_of pts_nil (hP.fin hg _ _ _ r (Ex.refl _) rfl)⟩
theorem jts_one {X : Cx} {own : List Nat} {q : Expr} {t : Env → RE Bool} (h : JTE X own q t) : JTs X own [q] t := ⟨fun r tk hg hP => wts_of (pts_one pt_wt) (h.run r tk hg hP)⟩
/-- the block's readings, whatever the block's start is -/
abbrev bG (X : Cx) (scope : Scope) (tg : Expr) : TG := fun v σ H Q => ∀ (s : Shared) (Hb : Hp) (C : Addr) (cl : List (Str × Addr)) (fp : List Addr), WG (X.blk s Hb scope (compEnvC scope cl C X.env) fp) tg v σ H Q
abbrev bT (X : Cx) (scope : Scope) (ifs : List Expr) : TT := fun σ H Q => ∀ (s : Shared) (Hb : Hp) (C : Addr) (cl : List (Str × Addr)) (fp : List Addr), WTs (X.blk s Hb scope (compEnvC scope cl C X.env) fp) ifs σ H Q
abbrev bE (X : Cx) (scope : Scope) (e : Expr) : TE := fun σ H Q => ∀ (s : Shared) (Hb : Hp) (C : Addr) (cl : List (Str × Addr)) (fp : List Addr), WE (X.blk s Hb scope (compEnvC scope cl C X.env) fp) e σ H Q
theorem lc_read {σ : L2.St} {P : Pm} {F0 H0 F H : Hp} {δ : Env} {W : WX} {o : Except (XD × Env) (List D × Env)} {Q : VK} (hi : JI X own tg iter f)
    (hg : ∀ (s : Shared) (Hb : Hp) (C : Addr) (cl : List (Str × Addr)) (fp : List Addr), JG (X.blk s Hb scope (compEnvC scope cl C X.env) fp) own tg is g)
    (ht : ∀ (s : Shared) (Hb : Hp) (C : Addr) (cl : List (Str × Addr)) (fp : List Addr), JTs (X.blk s Hb scope (compEnvC scope cl C X.env) fp) own ifs t)
    (he : ∀ (s : Shared) (Hb : Hp) (C : Addr) (cl : List (Str × Addr)) (fp : List Addr), JE (X.blk s Hb scope (compEnvC scope cl C X.env) fp) own elt e)
    (hvs : (ow.map (·.2)).all (fun i => !own.contains i) = true) (his : is.all (fun i => (ow.map (·.2)).contains i) = true)
    (r : RSf X ⟨own, P, F0, H0⟩ F σ H δ) (tk : Takes X W) (hh : bindE (f δ) (fun ds δ' => scomp (ow.map (·.2)) g t e ds [] (wipeD (ow.map (·.2)) δ')) = some o)
    (hx : ∀ x δ', o = .error (x, δ') → ∀ cls dd F' H', RSf X ⟨own, P, F0, H0⟩ F' σ H' δ' → Ex F F' → RepX X.K F' cls dd x → W cls dd σ H')
    (hP : ∀ ds δ', o = .ok (ds, δ') → ∀ Dd vs F' H', LS X.K own P F0 H0 Dd (.lst vs) F' σ H' δ' → Ex F F' → Reps X.K F' vs ds → Q (.ref Dd) H') :
    tLc (WI X tg iter) (bG X scope tg) (bT X scope ifs) (bE X scope elt) (ow.map (·.2)) σ H Q := by
  have hv : ∀ i, i ∈ ow.map (·.2) → i ∉ own := fun i hi hc => by
    have := List.all_eq_true.1 hvs i hi
    simp at this
    exact this hc
  have hi' : ∀ i, i ∈ is → i ∈ ow.map (·.2) := fun i h => by
    have := List.all_eq_true.1 his i h
    simpa using this
  cases e0 : f δ with
  | none => rw [e0] at hh; cases hh
  | some y =>
    rw [e0] at hh
    rcases y with ⟨x, δ1⟩ | ⟨ds, δ1⟩
    · cases hh; exact hi.run r tk e0 (hx x δ1 rfl)
    · simp only [bindE] at hh
      refine hi.run r tk e0 fun J F1 H1 r1 e1 src => fun Dd hD => ?_
      refine ⟨fun i m Hc => ∃ F' δ' acc vs, LS X.K own P F0 H0 Dd (.lst vs) F' (wipe σ (ow.map (·.2))) Hc δ' ∧ Ex F1 F' ∧ Reps X.K F' vs acc ∧ i + m = ds.length ∧ scomp (ow.map (·.2)) g t e (ds.drop i) acc δ' = some o, ⟨ds.length, F1, _, [], [], .start (r1.wipe hv) hD, Ex.refl _, .nil, Nat.zero_add _, hh⟩, ?_⟩
      rintro i m H2 ⟨F2, δ2, acc, vs, l2, e2, ra, hm, h2⟩
      cases hd : ds[i]? with
      | none =>
        have hl : ds.length ≤ i := List.getElem?_eq_none_iff.1 hd
        rw [List.drop_of_length_le hl] at h2
        cases h2
        obtain ⟨⟨P', Fb, Hb, rr, cc, ee, nn, nf⟩, nh⟩ := l2
        exact .inl ⟨src.stop e2 rr.fh hl, hP acc δ2 rfl Dd vs F2 H2 ⟨⟨P', Fb, Hb, rr.unwipe, cc, ee, nn, nf⟩, nh⟩ (e1.trans e2) ra⟩
      | some d =>
        have hl : i < ds.length := (List.getElem?_eq_some_iff.1 hd).1
        have hd' : ds[i] = d := (List.getElem?_eq_some_iff.1 hd).2
        rw [List.drop_eq_getElem_cons hl, hd'] at h2
        obtain ⟨⟨P', Fb, Hb, rr, cc, ee, nn, nf⟩, nh⟩ := l2
        obtain ⟨g1, g2⟩ := src.go e2 rr.fh hd
        refine .inr ⟨g1, fun Hc => ∃ F' δ' acc vs, LS X.K own P F0 H0 Dd (.lst vs) F' (wipe σ (ow.map (·.2))) Hc δ' ∧ Ex F1 F' ∧ Reps X.K F' vs acc ∧ (i + 1) + (m - 1) = ds.length ∧ scomp (ow.map (·.2)) g t e (ds.drop (i + 1)) acc δ' = some o, fun H' h => ⟨m - 1, by omega, h⟩, fun x H' hy => ?_⟩
        obtain ⟨F3, g3, rx⟩ := g2 x H' hy
        simp only [scomp] at h2
        cases e4 : g d δ2 with
        | none => rw [e4] at h2; cases h2
        | some δ4 =>
          rw [e4] at h2
          simp only [] at h2
          intro s0 Hb0 C0 cl0 fp0
          have ww : wipe (wipe σ (ow.map (·.2))) (ow.map (·.2)) = wipe σ (ow.map (·.2)) := by
            apply List.ext_getElem?
            intro j
            rw [wipe_get, wipe_get]
            by_cases hj : j ∈ ow.map (·.2)
            · rw [if_pos hj, if_pos hj]; cases σ[j]? <;> rfl
            · rw [if_neg hj, if_neg hj]
          refine (hg s0 Hb0 C0 cl0 fp0).run (P := P') (F0 := Fb) (H0 := Hb) (rr.grow g3) rx e4 fun σ4 F4 H4 r4 x4 w4 => ⟨(w4 _ hi').trans ww, fun s1 Hb1 C1 cl1 fp1 => ?_⟩
          have hw := (w4 _ hi').trans ww
          cases e5 : t δ4 with
          | none => rw [e5] at h2; cases h2
          | some z =>
            rw [e5] at h2
            rcases z with ⟨x5, δ5⟩ | ⟨b5, δ5⟩
            · cases h2
            · refine (ht s1 Hb1 C1 cl1 fp1).run (W := fun _ _ _ _ => False) (P := P') (F0 := Fb) (H0 := Hb) r4 (takes_false fun _ _ _ _ h => h) e5 fun v5 F5 H5 r5 x5 rb => ?_
              cases rb
              have ex5 : Ex F2 F5 := (g3.ff.trans x4).trans x5
              cases b5 with
              | false =>
                rw [if_neg Bool.false_ne_true]
                dsimp only at h2
                refine ⟨F5, _, acc, vs, ⟨⟨P', Fb, Hb, ?_, cc, ee, nn, nf⟩, nh⟩, e2.trans ex5, ra.mono ex5, by omega, h2⟩
                have := r5.wipe hv
                rw [hw] at this
                exact this
              | true =>
                rw [if_pos rfl]
                dsimp only at h2
                intro s2 Hb2 C2 cl2 fp2
                cases e6 : e δ5 with
                | none => rw [e6] at h2; cases h2
                | some z =>
                  rw [e6] at h2
                  rcases z with ⟨x6, δ6⟩ | ⟨y6, δ6⟩
                  · cases h2
                  · dsimp only at h2
                    refine (he s2 Hb2 C2 cl2 fp2).run (W := fun _ _ _ _ => False) (P := P') (F0 := Fb) (H0 := Hb) r5 (takes_false fun _ _ _ _ h => h) e6 fun v6 F6 H6 r6 x6 ry => ?_
                    split at h2
                    · rename_i hsz
                      have ex6 : Ex F2 F6 := ex5.trans x6
                      have r7 := r6.wipe hv
                      rw [hw] at r7
                      have l7 : LS X.K own P F0 H0 Dd (.lst vs) F6 (wipe σ (ow.map (·.2))) H6 (wipeD (ow.map (·.2)) δ6) := ⟨⟨P', Fb, Hb, r7, cc, ee, nn, nf⟩, nh⟩
                      refine ⟨vs, l7.at, by rw [Rep.len ra]; exact hsz, F6, _, acc ++ [y6], vs ++ [v6], l7.app, e2.trans ex6, (ra.mono ex6).app (.cons ry .nil), by omega, h2⟩
                    · cases h2
variable {P : Program}
/-- a list comprehension: what is made, frozen -/
def ecomp (vs : List Nat) (f : Env → RE (List D)) (g : D → Env → Option Env) (t : Env → RE Bool) (e : Env → RE D) : Env → RE D := fun δ => bindE (f δ) fun ds δ' => bindE (scomp vs g t e ds [] (wipeD vs δ')) fun ys δ2 => some (.ok (.lst ys, δ2))
theorem LS.frz {K : Frag} {own : List Nat} {P : Pm} {F0 H0 F : Hp} {σ : L2.St} {H : Hp} {δ : Env} {Dd : Addr} {ob : HO} (l : LS K own P F0 H0 Dd ob F σ H δ) : RS K own P F0 H0 (upd F Dd ob) σ H δ := by
  obtain ⟨P', F1, H1, r, c, e, n, nf⟩ := l.r
  have hD := l.at
  have nF := l.nF
  obtain ⟨fp, h1, h2, h3⟩ := r.own
  have nD : ∀ i, Dd ∉ fp i := fun i hi => (h2 i Dd hi).2.2.elim (fun q => by rw [e] at q; cases q) fun q => n q.1
  have R := r.back c
  exact {
    ff := R.ff.trans (Ex.new nF)
    fh := fun a o h => by
      by_cases q : a = Dd
      · subst q; rw [upd_same] at h; cases h; exact hD
      · rw [upd_ne q] at h; exact r.fh a o h
    hh := R.hh
    dm := R.dm
    nw := fun a h => (upd_ne_none h).elim (R.nw a) fun q => .inr (by rw [q]; exact l.h0)
    ln := R.ln
    par := R.par
    bxh := R.bxh
    val := fun i d hi h => let ⟨v, a, b⟩ := R.val i d hi h; ⟨v, a, b.mono (Ex.new nF)⟩
    own := ⟨fp, fun i d hi hd => by
      obtain ⟨v, hv, o⟩ := h1 i d hi hd
      exact ⟨v, hv, o.keep (Ex.new nF) fun a _ q h => h⟩, fun i a ha => ⟨by rw [upd_ne (fun q : a = Dd => nD i (by rw [← q]; exact ha))]; exact (h2 i a ha).1, (h2 i a ha).2.1, (h2 i a ha).2.2.elim (fun q => .inl (by
        cases e0 : H0 a with
        | none => rfl
        | some o => exact absurd q (c.dm a (by rw [e0]; simp)))) fun q => (c.pp a q.1).imp id fun z => ⟨z, fun y => q.2 (c.bx a y)⟩⟩, h3⟩ }
theorem bindE_assoc {α β γ : Type} (x : RE α) (f : α → Env → RE β) (g : β → Env → RE γ) : bindE (bindE x f) g = bindE x fun a δ => bindE (f a δ) g := by
  cases x with
  | none => rfl
  | some y => cases y <;> rfl
theorem je_lc (hc : X.calm = true) (hN : X.N.Nodup) (hi : JI X own tg iter f) (ok : BlkOk X.N X.env.scope scope ow)
    (hg : ∀ (s : Shared) (Hb : Hp) (C : Addr) (cl : List (Str × Addr)) (fp : List Addr), JG (X.blk s Hb scope (compEnvC scope cl C X.env) fp) own tg is g)
    (ht : ∀ (s : Shared) (Hb : Hp) (C : Addr) (cl : List (Str × Addr)) (fp : List Addr), JTs (X.blk s Hb scope (compEnvC scope cl C X.env) fp) own ifs t)
    (he : ∀ (s : Shared) (Hb : Hp) (C : Addr) (cl : List (Str × Addr)) (fp : List Addr), JE (X.blk s Hb scope (compEnvC scope cl C X.env) fp) own elt e)
    (hvs : (ow.map (·.2)).all (fun i => !own.contains i) = true := by decide) (his : is.all (fun i => (ow.map (·.2)).contains i) = true := by decide) (hs : ∀ x, foldedSetIterable iter X.env x = pure x := by intro _; rfl) :
    JE X own (.ListComp elt [⟨tg, iter, ifs, 0⟩] scope pos) (ecomp (ow.map (·.2)) f g t e) := ⟨fun {P F0 H0 σ F H δ W Q o} r tk hh hP => by
  refine we_of (pe_lc (g := bG X scope tg) (tt := bT X scope ifs) (te := bE X scope elt) hc hN pi_wi ok (fun s Hb C cl fp => ⟨fun pins s' σ' H' v u Q' I rv h => (h s Hb C cl fp) pins s' u I rv⟩) (fun s Hb C cl fp => ⟨fun pins s' σ' H' Q' I h => (h s Hb C cl fp) pins s' I⟩) (fun s Hb C cl fp => ⟨fun pins s' σ' H' Q' I h => (h s Hb C cl fp) pins s' I⟩) hs) ?_
  unfold ecomp at hh
  rw [← bindE_assoc] at hh
  cases e0 : bindE (f δ) (fun ds δ' => scomp (ow.map (·.2)) g t e ds [] (wipeD (ow.map (·.2)) δ')) with
  | none => rw [e0] at hh; cases hh
  | some o1 =>
    rw [e0] at hh
    refine lc_read (ow := ow) hi hg ht he hvs his r tk e0 (fun x δ' q => ?_) (fun ds δ' q Dd vs F' H' l x rv => ?_)
    · subst q; cases hh; exact hP
    · subst q; cases hh
      exact hP _ _ _ l.frz (x.trans (Ex.new l.nF)) (.lst upd_same (rv.mono (Ex.new l.nF)))⟩
/-- name = [..] -/
theorem js_setLc (i : Nat) {y : Str} {py spos : Pos} (hc : X.calm = true) (hN : X.N.Nodup) (hi : JI X own tg iter f) (ok : BlkOk X.N X.env.scope scope ow)
    (hg : ∀ (s : Shared) (Hb : Hp) (C : Addr) (cl : List (Str × Addr)) (fp : List Addr), JG (X.blk s Hb scope (compEnvC scope cl C X.env) fp) own tg is g)
    (ht : ∀ (s : Shared) (Hb : Hp) (C : Addr) (cl : List (Str × Addr)) (fp : List Addr), JTs (X.blk s Hb scope (compEnvC scope cl C X.env) fp) own ifs t)
    (he : ∀ (s : Shared) (Hb : Hp) (C : Addr) (cl : List (Str × Addr)) (fp : List Addr), JE (X.blk s Hb scope (compEnvC scope cl C X.env) fp) own elt e)
    (hy : X.N[i]? = some y := by rfl) (hyl : X.env.scope.names.lookup y = some .local := by rfl) (ho : i ∉ own := by decide)
    (hsw : swapsWith (.ListComp elt [⟨tg, iter, ifs, 0⟩] scope pos) (some (.Name y py)) spos.line X.env = pure true := by exact sw_true rfl rfl rfl (by decide +kernel))
    (hvs : (ow.map (·.2)).all (fun i => !own.contains i) = true := by decide) (his : is.all (fun i => (ow.map (·.2)).contains i) = true := by decide) (hs : ∀ x, foldedSetIterable iter X.env x = pure x := by intro _; rfl) :
    JS X own (.Assign [.Name y py] (.ListComp elt [⟨tg, iter, ifs, 0⟩] scope pos) spos) (sset i (ecomp (ow.map (·.2)) f g t e)) := ⟨fun {P F0 H0 σ F H δ W o D} _ r tk hh hP => by
  refine ws_of (ps_setLc (g := bG X scope tg) (tt := bT X scope ifs) (te := bE X scope elt) hc hN hy hyl hsw pi_wi ok (fun s Hb C cl fp => ⟨fun pins s' σ' H' v u Q' I rv h => (h s Hb C cl fp) pins s' u I rv⟩) (fun s Hb C cl fp => ⟨fun pins s' σ' H' Q' I h => (h s Hb C cl fp) pins s' I⟩) (fun s Hb C cl fp => ⟨fun pins s' σ' H' Q' I h => (h s Hb C cl fp) pins s' I⟩) hs) ?_
  unfold sset ecomp at hh
  rw [← bindE_assoc, bindE_assoc] at hh
  cases e0 : bindE (f δ) (fun ds δ' => scomp (ow.map (·.2)) g t e ds [] (wipeD (ow.map (·.2)) δ')) with
  | none => rw [e0] at hh; cases hh
  | some o1 =>
    rw [e0] at hh
    refine lc_read (ow := ow) hi hg ht he hvs his r tk e0 (fun x δ' q => ?_) (fun ds δ' q Dd vs F' H' l x rv => ?_)
    · subst q; cases hh; exact fun cls dd F' H' r1 e1 rx => hP cls dd σ F' H' r1 e1 rx
    · subst q; cases hh
      exact hP _ _ _ (l.frz.set ho (.lst upd_same (rv.mono (Ex.new l.nF)))) (x.trans (Ex.new l.nF))⟩
end
end PD
end
section
namespace PD
open PySem L2
/-- a module's constant -/
def Kc (K : Frag) (mg : Str → Option Value) (x : Str) (d : D) : Prop := ∃ u v, mg x = some u ∧ RelV v u ∧ ∀ F, Rep K F v d
theorem jp_k {X : Cx} {x : Str} {pos : Pos} {d : D} (h : Kc X.K X.mg x d) (hg : Gl X x := by rfl) (hd : (x == ("__debug__" : Str)) = false := by decide) : JP X (.Name x pos) (c d) := ⟨fun rp tk hg' hP => by
  obtain ⟨u, w, hm, rv, rep⟩ := h
  exact we_of (pe_glob hg hm rv hd) (hP.fin hg' _ _ _ (.refl rp.ex) (rep _))⟩
section
variable {P : Program} {w : World} {K : Frag} {mg : Str → Option Value} {base : Heap}
theorem fn_none {x qual : Str} {params : Arguments} {body : List Stmt} {scope : Scope} {f : Addr} {fd : FuncData} {dvs : List V} {kws : List (Str × V)} {N ps : List Str} {k : Nat} (F : FunD K x qual params body scope dvs kws f fd) (S : FnScope N ps scope) :
    FnOk P w K mg base (L2.CX P w) (k + 1) f fd ps (spP K fun _ => none) := by
  refine FunD.ok F S (fun vs H Q E h => ?_) (fun cdv A outer s H vs Q E hr h => ?_)
  · obtain ⟨_, _, _, _, _, h, _⟩ := h; cases h
  · obtain ⟨_, _, _, _, _, h, _⟩ := h; cases h
end
end PD
end
section
namespace PD
open PySem L2
section
variable {K : Frag} {own : List Nat} {P : Pm} {F0 H0 F : Hp} {σ : L2.St} {H : Hp} {δ : Env}
/-- a container's contents -/
inductive OwnO (K : Frag) (F : Hp) : HO → D → Prop
  | lst {vs : List V} {ds : List D} (r : Reps K F vs ds) : OwnO K F (.lst vs) (.lst ds)
  | dic {vs : List (Key × V)} {ds : List (Key × D)} (r : RepK K F vs ds) : OwnO K F (.dK vs) (.dic ds)
theorem OwnO.at {ob : HO} {d : D} {p : Addr} (o : OwnO K F ob d) (h : H p = some ob) : OwnV K F H (.ref p) d [p] := by
  cases o with
  | lst r => exact .lst h r
  | dic r => exact .dic h r
theorem OwnO.rep {ob : HO} {d : D} {p : Addr} (o : OwnO K F ob d) (h : F p = none) : Rep K (upd F p ob) (.ref p) d := by
  cases o with
  | lst r => exact .lst upd_same (r.mono (Ex.new h))
  | dic r => exact .dic upd_same (r.mono (Ex.new h))
theorem OwnO.mono {ob : HO} {d : D} {F' : Hp} (e : Ex F F') (o : OwnO K F ob d) : OwnO K F' ob d := by
  cases o with
  | lst r => exact .lst (r.mono e)
  | dic r => exact .dic (r.mono e)
/-- a new list becomes a slot's own -/
theorem LS.keepOwn {Dd : Addr} {ob : HO} {dd : D} {i : Nat} (l : LS K own P F0 H0 Dd ob F σ H δ) (rv : OwnO K F ob dd) (hi : i ∈ own) (hz : i ≠ 0) : RS K own P F0 H0 F (σ.set i (some (.ref Dd))) H (δ.set i (some dd)) := by
  obtain ⟨P', F1, H1, r, c, e, n, nf⟩ := l.r
  have hD := l.at
  have nF := l.nF
  obtain ⟨fp, h1, h2, h3⟩ := r.own
  have nD : ∀ i, Dd ∉ fp i := fun i hi => (h2 i Dd hi).2.2.elim (fun q => by rw [e] at q; cases q) fun q => n q.1
  have R := r.back c
  exact {
    ff := R.ff
    fh := R.fh
    hh := R.hh
    dm := R.dm
    nw := R.nw
    ln := by rw [List.length_set, List.length_set, R.ln]
    par := fun a h => ⟨(R.par a h).1, by rw [List.getElem?_set_ne hz]; exact (R.par a h).2⟩
    bxh := R.bxh
    val := fun j d hj h => by
      have hne : i ≠ j := fun q => hj (by rw [← q]; exact hi)
      rw [List.getElem?_set_ne hne] at h ⊢
      exact R.val j d hj h
    own := by
      refine ⟨fun j => if j = i then [Dd] else fp j, fun j d hj h => ?_, fun j a ha => ?_, fun j k a hjk ha hk => ?_⟩
      · by_cases q : i = j
        · subst q
          by_cases hl : i < δ.length
          · rw [List.getElem?_set_self hl] at h; cases h
            exact ⟨_, List.getElem?_set_self (by rw [R.ln]; exact hl), by dsimp only; rw [if_pos rfl]; exact rv.at hD⟩
          · rw [List.getElem?_eq_none (by rw [List.length_set]; omega)] at h; cases h
        · rw [List.getElem?_set_ne q] at h ⊢
          dsimp only
          rw [if_neg (fun x => q x.symm)]
          exact h1 j d hj h
      · dsimp only at ha
        by_cases q : j = i
        · rw [if_pos q] at ha; cases List.mem_singleton.1 ha
          exact ⟨nF, by rw [hD]; simp, .inl l.h0⟩
        · rw [if_neg q] at ha
          exact ⟨(h2 j a ha).1, (h2 j a ha).2.1, (h2 j a ha).2.2.elim (fun q => .inl (by
            cases e0 : H0 a with
            | none => rfl
            | some o => exact absurd q (c.dm a (by rw [e0]; simp)))) fun q => (c.pp a q.1).imp id fun z => ⟨z, fun y => q.2 (c.bx a y)⟩⟩
      · dsimp only at ha
        by_cases q : j = i
        · rw [if_pos q] at ha; cases List.mem_singleton.1 ha
          dsimp only at hk
          rw [if_neg (fun x => hjk (q.trans x.symm))] at hk
          exact nD k hk
        · rw [if_neg q] at ha
          dsimp only at hk
          by_cases q2 : k = i
          · rw [if_pos q2] at hk; cases List.mem_singleton.1 hk
            exact nD j ha
          · rw [if_neg q2] at hk
            exact h3 j k a hjk ha hk }
/-- what a slot owns -/
theorem RS.lst {i : Nat} {ds : List D} (r : RS K own P F0 H0 F σ H δ) (hi : i ∈ own) (h : δ[i]? = some (some (.lst ds))) : ∃ p vs, σ[i]? = some (some (.ref p)) ∧ H p = some (.lst vs) ∧ Reps K F vs ds ∧ F p = none := by
  obtain ⟨fp, h1, h2, h3⟩ := r.own
  obtain ⟨v, hv, o⟩ := h1 i _ hi h
  cases hfp : fp i with
  | nil => rw [hfp] at o; cases o
  | cons a as =>
    have h2' := h2 i a (by rw [hfp]; exact List.mem_cons_self)
    rw [hfp] at o
    cases o with
    | lst hp rv => exact ⟨_, _, hv, hp, rv, h2'.1⟩
/-- .. changed -/
theorem RS.put {i : Nat} {ds ds' : List D} {p : Addr} {vs' : List V} (r : RS K own P F0 H0 F σ H δ) (hi : i ∈ own) (h : δ[i]? = some (some (.lst ds))) (hp : σ[i]? = some (some (.ref p))) (rv : Reps K F vs' ds') : RS K own P F0 H0 F σ (upd H p (.lst vs')) (δ.set i (some (.lst ds'))) := by
  obtain ⟨fp, h1, h2, h3⟩ := r.own
  obtain ⟨v, hv, o⟩ := h1 i _ hi h
  rw [hp] at hv; cases hv
  have hfp : fp i = [p] := by
    cases hfp : fp i with
    | nil => rw [hfp] at o; cases o
    | cons a as => rw [hfp] at o; cases o with | lst _ _ => rfl
  have hpi : p ∈ fp i := by rw [hfp]; exact List.mem_singleton.2 rfl
  obtain ⟨a1, a2, a3⟩ := h2 i p hpi
  have hl : i < δ.length := (List.getElem?_eq_some_iff.1 h).1
  exact {
    ff := r.ff
    fh := fun a q e => by
      have : a ≠ p := fun x => by rw [x, a1] at e; cases e
      rw [upd_ne this]; exact r.fh a q e
    hh := fun a q n e => by
      have : a ≠ p := fun x => by
        subst x
        exact a3.elim (fun z => by rw [z] at e; cases e) fun z => n z.1
      rw [upd_ne this]; exact r.hh a q n e
    dm := fun a e => by
      by_cases x : a = p
      · subst x; rw [upd_same]; simp
      · rw [upd_ne x]; exact r.dm a e
    nw := r.nw
    ln := by rw [List.length_set, r.ln]
    par := r.par
    bxh := r.bxh
    val := fun j d hj e => by
      have hne : i ≠ j := fun q => hj (by rw [← q]; exact hi)
      rw [List.getElem?_set_ne hne] at e
      exact r.val j d hj e
    own := by
      refine ⟨fp, fun j d hj e => ?_, fun j a ha => ?_, h3⟩
      · by_cases q : i = j
        · subst q
          rw [List.getElem?_set_self hl] at e; cases e
          exact ⟨_, hp, by rw [hfp]; exact .lst upd_same rv⟩
        · rw [List.getElem?_set_ne q] at e
          obtain ⟨w, hw, ow⟩ := h1 j d hj e
          exact ⟨w, hw, ow.keep (Ex.refl _) fun a ha o e => by rw [upd_ne (fun x : a = p => h3 i j p q hpi (x ▸ ha))]; exact e⟩
      · obtain ⟨b1, b2, b3⟩ := h2 j a ha
        refine ⟨b1, ?_, b3⟩
        by_cases x : a = p
        · subst x; rw [upd_same]; simp
        · rw [upd_ne x]; exact b2 }
/-- .. given away -/
theorem RS.mv {i : Nat} {ds : List D} {p : Addr} {vs : List V} (r : RS K own P F0 H0 F σ H δ) (hi : i ∈ own) (h : δ[i]? = some (some (.lst ds))) (hp : σ[i]? = some (some (.ref p))) (hH : H p = some (.lst vs)) (hpar : H0 p = none) : RS K own P F0 H0 (upd F p (.lst vs)) σ H (δ.set i none) := by
  obtain ⟨fp, h1, h2, h3⟩ := r.own
  obtain ⟨v, hv, o⟩ := h1 i _ hi h
  rw [hp] at hv; cases hv
  have hfp : fp i = [p] := by
    cases hfp : fp i with
    | nil => rw [hfp] at o; cases o
    | cons a as => rw [hfp] at o; cases o with | lst _ _ => rfl
  have hpi : p ∈ fp i := by rw [hfp]; exact List.mem_singleton.2 rfl
  obtain ⟨a1, a2, a3⟩ := h2 i p hpi
  have hl : i < δ.length := (List.getElem?_eq_some_iff.1 h).1
  exact {
    ff := r.ff.trans (Ex.new a1)
    fh := fun a q e => by
      by_cases x : a = p
      · subst x; rw [upd_same] at e; cases e; exact hH
      · rw [upd_ne x] at e; exact r.fh a q e
    hh := r.hh
    dm := r.dm
    nw := fun a e => (upd_ne_none e).elim (r.nw a) fun x => .inr (by rw [x]; exact hpar)
    ln := by rw [List.length_set, r.ln]
    par := r.par
    bxh := r.bxh
    val := fun j d hj e => by
      have hne : i ≠ j := fun q => hj (by rw [← q]; exact hi)
      rw [List.getElem?_set_ne hne] at e
      obtain ⟨w, hw, rw'⟩ := r.val j d hj e
      exact ⟨w, hw, rw'.mono (Ex.new a1)⟩
    own := by
      refine ⟨fun j => if j = i then [] else fp j, fun j d hj e => ?_, fun j a ha => ?_, fun j k a hjk ha hk => ?_⟩
      · by_cases q : i = j
        · subst q
          rw [List.getElem?_set_self hl] at e; cases e
        · rw [List.getElem?_set_ne q] at e
          dsimp only
          rw [if_neg (fun x => q x.symm)]
          obtain ⟨w, hw, ow⟩ := h1 j d hj e
          exact ⟨w, hw, ow.keep (Ex.new a1) fun a ha o e => e⟩
      · dsimp only at ha
        by_cases q : j = i
        · rw [if_pos q] at ha; cases ha
        · rw [if_neg q] at ha
          obtain ⟨b1, b2, b3⟩ := h2 j a ha
          exact ⟨by rw [upd_ne (fun x : a = p => h3 i j p (fun z => q z.symm) hpi (x ▸ ha))]; exact b1, b2, b3⟩
      · dsimp only at ha
        by_cases q : j = i
        · rw [if_pos q] at ha; cases ha
        · rw [if_neg q] at ha
          dsimp only at hk
          by_cases q2 : k = i
          · rw [if_pos q2] at hk; cases hk
          · rw [if_neg q2] at hk
            exact h3 j k a hjk ha hk }
end
/-! ### new lists -/
def PostN (X : Cx) (f : Fr) (F : Hp) (σ : L2.St) (W : WX) (o : Except (XD × Env) (D × Env)) (Q : VK) : Prop := match o with
  | .ok (d, δ') => ∀ Dd ob F' H', LS X.K f.own f.P f.F0 f.H0 Dd ob F' σ H' δ' → Ex F F' → OwnO X.K F' ob d → Q (.ref Dd) H'
  | .error (x, δ') => ∀ cls dd F' H', RSf X f F' σ H' δ' → Ex F F' → RepX X.K F' cls dd x → W cls dd σ H'
theorem PostN.later {X : Cx} {f : Fr} {F F1 : Hp} {σ : L2.St} {W : WX} {o : Except (XD × Env) (D × Env)} {Q : VK} (e : Ex F F1) (p : PostN X f F σ W o Q) : PostN X f F1 σ W o Q := by
  rcases o with x | ⟨d, δ'⟩
  · exact fun c d F' H' r g' rv => p c d F' H' r (e.trans g') rv
  · exact fun Dd ob F' H' r g' rv => p Dd ob F' H' r (e.trans g') rv
structure JN (X : Cx) (own : List Nat) (e : Expr) (g : Env → RE D) : Prop where
  run : ∀ {P F0 H0 σ F H δ W Q o}, RSf X ⟨own, P, F0, H0⟩ F σ H δ → Takes X W → g δ = some o → PostN X ⟨own, P, F0, H0⟩ F σ W o Q → WE X e σ H Q
section
variable {X : Cx} {own : List Nat} {e a b : Expr} {es : List Expr} {pos : Pos}
/-- an expression in a new thing -/
theorem sn_bind {α β : Type} {w : L2.St → Hp → (β → Hp → Prop) → Prop} {rel : Hp → β → α → Prop} {g : Env → RE α} {k : α → Env → RE D} {σ : L2.St} {P : Pm} {F0 H0 F H : Hp} {δ : Env} {W : WX} {o : Except (XD × Env) (D × Env)} {Q : VK} {Q1 : β → Hp → Prop}
    (ha : JS0 X own w rel g) (r : RSf X ⟨own, P, F0, H0⟩ F σ H δ) (tk : Takes X W) (hg : bindE (g δ) k = some o) (hP : PostN X ⟨own, P, F0, H0⟩ F σ W o Q)
    (hk : ∀ x v δ1 F1 H1, k x δ1 = some o → Ex F F1 → rel F1 v x → RSf X ⟨own, P, F0, H0⟩ F1 σ H1 δ1 → PostN X ⟨own, P, F0, H0⟩ F1 σ W o Q → Q1 v H1) : w σ H Q1 := by
  cases e : g δ with
  | none => rw [e] at hg; cases hg
  | some y => cases y with
    | ok x => rw [e] at hg; exact ha.run r tk e fun v F1 H1 r1 e1 rx => hk x.1 v x.2 F1 H1 hg e1 rx r1 (hP.later e1)
    | error x => rw [e] at hg; cases hg; exact ha.run r tk e fun c d F' H' r1 e1 rx => hP c d F' H' r1 e1 rx
theorem PostN.fin {f : Fr} {F : Hp} {σ : L2.St} {W : WX} {Q : VK} {d : D} {δ : Env} {o : Except (XD × Env) (D × Env)} (h : some (.ok (d, δ)) = some o) (p : PostN X f F σ W o Q) : ∀ Dd ob F' H', LS X.K f.own f.P f.F0 f.H0 Dd ob F' σ H' δ → Ex F F' → OwnO X.K F' ob d → Q (.ref Dd) H' := by
  cases h; exact p
/-- frozen -/
theorem je_n {g : Env → RE D} (h : JN X own e g) : JE X own e g := ⟨fun {P F0 H0 σ F H δ W Q o} r tk hg hP => by
  rcases o with x | ⟨d, δ1⟩
  · exact h.run r tk hg hP
  · exact h.run r tk hg fun Dd vs F' H' l ex rv => hP _ _ _ l.frz (ex.trans (Ex.new l.nF)) (rv.rep l.nF)⟩
/-- x = a new container, x a slot's own -/
theorem js_setN (i : Nat) {x : Str} {pos' : Pos} {g : Env → RE D} (hN : X.N.Nodup) (h : JN X own e g) (hi : X.N[i]? = some x := by rfl) (hx : Loc X.env.scope x := by first | exact Or.inl rfl | exact Or.inr rfl) (ho : i ∈ own := by decide) (hz : i ≠ 0 := by decide)
    (hs : swapsWith e (some (.Name x pos')) pos.line X.env = pure false := by rfl) (hf : X.fn x = true ∨ X.env.scope.names.lookup x = some .local := by first | exact .inl rfl | exact .inr rfl | assumption) : JS X own (.Assign [.Name x pos'] e pos) (sset i g) := ⟨fun {P F0 H0 σ F H δ W o D} _ r tk hg hP => by
  refine ws_of (ps_set hN hi hx pe_we hs hf) ?_
  unfold sset at hg
  cases e0 : g δ with
  | none => rw [e0] at hg; cases hg
  | some y =>
    rw [e0] at hg
    rcases y with ⟨x, δ1⟩ | ⟨d, δ1⟩
    · cases hg; exact h.run r tk e0 fun c d F' H' r1 e1 rx => hP c d σ F' H' r1 e1 rx
    · cases hg; exact h.run r tk e0 fun Dd vs F' H' l ex rv => hP _ _ _ (l.keepOwn rv ho hz) ex⟩
theorem jn_lst {f : Env → RE (List D)} (ha : JAE X own es f) : JN X own (.List es pos) (elst f) := ⟨fun {P F0 H0 σ F H δ W Q o} r tk hg hP => by
  refine we_of (pe_lst pa_wa) (sn_bind (w := WA X es) ha r tk hg hP fun xs vs δ1 F1 H1 h1 e1 rx r1 P1 => ?_)
  by_cases hl : xs.length ≤ sizeLine
  · rw [if_pos hl] at h1
    exact ⟨by rw [Rep.len rx]; exact hl, fun p hp => P1.fin h1 _ _ _ _ (.start r1 hp) (Ex.refl _) (.lst rx)⟩
  · rw [if_neg hl] at h1; cases h1⟩
/-- a slot's own list given away -/
def emv (i : Nat) : Env → RE D := fun δ => match δ[i]? with
  | some (some (.lst ds)) => some (.ok (.lst ds, δ.set i none))
  | _ => none
/-! x.append(e) -/
def sapp (i : Nat) (f : Env → RE D) : Env → RO := fun δ => match δ[i]? with
  | some (some (.lst _)) => bindE (f δ) fun d δ' => (match δ'[i]? with
    | some (some (.lst ds)) => if ds.length < sizeLine then some (.ok (.nx, δ'.set i (some (.lst (ds ++ [d]))))) else none
    | _ => none)
  | _ => none
theorem own_at {δ : Env} {i : Nat} {α : Type} {k : List D → Option α} {o : α} (h : (match δ[i]? with | some (some (.lst ds)) => k ds | _ => none) = some o) : ∃ ds, δ[i]? = some (some (.lst ds)) ∧ k ds = some o := by
  split at h
  · exact ⟨_, by assumption, h⟩
  · cases h
theorem js_app (i : Nat) {x : Str} {p1 p2 p3 : Pos} {f : Env → RE D} (h : JE X own e f) (hi : X.N[i]? = some x := by rfl) (hv : Vis X.env.scope x := by first | exact Or.inl rfl | exact Or.inr (Or.inl rfl) | exact Or.inr (Or.inr rfl)) (ho : i ∈ own := by decide)
    (hd : (x == ("__debug__" : Str)) = false := by decide) (hcd : (x == ("__classdict__" : Str)) = false := by decide)
    (hbase : attributeBase (.Name x p1) "append" X.env (eval (.Name x p1) X.env) = eval (.Name x p1) X.env := by rfl)
    (hfew : ((backTo p3 (starEach [e] X.env)).all (fun x => !x.1) && (backToKw p3 (keywordEach [] X.env)).all (fun x => x.1.isSome) && decide (([e] : List Expr).length + ([] : List Keyword).length + (if ([] : List Keyword).isEmpty then 0 else 1) < 30)) = true := by rfl)
    (hline : (p2.endLine == p3.line) = true := by rfl) (hs : starEach [e] X.env = (false, eval e X.env) :: starEach [] X.env := by rfl) (hplain : (backTo p3 (starEach [] X.env)).any (·.1) = false := by rfl)
    (hsw : swapsWith (.Call (.Attribute (.Name x p1) "append" p2) [e] [] p3) none pos.line X.env = pure false := by rfl) : JS X own (.Expr (.Call (.Attribute (.Name x p1) "append" p2) [e] [] p3) pos) (sapp i f) := ⟨fun {P F0 H0 σ F H δ W o D} _ r tk hg hP => by
  obtain ⟨ds0, h0, hg⟩ := own_at hg
  obtain ⟨p, vs0, hp, hH0, rv0, hF0⟩ := r.lst ho h0
  refine ws_of (ps_expr (pe_bm PySem.F.plainAttrs_list PySem.F.slot_list_append PySem.F.type_list_append mt_append (pe_var hi hv hd hcd) (pa_cons pe_we pa_nil hs) hbase hfew hline hs hplain) hsw) ⟨_, hp, .inl ⟨rfl, _, SqL.of hH0⟩, ?_⟩
  refine se_bind (w := WE X e) h r tk hg hP fun d v δ1 F1 H1 h1 e1 rx r1 P1 => ?_
  obtain ⟨ds, h2, h1⟩ := own_at h1
  split at h1
  · rename_i hl
    cases h1
    obtain ⟨p', vs, hp', hH, rv, hF⟩ := r1.lst ho h2
    rw [hp] at hp'; cases hp'
    exact ⟨p, vs, v, rfl, rfl, hH, by rw [Rep.len rv]; exact hl, P1 _ F1 _ (r1.put ho h2 hp (rv.app (.cons rx .nil))) (Ex.refl _)⟩
  · cases h1⟩
/-! x.pop(e) -/
def epop (i : Nat) (f : Env → RE D) : Env → RE D := fun δ => match δ[i]? with
  | some (some (.lst _)) => bindE (f δ) fun d δ' => (match δ'[i]? with
    | some (some (.lst ds)) => (match d with
      | .int k => if 0 ≤ k ∧ k < 2 ^ 63 then (match ds[k.toNat]? with
        | some y => some (.ok (y, δ'.set i (some (.lst (ds.eraseIdx k.toNat)))))
        | none => none) else none
      | _ => none)
    | _ => none)
  | _ => none
theorem Reps.erase {K : Frag} {F : Hp} : ∀ {vs : List V} {ds : List D} (n : Nat), Reps K F vs ds → Reps K F (vs.eraseIdx n) (ds.eraseIdx n)
  | _, _, _, .nil => .nil
  | _, _, 0, .cons _ r => r
  | _, _, n + 1, .cons h r => .cons h (Reps.erase n r)
theorem je_pop (i : Nat) {x : Str} {p1 p2 : Pos} {f : Env → RE D} (h : JE X own e f) (hi : X.N[i]? = some x := by rfl) (hv : Vis X.env.scope x := by first | exact Or.inl rfl | exact Or.inr (Or.inl rfl) | exact Or.inr (Or.inr rfl)) (ho : i ∈ own := by decide)
    (hd : (x == ("__debug__" : Str)) = false := by decide) (hcd : (x == ("__classdict__" : Str)) = false := by decide)
    (hbase : attributeBase (.Name x p1) "pop" X.env (eval (.Name x p1) X.env) = eval (.Name x p1) X.env := by rfl)
    (hfew : ((backTo pos (starEach [e] X.env)).all (fun x => !x.1) && (backToKw pos (keywordEach [] X.env)).all (fun x => x.1.isSome) && decide (([e] : List Expr).length + ([] : List Keyword).length + (if ([] : List Keyword).isEmpty then 0 else 1) < 30)) = true := by rfl)
    (hline : (p2.endLine == pos.line) = true := by rfl) (hs : starEach [e] X.env = (false, eval e X.env) :: starEach [] X.env := by rfl) (hplain : (backTo pos (starEach [] X.env)).any (·.1) = false := by rfl) : JE X own (.Call (.Attribute (.Name x p1) "pop" p2) [e] [] pos) (epop i f) := ⟨fun {P F0 H0 σ F H δ W Q o} r tk hg hP => by
  obtain ⟨ds0, h0, hg⟩ := own_at hg
  obtain ⟨p, vs0, hp, hH0, rv0, hF0⟩ := r.lst ho h0
  refine we_of (pe_bm PySem.F.plainAttrs_list PySem.F.slot_list_pop PySem.F.type_list_pop mt_popAt (pe_var hi hv hd hcd) (pa_cons pe_we pa_nil hs) hbase hfew hline hs hplain) ⟨_, hp, .inl ⟨rfl, _, SqL.of hH0⟩, ?_⟩
  refine js_bind (w := WE X e) h r tk hg hP fun d v δ1 F1 H1 h1 e1 rx r1 P1 => ?_
  obtain ⟨ds, h2, h3⟩ := own_at h1
  clear h1
  obtain ⟨p', vs, hp', hH, rv, hF⟩ := r1.lst ho h2
  rw [hp] at hp'; cases hp'
  cases rx with
  | int k =>
    dsimp only at h3
    split at h3
    · rename_i hk
      split at h3
      · rename_i y hy
        cases h3
        obtain ⟨w, hw, rw'⟩ := rv.get hy
        have hlt : k.toNat < vs.length := (List.getElem?_eq_some_iff.1 hw).1
        exact ⟨p, vs, k, k.toNat, w, rfl, rfl, hH, by omega, hk.2, (ixN_seq (by unfold ixN; rw [if_pos hk.1, if_pos (by omega)])).1, hw, P1 _ F1 _ (r1.put ho h2 hp (rv.erase k.toNat)) (Ex.refl _) rw'⟩
      · cases h3
    · cases h3
  | _ => cases h3⟩
end
end PD
end
section
namespace PD
open PySem L2
/-! ### a def that changes its first argument, a list -/
structure GrowB (p : Addr) (F H F' H' : Hp) : Prop where
  ff : Ex F F'
  fh : Ex F' H'
  hh : ∀ a o, a ≠ p → H a = some o → H' a = some o
  nw : ∀ a, F' a ≠ none → F a ≠ none ∨ H a = none
  np : F' p = none
def spB (K : Frag) (m : List D → List D → Option (D × List D)) : Sp := fun vs H Q _ => ∃ F p ws bs B ds d B', vs = .ref p :: ws ∧ Ex F H ∧ F p = none ∧ H p = some (.lst bs) ∧ Reps K F bs B ∧ Reps K F ws ds ∧ m B ds = some (d, B') ∧
  ∀ v F' H' bs', GrowB p F H F' H' → H' p = some (.lst bs') → Reps K F' bs' B' → Rep K F' v d → Q v H'
structure FnB (P : Program) (w : World) (K : Frag) (mg : Str → Option Value) (base : Heap) (k : Nat) (x : Str) (m : List D → List D → Option (D × List D)) : Prop where
  at_ : ∃ f fd ps, FnOk P w K mg base (L2.CX P w) k f fd ps (spB K m) ∧ mg x = some (.ref f) ∧ PySem.W.keepIn K (.ref f) = true ∧ Binds K fd ps []
def bxOf (d : D) (δ : Env) : Option (D × List D) := match δ[(0 : Nat)]? with
  | some (some (.lst B')) => some (d, B')
  | _ => none
def denB (n N : Nat) (body : Env → RO) (B ds : List D) : Option (D × List D) := if ds.length + 1 = n then (match body (some (.lst B) :: (ds.map some ++ List.replicate (N - n) none)) with
  | some (.ok (.rt d, δ)) => bxOf d δ
  | some (.ok (.nx, δ)) => bxOf .non δ
  | _ => none) else none
theorem bxOf_some {d d' : D} {δ : Env} {B : List D} (h : bxOf d δ = some (d', B)) : d = d' ∧ δ[0]? = some (some (.lst B)) := by
  unfold bxOf at h
  split at h
  · cases h; exact ⟨rfl, by assumption⟩
  · cases h
section
variable {P : Program} {w : World} {K : Frag} {mg : Str → Option Value} {base : Heap}
theorem fnB_ok {x qual : Str} {params : Arguments} {body : List Stmt} {scope : Scope} {f : Addr} {fd : FuncData} {dvs : List V} {kws : List (Str × V)} {N ps : List Str} {k : Nat} {own : List Nat} {g : Env → RO} (F : FunD K x qual params body scope dvs kws f fd) (S : FnScope N ps scope) (hon : own.all (fun i => decide (i = 0 ∨ ps.length ≤ i)) = true) (h0 : own.contains 0 = true)
    (hps : decide (ps.length ≤ N.length) = true)
    (hb : ∀ (cdv : Value) (A : Around) (outer : List PySem.Env) (s : Shared) (H : Hp) (E : XK), Room k (A.deeper (PyProof.Rows.envOfC qual scope s.heap.objs.size f cdv)) → JSs (cxOf (L2.CX P w) P w K mg base N qual scope f cdv A outer s H E) own body g) :
    FnOk P w K mg base (L2.CX P w) (k + 1) f fd ps (spB K (denB ps.length N.length g)) := by
  refine FunD.ok F S (fun vs H Q E h => ?_) (fun cdv A outer s H vs Q E hr h => ?_)
  · obtain ⟨F', p, ws, bs, B, ds, d, B', rfl, e, hF, hH, rb, rd, h1, _⟩ := h
    unfold denB at h1
    by_cases hl : ds.length + 1 = ps.length
    · rw [List.length_cons, Rep.len rd, hl]
    · rw [if_neg hl] at h1; cases h1
  · obtain ⟨F', p, ws, bs, B, ds, d, B', rfl, e, hF, hH, rb, rd, h1, hP⟩ := h
    unfold denB at h1
    by_cases hl : ds.length + 1 = ps.length
    · rw [if_pos hl] at h1
      have hl' : ps.length ≤ N.length := of_decide_eq_true hps
      have hlv : ws.length = ds.length := Rep.len rd
      have h0' : 0 ∈ own := by simpa using h0
      refine ⟨_, pss_wss, ?_⟩
      have tk : Takes (cxOf (L2.CX P w) P w K mg base N qual scope f cdv A outer s H E) (fun cls d _ H => E cls d H) := takes_of rfl rfl rfl rfl
      have R0 : RSf (cxOf (L2.CX P w) P w K mg base N qual scope f cdv A outer s H E) ⟨own, ⟨fun a => a = p, fun a => a = p, fun a => a = p⟩, F', H⟩ F' (L2.start N (.ref p :: ws)) H (some (.lst B) :: (ds.map some ++ List.replicate (N.length - ps.length) none)) := {
        ff := Ex.refl _
        fh := e
        hh := fun _ _ _ h => h
        dm := fun _ h => h
        nw := fun _ h => .inl h
        ln := by unfold L2.start; simp [hlv]; omega
        par := fun a h => ⟨h0', by rw [show a = p from h]; rfl⟩
        bxh := fun a h => by rw [show a = p from h]; show H p ≠ none; rw [hH]; simp
        val := fun i d hi h => by
          cases i with
          | zero => exact absurd h0' hi
          | succ i =>
            unfold L2.start
            rw [List.getElem?_cons_succ] at h
            rw [List.map_cons, List.cons_append, List.getElem?_cons_succ]
            exact Reps.some_get rd h
        own := ⟨fun i => if i = 0 then [p] else [], And.intro (fun (i : Nat) (d : D) hi (h : (some (D.lst B) :: (List.map some ds ++ List.replicate (N.length - ps.length) (none : Option D)))[i]? = some (some d)) => by
          cases i with
          | zero => cases h; exact ⟨.ref p, rfl, .lst hH rb⟩
          | succ i =>
            have := of_decide_eq_true (List.all_eq_true.1 hon _ hi)
            rw [List.getElem?_cons_succ, List.getElem?_append_right (by rw [List.length_map]; omega), List.getElem?_replicate] at h
            split at h <;> cases h) (And.intro (fun i a h => by
              dsimp only at h
              by_cases q : i = 0
              · rw [if_pos q] at h; cases List.mem_singleton.1 h; exact ⟨hF, by rw [hH]; simp, .inr ⟨rfl, fun _ => q⟩⟩
              · rw [if_neg q] at h; cases h) (fun i j a hij h h2 => by
              dsimp only at h h2
              by_cases q : i = 0
              · rw [if_neg (fun z => hij (q.trans z.symm))] at h2; cases h2
              · rw [if_neg q] at h; cases h))⟩ }
      have fin : ∀ (v : V) (σ' : L2.St) (F1 H1 : Hp) (δ' : Env), RSf (cxOf (L2.CX P w) P w K mg base N qual scope f cdv A outer s H E) ⟨own, ⟨fun a => a = p, fun a => a = p, fun a => a = p⟩, F', H⟩ F1 σ' H1 δ' → δ'[0]? = some (some (.lst B')) → Rep K F1 v d → Q v H1 := fun v σ' F1 H1 δ' r1 hB rv => by
        obtain ⟨p', bs', hp', hH', rb', hF1⟩ := r1.lst h0' hB
        have := (r1.par p rfl).2
        rw [this] at hp'; cases hp'
        exact hP v F1 H1 bs' ⟨r1.ff, r1.fh, fun a o hne h => r1.hh a o hne h, r1.nw, hF1⟩ hH' rb' rv
      cases e2 : g (some (.lst B) :: (ds.map some ++ List.replicate (N.length - ps.length) none)) with
      | none => rw [e2] at h1; cases h1
      | some y =>
        rw [e2] at h1
        refine (hb cdv A outer s H E hr).run R0 tk e2 ?_
        rcases y with ⟨x, δ'⟩ | ⟨o1, δ'⟩
        · cases h1
        · cases o1 with
          | rt d1 => obtain ⟨rfl, hB⟩ := bxOf_some h1; exact fun v σ' F1 H1 r1 e1 rx => fin v σ' F1 H1 δ' r1 hB rx
          | nx => obtain ⟨rfl, hB⟩ := bxOf_some h1; exact fun σ' F1 H1 r1 e1 => fin .non σ' F1 H1 δ' r1 hB .non
          | bk => cases h1
          | ct => cases h1
    · rw [if_neg hl] at h1; cases h1
end
theorem RS.boxed {K : Frag} {own : List Nat} {P : Pm} {F0 H0 F F' H' : Hp} {σ : L2.St} {H : Hp} {δ : Env} {i : Nat} {p : Addr} {B B' : List D} {bs' : List V} (r : RS K own P F0 H0 F σ H δ) (hi : i ∈ own) (h : δ[i]? = some (some (.lst B))) (hp : σ[i]? = some (some (.ref p))) (g : GrowB p F H F' H') (hH : H' p = some (.lst bs')) (rv : Reps K F' bs' B') : RS K own P F0 H0 F' σ H' (δ.set i (some (.lst B'))) := by
  obtain ⟨fp, h1, h2, h3⟩ := r.own
  obtain ⟨v, hv, o⟩ := h1 i _ hi h
  rw [hp] at hv; cases hv
  have hfp : fp i = [p] := by
    cases hfp : fp i with
    | nil => rw [hfp] at o; cases o
    | cons a as => rw [hfp] at o; cases o with | lst _ _ => rfl
  have hpi : p ∈ fp i := by rw [hfp]; exact List.mem_singleton.2 rfl
  obtain ⟨a1, a2, a3⟩ := h2 i p hpi
  have hl : i < δ.length := (List.getElem?_eq_some_iff.1 h).1
  exact {
    ff := r.ff.trans g.ff
    fh := g.fh
    hh := fun a q n e => by
      have : a ≠ p := fun x => by
        subst x
        exact a3.elim (fun z => by rw [z] at e; cases e) fun z => n z.1
      exact g.hh a q this (r.hh a q n e)
    dm := fun a e => by
      by_cases x : a = p
      · subst x; rw [hH]; simp
      · cases e2 : H a with
        | none => exact absurd e2 (r.dm a e)
        | some o => rw [g.hh a o x e2]; simp
    nw := fun a e => (g.nw a e).elim (r.nw a) fun z => .inr (by
      cases e0 : H0 a with
      | none => rfl
      | some o => exact absurd z (r.dm a (by rw [e0]; simp)))
    ln := by rw [List.length_set, r.ln]
    par := r.par
    bxh := r.bxh
    val := fun j d hj e => by
      have hne : i ≠ j := fun q => hj (by rw [← q]; exact hi)
      rw [List.getElem?_set_ne hne] at e
      obtain ⟨w, hw, rw'⟩ := r.val j d hj e
      exact ⟨w, hw, rw'.mono g.ff⟩
    own := by
      refine ⟨fp, fun j d hj e => ?_, fun j a ha => ?_, h3⟩
      · by_cases q : i = j
        · subst q
          rw [List.getElem?_set_self hl] at e; cases e
          exact ⟨_, hp, by rw [hfp]; exact .lst hH rv⟩
        · rw [List.getElem?_set_ne q] at e
          obtain ⟨w, hw, ow⟩ := h1 j d hj e
          exact ⟨w, hw, ow.keep g.ff fun a ha o e => g.hh a o (fun x : a = p => h3 i j p q hpi (x ▸ ha)) e⟩
      · obtain ⟨b1, b2, b3⟩ := h2 j a ha
        by_cases x : a = p
        · subst x; exact ⟨g.np, by rw [hH]; simp, b3⟩
        · refine ⟨?_, ?_, b3⟩
          · cases q : F' a with
            | none => rfl
            | some o => exact ((g.nw a (by rw [q]; simp)).elim (fun z => absurd b1 z) fun z => absurd z b2)
          · cases q : H a with
            | none => exact absurd q b2
            | some o => rw [g.hh a o x q]; simp }
def ecallB (m : List D → List D → Option (D × List D)) (i : Nat) (a : Env → RE (List D)) : Env → RE D := fun δ => match δ[i]? with
  | some (some (.lst _)) => bindE (a δ) fun ds δ' => (match δ'[i]? with
    | some (some (.lst B)) => (m B ds).map fun q => .ok (q.1, δ'.set i (some (.lst q.2)))
    | _ => none)
  | _ => none
theorem je_callB {X : Cx} {own : List Nat} (i : Nat) {k : Nat} {x y : Str} {p py pos : Pos} {es : List Expr} {m : List D → List D → Option (D × List D)} {f : Env → RE (List D)} (hf : FnB X.prog X.w X.K X.mg X.base k x m) (hr : Room k X.A) (ha : JAE X own es f) (hi : X.N[i]? = some y := by rfl) (hv : Vis X.env.scope y := by first | exact Or.inl rfl | exact Or.inr (Or.inl rfl) | exact Or.inr (Or.inr rfl)) (ho : i ∈ own := by decide) (hg : Gl X x := by rfl)
    (hd : (y == ("__debug__" : Str)) = false := by decide) (hcd : (y == ("__classdict__" : Str)) = false := by decide)
    (hdb : (x == ("__debug__" : Str)) = false := by decide) (he : starEach (.Name y py :: es) X.env = (false, eval (.Name y py) X.env) :: starEach es X.env := by rfl) (hpl : (backTo pos (starEach es X.env)).any (·.1) = false := by rfl) :
    JE X own (.Call (.Name x p) (.Name y py :: es) [] pos) (ecallB m i f) := ⟨fun {P F0 H0 σ F H δ W Q o} r tk hg' hP => by
  obtain ⟨fa, fd, ps, Fo, hm, hk, hb⟩ := hf.at_
  obtain ⟨ds0, h0, hg'⟩ := own_at hg'
  obtain ⟨q, vs0, hp, hH0, rv0, hF0⟩ := r.lst ho h0
  refine we_of (pe_callS Fo hr hg hm hk hb (fun σ => passAt tk σ) (pa_cons (pe_var hi hv hd hcd) pa_wa he) hdb he hpl) ⟨_, hp, ?_⟩
  refine js_bind (w := WA X es) ha r tk hg' hP fun xs vs δ1 F1 H1 h1 e1 rx r1 P1 => ?_
  obtain ⟨B, h2, h3⟩ := own_at h1
  clear h1
  obtain ⟨p', bs, hp', hH, rv, hF⟩ := r1.lst ho h2
  rw [hp] at hp'; cases hp'
  simp only [Option.map_eq_some_iff] at h3
  obtain ⟨⟨d, B'⟩, hm', rfl⟩ := h3
  exact ⟨F1, q, vs, bs, B, xs, d, B', rfl, r1.fh, hF, hH, rv, rx, hm', fun v F' H' bs' g hH' rb rd => P1 v F' H' (r1.boxed ho h2 hp g hH' rb) g.ff rd⟩⟩
end PD
end
section
namespace PD
open PySem L2
/-! ### subscripts with state -/
def eop (g : D → D → Option D) (fa fb : Env → RE D) : Env → RE D := eop2 g fa fb
theorem je_ix {X : Cx} {own : List Nat} {a b : Expr} {pos : Pos} {fa fb : Env → RE D} {k : Nat} (hr : Room k X.A) (ha : JE X own a fa) (hb : JE X own b fb) (hs : PlainIx b := by exact fun _ _ => rfl) : JE X own (.Subscript a b pos) (eop2 dIx fa fb) := ⟨fun {P F0 H0 σ F H δ W Q o} r tk hg hP => by
  unfold eop2 at hg
  cases e0 : fa δ with
  | none => rw [e0] at hg; cases hg
  | some y =>
    rw [e0] at hg
    rcases y with ⟨x, δ1⟩ | ⟨x, δ1⟩
    · cases hg; exact we_of (pe_ix ix_any pe_we pe_we hs) (ha.run r tk e0 hP)
    · simp only [bindE] at hg
      cases hx : isDic x with
      | false => exact we_of (pe_ix ix_any pe_we pe_we hs) (ha.run r tk e0 fun vx F1 H1 r1 e1 rx => js_bind (w := WE X b) hb r1 tk hg (hP.later e1) fun y vy δ2 F2 H2 h2 e2 ry r2 P2 => by
          simp only [Option.map_eq_some_iff] at h2
          obtain ⟨z, hz, rfl⟩ := h2
          exact d_ix r2.fh (rx.mono e2) ry hz hx _ fun v F' H' g rv => P2 v F' H' (r2.grow g) g.ff rv)
      | true => exact we_of (pe_dget (hu_of hr) pe_we pe_we hs) (ha.run r tk e0 fun vx F1 H1 r1 e1 rx => js_bind (w := WE X b) hb r1 tk hg (hP.later e1) fun y vy δ2 F2 H2 h2 e2 ry r2 P2 => by
          simp only [Option.map_eq_some_iff] at h2
          obtain ⟨z, hz, rfl⟩ := h2
          obtain ⟨p, w, ew, hD, rw'⟩ := d_dget r2.fh (rx.mono e2) ry hz hx
          exact ⟨p, w, ew, hD, P2 w F2 H2 r2 (Ex.refl _) rw'⟩)⟩
/-! ### slices -/
def cutD (xs : List D) (lo hi : Option Int) : List D := (xs.drop (HT.sIx xs.length 0 lo)).take (HT.sIx xs.length xs.length hi - HT.sIx xs.length 0 lo)
theorem Reps.cut {K : Frag} {F : Hp} {vs : List V} {ds : List D} (r : Reps K F vs ds) (lo hi : Option Int) : Reps K F (cutV vs lo hi) (cutD ds lo hi) := by
  unfold cutV cutD
  rw [Rep.len r]
  exact (r.drop _).take _
def asI : D → Option (Option Int)
  | .int i => some (some i)
  | _ => none
def WO (X : Cx) (e : Option Expr) (σ : L2.St) (H : Hp) (Q : Option Int → Hp → Prop) : Prop := ∃ t, PO X e t ∧ t σ H Q
abbrev JO (X : Cx) (e : Option Expr) (g : Env → Rs (Option Int)) : Prop := J X (WO X e) (fun _ b a => b = a) g
def onone : Env → Rs (Option Int) := fun _ => ok none
def osome (f : Env → Rs D) : Env → Rs (Option Int) := fun δ => bind (f δ) fun d => opt (asI d)
theorem jo_none {X : Cx} : JO X none onone := ⟨fun rp tk hg hP => ⟨_, po_none, hP.fin hg _ _ _ (.refl rp.ex) rfl⟩⟩
theorem jo_some {X : Cx} {e : Expr} {f : Env → Rs D} (h : JP X e f) : JO X (some e) (osome f) := ⟨fun rp tk hg hP => ⟨_, po_some pe_we, jp_bind h rp tk hg hP fun x vx F1 H1 h1 g1 rx r1 P1 => by
  obtain ⟨z, hz, rfl⟩ := opt_some h1
  cases rx <;> (try (cases hz; done))
  cases hz
  exact ⟨_, rfl, P1 _ F1 H1 (.refl r1.ex) rfl⟩⟩⟩
def dSl : D → Option Int → Option Int → Option D
  | .tup xs, lo, hi => some (.tup (cutD xs lo hi))
  | .lst xs, lo, hi => some (.lst (cutD xs lo hi))
  | .scr xs, lo, hi => some (.lst (cutD xs lo hi))
  | .str x, lo, hi => if x.length ≤ sizeLine then some (.str (cutS x lo hi)) else none
  | _, _, _ => none
def rSlP (K : Frag) : V → Option Int → Option Int → Hp → VK → Prop := fun x lo hi H Q => ∃ a xs, x = .ref a ∧ SqT K H a xs ∧
  (HT.sIx xs.length 0 lo = 0 ∧ HT.sIx xs.length xs.length hi = xs.length → Q (.ref a) H) ∧ (¬ (HT.sIx xs.length 0 lo = 0 ∧ HT.sIx xs.length xs.length hi = xs.length) → ∀ p o, H p = none → PlT o → Q (.ref p) (upd H p (.frz o (.tup (cutV xs lo hi)))))
open PySem.Spec PyProof.Rows in
theorem sl_tupP {X : Cx} : SlR X (rSlP X.K) := by
  intro pins s σ H x v vl vu lo hi sl Q I rx hs pl pu h
  obtain ⟨a, xs, rfl, hx, q1, q2⟩ := h
  by_cases hw : HT.sIx xs.length 0 lo = 0 ∧ HT.sIx xs.length xs.length hi = xs.length
  · exact sl_tupA pins s σ H _ v vl vu lo hi sl Q I rx hs pl pu ⟨a, xs, rfl, hx, q1, fun h => absurd hw h⟩
  · cases rx
    obtain ⟨its, r, ht, hz⟩ := I.tuple hx
    have hlen : its.toArray.size = xs.length := by rw [List.size_toArray]; exact r.length.symm
    refine ⟨"tuple", _, PyProof.Rows.slot_tuple_getitem.lookup, ht.typeIs, ?_⟩
    refine HT.getItem_tuple_cut ht hs pl pu (by rw [hlen]; exact hw) ?_ (by rw [hlen]; exact hz)
    rw [hlen]
    refine ⟨.ref s.heap.objs.size, upd H s.heap.objs.size (.frz _ (.tup (cutV xs lo hi))), I.laid (t' := s.toks) (fun b ob q => Heap.get?_push_of_some _ q) (Nat.le_refl _) ⟨Heap.get?_push_size _ rfl, Nat.le_trans (cutV_length xs lo hi) hz, _, (r.drop (HT.sIx xs.length 0 lo)).take (HT.sIx xs.length xs.length hi - HT.sIx xs.length 0 lo), IsTup.new _ _⟩, rfl, q2 hw _ _ (I.hok.fresh (Nat.le_refl _)) ⟨rfl, rfl, _, _, rfl⟩⟩
def rSl (K : Frag) : V → Option Int → Option Int → Hp → VK → Prop := fun x lo hi H Q => (rSlP K x lo hi H Q ∨ rSlL K x lo hi H Q) ∨ rSlS x lo hi H Q
theorem sl_any {X : Cx} : SlR X (rSl X.K) := (sl_tupP.or sl_list).or sl_str
theorem d_sl {K : Frag} {F H : Hp} {vx : V} {x z : D} {lo hi : Option Int} (e : Ex F H) (rx : Rep K F vx x) (h : dSl x lo hi = some z) (Q : VK) (q : ∀ v F' H', Grow F H F' H' → Rep K F' v z → Q v H') : rSl K vx lo hi H Q := by
  cases rx <;> (try (cases h; done)) <;> simp only [dSl] at h
  case str x =>
    split at h
    · cases h; exact .inr ⟨_, rfl, by assumption, q _ F H (.refl e) (.str _)⟩
    · cases h
  case tup a vs ds h1 r1 =>
    cases h
    refine .inl (.inl ⟨a, vs, rfl, ex_t e h1, fun hw => ?_, fun hw p ob hp hpl => q _ _ _ (.new e hp) (.tup (SqP.of upd_same hpl) ((r1.cut lo hi).mono (Ex.new (none_back e hp))))⟩)
    refine q _ F H (.refl e) ?_
    have : cutD ds lo hi = ds := by
      unfold cutD
      rw [← Rep.len r1, hw.1, hw.2, List.drop_zero, Nat.sub_zero, Rep.len r1, List.take_length]
    rw [this]; exact .tup h1 r1
  case lst a vs ds h1 r1 => cases h; exact .inl (.inr ⟨a, vs, rfl, SqL.of (e _ _ h1), fun p hp => q _ _ _ (.new e hp) (.lst upd_same ((r1.cut lo hi).mono (Ex.new (none_back e hp))))⟩)
  case scr a vs ds h1 r1 => cases h; exact .inl (.inr ⟨a, vs, rfl, ex_l e h1, fun p hp => q _ _ _ (.new e hp) (.lst upd_same ((r1.cut lo hi).mono (Ex.new (none_back e hp))))⟩)
def vsl (a : Env → Rs D) (lo hi : Env → Rs (Option Int)) : Env → Rs D := fun δ => bind (a δ) fun x => bind (lo δ) fun l => bind (hi δ) fun h => opt (dSl x l h)
theorem jp_sl {X : Cx} {a : Expr} {lo hi : Option Expr} {p2 pos : Pos} {fa : Env → Rs D} {fl fh : Env → Rs (Option Int)} (ha : JP X a fa) (hl : JO X lo fl) (hh : JO X hi fh) : JP X (.Subscript a (.Slice lo hi none p2) pos) (vsl fa fl fh) := ⟨fun {σ F H δ W Q o} rp tk hg hP => by
  have po : ∀ e : Option Expr, PO X e (WO X e) := fun e => ⟨fun pins s σ H Q I ⟨t, pt, ht⟩ => pt.run pins s σ H Q I ht⟩
  exact we_of (pe_slice sl_any pe_we (po lo) (po hi)) (jp_bind ha rp tk hg hP fun x vx F1 H1 h1 g1 rx r1 P1 => j_bind (w := WO X lo) hl r1 tk h1 P1 fun l vl F2 H2 h2 g2 rl r2 P2 => by
    cases rl
    exact j_bind (w := WO X hi) hh r2 tk h2 P2 fun u vu F3 H3 h3 g3 ru r3 P3 => by
      cases ru
      obtain ⟨z, hz, rfl⟩ := opt_some h3
      exact d_sl r3.ex (rx.mono (g2.ff.trans g3.ff)) hz _ P3)⟩
/-! ### a op b op c -/
def chain (g h : D → D → Option D) (a b c : Env → Rs D) : Env → Rs D := fun δ => bind (a δ) fun x => bind (b δ) fun y => bind (opt (g x y)) fun z => bind (opt (asB z)) fun k => if k = true then bind (c δ) fun w => opt (h y w) else ok (.bl false)
theorem jchain {X : Cx} {a b c : Expr} {r r' : R2} {g h : D → D → Option D} {fa fb fc : Env → Rs D} {σ : L2.St} {F H : Hp} {δ : Env} {W : WX} {o : Except XD D} {Q : VK} (hg : OpD X.K r g) (hh : OpD X.K r' h) (ha : JP X a fa) (hb : JP X b fb) (hc : JP X c fc)
    (rp : RP X.K F σ H δ) (tk : Takes X W) (he : chain g h fa fb fc δ = some o) (hP : Post (Rep X.K) X.K F H σ W o Q) : tChain r r' (WE X a) (WE X b) (WE X c) σ H Q :=
  jp_bind ha rp tk he hP fun x vx F1 H1 h1 g1 rx r1 P1 => jp_bind hb r1 tk h1 P1 fun y vy F2 H2 h2 g2 ry r2 P2 => by
    obtain ⟨z, hz, h3⟩ := bind_opt h2
    obtain ⟨k, hk, h4⟩ := bind_opt h3
    cases asB_some hk
    refine hg r2.ex (rx.mono g2.ff) ry hz _ fun v F3 H3 g3 rv => ?_
    cases rv
    refine ⟨k, rfl, ?_⟩
    cases k with
    | true =>
      rw [if_pos rfl] at h4 ⊢
      exact jp_bind hc (r2.later g3) tk h4 (P2.later g3) fun w vw F4 H4 h5 g4 rw' r4 P4 => by
        obtain ⟨q, hq, rfl⟩ := opt_some h5
        exact hh r4.ex (ry.mono (g3.ff.trans g4.ff)) rw' hq _ P4
    | false =>
      rw [if_neg Bool.false_ne_true] at h4 ⊢
      exact (P2.later g3).fin h4 _ _ _ (.refl (r2.later g3).ex) (.bl _)
theorem jp_lele {X : Cx} {a b c : Expr} {pos : Pos} {fa fb fc : Env → Rs D} (ha : JP X a fa) (hb : JP X b fb) (hc : JP X c fc) (hm : lastMarks [.LtE, .LtE] [b, c] = false := by with_unfolding_all rfl) : JP X (.Compare a [.LtE, .LtE] [b, c] pos) (chain dLe dLe fa fb fc) :=
  ⟨fun rp tk hg hP => we_of (pe_chain o_le o_le pe_we pe_we pe_we hm) (jchain d_cmp d_cmp ha hb hc rp tk hg hP)⟩
theorem jt_lele {X : Cx} {a b c : Expr} {pos : Pos} {fa fb fc : Env → Rs D} (ha : JP X a fa) (hb : JP X b fb) (hc : JP X c fc) (hm : lastMarks [.LtE, .LtE] [b, c] = false := by with_unfolding_all rfl) : JT X (.Compare a [.LtE, .LtE] [b, c] pos) (tb (chain dLe dLe fa fb fc)) :=
  ⟨fun {σ F H δ W Q o} rp tk hg hP => by
    refine wt_of (pt_chain o_le o_le pe_we pe_we pe_we hm) ?_
    unfold tb at hg
    cases e : chain dLe dLe fa fb fc δ with
    | none => rw [e] at hg; cases hg
    | some y => cases y with
      | error x => rw [e] at hg; cases hg; exact jchain d_cmp d_cmp ha hb hc rp tk e hP
      | ok d =>
        rw [e] at hg
        obtain ⟨q, hq, rfl⟩ := opt_some (x := asB d) hg
        cases asB_some hq
        exact jchain d_cmp d_cmp ha hb hc rp tk e fun v F' H' g rv => by cases rv; exact ⟨q, rfl, hP q F' H' g rfl⟩⟩
/-! ### texts, enumerate, zip -/
def signs (x : Str) : List D := x.cps.toList.map fun c => .str ⟨#[c]⟩
theorem src_str {K : Frag} {F : Hp} {x : Str} : Src K F (signs x) (Its x) where
  go := fun {F1 H1} e1 e2 {i d} hd => by
    unfold signs at hd
    rw [List.getElem?_map, Option.map_eq_some_iff] at hd
    obtain ⟨c, hc, rfl⟩ := hd
    have hc' : x.cps[i]? = some c := by rw [← Array.getElem?_toList]; exact hc
    have hl : i < x.cps.size := by
      have := (List.getElem?_eq_some_iff.1 hc).1
      simpa using this
    exact ⟨hl, fun v H' ⟨e, c', h1, h2⟩ => by subst e; rw [hc'] at h1; cases h1; subst h2; exact ⟨F1, .refl e2, .str _⟩⟩
  stop := fun {F1 H1} e1 e2 {i} hi => by
    unfold signs at hi; rw [List.length_map] at hi
    have : x.cps.size ≤ i := by simpa using hi
    exact this
def istr (f : Env → RE D) : Env → RE (List D) := fun δ => bindE (f δ) fun d δ' => match d with
  | .str x => some (.ok (signs x, δ'))
  | _ => none
theorem ji_str {X : Cx} {own : List Nat} {tg e : Expr} {f : Env → RE D} (h : JE X own e f) : JI X own tg e (istr f) := ⟨fun {P F0 H0 σ F H δ W o R} r tk hg hP => by
  refine wi_of (pi_str pe_we) ?_
  unfold istr at hg
  cases e0 : f δ with
  | none => rw [e0] at hg; cases hg
  | some y =>
    rw [e0] at hg
    rcases y with ⟨x, δ1⟩ | ⟨d, δ1⟩
    · cases hg; exact h.run r tk e0 hP
    · cases d <;> (try (cases hg; done))
      cases hg; exact h.run r tk e0 fun v F1 H1 r1 e1 rx => by cases rx; exact ⟨_, rfl, hP _ F1 H1 r1 e1 src_str⟩⟩
def enumD (i : Nat) : List D → List D
  | [] => []
  | d :: ds => .npt [.int (i : Nat), d] :: enumD (i + 1) ds
theorem enumD_get : ∀ {ds : List D} {i j : Nat} {d : D}, (enumD i ds)[j]? = some d → ∃ x, ds[j]? = some x ∧ d = .npt [.int ((i + j : Nat) : Int), x]
  | [], _, _, _, h => by cases h
  | x :: xs, i, 0, d, h => by cases h; exact ⟨x, rfl, rfl⟩
  | x :: xs, i, j + 1, d, h => by
    rw [enumD, List.getElem?_cons_succ] at h
    obtain ⟨y, h1, h2⟩ := enumD_get h
    exact ⟨y, by rw [List.getElem?_cons_succ]; exact h1, by rw [h2]; congr 4; omega⟩
theorem enumD_len : ∀ {ds : List D} {i : Nat}, (enumD i ds).length = ds.length
  | [], _ => rfl
  | _ :: _, _ => congrArg (· + 1) enumD_len
theorem src_enum {K : Frag} {F : Hp} {a : Addr} {vs : List V} {ds : List D} (h : SqL K F a vs) (r : Reps K F vs ds) : Src K F (enumD 0 ds) (Ite K a) where
  go := fun {F1 H1} e1 e2 {i d} hd => by
    obtain ⟨x, hx, rfl⟩ := enumD_get hd
    obtain ⟨w, hw, rw'⟩ := r.get hx
    refine ⟨⟨vs, w, ex_l (e1.trans e2) h, hw⟩, fun v H' ⟨T, y, hv, hT, hH, hy⟩ => ?_⟩
    subst hv; subst hH
    have := hy vs (ex_l (e1.trans e2) h)
    rw [hw] at this; cases this
    refine ⟨_, .new e2 hT, .npt (SqT.of upd_same) (.cons ?_ (.cons ((rw'.mono e1).mono (Ex.new (none_back e2 hT))) .nil))⟩
    rw [Nat.zero_add]; exact .int _
  stop := fun {F1 H1} e1 e2 {i} hi => ⟨vs, ex_l (e1.trans e2) h, by rw [Rep.len r]; rw [enumD_len] at hi; exact hi⟩
def ienum (f : Env → RE D) : Env → RE (List D) := fun δ => bindE (f δ) fun d δ' => match d with
  | .lst xs => some (.ok (enumD 0 xs, δ'))
  | .scr xs => some (.ok (enumD 0 xs, δ'))
  | _ => none
theorem ji_enum {X : Cx} {own : List Nat} {e : Expr} {elts : List Expr} {kk : Nat} {p pos tpos : Pos} {f : Env → RE D} (hm : X.mg "enumerate" = none) (h : JE X own e f) (hg : Gl X "enumerate" := by rfl) (hs : starEach [e] X.env = [(false, eval e X.env)] := by rfl) : JI X own (.Tuple elts kk tpos) (.Call (.Name "enumerate" p) [e] [] pos) (ienum f) := ⟨fun {P F0 H0 σ F H δ W o R} r tk hg' hP => by
  refine wi_of (pi_enum hg hm (pa_cons pe_we pa_nil hs) hs) ?_
  unfold ienum at hg'
  cases e0 : f δ with
  | none => rw [e0] at hg'; cases hg'
  | some y =>
    rw [e0] at hg'
    rcases y with ⟨x, δ1⟩ | ⟨d, δ1⟩
    · cases hg'; exact h.run r tk e0 hP
    · cases d <;> (try (cases hg'; done))
      case lst => cases hg'; exact h.run r tk e0 fun v F1 H1 r1 e1 rx => by cases rx with | lst h1 r2 => exact ⟨_, _, rfl, SqL.of (r1.fh _ _ h1), hP _ F1 H1 r1 e1 (src_enum (SqL.of h1) r2)⟩
      case scr => cases hg'; exact h.run r tk e0 fun v F1 H1 r1 e1 rx => by cases rx with | scr h1 r2 => exact ⟨_, _, rfl, ex_l r1.fh h1, hP _ F1 H1 r1 e1 (src_enum h1 r2)⟩⟩
def zipD : List D → List D → List D
  | x :: xs, y :: ys => .npt [x, y] :: zipD xs ys
  | _, _ => []
theorem zipD_get : ∀ {xs ys : List D} {j : Nat} {d : D}, (zipD xs ys)[j]? = some d → ∃ x y, xs[j]? = some x ∧ ys[j]? = some y ∧ d = .npt [x, y]
  | [], _, _, _, h => by simp [zipD] at h
  | _ :: _, [], _, _, h => by simp [zipD] at h
  | x :: xs, y :: ys, 0, d, h => by cases h; exact ⟨x, y, rfl, rfl, rfl⟩
  | x :: xs, y :: ys, j + 1, d, h => by
    rw [zipD, List.getElem?_cons_succ] at h
    obtain ⟨a, b, h1, h2, h3⟩ := zipD_get h
    exact ⟨a, b, by rw [List.getElem?_cons_succ]; exact h1, by rw [List.getElem?_cons_succ]; exact h2, h3⟩
theorem zipD_len : ∀ {xs ys : List D}, (zipD xs ys).length = min xs.length ys.length
  | [], _ => by simp [zipD]
  | _ :: _, [] => by simp [zipD]
  | x :: xs, y :: ys => by simp [zipD, zipD_len]
theorem src_zipL {K : Frag} {F : Hp} {a b : Addr} {vs ws : List V} {ds es : List D} (h : SqL K F a vs) (h' : SqL K F b ws) (r : Reps K F vs ds) (r' : Reps K F ws es) : Src K F (zipD ds es) (Itz K a b) where
  go := fun {F1 H1} e1 e2 {i d} hd => by
    obtain ⟨x, y, hx, hy, rfl⟩ := zipD_get hd
    obtain ⟨w, hw, rw'⟩ := r.get hx
    obtain ⟨u, hu, ru⟩ := r'.get hy
    refine ⟨⟨vs, ws, w, u, ex_l (e1.trans e2) h, ex_l (e1.trans e2) h', hw, hu⟩, fun v H' ⟨T, p, q, hv, hT, hH, hp, hq⟩ => ?_⟩
    subst hv; subst hH
    have q1 := hp vs (ex_l (e1.trans e2) h)
    rw [hw] at q1; cases q1
    have q2 := hq ws (ex_l (e1.trans e2) h')
    rw [hu] at q2; cases q2
    exact ⟨_, .new e2 hT, .npt (SqT.of upd_same) (.cons ((rw'.mono e1).mono (Ex.new (none_back e2 hT))) (.cons ((ru.mono e1).mono (Ex.new (none_back e2 hT))) .nil))⟩
  stop := fun {F1 H1} e1 e2 {i} hi => ⟨vs, ws, ex_l (e1.trans e2) h, ex_l (e1.trans e2) h', by rw [Rep.len r, Rep.len r']; rw [zipD_len] at hi; omega⟩
theorem src_zipT {K : Frag} {F : Hp} {a b : Addr} {vs ws : List V} {ds es : List D} (h : SqP K F a vs) (h' : SqP K F b ws) (r : Reps K F vs ds) (r' : Reps K F ws es) : Src K F (zipD ds es) (RZ.ItzT K a b) where
  go := fun {F1 H1} e1 e2 {i d} hd => by
    obtain ⟨x, y, hx, hy, rfl⟩ := zipD_get hd
    obtain ⟨w, hw, rw'⟩ := r.get hx
    obtain ⟨u, hu, ru⟩ := r'.get hy
    refine ⟨⟨vs, ws, w, u, ex_t (e1.trans e2) h, ex_t (e1.trans e2) h', hw, hu⟩, fun v H' ⟨T, p, q, hv, hT, hH, hp, hq⟩ => ?_⟩
    subst hv; subst hH
    have q1 := hp vs (ex_t (e1.trans e2) h)
    rw [hw] at q1; cases q1
    have q2 := hq ws (ex_t (e1.trans e2) h')
    rw [hu] at q2; cases q2
    exact ⟨_, .new e2 hT, .npt (SqT.of upd_same) (.cons ((rw'.mono e1).mono (Ex.new (none_back e2 hT))) (.cons ((ru.mono e1).mono (Ex.new (none_back e2 hT))) .nil))⟩
  stop := fun {F1 H1} e1 e2 {i} hi => ⟨vs, ws, ex_t (e1.trans e2) h, ex_t (e1.trans e2) h', by rw [Rep.len r, Rep.len r']; rw [zipD_len] at hi; omega⟩
def izip (f : Env → RE (List D)) : Env → RE (List D) := fun δ => bindE (f δ) fun ds δ' => match ds with
  | [.lst xs, .lst ys] => some (.ok (zipD xs ys, δ'))
  | [.tup xs, .tup ys] => some (.ok (zipD xs ys, δ'))
  | _ => none
theorem ji_zip {X : Cx} {own : List Nat} {e e2 : Expr} {elts : List Expr} {kk : Nat} {p pos tpos : Pos} {f : Env → RE (List D)} (hm : X.mg "zip" = none) (h : JAE X own [e, e2] f) (hg : Gl X "zip" := by rfl)
    (hs : starEach [e, e2] X.env = (false, eval e X.env) :: starEach [e2] X.env := by rfl) (hpl : (backTo pos (starEach [e2] X.env)).any (·.1) = false := by rfl) : JI X own (.Tuple elts kk tpos) (.Call (.Name "zip" p) [e, e2] [] pos) (izip f) := ⟨fun {P F0 H0 σ F H δ W o R} r tk hg' hP => by
  refine wi_of (RZ.pi_zipA hg hm pa_wa hs hpl) ?_
  unfold izip at hg'
  cases e0 : f δ with
  | none => rw [e0] at hg'; cases hg'
  | some y =>
    rw [e0] at hg'
    rcases y with ⟨x, δ1⟩ | ⟨ds, δ1⟩
    · cases hg'; exact h.run r tk e0 hP
    · dsimp only [bindE] at hg'
      split at hg'
      · cases hg'
        exact h.run r tk e0 fun vs F1 H1 r1 e1 rx => by
          obtain ⟨w, u, rfl, ra, rb⟩ := reps2 rx
          cases ra with | lst h1 r2 => cases rb with | lst h3 r4 => exact ⟨_, _, _, _, rfl, .inl ⟨SqL.of (r1.fh _ _ h1), SqL.of (r1.fh _ _ h3), hP _ F1 H1 r1 e1 (src_zipL (SqL.of h1) (SqL.of h3) r2 r4)⟩⟩
      · cases hg'
        exact h.run r tk e0 fun vs F1 H1 r1 e1 rx => by
          obtain ⟨w, u, rfl, ra, rb⟩ := reps2 rx
          cases ra with | tup h1 r2 => cases rb with | tup h3 r4 => exact ⟨_, _, _, _, rfl, .inr ⟨ex_t r1.fh h1, ex_t r1.fh h3, hP _ F1 H1 r1 e1 (src_zipT h1 h3 r2 r4)⟩⟩
      · cases hg'⟩
end PD
end
section
namespace PD
open PySem PySem.W PySem.Calls PyProof.Rows
/-! ### sorting tuples that are told apart before unlike places -/
mutual
def nodict : PyData → Bool
  | .list xs => nodicts xs
  | .tuple xs => nodicts xs
  | .dict _ => false
  | _ => true
def nodicts : List PyData → Bool
  | [] => true
  | x :: xs => nodict x && nodicts xs
end
mutual
theorem reads_uniq {h : Heap} : ∀ (d d' : PyData) (v : Value) (as as' : List Addr), nodict d = true → nodict d' = true → Reads h v d as → Reads h v d' as' → d = d'
  | .none, _, _, _, _, _, _, r, r' => by cases r; cases r'; rfl
  | .bool _, _, _, _, _, _, _, r, r' => by cases r; cases r'; rfl
  | .int _, _, _, _, _, _, _, r, r' => by cases r; cases r'; rfl
  | .str _, _, _, _, _, _, _, r, r' => by cases r; cases r'; rfl
  | .list xs, d', _, _, _, ha, hb, r, r' => by
    cases r with
    | list h1 h2 h3 h4 =>
      cases r' with
      | list k1 k2 k3 k4 =>
        rw [h1] at k1; cases k1
        rw [h3] at k3; cases k3
        rw [reads_uniqs xs _ _ _ _ (by simpa [nodict] using ha) (by simpa [nodict] using hb) h4 k4]
      | tuple k1 k2 k3 k4 =>
        rw [h1] at k1; cases k1
        rw [h2] at k2; exact absurd (Value.type.inj k2) (by decide)
      | dict k1 k2 k3 k4 k5 => simp [nodict] at hb
  | .tuple xs, d', _, _, _, ha, hb, r, r' => by
    cases r with
    | tuple h1 h2 h3 h4 =>
      cases r' with
      | tuple k1 k2 k3 k4 =>
        rw [h1] at k1; cases k1
        rw [h3] at k3; cases k3
        rw [reads_uniqs xs _ _ _ _ (by simpa [nodict] using ha) (by simpa [nodict] using hb) h4 k4]
      | list k1 k2 k3 k4 =>
        rw [h1] at k1; cases k1
        rw [h2] at k2; exact absurd (Value.type.inj k2) (by decide)
      | dict k1 k2 k3 k4 k5 => simp [nodict] at hb
  | .dict _, _, _, _, _, ha, _, _, _ => by simp [nodict] at ha
theorem reads_uniqs {h : Heap} : ∀ (xs ys : List PyData) (vs : List Value) (as as' : List Addr), nodicts xs = true → nodicts ys = true → ReadsAll h vs xs as → ReadsAll h vs ys as' → xs = ys
  | [], _, _, _, _, _, _, r, r' => by cases r; cases r'; rfl
  | x :: xs, [], _, _, _, _, _, r, r' => by cases r'; cases r
  | x :: xs, y :: ys, _, _, _, ha, hb, r, r' => by
    rw [nodicts, Bool.and_eq_true] at ha hb
    cases r with
    | cons h1 h2 =>
      cases r' with
      | cons k1 k2 => rw [reads_uniq x y _ _ _ ha.1 hb.1 h1 k1, reads_uniqs xs ys _ _ _ ha.2 hb.2 h2 k2]
end
/-- one after another alike, as far as they are the same -/
def lexOk : List PyData → List PyData → Bool
  | x :: xs, y :: ys => alike x y && (!PyData.eqv x y || lexOk xs ys)
  | _, _ => true
section
variable {prog : Program} {w : World} {A : Around} {s : Shared}
theorem katLex_ok {b fin : Bool} {Q : Bool → Shared → Prop} : ∀ (xs ys : List PyData) (i : Nat) (vs ws : List Value) (as bs : List Addr), ReadsAll s.heap vs xs as → ReadsAll s.heap ws ys bs → lexOk xs ys = true →
    A.units + min (PyData.depthAll xs) (PyData.depthAll ys) < cLine → (b = true → i = 0 → ∀ x r t, xs = x :: r → x ≠ .tuple t) → fin = decide (xs.length < ys.length) → Q (PyProof.Rows.lexLt itemOrd (keyToksAll xs) (keyToksAll ys)) s → KatLex prog w A b fin Q (vs.zip ws) i s
  | [], ys, i, vs, ws, as, bs, ra, rb, _, hu, hb, hf, hq => katLex_alike [] ys i vs ws as bs ra rb (by cases ys <;> simp [alikeAll]) hu hb hf hq
  | x :: xs, [], i, vs, ws, as, bs, ra, rb, _, hu, hb, hf, hq => katLex_alike (x :: xs) [] i vs ws as bs ra rb (by simp [alikeAll]) hu hb hf hq
  | x :: xs, y :: ys, i, _, _, _, _, ra, rb, h, hu, hb, hf, hq => by
    rw [lexOk, Bool.and_eq_true] at h
    obtain ⟨h1, h2⟩ := h
    have hf' : fin = decide (xs.length < ys.length) := by
      rw [hf]
      simp only [List.length_cons, Nat.add_lt_add_iff_right]
    cases ra with
    | cons r rs =>
      cases rb with
      | cons r' rs' =>
        rw [List.zip_cons_cons]
        refine kat_cons (eqAt_alike x y A s _ _ _ _ r r' h1 (SeqAt.room_head hu) prog w _ _ ?_)
        cases hx : PyData.eqv x y with
        | true =>
          rw [hx] at h2
          rw [dataLt_all_yes h1 hx] at hq
          exact kat_yes (katLex_ok xs ys (i + 1) _ _ _ _ rs rs' (by simpa using h2) (SeqAt.room_tail hu) (fun _ hi => absurd hi (Nat.succ_ne_zero i)) hf' hq)
        | false =>
          rw [dataLt_all_no h1 hx] at hq
          refine kat_no (oneLt_alike (fun hbi t => ?_) r r' h1 (ne_none_of h1 hx) (SeqAt.room_head hu) hq)
          rw [Bool.and_eq_true] at hbi
          exact hb hbi.1 (by simpa using hbi.2) x xs t rfl
def itemsOf : PyData → List PyData
  | .tuple xs => xs
  | _ => []
theorem dataKind_some' {h : Heap} {ds : List PyData} (nd : ∀ d ∈ ds, nodict d = true) {v : Value} {d : PyData} {as : List Addr} (hd : d ∈ ds) (r : Reads h v d as) : (dataKind h ds).keyOf v = some (keyToks d) := by
  have q : ∃ d, d ∈ ds ∧ ∃ as, Reads h v d as := ⟨d, hd, as, r⟩
  have e : (dataKind h ds).keyOf v = some (keyToks q.choose) := by
    show (open Classical in if q : ∃ d, d ∈ ds ∧ ∃ as, Reads h v d as then some (keyToks q.choose) else none) = _
    rw [dif_pos q]
  obtain ⟨h1, as', h2⟩ := q.choose_spec
  rw [e, reads_uniq _ _ _ _ _ (nd _ h1) (nd _ hd) h2 r]
theorem sortsLex {vs : List Value} {ds : List PyData} (e : EachIs (fun v d => ∃ as, Reads s.heap v d as) vs ds) (nd : ∀ d ∈ ds, nodict d = true) (ht : ∀ d, d ∈ ds → ∃ x r, d = .tuple (x :: r)) (hl : ∀ d ∈ ds, ∀ d' ∈ ds, lexOk (itemsOf d) (itemsOf d') = true) (hu : ∀ d, d ∈ ds → A.units + d.depth < cLine) : SortsAt prog w A s (dataKind s.heap ds) vs := by
  have room : ∀ {d d' : PyData}, d ∈ ds → A.units + min d.depth d'.depth < cLine := fun {d d'} hd => Nat.lt_of_le_of_lt (Nat.add_le_add_left (Nat.min_le_left _ _) _) (hu d hd)
  refine ⟨fun v hv => ?_, ?_⟩
  · obtain ⟨d, hd, as, r⟩ := e.left v hv
    exact ⟨_, dataKind_some' nd hd r⟩
  · cases ds with
    | nil =>
      cases e
      exact ⟨general', fun E x y a b Q ha _ _ => (by
        obtain ⟨d, _, hd, _⟩ := dataKind_inv ha
        exact absurd hd (by simp)), fun h2 => absurd h2 (by simp)⟩
    | cons d₀ ds₀ =>
      obtain ⟨x₀, r₀, e₀⟩ := ht d₀ (List.mem_cons_self ..)
      have hfirst : ∀ x r, PyData.tuple (x :: r) ∈ d₀ :: ds₀ → alike x x₀ = true := by
        intro x r hm
        have q := hl _ hm d₀ (List.mem_cons_self ..)
        rw [e₀] at q
        simp only [itemsOf, lexOk, Bool.and_eq_true] at q
        exact q.1
      refine ⟨tuples' (dataType x₀ != Value.type "tuple"), ?_, fun h2 E Q hq => ?_⟩
      · intro E x y a b Q ha hb hq
        obtain ⟨d, as, hd, ra, rfl⟩ := dataKind_inv ha
        obtain ⟨d', as', hd', rb, rfl⟩ := dataKind_inv hb
        have hdd := hl d hd d' hd'
        have hroom := room (d' := d') hd
        obtain ⟨x1, r1, rfl⟩ := ht d hd
        obtain ⟨x2, r2, rfl⟩ := ht d' hd'
        have hq' : Q (dataLt (.tuple (x1 :: r1)) (.tuple (x2 :: r2))) s := hq
        rw [dataLt_tuple] at hq'
        cases ra with
        | @tuple l o xs n _ _ h1 h2 h3 h4 =>
          cases rb with
          | @tuple l' o' xs' n' _ _ k1 k2 k3 k4 =>
            have n1 : xs.size = (x1 :: r1).length := by simpa using SeqAt.ReadsAll.length _ _ _ h4
            have n2 : xs'.size = (x2 :: r2).length := by simpa using SeqAt.ReadsAll.length _ _ _ k4
            refine kat_lt h1 h3 k1 k3 (katLex_ok (x1 :: r1) (x2 :: r2) 0 _ _ _ _ h4 k4 hdd (by have q := SeqAt.room_in hroom; omega) (fun hb _ x r t ex => ?_) (by rw [n1, n2]) hq')
            obtain ⟨rfl, rfl⟩ := List.cons.inj ex
            have q := dataType_alike (hfirst _ _ hd)
            rw [← q] at hb
            exact dataType_tuple hb t
      · obtain ⟨fs, t1, t2, t3⟩ := each_katTups e ht
        refine kat_kind (T := dataType x₀) t1 (by omega) (fun f hf => ?_) (beq_self_eq_true _) hq
        obtain ⟨x, r, as, m1, m2⟩ := t3 f hf
        rw [← dataType_alike (hfirst x r m1)]
        exact looks_reads m2
end
/-- what can be sorted, told by a computation -/
def sortOk (ds : List PyData) : Bool := (ds.all fun d => decide (d.depth ≤ 64) && nodict d) && ((ds.all fun d => match d with | .tuple (_ :: _) => true | _ => false) && (ds.all fun d => ds.all fun d' => lexOk (itemsOf d) (itemsOf d')) ||
  (ds.all fun d => match d with | .none => false | .tuple _ => false | _ => true) && (ds.all fun d => ds.all fun d' => alike d d'))
theorem sortsOk {prog : Program} {w : World} {A : Around} {s : Shared} {vs : List Value} {ds : List PyData} (e : EachIs (fun v d => ∃ as, Reads s.heap v d as) vs ds) (h : sortOk ds = true) (hu : A.units + 65 < cLine) : SortsAt prog w A s (dataKind s.heap ds) vs ∧ ∀ d ∈ ds, nodict d = true := by
  unfold sortOk at h
  rw [Bool.and_eq_true] at h
  have hs : ∀ d ∈ ds, d.depth ≤ 64 ∧ nodict d = true := fun d hd => by
    have := List.all_eq_true.1 h.1 d hd
    rw [Bool.and_eq_true] at this
    exact ⟨of_decide_eq_true this.1, this.2⟩
  have hd : ∀ d ∈ ds, A.units + d.depth < cLine := fun d hd => by have := (hs d hd).1; omega
  refine ⟨?_, fun d hd => (hs d hd).2⟩
  rcases Bool.or_eq_true_iff.1 h.2 with h | h
  · rw [Bool.and_eq_true] at h
    refine sortsLex e (fun d hd => (hs d hd).2) (fun d hd => ?_) (fun d hd d' hd' => List.all_eq_true.1 (List.all_eq_true.1 h.2 d hd) d' hd') hd
    have := List.all_eq_true.1 h.1 d hd
    split at this
    · exact ⟨_, _, rfl⟩
    · cases this
  · rw [Bool.and_eq_true] at h
    refine SortsAt.data e (fun d hd d' hd' => List.all_eq_true.1 (List.all_eq_true.1 h.2 d hd) d' hd') (.inr fun d hd => ?_) hd
    have := List.all_eq_true.1 h.1 d hd
    constructor
    · rintro rfl; cases this
    · rintro xs rfl; cases this
end PD
end
section
namespace PD
open PySem PySem.W L2
/-! ### sorting by insertion -/
section
variable {α β : Type}
def insB (le : α → α → Bool) (x : α) : List α → List α
  | [] => [x]
  | y :: ys => if le x y then x :: y :: ys else y :: insB le x ys
def isort (le : α → α → Bool) : List α → List α
  | [] => []
  | x :: xs => insB le x (isort le xs)
theorem insB_mem (le : α → α → Bool) (x z : α) : ∀ ys, z ∈ insB le x ys ↔ z = x ∨ z ∈ ys
  | [] => by simp [insB]
  | y :: ys => by
    unfold insB
    split
    · simp
    · rw [List.mem_cons, insB_mem le x z ys, List.mem_cons]
      constructor
      · rintro (h | h | h)
        · exact .inr (.inl h)
        · exact .inl h
        · exact .inr (.inr h)
      · rintro (h | h | h)
        · exact .inr (.inl h)
        · exact .inl h
        · exact .inr (.inr h)
theorem isort_mem (le : α → α → Bool) (z : α) : ∀ ys, z ∈ isort le ys ↔ z ∈ ys
  | [] => by simp [isort]
  | y :: ys => by rw [isort, insB_mem, isort_mem le z ys, List.mem_cons]
theorem insB_sorted {le : α → α → Bool} (h : TotalLe le) (x : α) : ∀ ys, ys.Pairwise (fun a b => le a b = true) → (insB le x ys).Pairwise (fun a b => le a b = true)
  | [], _ => by simp [insB]
  | y :: ys, hp => by
    rw [List.pairwise_cons] at hp
    unfold insB
    split
    · rename_i hx
      refine List.pairwise_cons.2 ⟨fun z hz => ?_, List.pairwise_cons.2 hp⟩
      rcases List.mem_cons.1 hz with rfl | hz
      · exact hx
      · exact h.trans _ _ _ hx (hp.1 z hz)
    · rename_i hx
      refine List.pairwise_cons.2 ⟨fun z hz => ?_, insB_sorted h x ys hp.2⟩
      rcases (insB_mem le x z ys).1 hz with rfl | hz
      · rcases h.total z y with q | q
        · exact absurd q hx
        · exact q
      · exact hp.1 z hz
theorem insB_filter {le : α → α → Bool} (h : TotalLe le) (c x : α) : ∀ ys, (insB le x ys).filter (sameRank le c) = (x :: ys).filter (sameRank le c)
  | [] => rfl
  | y :: ys => by
    unfold insB
    split
    · rfl
    · rename_i hx
      rw [List.filter_cons, insB_filter h c x ys]
      by_cases hc : sameRank le c x = true
      · have hy : sameRank le c y = false := by
          cases hh : sameRank le c y with
          | false => rfl
          | true =>
            unfold sameRank at hc hh
            rw [Bool.and_eq_true] at hc hh
            exact absurd (h.trans _ _ _ hc.2 hh.1) hx
        simp [List.filter_cons, hc, hy]
      · simp [List.filter_cons, hc]
theorem isort_sorted {le : α → α → Bool} (h : TotalLe le) : ∀ ys, (isort le ys).Pairwise (fun a b => le a b = true)
  | [] => List.Pairwise.nil
  | y :: ys => insB_sorted h y _ (isort_sorted h ys)
theorem isort_filter {le : α → α → Bool} (h : TotalLe le) (c : α) : ∀ ys, (isort le ys).filter (sameRank le c) = ys.filter (sameRank le c)
  | [] => rfl
  | y :: ys => by rw [isort, insB_filter h, List.filter_cons, isort_filter h c ys, ← List.filter_cons]
theorem isort_eq {le : α → α → Bool} (h : TotalLe le) (ys : List α) : isort le ys = ys.mergeSort le := sort_unique h (isort_sorted h ys) fun c => isort_filter h c ys
end
/-! ### sorted of a list of data -/
def pyOf (d : D) : PyData := (toPy d).getD .none
def leD : D → D → Bool := dataLe false pyOf
theorem leD_total : TotalLe leD := sortLe_total (PyProof.Rows.listOrd PyProof.Rows.itemOrd) false fun b => keyToks (pyOf b)
/-- what sorted gives, where it is told -/
def sortD (xs : List D) : Option (List D) := (toPys xs).bind fun ps => if sortOk ps then some (isort leD xs) else none
def rSortedX (K : Frag) : List V → Hp → VK → Prop := fun vs H Q => ∃ a xs ps, vs = [V.ref a] ∧ SqL K H a xs ∧ DpAll K H xs ps ∧ sortOk ps = true ∧
  ∀ p, H p = none → Q (.ref p) (upd H p (.lst (((xs.zip ps).mergeSort (dataLe false Prod.snd)).map Prod.fst)))
section
variable {X : Cx}
theorem each_dp {pins : List (Addr × Obj)} {σ : St} {H : Hp} {s : Shared} (I : Inv X pins σ H s) : ∀ {xs : List V} {us : List Value} {ps : List PyData}, Vals xs us → DpAll X.K H xs ps → EachIs (fun v (b : V × PyData) => RelV b.1 v ∧ ∃ as, Reads s.heap v b.2 as) us (xs.zip ps)
  | _, _, [], .nil, _ => .nil
  | _, _, p :: ps, .nil, h => by cases h
  | _, _, [], .cons r t, h => by cases h
  | _, _, p :: ps, .cons r t, h => by
    cases h with
    | cons h1 h2 => exact .cons ⟨r, Dp.reads I _ _ _ h1 r⟩ (each_dp I t h2)
theorem dpAll_len {K : Frag} {H : Hp} : ∀ {xs : List V} {ps : List PyData}, DpAll K H xs ps → xs.length = ps.length
  | [], [], _ => rfl
  | [], _ :: _, h => by cases h
  | _ :: _, [], h => by cases h
  | _ :: xs, _ :: ps, h => by
    cases h with
    | cons h1 h2 => simp [dpAll_len h2]
theorem vals_each : ∀ {us : List Value} {bs : List (V × PyData)}, EachIs (fun v (b : V × PyData) => RelV b.1 v) us bs → Vals (bs.map Prod.fst) us
  | _, _, .nil => .nil
  | _, _, .cons h t => .cons h (vals_each t)
theorem cr_sortedX (hu : X.A.units + 70 < cLine) : CallR X (.builtin "sorted") (rSortedX X.K) := by
  intro pins s σ H vs us Q I r h
  obtain ⟨a, xs, ps, rfl, hs, hd, hok, q⟩ := h
  obtain ⟨its, rv, hl, hz⟩ := I.list hs
  rw [Vals.ref1 r]
  have e0 := each_dp I rv hd
  have hps : (xs.zip ps).map Prod.snd = ps := List.map_snd_zip (by rw [dpAll_len hd]; exact Nat.le_refl _)
  have er : EachIs (fun v d => ∃ as, Reads (sortingHeap (copyHeap s.heap its) (s.heap.objs.size + 1) its) v d as) its ps := by
    have := each_map (R := fun v d => ∃ as, Reads (sortingHeap (copyHeap s.heap its) (s.heap.objs.size + 1) its) v d as) Prod.snd (e0.mono fun v b h => ⟨h.2.choose, PyProof.Rows.Reads.keeps (fun _ _ => sorting_copy_old) h.2.choose_spec⟩)
    rwa [hps] at this
  obtain ⟨S, nd⟩ := sortsOk (prog := X.prog) (w := X.w) (A := X.A.in1.in1) (s := { s with heap := sortingHeap (copyHeap s.heap its) (s.heap.objs.size + 1) its }) er hok (by show X.A.units + 1 + 1 + 65 < cLine; omega)
  refine sorted_vals hl.isList S (by rw [← rv.length]; exact hz) ?_
  have hk : EachIs (fun v (b : V × PyData) => (dataKind (sortingHeap (copyHeap s.heap its) (s.heap.objs.size + 1) its) ps).keyOf v = some (keyToks b.2)) its (xs.zip ps) := by
    have l1 := e0.length
    refine EachIs.of_zip l1 fun z hz => ?_
    obtain ⟨h1, as, h2⟩ := e0.zip z hz
    exact dataKind_some' nd (List.of_mem_zip (List.of_mem_zip hz).2).2 (PyProof.Rows.Reads.keeps (fun _ _ => sorting_copy_old) h2)
  have hv := vals_each (sortVals_each (κ := dataKind (sortingHeap (copyHeap s.heap its) (s.heap.objs.size + 1) its) ps) (rev := false) (fun b : V × PyData => keyToks b.2) (e0.mono fun v b h => h.1) hk)
  obtain ⟨ep, he'⟩ := PyProof.Rows.sortedAll_at s.heap its (sortVals (dataKind (sortingHeap (copyHeap s.heap its) (s.heap.objs.size + 1) its) ps) false its its).toArray
  refine ⟨.ref _, upd H (s.heap.objs.size + 1) (.lst (((xs.zip ps).mergeSort (dataLe false Prod.snd)).map Prod.fst)), I.laid (t' := s.toks) (fun _ _ => PyProof.Rows.sortedAll_old) (Nat.le_succ _) ⟨?_, _, ep, hv, he'⟩, rfl, q _ (I.hok.fresh (Nat.le_succ _))⟩
  rw [List.length_map, (List.mergeSort_perm _ _).length_eq, List.length_zip, dpAll_len hd, Nat.min_self, ← dpAll_len hd]
  exact hz
end
/-- a list's items, frozen or the script's -/
def seqL : D → Option (List D)
  | .lst xs => some xs
  | .scr xs => some xs
  | _ => none
theorem seqL_rep {K : Frag} {F H : Hp} {v : V} {d : D} {xs : List D} (e : Ex F H) (r : Rep K F v d) (h : seqL d = some xs) : ∃ a vs, v = .ref a ∧ SqL K H a vs ∧ Reps K F vs xs := by
  cases r with
  | lst h' r' => cases h; exact ⟨_, _, rfl, .inl (.inl (e _ _ h')), r'⟩
  | scr h' r' => cases h; exact ⟨_, _, rfl, ex_l e h', r'⟩
  | _ => cases h
def dSorted (d : D) : Option D := (seqL d).bind fun xs => (sortD xs).map .lst
theorem toPys_map : ∀ {ds : List D} {ps : List PyData}, toPys ds = some ps → ps = ds.map pyOf
  | [], _, h => by simp [toPys] at h; subst h; rfl
  | d :: ds, _, h => by
    rw [toPys] at h
    cases h1 : toPy d with
    | none => rw [h1] at h; simp at h
    | some p =>
      cases h2 : toPys ds with
      | none => rw [h1, h2] at h; simp at h
      | some qs =>
        rw [h1, h2] at h
        simp only [Option.bind_some, Option.map_some, Option.some.injEq] at h
        subst h
        rw [List.map_cons, ← toPys_map h2]
        simp [pyOf, h1]
theorem reps_zip {K : Frag} {F : Hp} : ∀ {vs : List V} {ds : List D}, Reps K F vs ds → ∀ z ∈ vs.zip ds, Rep K F z.1 z.2
  | _, _, .nil, z, hz => by simp at hz
  | _, _, .cons h r, z, hz => by
    rw [List.zip_cons_cons] at hz
    rcases List.mem_cons.1 hz with rfl | hz
    · exact h
    · exact reps_zip r z hz
theorem reps_of_zip {K : Frag} {F : Hp} : ∀ {zs : List (V × D)}, (∀ z ∈ zs, Rep K F z.1 z.2) → Reps K F (zs.map Prod.fst) (zs.map Prod.snd)
  | [], _ => .nil
  | z :: zs, h => .cons (h z (List.mem_cons_self ..)) (reps_of_zip fun y hy => h y (List.mem_cons_of_mem _ hy))
theorem d_sorted {K : Frag} : CallD K (rSortedX K) (one dSorted) := fun {F H vs xs z} e r h Q q => by
  obtain ⟨x, rfl, h⟩ := one_some h
  obtain ⟨w, rfl, rx⟩ := reps1 r
  replace h : ((seqL x).bind fun xs => (sortD xs).map .lst) = some z := h
  cases h1 : seqL x with
  | none => rw [h1] at h; cases h
  | some ds =>
    rw [h1, Option.bind_some] at h
    obtain ⟨a, ws, rfl, hs, rs⟩ := seqL_rep e rx h1
    unfold sortD at h
    cases h2 : toPys ds with
    | none => rw [h2] at h; cases h
    | some ps =>
      rw [h2, Option.bind_some] at h
      split at h
      · rename_i h3
        cases h
        refine ⟨a, ws, ps, rfl, hs, dps_of e rs h2, h3, fun p hp => ?_⟩
        have hpn : F p = none := by
          cases hF : F p with
          | none => rfl
          | some o => exact absurd (e _ _ hF) (by rw [hp]; simp)
        have hlen : ws.length = ds.length := Rep.len rs
        have hps := toPys_map h2
        have ez : ws.zip ps = (ws.zip ds).map fun z => (z.1, pyOf z.2) := by
          rw [hps, List.zip_map_right]; rfl
        have e1 : (ws.zip ps).mergeSort (dataLe false Prod.snd) = ((ws.zip ds).mergeSort (dataLe false fun z => pyOf z.2)).map fun z => (z.1, pyOf z.2) := by
          rw [ez]; exact (sort_maps (r := dataLe false fun z : V × D => pyOf z.2) (s := dataLe false Prod.snd) (fun z : V × D => (z.1, pyOf z.2)) (fun a _ b _ => rfl)).symm
        have e2 : isort leD ds = ((ws.zip ds).mergeSort (dataLe false fun z => pyOf z.2)).map Prod.snd := by
          rw [isort_eq leD_total, sort_maps (r := dataLe false fun z : V × D => pyOf z.2) (s := leD) Prod.snd (fun a _ b _ => rfl), List.map_snd_zip (by omega)]
        have e3 : ((ws.zip ps).mergeSort (dataLe false Prod.snd)).map Prod.fst = ((ws.zip ds).mergeSort (dataLe false fun z => pyOf z.2)).map Prod.fst := by
          rw [e1, List.map_map]; rfl
        rw [e3]
        have hr : Reps K F (((ws.zip ds).mergeSort (dataLe false fun z => pyOf z.2)).map Prod.fst) (isort leD ds) := by
          rw [e2]
          exact reps_of_zip fun z hz => reps_zip rs z ((List.mergeSort_perm _ _).mem_iff.1 hz)
        exact q _ _ _ (.new e hp) (.lst upd_same (hr.mono (Ex.new hpn)))
      · cases h
end PD
end
section
namespace PD
open PySem L2
/-! ### a slot's own container held fast for good -/
section
variable {K : Frag} {own : List Nat} {P : Pm} {F0 H0 F : Hp} {σ : L2.St} {H : Hp} {δ : Env}
/-- the box is there -/
def bxIn (own : List Nat) (δ : Env) : Bool := !own.contains 0 || (match δ[(0 : Nat)]? with
  | some (some _) => true
  | _ => false)
theorem RS.frz1 [PmOk P] {i : Nat} (r : RS K own P F0 H0 F σ H δ) (hb : bxIn own δ = true) (hz : i ≠ 0) : ∃ F', Ex F F' ∧ RS K (own.filter (· != i)) P F0 H0 F' σ H δ := by
  classical
  obtain ⟨fp, h1, h2, h3⟩ := r.own
  by_cases hi : i ∈ own ∧ ∃ d, δ[i]? = some (some d)
  · obtain ⟨hi, d, hd⟩ := hi
    obtain ⟨v, hv, o⟩ := h1 i d hi hd
    have hnew : ∀ a, a ∈ fp i → H0 a = none := fun a ha => (h2 i a ha).2.2.elim id fun q => absurd (q.2 (PmOk.ok a q.1)) hz
    let F' : Hp := fun a => if a ∈ fp i then H a else F a
    have hin : ∀ a, a ∈ fp i → F' a = H a := fun a ha => if_pos ha
    have hout : ∀ a, a ∉ fp i → F' a = F a := fun a ha => if_neg ha
    have ef : Ex F F' := fun a q e => by
      by_cases x : a ∈ fp i
      · rw [(h2 i a x).1] at e; cases e
      · rw [hout a x]; exact e
    have rep : Rep K F' v d := by
      clear h1 h2 h3
      generalize fp i = fpi at o hin
      cases o with
      | lst h rr => exact .lst (by rw [hin _ (by simp)]; exact h) (rr.mono ef)
      | dic h rr => exact .dic (by rw [hin _ (by simp)]; exact h) (rr.mono ef)
      | obj h =>
        refine .obj (by rw [hin _ h.inp]; exact h.ob) (by rw [hin _ h.inx]; exact h.dxo) (repO_of fun j e hj => ?_)
        obtain ⟨w, hw, rw'⟩ := h.fld j e hj
        refine ⟨w, hw, ?_⟩
        split at rw'
        · obtain ⟨oc, hk, _⟩ := rw'
          cases oc with
          | lst h2 r2 => exact .lst (by rw [hin _ hk]; exact h2) (r2.mono ef)
          | dic h2 r2 => exact .dic (by rw [hin _ hk]; exact h2) (r2.mono ef)
        · exact rw'.mono ef
    refine ⟨F', ef, ?_⟩
    exact {
      ff := r.ff.trans ef
      fh := fun a q e => by
        by_cases x : a ∈ fp i
        · rw [hin a x] at e; exact e
        · rw [hout a x] at e; exact r.fh a q e
      hh := r.hh
      dm := r.dm
      nw := fun a e => by
        by_cases x : a ∈ fp i
        · exact .inr (hnew a x)
        · rw [hout a x] at e; exact r.nw a e
      ln := r.ln
      bxh := r.bxh
      par := fun a h => ⟨List.mem_filter.2 ⟨(r.par a h).1, by simp; exact fun q => hz q.symm⟩, (r.par a h).2⟩
      val := fun j dj hj e => by
        by_cases q : j = i
        · subst q
          rw [hd] at e; cases e
          exact ⟨v, hv, rep⟩
        · have hj' : j ∉ own := fun z => hj (List.mem_filter.2 ⟨z, by simpa using q⟩)
          obtain ⟨w, hw, rw'⟩ := r.val j dj hj' e
          exact ⟨w, hw, rw'.mono ef⟩
      own := by
        refine ⟨fun j => if j = i then [] else fp j, fun j dj hj e => ?_, fun j a ha => ?_, fun j k a hjk ha hk => ?_⟩
        · obtain ⟨z1, z2⟩ := List.mem_filter.1 hj
          have q : j ≠ i := by simpa using z2
          dsimp only
          rw [if_neg q]
          obtain ⟨w, hw, ow⟩ := h1 j dj z1 e
          exact ⟨w, hw, ow.keep ef fun a _ o e => e⟩
        · dsimp only at ha
          by_cases q : j = i
          · rw [if_pos q] at ha; cases ha
          · rw [if_neg q] at ha
            obtain ⟨b1, b2, b3⟩ := h2 j a ha
            exact ⟨by rw [hout a (fun x => h3 i j a (fun z => q z.symm) x ha)]; exact b1, b2, b3⟩
        · dsimp only at ha
          by_cases q : j = i
          · rw [if_pos q] at ha; cases ha
          · rw [if_neg q] at ha
            dsimp only at hk
            by_cases q2 : k = i
            · rw [if_pos q2] at hk; cases hk
            · rw [if_neg q2] at hk
              exact h3 j k a hjk ha hk }
  · refine ⟨F, Ex.refl _, ?_⟩
    exact {
      ff := r.ff, fh := r.fh, hh := r.hh, dm := r.dm, nw := r.nw, ln := r.ln, bxh := r.bxh
      par := fun a h => ⟨List.mem_filter.2 ⟨(r.par a h).1, by simp; exact fun q => hz q.symm⟩, (r.par a h).2⟩
      val := fun j dj hj e => by
        by_cases q : j = i
        · subst q
          exact r.val j dj (fun z => hi ⟨z, dj, e⟩) e
        · exact r.val j dj (fun z => hj (List.mem_filter.2 ⟨z, by simpa using q⟩)) e
      own := ⟨fp, fun j dj hj e => h1 j dj (List.mem_filter.1 hj).1 e, h2, h3⟩ }
end
def sfrz (own : List Nat) (k : Env → RO) : Env → RO := fun δ => if bxIn own δ = true then k δ else none
section
variable {X : Cx} {own : List Nat}
/-- the end of a def's body -/
structure JB (X : Cx) (own : List Nat) (st : List Stmt) (g : Env → RO) : Prop where
  run : ∀ {P F0 H0 σ F H δ W o D} [PmOk P], RSf X ⟨own, P, F0, H0⟩ F σ H δ → Takes X W → g δ = some o → (∀ own' : List Nat, (∀ a, P.rt a → 0 ∈ own') → PostS X ⟨own', P, F0, H0⟩ F W o D) → WSs X st D σ H
theorem jb_of {st : List Stmt} {g : Env → RO} (h : JSs X own st g) : JB X own st g := ⟨fun {P F0 H0 σ F H δ W o D} _ r tk hg hP => h.run r tk hg (hP own fun a ha => (r.par a ha).1)⟩
theorem jb_cons {st : Stmt} {rest : List Stmt} {g k : Env → RO} (h : JS X own st g) (hr : JB X own rest k) : JB X own (st :: rest) (sseq g k) := ⟨fun {P F0 H0 σ F H δ W o D} _ r tk hg hP => by
  refine wss_of (pss_cons ps_ws pss_wss) ?_
  show WS X st { D with nx := WSs X rest D } σ H
  have hb : ∀ a, P.rt a → 0 ∈ own := fun a ha => (r.par a ha).1
  unfold sseq at hg
  cases e : g δ with
  | none => rw [e] at hg; cases hg
  | some y => rcases y with x | ⟨o1, δ1⟩
              · rw [e] at hg; cases hg; exact h.run r tk e (hP own hb)
              · cases o1 with
                | nx => rw [e] at hg; exact h.run r tk e fun σ' F' H' r1 e1 => hr.run r1 tk hg fun own' h' => (hP own' h').later e1
                | rt d => rw [e] at hg; cases hg; exact h.run r tk e (hP own hb)
                | bk => rw [e] at hg; cases hg; exact h.run r tk e (hP own hb)
                | ct => rw [e] at hg; cases hg; exact h.run r tk e (hP own hb)⟩
theorem jb_frz (i : Nat) {own' : List Nat} {st : List Stmt} {k : Env → RO} (h : JB X own' st k) (ho : own.filter (· != i) = own' := by rfl) (hz : i ≠ 0 := by decide) : JB X own st (sfrz own k) := ⟨fun {P F0 H0 σ F H δ W o D} _ r tk hg hP => by
  subst ho
  unfold sfrz at hg
  split at hg
  · rename_i hb
    obtain ⟨F', e, r'⟩ := RS.frz1 r hb hz
    exact h.run r' tk hg fun own' h' => (hP own' h').later e
  · cases hg⟩
theorem jb_if {q : Expr} {a b : List Stmt} {pos : Pos} {t : Env → RE Bool} {f g : Env → RO} (hq : JTE X own q t) (ha : JB X own a f) (hb : JB X own b g) : JB X own [.If q a b pos] (sif t f g) := ⟨fun {P F0 H0 σ F H δ W o D} _ r tk hg hP => by
  have h0 : ∀ a, P.rt a → 0 ∈ own := fun a ha => (r.par a ha).1
  refine wss_of (pss_one (ps_if pt_wt pss_wss pss_wss)) ?_
  show WT X q σ H fun k H1 => if k = true then WSs X a D σ H1 else WSs X b D σ H1
  unfold sif at hg
  cases e : t δ with
  | none => rw [e] at hg; cases hg
  | some y => cases y with
    | error x => rw [e] at hg; cases hg; exact hq.run r tk e fun c d F' H' r1 e1 rx => hP own h0 c d σ F' H' r1 e1 rx
    | ok x =>
      rw [e] at hg
      obtain ⟨x, δ1⟩ := x
      refine hq.run r tk e fun v F1 H1 r1 e1 rx => ?_
      cases rx
      dsimp only [bindE] at hg
      cases x with
      | true => rw [if_pos rfl] at *; exact ha.run r1 tk hg fun own' h' => (hP own' h').later e1
      | false => rw [if_neg Bool.false_ne_true] at *; exact hb.run r1 tk hg fun own' h' => (hP own' h').later e1⟩
end
section
variable {P : Program} {w : World} {K : Frag} {mg : Str → Option Value} {base : Heap}
theorem RS.any {own : List Nat} {F0 H0 F : Hp} {σ : L2.St} {H : Hp} {δ : Env} (r : RS K own Pm.no F0 H0 F σ H δ) : Grow F0 H0 F H := ⟨r.ff, r.fh, fun a o h => r.hh a o (fun h => h.elim) h, r.nw⟩
theorem bd_okB {qual : Str} {body : List Stmt} {scope : Scope} {f : Addr} {N ps : List Str} {own : List Nat} {g : Env → RO} (hon : own.all (fun i => decide (ps.length ≤ i)) = true)
    (hps : decide (ps.length ≤ N.length) = true)
    {cdv : Value} {A : Around} {outer : List PySem.Env} {s : Shared} {H : Hp} {E : XK} {vs : List V} {Q : VK} (hb : JB (cxOf (L2.CX P w) P w K mg base N qual scope f cdv A outer s H E) own body g) (h : spP K (den ps.length N.length g) vs H Q E) :
    ∃ t, PSs (cxOf (L2.CX P w) P w K mg base N qual scope f cdv A outer s H E) body t ∧ t { nx := fun _ H' => Q .non H', rt := Q } (L2.start N vs) H := by
  obtain ⟨F', ds, o, e, r, h1, hP⟩ := h
  unfold den at h1
  by_cases hl : ds.length = ps.length
  · rw [if_pos hl] at h1
    have hl' : ps.length ≤ N.length := of_decide_eq_true hps
    have hlv : vs.length = ps.length := by rw [Rep.len r, hl]
    refine ⟨_, pss_wss, ?_⟩
    have tk : Takes (cxOf (L2.CX P w) P w K mg base N qual scope f cdv A outer s H E) (fun cls d _ H => E cls d H) := takes_of rfl rfl rfl rfl
    have R0 : RSf (cxOf (L2.CX P w) P w K mg base N qual scope f cdv A outer s H E) ⟨own, Pm.no, F', H⟩ F' (L2.start N vs) H (ds.map some ++ List.replicate (N.length - ps.length) none) := {
      ff := Ex.refl _
      fh := e
      hh := fun _ _ _ h => h
      dm := fun _ h => h
      nw := fun _ h => .inl h
      ln := by unfold L2.start; simp [hl, hlv]
      par := fun _ h => h.elim
      bxh := fun _ h => h.elim
      val := fun i d _ h => by
        unfold L2.start
        exact Reps.some_get r h
      own := ⟨fun _ => [], And.intro (fun (i : Nat) (d : D) hi (h : (List.map some ds ++ List.replicate (N.length - ps.length) (none : Option D))[i]? = some (some d)) => by
        have := of_decide_eq_true (List.all_eq_true.1 hon i hi)
        rw [List.getElem?_append_right (by rw [List.length_map, hl]; exact this), List.getElem?_replicate] at h
        split at h <;> cases h) (And.intro (fun i a h => absurd h (by simp)) (fun i j a _ h => absurd h (by simp)))⟩ }
    cases e2 : g (ds.map some ++ List.replicate (N.length - ps.length) none) with
    | none => rw [e2] at h1; cases h1
    | some y =>
      rw [e2] at h1
      refine hb.run R0 tk e2 fun own' _ => ?_
      rcases y with ⟨x, δ'⟩ | ⟨o1, δ'⟩
      · cases h1
        exact fun cls dd σ' F1 H1 r1 e1 rx => hP cls dd F1 H1 r1.any rx
      · cases o1 with
        | rt d => cases h1; exact fun v σ' F1 H1 r1 e1 rx => hP v F1 H1 r1.any rx
        | nx => cases h1; exact fun σ' F1 H1 r1 e1 => hP .non F1 H1 r1.any .non
        | bk => cases h1
        | ct => cases h1
  · rw [if_neg hl] at h1; cases h1
theorem fn_okB {x qual : Str} {params : Arguments} {body : List Stmt} {scope : Scope} {f : Addr} {fd : FuncData} {dvs : List V} {kws : List (Str × V)} {N ps : List Str} {k : Nat} {own : List Nat} {g : Env → RO} (F : FunD K x qual params body scope dvs kws f fd) (S : FnScope N ps scope) (hon : own.all (fun i => decide (ps.length ≤ i)) = true)
    (hps : decide (ps.length ≤ N.length) = true)
    (hb : ∀ (cdv : Value) (A : Around) (outer : List PySem.Env) (s : Shared) (H : Hp) (E : XK), Room k (A.deeper (PyProof.Rows.envOfC qual scope s.heap.objs.size f cdv)) → JB (cxOf (L2.CX P w) P w K mg base N qual scope f cdv A outer s H E) own body g) :
    FnOk P w K mg base (L2.CX P w) (k + 1) f fd ps (spP K (den ps.length N.length g)) := by
  refine FunD.ok F S (fun vs H Q E h => ?_) (fun cdv A outer s H vs Q E hr h => bd_okB hon hps (hb cdv A outer s H E hr) h)
  obtain ⟨F', ds, o, e, r, h1, _⟩ := h
  unfold den at h1
  by_cases hl : ds.length = ps.length
  · rw [Rep.len r, hl]
  · rw [if_neg hl] at h1; cases h1
theorem bdB_okB {qual : Str} {body : List Stmt} {scope : Scope} {f : Addr} {N ps : List Str} {own : List Nat} {g : Env → RO} (hon : own.all (fun i => decide (i = 0 ∨ ps.length ≤ i)) = true) (h0 : own.contains 0 = true)
    (hps : decide (ps.length ≤ N.length) = true)
    {cdv : Value} {A : Around} {outer : List PySem.Env} {s : Shared} {H : Hp} {E : XK} {vs : List V} {Q : VK} (hb : JB (cxOf (L2.CX P w) P w K mg base N qual scope f cdv A outer s H E) own body g) (h : spB K (denB ps.length N.length g) vs H Q E) :
    ∃ t, PSs (cxOf (L2.CX P w) P w K mg base N qual scope f cdv A outer s H E) body t ∧ t { nx := fun _ H' => Q .non H', rt := Q } (L2.start N vs) H := by
  obtain ⟨F', p, ws, bs, B, ds, d, B', rfl, e, hF, hH, rb, rd, h1, hP⟩ := h
  unfold denB at h1
  by_cases hl : ds.length + 1 = ps.length
  · rw [if_pos hl] at h1
    have hl' : ps.length ≤ N.length := of_decide_eq_true hps
    have hlv : ws.length = ds.length := Rep.len rd
    have h0' : 0 ∈ own := by simpa using h0
    refine ⟨_, pss_wss, ?_⟩
    have tk : Takes (cxOf (L2.CX P w) P w K mg base N qual scope f cdv A outer s H E) (fun cls d _ H => E cls d H) := takes_of rfl rfl rfl rfl
    have R0 : RSf (cxOf (L2.CX P w) P w K mg base N qual scope f cdv A outer s H E) ⟨own, ⟨fun a => a = p, fun a => a = p, fun a => a = p⟩, F', H⟩ F' (L2.start N (.ref p :: ws)) H (some (.lst B) :: (ds.map some ++ List.replicate (N.length - ps.length) none)) := {
      ff := Ex.refl _
      fh := e
      hh := fun _ _ _ h => h
      dm := fun _ h => h
      nw := fun _ h => .inl h
      ln := by unfold L2.start; simp [hlv]; omega
      par := fun a h => ⟨h0', by rw [show a = p from h]; rfl⟩
      bxh := fun a h => by rw [show a = p from h]; show H p ≠ none; rw [hH]; simp
      val := fun i d hi h => by
        cases i with
        | zero => exact absurd h0' hi
        | succ i =>
          unfold L2.start
          rw [List.getElem?_cons_succ] at h
          rw [List.map_cons, List.cons_append, List.getElem?_cons_succ]
          exact Reps.some_get rd h
      own := ⟨fun i => if i = 0 then [p] else [], And.intro (fun (i : Nat) (d : D) hi (h : (some (D.lst B) :: (List.map some ds ++ List.replicate (N.length - ps.length) (none : Option D)))[i]? = some (some d)) => by
        cases i with
        | zero => cases h; exact ⟨.ref p, rfl, .lst hH rb⟩
        | succ i =>
          have := of_decide_eq_true (List.all_eq_true.1 hon _ hi)
          rw [List.getElem?_cons_succ, List.getElem?_append_right (by rw [List.length_map]; omega), List.getElem?_replicate] at h
          split at h <;> cases h) (And.intro (fun i a h => by
            dsimp only at h
            by_cases q : i = 0
            · rw [if_pos q] at h; cases List.mem_singleton.1 h; exact ⟨hF, by rw [hH]; simp, .inr ⟨rfl, fun _ => q⟩⟩
            · rw [if_neg q] at h; cases h) (fun i j a hij h h2 => by
            dsimp only at h h2
            by_cases q : i = 0
            · rw [if_neg (fun z => hij (q.trans z.symm))] at h2; cases h2
            · rw [if_neg q] at h; cases h))⟩ }
    have fin : ∀ (own' : List Nat) (_ : 0 ∈ own') (v : V) (σ' : L2.St) (F1 H1 : Hp) (δ' : Env), RSf (cxOf (L2.CX P w) P w K mg base N qual scope f cdv A outer s H E) ⟨own', ⟨fun a => a = p, fun a => a = p, fun a => a = p⟩, F', H⟩ F1 σ' H1 δ' → δ'[0]? = some (some (.lst B')) → Rep K F1 v d → Q v H1 := fun own' ho' v σ' F1 H1 δ' r1 hB rv => by
      obtain ⟨p', bs', hp', hH', rb', hF1⟩ := r1.lst ho' hB
      have := (r1.par p rfl).2
      rw [this] at hp'; cases hp'
      exact hP v F1 H1 bs' ⟨r1.ff, r1.fh, fun a o hne h => r1.hh a o hne h, r1.nw, hF1⟩ hH' rb' rv
    cases e2 : g (some (.lst B) :: (ds.map some ++ List.replicate (N.length - ps.length) none)) with
    | none => rw [e2] at h1; cases h1
    | some y =>
      rw [e2] at h1
      refine hb.run R0 tk e2 fun own' ho' => ?_
      rcases y with ⟨x, δ'⟩ | ⟨o1, δ'⟩
      · cases h1
      · cases o1 with
        | rt d1 => obtain ⟨rfl, hB⟩ := bxOf_some h1; exact fun v σ' F1 H1 r1 e1 rx => fin own' (ho' p rfl) v σ' F1 H1 δ' r1 hB rx
        | nx => obtain ⟨rfl, hB⟩ := bxOf_some h1; exact fun σ' F1 H1 r1 e1 => fin own' (ho' p rfl) .non σ' F1 H1 δ' r1 hB .non
        | bk => cases h1
        | ct => cases h1
  · rw [if_neg hl] at h1; cases h1
theorem fnB_okB {x qual : Str} {params : Arguments} {body : List Stmt} {scope : Scope} {f : Addr} {fd : FuncData} {dvs : List V} {kws : List (Str × V)} {N ps : List Str} {k : Nat} {own : List Nat} {g : Env → RO} (F : FunD K x qual params body scope dvs kws f fd) (S : FnScope N ps scope) (hon : own.all (fun i => decide (i = 0 ∨ ps.length ≤ i)) = true) (h0 : own.contains 0 = true)
    (hps : decide (ps.length ≤ N.length) = true)
    (hb : ∀ (cdv : Value) (A : Around) (outer : List PySem.Env) (s : Shared) (H : Hp) (E : XK), Room k (A.deeper (PyProof.Rows.envOfC qual scope s.heap.objs.size f cdv)) → JB (cxOf (L2.CX P w) P w K mg base N qual scope f cdv A outer s H E) own body g) :
    FnOk P w K mg base (L2.CX P w) (k + 1) f fd ps (spB K (denB ps.length N.length g)) := by
  refine FunD.ok F S (fun vs H Q E h => ?_) (fun cdv A outer s H vs Q E hr h => bdB_okB hon h0 hps (hb cdv A outer s H E hr) h)
  obtain ⟨F', p, ws, bs, B, ds, d, B', rfl, e, hF, hH, rb, rd, h1, _⟩ := h
  unfold denB at h1
  by_cases hl : ds.length + 1 = ps.length
  · rw [List.length_cons, Rep.len rd, hl]
  · rw [if_neg hl] at h1; cases h1
end
end PD
end
section
namespace PD
open PySem L2
/-! ### several values, some of them new and to be owned -/
def Held (X : Cx) : Fr → List Bool → List D → List V → Hp → L2.St → Hp → Env → Prop
  | f, [], ds, vs, F, σ, H, δ => ds = [] ∧ vs = [] ∧ RSf X f F σ H δ
  | f, false :: bs, ds, vs, F, σ, H, δ => ∃ d es v ws, ds = d :: es ∧ vs = v :: ws ∧ Rep X.K F v d ∧ Held X f bs es ws F σ H δ
  | f, true :: bs, ds, vs, F, σ, H, δ => ∃ d es Dd ob ws P' F1 H1, ds = d :: es ∧ vs = .ref Dd :: ws ∧ OwnO X.K F ob d ∧ Chn f.P f.F0 f.H0 P' F1 H1 ∧ H1 Dd = some ob ∧ ¬ P' Dd ∧ F1 Dd = none ∧ f.H0 Dd = none ∧ Held X ⟨f.own, P', F1, H1⟩ bs es ws F σ H δ
def PostX (X : Cx) (f : Fr) (bs : List Bool) (F : Hp) (σ : L2.St) (W : WX) (o : Except (XD × Env) (List D × Env)) (Q : List V → Hp → Prop) : Prop := match o with
  | .ok (ds, δ') => ∀ vs F' H', Held X f bs ds vs F' σ H' δ' → Ex F F' → Q vs H'
  | .error (x, δ') => ∀ cls dd F' H', RSf X f F' σ H' δ' → Ex F F' → RepX X.K F' cls dd x → W cls dd σ H'
structure JX (X : Cx) (own : List Nat) (bs : List Bool) (es : List Expr) (g : Env → RE (List D)) : Prop where
  run : ∀ {P F0 H0 σ F H δ W Q o}, RSf X ⟨own, P, F0, H0⟩ F σ H δ → Takes X W → g δ = some o → PostX X ⟨own, P, F0, H0⟩ bs F σ W o Q → WA X es σ H Q
section
variable {X : Cx} {own : List Nat} {e a b : Expr} {es : List Expr} {pos : Pos}
theorem jx_nil : JX X own [] [] enil := ⟨fun {P F0 H0 σ F H δ W Q o} r tk hg hP => by cases hg; exact wa_of pa_nil (hP [] F H ⟨rfl, rfl, r⟩ (Ex.refl _))⟩
theorem bindE_some {α β : Type} {x : RE α} {k : α → Env → RE β} {o : Except (XD × Env) (β × Env)} (h : bindE x k = some o) : (∃ y, x = some (.error y) ∧ o = .error y) ∨ ∃ a δ, x = some (.ok (a, δ)) ∧ k a δ = some o := by
  cases x with
  | none => cases h
  | some y => cases y with
    | error y => cases h; exact .inl ⟨y, rfl, rfl⟩
    | ok y => obtain ⟨a, δ⟩ := y; exact .inr ⟨a, δ, rfl, h⟩
theorem jx_cons {bs : List Bool} {f : Env → RE D} {k : Env → RE (List D)} (ha : JE X own e f) (hr : JX X own bs es k) (hs : starEach (e :: es) X.env = (false, eval e X.env) :: starEach es X.env := by rfl) : JX X own (false :: bs) (e :: es) (econs f k) := ⟨fun {P F0 H0 σ F H δ W Q o} r tk hg hP => by
  refine wa_of (pa_cons pe_we pa_wa hs) ?_
  rcases bindE_some hg with ⟨y, h1, rfl⟩ | ⟨d, δ1, h1, hg⟩
  · exact ha.run r tk h1 hP
  · refine ha.run r tk h1 fun v F1 H1 r1 e1 rx => ?_
    rcases bindE_some hg with ⟨y, h2, rfl⟩ | ⟨ds, δ2, h2, hg⟩
    · exact hr.run r1 tk h2 fun c dd F' H' r2 e2 rx => hP c dd F' H' r2 (e1.trans e2) rx
    · cases hg
      exact hr.run r1 tk h2 fun vs F2 H2 hd e2 => hP (v :: vs) F2 H2 ⟨d, ds, v, vs, rfl, rfl, rx.mono e2, hd⟩ (e1.trans e2)⟩
theorem jx_new {bs : List Bool} {f : Env → RE D} {k : Env → RE (List D)} (ha : JN X own e f) (hr : JX X own bs es k) (hs : starEach (e :: es) X.env = (false, eval e X.env) :: starEach es X.env := by rfl) : JX X own (true :: bs) (e :: es) (econs f k) := ⟨fun {P F0 H0 σ F H δ W Q o} r tk hg hP => by
  refine wa_of (pa_cons pe_we pa_wa hs) ?_
  rcases bindE_some hg with ⟨y, h1, rfl⟩ | ⟨d, δ1, h1, hg⟩
  · exact ha.run r tk h1 hP
  · refine ha.run r tk h1 fun Dd ob F1 H1 l e1 rx => ?_
    obtain ⟨⟨P', Fb, Hb, r1, c, e, n, nf⟩, nh⟩ := l
    rcases bindE_some hg with ⟨y, h2, rfl⟩ | ⟨ds, δ2, h2, hg⟩
    · exact hr.run (P := P') (F0 := Fb) (H0 := Hb) r1 tk h2 fun cc dd F' H' r2 e2 rx => hP cc dd F' H' (RS.back r2 c) (e1.trans e2) rx
    · cases hg
      exact hr.run (P := P') (F0 := Fb) (H0 := Hb) r1 tk h2 fun vs F2 H2 hd e2 => hP (.ref Dd :: vs) F2 H2 ⟨d, ds, Dd, ob, vs, P', Fb, Hb, rfl, rfl, rx.mono e2, c, e, n, nf, nh, hd⟩ (e1.trans e2)⟩
/-- slots for them -/
def slotOk (own : List Nat) : List Bool → List Nat → Bool
  | [], [] => true
  | b :: bs, i :: is => (if b = true then own.contains i && i != 0 else !own.contains i) && !is.contains i && slotOk own bs is
  | _, _ => false
def setV : List Nat → List V → L2.St → L2.St
  | i :: is, v :: vs, σ => (setV is vs σ).set i (some v)
  | _, _, σ => σ
def setD : List Nat → List D → Env → Env
  | i :: is, d :: ds, δ => (setD is ds δ).set i (some d)
  | _, _, δ => δ
theorem Held.sets {K : Frag} : ∀ (bs : List Bool) (is : List Nat) {f : Fr} {ds : List D} {vs : List V} {F : Hp} {σ : L2.St} {H : Hp} {δ : Env}, slotOk f.own bs is = true → Held X f bs ds vs F σ H δ → RSf X f F (setV is vs σ) H (setD is ds δ)
  | [], [], f, ds, vs, F, σ, H, δ, _, h => by obtain ⟨rfl, rfl, r⟩ := h; exact r
  | [], _ :: _, _, _, _, _, _, _, _, h, _ => by cases h
  | _ :: _, [], _, _, _, _, _, _, _, h, _ => by cases h
  | false :: bs, i :: is, f, ds, vs, F, σ, H, δ, hs, h => by
    obtain ⟨d, es, v, ws, rfl, rfl, rv, hd⟩ := h
    simp only [slotOk, Bool.and_eq_true] at hs
    have hi : i ∉ f.own := by simpa using hs.1.1
    exact RS.set (Held.sets (K := K) bs is hs.2 hd) hi rv
  | true :: bs, i :: is, f, ds, vs, F, σ, H, δ, hs, h => by
    obtain ⟨d, es, Dd, ob, ws, P', F1, H1, rfl, rfl, ho, c, e, n, nf, nh, hd⟩ := h
    simp only [slotOk, Bool.and_eq_true, if_true] at hs
    have r := Held.sets (K := K) (f := ⟨f.own, P', F1, H1⟩) bs is hs.2 hd
    have l : LS X.K f.own f.P f.F0 f.H0 Dd ob F (setV is ws σ) H (setD is es δ) := ⟨⟨P', F1, H1, r, c, e, n, nf⟩, nh⟩
    exact l.keepOwn ho (by simpa using hs.1.1.1) (by simpa using hs.1.1.2)
theorem js_par2X (i j : Nat) {bs : List Bool} {x y : Str} {px py pt : Pos} {kt k2 pt2} {f : Env → RE (List D)} (hc : X.calm = true) (hN : X.N.Nodup) (ha : JX X own bs [a, b] f) (hi : X.N[i]? = some x := by rfl) (hj : X.N[j]? = some y := by rfl) (hij : i ≠ j := by decide)
    (hx : X.env.scope.names.lookup x = some .local := by rfl) (hy : X.env.scope.names.lookup y = some .local := by rfl) (hb : slotOk own bs [i, j] = true := by decide)
    (hw : swappedStores [.Tuple [.Name x px, .Name y py] kt pt] (.Tuple [a, b] k2 pt2) X.env = pure (some [x, y]) := by rfl)
    (hs : swapsWithSole [.Tuple [.Name x px, .Name y py] kt pt] (.Tuple [a, b] k2 pt2) pos.line X.env = pure false := by rfl) :
    JS X own (.Assign [.Tuple [.Name x px, .Name y py] kt pt] (.Tuple [a, b] k2 pt2) pos) (spar2 i j f) := ⟨fun {P F0 H0 σ F H δ W o D} _ r tk hg hP => by
  refine ws_of (ps_par hc hN hi hj hij hx hy pa_wa hw hs) ?_
  rcases bindE_some hg with ⟨y, h1, rfl⟩ | ⟨ds, δ1, h1, hg⟩
  · exact ha.run r tk h1 fun c dd F' H' r1 e1 rx => hP c dd σ F' H' r1 e1 rx
  · refine ha.run r tk h1 fun vs F1 H1 hd e1 => ?_
    rcases ds with _ | ⟨d1, _ | ⟨d2, _ | ⟨d3, ds⟩⟩⟩ <;> (try (cases hg; done))
    cases hg
    have R := Held.sets (K := X.K) bs [i, j] hb hd
    have : ∃ v w, vs = [v, w] := by
      rcases bs with _ | ⟨b1, _ | ⟨b2, _ | ⟨b3, bs⟩⟩⟩ <;> (try (simp [slotOk] at hb; done))
      cases b1 <;> cases b2 <;> simp only [Held] at hd
      · obtain ⟨_, _, v, ws, _, rfl, _, _, _, w, us, _, rfl, _, _, rfl, _⟩ := hd; exact ⟨v, w, rfl⟩
      · obtain ⟨_, _, v, ws, _, rfl, _, _, _, p, ob, us, _, _, _, _, rfl, _, _, _, _, _, _, _, rfl, _⟩ := hd; exact ⟨v, .ref p, rfl⟩
      · obtain ⟨_, _, p, ob, ws, _, _, _, _, rfl, _, _, _, _, _, _, _, _, w, us, _, rfl, _, _, rfl, _⟩ := hd; exact ⟨.ref p, w, rfl⟩
      · obtain ⟨_, _, p, ob, ws, _, _, _, _, rfl, _, _, _, _, _, _, _, _, p2, ob2, us, _, _, _, _, rfl, _, _, _, _, _, _, _, rfl, _⟩ := hd; exact ⟨.ref p, .ref p2, rfl⟩
    obtain ⟨v, w, rfl⟩ := this
    refine ⟨v, w, rfl, hP _ F1 H1 ?_ e1⟩
    have R' : RSf X ⟨own, P, F0, H0⟩ F1 ((σ.set j (some w)).set i (some v)) H1 ((δ1.set j (some d2)).set i (some d1)) := R
    rwa [List.set_comm _ _ (fun q => hij q.symm), List.set_comm _ _ (fun q => hij q.symm)] at R'⟩
end
end PD
end
section
namespace PD
open PySem L2
theorem Held.len {X : Cx} : ∀ (bs : List Bool) {f : Fr} {ds : List D} {vs : List V} {F : Hp} {σ : L2.St} {H : Hp} {δ : Env}, Held X f bs ds vs F σ H δ → vs.length = bs.length
  | [], _, _, _, _, _, _, _, h => by obtain ⟨_, rfl, _⟩ := h; rfl
  | false :: bs, _, _, _, _, _, _, _, h => by obtain ⟨_, _, _, _, _, rfl, _, h⟩ := h; simp [Held.len bs h]
  | true :: bs, _, _, _, _, _, _, _, h => by obtain ⟨_, _, _, _, _, _, _, _, _, rfl, _, _, _, _, _, _, h⟩ := h; simp [Held.len bs h]
section
variable {X : Cx} {own : List Nat} {e a b c : Expr} {es : List Expr} {pos : Pos}
theorem js_par3X (i j l : Nat) {bs : List Bool} {x y z : Str} {px py pz pt : Pos} {kt k2 pt2} {f : Env → RE (List D)} (hc : X.calm = true) (hN : X.N.Nodup) (ha : JX X own bs [a, b, c] f) (hi : X.N[i]? = some x := by rfl) (hj : X.N[j]? = some y := by rfl) (hl : X.N[l]? = some z := by rfl) (hij : i ≠ j := by decide) (hil : i ≠ l := by decide) (hjl : j ≠ l := by decide)
    (hx : X.env.scope.names.lookup x = some .local := by rfl) (hy : X.env.scope.names.lookup y = some .local := by rfl) (hz : X.env.scope.names.lookup z = some .local := by rfl) (hb : slotOk own bs [i, j, l] = true := by decide) (hbl : bs.length = 3 := by rfl)
    (hw : swappedStores [.Tuple [.Name x px, .Name y py, .Name z pz] kt pt] (.Tuple [a, b, c] k2 pt2) X.env = pure (some [x, y, z]) := by rfl)
    (hs : swapsWithSole [.Tuple [.Name x px, .Name y py, .Name z pz] kt pt] (.Tuple [a, b, c] k2 pt2) pos.line X.env = pure false := by rfl) :
    JS X own (.Assign [.Tuple [.Name x px, .Name y py, .Name z pz] kt pt] (.Tuple [a, b, c] k2 pt2) pos) (spar3 i j l f) := ⟨fun {P F0 H0 σ F H δ W o D} _ r tk hg hP => by
  refine ws_of (ps_par3 hc hN hi hj hl hij hil hjl hx hy hz pa_wa hw hs) ?_
  rcases bindE_some hg with ⟨y, h1, rfl⟩ | ⟨ds, δ1, h1, hg⟩
  · exact ha.run r tk h1 fun c dd F' H' r1 e1 rx => hP c dd σ F' H' r1 e1 rx
  · refine ha.run r tk h1 fun vs F1 H1 hd e1 => ?_
    rcases ds with _ | ⟨d1, _ | ⟨d2, _ | ⟨d3, _ | ⟨d4, ds⟩⟩⟩⟩ <;> (try (cases hg; done))
    cases hg
    have R := Held.sets (K := X.K) bs [i, j, l] hb hd
    have hlen := Held.len bs hd
    rw [hbl] at hlen
    rcases vs with _ | ⟨u, _ | ⟨v, _ | ⟨w, _ | ⟨v4, vs⟩⟩⟩⟩ <;> (try (simp at hlen; done))
    refine ⟨u, v, w, rfl, hP _ F1 H1 ?_ e1⟩
    have R' : RSf X ⟨own, P, F0, H0⟩ F1 (((σ.set l (some w)).set j (some v)).set i (some u)) H1 (((δ1.set l (some d3)).set j (some d2)).set i (some d1)) := R
    have e1 : ∀ {α : Type} (s : List (Option α)) (u v w : Option α), ((s.set l w).set j v).set i u = ((s.set i u).set j v).set l w := fun s u v w => by
      rw [List.set_comm _ _ (fun q => hij q.symm), List.set_comm (l := s) _ _ (fun q => hil q.symm), List.set_comm _ _ (fun q => hjl q.symm)]
    rwa [e1, e1] at R'⟩
/-! ### what makes a new container -/
def CallN (K : Frag) (r : List V → Hp → VK → Prop) (g : List D → Option D) : Prop := ∀ {F H : Hp} {vs : List V} {xs : List D} {z : D}, Ex F H → Reps K F vs xs → g xs = some z → ∀ Q : VK, (∀ p ob, H p = none → OwnO K F ob z → Q (.ref p) (upd H p ob)) → r vs H Q
theorem n_list {K : Frag} : CallN K (rList0 K) (one dList) := fun {F H vs xs z} e r h Q q => by
  obtain ⟨x, e0, h0⟩ := one_some h; subst e0; clear h; have h := h0; clear h0
  obtain ⟨w, rfl, rr⟩ := reps1 r
  cases rr with
  | tup h1 r1 => cases h; exact .inl ⟨_, _, rfl, .inr (ex_t e h1), fun p hp => q _ _ hp (.lst r1)⟩
  | lst h1 r1 => cases h; exact .inl ⟨_, _, rfl, .inl (SqL.of (e _ _ h1)), fun p hp => q _ _ hp (.lst r1)⟩
  | scr h1 r1 => cases h; exact .inl ⟨_, _, rfl, .inl (ex_l e h1), fun p hp => q _ _ hp (.lst r1)⟩
  | dic h1 r1 => cases h; exact .inr ⟨_, _, rfl, .of (e _ _ h1), fun p hp => q _ _ hp (.lst r1.keys)⟩
  | _ => cases h
theorem n_sorted {K : Frag} : CallN K (rSortedX K) (one dSorted) := fun {F H vs xs z} e r h Q q => by
  obtain ⟨x, rfl, h⟩ := one_some h
  obtain ⟨w, rfl, rx⟩ := reps1 r
  replace h : ((seqL x).bind fun xs => (sortD xs).map .lst) = some z := h
  cases h1 : seqL x with
  | none => rw [h1] at h; cases h
  | some ds =>
    rw [h1, Option.bind_some] at h
    obtain ⟨a, ws, rfl, hs, rs⟩ := seqL_rep e rx h1
    unfold sortD at h
    cases h2 : toPys ds with
    | none => rw [h2] at h; cases h
    | some ps =>
      rw [h2, Option.bind_some] at h
      split at h
      · rename_i h3
        cases h
        refine ⟨a, ws, ps, rfl, hs, dps_of e rs h2, h3, fun p hp => ?_⟩
        have hlen : ws.length = ds.length := Rep.len rs
        have hps := toPys_map h2
        have ez : ws.zip ps = (ws.zip ds).map fun z => (z.1, pyOf z.2) := by
          rw [hps, List.zip_map_right]; rfl
        have e1 : (ws.zip ps).mergeSort (W.dataLe false Prod.snd) = ((ws.zip ds).mergeSort (W.dataLe false fun z => pyOf z.2)).map fun z => (z.1, pyOf z.2) := by
          rw [ez]; exact (W.sort_maps (r := W.dataLe false fun z : V × D => pyOf z.2) (s := W.dataLe false Prod.snd) (fun z : V × D => (z.1, pyOf z.2)) (fun a _ b _ => rfl)).symm
        have e2 : isort leD ds = ((ws.zip ds).mergeSort (W.dataLe false fun z => pyOf z.2)).map Prod.snd := by
          rw [isort_eq leD_total, W.sort_maps (r := W.dataLe false fun z : V × D => pyOf z.2) (s := leD) Prod.snd (fun a _ b _ => rfl), List.map_snd_zip (by omega)]
        have e3 : ((ws.zip ps).mergeSort (W.dataLe false Prod.snd)).map Prod.fst = ((ws.zip ds).mergeSort (W.dataLe false fun z => pyOf z.2)).map Prod.fst := by
          rw [e1, List.map_map]; rfl
        rw [e3]
        refine q p _ hp (.lst ?_)
        rw [e2]
        exact reps_of_zip fun z hz => reps_zip rs z ((List.mergeSort_perm _ _).mem_iff.1 hz)
      · cases h
def ecallG (g : List D → Option D) (f : Env → RE (List D)) : Env → RE D := fun δ => bindE (f δ) fun xs δ' => (g xs).map fun z => .ok (z, δ')
theorem ecallG_some {g : List D → Option D} {xs : List D} {δ' : Env} {o : Except (XD × Env) (D × Env)} (h : ((g xs).map fun z => (.ok (z, δ') : Except (XD × Env) (D × Env))) = some o) : ∃ z, g xs = some z ∧ o = .ok (z, δ') := by
  cases e : g xs with
  | none => rw [e] at h; cases h
  | some z => rw [e] at h; cases h; exact ⟨z, rfl, rfl⟩
section
variable {id : String} {x : Str} {p : Pos} {r : List V → Hp → VK → Prop} {g : List D → Option D} {f : Env → RE (List D)}
theorem jn_bi (hc : CallR X (.builtin id) r) (hd : CallN X.K r g) (hm : X.mg x = none) (hv : bootBuiltins x = some (.builtin id)) (ha : JAE X own (e :: es) f) (hg : Gl X x := by rfl)
    (hn : x ≠ "__name__" := by decide) (hdb : (x == ("__debug__" : Str)) = false := by decide) (he : starEach (e :: es) X.env = (false, eval e X.env) :: starEach es X.env := by rfl) (hpl : (backTo pos (starEach es X.env)).any (·.1) = false := by rfl) :
    JN X own (.Call (.Name x p) (e :: es) [] pos) (ecallG g f) := ⟨fun {P F0 H0 σ F H δ W Q o} rr tk hg' hP =>
  we_of (pe_callB hc hg hm hv pa_wa hn hdb he hpl) (sn_bind (w := WA X (e :: es)) ha rr tk hg' hP fun xs vs δ1 F1 H1 h1 e1 rx r1 P1 => by
    obtain ⟨z, hz, rfl⟩ := ecallG_some h1
    exact hd r1.fh rx hz _ fun p ob hp ho => P1 p ob F1 _ (.start r1 hp) (Ex.refl _) ho)⟩
theorem jn_ty {T : String} (hc : CallR X (.type T) r) (hd : CallN X.K r g) (hm : X.mg x = none) (hv : bootBuiltins x = some (.type T)) (ha : JAE X own (e :: es) f) (hg : Gl X x := by rfl)
    (hn : x ≠ "__name__" := by decide) (hdb : (x == ("__debug__" : Str)) = false := by decide) (he : starEach (e :: es) X.env = (false, eval e X.env) :: starEach es X.env := by rfl) (hpl : (backTo pos (starEach es X.env)).any (·.1) = false := by rfl) :
    JN X own (.Call (.Name x p) (e :: es) [] pos) (ecallG g f) := ⟨fun {P F0 H0 σ F H δ W Q o} rr tk hg' hP =>
  we_of (pe_callTy hc hg hm hv pa_wa hn hdb he hpl) (sn_bind (w := WA X (e :: es)) ha rr tk hg' hP fun xs vs δ1 F1 H1 h1 e1 rx r1 P1 => by
    obtain ⟨z, hz, rfl⟩ := ecallG_some h1
    exact hd r1.fh rx hz _ fun p ob hp ho => P1 p ob F1 _ (.start r1 hp) (Ex.refl _) ho)⟩
theorem je_bi (hc : CallR X (.builtin id) r) (hd : CallD X.K r g) (hm : X.mg x = none) (hv : bootBuiltins x = some (.builtin id)) (ha : JAE X own (e :: es) f) (hg : Gl X x := by rfl)
    (hn : x ≠ "__name__" := by decide) (hdb : (x == ("__debug__" : Str)) = false := by decide) (he : starEach (e :: es) X.env = (false, eval e X.env) :: starEach es X.env := by rfl) (hpl : (backTo pos (starEach es X.env)).any (·.1) = false := by rfl) :
    JE X own (.Call (.Name x p) (e :: es) [] pos) (ecallG g f) := ⟨fun {P F0 H0 σ F H δ W Q o} rr tk hg' hP =>
  we_of (pe_callB hc hg hm hv pa_wa hn hdb he hpl) (js_bind (w := WA X (e :: es)) ha rr tk hg' hP fun xs vs δ1 F1 H1 h1 e1 rx r1 P1 => by
    obtain ⟨z, hz, rfl⟩ := ecallG_some h1
    exact hd r1.fh rx hz _ fun v F' H' g rv => P1 v F' H' (r1.grow g) g.ff rv)⟩
theorem je_ty {T : String} (hc : CallR X (.type T) r) (hd : CallD X.K r g) (hm : X.mg x = none) (hv : bootBuiltins x = some (.type T)) (ha : JAE X own (e :: es) f) (hg : Gl X x := by rfl)
    (hn : x ≠ "__name__" := by decide) (hdb : (x == ("__debug__" : Str)) = false := by decide) (he : starEach (e :: es) X.env = (false, eval e X.env) :: starEach es X.env := by rfl) (hpl : (backTo pos (starEach es X.env)).any (·.1) = false := by rfl) :
    JE X own (.Call (.Name x p) (e :: es) [] pos) (ecallG g f) := ⟨fun {P F0 H0 σ F H δ W Q o} rr tk hg' hP =>
  we_of (pe_callTy hc hg hm hv pa_wa hn hdb he hpl) (js_bind (w := WA X (e :: es)) ha rr tk hg' hP fun xs vs δ1 F1 H1 h1 e1 rx r1 P1 => by
    obtain ⟨z, hz, rfl⟩ := ecallG_some h1
    exact hd r1.fh rx hz _ fun v F' H' g rv => P1 v F' H' (r1.grow g) g.ff rv)⟩
end
/-- own + e, own a slot's list: a new list -/
def eaddO (i : Nat) (f : Env → RE D) : Env → RE D := fun δ => match δ[i]? with
  | some (some (.lst _)) => bindE (f δ) fun d δ' => (match δ'[i]? with
    | some (some (.lst ds)) => (match d with
      | .lst es => if ds.length + es.length ≤ sizeLine then some (.ok (.lst (ds ++ es), δ')) else none
      | _ => none)
    | _ => none)
  | _ => none
theorem jn_addO (i : Nat) {x : Str} {p1 : Pos} {f : Env → RE D} (h : JE X own e f) (hi : X.N[i]? = some x := by rfl) (hv : Vis X.env.scope x := by first | exact Or.inl rfl | exact Or.inr (Or.inl rfl) | exact Or.inr (Or.inr rfl)) (ho : i ∈ own := by decide)
    (hd : (x == ("__debug__" : Str)) = false := by decide) (hcd : (x == ("__classdict__" : Str)) = false := by decide) : JN X own (.BinOp (.Name x p1) .Add e pos) (eaddO i f) := ⟨fun {P F0 H0 σ F H δ W Q o} r tk hg hP => by
  obtain ⟨ds0, h0, hg⟩ := own_at hg
  obtain ⟨p, vs0, hp, hH0, rv0, hF0⟩ := r.lst ho h0
  refine we_of (pe_op op_cat (pe_var hi hv hd hcd) pe_we) ⟨_, hp, ?_⟩
  refine sn_bind (w := WE X e) h r tk hg hP fun d v δ1 F1 H1 h1 e1 rx r1 P1 => ?_
  obtain ⟨ds, h2, h3⟩ := own_at h1
  clear h1
  obtain ⟨p', vs, hp', hH, rv, hF⟩ := r1.lst ho h2
  rw [hp] at hp'; cases hp'
  cases rx with
  | lst hq rq =>
    dsimp only at h3
    split at h3
    · rename_i hl
      cases h3
      exact ⟨p, _, vs, _, rfl, rfl, hH, r1.fh _ _ hq, by rw [Rep.len rv, Rep.len rq]; exact hl, fun p2 hp2 => P1 p2 _ F1 _ (.start r1 hp2) (Ex.refl _) (.lst (rv.app rq))⟩
    · cases h3
  | _ => cases h3⟩
/-- a + b of lists held fast: a new list -/
def dCat : D → D → Option D
  | .lst i, .lst j => if i.length + j.length ≤ sizeLine then some (.lst (i ++ j)) else none
  | _, _ => none
theorem jn_cat {fa fb : Env → RE D} (ha : JE X own a fa) (hb : JE X own b fb) : JN X own (.BinOp a .Add b pos) (eop2 dCat fa fb) := ⟨fun {P F0 H0 σ F H δ W Q o} r tk hg hP =>
  we_of (pe_op op_cat pe_we pe_we) (sn_bind (w := WE X a) ha r tk hg hP fun x vx δ1 F1 H1 h1 e1 rx r1 P1 => sn_bind (w := WE X b) hb r1 tk h1 P1 fun y vy δ2 F2 H2 h2 e2 ry r2 P2 => by
    simp only [Option.map_eq_some_iff] at h2
    obtain ⟨z, hz, rfl⟩ := h2
    cases rx with
    | lst hp rp => cases ry with
      | lst hq rq =>
        simp only [dCat] at hz
        split at hz
        · rename_i hl
          cases hz
          exact ⟨_, _, _, _, rfl, rfl, r2.fh _ _ (e2 _ _ hp), r2.fh _ _ hq, by rw [Rep.len rp, Rep.len rq]; exact hl, fun p hp2 => P2 p _ F2 _ (.start r2 hp2) (Ex.refl _) (.lst ((rp.mono e2).app rq))⟩
        · cases hz
      | _ => cases hz
    | _ => cases hz)⟩
/-- a or b, both new -/
def enor (f g : Env → RE D) : Env → RE D := fun δ => bindE (f δ) fun x δ' => match x with
  | .lst [] => g δ'
  | .lst (y :: ys) => some (.ok (.lst (y :: ys), δ'))
  | _ => none
theorem jn_or {f g : Env → RE D} (ha : JN X own a f) (hb : JN X own b g) : JN X own (.BoolOp .Or [a, b] pos) (enor f g) := ⟨fun {P F0 H0 σ F H δ W Q o} r tk hg hP => by
  refine we_of (pe_orT pe_we (pe_one pe_we)) ?_
  rcases bindE_some hg with ⟨y, h1, rfl⟩ | ⟨d, δ1, h1, hg⟩
  · exact ha.run r tk h1 hP
  · refine ha.run r tk h1 fun Dd ob F1 H1 l e1 rx => ?_
    cases rx with
    | dic _ => cases hg
    | @lst vs ds rr =>
      refine ⟨!vs.isEmpty, .inl ⟨_, SqL.of l.at, rfl⟩, ?_⟩
      cases rr with
      | nil =>
        rw [if_neg (by simp)]
        exact hb.run l.rs tk hg (hP.later e1)
      | cons h1' r1' =>
        rw [if_pos (by simp)]
        cases hg
        exact hP Dd _ F1 H1 l e1 (.lst (.cons h1' r1'))⟩
/-- own[k] = e -/
def sixset (i : Nat) (fk f : Env → RE D) : Env → RO := fun δ => bindE (f δ) fun d δ1 => (match δ1[i]? with
  | some (some (.lst _)) => bindE (fk δ1) fun k δ2 => (match δ2[i]? with
    | some (some (.lst ds)) => (match k with
      | .int n => (match ixN ds.length n with
        | some j => some (.ok (.nx, δ2.set i (some (.lst (ds.set j d)))))
        | none => none)
      | _ => none)
    | _ => none)
  | _ => none)
theorem Reps.set {K : Frag} {F : Hp} {v : V} {d : D} : ∀ {vs : List V} {ds : List D} (n : Nat), Reps K F vs ds → Rep K F v d → Reps K F (vs.set n v) (ds.set n d)
  | _, _, _, .nil, _ => .nil
  | _, _, 0, .cons _ r, h => .cons h r
  | _, _, n + 1, .cons h0 r, h => .cons h0 (Reps.set n r h)
theorem js_ixset (i : Nat) {x : Str} {k : Expr} {p1 p2 : Pos} {fk f : Env → RE D} (h : JE X own e f) (hk : JE X own k fk) (hi : X.N[i]? = some x := by rfl) (hv : Vis X.env.scope x := by first | exact Or.inl rfl | exact Or.inr (Or.inl rfl) | exact Or.inr (Or.inr rfl)) (ho : i ∈ own := by decide)
    (hd : (x == ("__debug__" : Str)) = false := by decide) (hcd : (x == ("__classdict__" : Str)) = false := by decide)
    (hgs : ∀ v, assign (.Subscript (.Name x p1) k p2) X.env v = (do
      let ov ← holding [v] (eval (.Name x p1) X.env)
      let iv ← holding [v, ov] (eval k X.env)
      standAt p2
      holding [v, ov, iv] (setItem ov iv v)
      release [v, ov, iv] []) := by intro _; rfl)
    (hs : swapsWithSole [.Subscript (.Name x p1) k p2] e pos.line X.env = pure false := by rfl) (hw : swappedStores [.Subscript (.Name x p1) k p2] e X.env = pure none := by rfl) (h1 : (assignEach [.Subscript (.Name x p1) k p2] X.env).map (·.2) = [assign (.Subscript (.Name x p1) k p2) X.env] := by rfl) :
    JS X own (.Assign [.Subscript (.Name x p1) k p2] e pos) (sixset i fk f) := ⟨fun {P F0 H0 σ F H δ W o D} _ r tk hg hP => by
  refine ws_of (ps_asg pe_we (pg_sub (pe_var hi hv hd hcd) pe_we set_list hgs) hs hw h1) ?_
  refine se_bind (w := WE X e) h r tk hg hP fun d v δ1 F1 H1 h1 e1 rx r1 P1 => ?_
  obtain ⟨ds0, h0, hg1⟩ := own_at h1
  obtain ⟨p, vs0, hp, hH0, rv0, hF0⟩ := r1.lst ho h0
  refine ⟨_, hp, ?_⟩
  refine se_bind (w := WE X k) hk r1 tk hg1 P1 fun kd kv δ2 F2 H2 h2 e2 rk r2 P2 => ?_
  obtain ⟨ds, h3, h4⟩ := own_at h2
  clear h2
  obtain ⟨p', vs, hp', hH, rv, hF⟩ := r2.lst ho h3
  rw [hp] at hp'; cases hp'
  cases rk with
  | int n =>
    dsimp only at h4
    split at h4
    · rename_i j hj
      cases h4
      exact ⟨p, vs, n, j, rfl, rfl, hH, by rw [Rep.len rv]; exact hj, P2 _ F2 _ (r2.put ho h3 hp (rv.set j (rx.mono e2))) (Ex.refl _)⟩
    · cases h4
  | _ => cases h4⟩
end
end PD
end
section
namespace PD
open PySem L2
/-! ### tests with effects -/
section
variable {X : Cx} {own : List Nat} {a b e : Expr} {rest : List Expr} {pos : Pos}
abbrev JWE (X : Cx) (own : List Nat) (e : Expr) (g : Env → RE Bool) : Prop := JS0 X own (WW X e) relT g
theorem jte_w {g : Env → RE Bool} (h : JWE X own e g) : JTE X own e g := ⟨fun {P F0 H0 σ F H δ W Q o} r tk hg hP => fun pins s I => h.run r tk hg hP _ pins s I⟩
def etand (t u : Env → RE Bool) : Env → RE Bool := fun δ => bindE (t δ) fun b δ' => if b = true then u δ' else some (.ok (false, δ'))
def etor (t u : Env → RE Bool) : Env → RE Bool := fun δ => bindE (t δ) fun b δ' => if b = true then some (.ok (true, δ')) else u δ'
def etnot (t : Env → RE Bool) : Env → RE Bool := fun δ => bindE (t δ) fun b δ' => some (.ok (!b, δ'))
theorem jte_not {t : Env → RE Bool} (ha : JTE X own a t) : JTE X own (.UnaryOp .Not a pos) (etnot t) := ⟨fun {P F0 H0 σ F H δ W Q o} r tk hg hP =>
  wt_of (pt_not pt_wt) (js_bind (w := WT X a) ha r tk hg hP fun x v δ1 F1 H1 h1 e1 rx r1 P1 => by cases rx; exact P1.fin h1 _ F1 H1 r1 (Ex.refl _) rfl)⟩
theorem jwe_and1 {t : Env → RE Bool} (ha : JTE X own a t) : JWE X own (.BoolOp .And [a] pos) t := ⟨fun r tk hg hP => ww_of (pw_and1 pt_wt) (ha.run r tk hg hP)⟩
theorem jwe_or1 {t : Env → RE Bool} (ha : JTE X own a t) : JWE X own (.BoolOp .Or [a] pos) t := ⟨fun r tk hg hP => ww_of (pw_or1 pt_wt) (ha.run r tk hg hP)⟩
theorem jwe_and {t u : Env → RE Bool} (ha : JTE X own a t) (hb : JWE X own (.BoolOp .And (b :: rest) pos) u) : JWE X own (.BoolOp .And (a :: b :: rest) pos) (etand t u) := ⟨fun {P F0 H0 σ F H δ W Q o} r tk hg hP =>
  ww_of (pw_and pt_wt pw_ww) (js_bind (w := WT X a) ha r tk hg hP fun x v δ1 F1 H1 h1 e1 rx r1 P1 => by
    cases rx
    cases x with
    | true => rw [if_pos rfl] at *; exact hb.run r1 tk h1 P1
    | false => rw [if_neg Bool.false_ne_true] at *; exact P1.fin h1 _ F1 H1 r1 (Ex.refl _) rfl)⟩
theorem jwe_or {t u : Env → RE Bool} (ha : JTE X own a t) (hb : JWE X own (.BoolOp .Or (b :: rest) pos) u) : JWE X own (.BoolOp .Or (a :: b :: rest) pos) (etor t u) := ⟨fun {P F0 H0 σ F H δ W Q o} r tk hg hP =>
  ww_of (pw_or pt_wt pw_ww) (js_bind (w := WT X a) ha r tk hg hP fun x v δ1 F1 H1 h1 e1 rx r1 P1 => by
    cases rx
    cases x with
    | false => rw [if_neg Bool.false_ne_true] at *; exact hb.run r1 tk h1 P1
    | true => rw [if_pos rfl] at *; exact P1.fin h1 _ F1 H1 r1 (Ex.refl _) rfl)⟩
/-- a value as a test -/
def etr (g : Env → RE D) : Env → RE Bool := fun δ => bindE (g δ) fun x δ' => (truth x).map fun b => .ok (b, δ')
theorem jte_truth {g : Env → RE D} (ha : JE X own a g) (he : ∀ whole, isTrue a X.env whole = (do let v ← whole; standAt a.pos; holding [v] (truthy v)) := by intro _; rfl) : JTE X own a (etr g) := ⟨fun {P F0 H0 σ F H δ W Q o} r tk hg hP =>
  wt_of (pt_truth pe_we he) (js_bind (w := WE X a) ha r tk hg hP fun x v δ1 F1 H1 h1 e1 rx r1 P1 => by
    simp only [Option.map_eq_some_iff] at h1
    obtain ⟨k, hk, rfl⟩ := h1
    exact ⟨k, tru_of r1.fh rx hk, P1 k F1 H1 r1 (Ex.refl _) rfl⟩)⟩
theorem je_cmp {op : CmpOp} {rr : R2} {g : D → D → Option D} {fa fb : Env → RE D} (ho : OpR X (compareOp op) rr) (hr : OpD X.K rr g) (ha : JE X own a fa) (hb : JE X own b fb) (hm : behindInMarks op b = false := by first | exact nomark _ | with_unfolding_all rfl) : JE X own (.Compare a [op] [b] pos) (eop2 g fa fb) := ⟨fun {P F0 H0 σ F H δ W Q o} r tk hg hP =>
  we_of (pe_cmpR ho pe_we pe_we hm) (js_bind (w := WE X a) ha r tk hg hP fun x vx δ1 F1 H1 h1 e1 rx r1 P1 => js_bind (w := WE X b) hb r1 tk h1 P1 fun y vy δ2 F2 H2 h2 e2 ry r2 P2 => by
    simp only [Option.map_eq_some_iff] at h2
    obtain ⟨z, hz, rfl⟩ := h2
    exact hr r2.fh (rx.mono e2) ry hz _ fun v F' H' g rv => P2 v F' H' (r2.grow g) g.ff rv)⟩
end
/-! ### comprehensions that make own lists; two clauses -/
section
variable {X : Cx} {own : List Nat} {elt tg iter : Expr} {ifs : List Expr} {scope : Scope} {ow : List (Str × Nat)} {pos : Pos} {f : Env → RE (List D)} {g : D → Env → Option Env} {is : List Nat} {t : Env → RE Bool} {e : Env → RE D}
theorem jn_lc (hc : X.calm = true) (hN : X.N.Nodup) (hi : JI X own tg iter f) (ok : BlkOk X.N X.env.scope scope ow)
    (hg : ∀ (s : Shared) (Hb : Hp) (C : Addr) (cl : List (Str × Addr)) (fp : List Addr), JG (X.blk s Hb scope (compEnvC scope cl C X.env) fp) own tg is g)
    (ht : ∀ (s : Shared) (Hb : Hp) (C : Addr) (cl : List (Str × Addr)) (fp : List Addr), JTs (X.blk s Hb scope (compEnvC scope cl C X.env) fp) own ifs t)
    (he : ∀ (s : Shared) (Hb : Hp) (C : Addr) (cl : List (Str × Addr)) (fp : List Addr), JE (X.blk s Hb scope (compEnvC scope cl C X.env) fp) own elt e)
    (hvs : (ow.map (·.2)).all (fun i => !own.contains i) = true := by decide) (his : is.all (fun i => (ow.map (·.2)).contains i) = true := by decide) (hs : ∀ x, foldedSetIterable iter X.env x = pure x := by intro _; rfl) :
    JN X own (.ListComp elt [⟨tg, iter, ifs, 0⟩] scope pos) (ecomp (ow.map (·.2)) f g t e) := ⟨fun {P F0 H0 σ F H δ W Q o} r tk hh hP => by
  refine we_of (pe_lc (g := bG X scope tg) (tt := bT X scope ifs) (te := bE X scope elt) hc hN pi_wi ok (fun s Hb C cl fp => ⟨fun pins s' σ' H' v u Q' I rv h => (h s Hb C cl fp) pins s' u I rv⟩) (fun s Hb C cl fp => ⟨fun pins s' σ' H' Q' I h => (h s Hb C cl fp) pins s' I⟩) (fun s Hb C cl fp => ⟨fun pins s' σ' H' Q' I h => (h s Hb C cl fp) pins s' I⟩) hs) ?_
  unfold ecomp at hh
  rw [← bindE_assoc] at hh
  cases e0 : bindE (f δ) (fun ds δ' => scomp (ow.map (·.2)) g t e ds [] (wipeD (ow.map (·.2)) δ')) with
  | none => rw [e0] at hh; cases hh
  | some o1 =>
    rw [e0] at hh
    refine lc_read (ow := ow) hi hg ht he hvs his r tk e0 (fun x δ' q => ?_) (fun ds δ' q Dd vs F' H' l x rv => ?_)
    · subst q; cases hh; exact hP
    · subst q; cases hh
      exact hP _ _ _ _ l x (.lst rv)⟩
/-- name = [..], the name's own -/
theorem js_setLcN (i : Nat) {y : Str} {py spos : Pos} (hc : X.calm = true) (hN : X.N.Nodup) (hi : JI X own tg iter f) (ok : BlkOk X.N X.env.scope scope ow)
    (hg : ∀ (s : Shared) (Hb : Hp) (C : Addr) (cl : List (Str × Addr)) (fp : List Addr), JG (X.blk s Hb scope (compEnvC scope cl C X.env) fp) own tg is g)
    (ht : ∀ (s : Shared) (Hb : Hp) (C : Addr) (cl : List (Str × Addr)) (fp : List Addr), JTs (X.blk s Hb scope (compEnvC scope cl C X.env) fp) own ifs t)
    (he : ∀ (s : Shared) (Hb : Hp) (C : Addr) (cl : List (Str × Addr)) (fp : List Addr), JE (X.blk s Hb scope (compEnvC scope cl C X.env) fp) own elt e)
    (hy : X.N[i]? = some y := by rfl) (hyl : X.env.scope.names.lookup y = some .local := by rfl) (ho : i ∈ own := by decide) (hz : i ≠ 0 := by decide)
    (hsw : swapsWith (.ListComp elt [⟨tg, iter, ifs, 0⟩] scope pos) (some (.Name y py)) spos.line X.env = pure true := by exact sw_true rfl rfl rfl (by decide +kernel))
    (hvs : (ow.map (·.2)).all (fun i => !own.contains i) = true := by decide) (his : is.all (fun i => (ow.map (·.2)).contains i) = true := by decide) (hs : ∀ x, foldedSetIterable iter X.env x = pure x := by intro _; rfl) :
    JS X own (.Assign [.Name y py] (.ListComp elt [⟨tg, iter, ifs, 0⟩] scope pos) spos) (sset i (ecomp (ow.map (·.2)) f g t e)) := ⟨fun {P F0 H0 σ F H δ W o D} _ r tk hh hP => by
  refine ws_of (ps_setLc (g := bG X scope tg) (tt := bT X scope ifs) (te := bE X scope elt) hc hN hy hyl hsw pi_wi ok (fun s Hb C cl fp => ⟨fun pins s' σ' H' v u Q' I rv h => (h s Hb C cl fp) pins s' u I rv⟩) (fun s Hb C cl fp => ⟨fun pins s' σ' H' Q' I h => (h s Hb C cl fp) pins s' I⟩) (fun s Hb C cl fp => ⟨fun pins s' σ' H' Q' I h => (h s Hb C cl fp) pins s' I⟩) hs) ?_
  unfold sset ecomp at hh
  rw [← bindE_assoc, bindE_assoc] at hh
  cases e0 : bindE (f δ) (fun ds δ' => scomp (ow.map (·.2)) g t e ds [] (wipeD (ow.map (·.2)) δ')) with
  | none => rw [e0] at hh; cases hh
  | some o1 =>
    rw [e0] at hh
    refine lc_read (ow := ow) hi hg ht he hvs his r tk e0 (fun x δ' q => ?_) (fun ds δ' q Dd vs F' H' l x rv => ?_)
    · subst q; cases hh; exact fun cls dd F' H' r1 e1 rx => hP cls dd σ F' H' r1 e1 rx
    · subst q; cases hh
      exact hP _ _ _ (l.keepOwn (.lst rv) ho hz) x⟩
theorem wipe_wipe {σ : L2.St} {vs vs1 : List Nat} (h : ∀ i, i ∈ vs1 → i ∈ vs) : wipe (wipe σ vs1) vs = wipe σ vs := by
  apply List.ext_getElem?
  intro j
  rw [wipe_get, wipe_get, wipe_get]
  by_cases hj : j ∈ vs
  · rw [if_pos hj, if_pos hj]
    split
    · cases σ[j]? <;> rfl
    · rfl
  · rw [if_neg hj, if_neg hj, if_neg (fun q => hj (h j q))]
/-- one clause's loop, from any start -/
theorem sc_loop {P : Pm} {F0 H0 F1 : Hp} {σ2 : L2.St} {H4 : Hp} {δ4 : Env} {vs1 : List Nat} {J : It} {Dd : Addr} {es acc0 ys : List D} {us0 : List V} {δ5 : Env} {Nx : Hp → Prop}
    (hg : ∀ (s : Shared) (Hb : Hp) (C : Addr) (cl : List (Str × Addr)) (fp : List Addr), JG (X.blk s Hb scope (compEnvC scope cl C X.env) fp) own tg is g)
    (ht : ∀ (s : Shared) (Hb : Hp) (C : Addr) (cl : List (Str × Addr)) (fp : List Addr), JTs (X.blk s Hb scope (compEnvC scope cl C X.env) fp) own ifs t)
    (he : ∀ (s : Shared) (Hb : Hp) (C : Addr) (cl : List (Str × Addr)) (fp : List Addr), JE (X.blk s Hb scope (compEnvC scope cl C X.env) fp) own elt e)
    (hv : ∀ i, i ∈ vs1 → i ∉ own) (hi' : ∀ i, i ∈ is → i ∈ vs1) (src : Src X.K F1 es J)
    (l0 : LS X.K own P F0 H0 Dd (.lst us0) F1 (wipe σ2 vs1) H4 δ4) (ra0 : Reps X.K F1 us0 acc0) (hh : scomp vs1 g t e es acc0 δ4 = some (.ok (ys, δ5)))
    (hN : ∀ us F' H', LS X.K own P F0 H0 Dd (.lst us) F' (wipe σ2 vs1) H' δ5 → Ex F1 F' → Reps X.K F' us ys → Nx H') :
    ∃ W1 : Nat → Nat → Hp → Prop, (∃ m, W1 0 m H4) ∧ ∀ j k H, W1 j k H →
      (J.stop j H ∧ Nx H) ∨ (J.go j H ∧ ∃ Nx1 : Hp → Prop, (∀ H', Nx1 H' → ∃ k', k' < k ∧ W1 (j + 1) k' H') ∧ ∀ x H', J.yld j H x H' → bG X scope tg x (wipe σ2 vs1) H' fun σ3 H5 => wipe σ3 vs1 = wipe σ2 vs1 ∧ bT X scope ifs σ3 H5 fun b H6 =>
        if b = true then bE X scope elt σ3 H6 fun y H7 => ∃ acc, H7 Dd = some (.lst acc) ∧ acc.length < sizeLine ∧ Nx1 (upd H7 Dd (.lst (acc ++ [y]))) else Nx1 H6) := by
  refine ⟨fun i m Hc => ∃ F' δ' acc vs, LS X.K own P F0 H0 Dd (.lst vs) F' (wipe σ2 vs1) Hc δ' ∧ Ex F1 F' ∧ Reps X.K F' vs acc ∧ i + m = es.length ∧ scomp vs1 g t e (es.drop i) acc δ' = some (.ok (ys, δ5)), ⟨es.length, F1, _, _, _, l0, Ex.refl _, ra0, Nat.zero_add _, hh⟩, ?_⟩
  rintro i m H2 ⟨F2, δ2, acc, vs, l2, e2, ra, hm, h2⟩
  cases hd : es[i]? with
  | none =>
    have hl : es.length ≤ i := List.getElem?_eq_none_iff.1 hd
    rw [List.drop_of_length_le hl] at h2
    cases h2
    exact .inl ⟨src.stop e2 l2.rs.fh hl, hN vs F2 H2 l2 e2 ra⟩
  | some d =>
    have hl : i < es.length := (List.getElem?_eq_some_iff.1 hd).1
    have hd' : es[i] = d := (List.getElem?_eq_some_iff.1 hd).2
    rw [List.drop_eq_getElem_cons hl, hd'] at h2
    obtain ⟨⟨P', Fb, Hb, rr, cc, ee, nn, nf⟩, nh⟩ := l2
    obtain ⟨g1, g2⟩ := src.go e2 rr.fh hd
    refine .inr ⟨g1, fun Hc => ∃ F' δ' acc vs, LS X.K own P F0 H0 Dd (.lst vs) F' (wipe σ2 vs1) Hc δ' ∧ Ex F1 F' ∧ Reps X.K F' vs acc ∧ (i + 1) + (m - 1) = es.length ∧ scomp vs1 g t e (es.drop (i + 1)) acc δ' = some (.ok (ys, δ5)), fun H' h => ⟨m - 1, by omega, h⟩, fun x H' hy => ?_⟩
    obtain ⟨F3, g3, rx⟩ := g2 x H' hy
    simp only [scomp] at h2
    cases e4 : g d δ2 with
    | none => rw [e4] at h2; cases h2
    | some δ4 =>
      rw [e4] at h2
      simp only [] at h2
      intro s0 Hb0 C0 cl0 fp0
      have ww : wipe (wipe σ2 vs1) vs1 = wipe σ2 vs1 := wipe_wipe fun _ h => h
      refine (hg s0 Hb0 C0 cl0 fp0).run (P := P') (F0 := Fb) (H0 := Hb) (rr.grow g3) rx e4 fun σ4 F4 H4 r4 x4 w4 => ⟨(w4 _ hi').trans ww, fun s1 Hb1 C1 cl1 fp1 => ?_⟩
      have hw := (w4 _ hi').trans ww
      cases e5 : t δ4 with
      | none => rw [e5] at h2; cases h2
      | some z =>
        rw [e5] at h2
        rcases z with ⟨x5, δ5⟩ | ⟨b5, δ5⟩
        · cases h2
        · refine (ht s1 Hb1 C1 cl1 fp1).run (W := fun _ _ _ _ => False) (P := P') (F0 := Fb) (H0 := Hb) r4 (takes_false fun _ _ _ _ h => h) e5 fun v5 F5 H5 r5 x5 rb => ?_
          cases rb
          have ex5 : Ex F2 F5 := (g3.ff.trans x4).trans x5
          cases b5 with
          | false =>
            rw [if_neg Bool.false_ne_true]
            dsimp only at h2
            refine ⟨F5, _, acc, vs, ⟨⟨P', Fb, Hb, ?_, cc, ee, nn, nf⟩, nh⟩, e2.trans ex5, ra.mono ex5, by omega, h2⟩
            have := r5.wipe hv
            rw [hw] at this
            exact this
          | true =>
            rw [if_pos rfl]
            dsimp only at h2
            intro s2 Hb2 C2 cl2 fp2
            cases e6 : e δ5 with
            | none => rw [e6] at h2; cases h2
            | some z =>
              rw [e6] at h2
              rcases z with ⟨x6, δ6⟩ | ⟨y6, δ6⟩
              · cases h2
              · dsimp only at h2
                refine (he s2 Hb2 C2 cl2 fp2).run (W := fun _ _ _ _ => False) (P := P') (F0 := Fb) (H0 := Hb) r5 (takes_false fun _ _ _ _ h => h) e6 fun v6 F6 H6 r6 x6 ry => ?_
                split at h2
                · rename_i hsz
                  have ex6 : Ex F2 F6 := ex5.trans x6
                  have r7 := r6.wipe hv
                  rw [hw] at r7
                  have l7 : LS X.K own P F0 H0 Dd (.lst vs) F6 (wipe σ2 vs1) H6 (wipeD vs1 δ6) := ⟨⟨P', Fb, Hb, r7, cc, ee, nn, nf⟩, nh⟩
                  refine ⟨vs, l7.at, by rw [Rep.len ra]; exact hsz, F6, _, acc ++ [y6], vs ++ [v6], l7.app, e2.trans ex6, (ra.mono ex6).app (.cons ry .nil), by omega, h2⟩
                · cases h2
end
end PD
end
section
namespace PD
open PySem L2
section
variable {X : Cx} {own : List Nat} {elt tg iter tg1 iter1 : Expr} {ifs ifs1 : List Expr} {scope : Scope} {ow : List (Str × Nat)} {vs1 : List Nat} {pos : Pos} {f f1 : Env → RE (List D)} {g g1 : D → Env → Option Env} {is is1 : List Nat} {t t1 : Env → RE Bool} {e : Env → RE D}
def scomp2 (vs vs1 : List Nat) (g : D → Env → Option Env) (t : Env → RE Bool) (f1 : Env → RE (List D)) (g1 : D → Env → Option Env) (t1 : Env → RE Bool) (e : Env → RE D) : List D → List D → Env → RE (List D)
  | [], acc, δ => some (.ok (acc, δ))
  | d :: ds, acc, δ => match g d δ with
    | none => none
    | some δ1 => match t δ1 with
      | some (.ok (true, δ2)) => (match f1 δ2 with
        | some (.ok (es, δ3)) => (match scomp vs1 g1 t1 e es acc (wipeD vs1 δ3) with
          | some (.ok (acc', δ4)) => scomp2 vs vs1 g t f1 g1 t1 e ds acc' (wipeD vs δ4)
          | _ => none)
        | _ => none)
      | some (.ok (false, δ2)) => scomp2 vs vs1 g t f1 g1 t1 e ds acc (wipeD vs δ2)
      | _ => none
abbrev bI (X : Cx) (scope : Scope) (tg iter : Expr) : TI := fun σ H R => ∀ (s : Shared) (Hb : Hp) (C : Addr) (cl : List (Str × Addr)) (fp : List Addr), WI (X.blk s Hb scope (compEnvC scope cl C X.env) fp) tg iter σ H R
theorem lc2_read {σ : L2.St} {P : Pm} {F0 H0 F H : Hp} {δ : Env} {W : WX} {o : Except (XD × Env) (List D × Env)} {Q : VK} (hi : JI X own tg iter f)
    (hg : ∀ (s : Shared) (Hb : Hp) (C : Addr) (cl : List (Str × Addr)) (fp : List Addr), JG (X.blk s Hb scope (compEnvC scope cl C X.env) fp) own tg is g)
    (ht : ∀ (s : Shared) (Hb : Hp) (C : Addr) (cl : List (Str × Addr)) (fp : List Addr), JTs (X.blk s Hb scope (compEnvC scope cl C X.env) fp) own ifs t)
    (hi1 : ∀ (s : Shared) (Hb : Hp) (C : Addr) (cl : List (Str × Addr)) (fp : List Addr), JI (X.blk s Hb scope (compEnvC scope cl C X.env) fp) own tg1 iter1 f1)
    (hg1 : ∀ (s : Shared) (Hb : Hp) (C : Addr) (cl : List (Str × Addr)) (fp : List Addr), JG (X.blk s Hb scope (compEnvC scope cl C X.env) fp) own tg1 is1 g1)
    (ht1 : ∀ (s : Shared) (Hb : Hp) (C : Addr) (cl : List (Str × Addr)) (fp : List Addr), JTs (X.blk s Hb scope (compEnvC scope cl C X.env) fp) own ifs1 t1)
    (he : ∀ (s : Shared) (Hb : Hp) (C : Addr) (cl : List (Str × Addr)) (fp : List Addr), JE (X.blk s Hb scope (compEnvC scope cl C X.env) fp) own elt e)
    (hvs : (ow.map (·.2)).all (fun i => !own.contains i) = true) (his : is.all (fun i => (ow.map (·.2)).contains i) = true) (hvs1 : ∀ i, i ∈ vs1 → i ∈ ow.map (·.2)) (his1 : is1.all (fun i => vs1.contains i) = true)
    (r : RSf X ⟨own, P, F0, H0⟩ F σ H δ) (tk : Takes X W) (hh : bindE (f δ) (fun ds δ' => scomp2 (ow.map (·.2)) vs1 g t f1 g1 t1 e ds [] (wipeD (ow.map (·.2)) δ')) = some o)
    (hx : ∀ x δ', o = .error (x, δ') → ∀ cls dd F' H', RSf X ⟨own, P, F0, H0⟩ F' σ H' δ' → Ex F F' → RepX X.K F' cls dd x → W cls dd σ H')
    (hP : ∀ ds δ', o = .ok (ds, δ') → ∀ Dd vs F' H', LS X.K own P F0 H0 Dd (.lst vs) F' σ H' δ' → Ex F F' → Reps X.K F' vs ds → Q (.ref Dd) H') :
    tLc2 (WI X tg iter) (bG X scope tg) (bT X scope ifs) (bI X scope tg1 iter1) (bG X scope tg1) (bT X scope ifs1) (bE X scope elt) (ow.map (·.2)) vs1 σ H Q := by
  have hv : ∀ i, i ∈ ow.map (·.2) → i ∉ own := fun i hi hc => by
    have := List.all_eq_true.1 hvs i hi
    simp at this
    exact this hc
  have hi' : ∀ i, i ∈ is → i ∈ ow.map (·.2) := fun i h => by
    have := List.all_eq_true.1 his i h
    simpa using this
  have hi1' : ∀ i, i ∈ is1 → i ∈ vs1 := fun i h => by
    have := List.all_eq_true.1 his1 i h
    simpa using this
  cases e0 : f δ with
  | none => rw [e0] at hh; cases hh
  | some y =>
    rw [e0] at hh
    rcases y with ⟨x, δ1⟩ | ⟨ds, δ1⟩
    · cases hh; exact hi.run r tk e0 (hx x δ1 rfl)
    · simp only [bindE] at hh
      refine hi.run r tk e0 fun J F1 H1 r1 e1 src => fun Dd hD => ?_
      refine ⟨fun i m Hc => ∃ F' δ' acc vs, LS X.K own P F0 H0 Dd (.lst vs) F' (wipe σ (ow.map (·.2))) Hc δ' ∧ Ex F1 F' ∧ Reps X.K F' vs acc ∧ i + m = ds.length ∧ scomp2 (ow.map (·.2)) vs1 g t f1 g1 t1 e (ds.drop i) acc δ' = some o, ⟨ds.length, F1, _, [], [], .start (r1.wipe hv) hD, Ex.refl _, .nil, Nat.zero_add _, hh⟩, ?_⟩
      rintro i m H2 ⟨F2, δ2, acc, vs, l2, e2, ra, hm, h2⟩
      cases hd : ds[i]? with
      | none =>
        have hl : ds.length ≤ i := List.getElem?_eq_none_iff.1 hd
        rw [List.drop_of_length_le hl] at h2
        cases h2
        obtain ⟨⟨P', Fb, Hb, rr, cc, ee, nn, nf⟩, nh⟩ := l2
        exact .inl ⟨src.stop e2 rr.fh hl, hP acc δ2 rfl Dd vs F2 H2 ⟨⟨P', Fb, Hb, rr.unwipe, cc, ee, nn, nf⟩, nh⟩ (e1.trans e2) ra⟩
      | some d =>
        have hl : i < ds.length := (List.getElem?_eq_some_iff.1 hd).1
        have hd' : ds[i] = d := (List.getElem?_eq_some_iff.1 hd).2
        rw [List.drop_eq_getElem_cons hl, hd'] at h2
        obtain ⟨⟨P', Fb, Hb, rr, cc, ee, nn, nf⟩, nh⟩ := l2
        obtain ⟨g1', g2⟩ := src.go e2 rr.fh hd
        refine .inr ⟨g1', fun Hc => ∃ F' δ' acc vs, LS X.K own P F0 H0 Dd (.lst vs) F' (wipe σ (ow.map (·.2))) Hc δ' ∧ Ex F1 F' ∧ Reps X.K F' vs acc ∧ (i + 1) + (m - 1) = ds.length ∧ scomp2 (ow.map (·.2)) vs1 g t f1 g1 t1 e (ds.drop (i + 1)) acc δ' = some o, fun H' h => ⟨m - 1, by omega, h⟩, fun x H' hy => ?_⟩
        obtain ⟨F3, g3, rx⟩ := g2 x H' hy
        simp only [scomp2] at h2
        cases e4 : g d δ2 with
        | none => rw [e4] at h2; cases h2
        | some δ4 =>
          rw [e4] at h2
          simp only [] at h2
          intro s0 Hb0 C0 cl0 fp0
          have ww : wipe (wipe σ (ow.map (·.2))) (ow.map (·.2)) = wipe σ (ow.map (·.2)) := wipe_wipe fun _ h => h
          refine (hg s0 Hb0 C0 cl0 fp0).run (P := P') (F0 := Fb) (H0 := Hb) (rr.grow g3) rx e4 fun σ4 F4 H4 r4 x4 w4 => ⟨(w4 _ hi').trans ww, fun s1 Hb1 C1 cl1 fp1 => ?_⟩
          have hw := (w4 _ hi').trans ww
          cases e5 : t δ4 with
          | none => rw [e5] at h2; cases h2
          | some z =>
            rw [e5] at h2
            rcases z with ⟨x5, δ5⟩ | ⟨b5, δ5⟩
            · cases h2
            · refine (ht s1 Hb1 C1 cl1 fp1).run (W := fun _ _ _ _ => False) (P := P') (F0 := Fb) (H0 := Hb) r4 (takes_false fun _ _ _ _ h => h) e5 fun v5 F5 H5 r5 x5 rb => ?_
              cases rb
              have ex5 : Ex F2 F5 := (g3.ff.trans x4).trans x5
              cases b5 with
              | false =>
                rw [if_neg Bool.false_ne_true]
                dsimp only at h2
                refine ⟨F5, _, acc, vs, ⟨⟨P', Fb, Hb, ?_, cc, ee, nn, nf⟩, nh⟩, e2.trans ex5, ra.mono ex5, by omega, h2⟩
                have := r5.wipe hv
                rw [hw] at this
                exact this
              | true =>
                rw [if_pos rfl]
                dsimp only at h2
                intro s2 Hb2 C2 cl2 fp2
                cases e6 : f1 δ5 with
                | none => rw [e6] at h2; cases h2
                | some z =>
                  rw [e6] at h2
                  rcases z with ⟨x6, δ6⟩ | ⟨es, δ6⟩
                  · cases h2
                  · dsimp only at h2
                    refine (hi1 s2 Hb2 C2 cl2 fp2).run (W := fun _ _ _ _ => False) (P := P') (F0 := Fb) (H0 := Hb) r5 (takes_false fun _ _ _ _ h => h) e6 fun J1 F6 H6 r6 x6 src1 => ?_
                    cases e7 : scomp vs1 g1 t1 e es acc (wipeD vs1 δ6) with
                    | none => rw [e7] at h2; cases h2
                    | some z =>
                      rw [e7] at h2
                      rcases z with ⟨x7, δ7⟩ | ⟨acc', δ7⟩
                      · cases h2
                      · dsimp only at h2
                        have ex6 : Ex F2 F6 := ex5.trans x6
                        have r6w := r6.wipe (vs := vs1) fun i hi => hv i (hvs1 i hi)
                        have l6 : LS X.K own P F0 H0 Dd (.lst vs) F6 (wipe σ4 vs1) H6 (wipeD vs1 δ6) := ⟨⟨P', Fb, Hb, r6w, cc, ee, nn, nf⟩, nh⟩
                        refine sc_loop hg1 ht1 he (fun i hi => hv i (hvs1 i hi)) hi1' src1 l6 (ra.mono ex6) e7 fun us F8 H8 l8 e8 ru => ?_
                        obtain ⟨⟨P8, Fb8, Hb8, rr8, cc8, ee8, nn8, nf8⟩, nh8⟩ := l8
                        refine ⟨F8, _, acc', us, ⟨⟨P8, Fb8, Hb8, ?_, cc8, ee8, nn8, nf8⟩, nh8⟩, e2.trans (ex6.trans e8), ru, by omega, h2⟩
                        have := rr8.wipe hv
                        rw [wipe_wipe hvs1, hw] at this
                        exact this
def ecomp2 (vs vs1 : List Nat) (f : Env → RE (List D)) (g : D → Env → Option Env) (t : Env → RE Bool) (f1 : Env → RE (List D)) (g1 : D → Env → Option Env) (t1 : Env → RE Bool) (e : Env → RE D) : Env → RE D := fun δ => bindE (f δ) fun ds δ' => bindE (scomp2 vs vs1 g t f1 g1 t1 e ds [] (wipeD vs δ')) fun ys δ2 => some (.ok (.lst ys, δ2))
theorem jn_lc2 (vs1 : List Nat) (hc : X.calm = true) (hN : X.N.Nodup) (hi : JI X own tg iter f) (ok : BlkOk X.N X.env.scope scope ow)
    (hg : ∀ (s : Shared) (Hb : Hp) (C : Addr) (cl : List (Str × Addr)) (fp : List Addr), JG (X.blk s Hb scope (compEnvC scope cl C X.env) fp) own tg is g)
    (ht : ∀ (s : Shared) (Hb : Hp) (C : Addr) (cl : List (Str × Addr)) (fp : List Addr), JTs (X.blk s Hb scope (compEnvC scope cl C X.env) fp) own ifs t)
    (hi1 : ∀ (s : Shared) (Hb : Hp) (C : Addr) (cl : List (Str × Addr)) (fp : List Addr), JI (X.blk s Hb scope (compEnvC scope cl C X.env) fp) own tg1 iter1 f1)
    (hg1 : ∀ (s : Shared) (Hb : Hp) (C : Addr) (cl : List (Str × Addr)) (fp : List Addr), JG (X.blk s Hb scope (compEnvC scope cl C X.env) fp) own tg1 is1 g1)
    (ht1 : ∀ (s : Shared) (Hb : Hp) (C : Addr) (cl : List (Str × Addr)) (fp : List Addr), JTs (X.blk s Hb scope (compEnvC scope cl C X.env) fp) own ifs1 t1)
    (he : ∀ (s : Shared) (Hb : Hp) (C : Addr) (cl : List (Str × Addr)) (fp : List Addr), JE (X.blk s Hb scope (compEnvC scope cl C X.env) fp) own elt e)
    (hvs : (ow.map (·.2)).all (fun i => !own.contains i) = true := by decide) (his : is.all (fun i => (ow.map (·.2)).contains i) = true := by decide) (hvs1 : vs1.all (fun i => (ow.map (·.2)).contains i) = true := by decide) (his1 : is1.all (fun i => vs1.contains i) = true := by decide)
    (hs : ∀ x, foldedSetIterable iter X.env x = pure x := by intro _; rfl) (hs1 : ∀ env x, foldedSetIterable iter1 env x = pure x := by intro _ _; rfl) :
    JN X own (.ListComp elt [⟨tg, iter, ifs, 0⟩, ⟨tg1, iter1, ifs1, 0⟩] scope pos) (ecomp2 (ow.map (·.2)) vs1 f g t f1 g1 t1 e) := ⟨fun {P F0 H0 σ F H δ W Q o} r tk hh hP => by
  have hv1 : ∀ i ∈ vs1, i ∈ ow.map (·.2) := fun i hi => by simpa using List.all_eq_true.1 hvs1 i hi
  refine we_of (pe_lc2 (vs1 := vs1) (g := bG X scope tg) (tt := bT X scope ifs) (wi1 := bI X scope tg1 iter1) (g1 := bG X scope tg1) (tt1 := bT X scope ifs1) (te := bE X scope elt) hc hN pi_wi ok hv1 (fun s Hb C cl fp => ⟨fun pins s' σ' H' v u Q' I rv h => (h s Hb C cl fp) pins s' u I rv⟩) (fun s Hb C cl fp => ⟨fun pins s' σ' H' Q' I h => (h s Hb C cl fp) pins s' I⟩)
    (fun s Hb C cl fp => ⟨fun pins s' σ' H' Q' I h => (h s Hb C cl fp) pins s' I⟩) (fun s Hb C cl fp => ⟨fun pins s' σ' H' v u Q' I rv h => (h s Hb C cl fp) pins s' u I rv⟩) (fun s Hb C cl fp => ⟨fun pins s' σ' H' Q' I h => (h s Hb C cl fp) pins s' I⟩) (fun s Hb C cl fp => ⟨fun pins s' σ' H' Q' I h => (h s Hb C cl fp) pins s' I⟩) hs hs1) ?_
  unfold ecomp2 at hh
  rw [← bindE_assoc] at hh
  cases e0 : bindE (f δ) (fun ds δ' => scomp2 (ow.map (·.2)) vs1 g t f1 g1 t1 e ds [] (wipeD (ow.map (·.2)) δ')) with
  | none => rw [e0] at hh; cases hh
  | some o1 =>
    rw [e0] at hh
    refine lc2_read (ow := ow) hi hg ht hi1 hg1 ht1 he hvs his hv1 his1 r tk e0 (fun x δ' q => ?_) (fun ds δ' q Dd vs F' H' l x rv => ?_)
    · subst q; cases hh; exact hP
    · subst q; cases hh
      exact hP _ _ _ _ l x (.lst rv)⟩
end
end PD
end
section
namespace PD
open PySem PySem.Spec PyProof.Rows L2 HT
/-! ### t[::-1], t a tuple -/
section
variable {prog : Program} {w : World} {A : Around} {E : Value → Shared → Prop} {s : Shared}
theorem adjust_rev (n : Nat) : Builtin.Slice.sliceAdjust none none (-1) (n : Int) = ((n : Int) - 1, -1) := rfl
theorem places_rev (n : Nat) : Builtin.Slice.slicePlaces ((n : Int) - 1) (-1) (-1) = n := by
  unfold Builtin.Slice.slicePlaces
  rw [if_neg (by decide)]
  by_cases h : (n : Int) - 1 > -1
  · rw [if_pos h]
    have : ((n : Int) - 1 - -1 - 1) / (- -1) + 1 = n := by
      rw [show (- -1 : Int) = 1 by decide, Int.ediv_one]; omega
    rw [this, Int.toNat_natCast]
  · rw [if_neg h]; omega
theorem pick_rev (xs : Array Value) : ((List.range xs.size).filterMap fun (m : Nat) => xs[(((xs.size : Int) - 1) + (m : Int) * (-1)).toNat]?).toArray = xs.toList.reverse.toArray := by
  have e : (fun (m : Nat) => xs[(((xs.size : Int) - 1) + (m : Int) * (-1)).toNat]?) = (fun k : Nat => xs[k]?) ∘ fun m : Nat => (((xs.size : Int) - 1) + (m : Int) * (-1)).toNat := rfl
  rw [e, ← List.filterMap_map]
  have e2 : (List.range xs.size).map (fun m : Nat => (((xs.size : Int) - 1) + (m : Int) * (-1)).toNat) = (List.range xs.size).map (fun k => xs.size - 1 - k) := by
    apply List.map_congr_left
    intro k hk
    have := List.mem_range.1 hk
    omega
  rw [e2, W.krv_range, List.filterMap_reverse, W.krv_all]
theorem getItem_tuple_rev {t sl : Addr} {items : Array Value} {vl vu vs : Value} {Q : Value → Shared → Prop} (ht : PyProof.Rows.IsTup s.heap t items) (hs : s.heap.IsSliceOf sl vl vu vs) (pl : IsPart vl none) (pu : IsPart vu none) (ps : IsPart vs (some (-1)))
    (h : Q (.ref s.heap.objs.size) { s with heap := s.heap.push { cls := .type "tuple", data := .seq items.toList.reverse.toArray } })
    (hsz : items.size ≤ sizeLine) : wpAny (model prog w) A (getItem (.ref t) (.ref sl)) Q E s := by
  have htake : sizeOk (.seq items.toList.reverse.toArray) := by
    show items.toList.reverse.toArray.size ≤ sizeLine
    rw [List.size_toArray, List.length_reverse, Array.length_toList]
    exact hsz
  obtain ⟨os, hos, hcs, hds⟩ := id hs
  have hTs : s.TypeIs (.ref sl) "slice" := ⟨os, hos, hcs⟩
  unfold getItem
  try with_reducible refine wpAny_holding ?_
  first | refine wpAny_bind (wpAny_pure ?_) | skip
  refine wpAny_bind (wpAny_sequenceKey ht.typeIs (by decide) ?_)
  refine wpAny_bind (wpAny_callSpecial?_slot (name := Str.ofString "__getitem__") ht.typeIs PyProof.Rows.slot_tuple_getitem
    (wpAny_call_entry PyProof.Rows.slot_tuple_getitem ht.typeIs entry_tuple_getitem ?_ (args_tuple_getitem _ _)))
  show wpAny _ _ (Builtin.Tuple.tupleItemsOf (.ref t) >>= _) _ _ s
  refine wpAny_bind (tupleItemsOf_ ht ?_)
  refine wpAny_bind (wpAny_typeOf hTs ?_)
  rw [if_pos (by decide)]
  refine wpAny_bind ?_
  unfold Builtin.Slice.sliceApplied Builtin.Slice.sliceFields
  refine wpAny_bind (wpAny_bind (wpAny_field hos hds (x := vl) rfl (wpAny_bind (wpAny_field hos hds (x := vu) rfl (wpAny_bind (wpAny_field hos hds (x := vs) rfl (wpAny_pure ?_)))))))
  refine wpAny_bind (slicePart_ ps ?_)
  show wpAny _ _ (if ((-1 : Int) == 0) = true then _ else _) _ _ s
  rw [if_neg (by decide)]
  refine wpAny_bind (slicePart_ pl (wpAny_bind (slicePart_ pu (wpAny_bind (wpAny_pure ?_)))))
  show wpAny _ _ (match Builtin.Slice.sliceAdjust none none (-1) (items.size : Int) with | (lo, hi) => pure (lo, (-1 : Int), Builtin.Slice.slicePlaces lo hi (-1))) _ _ s
  rw [adjust_rev]
  show wpAny _ _ (pure (((items.size : Int) - 1), (-1 : Int), Builtin.Slice.slicePlaces ((items.size : Int) - 1) (-1) (-1))) _ _ s
  rw [places_rev]
  refine wpAny_pure ?_
  have hno : ¬ (((((items.size : Int) - 1) == 0) && (-1 : Int) == 1 && items.size == items.size) = true) := by simp
  show wpAny _ _ (if (((items.size : Int) - 1) == 0 && (-1 : Int) == 1 && items.size == items.size) = true then _ else _) _ _ s
  rw [if_neg hno, pick_rev]
  first
    | exact wpAny_bind (m := Builtin.Tuple.tupleExact _) (wpAny_newObj_type (wpAny_pure ⟨_, rfl, wpAny_pure h⟩) htake)
    | exact wpAny_bind (m := Builtin.Tuple.tupleExact _) (wpAny_newObj_type (wpAny_bind (wpAny_pure (wpAny_pure ⟨_, rfl, wpAny_pure h⟩))) htake)
    | exact wpAny_bind (wpAny_bind (m := Builtin.Tuple.tupleExact _) (wpAny_newObj_type (wpAny_pure (wpAny_pure ⟨_, rfl, wpAny_pure h⟩)) htake))
    | exact wpAny_bind (wpAny_bind (m := Builtin.Tuple.tupleExact _) (wpAny_newObj_type (wpAny_pure ⟨_, rfl, wpAny_pure h⟩) htake))
end
end PD
end
section
namespace PD
open PySem L2
/-! ### e[::-1] -/
def dRev : D → Option D
  | .tup xs => some (.tup xs.reverse)
  | .lst xs => some (.lst xs.reverse)
  | .scr xs => some (.lst xs.reverse)
  | _ => none
theorem Reps.rev {K : Frag} {F : Hp} : ∀ {vs : List V} {ds : List D}, Reps K F vs ds → Reps K F vs.reverse ds.reverse
  | _, _, .nil => .nil
  | _, _, .cons h r => by
    rw [List.reverse_cons, List.reverse_cons]
    exact (Reps.rev r).app (.cons h .nil)
section
variable {X : Cx}
open PyProof.Rows PySem.Spec HT in
theorem pe_revT {e : Expr} {te : TE} {k : Nat} {p1 p2 p3 pos : Pos} (he : PE X e te) : PE X (.Subscript e (.Slice none none (some (.UnaryOp .USub (.Constant (.int 1) k p1) p2)) p3) pos) (fun σ H Q => te σ H fun x H1 => ∃ a xs, x = .ref a ∧ SqT X.K H1 a xs ∧ ∀ p o, H1 p = none → PlT o → Q (.ref p) (upd H1 p (.frz o (.tup xs.reverse)))) := by
  refine ⟨fun pins s σ H Q I h => ?_⟩
  refine Subscript_ (thn (he.run pins s σ H _ I h) fun v s1 ⟨x, H1, I1, r1, q1⟩ => ?_)
  obtain ⟨a, xs, ex, hx, q⟩ := q1
  subst ex
  cases r1
  have hst : PO X (some (.UnaryOp .USub (.Constant (.int 1) k p1) p2)) (tPart (tUn (rU fun i => .int (-i)) (tC (.int 1)))) := po_some (pe_un un_neg pe_int)
  refine wpAny_Slice (thn (po_none.run pins s1 σ H1 (fun o H2 => o = none ∧ H2 = H1) I1 ⟨rfl, rfl⟩) fun vl s2 ⟨l, H2, I2, pl, el, e2⟩ => ?_)
  subst el e2
  refine thn (po_none.run pins s2 σ H2 (fun o H3 => o = none ∧ H3 = H2) I2 ⟨rfl, rfl⟩) fun vu s3 ⟨u, H3, I3, pu, eu, e3⟩ => ?_
  subst eu e3
  refine thn (hst.run pins s3 σ H3 (fun o H4 => o = some (-1) ∧ H4 = H3) I3 ⟨1, rfl, -1, rfl, rfl, rfl⟩) fun vs s4 ⟨o, H4, I4, ps, eo, e4⟩ => ?_
  subst eo e4
  have I5 : Inv X pins σ H4 { s4 with heap := s4.heap.push { cls := .type "slice", data := .fields #[vl, vu, vs] } } := I4.kept (t' := s4.toks) fun b ob q => Heap.get?_push_of_some _ q
  obtain ⟨its, r, ht, hz⟩ := I5.tuple hx
  have hlen := r.length
  show wpAny (model X.prog X.w) X.A (subscriptTail e (.Slice none none (some (.UnaryOp .USub (.Constant (.int 1) k p1) p2)) p3) (.ref a) (.ref s4.heap.objs.size)) (EP X pins σ Q) X.xe { s4 with heap := s4.heap.push { cls := .type "slice", data := .fields #[vl, vu, vs] } }
  refine tail_any (ops := [.ref a, .ref s4.heap.objs.size]) ht.typeIs (PyProof.Rows.slot_tuple_getitem.lookup) ?_ (by with_unfolding_all rfl)
  refine getItem_tuple_rev ht (Heap.IsSliceOf.new _ vl vu vs) pl pu ps ?_ (by rw [List.size_toArray]; omega)
  refine ⟨.ref _, _, I5.laid (t' := s4.toks) (o := .frz { cls := .type "tuple", data := .seq its.reverse.toArray } (.tup xs.reverse)) (fun b ob q => Heap.get?_push_of_some _ q) (Nat.le_refl _) ?_, rfl, q _ _ (I5.hok.fresh (Nat.le_refl _)) ⟨rfl, rfl, _, _, rfl⟩⟩
  exact ⟨Heap.get?_push_size _ rfl, by rw [List.length_reverse]; exact hz, its.reverse, r.reverse, IsTup.new (s4.heap.push { cls := .type "slice", data := .fields #[vl, vu, vs] }) _⟩
def vrev (f : Env → Rs D) : Env → Rs D := fun δ => bind (f δ) fun x => opt (dRev x)
theorem jp_rev {e : Expr} {k : Nat} {p1 p2 p3 pos : Pos} {f : Env → Rs D} (he : JP X e f) : JP X (.Subscript e (.Slice none none (some (.UnaryOp .USub (.Constant (.int 1) k p1) p2)) p3) pos) (vrev f) := ⟨fun {σ F H δ W Q o} rp tk hg hP => by
  unfold vrev at hg
  cases e0 : f δ with
  | none => rw [e0] at hg; cases hg
  | some y => cases y with
    | error x => rw [e0] at hg; cases hg; exact we_of (pe_revT pe_we) (he.run rp tk e0 hP)
    | ok x =>
      rw [e0] at hg
      obtain ⟨z, hz, rfl⟩ := opt_some hg
      cases x <;> (try (cases hz; done))
      · cases hz
        refine we_of (pe_revT pe_we) (he.run rp tk e0 fun v F1 H1 g1 rx => ?_)
        cases rx with
        | tup h1 r1 => exact ⟨_, _, rfl, ex_t g1.fh h1, fun p ob hp hpl => hP _ _ _ (g1.trans (.new g1.fh hp)) (.tup (SqP.of upd_same hpl) (r1.rev.mono (Ex.new (none_back g1.fh hp))))⟩
      · cases hz
        refine we_of (pe_revL pe_we) (he.run rp tk e0 fun v F1 H1 g1 rx => ?_)
        cases rx with
        | lst h1 r1 => exact ⟨_, _, rfl, SqL.of (g1.fh _ _ h1), fun p hp => hP _ _ _ (g1.trans (.new g1.fh hp)) (.lst upd_same (r1.rev.mono (Ex.new (none_back g1.fh hp))))⟩
      · cases hz
        refine we_of (pe_revL pe_we) (he.run rp tk e0 fun v F1 H1 g1 rx => ?_)
        cases rx with
        | scr h1 r1 => exact ⟨_, _, rfl, ex_l g1.fh h1, fun p hp => hP _ _ _ (g1.trans (.new g1.fh hp)) (.lst upd_same (r1.rev.mono (Ex.new (none_back g1.fh hp))))⟩⟩
/-! ### repr of data -/
mutual
theorem toPy_nodict : ∀ {d : D} {p : PyData}, toPy d = some p → p.hasDict = false
  | .non, _, h => by cases h; simp [PyData.hasDict]
  | .bl _, _, h => by cases h; simp [PyData.hasDict]
  | .int _, _, h => by cases h; simp [PyData.hasDict]
  | .str _, _, h => by cases h; simp [PyData.hasDict]
  | .tup xs, p, h => by
    rw [toPy] at h
    cases h1 : toPys xs with
    | none => rw [h1] at h; cases h
    | some ps => rw [h1] at h; cases h; rw [PyData.hasDict]; exact toPys_nodict h1
  | .lst xs, p, h => by
    rw [toPy] at h
    cases h1 : toPys xs with
    | none => rw [h1] at h; cases h
    | some ps => rw [h1] at h; cases h; rw [PyData.hasDict]; exact toPys_nodict h1
  | .scr xs, p, h => by
    rw [toPy] at h
    cases h1 : toPys xs with
    | none => rw [h1] at h; cases h
    | some ps => rw [h1] at h; cases h; rw [PyData.hasDict]; exact toPys_nodict h1
  | .npt xs, p, h => by
    rw [toPy] at h
    cases h1 : toPys xs with
    | none => rw [h1] at h; cases h
    | some ps => rw [h1] at h; cases h; rw [PyData.hasDict]; exact toPys_nodict h1
  | .dic _, _, h => by cases h
  | .obj _ _, _, h => by cases h
  | .ins _ _, _, h => by cases h
theorem toPys_nodict : ∀ {ds : List D} {ps : List PyData}, toPys ds = some ps → PyData.hasDictAll ps = false
  | [], _, h => by cases h; simp [PyData.hasDictAll]
  | d :: ds, ps, h => by
    rw [toPys] at h
    cases h1 : toPy d with
    | none => rw [h1] at h; cases h
    | some p =>
      cases h2 : toPys ds with
      | none => rw [h1, h2] at h; cases h
      | some qs =>
        rw [h1, h2] at h; cases h
        rw [PyData.hasDictAll, toPy_nodict h1, toPys_nodict h2]; rfl
end
def rRepr (K : Frag) : List V → Hp → VK → Prop := fun vs H Q => ∃ x p, vs = [x] ∧ Dp K H x p ∧ p.hasDict = false ∧ p.showable = true ∧ p.shown.length ≤ sizeLine ∧ p.depth ≤ 64 ∧ Q (.str p.shown) H
theorem cr_repr (hg : X.A.guards = some []) (hu : X.A.units + 70 < cLine) : CallR X (.builtin "repr") (rRepr X.K) := by
  intro pins s σ H vs us Q I r h
  obtain ⟨x, p, rfl, dp, nd, sh, hz, hd, q⟩ := h
  obtain ⟨u, rfl, ru⟩ := vals1 r
  cases dp with
  | non =>
    cases (show u = Value.none from ru)
    exact P.repr_of_none ⟨.str _, H, I.tok _, ⟨_, rfl⟩, by simpa [PyData.shown] using q⟩
  | bl b =>
    cases (show u = Value.bool b from ru)
    exact P.repr_of_bool ⟨.str _, H, I.tok _, ⟨_, rfl⟩, by simpa [PyData.shown] using q⟩
  | int i =>
    obtain ⟨t, rfl⟩ := ru
    exact P.repr_of_int (by simpa [PyData.showable] using sh) ⟨.str _, H, I.tok _, ⟨_, rfl⟩, by simpa [PyData.shown] using q⟩
  | str y =>
    obtain ⟨t, rfl⟩ := ru
    exact P.repr_of_str ⟨.str _, H, I.tok _, ⟨_, rfl⟩, by simpa [PyData.shown] using q⟩ (by simpa [PyData.shown] using hz)
  | @lst a xs ds hs hx =>
    cases (show u = Value.ref a from ru)
    obtain ⟨as, ra⟩ := Dp.reads I _ _ (.ref a) (Dp.lst hs hx) rfl
    exact repr_of_reads' ra sh (fun h => by rw [nd] at h; cases h) hg (by omega) (fun _ _ e => e) (fun h' u tk hk => ⟨.str _, H, I.kept hk, ⟨_, rfl⟩, q⟩) hz
  | @tup a xs ds hs hx =>
    cases (show u = Value.ref a from ru)
    obtain ⟨as, ra⟩ := Dp.reads I _ _ (.ref a) (Dp.tup hs hx) rfl
    exact repr_of_reads' ra sh (fun h => by rw [nd] at h; cases h) hg (by omega) (fun _ _ e => e) (fun h' u tk hk => ⟨.str _, H, I.kept hk, ⟨_, rfl⟩, q⟩) hz
def dRepr (d : D) : Option D := (toPy d).bind fun p => if p.showable && decide (p.shown.length ≤ sizeLine) && decide (p.depth ≤ 64) then some (.str p.shown) else none
theorem d_repr {K : Frag} : CallD K (rRepr K) (one dRepr) := fun {F H vs xs z} e r h Q q => by
  obtain ⟨x, rfl, h⟩ := one_some h
  obtain ⟨w, rfl, rx⟩ := reps1 r
  replace h : ((toPy x).bind fun p => if p.showable && decide (p.shown.length ≤ sizeLine) && decide (p.depth ≤ 64) then some (.str p.shown) else none) = some z := h
  cases h1 : toPy x with
  | none => rw [h1] at h; cases h
  | some p =>
    rw [h1, Option.bind_some] at h
    split at h
    · rename_i hc
      simp only [Bool.and_eq_true, decide_eq_true_eq] at hc
      cases h
      exact ⟨w, p, rfl, dp_of e rx h1, toPy_nodict h1, hc.1.1, hc.1.2, hc.2, q _ _ _ (.refl e) (.str _)⟩
    · cases h
end
end PD
end
section
namespace PD
open PySem L2
theorem hu70 {k : Nat} {A : Around} (hr : Room k A) : A.units + 70 < cLine := by have := hr.un; omega
/-! ### a def that gives a new container -/
def PostR (X : Cx) (f : Fr) (F : Hp) (W : WX) (o : Except (XD × Env) (D × Env)) (D : Ends) : Prop := match o with
  | .ok (d, δ') => ∀ Dd ob σ' F' H', LS X.K f.own f.P f.F0 f.H0 Dd ob F' σ' H' δ' → Ex F F' → OwnO X.K F' ob d → D.rt (.ref Dd) H'
  | .error (x, δ') => ∀ cls dd σ' F' H', RSf X f F' σ' H' δ' → Ex F F' → RepX X.K F' cls dd x → W cls dd σ' H'
structure JR (X : Cx) (own : List Nat) (st : List Stmt) (g : Env → RE D) : Prop where
  run : ∀ {P F0 H0 σ F H δ W o D} [PmOk P], RSf X ⟨own, P, F0, H0⟩ F σ H δ → Takes X W → g δ = some o → PostR X ⟨own, P, F0, H0⟩ F W o D → WSs X st D σ H
def rseq (a : Env → RO) (b : Env → RE D) : Env → RE D := fun δ => match a δ with
  | some (.ok (.nx, δ')) => b δ'
  | some (.error e) => some (.error e)
  | _ => none
section
variable {X : Cx} {own : List Nat} {e a : Expr} {es : List Expr} {pos : Pos}
theorem PostR.later {f : Fr} {F F1 : Hp} {W : WX} {o : Except (XD × Env) (D × Env)} {D : Ends} (e : Ex F F1) (p : PostR X f F W o D) : PostR X f F1 W o D := by
  rcases o with x | ⟨d, δ'⟩
  · exact fun c d σ F' H' r g' rv => p c d σ F' H' r (e.trans g') rv
  · exact fun Dd ob σ F' H' r g' rv => p Dd ob σ F' H' r (e.trans g') rv
theorem jr_ret {g : Env → RE D} (h : JN X own e g) : JR X own [.Return (some e) pos] g := ⟨fun {P F0 H0 σ F H δ W o D} _ r tk hg hP => by
  refine wss_of (pss_one (ps_ret pe_we)) ?_
  rcases o with ⟨x, δ1⟩ | ⟨d, δ1⟩
  · exact h.run r tk hg fun c d F' H' r1 e1 rx => hP c d σ F' H' r1 e1 rx
  · exact h.run r tk hg fun Dd ob F' H' l ex ro => hP Dd ob σ F' H' l ex ro⟩
theorem jr_cons {st : Stmt} {rest : List Stmt} {g : Env → RO} {k : Env → RE D} (h : JS X own st g) (hr : JR X own rest k) : JR X own (st :: rest) (rseq g k) := ⟨fun {P F0 H0 σ F H δ W o D} _ r tk hg hP => by
  refine wss_of (pss_cons ps_ws pss_wss) ?_
  show WS X st { D with nx := WSs X rest D } σ H
  unfold rseq at hg
  cases e : g δ with
  | none => rw [e] at hg; cases hg
  | some y => rcases y with x | ⟨o1, δ1⟩
              · rw [e] at hg; cases hg; exact h.run r tk e hP
              · cases o1 with
                | nx => rw [e] at hg; exact h.run r tk e fun σ' F' H' r1 e1 => hr.run r1 tk hg (hP.later e1)
                | rt d => rw [e] at hg; cases hg
                | bk => rw [e] at hg; cases hg
                | ct => rw [e] at hg; cases hg⟩
end
/-- heaps that grow by a new container p -/
structure GrowN (p : Addr) (F H F' H' : Hp) : Prop where
  g : Grow F H F' H'
  new : H p = none
  np : F' p = none
def spN (K : Frag) (m : List D → Rs D) : Sp := fun vs H Q E => ∃ F ds o, Ex F H ∧ Reps K F vs ds ∧ m ds = some o ∧ (match o with
  | .ok d => ∀ p ob F' H', GrowN p F H F' H' → H' p = some ob → OwnO K F' ob d → Q (.ref p) H'
  | .error x => ∀ cls dd F' H', Grow F H F' H' → RepX K F' cls dd x → E cls dd H')
structure FnN (P : Program) (w : World) (K : Frag) (mg : Str → Option Value) (base : Heap) (k : Nat) (x : Str) (m : List D → Rs D) : Prop where
  at_ : ∃ f fd ps, FnOk P w K mg base (L2.CX P w) k f fd ps (spN K m) ∧ mg x = some (.ref f) ∧ PySem.W.keepIn K (.ref f) = true ∧ Binds K fd ps []
def denN (n N : Nat) (body : Env → RE D) (ds : List D) : Rs D := if ds.length = n then (match body (ds.map some ++ List.replicate (N - n) none) with
  | none => none
  | some (.ok (d, _)) => ok d
  | some (.error (x, _)) => some (.error x)) else none
section
variable {P : Program} {w : World} {K : Frag} {mg : Str → Option Value} {base : Heap}
theorem fnN_ok {x qual : Str} {params : Arguments} {body : List Stmt} {scope : Scope} {f : Addr} {fd : FuncData} {dvs : List V} {kws : List (Str × V)} {N ps : List Str} {k : Nat} {own : List Nat} {g : Env → RE D} (F : FunD K x qual params body scope dvs kws f fd) (S : FnScope N ps scope) (hon : own.all (fun i => decide (ps.length ≤ i)) = true)
    (hps : decide (ps.length ≤ N.length) = true)
    (hb : ∀ (cdv : Value) (A : Around) (outer : List PySem.Env) (s : Shared) (H : Hp) (E : XK), Room k (A.deeper (PyProof.Rows.envOfC qual scope s.heap.objs.size f cdv)) → JR (cxOf (L2.CX P w) P w K mg base N qual scope f cdv A outer s H E) own body g) :
    FnOk P w K mg base (L2.CX P w) (k + 1) f fd ps (spN K (denN ps.length N.length g)) := by
  refine FunD.ok F S (fun vs H Q E h => ?_) (fun cdv A outer s H vs Q E hr h => ?_)
  · obtain ⟨F', ds, o, e, r, h1, _⟩ := h
    unfold denN at h1
    by_cases hl : ds.length = ps.length
    · rw [Rep.len r, hl]
    · rw [if_neg hl] at h1; cases h1
  · obtain ⟨F', ds, o, e, r, h1, hP⟩ := h
    unfold denN at h1
    by_cases hl : ds.length = ps.length
    · rw [if_pos hl] at h1
      have hl' : ps.length ≤ N.length := of_decide_eq_true hps
      have hlv : vs.length = ps.length := by rw [Rep.len r, hl]
      refine ⟨_, pss_wss, ?_⟩
      have tk : Takes (cxOf (L2.CX P w) P w K mg base N qual scope f cdv A outer s H E) (fun cls d _ H => E cls d H) := takes_of rfl rfl rfl rfl
      have R0 : RSf (cxOf (L2.CX P w) P w K mg base N qual scope f cdv A outer s H E) ⟨own, Pm.no, F', H⟩ F' (L2.start N vs) H (ds.map some ++ List.replicate (N.length - ps.length) none) := {
        ff := Ex.refl _
        fh := e
        hh := fun _ _ _ h => h
        dm := fun _ h => h
        nw := fun _ h => .inl h
        ln := by unfold L2.start; simp [hl, hlv]
        par := fun _ h => h.elim
        bxh := fun _ h => h.elim
        val := fun i d _ h => by
          unfold L2.start
          exact Reps.some_get r h
        own := ⟨fun _ => [], And.intro (fun (i : Nat) (d : D) hi (h : (List.map some ds ++ List.replicate (N.length - ps.length) (none : Option D))[i]? = some (some d)) => by
          have := of_decide_eq_true (List.all_eq_true.1 hon i hi)
          rw [List.getElem?_append_right (by rw [List.length_map, hl]; exact this), List.getElem?_replicate] at h
          split at h <;> cases h) (And.intro (fun i a h => absurd h (by simp)) (fun i j a _ h => absurd h (by simp)))⟩ }
      cases e2 : g (ds.map some ++ List.replicate (N.length - ps.length) none) with
      | none => rw [e2] at h1; cases h1
      | some y =>
        rw [e2] at h1
        refine (hb cdv A outer s H E hr).run R0 tk e2 ?_
        rcases y with ⟨x, δ'⟩ | ⟨d, δ'⟩
        · cases h1
          exact fun cls dd σ' F1 H1 r1 e1 rx => hP cls dd F1 H1 r1.any rx
        · cases h1
          exact fun Dd ob σ' F1 H1 l e1 ro => hP Dd ob F1 H1 ⟨l.rs.any, l.h0, l.nF⟩ l.at ro
    · rw [if_neg hl] at h1; cases h1
end
/-- its result, of no one yet -/
theorem RS.growN {K : Frag} {own : List Nat} {P : Pm} {F0 H0 F F' H' : Hp} {σ : L2.St} {H : Hp} {δ : Env} {p : Addr} {ob : HO} (r : RS K own P F0 H0 F σ H δ) (g : GrowN p F H F' H') (hp : H' p = some ob) : LS K own P F0 H0 p ob F' σ H' δ := by
  have R := r.grow g.g
  have h0 : H0 p = none := by
    cases e : H0 p with
    | none => rfl
    | some o => exact absurd g.new (r.dm p (by rw [e]; simp))
  obtain ⟨fp, h1, h2, h3⟩ := r.own
  have nD : ∀ i, p ∉ fp i := fun i hi => (h2 i p hi).2.1 g.new
  obtain ⟨fp', k1, k2, k3⟩ := R.own
  refine ⟨⟨⟨fun a => ∃ i, a ∈ fp i, P.bx, P.rt⟩, F', H', ?_, ?_, hp, fun ⟨i, hi⟩ => nD i hi, g.np⟩, h0⟩
  · exact {
      ff := Ex.refl _
      fh := R.fh
      hh := fun _ _ _ h => h
      dm := fun _ h => h
      nw := fun _ h => .inl h
      ln := R.ln
      par := R.par
      bxh := fun a h => R.dm a (r.bxh a h)
      val := R.val
      own := ⟨fp, fun i d hi hd => by
        obtain ⟨v, hv, o⟩ := h1 i d hi hd
        exact ⟨v, hv, o.keep g.g.ff fun a ha q e => g.g.hh a q e⟩, fun i a ha => ⟨by
          have a1 := (h2 i a ha).1
          have a2 := (h2 i a ha).2.1
          cases e : F' a with
          | none => rfl
          | some o => exact ((g.g.nw a (by rw [e]; simp)).elim (fun h => absurd a1 h) fun h => absurd h a2), by
          have a2 := (h2 i a ha).2.1
          cases e : H a with
          | none => exact absurd e a2
          | some o => rw [g.g.hh a o e]; simp, .inr ⟨⟨i, ha⟩, fun hb => (h2 i a ha).2.2.elim (fun e => absurd e (r.bxh a hb)) fun q => q.2 hb⟩⟩, h3⟩ }
  · exact { ff := R.ff, hh := R.hh, dm := R.dm, nw := R.nw, pp := fun a ⟨i, hi⟩ => (h2 i a hi).2.2.imp id And.left, bx := fun _ h => h, rt := fun _ h => h, bh := r.bxh }
/-- .. changed by a call, of no one after it -/
theorem LS.changed {K : Frag} {own : List Nat} {P : Pm} {F0 H0 F F' H' : Hp} {σ : L2.St} {H : Hp} {δ : Env} {Dd : Addr} {ob : HO} (l2 : LS K own P F0 H0 Dd ob F σ H δ) (g : GrowB Dd F H F' H') : RS K own P F0 H0 F' σ H' δ := by
  have R := l2.rs
  obtain ⟨⟨P', Fb, Hb, r2, c, e, n, nf⟩, nh⟩ := l2
  obtain ⟨fp, h1, h2, h3⟩ := r2.own
  have nD : ∀ i, Dd ∉ fp i := fun i hi => (h2 i Dd hi).2.2.elim (fun q => by rw [e] at q; cases q) fun q => n q.1
  have ne : ∀ i a, a ∈ fp i → a ≠ Dd := fun i a ha q => nD i (q ▸ ha)
  exact {
    ff := R.ff.trans g.ff
    fh := g.fh
    hh := fun a o hp h => g.hh a o (fun q => by rw [q, nh] at h; cases h) (R.hh a o hp h)
    dm := fun a h => by
      have hne : a ≠ Dd := fun q => h (by rw [q]; exact nh)
      cases q : H a with
      | none => exact absurd q (R.dm a h)
      | some o => rw [g.hh a o hne q]; simp
    nw := fun a h => (g.nw a h).elim (R.nw a) fun z => .inr (by
      cases e0 : H0 a with
      | none => rfl
      | some o => exact absurd z (R.dm a (by rw [e0]; simp)))
    ln := R.ln
    par := R.par
    bxh := R.bxh
    val := fun i d hi h => let ⟨v, a, b⟩ := R.val i d hi h; ⟨v, a, b.mono g.ff⟩
    own := by
      refine ⟨fp, fun i d hi hd => ?_, fun i a ha => ?_, h3⟩
      · obtain ⟨v, hv, o⟩ := h1 i d hi hd
        exact ⟨v, hv, o.keep g.ff fun a ha q e => g.hh a q (ne i a ha) e⟩
      · obtain ⟨a1, a2, a3⟩ := h2 i a ha
        refine ⟨?_, ?_, a3.elim (fun q => .inl (by
          cases e0 : H0 a with
          | none => rfl
          | some o => exact absurd q (c.dm a (by rw [e0]; simp)))) fun q => (c.pp a q.1).imp id fun z => ⟨z, fun y => q.2 (c.bx a y)⟩⟩
        · cases q : F' a with
          | none => rfl
          | some o => exact ((g.nw a (by rw [q]; simp)).elim (fun h => absurd a1 h) fun h => absurd h a2)
        · cases q : H a with
          | none => exact absurd q a2
          | some o => rw [g.hh a o (ne i a ha) q]; simp }
section
variable {X : Cx} {own : List Nat} {e a : Expr} {es : List Expr} {pos : Pos}
theorem jn_call {k : Nat} {x : Str} {p : Pos} {m : List D → Rs D} {f : Env → RE (List D)} (hf : FnN X.prog X.w X.K X.mg X.base k x m) (hr : Room k X.A) (ha : JAE X own (e :: es) f) (hg : Gl X x := by rfl)
    (hdb : (x == ("__debug__" : Str)) = false := by decide) (he : starEach (e :: es) X.env = (false, eval e X.env) :: starEach es X.env := by rfl) (hpl : (backTo pos (starEach es X.env)).any (·.1) = false := by rfl) :
    JN X own (.Call (.Name x p) (e :: es) [] pos) (ecall m f) := ⟨fun {P F0 H0 σ F H δ W Q o} r tk hg' hP => by
  obtain ⟨fa, fd, ps, F, hm, hk, hb⟩ := hf.at_
  refine we_of (pe_callS F hr hg hm hk hb (fun σ => passAt tk σ) pa_wa hdb he hpl) (sn_bind (w := WA X (e :: es)) ha r tk hg' hP fun xs vs δ1 F1 H1 h1 e1 rx r1 P1 => ?_)
  cases em : m xs with
  | none => rw [em] at h1; cases h1
  | some y =>
    rw [em] at h1
    cases y with
    | ok d => cases h1; exact ⟨F1, xs, _, r1.fh, rx, em, fun p ob F' H' g hp ho => P1 p ob F' H' (r1.growN g hp) g.g.ff ho⟩
    | error z => cases h1; exact ⟨F1, xs, _, r1.fh, rx, em, fun c dd F' H' g rv => P1 c dd F' H' (r1.grow g) g.ff rv⟩⟩
/-- f(new, ..), f a def that changes its first argument -/
def ecallBN (m : List D → List D → Option (D × List D)) (fa : Env → RE D) (f : Env → RE (List D)) : Env → RE D := fun δ => bindE (fa δ) fun d δ1 => bindE (f δ1) fun ds δ2 => (match d with
  | .lst B => (m B ds).map fun q => .ok (q.1, δ2)
  | _ => none)
theorem je_callBN {k : Nat} {x : Str} {p : Pos} {m : List D → List D → Option (D × List D)} {fa : Env → RE D} {f : Env → RE (List D)} (hf : FnB X.prog X.w X.K X.mg X.base k x m) (hr : Room k X.A) (hn : JN X own a fa) (ha : JAE X own es f) (hg : Gl X x := by rfl)
    (hdb : (x == ("__debug__" : Str)) = false := by decide) (he : starEach (a :: es) X.env = (false, eval a X.env) :: starEach es X.env := by rfl) (hpl : (backTo pos (starEach es X.env)).any (·.1) = false := by rfl) :
    JE X own (.Call (.Name x p) (a :: es) [] pos) (ecallBN m fa f) := ⟨fun {P F0 H0 σ F H δ W Q o} r tk hg' hP => by
  obtain ⟨fa', fd, ps, Fo, hm, hk, hb⟩ := hf.at_
  refine we_of (pe_callS Fo hr hg hm hk hb (fun σ => passAt tk σ) (pa_cons pe_we pa_wa he) hdb he hpl) ?_
  rcases bindE_some hg' with ⟨y, h1, rfl⟩ | ⟨d, δ1, h1, hg'⟩
  · exact hn.run r tk h1 hP
  · refine hn.run r tk h1 fun Dd ob F1 H1 l e1 ro => ?_
    obtain ⟨⟨P', Fb, Hb, r1, c, e, n, nf⟩, nh⟩ := l
    rcases bindE_some hg' with ⟨y, h2, rfl⟩ | ⟨ds, δ2, h2, hg'⟩
    · exact ha.run (P := P') (F0 := Fb) (H0 := Hb) r1 tk h2 fun cc dd F' H' r2 e2 rx => hP cc dd F' H' (RS.back r2 c) (e1.trans e2) rx
    · refine ha.run (P := P') (F0 := Fb) (H0 := Hb) r1 tk h2 fun vs F2 H2 r2 e2 rx => ?_
      have l2 : LS X.K own P F0 H0 Dd ob F2 σ H2 δ2 := ⟨⟨P', Fb, Hb, r2, c, e, n, nf⟩, nh⟩
      cases ro with
      | dic _ => cases hg'
      | @lst ws B rr =>
        dsimp only at hg'
        simp only [Option.map_eq_some_iff] at hg'
        obtain ⟨⟨d, B'⟩, hm', rfl⟩ := hg'
        refine ⟨F2, Dd, vs, ws, B, ds, d, B', rfl, l2.rs.fh, l2.nF, l2.at, rr.mono e2, rx, hm', fun v F' H' bs' g hH' rb rd => hP v F' H' (l2.changed g) (e1.trans (e2.trans g.ff)) rd⟩⟩
end
end PD
end
section
namespace PD
open PySem L2
section
variable {X : Cx}
/-! ### f() -/
theorem pe_call00 {CX : CXT} {k : Nat} {f : Addr} {fd : FuncData} {ps : List Str} {sp : Sp} {E : St → XK} {x : Str} {p pos : Pos} (F : FnOk X.prog X.w X.K X.mg X.base CX k f fd ps sp) (hr : Room k X.A) (hg : Gl X x) (hm : X.mg x = some (.ref f)) (hk : PySem.W.keepIn X.K (.ref f) = true) (hb : Binds X.K fd ps []) (hx : ∀ σ, PassesAt CX X σ (E σ))
    (hdb : (x == ("__debug__" : Str)) = false := by decide) : PE X (.Call (.Name x p) [] [] pos) (tCallS sp E tNil) := by
  refine ⟨fun pins s σ H Q I h => ?_⟩
  refine wpAny_Call_Name_kw (ld_glob I hg hm ?_ hdb)
  exact PySem.W.callWith_K0 I.kIn hk (run_fnS F hr hb (hx σ) I .nil h)
def vcall0 (m : List D → Rs D) : Env → Rs D := fun _ => m []
theorem jp_call0 {k : Nat} {x : Str} {p pos : Pos} {m : List D → Rs D} (hf : Fn X.prog X.w X.K X.mg X.base k x m) (hr : Room k X.A) (hg : Gl X x := by rfl) (hdb : (x == ("__debug__" : Str)) = false := by decide) :
    JP X (.Call (.Name x p) [] [] pos) (vcall0 m) := ⟨fun {σ F H δ W Q o} rp tk hg' hP => by
  obtain ⟨f, fd, ps, Fo, hm, hk, hb⟩ := hf.at_
  exact we_of (pe_call00 Fo hr hg hm hk hb (fun σ => passAt tk σ) hdb) ⟨F, [], _, rp.ex, .nil, hg', post_call hP⟩⟩
/-! ### f(k = v, ..) -/
def pick {α : Type} (ix : List Nat) (zs : List α) : List α := ix.filterMap (zs[·]?)
theorem Vals.get? : ∀ {vs : List V} {us : List Value}, Vals vs us → ∀ (i : Nat), (vs[i]? = none ∧ us[i]? = none) ∨ ∃ v u, vs[i]? = some v ∧ us[i]? = some u ∧ RelV v u
  | _, _, .nil, i => .inl ⟨by simp, by simp⟩
  | _, _, .cons h _, 0 => .inr ⟨_, _, rfl, rfl, h⟩
  | _, _, .cons _ t, i + 1 => by rw [List.getElem?_cons_succ, List.getElem?_cons_succ]; exact Vals.get? t i
theorem vals_pick {vs : List V} {us : List Value} (r : Vals vs us) : ∀ ix : List Nat, Vals (pick ix vs) (pick ix us)
  | [] => .nil
  | i :: ix => by
    unfold pick
    rw [List.filterMap_cons, List.filterMap_cons]
    rcases Vals.get? r i with ⟨h1, h2⟩ | ⟨v, u, h1, h2, h3⟩
    · rw [h1, h2]; exact vals_pick r ix
    · rw [h1, h2]; exact .cons h3 (vals_pick r ix)
theorem reps_get? {K : Frag} {F : Hp} : ∀ {vs : List V} {ds : List D}, Reps K F vs ds → ∀ (i : Nat), (vs[i]? = none ∧ ds[i]? = none) ∨ ∃ v d, vs[i]? = some v ∧ ds[i]? = some d ∧ Rep K F v d
  | _, _, .nil, i => .inl ⟨by simp, by simp⟩
  | _, _, .cons h _, 0 => .inr ⟨_, _, rfl, rfl, h⟩
  | _, _, .cons _ t, i + 1 => by rw [List.getElem?_cons_succ, List.getElem?_cons_succ]; exact reps_get? t i
theorem reps_pick {K : Frag} {F : Hp} {vs : List V} {ds : List D} (r : Reps K F vs ds) : ∀ ix : List Nat, Reps K F (pick ix vs) (pick ix ds)
  | [] => .nil
  | i :: ix => by
    unfold pick
    rw [List.filterMap_cons, List.filterMap_cons]
    rcases reps_get? r i with ⟨h1, h2⟩ | ⟨v, u, h1, h2, h3⟩
    · rw [h1, h2]; exact reps_pick r ix
    · rw [h1, h2]; exact .cons h3 (reps_pick r ix)
/-- a def called by keywords alone; ix: where each parameter's value stands among them -/
structure FnK (P : Program) (w : World) (K : Frag) (mg : Str → Option Value) (base : Heap) (k : Nat) (x : Str) (m : List D → Rs D) (ks : List Str) (ix : List Nat) : Prop where
  at_ : ∃ f fd ps, FnOk P w K mg base (L2.CX P w) k f fd ps (spP K m) ∧ mg x = some (.ref f) ∧ PySem.W.keepIn K (.ref f) = true ∧ KBn K fd ps 0 ks (fun us ws => pick ix ws) (fun vs zs => pick ix zs)
theorem kbn_of {K : Frag} {x qual : Str} {params : Arguments} {body : List Stmt} {scope : Scope} {kws : List (Str × V)} {f : Addr} {fd : FuncData} {ps : List Str} {ks : List Str} {ix : List Nat} (F : FunD K x qual params body scope [] kws f fd)
    (h : ∀ (kV doc pm : Value) (an : Option Addr) (cdv ct : Value) (ws : List Value), ws.length = ks.length → bindArgs (PySem.W.fnOf x qual params body scope .none kV doc pm an cdv ct) ⟨[], ks.zip ws⟩ = pure (ps.zip (pick ix ws))) : KBn K fd ps 0 ks (fun _ ws => pick ix ws) (fun _ zs => pick ix zs) := by
  obtain ⟨oc, od, dV, kV, doc, pm, an, cdv, ct, osl, rfl, lk, hcd, hD, hK⟩ := F.ex
  rcases hD with ⟨_, rfl⟩ | ⟨e, _⟩
  · refine ⟨fun s us ws _ l1 l2 => ?_, fun _ r => vals_pick r ix⟩
    cases us with
    | nil => exact BindsTo.of_eq (h kV doc pm an cdv ct ws l2)
    | cons _ _ => cases l1
  · exact absurd rfl e
theorem run_fnNS {CX : CXT} {k n : Nat} {f : Addr} {fd : FuncData} {ps ks : List Str} {sp : Sp} {E : XK} {g : List Value → List Value → List Value} {gV : List V → List V → List V} {pins : List (Addr × Obj)} {σ : St} {H : Hp} {s : Shared} {Q : VK} {us ws : List Value} {vs zs : List V} (F : FnOk X.prog X.w X.K X.mg X.base CX k f fd ps sp) (hr : Room k X.A) (hb : KBn X.K fd ps n ks g gV) (hx : PassesAt CX X σ E)
    (I : Inv X pins σ H s) (r : Vals vs us) (rz : Vals zs ws) (l1 : vs.length = n) (l2 : zs.length = ks.length) (h : sp (gV vs zs) H Q E) : wpAny (model X.prog X.w) X.A (call (.ref f) us (ks.zip ws)) (EP X pins σ Q) X.xe s := by
  have r2 := hb.rel r rz
  refine wpAny_call (codeAny_mono (F.run X.A X.stack s H ⟨us, ks.zip ws⟩ (g us ws) (gV vs zs) Q E hr I.env0 (hb.to s us ws I.kIn (r.length.symm.trans l1) (rz.length.symm.trans l2)) r2 h) fun r s' hq => ?_)
  cases r with
  | error e => exact hx pins H s e s' I hq
  | ok fl =>
    cases fl with
    | ret u => exact I.after hq
    | next => exact False.elim hq
    | brk => exact False.elim hq
    | cont => exact False.elim hq
def WK (X : Cx) (kws : List Keyword) (σ : L2.St) (H : Hp) (Q : List V → Hp → Prop) : Prop := ∀ pos pins s, Inv X pins σ H s → wpAny (model X.prog X.w) X.A (evalAll ((backToKw pos (keywordEach kws X.env)).map (·.2))) (AP X pins σ Q) X.xe s
theorem pk_wk {kws : List Keyword} : PK X kws (WK X kws) := ⟨fun pos pins s _ _ _ I h => h pos pins s I⟩
theorem wk_of {kws : List Keyword} {t : TA} {σ : L2.St} {H : Hp} {Q : List V → Hp → Prop} (h : PK X kws t) (q : t σ H Q) : WK X kws σ H Q := fun pos pins s I => h.run pos pins s σ H Q I q
abbrev JK (X : Cx) (kws : List Keyword) (g : Env → Rs (List D)) : Prop := J X (WK X kws) (Reps X.K) g
theorem jk_nil : JK X [] anil := ⟨fun rp tk hg hP => wk_of pk_nil (hP.fin hg _ _ _ (.refl rp.ex) .nil)⟩
theorem jk_cons {nm : Option Str} {e : Expr} {kpos : Pos} {kws : List Keyword} {f : Env → Rs D} {r : Env → Rs (List D)} (ha : JP X e f) (hr : JK X kws r) : JK X (⟨nm, e, kpos⟩ :: kws) (acons f r) := ⟨fun rp tk hg hP =>
  wk_of (pk_cons pe_we pk_wk) (jp_bind ha rp tk hg hP fun x vx F1 H1 h1 g1 rx r1 P1 => j_bind (w := WK X kws) hr r1 tk h1 P1 fun xs vxs F2 H2 h2 g2 rxs r2 P2 => P2.fin h2 _ F2 H2 (.refl r2.ex) (.cons (rx.mono g2.ff) rxs))⟩
def vcallK (m : List D → Rs D) (n : Nat) (ix : List Nat) (a : Env → Rs (List D)) : Env → Rs D := fun δ => bind (a δ) fun xs => if xs.length = n then m (pick ix xs) else none
theorem jp_callK {k : Nat} {x : Str} {p pos : Pos} {m : List D → Rs D} {ks : List Str} {ix : List Nat} {kws : List Keyword} {a : Env → Rs (List D)} (hf : FnK X.prog X.w X.K X.mg X.base k x m ks ix) (hr : Room k X.A) (ha : JK X kws a) (hg : Gl X x := by rfl)
    (hall : (backToKw pos (keywordEach kws X.env)).all (·.1.isSome) = true := by rfl) (hks : (backToKw pos (keywordEach kws X.env)).filterMap (·.1) = ks := by rfl) (hdb : (x == ("__debug__" : Str)) = false := by decide)
    (hpl : ((backTo pos (starEach [] X.env)).any (·.1) || (backToKw pos (keywordEach kws X.env)).any (·.1.isNone)) = false := by rfl) : JP X (.Call (.Name x p) [] kws pos) (vcallK m ks.length ix a) := ⟨fun {σ F H δ W Q o} rp tk hg' hP => by
  obtain ⟨f, fd, ps, Fo, hm, hk, hb⟩ := hf.at_
  intro pins s I
  refine wpAny_Call_Name_kw (ld_glob I hg hm ?_ hdb)
  refine PySem.W.callWith_KW0 (h₀ := X.base) I.ok.mod.kin hk hall ?_ hpl
  have hw : WK X kws σ H (fun zs H2 => zs.length = ks.length ∧ spP X.K m (pick ix zs) H2 Q (L2.WE W σ)) := j_bind (w := WK X kws) ha rp tk hg' hP fun xs vs F1 H1 h1 g1 rx r1 P1 => by
    split at h1
    · rename_i hl
      exact ⟨by rw [Rep.len rx]; exact hl, F1, _, _, r1.ex, reps_pick rx ix, h1, post_call P1⟩
    · cases h1
  refine thn (hw pos pins s I) fun ws s2 ⟨zs, H2, I2, rz, l2, q2⟩ => ⟨I2.kIn, ?_⟩
  rw [hks]
  exact run_fnNS (us := []) (vs := []) Fo hr hb (passAt tk σ) I2 .nil rz rfl l2 q2⟩
end
end PD
end
section
namespace PD
open PySem L2
/-- the items of a list, tuple or text -/
def itemsA : D → Option (List D)
  | .lst xs => some xs
  | .scr xs => some xs
  | .tup xs => some xs
  | .str x => some (signs x)
  | _ => none
def iany (f : Env → RE D) : Env → RE (List D) := fun δ => bindE (f δ) fun d δ' => (itemsA d).map fun xs => .ok (xs, δ')
theorem ji_any {X : Cx} {own : List Nat} {tg e : Expr} {f : Env → RE D} (h : JE X own e f) : JI X own tg e (iany f) := ⟨fun {P F0 H0 σ F H δ W o R} r tk hg hP => by
  unfold iany at hg
  cases e0 : f δ with
  | none => rw [e0] at hg; cases hg
  | some y =>
    rw [e0] at hg
    rcases y with ⟨x, δ1⟩ | ⟨d, δ1⟩
    · cases hg; exact wi_of (pi_list pe_we) (h.run r tk e0 hP)
    · simp only [bindE, Option.map_eq_some_iff] at hg
      obtain ⟨xs, hx, rfl⟩ := hg
      cases d <;> (try (cases hx; done))
      case str => cases hx; exact wi_of (pi_str pe_we) (h.run r tk e0 fun v F1 H1 r1 e1 rx => by cases rx; exact ⟨_, rfl, hP _ F1 H1 r1 e1 src_str⟩)
      case tup => cases hx; exact wi_of (pi_tup pe_we) (h.run r tk e0 fun v F1 H1 r1 e1 rx => by cases rx with | tup h1 r2 => exact ⟨_, rfl, ⟨_, ex_t r1.fh h1⟩, hP _ F1 H1 r1 e1 (src_tup h1 r2)⟩)
      case lst => cases hx; exact wi_of (pi_list pe_we) (h.run r tk e0 fun v F1 H1 r1 e1 rx => by cases rx with | lst h1 r2 => exact ⟨_, rfl, ⟨_, SqL.of (r1.fh _ _ h1)⟩, hP _ F1 H1 r1 e1 (src_list (SqL.of h1) r2)⟩)
      case scr => cases hx; exact wi_of (pi_list pe_we) (h.run r tk e0 fun v F1 H1 r1 e1 rx => by cases rx with | scr h1 r2 => exact ⟨_, rfl, ⟨_, ex_l r1.fh h1⟩, hP _ F1 H1 r1 e1 (src_list h1 r2)⟩)⟩
theorem hu64b {k : Nat} {A : Around} (hr : Room k A) : A.units + 64 < cLine := by have := hr.un; omega
theorem fnB_none {P : Program} {w : World} {K : Frag} {mg : Str → Option Value} {base : Heap} {x qual : Str} {params : Arguments} {body : List Stmt} {scope : Scope} {f : Addr} {fd : FuncData} {dvs : List V} {kws : List (Str × V)} {N ps : List Str} {k : Nat} (F : FunD K x qual params body scope dvs kws f fd) (S : FnScope N ps scope) :
    FnOk P w K mg base (L2.CX P w) (k + 1) f fd ps (spB K fun _ _ => none) := by
  refine FunD.ok F S (fun vs H Q E h => ?_) (fun cdv A outer s H vs Q E hr h => ?_)
  · obtain ⟨_, _, _, _, _, _, _, _, _, _, _, _, _, _, h, _⟩ := h; cases h
  · obtain ⟨_, _, _, _, _, _, _, _, _, _, _, _, _, _, h, _⟩ := h; cases h
end PD
end
section
set_option maxHeartbeats 2000000
namespace PD
open PySem PySem.Spec PyProof.Rows L2
/-! ### defs that are promised where nothing is being shown (repr) -/
structure FnOkG (P : Program) (w : World) (K : Frag) (mg : Str → Option Value) (base : Heap) (CX : CXT) (k : Nat) (f : Addr) (fd : FuncData) (ps : List Str) (sp : Sp) : Prop where
  len : ∀ vs H Q E, sp vs H Q E → vs.length = ps.length
  run : ∀ (A : Around) (outer : List PySem.Env) (s : Shared) (H : Hp) (args : Args) (us : List Value) (vs : List V) (Q : VK) (E : XK), Room k A → A.guards = some [] → Env0 P w K mg base A outer s H → BindsTo s fd args (ps.zip us) → Vals vs us → sp vs H Q E →
    codeAny (model P w) A (.call (.ref f) args) (CR CX outer P w H s Q E) s
section
variable {P : Program} {w : World} {K : Frag} {mg : Str → Option Value} {base : Heap}
theorem FunD.okG {CX : CXT} {x qual : Str} {params : Arguments} {body : List Stmt} {scope : Scope} {dvs : List V} {kws : List (Str × V)} {f : Addr} {fd : FuncData} {N ps : List Str} {k : Nat} {sp : Sp} (F : FunD K x qual params body scope dvs kws f fd) (S : FnScope N ps scope) (len : ∀ vs H Q E, sp vs H Q E → vs.length = ps.length)
    (hbody : ∀ (cdv : Value) (A : Around) (outer : List PySem.Env) (s : Shared) (H : Hp) (vs : List V) (Q : VK) (E : XK), Room k (A.deeper (envOfC qual scope s.heap.objs.size f cdv)) → A.guards = some [] → sp vs H Q E →
      ∃ t, PSs (cxOf CX P w K mg base N qual scope f cdv A outer s H E) body t ∧ t { nx := fun _ H' => Q .non H', rt := Q } (start N vs) H) : FnOkG P w K mg base CX (k + 1) f fd ps sp := by
  obtain ⟨oc, od, dV, kV, doc, pm, an, cdv, ct, osl, rfl, lk, hcd, _, _⟩ := F.ex
  refine ⟨len, fun A outer s H args us vs Q E hr hgu e0 hb r hsp => ?_⟩
  have hl := len _ _ _ _ hsp
  have KX : K.In s.heap := e0.mod.kin.keeps fun b o e => (e0.bs b o e).1
  have lim : s.heap.NoLimit := e0.mod.nolimit.keeps fun b o e => (e0.bs b o e).1
  refine codeAny_call_function hr.depth (KX _ _ lk) rfl S.co S.gen rfl (PySem.W.codeRec_of KX hcd) (hb _ _ _ _ ?_)
  refine wpAny_newFunctionEnv_cells S.kind (fun ⟨n, v⟩ hy => (S.par n (List.of_mem_zip hy).1).imp id fun q => ⟨q, PySem.W.cellsFrom_some _ _ _ (.inl q)⟩) fun env he s1 x => ?_
  subst he
  refine ⟨lim.keeps x.toInCall.keep, codeAny_func ?_⟩
  obtain ⟨t, ht, hq⟩ := hbody cdv A outer s H vs Q E (hr.deeper _) hgu hsp
  have I : Inv (cxOf CX P w K mg base N qual scope f cdv A outer s H E) [] (start N vs) H s1 := inv_start S hr.hd e0 hl r x
  refine wpAny_mono (ht.run [] s1 (start N vs) H _ I hq) (fun fl s' hs => ?_) fun e s' hs => hs
  cases fl with
  | ret u =>
    obtain ⟨v, σ', H', J, rv, q⟩ := hs
    exact ⟨v, H', J.os, J.bare, J.base, J.hok, rv, q⟩
  | next =>
    obtain ⟨σ', H', J, q⟩ := hs
    exact ⟨.non, H', J.os, J.bare, J.base, J.hok, rfl, q⟩
  | brk =>
    obtain ⟨_, _, _, q⟩ := hs
    exact q.elim
  | cont =>
    obtain ⟨_, _, _, q⟩ := hs
    exact q.elim
/-- the law's call -/
theorem law_callG {mb : Str → Option Value} {CX : CXT} {k : Nat} {fa a : Addr} {fd : FuncData} {x : Str} {sp : Sp} {s₁ : Shared} {vs : List Value} {ns : List Int}
    (KX : K.In s₁.heap) (hns : s₁.heap.Ns mainGlobals mg) (hb : s₁.heap.Ns builtinsNs mb) (hbb : ∀ x : Str, x ≠ "__name__" → mb x = bootBuiltins x) (hlim : s₁.heap.NoLimit) (hg : s₁.gens = #[])
    (ha : s₁.heap.get? a = some { cls := .type "list", data := .seq vs.toArray }) (hi : IntsAre vs ns) (hl : ns.length ≤ sizeLine) (hr : Room k callerA)
    (F : ∀ base : Heap, K.In base → base.Ns mainGlobals mg → FnOkG P w K mg base CX k fa fd [x] sp) (hbind : ∀ (s : Shared) (u : Value), BindsTo s fd ⟨[u], []⟩ [(x, u)])
    (hsp : ∀ H : Hp, Only H → SqL K H a (ns.map V.int) → sp [.ref a] H (fun v _ => v = .bl true) fun _ _ _ => False)
    (hCX : ∀ H e s', CX [] H s₁ (fun _ _ _ => False) e s' → False) :
    codeAny (model P w) callerA (.call (.ref fa) ⟨[.ref a], []⟩) (fun r s' => r = .ok (.ret (.bool true)) ∧ OldK s₁.heap s'.heap ∧ s'.os = s₁.os ∧ AllBare s'.gens) s₁ := by
  -- whatever of the heap is told: the script, frozen, or nothing
  have core : ∀ H : Hp, Only H → SqL K H a (ns.map V.int) → HOk P w H s₁.heap → (∀ b, H b ≠ none → b = a ∧ K.lookup a = none) →
      codeAny (model P w) callerA (.call (.ref fa) ⟨[.ref a], []⟩) (fun r s' => r = .ok (.ret (.bool true)) ∧ OldK s₁.heap s'.heap ∧ s'.os = s₁.os ∧ AllBare s'.gens) s₁ := fun H hO hS hok hA => by
    have nsK : ∀ {b : Addr} {m : Str → Option Value}, s₁.heap.Ns b m → (hidT s₁.heap H).Ns b m := fun {b m} ⟨o, es, ep, e, d, r⟩ => ⟨o, es, ep, hidT_get e (by
      cases q : H b with
      | none => rfl
      | some u =>
        obtain ⟨rfl, _⟩ := hA b (by rw [q]; simp)
        rw [ha] at e; cases e; cases d), d, r⟩
    have hKb : K.In (hidT s₁.heap H) := fun b o e => hidT_get (KX b o e) (by
      cases q : H b with
      | none => rfl
      | some u =>
        obtain ⟨rfl, z⟩ := hA b (by rw [q]; simp)
        rw [z] at e; cases e)
    have hM : Mod K mg (hidT s₁.heap H) := ⟨hKb, nsK hns, ⟨mb, nsK hb, hbb⟩, let ⟨mc, h1, h2⟩ := hlim; ⟨mc, nsK h1, h2⟩⟩
    have e0 : Env0 P w K mg (hidT s₁.heap H) callerA [] s₁ H := ⟨rfl, hM, fun b o e => of_hidT e, Nat.le_of_eq (hidT_size _ _), trivial, fun b hb => absurd (show b ∈ ([] : List Addr) from hb) (by simp), hok, .of_eq hg⟩
    refine codeAny_mono ((F _ hKb (nsK hns)).run callerA [] s₁ H ⟨[.ref a], []⟩ [.ref a] [.ref a] _ _ hr rfl e0 (hbind s₁ (.ref a)) (.cons rfl .nil) (hsp H hO hS)) fun r s' h => ?_
    cases r with
    | error e => exact (hCX H e s' h).elim
    | ok fl =>
      cases fl with
      | next => exact h.elim
      | brk => exact h.elim
      | cont => exact h.elim
      | ret u =>
        obtain ⟨v, H', os, bare, un, hok', r', q⟩ := h
        cases (show v = .bl true from q)
        cases (show u = Value.bool true from r')
        refine ⟨rfl, OldK.of_keep fun b o e => ?_, os, bare⟩
        cases q : H b with
        | none => exact un.keep b o e q (by intro z; exact absurd (show b ∈ ([] : List Addr) from z) (by simp)) (by simp)
        | some u =>
          rcases hO b with z | ⟨ob, xs, z⟩
          · rw [q] at z; cases z
          · obtain ⟨e1, _⟩ := hok b _ z
            obtain ⟨e2, _⟩ := hok' b _ (un.frzs b ob _ z)
            rw [e] at e1; cases e1
            exact e2
  have rv := vals_ints hi
  have lenV := hi.length
  cases hk : K.lookup a with
  | some o =>
    have e := KX a o hk
    rw [ha] at e
    cases e
    exact core (fun _ => none) (fun _ => .inl rfl) (.inr ⟨_, vs.toArray, _, hk, rfl, rfl, rfl, by rw [List.size_toArray, lenV]; exact hl, by simpa using rv⟩) (fun b u z => nomatch (show (none : Option HO) = some u from z)) fun b z => absurd rfl z
  | none =>
    have at_ : ∀ b, (if b = a then some (HO.frz { cls := .type "list", data := .seq vs.toArray } (.lst (ns.map V.int))) else none) ≠ none → b = a := fun b z => by
      by_cases hb : b = a
      · exact hb
      · exact absurd (if_neg hb) z
    refine core (fun b => if b = a then some (.frz { cls := .type "list", data := .seq vs.toArray } (.lst (ns.map V.int))) else none) (fun b => ?_) (.inl (.inr ⟨_, if_pos rfl⟩)) (fun b u z => ?_) fun b z => ⟨at_ b z, hk⟩
    · by_cases hb : b = a
      · exact .inr ⟨_, _, if_pos hb⟩
      · exact .inl (if_neg hb)
    · cases at_ b (by rw [show (if b = a then some (HO.frz { cls := .type "list", data := .seq vs.toArray } (.lst (ns.map V.int))) else none) = some u from z]; simp)
      cases (if_pos rfl).symm.trans z
      exact ⟨ha, by rw [List.length_map]; exact hl, vs, _, rv, ha⟩
end
theorem walk_ofG {l : PySem.W.OpenLaw} {n k : Nat} {q : Program} {loose : List Str} {XP : (Str → Option Value) → Heap → Prop} {YP : World → Heap → Prop} {d : DefRec} {CX : World → CXT} {x : Str}
    (hn : l.most = some n) (hn2 : n ≤ sizeLine) (hdf : d.params.defaults = []) (hr : Room k callerA)
    (F : ∀ (w : World) (mg : Str → Option Value) (fa : Addr) (h : Heap), YP w h → h.Ns mainGlobals mg → mg d.name = some (.ref fa) →
      ∃ (K : PySem.W.Frag) (fd : FuncData) (sp : Sp), K.In h ∧ (∀ (s : Shared) (u : Value), BindsTo s fd ⟨[u], []⟩ [(x, u)]) ∧
        (∀ (H : Hp) (a : Addr) (ns : List Int), ns.length ≤ n → Only H → SqL K H a (ns.map V.int) → sp [.ref a] H (fun v _ => v = .bl true) fun _ _ _ => False) ∧
        ∀ base : Heap, K.In base → base.Ns mainGlobals mg → FnOkG l.prog w K mg base (CX w) k fa fd [x] sp)
    (hCX : ∀ (w : World) (H : Hp) (s : Shared) (e : Value) (s' : Shared), CX w [] H s (fun _ _ _ => False) e s' → False) :
    PySem.W.WalkO q loose XP YP l.row.toRowW d [] (fun f vs => PySem.call f vs) := by
  refine Att.attach_call hn hdf fun w s₀ s₁ mg mb fa o pm cd doc a vs ns G Y ho hd hcd hmg hobj hints hlen hg => ?_
  obtain ⟨K, fd, sp, KX, hb, hsp, hF⟩ := F w mg fa _ Y G.T.g hmg
  exact law_callG KX G.T.g G.T.b G.T.builtins G.T.nolimit hg hobj hints (Nat.le_trans hlen hn2) hr hF hb (fun H hO hS => hsp H a ns hlen hO hS) fun H e s' => hCX w H s₁ e s'
end PD
end
section
set_option maxHeartbeats 2000000
namespace PD
open PySem PySem.Spec PyProof.Rows L2
section
variable {P : Program} {w : World} {K : Frag} {mg : Str → Option Value} {base : Heap}
theorem fn_okG {x qual : Str} {params : Arguments} {body : List Stmt} {scope : Scope} {f : Addr} {fd : FuncData} {dvs : List V} {kws : List (Str × V)} {N ps : List Str} {k : Nat} {own : List Nat} {g : Env → RO} (F : FunD K x qual params body scope dvs kws f fd) (S : FnScope N ps scope) (hon : own.all (fun i => decide (ps.length ≤ i)) = true)
    (hps : decide (ps.length ≤ N.length) = true)
    (hb : ∀ (cdv : Value) (A : Around) (outer : List PySem.Env) (s : Shared) (H : Hp) (E : XK), Room k (A.deeper (envOfC qual scope s.heap.objs.size f cdv)) → (A.deeper (envOfC qual scope s.heap.objs.size f cdv)).guards = some [] → JB (cxOf (L2.CX P w) P w K mg base N qual scope f cdv A outer s H E) own body g) :
    FnOkG P w K mg base (L2.CX P w) (k + 1) f fd ps (spP K (den ps.length N.length g)) := by
  refine FunD.okG F S (fun vs H Q E h => ?_) (fun cdv A outer s H vs Q E hr hgu h => bd_okB hon hps (hb cdv A outer s H E hr hgu) h)
  obtain ⟨F', ds, o, e, r, h1, _⟩ := h
  unfold den at h1
  by_cases hl : ds.length = ps.length
  · rw [Rep.len r, hl]
  · rw [if_neg hl] at h1; cases h1
theorem fnB_okG {x qual : Str} {params : Arguments} {body : List Stmt} {scope : Scope} {f : Addr} {fd : FuncData} {dvs : List V} {kws : List (Str × V)} {N ps : List Str} {k : Nat} {own : List Nat} {g : Env → RO} (F : FunD K x qual params body scope dvs kws f fd) (S : FnScope N ps scope) (hon : own.all (fun i => decide (i = 0 ∨ ps.length ≤ i)) = true) (h0 : own.contains 0 = true)
    (hps : decide (ps.length ≤ N.length) = true)
    (hb : ∀ (cdv : Value) (A : Around) (outer : List PySem.Env) (s : Shared) (H : Hp) (E : XK), Room k (A.deeper (envOfC qual scope s.heap.objs.size f cdv)) → (A.deeper (envOfC qual scope s.heap.objs.size f cdv)).guards = some [] → JB (cxOf (L2.CX P w) P w K mg base N qual scope f cdv A outer s H E) own body g) :
    FnOkG P w K mg base (L2.CX P w) (k + 1) f fd ps (spB K (denB ps.length N.length g)) := by
  refine FunD.okG F S (fun vs H Q E h => ?_) (fun cdv A outer s H vs Q E hr hgu h => bdB_okB hon h0 hps (hb cdv A outer s H E hr hgu) h)
  obtain ⟨F', p, ws, bs, B, ds, d, B', rfl, e, hF, hH, rb, rd, h1, _⟩ := h
  unfold denB at h1
  by_cases hl : ds.length + 1 = ps.length
  · rw [List.length_cons, Rep.len rd, hl]
  · rw [if_neg hl] at h1; cases h1
end
structure FnBG (P : Program) (w : World) (K : Frag) (mg : Str → Option Value) (base : Heap) (k : Nat) (x : Str) (m : List D → List D → Option (D × List D)) : Prop where
  at_ : ∃ f fd ps, FnOkG P w K mg base (L2.CX P w) k f fd ps (spB K m) ∧ mg x = some (.ref f) ∧ PySem.W.keepIn K (.ref f) = true ∧ Binds K fd ps []
structure FnG (P : Program) (w : World) (K : Frag) (mg : Str → Option Value) (base : Heap) (k : Nat) (x : Str) (m : List D → Rs D) : Prop where
  at_ : ∃ f fd ps, FnOkG P w K mg base (L2.CX P w) k f fd ps (spP K m) ∧ mg x = some (.ref f) ∧ PySem.W.keepIn K (.ref f) = true ∧ Binds K fd ps []
section
variable {X : Cx} {own : List Nat} {e a : Expr} {es : List Expr} {pos : Pos}
theorem pe_callG {CX : CXT} {k : Nat} {f : Addr} {fd : FuncData} {ps : List Str} {sp : Sp} {E : L2.St → XK} {x : Str} {p : Pos} {t : TA} (F : FnOkG X.prog X.w X.K X.mg X.base CX k f fd ps sp) (hgu : X.A.guards = some []) (hr : Room k X.A) (hg : Gl X x) (hm : X.mg x = some (.ref f)) (hk : PySem.W.keepIn X.K (.ref f) = true) (hb : Binds X.K fd ps []) (hx : ∀ σ, PassesAt CX X σ (E σ))
    (ha : PA X (e :: es) t) (hdb : (x == ("__debug__" : Str)) = false := by decide) (he : starEach (e :: es) X.env = (false, eval e X.env) :: starEach es X.env := by rfl) (hpl : (backTo pos (starEach es X.env)).any (·.1) = false := by rfl) :
    PE X (.Call (.Name x p) (e :: es) [] pos) (tCallS sp E t) := by
  refine ⟨fun pins s σ H Q I h => ?_⟩
  refine wpAny_Call_Name_kw (ld_glob I hg hm ?_ hdb)
  refine PySem.W.callWith_K (h₀ := X.base) I.ok.mod.kin hk (thn (ha.run pos pins s σ H _ I h) fun us s1 ⟨vs, H1, I1, r, q⟩ => ⟨I1.kIn, ?_⟩) he hpl
  have hl : us.length = ps.length := by rw [← r.length]; exact F.len _ _ _ _ q
  have b := hb s1 us I1.kIn (by rw [List.append_nil]; exact hl)
  rw [List.append_nil] at b
  refine wpAny_call (codeAny_mono (F.run X.A X.stack s1 H1 ⟨us, []⟩ us vs Q (E σ) hr hgu I1.env0 b r q) fun r s' hq => ?_)
  cases r with
  | error e => exact hx σ pins H1 s1 e s' I1 hq
  | ok fl =>
    cases fl with
    | ret u => exact I1.after hq
    | next => exact False.elim hq
    | brk => exact False.elim hq
    | cont => exact False.elim hq
theorem je_callBNG {k : Nat} {x : Str} {p : Pos} {m : List D → List D → Option (D × List D)} {fa : Env → RE D} {f : Env → RE (List D)} (hf : FnBG X.prog X.w X.K X.mg X.base k x m) (hgu : X.A.guards = some []) (hr : Room k X.A) (hn : JN X own a fa) (ha : JAE X own es f) (hg : Gl X x := by rfl)
    (hdb : (x == ("__debug__" : Str)) = false := by decide) (he : starEach (a :: es) X.env = (false, eval a X.env) :: starEach es X.env := by rfl) (hpl : (backTo pos (starEach es X.env)).any (·.1) = false := by rfl) :
    JE X own (.Call (.Name x p) (a :: es) [] pos) (ecallBN m fa f) := ⟨fun {P F0 H0 σ F H δ W Q o} r tk hg' hP => by
  obtain ⟨fa', fd, ps, Fo, hm, hk, hb⟩ := hf.at_
  refine we_of (pe_callG Fo hgu hr hg hm hk hb (fun σ => passAt tk σ) (pa_cons pe_we pa_wa he) hdb he hpl) ?_
  rcases bindE_some hg' with ⟨y, h1, rfl⟩ | ⟨d, δ1, h1, hg'⟩
  · exact hn.run r tk h1 hP
  · refine hn.run r tk h1 fun Dd ob F1 H1 l e1 ro => ?_
    obtain ⟨⟨P', Fb, Hb, r1, c, e, n, nf⟩, nh⟩ := l
    rcases bindE_some hg' with ⟨y, h2, rfl⟩ | ⟨ds, δ2, h2, hg'⟩
    · exact ha.run (P := P') (F0 := Fb) (H0 := Hb) r1 tk h2 fun cc dd F' H' r2 e2 rx => hP cc dd F' H' (RS.back r2 c) (e1.trans e2) rx
    · refine ha.run (P := P') (F0 := Fb) (H0 := Hb) r1 tk h2 fun vs F2 H2 r2 e2 rx => ?_
      have l2 : LS X.K own P F0 H0 Dd ob F2 σ H2 δ2 := ⟨⟨P', Fb, Hb, r2, c, e, n, nf⟩, nh⟩
      cases ro with
      | dic _ => cases hg'
      | @lst ws B rr =>
        dsimp only at hg'
        simp only [Option.map_eq_some_iff] at hg'
        obtain ⟨⟨d, B'⟩, hm', rfl⟩ := hg'
        exact ⟨F2, Dd, vs, ws, B, ds, d, B', rfl, l2.rs.fh, l2.nF, l2.at, rr.mono e2, rx, hm', fun v F' H' bs' g hH' rb rd => hP v F' H' (l2.changed g) (e1.trans (e2.trans g.ff)) rd⟩⟩
end
/-- the law's promise from its mirror -/
theorem law_sp {K : Frag} {m : List D → Rs D} {H : Hp} {a : Addr} {ns : List Int} (hS : SqL K H a (ns.map V.int)) (h : m [.scr (ns.map D.int)] = some (.ok (.bl true))) : spP K m [.ref a] H (fun v _ => v = .bl true) fun _ _ _ => False := by
  have r : ∀ ns : List Int, Reps K H (ns.map V.int) (ns.map D.int) := fun ns => by
    induction ns with
    | nil => exact .nil
    | cons n ns ih => exact .cons (.int n) ih
  refine ⟨H, [.scr (ns.map D.int)], _, Ex.refl _, .cons (.scr hS (r ns)) .nil, h, fun v F' H' g rv => ?_⟩
  cases rv; rfl
theorem cx_false {P : Program} {w : World} {outer : List PySem.Env} {H : Hp} {s : Shared} {e : Value} {s' : Shared} (h : L2.CX P w outer H s (fun _ _ _ => False) e s') : False := by
  obtain ⟨_, _, _, _, _, _, _, _, _, _, _, _, z⟩ := h
  exact z
end PD
end
section
namespace PD
open PySem L2
/-! ### objects with __slots__, read -/
theorem RepO.get {K : Frag} {F : Hp} : ∀ {vs : List (Option V)} {ds : List (Option D)} {i : Nat} {d : D}, RepO K F vs ds → ds[i]? = Option.some (Option.some d) → ∃ v : V, vs[i]? = Option.some (Option.some v) ∧ Rep K F v d
  | _, _, _, _, .nil, h => by simp at h
  | vs, _, 0, d, .none r, h => by simp at h
  | vs, _, i + 1, d, .none r, h => by
    obtain ⟨v, hv, rv⟩ := RepO.get r (by simpa using h)
    refine ⟨v, ?_, rv⟩
    cases vs with
    | nil => simp at hv
    | cons x vs => simpa using hv
  | _, _, 0, d, .some h1 r, h => by simp at h; subst h; exact ⟨_, rfl, h1⟩
  | _, _, i + 1, d, .some h1 r, h => by
    obtain ⟨v, hv, rv⟩ := RepO.get r (by simpa using h)
    exact ⟨v, by simpa using hv, rv⟩
/-- the facts of a class with __slots__ and of a slot -/
structure SlF (K : Frag) (c f : Str) (i : Nat) : Prop where
  cls : SlX.SCls K (He.ga K c)
  sl : ∃ p, SlX.Slot1 K (He.ga K c) f p i
def attrD (c : Str) (i : Nat) : D → Option D
  | .obj c' fs => if c' = c then fs[i]?.join else none
  | _ => none
def vattr (c : Str) (i : Nat) (g : Env → Rs D) : Env → Rs D := fun δ => bind (g δ) fun x => opt (attrD c i x)
section
variable {X : Cx}
theorem Rep.slt {K : Frag} {F H : Hp} {w : V} {c : Str} {fs : List (Option D)} (e : Ex F H) (r : Rep K F w (.obj c fs)) : ∃ a dx vs, w = .ref a ∧ SlX.Slt H a (He.ga K c) dx vs ∧ RepO K F vs fs := by
  cases r with
  | obj h hx ro => exact ⟨_, _, _, rfl, .inr ⟨e _ _ h, e _ _ hx⟩, ro⟩
theorem attr_some {c : Str} {i : Nat} {x z : D} (h : attrD c i x = some z) : ∃ fs, x = .obj c fs ∧ fs[i]? = some (some z) := by
  cases x <;> (try (simp [attrD] at h; done))
  rename_i c' fs
  simp only [attrD] at h
  split at h
  · rename_i e
    subst e
    refine ⟨fs, rfl, ?_⟩
    cases q : fs[i]? with
    | none => rw [q] at h; cases h
    | some y => rw [q] at h; cases y with
      | none => cases h
      | some u => cases h; rfl
  · cases h
theorem jp_attr {c f : Str} {i : Nat} {e : Expr} {pos : Pos} {g : Env → Rs D} (T : SlF X.K c f i) (he : JP X e g) (hb : attributeBase e f X.env (eval e X.env) = eval e X.env := by rfl) : JP X (.Attribute e f pos) (vattr c i g) := ⟨fun rp tk hg hP =>
  we_of (SlX.pe_sl pe_we hb) (jp_bind he rp tk hg hP fun x v F1 H1 h1 g1 rx r1 P1 => by
    obtain ⟨z, hz, rfl⟩ := opt_some h1
    obtain ⟨fs, rfl, hf⟩ := attr_some hz
    obtain ⟨a, dx, vs, rfl, hs, ro⟩ := rx.slt r1.ex
    obtain ⟨w, hw, rw'⟩ := ro.get hf
    obtain ⟨p, sl⟩ := T.sl
    exact ⟨a, _, dx, p, vs, i, w, rfl, hs, T.cls, sl, hw, P1 w F1 H1 (.refl r1.ex) rw'⟩)⟩
/-- a method of a class -/
structure FnM (P : Program) (w : World) (K : Frag) (mg : Str → Option Value) (base : Heap) (k : Nat) (c m : Str) (f : List D → Rs D) : Prop where
  cls : SlX.SCls K (He.ga K c)
  at_ : ∃ g fd ps, FnOk P w K mg base (L2.CX P w) k g fd ps (spP K f) ∧ Meth K (He.ga K c) m g ∧ Binds K fd ps []
def vmeth (c : Str) (m : List D → Rs D) (g : Env → Rs D) (a : Env → Rs (List D)) : Env → Rs D := fun δ => bind (g δ) fun x => match x with
  | .obj c' fs => if c' = c then bind (a δ) fun xs => m (.obj c' fs :: xs) else none
  | _ => none
theorem vmeth_obj {c : Str} {m : List D → Rs D} {a : Env → Rs (List D)} {δ : Env} {x : D} {o : Except XD D} (h : (match x with
  | .obj c' fs => if c' = c then bind (a δ) fun xs => m (.obj c' fs :: xs) else none
  | _ => none) = some o) : ∃ fs, x = .obj c fs ∧ (bind (a δ) fun xs => m (.obj c fs :: xs)) = some o := by
  cases x <;> (try (cases h; done))
  rename_i c' fs
  simp only [] at h
  split at h
  · rename_i e; subst e; exact ⟨fs, rfl, h⟩
  · cases h
open PySem.Spec PyProof.Rows in
theorem run_fnRS {pins : List (Addr × Obj)} {σ : L2.St} {H : Hp} {s : Shared} {CX : CXT} {k : Nat} {f : Addr} {sp : Sp} {E : XK} {Q : VK} {us : List Value} {vs : List V} (F : FnR X.prog X.w X.K X.mg X.base CX k f sp) (hr : Room k X.A) (hx : PassesAt CX X σ E) (I : Inv X pins σ H s) (r : Vals vs us) (h : sp vs H Q E) :
    codeAny (model X.prog X.w) X.A (.call (.ref f) ⟨us, []⟩) (fun r s' => match r with | .ok (.ret v) => EP X pins σ Q v s' | .ok _ => False | .error e => X.xe e s') s := by
  refine codeAny_mono (F X.A X.stack s H us vs Q E hr I.env0 r h) fun r s' hq => ?_
  cases r with
  | error e => exact hx pins H s e s' I hq
  | ok fl =>
    cases fl with
    | ret u => exact I.after hq
    | next => exact False.elim hq
    | brk => exact False.elim hq
    | cont => exact False.elim hq
open PySem.Spec PyProof.Rows in
theorem we_methS {σ : L2.St} {H : Hp} {Q : VK} {m : Str} {o e : Expr} {es : List Expr} {apos pos : Pos} {CX : CXT} {k : Nat} {C g : Addr} {sp : Sp} {E : XK} {pl : Sem Bool} (c : SlX.SCls X.K C) (hm : Meth X.K C m g) (F : FnR X.prog X.w X.K X.mg X.base CX k g sp) (hr : Room k X.A) (hx : PassesAt CX X σ E)
    (h : WE X o σ H fun x H1 => ∃ a dx vs, x = .ref a ∧ SlX.Slt H1 a C dx vs ∧ WA X (e :: es) σ H1 fun ws H2 => sp (x :: ws) H2 Q E)
    (hst : starEach (e :: es) X.env = (false, eval e X.env) :: starEach es X.env := by rfl) (hpl : (backTo pos (starEach es X.env)).any (·.1) = false := by rfl)
    (ht : eval (.Call (.Attribute o m apos) (e :: es) [] pos) X.env = (do
      let ov ← eval o X.env
      standAt apos.atName
      let (f, first) ← holding [ov] (getMethod ov m pl)
      callWith pos f first (backTo pos (starEach (e :: es) X.env)) (backToKw pos (keywordEach [] X.env))) := by rfl) :
    WE X (.Call (.Attribute o m apos) (e :: es) [] pos) σ H Q := fun pins s I => by
  refine PySem.W.methodCall_KW (pl := pl) (thn (h pins s I) fun u s1 ⟨x, H1, I1, rx, a, dx, vs, ex, hsl, q⟩ => ?_) ht
  subst ex
  obtain rfl : u = Value.ref a := rx
  refine SlX.getmethsl_ok I1 hsl c hm ?_
  refine PySem.W.callWith_K (first := [.ref a]) (h₀ := X.base) I.ok.mod.kin hm.kp (thn (q pos pins s1 I1) fun us s2 ⟨ws, H2, I2, r, q2⟩ => ⟨I2.kIn, ?_⟩) hst hpl
  exact wpAny_call (run_fnRS (us := .ref a :: us) (vs := .ref a :: ws) F hr hx I2 (.cons rfl r) q2)
open PySem.Spec PyProof.Rows in
theorem we_methS0 {σ : L2.St} {H : Hp} {Q : VK} {m : Str} {o : Expr} {apos pos : Pos} {CX : CXT} {k : Nat} {C g : Addr} {sp : Sp} {E : XK} {pl : Sem Bool} (c : SlX.SCls X.K C) (hm : Meth X.K C m g) (F : FnR X.prog X.w X.K X.mg X.base CX k g sp) (hr : Room k X.A) (hx : PassesAt CX X σ E)
    (h : WE X o σ H fun x H1 => ∃ a dx vs, x = .ref a ∧ SlX.Slt H1 a C dx vs ∧ sp [x] H1 Q E)
    (ht : eval (.Call (.Attribute o m apos) [] [] pos) X.env = (do
      let ov ← eval o X.env
      standAt apos.atName
      let (f, first) ← holding [ov] (getMethod ov m pl)
      callWith pos f first (backTo pos (starEach [] X.env)) (backToKw pos (keywordEach [] X.env))) := by rfl) :
    WE X (.Call (.Attribute o m apos) [] [] pos) σ H Q := fun pins s I => by
  refine PySem.W.methodCall_KW (pl := pl) (thn (h pins s I) fun u s1 ⟨x, H1, I1, rx, a, dx, vs, ex, hsl, q⟩ => ?_) ht
  subst ex
  obtain rfl : u = Value.ref a := rx
  refine SlX.getmethsl_ok I1 hsl c hm ?_
  exact PySem.W.callWith_K0 (first := [.ref a]) I1.kIn hm.kp (wpAny_call (run_fnRS (us := [.ref a]) (vs := [.ref a]) F hr hx I1 (.cons rfl .nil) q))
theorem jp_meth {k : Nat} {c m : Str} {o e : Expr} {es : List Expr} {apos pos : Pos} {f : List D → Rs D} {g : Env → Rs D} {a : Env → Rs (List D)} {pl : Sem Bool} (hf : FnM X.prog X.w X.K X.mg X.base k c m f) (hr : Room k X.A) (ho : JP X o g) (ha : JA X (e :: es) a)
    (hst : starEach (e :: es) X.env = (false, eval e X.env) :: starEach es X.env := by rfl) (hpl : (backTo pos (starEach es X.env)).any (·.1) = false := by rfl)
    (ht : eval (.Call (.Attribute o m apos) (e :: es) [] pos) X.env = (do
      let ov ← eval o X.env
      standAt apos.atName
      let (f, first) ← holding [ov] (getMethod ov m pl)
      callWith pos f first (backTo pos (starEach (e :: es) X.env)) (backToKw pos (keywordEach [] X.env))) := by rfl) :
    JP X (.Call (.Attribute o m apos) (e :: es) [] pos) (vmeth c f g a) := ⟨fun {σ F H δ W Q o'} rp tk hg hP => by
  obtain ⟨ga, fd, ps, Fo, hm, hb⟩ := hf.at_
  have FR := FnOk.raw (dvs := []) Fo hb .nil
  refine we_methS (pl := pl) hf.cls hm FR hr (passAt tk σ) (jp_bind ho rp tk hg hP fun x v F1 H1 h1 g1 rx r1 P1 => ?_) hst hpl ht
  obtain ⟨fs, rfl, h3⟩ := vmeth_obj h1
  obtain ⟨ad, dx, vs, rfl, hs, ro⟩ := rx.slt r1.ex
  refine ⟨ad, dx, vs, rfl, hs, ja_bind ha r1 tk h3 P1 fun xs ws F2 H2 h2 g2 rxs r2 P2 => ?_⟩
  show spP X.K f ((V.ref ad :: ws) ++ []) H2 Q (L2.WE W σ)
  rw [List.append_nil]
  exact ⟨F2, .obj c fs :: xs, _, r2.ex, .cons (rx.mono g2.ff) rxs, h2, post_call P2⟩⟩
def vmeth0 (c : Str) (m : List D → Rs D) (g : Env → Rs D) : Env → Rs D := vmeth c m g anil
theorem jp_meth0 {k : Nat} {c m : Str} {o : Expr} {apos pos : Pos} {f : List D → Rs D} {g : Env → Rs D} {pl : Sem Bool} (hf : FnM X.prog X.w X.K X.mg X.base k c m f) (hr : Room k X.A) (ho : JP X o g)
    (ht : eval (.Call (.Attribute o m apos) [] [] pos) X.env = (do
      let ov ← eval o X.env
      standAt apos.atName
      let (f, first) ← holding [ov] (getMethod ov m pl)
      callWith pos f first (backTo pos (starEach [] X.env)) (backToKw pos (keywordEach [] X.env))) := by rfl) :
    JP X (.Call (.Attribute o m apos) [] [] pos) (vmeth0 c f g) := ⟨fun {σ F H δ W Q o'} rp tk hg hP => by
  obtain ⟨ga, fd, ps, Fo, hm, hb⟩ := hf.at_
  have FR := FnOk.raw (dvs := []) Fo hb .nil
  refine we_methS0 (pl := pl) hf.cls hm FR hr (passAt tk σ) (jp_bind ho rp tk hg hP fun x v F1 H1 h1 g1 rx r1 P1 => ?_) ht
  obtain ⟨fs, rfl, h3⟩ := vmeth_obj h1
  obtain ⟨ad, dx, vs, rfl, hs, ro⟩ := rx.slt r1.ex
  refine ⟨ad, dx, vs, rfl, hs, ?_⟩
  show spP X.K f ((V.ref ad :: []) ++ []) H1 Q (L2.WE W σ)
  rw [List.append_nil]
  exact ⟨F1, [.obj c fs], _, r1.ex, .cons rx .nil, h3, post_call P1⟩⟩
end
end PD
end
section
namespace PD
open PySem L2
/-! ### tables on data -/
def putD (kvs : List (Key × D)) (k : Key) (v : D) : List (Key × D) :=
  if (kvs.any fun kv => decide (kv.1 = k)) = true then kvs.map (fun kv => if kv.1 = k then (kv.1, v) else kv) else kvs ++ [(k, v)]
def mergeD (kvs more : List (Key × D)) : List (Key × D) := more.foldl (fun acc kv => putD acc kv.1 kv.2) kvs
theorem RepK.any {K : Frag} {F : Hp} {k : Key} : ∀ {vs : List (Key × V)} {ds : List (Key × D)}, RepK K F vs ds → (vs.any fun kv => decide (kv.1 = k)) = ds.any fun kv => decide (kv.1 = k)
  | _, _, .nil => rfl
  | _, _, .cons h r => by simp [RepK.any r]
theorem RepK.setAt {K : Frag} {F : Hp} {k : Key} {v : V} {d : D} (h : Rep K F v d) : ∀ {vs : List (Key × V)} {ds : List (Key × D)}, RepK K F vs ds → RepK K F (vs.map fun kv => if kv.1 = k then (kv.1, v) else kv) (ds.map fun kv => if kv.1 = k then (kv.1, d) else kv)
  | _, _, .nil => .nil
  | _, _, .cons (k := j) h1 r => by
    rw [List.map_cons, List.map_cons]
    by_cases e : j = k
    · simp only [e, if_true]; exact .cons h (RepK.setAt h r)
    · simp only [e, if_false]; exact .cons h1 (RepK.setAt h r)
theorem RepK.app {K : Frag} {F : Hp} : ∀ {vs ws : List (Key × V)} {ds es : List (Key × D)}, RepK K F vs ds → RepK K F ws es → RepK K F (vs ++ ws) (ds ++ es)
  | _, _, _, _, .nil, h => h
  | _, _, _, _, .cons h1 r, h => .cons h1 (RepK.app r h)
theorem RepK.put {K : Frag} {F : Hp} {k : Key} {v : V} {d : D} (h : Rep K F v d) {vs : List (Key × V)} {ds : List (Key × D)} (r : RepK K F vs ds) : RepK K F (putK vs k v) (putD ds k d) := by
  unfold putK putD
  rw [r.any]
  split
  · exact r.setAt h
  · exact r.app (.cons h .nil)
theorem RepK.merge {K : Frag} {F : Hp} : ∀ {ws : List (Key × V)} {es : List (Key × D)} {vs : List (Key × V)} {ds : List (Key × D)}, RepK K F ws es → RepK K F vs ds → RepK K F (mergeK vs ws) (mergeD ds es)
  | _, _, _, _, .nil, r => r
  | _, _, _, _, .cons (k := k) h t, r => by
    have q := RepK.merge t (r.put (k := k) h)
    exact q
/-! ### dict(x) -/
def pairsD : List D → Option (List (Key × D))
  | [] => some []
  | .tup [k, v] :: r => (keyOf k).bind fun k => (pairsD r).map fun kvs => (k, v) :: kvs
  | _ => none
theorem pairs_rep {K : Frag} {F H : Hp} (e : Ex F H) : ∀ {ds : List D} {vs : List V} {kds : List (Key × D)}, Reps K F vs ds → pairsD ds = some kds → ∃ (ps : List Addr) (kvs : List (Key × V)), vs = ps.map V.ref ∧ Paired (fun p kv => SqT K H p [kV kv.1, kv.2]) ps kvs ∧ RepK K F kvs kds
  | _, _, _, .nil, h => by cases h; exact ⟨[], [], rfl, .nil, .nil⟩
  | _, _, _, .cons (d := d) hd r, h => by
    unfold pairsD at h
    split at h
    · rename_i heq
      cases heq
    · rename_i heq
      rename_i k v rest
      cases heq
      cases hk : keyOf k with
      | none => rw [hk] at h; cases h
      | some key =>
        rw [hk, Option.bind_some, Option.map_eq_some_iff] at h
        obtain ⟨kvs0, h1, rfl⟩ := h
        obtain ⟨ps, kvs, rfl, hp, rk⟩ := pairs_rep e r h1
        cases hd with
        | tup hs rr =>
          obtain ⟨w, u, rfl, rw', ru⟩ := reps2 rr
          cases keyOf_rep rw' hk
          exact ⟨_ :: ps, (key, u) :: kvs, rfl, .cons (ex_t e hs) hp, .cons ru rk⟩
    · cases h
open PySem.Spec PyProof.Rows in
theorem pairs2 {X : Cx} {pins : List (Addr × Obj)} {σ : L2.St} {H : Hp} {s : Shared} (I : Inv X pins σ H s) : ∀ {ps : List Addr} {kvs : List (Key × V)}, Paired (fun p kv => SqT X.K H p [kV kv.1, kv.2]) ps kvs →
    ∃ (prs : List (Key × Value)) (qs : List (Value × Value)), KV kvs prs ∧ prs.length = ps.length ∧ qs.length = ps.length ∧ ∀ (j : Nat) (a b : Value), qs[j]? = some (a, b) → ∃ (q : Addr) (k : Key), ps[j]? = some q ∧ IsTup s.heap q #[a, b] ∧ prs[j]? = some (k, b) ∧ keyIs k a = true
  | _, _, .nil => ⟨[], [], .nil, rfl, rfl, fun j a b e => by simp at e⟩
  | _, _, .cons (a := p) (b := kv) h t => by
    obtain ⟨prs, qs, r, hl, hl2, hp⟩ := pairs2 I t
    obtain ⟨its, rv, ht, _⟩ := I.tuple h
    obtain ⟨u, y, ei, ru, ry⟩ := vals2 rv
    subst ei
    refine ⟨(kv.1, y) :: prs, (u, y) :: qs, .cons ⟨rfl, ry⟩ r, by simp [hl], by simp [hl2], fun j a b e => ?_⟩
    cases j with
    | zero => cases e; exact ⟨p, kv.1, rfl, ht, rfl, kV_is (P := X.prog) (w := X.w) ru⟩
    | succ j => exact hp j a b (by simpa using e)
open PySem.Spec PyProof.Rows in
theorem plain_of {X : Cx} {pins : List (Addr × Obj)} {σ : L2.St} {H : Hp} {s : Shared} {a : Addr} {xs : List V} (I : Inv X pins σ H s) (h : SqP X.K H a xs) : ∃ its : List Value, Vals xs its ∧ PlainSeq "tuple" s.heap a its.toArray ∧ xs.length ≤ sizeLine := by
  obtain ⟨its, rv, pl, hz⟩ := I.tuple h.t
  refine ⟨its, rv, ?_, hz⟩
  obtain ⟨o2, h2, c2, n2, d2⟩ := pl
  rcases h with ⟨o, ho, hpl⟩ | ⟨o, its', n, hk, hc, hd, hdat, _, _⟩
  · obtain ⟨e1, _⟩ := I.hok a _ ho
    rw [h2] at e1; cases e1
    exact ⟨o2, n2, h2, c2, hpl.2.1, d2⟩
  · have := I.kIn a o hk
    rw [h2] at this; cases this
    exact ⟨o2, n2, h2, c2, hd, d2⟩
def rDictT (K : Frag) : List V → Hp → VK → Prop := fun xs H Q => ∃ (a : Addr) (ps : List Addr) (kvs : List (Key × V)), xs = [.ref a] ∧ SqP K H a (ps.map V.ref) ∧ Paired (fun p kv => SqT K H p [kV kv.1, kv.2]) ps kvs ∧ ∀ p, H p = none → Q (.ref p) (upd H p (.dK (mergeK [] kvs)))
open PySem.Spec PyProof.Rows in
theorem call_dictT {X : Cx} (hcalm : X.calm = true) : CallR X (.type "dict") (rDictT X.K) := by
  intro pins s σ H xs us Q I r q
  obtain ⟨a, ps, kvs, ex, hq, hp, q⟩ := q
  subst ex
  obtain ⟨u, eu, rx⟩ := vals1 r
  subst eu
  cases rx
  obtain ⟨its, rv, pl, hz⟩ := plain_of I hq
  have ei := refs_at rv
  subst ei
  rw [List.length_map] at hz
  obtain ⟨prs, qs, rel, hl, hl2, hpr⟩ := pairs2 I hp
  have PI : PairItems s.heap (ps.map Value.ref).toArray (fun j => ps.getD j 0) qs := by
    refine ⟨by simp [hl2], fun j k v e => ?_⟩
    obtain ⟨b, kk, e1, e2, e3, e4⟩ := hpr j k v e
    refine ⟨by simp [e1, List.getD], ?_⟩
    have : ps.getD j 0 = b := by simp [List.getD, e1]
    show PairAt s.heap (ps.getD j 0) k v
    rw [this]
    exact .inl e2
  have hc : PairsHave (mixKind X.prog X.w) qs.length (PairRel qs) prs := ⟨hl.trans hl2.symm, fun i key v e => by
    obtain ⟨b, kk, e1, e2, e3, e4⟩ := hpr i key v e
    exact ⟨kk, e3, e4⟩⟩
  refine PySem.call_dict_pairs (PairArg.tuple a _ (fun j => ps.getD j 0) qs) (I.ok.hd hcalm) ⟨pl, PI⟩ hc (by rw [hl2]; exact hz) fun h' tk hd' k => ?_
  have hm : (s.heap.objs.size == sysModules) = false := beq_eq_false_iff_ne.mpr (Nat.ne_of_gt I.big)
  have hlen : (mergeK [] kvs).length ≤ sizeLine := by
    refine Nat.le_trans (length_mergeK kvs []) ?_
    rw [List.length_nil, Nat.zero_add, rel.length, hl]
    exact hz
  exact ⟨.ref s.heap.objs.size, upd H s.heap.objs.size (.dK (mergeK [] kvs)), I.laid (t' := tk) (fun b o e => k b o (by simp) e) (Nat.le_refl _) (show ObjOk X.prog X.w _ _ _ (.dK (mergeK [] kvs)) from ⟨hlen, hm, merged [] prs, KV.merge rel .nil, hd'⟩), rfl, q _ (I.hok.fresh (Nat.le_refl _))⟩
def dDict : D → Option D
  | .lst xs => (pairsD xs).map fun kvs => .dic (mergeD [] kvs)
  | .tup xs => (pairsD xs).map fun kvs => .dic (mergeD [] kvs)
  | .dic kvs => some (.dic kvs)
  | _ => none
abbrev rDictX (K : Frag) : List V → Hp → VK → Prop := fun xs H Q => ((∃ (a : Addr) (ps : List Addr) (kvs : List (Key × V)), xs = [.ref a] ∧ SqL K H a (ps.map V.ref) ∧ Paired (fun p kv => SqT K H p [kV kv.1, kv.2]) ps kvs ∧
    ∀ p, H p = none → Q (.ref p) (upd H p (.dK (mergeK [] kvs)))) ∨ rDictT K xs H Q) ∨ ∃ (a : Addr) (kvs : List (Key × V)), xs = [.ref a] ∧ Rd H a (.dK kvs) ∧ ∀ p, H p = none → Q (.ref p) (upd H p (.dK kvs))
theorem b_dict {X : Cx} (hc : X.calm = true) : CallR X (.type "dict") (rDictX X.K) := ((call_dictP hc).or (call_dictT hc)).or call_dictD
theorem n_dict {K : Frag} : CallN K (rDictX K) (one dDict) := fun {F H vs xs z} e r h Q q => by
  obtain ⟨x, e0, h0⟩ := one_some h; subst e0; clear h; have h := h0; clear h0
  obtain ⟨w, rfl, rr⟩ := reps1 r
  cases rr with
  | tup h1 r1 =>
    simp only [dDict, Option.map_eq_some_iff] at h
    obtain ⟨kds, h2, rfl⟩ := h
    obtain ⟨ps, kvs, rfl, hp, rk⟩ := pairs_rep e r1 h2
    exact .inl (.inr ⟨_, ps, kvs, rfl, ex_p e h1, hp, fun p hp => q _ _ hp (.dic (rk.merge .nil))⟩)
  | lst h1 r1 =>
    simp only [dDict, Option.map_eq_some_iff] at h
    obtain ⟨kds, h2, rfl⟩ := h
    obtain ⟨ps, kvs, rfl, hp, rk⟩ := pairs_rep e r1 h2
    exact .inl (.inl ⟨_, ps, kvs, rfl, SqL.of (e _ _ h1), hp, fun p hp => q _ _ hp (.dic (rk.merge .nil))⟩)
  | dic h1 r1 => cases h; exact .inr ⟨_, _, rfl, .of (e _ _ h1), fun p hp => q _ _ hp (.dic r1)⟩
  | _ => cases h
/-- what makes a new container, held fast at once -/
theorem callD_of {K : Frag} {r : List V → Hp → VK → Prop} {g : List D → Option D} (h : CallN K r g) : CallD K r g := fun {F H vs xs z} e rr hg Q q => h e rr hg Q fun p ob hp ho => q _ _ _ (.new e hp) (ho.rep (none_back e hp))
theorem d_dict {K : Frag} : CallD K (rDictX K) (one dDict) := callD_of n_dict
/-! ### {} -/
section
variable {X : Cx} {own : List Nat} {pos : Pos}
theorem jp_dict0 : JP X (.Dict [] [] pos) (c (.dic [])) := ⟨fun {σ F H δ W Q o} rp tk hg hP => by
  cases hg
  exact we_of pe_dnewK fun p hp => hP _ _ _ (.new rp.ex hp) (.dic upd_same .nil)⟩
def edict0 : Env → RE D := fun δ => some (.ok (.dic [], δ))
theorem jn_dict0 : JN X own (.Dict [] [] pos) edict0 := ⟨fun {P F0 H0 σ F H δ W Q o} r tk hg hP => by
  cases hg
  exact we_of pe_dnewK fun p hp => hP p _ F _ (.start r hp) (Ex.refl _) (.dic .nil)⟩
end
/-! ### d.get(k, x) -/
def dGet2 : D → D → D → Option D
  | .dic kvs, k, x => (keyOf k).map fun k => ((kvs.find? fun kv => decide (kv.1 = k)).map (·.2)).getD x
  | _, _, _ => none
def isDc : D → Bool
  | .dic _ => true
  | _ => false
def vget2 (a b d : Env → Rs D) : Env → Rs D := fun δ => bind (a δ) fun x => if isDc x = true then bind (b δ) fun y => bind (d δ) fun z => opt (dGet2 x y z) else none
theorem jp_get2 {X : Cx} {o e f : Expr} {apos cpos : Pos} {fa fb fd : Env → Rs D} (hu : X.A.units + 70 < cLine) (ha : JP X o fa) (hb : JP X e fb) (hd : JP X f fd)
    (h1 : attributeBase o "get" X.env (eval o X.env) = eval o X.env := by rfl)
    (h2 : ((backTo cpos (starEach [e, f] X.env)).all (fun x => !x.1) && (backToKw cpos (keywordEach [] X.env)).all (fun x => x.1.isSome) && decide (([e, f] : List Expr).length + ([] : List Keyword).length + (if ([] : List Keyword).isEmpty then 0 else 1) < 30)) = true := by rfl)
    (h3 : (apos.endLine == cpos.line) = true := by rfl) (h4 : backTo cpos (starEach [e, f] X.env) = [(false, eval e X.env), (false, eval f X.env)] := by rfl) :
    JP X (.Call (.Attribute o "get" apos) [e, f] [] cpos) (vget2 fa fb fd) := ⟨fun rp tk hg hP =>
  we_of (pe_dget2 (by omega) pe_we pe_we pe_we ⟨h1, h2, h3, h4⟩) (jp_bind ha rp tk hg hP fun x vx F1 H1 q1 g1 rx r1 P1 => by
    split at q1
    · rename_i hx
      cases rx with
      | dic hp rk =>
        refine ⟨_, rfl, .inl ⟨_, .of (r1.ex _ _ hp)⟩, jp_bind hb r1 tk q1 P1 fun y vy F2 H2 q2 g2 ry r2 P2 => jp_bind hd r2 tk q2 P2 fun z vz F3 H3 q3 g3 rz r3 P3 => ?_⟩
        obtain ⟨u, hu', rfl⟩ := opt_some q3
        simp only [dGet2, Option.map_eq_some_iff] at hu'
        obtain ⟨k, hk, rfl⟩ := hu'
        cases keyOf_rep ry hk
        refine ⟨_, DGet.k (g3.hh _ _ (g2.hh _ _ (r1.ex _ _ hp))), ?_⟩
        rcases rk.val (k := k) with ⟨h1, h2⟩ | ⟨v, d, h1, h2, h3⟩
        · rw [h1]; rw [h2] at P3; exact P3 _ F3 H3 (.refl r3.ex) rz
        · rw [h1]; rw [h2] at P3; exact P3 _ F3 H3 (.refl r3.ex) (h3.mono (g2.ff.trans g3.ff))
      | _ => cases hx
    · cases q1)⟩
end PD
end
section
namespace PD
open PySem L2
/-! ### a slot's own container, list or table -/
def isC : D → Bool
  | .lst _ => true
  | .dic _ => true
  | _ => false
section
variable {K : Frag} {own : List Nat} {P : Pm} {F0 H0 F : Hp} {σ : L2.St} {H : Hp} {δ : Env}
theorem OwnV.cell {w : V} {d : D} {fp : List Addr} (o : OwnV K F H w d fp) (h : isC d = true) : ∃ p ob, w = .ref p ∧ fp = [p] ∧ H p = some ob ∧ OwnO K F ob d := by
  cases o with
  | lst h' r => exact ⟨_, _, rfl, rfl, h', .lst r⟩
  | dic h' r => exact ⟨_, _, rfl, rfl, h', .dic r⟩
  | obj _ => cases h
/-- heaps where the cells fp alone change -/
structure GrowO (fp : List Addr) (F H F' H' : Hp) : Prop where
  ff : Ex F F'
  fh : Ex F' H'
  hh : ∀ a o, a ∉ fp → H a = some o → H' a = some o
  dm : ∀ a, H a ≠ none → H' a ≠ none
  nw : ∀ a, F' a ≠ none → F a ≠ none ∨ H a = none
/-- a slot's own thing changed: the core -/
theorem RS.core {fp : Nat → List Addr} (r : RS K own P F0 H0 F σ H δ) (h1 : ∀ (i : Nat) (d : D), i ∈ own → δ[i]? = some (some d) → ∃ v : V, σ[i]? = some (some v) ∧ OwnV K F H v d (fp i))
    (h2 : ∀ i a, a ∈ fp i → F a = none ∧ H a ≠ none ∧ (H0 a = none ∨ P a ∧ (P.bx a → i = 0))) (h3 : ∀ i j a, i ≠ j → a ∈ fp i → a ∉ fp j)
    {i : Nat} {d d' : D} {v : V} {F' H' : Hp} {fp' : List Addr} (hi : i ∈ own) (h : δ[i]? = some (some d)) (hv : σ[i]? = some (some v)) (g : GrowO (fp i) F H F' H') (ov : OwnV K F' H' v d' fp')
    (hn : ∀ a ∈ fp', F' a = none ∧ H' a ≠ none ∧ (a ∈ fp i ∨ (H0 a = none ∧ ∀ j, a ∉ fp j))) : RS K own P F0 H0 F' σ H' (δ.set i (some d')) where
  ff := r.ff.trans g.ff
  fh := g.fh
  hh := fun a o hp e => g.hh a o (fun q => (h2 i a q).2.2.elim (fun z => by rw [z] at e; cases e) fun z => hp z.1) (r.hh a o hp e)
  dm := fun a e => g.dm a (r.dm a e)
  nw := fun a e => (g.nw a e).elim (r.nw a) fun z => .inr (by
    cases e0 : H0 a with
    | none => rfl
    | some o => exact absurd z (r.dm a (by rw [e0]; simp)))
  ln := by rw [List.length_set, r.ln]
  par := r.par
  bxh := r.bxh
  val := fun j dj hj e => by
    have hne : i ≠ j := fun q => hj (by rw [← q]; exact hi)
    rw [List.getElem?_set_ne hne] at e
    obtain ⟨w, hw, rw'⟩ := r.val j dj hj e
    exact ⟨w, hw, rw'.mono g.ff⟩
  own := by
    have hl : i < δ.length := (List.getElem?_eq_some_iff.1 h).1
    refine ⟨fun j => if j = i then fp' else fp j, fun j dj hj e => ?_, fun j a ha => ?_, fun j k a hjk ha hk => ?_⟩
    · by_cases q : i = j
      · subst q
        rw [List.getElem?_set_self hl] at e; cases e
        exact ⟨v, hv, by dsimp only; rw [if_pos rfl]; exact ov⟩
      · rw [List.getElem?_set_ne q] at e
        obtain ⟨w, hw, ow⟩ := h1 j dj hj e
        dsimp only
        rw [if_neg (fun x => q x.symm)]
        exact ⟨w, hw, ow.keep g.ff fun a ha o e => g.hh a o (fun x => h3 i j a q x ha) e⟩
    · dsimp only at ha
      by_cases q : j = i
      · rw [if_pos q] at ha
        obtain ⟨a1, a2, a3⟩ := hn a ha
        exact ⟨a1, a2, a3.elim (fun z => by rw [q]; exact (h2 i a z).2.2) fun z => .inl z.1⟩
      · rw [if_neg q] at ha
        obtain ⟨b1, b2, b3⟩ := h2 j a ha
        refine ⟨?_, g.dm a b2, b3⟩
        cases q : F' a with
        | none => rfl
        | some o => exact ((g.nw a (by rw [q]; simp)).elim (fun z => absurd b1 z) fun z => absurd z b2)
    · dsimp only at ha hk
      by_cases q : j = i
      · rw [if_pos q] at ha
        rw [if_neg (fun x => hjk (q.trans x.symm))] at hk
        exact (hn a ha).2.2.elim (fun z => h3 i k a (fun x => hjk (q.trans x)) z hk) fun z => z.2 k hk
      · rw [if_neg q] at ha
        by_cases q2 : k = i
        · rw [if_pos q2] at hk
          exact (hn a hk).2.2.elim (fun z => h3 i j a (fun x => q x.symm) z ha) fun z => z.2 j ha
        · rw [if_neg q2] at hk
          exact h3 j k a hjk ha hk
/-- .. what it is, and how it may change -/
theorem RS.alt {i : Nat} {d : D} (r : RS K own P F0 H0 F σ H δ) (hi : i ∈ own) (h : δ[i]? = some (some d)) : ∃ v fp, σ[i]? = some (some v) ∧ OwnV K F H v d fp ∧ (∀ a ∈ fp, F a = none ∧ H a ≠ none) ∧
    ∀ {F' H' : Hp} {d' : D} {fp' : List Addr}, GrowO fp F H F' H' → OwnV K F' H' v d' fp' → (∀ a ∈ fp', F' a = none ∧ H' a ≠ none ∧ (a ∈ fp ∨ H a = none)) → RS K own P F0 H0 F' σ H' (δ.set i (some d')) := by
  obtain ⟨fp, h1, h2, h3⟩ := r.own
  obtain ⟨v, hv, o⟩ := h1 i d hi h
  refine ⟨v, fp i, hv, o, fun a ha => ⟨(h2 i a ha).1, (h2 i a ha).2.1⟩, fun {F' H' d' fp'} g ov hn => r.core h1 h2 h3 hi h hv g ov fun a ha => ?_⟩
  obtain ⟨a1, a2, a3⟩ := hn a ha
  refine ⟨a1, a2, a3.imp id fun z => ⟨?_, fun j hj => (h2 j a hj).2.1 z⟩⟩
  cases e0 : H0 a with
  | none => rfl
  | some o => exact absurd z (r.dm a (by rw [e0]; simp))
/-- .. beside a new container of no one -/
theorem LS.alt {Dd : Addr} {ob : HO} {i : Nat} {d : D} (l : LS K own P F0 H0 Dd ob F σ H δ) (hi : i ∈ own) (h : δ[i]? = some (some d)) : ∃ v fp, σ[i]? = some (some v) ∧ OwnV K F H v d fp ∧ (∀ a ∈ fp, F a = none ∧ H a ≠ none ∧ a ≠ Dd) ∧
    ∀ {F' H' : Hp} {d' : D} {fp' : List Addr}, GrowO fp F H F' H' → OwnV K F' H' v d' fp' → (∀ a ∈ fp', F' a = none ∧ H' a ≠ none ∧ (a ∈ fp ∨ a = Dd)) → RS K own P F0 H0 F' σ H' (δ.set i (some d')) := by
  have R := l.rs
  obtain ⟨P', F1, H1, r, c, e, n, nf⟩ := l.r
  obtain ⟨fp, h1, h2, h3⟩ := r.own
  have nD : ∀ i, Dd ∉ fp i := fun i hi => (h2 i Dd hi).2.2.elim (fun q => by rw [e] at q; cases q) fun q => n q.1
  have h2' : ∀ i a, a ∈ fp i → F a = none ∧ H a ≠ none ∧ (H0 a = none ∨ P a ∧ (P.bx a → i = 0)) := fun i a ha => ⟨(h2 i a ha).1, (h2 i a ha).2.1, (h2 i a ha).2.2.elim (fun q => .inl (by
    cases e0 : H0 a with
    | none => rfl
    | some o => exact absurd q (c.dm a (by rw [e0]; simp)))) fun q => (c.pp a q.1).imp id fun z => ⟨z, fun y => q.2 (c.bx a y)⟩⟩
  obtain ⟨v, hv, o⟩ := h1 i d hi h
  refine ⟨v, fp i, hv, o, fun a ha => ⟨(h2 i a ha).1, (h2 i a ha).2.1, fun q => nD i (q ▸ ha)⟩, fun {F' H' d' fp'} g ov hn => R.core h1 h2' h3 hi h hv g ov fun a ha => ?_⟩
  obtain ⟨a1, a2, a3⟩ := hn a ha
  exact ⟨a1, a2, a3.imp id fun z => by rw [z]; exact ⟨l.h0, nD⟩⟩
theorem growO_upd {fp : List Addr} {p : Addr} {ob : HO} (e : Ex F H) (hp : p ∈ fp) (hF : F p = none) : GrowO fp F H F (upd H p ob) where
  ff := Ex.refl _
  fh := fun a o h => by
    have : a ≠ p := fun x => by rw [x, hF] at h; cases h
    rw [upd_ne this]; exact e a o h
  hh := fun a o h q => by rw [upd_ne (fun x => h (by rw [x]; exact hp))]; exact q
  dm := fun a h => by
    by_cases x : a = p
    · rw [x, upd_same]; simp
    · rw [upd_ne x]; exact h
  nw := fun _ h => .inl h
theorem RS.cell {i : Nat} {d : D} (r : RS K own P F0 H0 F σ H δ) (hi : i ∈ own) (h : δ[i]? = some (some d)) (hc : isC d = true) : ∃ p ob, σ[i]? = some (some (.ref p)) ∧ H p = some ob ∧ OwnO K F ob d ∧ F p = none := by
  obtain ⟨v, fp, hv, o, hf, _⟩ := r.alt hi h
  obtain ⟨p, ob, rfl, rfl, hp, oo⟩ := o.cell hc
  exact ⟨p, ob, hv, hp, oo, (hf p (by simp)).1⟩
theorem RS.putC {i : Nat} {d d' : D} {p : Addr} {ob' : HO} (r : RS K own P F0 H0 F σ H δ) (hi : i ∈ own) (h : δ[i]? = some (some d)) (hc : isC d = true) (hp : σ[i]? = some (some (.ref p))) (rv : OwnO K F ob' d') : RS K own P F0 H0 F σ (upd H p ob') (δ.set i (some d')) := by
  obtain ⟨v, fp, hv, o, hf, k⟩ := r.alt hi h
  obtain ⟨p', ob, rfl, rfl, hp', oo⟩ := o.cell hc
  rw [hp] at hv; cases hv
  refine k (growO_upd r.fh (by simp) (hf p (by simp)).1) (rv.at upd_same) fun a ha => ?_
  cases List.mem_singleton.1 ha
  exact ⟨(hf p (by simp)).1, by rw [upd_same]; simp, .inl (by simp)⟩
end
section
variable {X : Cx} {own : List Nat} {e : Expr} {pos : Pos}
/-- own[k] = e, own a table -/
def sdput (i : Nat) (fk f : Env → RE D) : Env → RO := fun δ => bindE (f δ) fun d δ1 => (match δ1[i]? with
  | some (some (.dic _)) => bindE (fk δ1) fun k δ2 => (match δ2[i]? with
    | some (some (.dic kvs)) => (match keyOf k with
      | some key => if kvs.length < sizeLine then some (.ok (.nx, δ2.set i (some (.dic (putD kvs key d))))) else none
      | none => none)
    | _ => none)
  | _ => none)
theorem own_atD {δ : Env} {i : Nat} {α : Type} {k : List (Key × D) → Option α} {o : α} (h : (match δ[i]? with | some (some (.dic ds)) => k ds | _ => none) = some o) : ∃ ds, δ[i]? = some (some (.dic ds)) ∧ k ds = some o := by
  split at h
  · exact ⟨_, by assumption, h⟩
  · cases h
theorem OwnO.dic_inv {K : Frag} {F : Hp} {ob : HO} {kds : List (Key × D)} (o : OwnO K F ob (.dic kds)) : ∃ kvs, ob = .dK kvs ∧ RepK K F kvs kds := by
  cases o with | dic r => exact ⟨_, rfl, r⟩
theorem js_dput (i : Nat) {x : Str} {k : Expr} {p1 p2 : Pos} {fk f : Env → RE D} (hu : X.A.units + 70 < cLine) (h : JE X own e f) (hk : JE X own k fk) (hi : X.N[i]? = some x := by rfl) (hv : Vis X.env.scope x := by first | exact Or.inl rfl | exact Or.inr (Or.inl rfl) | exact Or.inr (Or.inr rfl)) (ho : i ∈ own := by decide)
    (hd : (x == ("__debug__" : Str)) = false := by decide) (hcd : (x == ("__classdict__" : Str)) = false := by decide)
    (hgs : ∀ v, assign (.Subscript (.Name x p1) k p2) X.env v = (do
      let ov ← holding [v] (eval (.Name x p1) X.env)
      let iv ← holding [v, ov] (eval k X.env)
      standAt p2
      holding [v, ov, iv] (setItem ov iv v)
      release [v, ov, iv] []) := by intro _; rfl)
    (hs : swapsWithSole [.Subscript (.Name x p1) k p2] e pos.line X.env = pure false := by rfl) (hw : swappedStores [.Subscript (.Name x p1) k p2] e X.env = pure none := by rfl) (h1 : (assignEach [.Subscript (.Name x p1) k p2] X.env).map (·.2) = [assign (.Subscript (.Name x p1) k p2) X.env] := by rfl) :
    JS X own (.Assign [.Subscript (.Name x p1) k p2] e pos) (sdput i fk f) := ⟨fun {P F0 H0 σ F H δ W o D} _ r tk hg hP => by
  refine ws_of (ps_asg pe_we (pg_sub (pe_var hi hv hd hcd) pe_we (set_dict (by omega)) hgs) hs hw h1) ?_
  refine se_bind (w := WE X e) h r tk hg hP fun d v δ1 F1 H1 h1 e1 rx r1 P1 => ?_
  obtain ⟨ds0, h0, hg1⟩ := own_atD h1
  obtain ⟨p, ob0, hp, hH0, rv0, hF0⟩ := r1.cell ho h0 rfl
  refine ⟨_, hp, ?_⟩
  refine se_bind (w := WE X k) hk r1 tk hg1 P1 fun kd kv δ2 F2 H2 h2 e2 rk r2 P2 => ?_
  obtain ⟨ds, h3, h4⟩ := own_atD h2
  clear h2
  obtain ⟨p', ob, hp', hH, rv, hF⟩ := r2.cell ho h3 rfl
  rw [hp] at hp'; cases hp'
  obtain ⟨kvs, rfl, rr⟩ := rv.dic_inv
  cases hkk : keyOf kd with
  | none => rw [hkk] at h4; cases h4
  | some key =>
    rw [hkk] at h4
    dsimp only at h4
    split at h4
    · rename_i hl
      cases h4
      cases keyOf_rep rk hkk
      exact ⟨p, _, rfl, DPut.k hH (by rw [RepK.len rr]; exact hl), P2 _ F2 _ (r2.putC ho h3 rfl hp (.dic (rr.put (rx.mono e2)))) (Ex.refl _)⟩
    · cases h4⟩
end
/-! ### sorted(table) -/
def keysS : List (Key × D) → Option (List Str)
  | [] => some []
  | (.inr x, _) :: r => (keysS r).map (x :: ·)
  | _ => none
theorem keysS_rep {K : Frag} {F : Hp} : ∀ {kds : List (Key × D)} {kvs : List (Key × V)} {ks : List Str}, RepK K F kvs kds → keysS kds = some ks → kvs.map (·.1) = ks.map Sum.inr
  | _, _, _, .nil, h => by cases h; rfl
  | (.inr x, d) :: kds, _, _, .cons hd r, h => by
    simp only [keysS, Option.map_eq_some_iff] at h
    obtain ⟨ks, h1, rfl⟩ := h
    rw [List.map_cons, List.map_cons, keysS_rep r h1]
  | (.inl x, d) :: kds, _, _, .cons hd r, h => by cases h
def dSorted2 : D → Option D
  | .dic kvs => (keysS kvs).bind fun ks => if ks.length < 64 then some (.lst (isort leD (ks.map .str))) else none
  | d => dSorted d
theorem leD_str (a b : Str) : leD (.str a) (.str b) = !decide (b.cps.toList < a.cps.toList) := by
  show (!(PyProof.Rows.listOrd PyProof.Rows.itemOrd).blt (W.keyToks (PyData.str b)) (W.keyToks (PyData.str a))) = _
  simp only [W.keyToks]
  show (!PyProof.Rows.lexLt PyProof.Rows.itemOrd [.inr b.cps.toList] [.inr a.cps.toList]) = _
  congr 1
  by_cases h : b.cps.toList < a.cps.toList
  · rw [decide_eq_true h]
    exact PyProof.Rows.lex_true.mpr (.inl (decide_eq_true h))
  · rw [decide_eq_false h]
    refine PyProof.Rows.lex_false.mpr ⟨decide_eq_false h, ?_⟩
    exact .inr rfl
theorem leD_anti {a b : Str} (h1 : leD (.str a) (.str b) = true) (h2 : leD (.str b) (.str a) = true) : a = b := by
  rw [leD_str] at h1 h2
  simp at h1 h2
  have : a.cps.toList = b.cps.toList := List.le_antisymm h1 h2
  cases a; cases b
  simp only [Str.mk.injEq]
  exact Array.toList_inj.1 this
theorem sortedS_pw : ∀ {ys : List Str}, PyProof.Rows.sortedS ys = true → ys.Pairwise (fun a b => leD (.str a) (.str b) = true)
  | [], _ => .nil
  | [x], _ => by simp
  | x :: y :: r, h => by
    have h' : (!PySem.Spec.ltCps y.cps.toList x.cps.toList && PyProof.Rows.risingS y r) = true := h
    rw [Bool.and_eq_true] at h'
    have ih := sortedS_pw (ys := y :: r) h'.2
    have hxy : leD (.str x) (.str y) = true := by
      rw [leD_str, ← PyProof.Rows.ltCps_eq]; exact h'.1
    refine List.Pairwise.cons (fun z hz => ?_) ih
    rcases List.mem_cons.1 hz with rfl | hz
    · exact hxy
    · exact leD_total.trans _ _ _ hxy (List.rel_of_pairwise_cons ih hz)
theorem isort_permD : ∀ xs : List D, (isort leD xs).Perm xs
  | [] => .nil
  | x :: xs => by
    have ins : ∀ ys : List D, (insB leD x ys).Perm (x :: ys) := by
      intro ys
      induction ys with
      | nil => exact .refl _
      | cons y ys ih =>
        unfold insB
        split
        · exact .refl _
        · exact (List.Perm.cons y ih).trans (List.Perm.swap x y ys)
    exact (ins _).trans ((isort_permD xs).cons x)
theorem sorted_one {ys ks : List Str} (hp : ys.Perm ks) (hs : PyProof.Rows.sortedS ys = true) : ys.map D.str = isort leD (ks.map D.str) := by
  refine List.Perm.eq_of_pairwise (le := fun a b => leD a b = true) (fun a b ha hb h1 h2 => ?_) ?_ (isort_sorted leD_total _) ?_
  · obtain ⟨x, _, rfl⟩ := List.mem_map.1 ha
    obtain ⟨y, _, rfl⟩ := List.mem_map.1 ((isort_mem leD _ _).1 hb)
    rw [leD_anti h1 h2]
  · rw [List.pairwise_map]; exact sortedS_pw hs
  · exact (hp.map _).trans (isort_permD _).symm
abbrev rSorted2 (K : Frag) : List V → Hp → VK → Prop := fun xs H Q => rSortedX K xs H Q ∨ ∃ (a : Addr) (kvs : List (Key × V)) (ks : List Str), xs = [.ref a] ∧ Rd H a (.dK kvs) ∧ kvs.map (·.1) = ks.map Sum.inr ∧ ks.length < 64 ∧
    ∀ ys p, ys.Perm ks → PyProof.Rows.sortedS ys = true → H p = none → Q (.ref p) (upd H p (.lst (ys.map V.str)))
theorem b_sorted2 {X : Cx} (hc : X.calm = true) (hu : X.A.units + 70 < cLine) : CallR X (.builtin "sorted") (rSorted2 X.K) := (cr_sortedX hu).or (call_sortedD hc)
theorem reps_strs {K : Frag} {F : Hp} : ∀ xs : List Str, Reps K F (xs.map V.str) (xs.map D.str)
  | [] => .nil
  | x :: xs => .cons (.str x) (reps_strs xs)
theorem n_sorted2 {K : Frag} : CallN K (rSorted2 K) (one dSorted2) := fun {F H vs xs z} e r h Q q => by
  obtain ⟨x, rfl, h⟩ := one_some h
  have other : dSorted x = some z → rSorted2 K vs H Q := fun h => .inl (n_sorted e r (show one dSorted [x] = some z from h) Q q)
  cases x with
  | dic kds =>
    obtain ⟨w, rfl, rr⟩ := reps1 r
    cases rr with
    | dic h1 r1 =>
      replace h : ((keysS kds).bind fun ks => if ks.length < 64 then some (D.lst (isort leD (ks.map .str))) else none) = some z := h
      cases h2 : keysS kds with
      | none => rw [h2] at h; cases h
      | some ks =>
        rw [h2, Option.bind_some] at h
        split at h
        · rename_i hl
          cases h
          refine .inr ⟨_, _, ks, rfl, .of (e _ _ h1), keysS_rep r1 h2, hl, fun ys p hp hs hn => q p _ hn (.lst ?_)⟩
          rw [← sorted_one hp hs]
          exact reps_strs ys
        · cases h
  | _ => exact other h
theorem d_sorted2 {K : Frag} : CallD K (rSorted2 K) (one dSorted2) := callD_of n_sorted2
end PD
end
section
namespace PD
open PySem L2
/-! ### table comprehensions -/
def dcomp (vs : List Nat) (g : D → Env → Option Env) (t : Env → RE Bool) (ek ev : Env → RE D) : List D → List (Key × D) → Env → RE (List (Key × D))
  | [], acc, δ => some (.ok (acc, δ))
  | d :: ds, acc, δ => match g d δ with
    | none => none
    | some δ1 => match t δ1 with
      | some (.ok (true, δ2)) => (match ek δ2 with
        | some (.ok (k, δ3)) => (match ev δ3 with
          | some (.ok (y, δ4)) => (match keyOf k with
            | some key => if acc.length < sizeLine then dcomp vs g t ek ev ds (putD acc key y) (wipeD vs δ4) else none
            | none => none)
          | _ => none)
        | _ => none)
      | some (.ok (false, δ2)) => dcomp vs g t ek ev ds acc (wipeD vs δ2)
      | _ => none
section
variable {X : Cx} {own : List Nat} {kx vx tg iter : Expr} {ifs : List Expr} {scope : Scope} {ow : List (Str × Nat)} {pos : Pos} {f : Env → RE (List D)} {g : D → Env → Option Env} {is : List Nat} {t : Env → RE Bool} {ek ev : Env → RE D}
theorem dc_read {σ : L2.St} {P : Pm} {F0 H0 F H : Hp} {δ : Env} {W : WX} {o : Except (XD × Env) (List (Key × D) × Env)} {Q : VK} (hi : JI X own tg iter f)
    (hg : ∀ (s : Shared) (Hb : Hp) (C : Addr) (cl : List (Str × Addr)) (fp : List Addr), JG (X.blk s Hb scope (compEnvC scope cl C X.env) fp) own tg is g)
    (ht : ∀ (s : Shared) (Hb : Hp) (C : Addr) (cl : List (Str × Addr)) (fp : List Addr), JTs (X.blk s Hb scope (compEnvC scope cl C X.env) fp) own ifs t)
    (hk : ∀ (s : Shared) (Hb : Hp) (C : Addr) (cl : List (Str × Addr)) (fp : List Addr), JE (X.blk s Hb scope (compEnvC scope cl C X.env) fp) own kx ek)
    (he : ∀ (s : Shared) (Hb : Hp) (C : Addr) (cl : List (Str × Addr)) (fp : List Addr), JE (X.blk s Hb scope (compEnvC scope cl C X.env) fp) own vx ev)
    (hvs : (ow.map (·.2)).all (fun i => !own.contains i) = true) (his : is.all (fun i => (ow.map (·.2)).contains i) = true)
    (r : RSf X ⟨own, P, F0, H0⟩ F σ H δ) (tk : Takes X W) (hh : bindE (f δ) (fun ds δ' => dcomp (ow.map (·.2)) g t ek ev ds [] (wipeD (ow.map (·.2)) δ')) = some o)
    (hx : ∀ x δ', o = .error (x, δ') → ∀ cls dd F' H', RSf X ⟨own, P, F0, H0⟩ F' σ H' δ' → Ex F F' → RepX X.K F' cls dd x → W cls dd σ H')
    (hP : ∀ ds δ', o = .ok (ds, δ') → ∀ Dd vs F' H', LS X.K own P F0 H0 Dd (.dK vs) F' σ H' δ' → Ex F F' → RepK X.K F' vs ds → Q (.ref Dd) H') :
    tDc (WI X tg iter) (bG X scope tg) (bT X scope ifs) (bE X scope kx) (bE X scope vx) (ow.map (·.2)) σ H Q := by
  have hv : ∀ i, i ∈ ow.map (·.2) → i ∉ own := fun i hi hc => by
    have := List.all_eq_true.1 hvs i hi
    simp at this
    exact this hc
  have hi' : ∀ i, i ∈ is → i ∈ ow.map (·.2) := fun i h => by
    have := List.all_eq_true.1 his i h
    simpa using this
  cases e0 : f δ with
  | none => rw [e0] at hh; cases hh
  | some y =>
    rw [e0] at hh
    rcases y with ⟨x, δ1⟩ | ⟨ds, δ1⟩
    · cases hh; exact hi.run r tk e0 (hx x δ1 rfl)
    · simp only [bindE] at hh
      refine hi.run r tk e0 fun J F1 H1 r1 e1 src => fun Dd hD => ?_
      refine ⟨fun i m Hc => ∃ F' δ' acc vs, LS X.K own P F0 H0 Dd (.dK vs) F' (wipe σ (ow.map (·.2))) Hc δ' ∧ Ex F1 F' ∧ RepK X.K F' vs acc ∧ i + m = ds.length ∧ dcomp (ow.map (·.2)) g t ek ev (ds.drop i) acc δ' = some o, ⟨ds.length, F1, _, [], [], .start (r1.wipe hv) hD, Ex.refl _, .nil, Nat.zero_add _, hh⟩, ?_⟩
      rintro i m H2 ⟨F2, δ2, acc, vs, l2, e2, ra, hm, h2⟩
      cases hd : ds[i]? with
      | none =>
        have hl : ds.length ≤ i := List.getElem?_eq_none_iff.1 hd
        rw [List.drop_of_length_le hl] at h2
        cases h2
        obtain ⟨⟨P', Fb, Hb, rr, cc, ee, nn, nf⟩, nh⟩ := l2
        exact .inl ⟨src.stop e2 rr.fh hl, hP acc δ2 rfl Dd vs F2 H2 ⟨⟨P', Fb, Hb, rr.unwipe, cc, ee, nn, nf⟩, nh⟩ (e1.trans e2) ra⟩
      | some d =>
        have hl : i < ds.length := (List.getElem?_eq_some_iff.1 hd).1
        have hd' : ds[i] = d := (List.getElem?_eq_some_iff.1 hd).2
        rw [List.drop_eq_getElem_cons hl, hd'] at h2
        obtain ⟨⟨P', Fb, Hb, rr, cc, ee, nn, nf⟩, nh⟩ := l2
        obtain ⟨g1, g2⟩ := src.go e2 rr.fh hd
        refine .inr ⟨g1, fun Hc => ∃ F' δ' acc vs, LS X.K own P F0 H0 Dd (.dK vs) F' (wipe σ (ow.map (·.2))) Hc δ' ∧ Ex F1 F' ∧ RepK X.K F' vs acc ∧ (i + 1) + (m - 1) = ds.length ∧ dcomp (ow.map (·.2)) g t ek ev (ds.drop (i + 1)) acc δ' = some o, fun H' h => ⟨m - 1, by omega, h⟩, fun x H' hy => ?_⟩
        obtain ⟨F3, g3, rx⟩ := g2 x H' hy
        simp only [dcomp] at h2
        cases e4 : g d δ2 with
        | none => rw [e4] at h2; cases h2
        | some δ4 =>
          rw [e4] at h2
          simp only [] at h2
          intro s0 Hb0 C0 cl0 fp0
          have ww : wipe (wipe σ (ow.map (·.2))) (ow.map (·.2)) = wipe σ (ow.map (·.2)) := wipe_wipe fun _ h => h
          refine (hg s0 Hb0 C0 cl0 fp0).run (P := P') (F0 := Fb) (H0 := Hb) (rr.grow g3) rx e4 fun σ4 F4 H4 r4 x4 w4 => ⟨(w4 _ hi').trans ww, fun s1 Hb1 C1 cl1 fp1 => ?_⟩
          have hw := (w4 _ hi').trans ww
          cases e5 : t δ4 with
          | none => rw [e5] at h2; cases h2
          | some z =>
            rw [e5] at h2
            rcases z with ⟨x5, δ5⟩ | ⟨b5, δ5⟩
            · cases h2
            · refine (ht s1 Hb1 C1 cl1 fp1).run (W := fun _ _ _ _ => False) (P := P') (F0 := Fb) (H0 := Hb) r4 (takes_false fun _ _ _ _ h => h) e5 fun v5 F5 H5 r5 x5 rb => ?_
              cases rb
              have ex5 : Ex F2 F5 := (g3.ff.trans x4).trans x5
              cases b5 with
              | false =>
                rw [if_neg Bool.false_ne_true]
                dsimp only at h2
                refine ⟨F5, _, acc, vs, ⟨⟨P', Fb, Hb, ?_, cc, ee, nn, nf⟩, nh⟩, e2.trans ex5, ra.mono ex5, by omega, h2⟩
                have := r5.wipe hv
                rw [hw] at this
                exact this
              | true =>
                rw [if_pos rfl]
                dsimp only at h2
                intro s2 Hb2 C2 cl2 fp2
                cases e6 : ek δ5 with
                | none => rw [e6] at h2; cases h2
                | some z =>
                  rw [e6] at h2
                  rcases z with ⟨x6, δ6⟩ | ⟨k6, δ6⟩
                  · cases h2
                  · dsimp only at h2
                    refine (hk s2 Hb2 C2 cl2 fp2).run (W := fun _ _ _ _ => False) (P := P') (F0 := Fb) (H0 := Hb) r5 (takes_false fun _ _ _ _ h => h) e6 fun v6 F6 H6 r6 x6 rk => ?_
                    intro s3 Hb3 C3 cl3 fp3
                    cases e7 : ev δ6 with
                    | none => rw [e7] at h2; cases h2
                    | some z =>
                      rw [e7] at h2
                      rcases z with ⟨x7, δ7⟩ | ⟨y7, δ7⟩
                      · cases h2
                      · dsimp only at h2
                        refine (he s3 Hb3 C3 cl3 fp3).run (W := fun _ _ _ _ => False) (P := P') (F0 := Fb) (H0 := Hb) r6 (takes_false fun _ _ _ _ h => h) e7 fun v7 F7 H7 r7 x7 ry => ?_
                        cases hkk : keyOf k6 with
                        | none => rw [hkk] at h2; cases h2
                        | some key =>
                          rw [hkk] at h2
                          dsimp only at h2
                          split at h2
                          · rename_i hsz
                            cases keyOf_rep rk hkk
                            have ex7 : Ex F2 F7 := (ex5.trans x6).trans x7
                            have r8 := r7.wipe hv
                            rw [hw] at r8
                            have l8 : LS X.K own P F0 H0 Dd (.dK vs) F7 (wipe σ (ow.map (·.2))) H7 (wipeD (ow.map (·.2)) δ7) := ⟨⟨P', Fb, Hb, r8, cc, ee, nn, nf⟩, nh⟩
                            refine ⟨vs, key, rfl, l8.at, by rw [RepK.len ra]; exact hsz, F7, _, putD acc key y7, putK vs key v7, l8.app, e2.trans ex7, (ra.mono ex7).put ry, by omega, h2⟩
                          · cases h2
def edcomp (vs : List Nat) (f : Env → RE (List D)) (g : D → Env → Option Env) (t : Env → RE Bool) (ek ev : Env → RE D) : Env → RE D := fun δ => bindE (f δ) fun ds δ' => bindE (dcomp vs g t ek ev ds [] (wipeD vs δ')) fun ys δ2 => some (.ok (.dic ys, δ2))
theorem jn_dc (hc : X.calm = true) (hN : X.N.Nodup) (hi : JI X own tg iter f) (ok : BlkOk X.N X.env.scope scope ow)
    (hg : ∀ (s : Shared) (Hb : Hp) (C : Addr) (cl : List (Str × Addr)) (fp : List Addr), JG (X.blk s Hb scope (compEnvC scope cl C X.env) fp) own tg is g)
    (ht : ∀ (s : Shared) (Hb : Hp) (C : Addr) (cl : List (Str × Addr)) (fp : List Addr), JTs (X.blk s Hb scope (compEnvC scope cl C X.env) fp) own ifs t)
    (hk : ∀ (s : Shared) (Hb : Hp) (C : Addr) (cl : List (Str × Addr)) (fp : List Addr), JE (X.blk s Hb scope (compEnvC scope cl C X.env) fp) own kx ek)
    (he : ∀ (s : Shared) (Hb : Hp) (C : Addr) (cl : List (Str × Addr)) (fp : List Addr), JE (X.blk s Hb scope (compEnvC scope cl C X.env) fp) own vx ev)
    (hvs : (ow.map (·.2)).all (fun i => !own.contains i) = true := by decide) (his : is.all (fun i => (ow.map (·.2)).contains i) = true := by decide) (hs : ∀ x, foldedSetIterable iter X.env x = pure x := by intro _; rfl) :
    JN X own (.DictComp kx vx [⟨tg, iter, ifs, 0⟩] scope pos) (edcomp (ow.map (·.2)) f g t ek ev) := ⟨fun {P F0 H0 σ F H δ W Q o} r tk hh hP => by
  refine we_of (pe_dc (g := bG X scope tg) (tt := bT X scope ifs) (tk := bE X scope kx) (tv := bE X scope vx) hc hN pi_wi ok (fun s Hb C cl fp => ⟨fun pins s' σ' H' v u Q' I rv h => (h s Hb C cl fp) pins s' u I rv⟩) (fun s Hb C cl fp => ⟨fun pins s' σ' H' Q' I h => (h s Hb C cl fp) pins s' I⟩) (fun s Hb C cl fp => ⟨fun pins s' σ' H' Q' I h => (h s Hb C cl fp) pins s' I⟩) (fun s Hb C cl fp => ⟨fun pins s' σ' H' Q' I h => (h s Hb C cl fp) pins s' I⟩) hs) ?_
  unfold edcomp at hh
  rw [← bindE_assoc] at hh
  cases e0 : bindE (f δ) (fun ds δ' => dcomp (ow.map (·.2)) g t ek ev ds [] (wipeD (ow.map (·.2)) δ')) with
  | none => rw [e0] at hh; cases hh
  | some o1 =>
    rw [e0] at hh
    refine dc_read (ow := ow) hi hg ht hk he hvs his r tk e0 (fun x δ' q => ?_) (fun ds δ' q Dd vs F' H' l x rv => ?_)
    · subst q; cases hh; exact hP
    · subst q; cases hh
      exact hP _ _ _ _ l x (.dic rv)⟩
end
/-! ### all own things held fast, a new container of flat things made -/
def flat1 : D → Bool
  | .lst xs => flats xs
  | .dic kvs => flats (kvs.map (·.2))
  | _ => false
def lfoN (g : Env → RE D) : Env → RE D := fun δ => match g δ with
  | some (.ok (d, _)) => if flat1 d = true then some (.ok (d, δ)) else none
  | _ => none
theorem jn_o {X : Cx} {own : List Nat} {e : Expr} {g : Env → RE D} (h : JN X [] e g) : JN X own e (lfoN g) := ⟨fun {P F0 H0 σ F H δ W Q o} r tk hg hP => by
  unfold lfoN at hg
  cases e0 : g δ with
  | none => rw [e0] at hg; cases hg
  | some y => rcases y with x | ⟨d, δ1⟩
              · rw [e0] at hg; cases hg
              · rw [e0] at hg
                dsimp only at hg
                split at hg
                · rename_i hf
                  cases hg
                  obtain ⟨A, hA, F1, ef, rp, hn, hs⟩ := r.frz
                  refine h.run (P := Pm.no) (F0 := F1) (H0 := H) rp.rs tk e0 fun Dd ob F2 H2 l e2 ro => ?_
                  have g2 : Grow F1 H F2 H2 := l.rs.gr
                  have g3 := less_grow hA ef (fun a ha => (hn a ha).2) hs g2
                  have nDA : ¬ A Dd := fun q => (hA Dd q).2 l.h0
                  have gn : GrowN Dd F H (less F2 A) H2 := ⟨g3, l.h0, by
                    unfold less
                    rw [if_neg nDA]
                    exact l.nF⟩
                  refine hP Dd ob _ H2 (r.growN gn l.at) g3.ff ?_
                  have nt : ∀ a, A a → notTup (F2 a) = true := fun a ha => by
                    have h1 := (hn a ha).2
                    have h2 := (hn a ha).1
                    cases e1 : F1 a with
                    | none => exact absurd e1 h1
                    | some o => rw [e1] at h2; rw [g2.ff a o e1]; exact h2
                  cases ro with
                  | lst rr => exact .lst (unfzs nt rr hf)
                  | dic rr => exact .dic (unfzK nt rr hf)
                · cases hg⟩
end PD
end
section
namespace PD
open PySem L2
/-! ### objects of one's own -/
section
variable {K : Frag} {own : List Nat} {P : Pm} {F0 H0 F : Hp} {σ : L2.St} {H : Hp} {δ : Env}
theorem OwnV.frz {F' : Hp} {w : V} {d : D} {fp : List Addr} (o : OwnV K F H w d fp) (hin : ∀ a ∈ fp, F' a = H a) (ef : Ex F F') : Rep K F' w d := by
  cases o with
  | lst h rr => exact .lst (by rw [hin _ (by simp)]; exact h) (rr.mono ef)
  | dic h rr => exact .dic (by rw [hin _ (by simp)]; exact h) (rr.mono ef)
  | obj h =>
    refine .obj (by rw [hin _ h.inp]; exact h.ob) (by rw [hin _ h.inx]; exact h.dxo) (repO_of fun j e hj => ?_)
    obtain ⟨w, hw, rw'⟩ := h.fld j e hj
    refine ⟨w, hw, ?_⟩
    split at rw'
    · obtain ⟨oc, hk, _⟩ := rw'
      cases oc with
      | lst h2 r2 => exact .lst (by rw [hin _ hk]; exact h2) (r2.mono ef)
      | dic h2 r2 => exact .dic (by rw [hin _ hk]; exact h2) (r2.mono ef)
    · exact rw'.mono ef
theorem OwnV.there {w : V} {d : D} {fp : List Addr} (o : OwnV K F H w d fp) : ∀ a ∈ fp, H a ≠ none := by
  cases o with
  | lst h rr => intro a ha; cases List.mem_singleton.1 ha; rw [h]; simp
  | dic h rr => intro a ha; cases List.mem_singleton.1 ha; rw [h]; simp
  | obj h =>
    intro a ha
    rcases h.all a ha with rfl | rfl | ⟨j, e, hj, he, rfl⟩
    · rw [h.ob]; simp
    · rw [h.dxo]; simp
    · obtain ⟨w, hw, rw'⟩ := h.fld j e he
      rw [if_pos hj] at rw'
      obtain ⟨oc, hk, _⟩ := rw'
      cases oc with
      | lst h2 r2 => rw [h2]; simp
      | dic h2 r2 => rw [h2]; simp
theorem OwnV.ref {w : V} {d : D} {fp : List Addr} (o : OwnV K F H w d fp) : ∃ p, w = .ref p ∧ p ∈ fp := by
  cases o with
  | lst h rr => exact ⟨_, rfl, by simp⟩
  | dic h rr => exact ⟨_, rfl, by simp⟩
  | obj h => exact ⟨_, rfl, h.inp⟩
def putF (i : Nat) (d : D) (fs : List (Option D)) : List (Option D) := (fs ++ List.replicate (i + 1 - fs.length) none).set i (some d)
theorem putF_get (i : Nat) (d : D) (fs : List (Option D)) : (putF i d fs)[i]? = some (some d) := by
  unfold putF
  exact List.getElem?_set_self (by simp only [List.length_append, List.length_replicate]; omega)
theorem putF_ne {i j : Nat} {d x : D} {fs : List (Option D)} (h : j ≠ i) : (putF i d fs)[j]? = some (some x) ↔ fs[j]? = some (some x) := by
  unfold putF
  rw [List.getElem?_set_ne (Ne.symm h)]
  by_cases hj : j < fs.length
  · rw [List.getElem?_append_left hj]
  · have e1 : fs[j]? = Option.none := List.getElem?_eq_none_iff.mpr (by omega)
    rw [e1, List.getElem?_append_right (by omega), List.getElem?_replicate]
    constructor
    · intro q
      split at q <;> cases q
    · intro q; cases q
theorem putF_at {i j : Nat} {d x : D} {fs : List (Option D)} (h : (putF i d fs)[j]? = some (some x)) : (j = i ∧ x = d) ∨ (j ≠ i ∧ fs[j]? = some (some x)) := by
  by_cases q : j = i
  · subst q
    rw [putF_get] at h; cases h
    exact .inl ⟨rfl, rfl⟩
  · exact .inr ⟨q, (putF_ne q).1 h⟩
/-- a field stored: something held fast -/
theorem OwnB.put {p dx : Addr} {c : Str} {vs : List (Option V)} {ds : List (Option D)} {kp : Nat → Addr} {fp : List Addr} {j : Nat} {v : V} {d : D} (b : OwnB K F H p dx c vs ds kp fp) (hj : ownF c j = false) (rv : Rep K F v d) :
    OwnB K F (SlX.slH H p (He.ga K c) dx (SlX.putS j v vs)) p dx c (SlX.putS j v vs) (putF j d ds) kp fp where
  ob := by unfold SlX.slH; rw [upd_same]
  dxo := by unfold SlX.slH; rw [upd_ne b.ne, upd_same]
  ne := b.ne
  fld := fun i e hi => by
    rcases putF_at hi with ⟨rfl, rfl⟩ | ⟨hne, hi⟩
    · exact ⟨v, SlX.putS_get _ _ _, by rw [if_neg (by rw [hj]; simp)]; exact rv⟩
    · obtain ⟨w, hw, rw'⟩ := b.fld i e hi
      refine ⟨w, (SlX.putS_ne hne).2 hw, ?_⟩
      split
      · rename_i q
        rw [if_pos q] at rw'
        obtain ⟨oc, h1, h2, h3⟩ := rw'
        exact ⟨oc.keep (Ex.refl _) fun o e => by rw [SlX.slH_ne h2 h3]; exact e, h1, h2, h3⟩
      · rename_i q
        rw [if_neg q] at rw'
        exact rw'
  dis := fun i i2 e e2 hne o1 o2 h1 h2 => by
    rcases putF_at h1 with ⟨rfl, rfl⟩ | ⟨n1, h1⟩
    · rw [hj] at o1; cases o1
    · rcases putF_at h2 with ⟨rfl, rfl⟩ | ⟨n2, h2⟩
      · rw [hj] at o2; cases o2
      · exact b.dis i i2 e e2 hne o1 o2 h1 h2
  inp := b.inp
  inx := b.inx
  all := fun a ha => (b.all a ha).imp id fun h => h.imp id fun ⟨i, e, h1, h2, h3⟩ => ⟨i, e, h1, by rw [putF_ne (fun q => by rw [q, hj] at h1; cases h1)]; exact h2, h3⟩
open Classical in
/-- .. a container of its own, new -/
theorem OwnB.putN {p dx Dd : Addr} {c : Str} {vs : List (Option V)} {ds : List (Option D)} {kp : Nat → Addr} {fp : List Addr} {j : Nat} {d : D} {ob : HO} (b : OwnB K F H p dx c vs ds kp fp) (hj : ownF c j = true) (hd : H Dd = some ob) (nD : Dd ∉ fp) (rv : OwnO K F ob d) :
    OwnB K F (SlX.slH H p (He.ga K c) dx (SlX.putS j (.ref Dd) vs)) p dx c (SlX.putS j (.ref Dd) vs) (putF j d ds) (fun i => if i = j then Dd else kp i) (p :: dx :: Dd :: fp.filter fun a => decide (∃ i e, i ≠ j ∧ ownF c i = true ∧ ds[i]? = some (some e) ∧ a = kp i)) := by
  have np : Dd ≠ p := fun q => nD (q ▸ b.inp)
  have nx : Dd ≠ dx := fun q => nD (q ▸ b.inx)
  have hd' : SlX.slH H p (He.ga K c) dx (SlX.putS j (.ref Dd) vs) Dd = some ob := by rw [SlX.slH_ne np nx]; exact hd
  refine { ob := by unfold SlX.slH; rw [upd_same], dxo := by unfold SlX.slH; rw [upd_ne b.ne, upd_same], ne := b.ne, fld := fun i e hi => ?_, dis := fun i i2 e e2 hne o1 o2 h1 h2 => ?_, inp := by simp, inx := by simp, all := fun a ha => ?_ }
  · rcases putF_at hi with ⟨rfl, rfl⟩ | ⟨hne, hi⟩
    · refine ⟨.ref Dd, SlX.putS_get _ _ _, ?_⟩
      rw [if_pos hj]
      rw [if_pos rfl]
      refine ⟨?_, by simp, np, nx⟩
      cases rv with
      | lst r => exact .lst hd' r
      | dic r => exact .dic hd' r
    · obtain ⟨w, hw, rw'⟩ := b.fld i e hi
      refine ⟨w, (SlX.putS_ne hne).2 hw, ?_⟩
      split
      · rename_i q
        rw [if_pos q] at rw'
        obtain ⟨oc, h1, h2, h3⟩ := rw'
        refine ⟨oc.keep (Ex.refl _) fun o e => by rw [SlX.slH_ne h2 h3]; exact e, ?_, h2, h3⟩
        refine List.mem_cons_of_mem _ (List.mem_cons_of_mem _ (List.mem_cons_of_mem _ (List.mem_filter.2 ⟨h1, decide_eq_true ⟨i, e, hne, q, hi, rfl⟩⟩)))
      · rename_i q
        rw [if_neg q] at rw'
        exact rw'
  · have ne2 : ∀ i e, ownF c i = true → ds[i]? = some (some e) → kp i ≠ Dd := fun i e o h q => by
      obtain ⟨w, hw, rw'⟩ := b.fld i e h
      rw [if_pos o] at rw'
      exact nD (q ▸ rw'.2.1)
    rcases putF_at h1 with ⟨q1, _⟩ | ⟨n1, g1⟩
    · rcases putF_at h2 with ⟨q2, _⟩ | ⟨n2, g2⟩
      · exact absurd (q1.trans q2.symm) hne
      · rw [if_pos q1, if_neg n2]; exact fun q => ne2 i2 e2 o2 g2 q.symm
    · rcases putF_at h2 with ⟨q2, _⟩ | ⟨n2, g2⟩
      · rw [if_pos q2, if_neg n1]; exact ne2 i e o1 g1
      · rw [if_neg n1, if_neg n2]; exact b.dis i i2 e e2 hne o1 o2 g1 g2
  · rcases List.mem_cons.1 ha with rfl | ha
    · exact .inl rfl
    · rcases List.mem_cons.1 ha with rfl | ha
      · exact .inr (.inl rfl)
      · rcases List.mem_cons.1 ha with rfl | ha
        · exact .inr (.inr ⟨j, d, hj, putF_get _ _ _, by simp⟩)
        · obtain ⟨h1, h2⟩ := List.mem_filter.1 ha
          obtain ⟨i, e, hne, ho, he, rfl⟩ := of_decide_eq_true h2
          exact .inr (.inr ⟨i, e, ho, (putF_ne hne).2 he, by rw [if_neg hne]⟩)
/-- .. a container of its own, changed -/
theorem OwnB.chg {p dx : Addr} {c : Str} {vs : List (Option V)} {ds : List (Option D)} {kp : Nat → Addr} {fp : List Addr} {j : Nat} {d d0 : D} {ob : HO} (b : OwnB K F H p dx c vs ds kp fp) (hj : ownF c j = true) (h0 : ds[j]? = some (some d0)) (rv : OwnO K F ob d) :
    OwnB K F (upd H (kp j) ob) p dx c vs (putF j d ds) kp fp := by
  obtain ⟨w0, hw0, rw0⟩ := b.fld j d0 h0
  rw [if_pos hj] at rw0
  obtain ⟨oc0, k1, k2, k3⟩ := rw0
  refine { ob := by rw [upd_ne (Ne.symm k2)]; exact b.ob, dxo := by rw [upd_ne (Ne.symm k3)]; exact b.dxo, ne := b.ne, fld := fun i e hi => ?_, dis := fun i i2 e e2 hne o1 o2 h1 h2 => ?_, inp := b.inp, inx := b.inx, all := fun a ha => ?_ }
  · rcases putF_at hi with ⟨rfl, rfl⟩ | ⟨hne, hi⟩
    · refine ⟨w0, hw0, ?_⟩
      rw [if_pos hj]
      refine ⟨?_, k1, k2, k3⟩
      have : w0 = .ref (kp i) := by cases oc0 <;> rfl
      subst this
      cases rv with
      | lst r => exact .lst upd_same r
      | dic r => exact .dic upd_same r
    · obtain ⟨w, hw, rw'⟩ := b.fld i e hi
      refine ⟨w, hw, ?_⟩
      split
      · rename_i q
        rw [if_pos q] at rw'
        obtain ⟨oc, h1, h2, h3⟩ := rw'
        exact ⟨oc.keep (Ex.refl _) fun o e' => by rw [upd_ne (b.dis i j e d0 hne q hj hi h0)]; exact e', h1, h2, h3⟩
      · rename_i q
        rw [if_neg q] at rw'
        exact rw'
  · have f1 : ∀ {i e}, (putF j d ds)[i]? = some (some e) → ∃ e', ds[i]? = some (some e') := fun {i e} h => by
      rcases putF_at h with ⟨rfl, rfl⟩ | ⟨n1, h1⟩
      · exact ⟨d0, h0⟩
      · exact ⟨e, h1⟩
    obtain ⟨e', h1'⟩ := f1 h1
    obtain ⟨e2', h2'⟩ := f1 h2
    exact b.dis i i2 e' e2' hne o1 o2 h1' h2'
  · refine (b.all a ha).imp id fun h => h.imp id fun ⟨i, e, h1, h2, h3⟩ => ?_
    by_cases q : i = j
    · subst q; exact ⟨i, d, h1, putF_get _ _ _, h3⟩
    · exact ⟨i, e, h1, (putF_ne q).2 h2, h3⟩
theorem growO_sl {fp : List Addr} {p dx C : Addr} {vs : List (Option V)} (e : Ex F H) (hp : p ∈ fp) (hx : dx ∈ fp) (hF : F p = none) (hF2 : F dx = none) : GrowO fp F H F (SlX.slH H p C dx vs) where
  ff := Ex.refl _
  fh := fun a o h => by
    have h1 : a ≠ p := fun x => by rw [x, hF] at h; cases h
    have h2 : a ≠ dx := fun x => by rw [x, hF2] at h; cases h
    rw [SlX.slH_ne h1 h2]; exact e a o h
  hh := fun a o h q => by rw [SlX.slH_ne (fun x => h (by rw [x]; exact hp)) (fun x => h (by rw [x]; exact hx))]; exact q
  dm := fun a h => by
    unfold SlX.slH
    by_cases x : a = p
    · rw [x, upd_same]; simp
    · rw [upd_ne x]
      by_cases y : a = dx
      · rw [y, upd_same]; simp
      · rw [upd_ne y]; exact h
  nw := fun _ h => .inl h
end
/-! ### methods that change their object -/
def spO (K : Frag) (m : D → List D → Option (D × D)) : Sp := fun vs H Q _ => ∃ F p ws B ds d B' fp, vs = .ref p :: ws ∧ Ex F H ∧ OwnV K F H (.ref p) B fp ∧ (∀ a ∈ fp, F a = none) ∧ Reps K F ws ds ∧ m B ds = some (d, B') ∧
  ∀ v F' H' fp', GrowO fp F H F' H' → OwnV K F' H' (.ref p) B' fp' → (∀ a ∈ fp', F' a = none ∧ H' a ≠ none ∧ (a ∈ fp ∨ H a = none)) → Rep K F' v d → Q v H'
def oOf (d : D) (δ : Env) : Option (D × D) := match δ[(0 : Nat)]? with
  | some (some B') => some (d, B')
  | _ => none
def denO (n N : Nat) (body : Env → RO) (B : D) (ds : List D) : Option (D × D) := if ds.length + 1 = n then (match body (some B :: (ds.map some ++ List.replicate (N - n) none)) with
  | some (.ok (.rt d, δ)) => oOf d δ
  | some (.ok (.nx, δ)) => oOf .non δ
  | _ => none) else none
theorem oOf_some {d d' : D} {δ : Env} {B : D} (h : oOf d δ = some (d', B)) : d = d' ∧ δ[0]? = some (some B) := by
  unfold oOf at h
  split at h
  · cases h; exact ⟨rfl, by assumption⟩
  · cases h
section
variable {P : Program} {w : World} {K : Frag} {mg : Str → Option Value} {base : Heap}
theorem bdO_okB {qual : Str} {body : List Stmt} {scope : Scope} {f : Addr} {N ps : List Str} {own : List Nat} {g : Env → RO} (hon : own.all (fun i => decide (i = 0 ∨ ps.length ≤ i)) = true) (h0 : own.contains 0 = true)
    (hps : decide (ps.length ≤ N.length) = true)
    {cdv : Value} {A : Around} {outer : List PySem.Env} {s : Shared} {HX H : Hp} {E : XK} {F' : Hp} {p : Addr} {ws : List V} {B : D} {ds : List D} {d B' : D} {fp : List Addr} {Q : VK}
    (hb : JB (cxOf (L2.CX P w) P w K mg base N qual scope f cdv A outer s HX E) own body g) (e : Ex F' H) (oB : OwnV K F' H (.ref p) B fp) (hF : ∀ a ∈ fp, F' a = none) (rd : Reps K F' ws ds) (h1 : denO ps.length N.length g B ds = some (d, B'))
    (hP : ∀ v F1 H1 fp', GrowO fp F' H F1 H1 → OwnV K F1 H1 (.ref p) B' fp' → (∀ a ∈ fp', F1 a = none ∧ H1 a ≠ none ∧ (a ∈ fp ∨ H a = none)) → Rep K F1 v d → Q v H1) :
    WSs (cxOf (L2.CX P w) P w K mg base N qual scope f cdv A outer s HX E) body { nx := fun _ H' => Q .non H', rt := Q } (L2.start N (.ref p :: ws)) H := by
  unfold denO at h1
  by_cases hl : ds.length + 1 = ps.length
  · rw [if_pos hl] at h1
    have hl' : ps.length ≤ N.length := of_decide_eq_true hps
    have hlv : ws.length = ds.length := Rep.len rd
    have h0' : 0 ∈ own := by simpa using h0
    have tk : Takes (cxOf (L2.CX P w) P w K mg base N qual scope f cdv A outer s HX E) (fun cls d _ H => E cls d H) := takes_of rfl rfl rfl rfl
    have R0 : RSf (cxOf (L2.CX P w) P w K mg base N qual scope f cdv A outer s HX E) ⟨own, ⟨fun a => a ∈ fp, fun a => a ∈ fp, fun a => a = p⟩, F', H⟩ F' (L2.start N (.ref p :: ws)) H (some B :: (ds.map some ++ List.replicate (N.length - ps.length) none)) := {
      ff := Ex.refl _
      fh := e
      hh := fun _ _ _ h => h
      dm := fun _ h => h
      nw := fun _ h => .inl h
      ln := by unfold L2.start; simp [hlv]; omega
      par := fun a h => ⟨h0', by rw [show a = p from h]; rfl⟩
      bxh := fun a h => oB.there a h
      val := fun i d hi h => by
        cases i with
        | zero => exact absurd h0' hi
        | succ i =>
          unfold L2.start
          rw [List.getElem?_cons_succ] at h
          rw [List.map_cons, List.cons_append, List.getElem?_cons_succ]
          exact Reps.some_get rd h
      own := ⟨fun i => if i = 0 then fp else [], And.intro (fun (i : Nat) (d : D) hi (h : (some B :: (List.map some ds ++ List.replicate (N.length - ps.length) (none : Option D)))[i]? = some (some d)) => by
        cases i with
        | zero => cases h; exact ⟨.ref p, rfl, oB⟩
        | succ i =>
          have := of_decide_eq_true (List.all_eq_true.1 hon _ hi)
          rw [List.getElem?_cons_succ, List.getElem?_append_right (by rw [List.length_map]; omega), List.getElem?_replicate] at h
          split at h <;> cases h) (And.intro (fun i a h => by
            dsimp only at h
            by_cases q : i = 0
            · rw [if_pos q] at h; exact ⟨hF a h, oB.there a h, .inr ⟨h, fun _ => q⟩⟩
            · rw [if_neg q] at h; cases h) (fun i j a hij h h2 => by
            dsimp only at h h2
            by_cases q : i = 0
            · rw [if_neg (fun z => hij (q.trans z.symm))] at h2; cases h2
            · rw [if_neg q] at h; cases h))⟩ }
    have fin : ∀ (own' : List Nat) (h0' : 0 ∈ own') (v : V) (σ' : L2.St) (F1 H1 : Hp) (δ' : Env), RSf (cxOf (L2.CX P w) P w K mg base N qual scope f cdv A outer s HX E) ⟨own', ⟨fun a => a ∈ fp, fun a => a ∈ fp, fun a => a = p⟩, F', H⟩ F1 σ' H1 δ' → δ'[0]? = some (some B') → Rep K F1 v d → Q v H1 := fun own' h0' v σ' F1 H1 δ' r1 hB rv => by
      obtain ⟨fp1, k1, k2, k3⟩ := r1.own
      obtain ⟨v0, hv0, o0⟩ := k1 0 B' h0' hB
      have := (r1.par p rfl).2
      rw [this] at hv0; cases hv0
      exact hP v F1 H1 (fp1 0) ⟨r1.ff, r1.fh, fun a o hne h => r1.hh a o hne h, r1.dm, r1.nw⟩ o0 (fun a ha => ⟨(k2 0 a ha).1, (k2 0 a ha).2.1, (k2 0 a ha).2.2.elim .inr fun q => .inl q.1⟩) rv
    cases e2 : g (some B :: (ds.map some ++ List.replicate (N.length - ps.length) none)) with
    | none => rw [e2] at h1; cases h1
    | some y =>
      rw [e2] at h1
      refine hb.run R0 tk e2 fun own' hown => ?_
      have hz : 0 ∈ own' := hown p rfl
      rcases y with ⟨x, δ'⟩ | ⟨o1, δ'⟩
      · cases h1
      · cases o1 with
        | rt d1 => obtain ⟨rfl, hB⟩ := oOf_some h1; exact fun v σ' F1 H1 r1 e1 rx => fin own' hz v σ' F1 H1 δ' r1 hB rx
        | nx => obtain ⟨rfl, hB⟩ := oOf_some h1; exact fun σ' F1 H1 r1 e1 => fin own' hz .non σ' F1 H1 δ' r1 hB .non
        | bk => cases h1
        | ct => cases h1
  · rw [if_neg hl] at h1; cases h1
theorem fnO_okB {x qual : Str} {params : Arguments} {body : List Stmt} {scope : Scope} {f : Addr} {fd : FuncData} {dvs : List V} {kws : List (Str × V)} {N ps : List Str} {k : Nat} {own : List Nat} {g : Env → RO} (F : FunD K x qual params body scope dvs kws f fd) (S : FnScope N ps scope) (hon : own.all (fun i => decide (i = 0 ∨ ps.length ≤ i)) = true) (h0 : own.contains 0 = true)
    (hps : decide (ps.length ≤ N.length) = true)
    (hb : ∀ (cdv : Value) (A : Around) (outer : List PySem.Env) (s : Shared) (H : Hp) (E : XK), Room k (A.deeper (PyProof.Rows.envOfC qual scope s.heap.objs.size f cdv)) → JB (cxOf (L2.CX P w) P w K mg base N qual scope f cdv A outer s H E) own body g) :
    FnOk P w K mg base (L2.CX P w) (k + 1) f fd ps (spO K (denO ps.length N.length g)) := by
  refine FunD.ok F S (fun vs H Q E h => ?_) (fun cdv A outer s H vs Q E hr h => ?_)
  · obtain ⟨F', p, ws, B, ds, d, B', fp, rfl, e, oB, hF, rd, h1, _⟩ := h
    unfold denO at h1
    by_cases hl : ds.length + 1 = ps.length
    · rw [List.length_cons, Rep.len rd, hl]
    · rw [if_neg hl] at h1; cases h1
  · obtain ⟨F', p, ws, B, ds, d, B', fp, rfl, e, oB, hF, rd, h1, hP⟩ := h
    exact ⟨_, pss_wss, bdO_okB hon h0 hps (hb cdv A outer s H E hr) e oB hF rd h1 hP⟩
/-! ### __init__ -/
theorem inv_view {X : Cx} {pins : List (Addr × Obj)} {σ : L2.St} {H : Hp} {s : Shared} {a C dx : Addr} {vs : List (Option V)} (I : Inv X pins σ H s) (h : SlX.Slt H a C dx vs) : Inv X pins σ (SlX.slH H a C dx vs) s := by
  obtain ⟨ne, sl, mA, e, r, n, q⟩ := SlX.slt_at I h
  exact SlX.inv_slot (h' := s.heap) (t' := s.toks) I h (fun b o _ _ e => e) (fun m h => h) e r
def spI (K : Frag) (c : Str) (m : List D → Option D) : Sp := fun vs H Q _ => ∃ F p dx ws ds B', vs = .ref p :: ws ∧ Ex F H ∧ F p = none ∧ F dx = none ∧ dx ≠ p ∧ H p = some (.ins (He.ga K c) dx []) ∧ H dx ≠ none ∧ Reps K F ws ds ∧ m ds = some B' ∧
  ∀ F' H' fp', GrowO [p, dx] F H F' H' → OwnV K F' H' (.ref p) B' fp' → (∀ a ∈ fp', F' a = none ∧ H' a ≠ none ∧ (a = p ∨ a = dx ∨ H a = none)) → Q .non H'
def denI (c : Str) (n N : Nat) (body : Env → RO) (ds : List D) : Option D := match denO n N body (.obj c []) ds with
  | some (.non, B) => some B
  | _ => none
theorem fnI_okB {x qual : Str} {params : Arguments} {body : List Stmt} {scope : Scope} {f : Addr} {fd : FuncData} {dvs : List V} {kws : List (Str × V)} {N ps : List Str} {k : Nat} {own : List Nat} {g : Env → RO} (c : Str) (F : FunD K x qual params body scope dvs kws f fd) (S : FnScope N ps scope) (hon : own.all (fun i => decide (i = 0 ∨ ps.length ≤ i)) = true) (h0 : own.contains 0 = true)
    (hps : decide (ps.length ≤ N.length) = true)
    (hb : ∀ (cdv : Value) (A : Around) (outer : List PySem.Env) (s : Shared) (H : Hp) (E : XK), Room k (A.deeper (PyProof.Rows.envOfC qual scope s.heap.objs.size f cdv)) → JB (cxOf (L2.CX P w) P w K mg base N qual scope f cdv A outer s H E) own body g) :
    FnOk P w K mg base (L2.CX P w) (k + 1) f fd ps (spI K c (denI c ps.length N.length g)) := by
  have den : ∀ {ds : List D} {B' : D}, denI c ps.length N.length g ds = some B' → denO ps.length N.length g (.obj c []) ds = some (.non, B') := fun {ds B'} h => by
    unfold denI at h
    split at h
    · rename_i e; cases h; exact e
    · cases h
  refine FunD.ok F S (fun vs H Q E h => ?_) (fun cdv A outer s H vs Q E hr h => ?_)
  · obtain ⟨F', p, dx, ws, ds, B', rfl, e, hp, hx, ne, hH, hHx, rd, h1, _⟩ := h
    have h1 := den h1
    unfold denO at h1
    by_cases hl : ds.length + 1 = ps.length
    · rw [List.length_cons, Rep.len rd, hl]
    · rw [if_neg hl] at h1; cases h1
  · obtain ⟨F', p, dx, ws, ds, B', rfl, e, hp, hx, ne, hH, hHx, rd, h1, hP⟩ := h
    have h1 := den h1
    refine ⟨_, pss_wss, fun pins s' I => ?_⟩
    have I2 := inv_view I (a := p) (C := He.ga K c) (dx := dx) (vs := []) (.inl ⟨hH, rfl⟩)
    have oB : OwnV K F' (SlX.slH H p (He.ga K c) dx []) (.ref p) (.obj c []) [p, dx] := .obj (vs := []) (kp := fun _ => p) {
      ob := by unfold SlX.slH; rw [upd_same]
      dxo := by unfold SlX.slH; rw [upd_ne ne, upd_same]
      ne := ne
      fld := fun i d h => by simp at h
      dis := fun i j d e _ _ _ h => by simp at h
      inp := by simp
      inx := by simp
      all := fun a ha => by simp at ha; exact ha.imp id .inl }
    have ge : GrowO [p, dx] F' H F' (SlX.slH H p (He.ga K c) dx []) := growO_sl e (by simp) (by simp) hp hx
    refine (bdO_okB hon h0 hps (hb cdv A outer s H E hr) (H := SlX.slH H p (He.ga K c) dx []) ge.fh oB (fun a ha => by
      simp at ha
      rcases ha with rfl | rfl
      · exact hp
      · exact hx) rd h1 (Q := Q) fun v F1 H1 fp' g1 o1 hn rv => ?_) pins s' I2
    cases rv
    have hnone : ∀ a, SlX.slH H p (He.ga K c) dx [] a = none → H a = none := fun a h => by
      cases q : H a with
      | none => rfl
      | some o => exact absurd h (ge.dm a (by rw [q]; simp))
    refine hP F1 H1 fp' ⟨g1.ff, g1.fh, fun a o h q => g1.hh a o h (ge.hh a o h q), fun a h => g1.dm a (ge.dm a h), fun a h => (g1.nw a h).imp id (hnone a)⟩ o1 fun a ha => ?_
    obtain ⟨a1, a2, a3⟩ := hn a ha
    refine ⟨a1, a2, a3.elim (fun q => ?_) fun q => .inr (.inr (hnone a q))⟩
    simp at q
    exact q.elim .inl fun q => .inr (.inl q)
/-- making an object of a class -/
structure FnI (P : Program) (w : World) (K : Frag) (mg : Str → Option Value) (base : Heap) (k : Nat) (c : Str) (m : List D → Option D) : Prop where
  at_ : ∃ f fd ps, FnOk P w K mg base (L2.CX P w) k f fd ps (spI K c m) ∧ Mk K (He.ga K c) f ∧ mg c = some (.ref (He.ga K c)) ∧ Binds K fd ps []
/-- a method that changes its object -/
structure FnMO (P : Program) (w : World) (K : Frag) (mg : Str → Option Value) (base : Heap) (k : Nat) (c m : Str) (f : D → List D → Option (D × D)) : Prop where
  cls : SlX.SCls K (He.ga K c)
  at_ : ∃ g fd ps, FnOk P w K mg base (L2.CX P w) k g fd ps (spO K f) ∧ Meth K (He.ga K c) m g ∧ Binds K fd ps []
end
section
variable {X : Cx} {own : List Nat} {e : Expr} {es : List Expr} {pos : Pos}
def vmake (m : List D → Option D) (a : Env → Rs (List D)) : Env → Rs D := fun δ => bind (a δ) fun xs => opt (m xs)
open Classical in
theorem jp_make {k : Nat} {c : Str} {p : Pos} {m : List D → Option D} {a : Env → Rs (List D)} (hf : FnI X.prog X.w X.K X.mg X.base k c m) (hr : Room (k + 1) X.A) (ha : JA X (e :: es) a) (hg : Gl X c := by rfl)
    (hdb : (c == ("__debug__" : Str)) = false := by decide) (he : starEach (e :: es) X.env = (false, eval e X.env) :: starEach es X.env := by rfl) (hpl : (backTo pos (starEach es X.env)).any (·.1) = false := by rfl) :
    JP X (.Call (.Name c p) (e :: es) [] pos) (vmake m a) := ⟨fun {σ F H δ W Q o} rp tk hg' hP => by
  obtain ⟨f, fd, ps, Fo, M, hm, hb⟩ := hf.at_
  refine we_of (pe_make M Fo hr hg hm hb .nil passL pa_wa hdb he hpl) (ja_bind ha rp tk hg' hP fun xs vs F1 H1 h1 g1 rx r1 P1 => ?_)
  obtain ⟨B, hB, rfl⟩ := opt_some h1
  intro x dx hx hdx ne
  rw [List.append_nil]
  have e0 : Ex F1 (upd (upd H1 dx (.own x)) x (.ins (He.ga X.K c) dx [])) := r1.ex.trans ((Ex.new hdx).trans (Ex.new (by rw [upd_ne (Ne.symm ne)]; exact hx)))
  have hnone : ∀ a, upd (upd H1 dx (.own x)) x (.ins (He.ga X.K c) dx []) a = none → H1 a = none := fun a h => by
    by_cases q : a = x
    · rw [q, upd_same] at h; cases h
    · rw [upd_ne q] at h
      by_cases q2 : a = dx
      · rw [q2, upd_same] at h; cases h
      · rw [upd_ne q2] at h; exact h
  refine ⟨F1, x, dx, vs, xs, B, rfl, e0, none_back r1.ex hx, none_back r1.ex hdx, ne, upd_same, by rw [upd_ne ne, upd_same]; simp, rx, hB, fun F' H' fp' g' o' hn => ⟨rfl, ?_⟩⟩
  let F2 : Hp := fun a => if a ∈ fp' then H' a else F' a
  have hin : ∀ a ∈ fp', F2 a = H' a := fun a ha => if_pos ha
  have hout : ∀ a, a ∉ fp' → F2 a = F' a := fun a ha => if_neg ha
  have ef : Ex F' F2 := fun a q e => by
    by_cases z : a ∈ fp'
    · rw [(hn a z).1] at e; cases e
    · rw [hout a z]; exact e
  have G : Grow F1 H1 F2 H' := {
    ff := g'.ff.trans ef
    fh := fun a o h => by
      by_cases z : a ∈ fp'
      · rw [hin a z] at h; exact h
      · rw [hout a z] at h; exact g'.fh a o h
    hh := fun a o h => by
      have n1 : a ≠ x := fun q => by rw [q, hx] at h; cases h
      have n2 : a ≠ dx := fun q => by rw [q, hdx] at h; cases h
      exact g'.hh a o (by simp [n1, n2]) (by rw [upd_ne n1, upd_ne n2]; exact h)
    nw := fun a h => by
      by_cases z : a ∈ fp'
      · refine .inr ((hn a z).2.2.elim (fun q => by rw [q]; exact hx) fun q => q.elim (fun q => by rw [q]; exact hdx) (hnone a))
      · rw [hout a z] at h
        exact (g'.nw a h).imp id (hnone a) }
  exact P1 _ F2 H' G (o'.frz hin ef)⟩
/-! ### the own object's fields -/
def sfset (i j : Nat) (c : Str) (f : Env → RE D) : Env → RO := fun δ => bindE (f δ) fun d δ1 => (match δ1[i]? with
  | some (some (.obj c' fs)) => if c' = c then some (.ok (.nx, δ1.set i (some (.obj c (putF j d fs))))) else none
  | _ => none)
theorem own_atO {δ : Env} {i : Nat} {c : Str} {α : Type} {k : List (Option D) → Option α} {o : α} (h : (match δ[i]? with | some (some (.obj c' fs)) => if c' = c then k fs else none | _ => none) = some o) : ∃ fs, δ[i]? = some (some (.obj c fs)) ∧ k fs = some o := by
  split at h
  · split at h
    · rename_i q; subst q; exact ⟨_, by assumption, h⟩
    · cases h
  · cases h
theorem OwnV.obj_inv {K : Frag} {F H : Hp} {w : V} {c : Str} {fs : List (Option D)} {fp : List Addr} (o : OwnV K F H w (.obj c fs) fp) : ∃ p dx vs kp, w = .ref p ∧ OwnB K F H p dx c vs fs kp fp := by
  cases o with | obj h => exact ⟨_, _, _, _, rfl, h⟩
theorem js_fset (i : Nat) {j : Nat} {c f x : Str} {p1 p2 : Pos} {g : Env → RE D} (T : SlF X.K c f j) (h : JE X own e g) (hi : X.N[i]? = some x := by rfl) (hv : Vis X.env.scope x := by first | exact Or.inl rfl | exact Or.inr (Or.inl rfl) | exact Or.inr (Or.inr rfl)) (ho : i ∈ own := by decide) (hj : ownF c j = false := by decide)
    (hd : (x == ("__debug__" : Str)) = false := by decide) (hcd : (x == ("__classdict__" : Str)) = false := by decide)
    (hs : swapsWith e (some (.Attribute (.Name x p1) f p2)) pos.line X.env = pure false := by rfl) : JS X own (.Assign [.Attribute (.Name x p1) f p2] e pos) (sfset i j c g) := ⟨fun {P F0 H0 σ F H δ W o D} _ r tk hg hP => by
  refine ws_of (SlX.ps_sl (pe_var hi hv hd hcd) pe_we hs) ?_
  refine se_bind (w := WE X e) h r tk hg hP fun d v δ1 F1 H1 h1 e1 rx r1 P1 => ?_
  obtain ⟨fs, h0, h2⟩ := own_atO h1
  cases h2
  obtain ⟨v0, fp, hv0, o0, hf, k⟩ := r1.alt ho h0
  obtain ⟨p, dx, vs, kp, rfl, B⟩ := o0.obj_inv
  obtain ⟨q, sl⟩ := T.sl
  refine ⟨_, hv0, p, _, dx, q, vs, j, rfl, .inr ⟨B.ob, B.dxo⟩, T.cls, sl, P1 _ F1 _ (k (growO_sl r1.fh B.inp B.inx (hf _ B.inp).1 (hf _ B.inx).1) (.obj (B.put hj rx)) fun a ha => ?_) (Ex.refl _)⟩
  exact ⟨(hf a ha).1, (OwnV.obj (B.put hj rx)).there a ha, .inl ha⟩⟩
theorem js_fsetN (i : Nat) {j : Nat} {c f x : Str} {p1 p2 : Pos} {g : Env → RE D} (T : SlF X.K c f j) (h : JN X own e g) (hi : X.N[i]? = some x := by rfl) (hv : Vis X.env.scope x := by first | exact Or.inl rfl | exact Or.inr (Or.inl rfl) | exact Or.inr (Or.inr rfl)) (ho : i ∈ own := by decide) (hj : ownF c j = true := by decide)
    (hd : (x == ("__debug__" : Str)) = false := by decide) (hcd : (x == ("__classdict__" : Str)) = false := by decide)
    (hs : swapsWith e (some (.Attribute (.Name x p1) f p2)) pos.line X.env = pure false := by rfl) : JS X own (.Assign [.Attribute (.Name x p1) f p2] e pos) (sfset i j c g) := ⟨fun {P F0 H0 σ F H δ W o D} _ r tk hg hP => by
  refine ws_of (SlX.ps_sl (pe_var hi hv hd hcd) pe_we hs) ?_
  rcases bindE_some hg with ⟨y, h1, rfl⟩ | ⟨d, δ1, h1, hg⟩
  · exact h.run r tk h1 fun c dd F' H' r1 e1 rx => hP c dd σ F' H' r1 e1 rx
  · refine h.run r tk h1 fun Dd ob F1 H1 l e1 ro => ?_
    obtain ⟨fs, h0, h2⟩ := own_atO hg
    cases h2
    obtain ⟨v0, fp, hv0, o0, hf, k⟩ := l.alt ho h0
    obtain ⟨p, dx, vs, kp, rfl, B⟩ := o0.obj_inv
    obtain ⟨q, sl⟩ := T.sl
    have nD : Dd ∉ fp := fun z => (hf Dd z).2.2 rfl
    have B' := B.putN hj l.at nD ro
    refine ⟨_, hv0, p, _, dx, q, vs, j, rfl, .inr ⟨B.ob, B.dxo⟩, T.cls, sl, hP _ F1 _ (k (growO_sl l.rs.fh B.inp B.inx (hf _ B.inp).1 (hf _ B.inx).1) (.obj B') fun a ha => ⟨?_, (OwnV.obj B').there a ha, ?_⟩) e1⟩
    · rcases List.mem_cons.1 ha with rfl | ha
      · exact (hf _ B.inp).1
      · rcases List.mem_cons.1 ha with rfl | ha
        · exact (hf _ B.inx).1
        · rcases List.mem_cons.1 ha with rfl | ha
          · exact l.nF
          · exact (hf a (List.mem_filter.1 ha).1).1
    · rcases List.mem_cons.1 ha with rfl | ha
      · exact .inl B.inp
      · rcases List.mem_cons.1 ha with rfl | ha
        · exact .inl B.inx
        · rcases List.mem_cons.1 ha with rfl | ha
          · exact .inr rfl
          · exact .inl (List.mem_filter.1 ha).1⟩
/-- self.f, f a field held fast -/
def efld (i j : Nat) (c : Str) : Env → RE D := fun δ => match δ[i]? with
  | some (some (.obj c' fs)) => if c' = c then (match fs[j]? with
    | some (some d) => some (.ok (d, δ))
    | _ => none) else none
  | _ => none
theorem je_fld (i : Nat) {j : Nat} {c f x : Str} {p1 : Pos} (T : SlF X.K c f j) (hi : X.N[i]? = some x := by rfl) (hv : Vis X.env.scope x := by first | exact Or.inl rfl | exact Or.inr (Or.inl rfl) | exact Or.inr (Or.inr rfl)) (ho : i ∈ own := by decide) (hj : ownF c j = false := by decide)
    (hd : (x == ("__debug__" : Str)) = false := by decide) (hcd : (x == ("__classdict__" : Str)) = false := by decide)
    (hb : attributeBase (.Name x p1) f X.env (eval (.Name x p1) X.env) = eval (.Name x p1) X.env := by rfl) : JE X own (.Attribute (.Name x p1) f pos) (efld i j c) := ⟨fun {P F0 H0 σ F H δ W Q o} r tk hg hP => by
  refine we_of (SlX.pe_sl (pe_var hi hv hd hcd) hb) ?_
  obtain ⟨fs, h0, h2⟩ := own_atO hg
  obtain ⟨v0, fp, hv0, o0, hf, k⟩ := r.alt ho h0
  obtain ⟨p, dx, vs, kp, rfl, B⟩ := o0.obj_inv
  obtain ⟨q, sl⟩ := T.sl
  cases e : fs[j]? with
  | none => rw [e] at h2; cases h2
  | some y => cases y with
    | none => rw [e] at h2; cases h2
    | some d =>
      rw [e] at h2; cases h2
      obtain ⟨w, hw, rw'⟩ := B.fld j d e
      rw [if_neg (by rw [hj]; simp)] at rw'
      exact ⟨_, hv0, p, _, dx, q, vs, j, w, rfl, .inr ⟨B.ob, B.dxo⟩, T.cls, sl, hw, hP w F H r (Ex.refl _) rw'⟩⟩
/-- self.m(..), m a method that changes self -/
def emethO (m : D → List D → Option (D × D)) (i : Nat) (c : Str) (a : Env → RE (List D)) : Env → RE D := fun δ => match δ[i]? with
  | some (some (.obj c' fs)) => if c' = c then bindE (a δ) fun ds δ' => (match δ'[i]? with
    | some (some (.obj c' fs)) => if c' = c then (m (.obj c fs) ds).map fun q => .ok (q.1, δ'.set i (some q.2)) else none
    | _ => none) else none
  | _ => none
theorem je_methO (i : Nat) {k : Nat} {c m y : Str} {py apos : Pos} {f : D → List D → Option (D × D)} {a : Env → RE (List D)} {pl : Sem Bool} (hf : FnMO X.prog X.w X.K X.mg X.base k c m f) (hr : Room k X.A) (ha : JAE X own (e :: es) a)
    (hi : X.N[i]? = some y := by rfl) (hv : Vis X.env.scope y := by first | exact Or.inl rfl | exact Or.inr (Or.inl rfl) | exact Or.inr (Or.inr rfl)) (ho : i ∈ own := by decide) (hd : (y == ("__debug__" : Str)) = false := by decide) (hcd : (y == ("__classdict__" : Str)) = false := by decide)
    (hst : starEach (e :: es) X.env = (false, eval e X.env) :: starEach es X.env := by rfl) (hpl : (backTo pos (starEach es X.env)).any (·.1) = false := by rfl)
    (ht : eval (.Call (.Attribute (.Name y py) m apos) (e :: es) [] pos) X.env = (do
      let ov ← eval (.Name y py) X.env
      standAt apos.atName
      let (f, first) ← holding [ov] (getMethod ov m pl)
      callWith pos f first (backTo pos (starEach (e :: es) X.env)) (backToKw pos (keywordEach [] X.env))) := by rfl) :
    JE X own (.Call (.Attribute (.Name y py) m apos) (e :: es) [] pos) (emethO f i c a) := ⟨fun {P F0 H0 σ F H δ W Q o} r tk hg hP => by
  obtain ⟨ga, fd, ps, Fo, hm, hb⟩ := hf.at_
  have FR := FnOk.raw (dvs := []) Fo hb .nil
  refine we_methS (pl := pl) hf.cls hm FR hr (passAt tk σ) (we_of (pe_var hi hv hd hcd) ?_) hst hpl ht
  obtain ⟨fs0, h0, hg⟩ := own_atO hg
  obtain ⟨v0, fp0, hv0, o0, hf0, k0⟩ := r.alt ho h0
  obtain ⟨p, dx, vs, kp, rfl, B⟩ := o0.obj_inv
  refine ⟨_, hv0, p, dx, vs, rfl, .inr ⟨B.ob, B.dxo⟩, js_bind (w := WA X (e :: es)) ha r tk hg hP fun xs ws δ1 F1 H1 h1 e1 rx r1 P1 => ?_⟩
  obtain ⟨fs, h2, h3⟩ := own_atO h1
  obtain ⟨v1, fp, hv1, o1, hf1, k1⟩ := r1.alt ho h2
  rw [hv0] at hv1; cases hv1
  simp only [Option.map_eq_some_iff] at h3
  obtain ⟨⟨d, B'⟩, hm', rfl⟩ := h3
  show spO X.K f ((V.ref p :: ws) ++ []) H1 Q (L2.WE W σ)
  rw [List.append_nil]
  exact ⟨F1, p, ws, _, xs, d, B', fp, rfl, r1.fh, o1, fun a ha => (hf1 a ha).1, rx, hm', fun v F' H' fp' g o' hn rv => P1 v F' H' (k1 g o' hn) g.ff rv⟩⟩
theorem je_methO0 (i : Nat) {k : Nat} {c m y : Str} {py apos : Pos} {f : D → List D → Option (D × D)} {pl : Sem Bool} (hf : FnMO X.prog X.w X.K X.mg X.base k c m f) (hr : Room k X.A)
    (hi : X.N[i]? = some y := by rfl) (hv : Vis X.env.scope y := by first | exact Or.inl rfl | exact Or.inr (Or.inl rfl) | exact Or.inr (Or.inr rfl)) (ho : i ∈ own := by decide) (hd : (y == ("__debug__" : Str)) = false := by decide) (hcd : (y == ("__classdict__" : Str)) = false := by decide)
    (ht : eval (.Call (.Attribute (.Name y py) m apos) [] [] pos) X.env = (do
      let ov ← eval (.Name y py) X.env
      standAt apos.atName
      let (f, first) ← holding [ov] (getMethod ov m pl)
      callWith pos f first (backTo pos (starEach [] X.env)) (backToKw pos (keywordEach [] X.env))) := by rfl) :
    JE X own (.Call (.Attribute (.Name y py) m apos) [] [] pos) (emethO f i c enil) := ⟨fun {P F0 H0 σ F H δ W Q o} r tk hg hP => by
  obtain ⟨ga, fd, ps, Fo, hm, hb⟩ := hf.at_
  have FR := FnOk.raw (dvs := []) Fo hb .nil
  refine we_methS0 (pl := pl) hf.cls hm FR hr (passAt tk σ) (we_of (pe_var hi hv hd hcd) ?_) ht
  obtain ⟨fs0, h0, hg⟩ := own_atO hg
  obtain ⟨v0, fp0, hv0, o0, hf0, k0⟩ := r.alt ho h0
  obtain ⟨p, dx, vs, kp, rfl, B⟩ := o0.obj_inv
  refine ⟨_, hv0, p, dx, vs, rfl, .inr ⟨B.ob, B.dxo⟩, ?_⟩
  simp only [enil, bindE] at hg
  obtain ⟨fs, h2, h3⟩ := own_atO hg
  rw [h0] at h2; cases h2
  simp only [Option.map_eq_some_iff] at h3
  obtain ⟨⟨d, B'⟩, hm', rfl⟩ := h3
  show spO X.K f ((V.ref p :: []) ++ []) H Q (L2.WE W σ)
  rw [List.append_nil]
  exact ⟨F, p, [], _, [], d, B', fp0, rfl, r.fh, o0, fun a ha => (hf0 a ha).1, .nil, hm', fun v F' H' fp' g o' hn rv => hP v F' H' (k0 g o' hn) g.ff rv⟩⟩
end
end PD
end
section
namespace PD
open PySem L2
/-! ### a def whose promise may speak of the entry's heap -/
abbrev SpS := Shared → Sp
structure FnS (P : Program) (w : World) (K : Frag) (mg : Str → Option Value) (base : Heap) (k : Nat) (f : Addr) (sp : SpS) : Prop where
  run : ∀ (A : Around) (out : List PySem.Env) (s : Shared) (H : Hp) (us : List Value) (vs : List V) (Q : VK) (E : XK), Room k A → Env0 P w K mg base A out s H → Vals vs us → sp s vs H Q E →
    codeAny (model P w) A (.call (.ref f) ⟨us, []⟩) (CR (L2.CX P w) out P w H s Q E) s
section
variable {P : Program} {w : World} {K : Frag} {mg : Str → Option Value} {base : Heap}
open PySem.Spec PyProof.Rows in
theorem fnS_ok {x qual : Str} {params : Arguments} {body : List Stmt} {scope : Scope} {f : Addr} {fd : FuncData} {dvs : List V} {kws : List (Str × V)} {N ps : List Str} {k : Nat} {sp : SpS} (F : FunD K x qual params body scope dvs kws f fd) (S : FnScope N ps scope) (hb : Binds K fd ps [])
    (len : ∀ s vs H Q E, sp s vs H Q E → vs.length = ps.length)
    (hbody : ∀ (cdv : Value) (A : Around) (out : List PySem.Env) (s : Shared) (H : Hp) (vs : List V) (Q : VK) (E : XK), Room k (A.deeper (envOfC qual scope s.heap.objs.size f cdv)) → sp s vs H Q E →
      WSs (cxOf (L2.CX P w) P w K mg base N qual scope f cdv A out s H E) body { nx := fun _ H' => Q .non H', rt := Q } (L2.start N vs) H) : FnS P w K mg base (k + 1) f sp := by
  obtain ⟨oc, od, dV, kV, doc, pm, an, cdv, ct, osl, rfl, lk, hcd, _, _⟩ := F.ex
  refine ⟨fun A out s H us vs Q E hr e0 r hsp => ?_⟩
  have hln : vs.length = ps.length := len s _ _ _ _ hsp
  have hK : K.In s.heap := e0.mod.kin.keeps fun b o q => (e0.bs b o q).1
  have nl : s.heap.NoLimit := e0.mod.nolimit.keeps fun b o q => (e0.bs b o q).1
  have bt := hb s us hK (by rw [List.append_nil, ← r.length]; exact hln)
  rw [List.append_nil] at bt
  have kinds : ∀ y ∈ ps.zip us, scope.names.lookup y.1 = some .local ∨ (scope.names.lookup y.1 = some .cell ∧ ((cellsFrom (s.heap.objs.size + 1) scope.names []).lookup y.1).isSome = true) := by
    rintro ⟨n, v⟩ hy
    exact (S.par n (List.of_mem_zip hy).1).imp id fun q => ⟨q, PySem.W.cellsFrom_some _ _ _ (.inl q)⟩
  refine codeAny_call_function hr.depth (hK _ _ lk) rfl S.co S.gen rfl (PySem.W.codeRec_of hK hcd) (bt _ _ _ _ ?_)
  refine wpAny_newFunctionEnv_cells S.kind kinds fun en hen s1 z => ?_
  cases hen
  refine ⟨nl.keeps z.toInCall.keep, codeAny_func ?_⟩
  have J0 : Inv (cxOf (L2.CX P w) P w K mg base N qual scope f cdv A out s H E) [] (L2.start N vs) H s1 := inv_start S hr.hd e0 hln r z
  refine wpAny_mono (hbody cdv A out s H vs Q E (hr.deeper _) hsp [] s1 J0) (fun fl s' q => ?_) fun er s' q => q
  cases fl with
  | ret u => exact let ⟨v, σ', H', J, rv, qv⟩ := q; ⟨v, H', J.os, J.bare, J.base, J.hok, rv, qv⟩
  | next => exact let ⟨σ', H', J, qv⟩ := q; ⟨V.non, H', J.os, J.bare, J.base, J.hok, rfl, qv⟩
  | brk =>
    obtain ⟨_, _, _, z⟩ := q
    exact z.elim
  | cont =>
    obtain ⟨_, _, _, z⟩ := q
    exact z.elim
end
/-! ### __iter__ that gives iter(self.f), f a list -/
def spIt (K : Frag) (c : Str) (j : Nat) : SpS := fun s vs H Q _ => ∃ a dx fs l zs, vs = [.ref a] ∧ SlX.Slt H a (He.ga K c) dx fs ∧ fs[j]? = some (some (.ref l)) ∧ SqL K H l zs ∧ ∀ it, H it = none → s.heap.objs.size ≤ it → Q (.ref it) (upd H it (ItO l it 0))
structure FnIt (P : Program) (w : World) (K : Frag) (mg : Str → Option Value) (base : Heap) (k : Nat) (c : Str) (j : Nat) : Prop where
  at_ : ∃ g, FnS P w K mg base k g (spIt K c j) ∧ PySem.W.findIn K (.ref (He.ga K c)) "__iter__" = some (some (.ref g)) ∧ PySem.W.isFn K (.ref g) = true
/-- the body: return iter(self.f) -/
theorem we_iter {X : Cx} {x f c : Str} {j : Nat} {p1 p2 p3 p4 : Pos} {σ : L2.St} {H : Hp} {Q : VK} (T : SlF X.K c f j) (hm : X.mg "iter" = none) (h : ∃ a dx fs l zs, σ[0]? = some (some (.ref a)) ∧ SlX.Slt H a (He.ga X.K c) dx fs ∧ fs[j]? = some (some (.ref l)) ∧ SqL X.K H l zs ∧ ∀ it, H it = none → X.s_0.heap.objs.size ≤ it → Q (.ref it) (upd H it (ItO l it 0)))
    (hi : X.N[0]? = some x := by rfl) (hv : Vis X.env.scope x := by first | exact Or.inl rfl | exact Or.inr (Or.inl rfl) | exact Or.inr (Or.inr rfl)) (hg : Gl X "iter" := by rfl)
    (hd : (x == ("__debug__" : Str)) = false := by decide) (hcd : (x == ("__classdict__" : Str)) = false := by decide)
    (hb : attributeBase (.Name x p1) f X.env (eval (.Name x p1) X.env) = eval (.Name x p1) X.env := by rfl)
    (he : starEach [.Attribute (.Name x p1) f p2] X.env = (false, eval (.Attribute (.Name x p1) f p2) X.env) :: starEach [] X.env := by rfl) (hpl : (backTo p4 (starEach [] X.env)).any (·.1) = false := by rfl) :
    WE X (.Call (.Name "iter" p3) [.Attribute (.Name x p1) f p2] [] p4) σ H Q := by
  obtain ⟨a, dx, fs, l, zs, h0, hs, hf, hl, q⟩ := h
  obtain ⟨p, sl⟩ := T.sl
  refine we_of (pe_callB ItX.call_iterN hg hm PyProof.Rows.Boot.«iter» (pa_cons (SlX.pe_sl (pe_var hi hv hd hcd) hb) pa_nil he) (by decide) (by decide) he hpl) ?_
  exact ⟨_, h0, a, _, dx, p, fs, j, .ref l, rfl, hs, T.cls, sl, hf, l, zs, rfl, hl, fun it hn hz => q it hn hz⟩
theorem ws_ret {X : Cx} {e : Expr} {pos : Pos} {σ : L2.St} {H : Hp} {D : Ends} (h : WE X e σ H D.rt) : WSs X [.Return (some e) pos] D σ H := wss_of (pss_one (ps_ret pe_we)) h
/-! ### for x in obj -/
def iobj (c : Str) (j : Nat) (f : Env → RE D) : Env → RE (List D) := fun δ => bindE (f δ) fun d δ' => (match attrD c j d with
  | some (.lst xs) => some (.ok (xs, δ'))
  | _ => none)
theorem src_listF {K : Frag} {F : Hp} {a : Addr} {vs : List V} {ds : List D} (h : SqL K F a vs) (r : Reps K F vs ds) : Src K F ds (ItX.ItlF K a 0) where
  go := fun {F1 H1} e1 e2 {i d} hd => by
    have q := (src_list h r).go e1 e2 hd
    rw [← Nat.zero_add i] at q
    exact q
  stop := fun {F1 H1} e1 e2 {i} hi => by
    have q := (src_list h r).stop e1 e2 hi
    rw [← Nat.zero_add i] at q
    exact q
open PySem.Spec PyProof.Rows in
theorem ji_obj {X : Cx} {own : List Nat} {tg e : Expr} {k j : Nat} {c : Str} {f : Env → RE D} (hf : FnIt X.prog X.w X.K X.mg X.base k c j) (hr : Room k X.A) (h : JE X own e f) : JI X own tg e (iobj c j f) := ⟨fun {P F0 H0 σ F H δ W o R} r tk hg hP => by
  obtain ⟨g, FS, h1, h2⟩ := hf.at_
  unfold iobj at hg
  rcases bindE_some hg with ⟨y, e0, rfl⟩ | ⟨d, δ1, e0, hg⟩
  · intro pins s I
    exact thn (h.run (Q := fun _ _ => False) r tk e0 hP pins s I) fun u s1 ⟨v, H1, I1, rv, q⟩ => q.elim
  · have WX := h.run (Q := fun v H1 => ∃ F1, RSf X ⟨own, P, F0, H0⟩ F1 σ H1 δ1 ∧ Ex F F1 ∧ Rep X.K F1 v d) r tk e0 fun v F1 H1 r1 e1 rv => ⟨F1, r1, e1, rv⟩
    intro pins s I
    refine thn (WX pins s I) fun u s1 ⟨v, H1, I1, rv, F1, r1, e1, rd⟩ => ?_
    cases ha : attrD c j d with
    | none => rw [ha] at hg; cases hg
    | some z =>
      rw [ha] at hg
      cases z <;> (try (cases hg; done))
      rename_i xs
      cases hg
      obtain ⟨fs, rfl, hfs⟩ := attr_some ha
      obtain ⟨a, dx, vs, rfl, hs, ro⟩ := rd.slt r1.fh
      obtain ⟨w', hw, rw'⟩ := ro.get hfs
      cases rw' with
      | lst hl rl =>
        rename_i l zs
        obtain rfl : u = Value.ref a := rv
        obtain ⟨sl, od, _, J, _⟩ := SlX.slt_inst I1 hs
        obtain ⟨m, hF⟩ := I1.fr
        refine PySem.W.owit_iter hF I1.ok.mod.kin J h1 h2 ?_
        refine wpAny_call (codeAny_mono (FS.run X.A X.stack s1 H1 [.ref a] [.ref a] (fun v H2 => ∃ it, v = .ref it ∧ H1 it = none ∧ s1.heap.objs.size ≤ it ∧ H2 = upd H1 it (ItO l it 0)) (fun _ _ _ => False) hr I1.env0 (.cons rfl .nil)
          ⟨a, dx, vs, l, zs, rfl, hs, hw, SqL.of (r1.fh _ _ hl), fun it hn hz => ⟨it, rfl, hn, hz, rfl⟩⟩) fun r s' hq => ?_)
        cases r with
        | error e => exact passAt (W := W) tk σ pins H1 s1 e s' I1 (by
            obtain ⟨a1, B, H2, c1, d1, e1, fl, hok, ub, na, os, ag, hE⟩ := hq
            exact hE.elim)
        | ok fl =>
          cases fl with
          | ret u =>
            obtain ⟨v2, H2, I2, rv2, it, rfl, hn, hz, rfl⟩ := I1.after hq
            obtain rfl : u = Value.ref it := rv2
            have hi : upd H1 it (ItO l it 0) it = some (ItO l it 0) := upd_same
            have eo := itO_get I2 hi
            unfold PySem.W.OwitIt
            refine wpAny_specialOf (T := "list_iterator") ⟨_, eo, rfl⟩ PySem.slot_listiter_next.lookup ?_
            have st : s'.heap.IsListIter it l (0 + 0) := ⟨_, eo, rfl, rfl⟩
            have hi' := hi
            unfold ItO at hi'
            have ID := ItX.inv_drop I2 hi'
            refine ⟨it, [it], _, _, ItX.dropH (upd H1 it (ItO l it 0)) it, rfl, ID, ItX.turn_listF l it 0, st, fun b hb => ?_, ?_⟩
            · have e : b = it := by simpa using hb
              rw [e]
              exact ItX.inv_fp I2 hi (Nat.le_trans I1.sz hz)
            · rw [ItX.dropH_upd hn]
              exact hP _ F1 H1 r1 e1 (src_listF (SqL.of hl) rl)
          | next => exact False.elim hq
          | brk => exact False.elim hq
          | cont => exact False.elim hq⟩
end PD
end
section
namespace PD
open PySem L2
/-! ### facts of the text, as Bools -/
def sclsB (K : Frag) (c : Str) : Bool := PySem.W.plainGet K (He.ga K c) Str.empty && (PySem.W.isClsIn K (He.ga K c) && (PySem.W.plainOver K (He.ga K c) && He.eqO (PySem.W.findIn K (.ref (He.ga K c)) "__setattr__") (some (some (.builtin "object.__setattr__")))))
theorem scls_of {K : Frag} {c : Str} (h : sclsB K c = true) : SlX.SCls K (He.ga K c) := by
  unfold sclsB at h
  simp only [Bool.and_eq_true] at h
  exact ⟨h.1, h.2.1, h.2.2.1, He.eqO_ok h.2.2.2⟩
def slotB (K : Frag) (c f : Str) (i : Nat) : Bool := match PySem.W.findIn K (.ref (He.ga K c)) f with
  | some (some (.ref p)) => He.eqO (PySem.W.specialIn K (.ref p) "__get__") (some (some (.builtin "member_descriptor.__get__"))) && (decide (PySem.W.takesIn K (.ref p) = some true) && (decide (PySem.W.typeIn K (.ref p) = some (.type "member_descriptor")) && (decide (PySem.W.slotIn K p (He.ga K c) = some i) && decide (i < 1000))))
  | _ => false
theorem slot_of {K : Frag} {c f : Str} {i : Nat} (h1 : SlX.SCls K (He.ga K c)) (h : slotB K c f i = true) : SlF K c f i := by
  unfold slotB at h
  split at h
  · rename_i p e
    simp only [Bool.and_eq_true, decide_eq_true_eq] at h
    exact ⟨h1, p, e, He.eqO_ok h.1, h.2.1, h.2.2.1, h.2.2.2.1, h.2.2.2.2⟩
  · cases h
/-- a module's constant, a tuple of numbers -/
def tupB (K : Frag) (x : Str) (is : List Int) : Bool := match PySem.W.nsIn K mainGlobals x with
  | some (some (.ref a)) => (match K.lookup a with
    | some ⟨.type c, none, .seq its _, _⟩ => decide (c = "tuple") && (decide (its.toList.length ≤ 1000) && decide (its.toList.map (fun u => match u with | .int i _ => some i | _ => none) = is.map some))
    | _ => false)
  | _ => false
theorem ints_of : ∀ {us : List Value} {is : List Int}, us.map (fun u => match u with | .int i _ => some i | _ => none) = is.map some → Vals (is.map V.int) us
  | [], [], _ => .nil
  | [], _ :: _, h => by cases h
  | _ :: _, [], h => by cases h
  | u :: us, i :: is, h => by
    rw [List.map_cons, List.map_cons, List.cons.injEq] at h
    obtain ⟨h1, h2⟩ := h
    refine .cons ?_ (ints_of h2)
    cases u <;> (try (cases h1; done))
    rename_i j t
    cases h1
    exact ⟨t, rfl⟩
theorem reps_ints {K : Frag} {F : Hp} : ∀ is : List Int, Reps K F (is.map V.int) (is.map D.int)
  | [] => .nil
  | i :: is => .cons (.int i) (reps_ints is)
theorem tup_of {K : Frag} {h : Heap} {mg : Str → Option Value} {x : Str} {is : List Int} (X : K.In h) (G : h.Ns mainGlobals mg) (c : tupB K x is = true) : Kc K mg x (.tup (is.map .int)) := by
  unfold tupB at c
  split at c
  · rename_i a e
    split at c
    · rename_i cc its n sl e2
      simp only [Bool.and_eq_true, decide_eq_true_eq] at c
      obtain ⟨rfl, c2, c3⟩ := c
      refine ⟨.ref a, .ref a, PySem.W.mg_of X G e, rfl, fun F => .tup (.inr ⟨_, its, n, e2, rfl, rfl, rfl, ?_, ints_of c3⟩) (reps_ints is)⟩
      have : its.size = its.toList.length := by simp
      rw [this, sizeLine_eq]; omega
    · cases c
  · cases c
/-! ### a if t else b, both new -/
section
variable {X : Cx} {own : List Nat} {q a b e : Expr} {es : List Expr} {pos : Pos}
theorem jn_if {t : Env → RE Bool} {f g : Env → RE D} (hq : JTE X own q t) (ha : JN X own a f) (hb : JN X own b g) : JN X own (.IfExp q a b pos) (eif t f g) := ⟨fun {P F0 H0 σ F H δ W Q o} r tk hg hP => by
  refine we_of (pe_ifExp pt_wt pe_we pe_we) ?_
  exact sn_bind (w := WT X q) hq r tk hg hP fun x v δ1 F1 H1 h1 e1 rx r1 P1 => by
    cases rx
    cases x with
    | true => rw [if_pos rfl] at *; exact ha.run r1 tk h1 P1
    | false => rw [if_neg Bool.false_ne_true] at *; exact hb.run r1 tk h1 P1⟩
end
def clsBody : Stmt → List Stmt
  | .ClassDef _ _ _ b _ _ _ _ _ _ _ => b
  | _ => []
end PD
end
section
namespace PD
open PySem L2
/-! ### x, y = a, b by a tuple that is made and taken apart, some of the values new -/
theorem grow_aside {F H : Hp} {p : Addr} {o : HO} (e : Ex F H) (h : H p = none) : Grow F H F (upd H p o) := ⟨Ex.refl F, e.trans (Ex.new h), Ex.new h, fun _ h => .inl h⟩
theorem Held.grow {X : Cx} : ∀ (bs : List Bool) {f : Fr} {ds : List D} {vs : List V} {F F' : Hp} {σ : L2.St} {H H' : Hp} {δ : Env}, Held X f bs ds vs F σ H δ → Grow F H F' H' → Held X f bs ds vs F' σ H' δ
  | [], f, ds, vs, F, F', σ, H, H', δ, h, g => by obtain ⟨rfl, rfl, r⟩ := h; exact ⟨rfl, rfl, RS.grow r g⟩
  | false :: bs, f, ds, vs, F, F', σ, H, H', δ, h, g => by
    obtain ⟨d, es, v, ws, rfl, rfl, rv, hd⟩ := h
    exact ⟨d, es, v, ws, rfl, rfl, rv.mono g.ff, Held.grow bs hd g⟩
  | true :: bs, f, ds, vs, F, F', σ, H, H', δ, h, g => by
    obtain ⟨d, es, Dd, ob, ws, P', F1, H1, rfl, rfl, ho, c, e, n, nf, nh, hd⟩ := h
    exact ⟨d, es, Dd, ob, ws, P', F1, H1, rfl, rfl, ho.mono g.ff, c, e, n, nf, nh, Held.grow bs hd g⟩
theorem Held.fh {X : Cx} : ∀ (bs : List Bool) {f : Fr} {ds : List D} {vs : List V} {F : Hp} {σ : L2.St} {H : Hp} {δ : Env}, Held X f bs ds vs F σ H δ → Ex F H
  | [], f, ds, vs, F, σ, H, δ, h => by obtain ⟨_, _, r⟩ := h; exact RS.fh r
  | false :: bs, f, ds, vs, F, σ, H, δ, h => by
    obtain ⟨d, es, v, ws, rfl, rfl, rv, hd⟩ := h
    exact Held.fh bs hd
  | true :: bs, f, ds, vs, F, σ, H, δ, h => by
    obtain ⟨d, es, Dd, ob, ws, P', F1, H1, rfl, rfl, ho, c, e, n, nf, nh, hd⟩ := h
    exact Held.fh bs hd
section
variable {X : Cx} {own : List Nat} {a b c : Expr} {pos : Pos}
theorem js_par2T (i j : Nat) {bs : List Bool} {x y : Str} {px py pt : Pos} {kt k2 pt2} {f : Env → RE (List D)} (hc : X.calm = true) (hN : X.N.Nodup) (ha : JX X own bs [a, b] f) (hi : X.N[i]? = some x := by rfl) (hj : X.N[j]? = some y := by rfl) (hij : i ≠ j := by decide)
    (hx : Loc X.env.scope x := by first | exact Or.inl rfl | exact Or.inr rfl) (hy : Loc X.env.scope y := by first | exact Or.inl rfl | exact Or.inr rfl) (hb : slotOk own bs [i, j] = true := by decide) (hbl : bs.length = 2 := by rfl)
    (hfx : X.fn x = true ∨ X.env.scope.names.lookup x = some .local := by first | exact .inl rfl | exact .inr rfl | assumption) (hfy : X.fn y = true ∨ X.env.scope.names.lookup y = some .local := by first | exact .inl rfl | exact .inr rfl | assumption)
    (hs : swapsWithSole [.Tuple [.Name x px, .Name y py] kt pt] (.Tuple [a, b] k2 pt2) pos.line X.env = pure false := by rfl) (hw : swappedStores [.Tuple [.Name x px, .Name y py] kt pt] (.Tuple [a, b] k2 pt2) X.env = pure none := by rfl)
    (h1 : (assignEach [.Tuple [.Name x px, .Name y py] kt pt] X.env).map (·.2) = [assign (.Tuple [.Name x px, .Name y py] kt pt) X.env] := by rfl)
    (hn : (assignEach [.Name x px, .Name y py] X.env).length = 2 := by rfl) (hst : (assignEach [.Name x px, .Name y py] X.env).findIdx? (·.1) = none := by rfl)
    (hs1 : (assignEach [.Name x px, .Name y py] X.env).map (·.2) = assign (.Name x px) X.env :: (assignEach [.Name y py] X.env).map (·.2) := by rfl) (hs2 : (assignEach [.Name y py] X.env).map (·.2) = assign (.Name y py) X.env :: (assignEach [] X.env).map (·.2) := by rfl) :
    JS X own (.Assign [.Tuple [.Name x px, .Name y py] kt pt] (.Tuple [a, b] k2 pt2) pos) (spar2 i j f) := ⟨fun {P F0 H0 σ F H δ W o D} _ r tk hg hP => by
  refine ws_of (ps_asg (pe_tupP pa_wa) (pg_tup hc (pgs_cons (pg_name hN hi hx hfx) (pgs_cons (pg_name hN hj hy hfy) pgs_nil hs2) hs1) hn hst) hs hw h1) ?_
  show WA X [a, b] σ H _
  rcases bindE_some hg with ⟨y, h1, rfl⟩ | ⟨ds, δ1, h1, hg⟩
  · exact ha.run r tk h1 fun c dd F' H' r1 e1 rx => hP c dd σ F' H' r1 e1 rx
  · refine ha.run r tk h1 fun vs F1 H1 hd e1 => ?_
    rcases ds with _ | ⟨d1, _ | ⟨d2, _ | ⟨d3, ds⟩⟩⟩ <;> (try (cases hg; done))
    cases hg
    have hlen := Held.len bs hd
    rw [hbl] at hlen
    rcases vs with _ | ⟨u, _ | ⟨v, _ | ⟨v3, vs⟩⟩⟩ <;> (try (simp at hlen; done))
    refine ⟨by rw [sizeLine_eq]; simp, fun p ob hp hpl => ⟨p, [u, v], rfl, (SqP.of upd_same hpl).t, rfl, u, [v], rfl, v, [], rfl, rfl, ?_⟩⟩
    have R := Held.sets (K := X.K) bs [i, j] hb (Held.grow bs hd (grow_aside (o := .frz ob (.tup [u, v])) (Held.fh bs hd) hp))
    refine hP _ F1 _ ?_ e1
    have R' : RSf X ⟨own, P, F0, H0⟩ F1 ((σ.set j (some v)).set i (some u)) (upd H1 p (.frz ob (.tup [u, v]))) ((δ1.set j (some d2)).set i (some d1)) := R
    rwa [List.set_comm _ _ (fun q => hij q.symm), List.set_comm _ _ (fun q => hij q.symm)] at R'⟩
end
theorem fnG_of {P : Program} {w : World} {K : Frag} {mg : Str → Option Value} {base : Heap} {CX : CXT} {k : Nat} {f : Addr} {fd : FuncData} {ps : List Str} {sp : Sp} (F : FnOk P w K mg base CX k f fd ps sp) : FnOkG P w K mg base CX k f fd ps sp :=
  ⟨F.len, fun A outer s H args us vs Q E hr _ e0 hb r h => F.run A outer s H args us vs Q E hr e0 hb r h⟩
end PD
end
section
set_option maxHeartbeats 4000000
namespace Lw
open PySem L2 PD
def meth (i j : Nat) : Stmt := (clsBody (PySem.Challenge.pw_leastshare_k12_loads_and_levels.main.body.getD i (.Pass ⟨0, 0, 0, 0⟩))).getD j (.Pass ⟨0, 0, 0, 0⟩)
def top (i : Nat) : Stmt := PySem.Challenge.pw_leastshare_k12_loads_and_levels.main.body.getD i (.Pass ⟨0, 0, 0, 0⟩)
def k_NOUGHT : D := (.tup [(.int 0), (.int 1)])
structure Txt (K : Frag) (mg : Str → Option Value) : Prop where
  b_abs : mg "abs" = none
  b_all : mg "all" = none
  b_bool : mg "bool" = none
  b_dict : mg "dict" = none
  b_enumerate : mg "enumerate" = none
  b_int : mg "int" = none
  b_isinstance : mg "isinstance" = none
  b_iter : mg "iter" = none
  b_len : mg "len" = none
  b_list : mg "list" = none
  b_max : mg "max" = none
  b_range : mg "range" = none
  b_sorted : mg "sorted" = none
  b_str : mg "str" = none
  b_sum : mg "sum" = none
  b_tuple : mg "tuple" = none
  b_zip : mg "zip" = none
  k_NOUGHT : Kc K mg "NOUGHT" k_NOUGHT
  c_Net : SlX.SCls K (He.ga K "Net")
  mk_Net : Mk K (He.ga K "Net") (He.ma K (He.ga K "Net") "__init__")
  gc_Net : mg "Net" = some (.ref (He.ga K "Net"))
  sl_Net_own_flows : SlF K "Net" "own_flows" 0
  sl_Net_own_names : SlF K "Net" "own_names" 1
  sl_Net_own_rooms : SlF K "Net" "own_rooms" 2
  f_Net___init__ : ∃ fd, FunD K "__init__" "Net.__init__" (defArgs (meth 13 1)) (defBody (meth 13 1)) (defScope (meth 13 1)) [] [] (He.ma K (He.ga K "Net") "__init__") fd
  m_Net___iter__ : Meth K (He.ga K "Net") "__iter__" (He.ma K (He.ga K "Net") "__iter__")
  f_Net___iter__ : ∃ fd, FunD K "__iter__" "Net.__iter__" (defArgs (meth 13 2)) (defBody (meth 13 2)) (defScope (meth 13 2)) [] [] (He.ma K (He.ga K "Net") "__iter__") fd
  m_Net_weight : Meth K (He.ga K "Net") "weight" (He.ma K (He.ga K "Net") "weight")
  f_Net_weight : ∃ fd, FunD K "weight" "Net.weight" (defArgs (meth 13 8)) (defBody (meth 13 8)) (defScope (meth 13 8)) [] [] (He.ma K (He.ga K "Net") "weight") fd
  m_Net_flows_on : Meth K (He.ga K "Net") "flows_on" (He.ma K (He.ga K "Net") "flows_on")
  f_Net_flows_on : ∃ fd, FunD K "flows_on" "Net.flows_on" (defArgs (meth 13 11)) (defBody (meth 13 11)) (defScope (meth 13 11)) [] [] (He.ma K (He.ga K "Net") "flows_on") fd
  m_Net_load : Meth K (He.ga K "Net") "load" (He.ma K (He.ga K "Net") "load")
  f_Net_load : ∃ fd, FunD K "load" "Net.load" (defArgs (meth 13 12)) (defBody (meth 13 12)) (defScope (meth 13 12)) [] [] (He.ma K (He.ga K "Net") "load") fd
  m_Net_level : Meth K (He.ga K "Net") "level" (He.ma K (He.ga K "Net") "level")
  f_Net_level : ∃ fd, FunD K "level" "Net.level" (defArgs (meth 13 14)) (defBody (meth 13 14)) (defScope (meth 13 14)) [] [] (He.ma K (He.ga K "Net") "level") fd
  f_tupled : ∃ fd, FunD K "tupled" "tupled" (defArgs (top 2)) (defBody (top 2)) (defScope (top 2)) [] [] (He.ga K "tupled") fd
  g_tupled : mg "tupled" = some (.ref (He.ga K "tupled"))
  f_is_number : ∃ fd, FunD K "is_number" "is_number" (defArgs (top 5)) (defBody (top 5)) (defScope (top 5)) [] [] (He.ga K "is_number") fd
  g_is_number : mg "is_number" = some (.ref (He.ga K "is_number"))
  f_divisor : ∃ fd, FunD K "divisor" "divisor" (defArgs (top 6)) (defBody (top 6)) (defScope (top 6)) [] [] (He.ga K "divisor") fd
  g_divisor : mg "divisor" = some (.ref (He.ga K "divisor"))
  f_lowest : ∃ fd, FunD K "lowest" "lowest" (defArgs (top 7)) (defBody (top 7)) (defScope (top 7)) [] [] (He.ga K "lowest") fd
  g_lowest : mg "lowest" = some (.ref (He.ga K "lowest"))
  f_whole : ∃ fd, FunD K "whole" "whole" (defArgs (top 8)) (defBody (top 8)) (defScope (top 8)) [] [] (He.ga K "whole") fd
  g_whole : mg "whole" = some (.ref (He.ga K "whole"))
  f_plus : ∃ fd, FunD K "plus" "plus" (defArgs (top 9)) (defBody (top 9)) (defScope (top 9)) [] [] (He.ga K "plus") fd
  g_plus : mg "plus" = some (.ref (He.ga K "plus"))
  f_over : ∃ fd, FunD K "over" "over" (defArgs (top 10)) (defBody (top 10)) (defScope (top 10)) [] [] (He.ga K "over") fd
  g_over : mg "over" = some (.ref (He.ga K "over"))
  f_sum_of : ∃ fd, FunD K "sum_of" "sum_of" (defArgs (top 11)) (defBody (top 11)) (defScope (top 11)) [] [] (He.ga K "sum_of") fd
  g_sum_of : mg "sum_of" = some (.ref (He.ga K "sum_of"))
  f_share_dict : ∃ fd, FunD K "share_dict" "share_dict" (defArgs (top 14)) (defBody (top 14)) (defScope (top 14)) [] [] (He.ga K "share_dict") fd
  g_share_dict : mg "share_dict" = some (.ref (He.ga K "share_dict"))
  f_load : ∃ fd, FunD K "load" "load" (defArgs (top 15)) (defBody (top 15)) (defScope (top 15)) [] [] (He.ga K "load") fd
  g_load : mg "load" = some (.ref (He.ga K "load"))
  f_level : ∃ fd, FunD K "level" "level" (defArgs (top 16)) (defBody (top 16)) (defScope (top 16)) [] [] (He.ga K "level") fd
  g_level : mg "level" = some (.ref (He.ga K "level"))
  f__law_box : ∃ fd, FunD K "_law_box" "_law_box" (defArgs (top 18)) (defBody (top 18)) (defScope (top 18)) [] [] (He.ga K "_law_box") fd
  g__law_box : mg "_law_box" = some (.ref (He.ga K "_law_box"))
  f__law_take : ∃ fd, FunD K "_law_take" "_law_take" (defArgs (top 19)) (defBody (top 19)) (defScope (top 19)) [] [] (He.ga K "_law_take") fd
  g__law_take : mg "_law_take" = some (.ref (He.ga K "_law_take"))
  f__law_cells : ∃ fd, FunD K "_law_cells" "_law_cells" (defArgs (top 20)) (defBody (top 20)) (defScope (top 20)) [] [] (He.ga K "_law_cells") fd
  g__law_cells : mg "_law_cells" = some (.ref (He.ga K "_law_cells"))
  f__law_of : ∃ fd, FunD K "_law_of" "_law_of" (defArgs (top 21)) (defBody (top 21)) (defScope (top 21)) [] [] (He.ga K "_law_of") fd
  g__law_of : mg "_law_of" = some (.ref (He.ga K "_law_of"))
  f__law_lists : ∃ fd, FunD K "_law_lists" "_law_lists" (defArgs (top 22)) (defBody (top 22)) (defScope (top 22)) [] [] (He.ga K "_law_lists") fd
  g__law_lists : mg "_law_lists" = some (.ref (He.ga K "_law_lists"))
  f__law_same : ∃ fd, FunD K "_law_same" "_law_same" (defArgs (top 23)) (defBody (top 23)) (defScope (top 23)) [] [] (He.ga K "_law_same") fd
  g__law_same : mg "_law_same" = some (.ref (He.ga K "_law_same"))
  f__law_terms : ∃ fd, FunD K "_law_terms" "_law_terms" (defArgs (top 24)) (defBody (top 24)) (defScope (top 24)) [] [] (He.ga K "_law_terms") fd
  g__law_terms : mg "_law_terms" = some (.ref (He.ga K "_law_terms"))
  f__law_plus : ∃ fd, FunD K "_law_plus" "_law_plus" (defArgs (top 25)) (defBody (top 25)) (defScope (top 25)) [] [] (He.ga K "_law_plus") fd
  g__law_plus : mg "_law_plus" = some (.ref (He.ga K "_law_plus"))
  f__law_minus : ∃ fd, FunD K "_law_minus" "_law_minus" (defArgs (top 26)) (defBody (top 26)) (defScope (top 26)) [] [] (He.ga K "_law_minus") fd
  g__law_minus : mg "_law_minus" = some (.ref (He.ga K "_law_minus"))
  f__law_by : ∃ fd, FunD K "_law_by" "_law_by" (defArgs (top 27)) (defBody (top 27)) (defScope (top 27)) [] [] (He.ga K "_law_by") fd
  g__law_by : mg "_law_by" = some (.ref (He.ga K "_law_by"))
  f__law_part : ∃ fd, FunD K "_law_part" "_law_part" (defArgs (top 28)) (defBody (top 28)) (defScope (top 28)) [] [] (He.ga K "_law_part") fd
  g__law_part : mg "_law_part" = some (.ref (He.ga K "_law_part"))
  f__law_under : ∃ fd, FunD K "_law_under" "_law_under" (defArgs (top 29)) (defBody (top 29)) (defScope (top 29)) [] [] (He.ga K "_law_under") fd
  g__law_under : mg "_law_under" = some (.ref (He.ga K "_law_under"))
  f__law_sum : ∃ fd, FunD K "_law_sum" "_law_sum" (defArgs (top 30)) (defBody (top 30)) (defScope (top 30)) [] [] (He.ga K "_law_sum") fd
  g__law_sum : mg "_law_sum" = some (.ref (He.ga K "_law_sum"))
  f__law_drawn_net : ∃ fd, FunD K "_law_drawn_net" "_law_drawn_net" (defArgs (top 31)) (defBody (top 31)) (defScope (top 31)) [] [] (He.ga K "_law_drawn_net") fd
  g__law_drawn_net : mg "_law_drawn_net" = some (.ref (He.ga K "_law_drawn_net"))
  f__law_roomy : ∃ fd, FunD K "_law_roomy" "_law_roomy" (defArgs (top 32)) (defBody (top 32)) (defScope (top 32)) [] [] (He.ga K "_law_roomy") fd
  g__law_roomy : mg "_law_roomy" = some (.ref (He.ga K "_law_roomy"))
  f__law_at : ∃ fd, FunD K "_law_at" "_law_at" (defArgs (top 34)) (defBody (top 34)) (defScope (top 34)) [] [] (He.ga K "_law_at") fd
  g__law_at : mg "_law_at" = some (.ref (He.ga K "_law_at"))
  f__law_loads : ∃ fd, FunD K "_law_loads" "_law_loads" (defArgs (top 35)) (defBody (top 35)) (defScope (top 35)) [] [] (He.ga K "_law_loads") fd
  g__law_loads : mg "_law_loads" = some (.ref (He.ga K "_law_loads"))
  f__law_stopped : ∃ fd, FunD K "_law_stopped" "_law_stopped" (defArgs (top 36)) (defBody (top 36)) (defScope (top 36)) [] [] (He.ga K "_law_stopped") fd
  g__law_stopped : mg "_law_stopped" = some (.ref (He.ga K "_law_stopped"))
  f__law_events : ∃ fd, FunD K "_law_events" "_law_events" (defArgs (top 37)) (defBody (top 37)) (defScope (top 37)) [] [] (He.ga K "_law_events") fd
  g__law_events : mg "_law_events" = some (.ref (He.ga K "_law_events"))
  f__law_fair : ∃ fd, FunD K "_law_fair" "_law_fair" (defArgs (top 33)) (defBody (top 33)) (defScope (top 33)) [] [] (He.ga K "_law_fair") fd
  g__law_fair : mg "_law_fair" = some (.ref (He.ga K "_law_fair"))
  f__law_pairs : ∃ fd, FunD K "_law_pairs" "_law_pairs" (defArgs (top 38)) (defBody (top 38)) (defScope (top 38)) [] [] (He.ga K "_law_pairs") fd
  g__law_pairs : mg "_law_pairs" = some (.ref (He.ga K "_law_pairs"))
  f__law_spare : ∃ fd, FunD K "_law_spare" "_law_spare" (defArgs (top 40)) (defBody (top 40)) (defScope (top 40)) [] [] (He.ga K "_law_spare") fd
  g__law_spare : mg "_law_spare" = some (.ref (He.ga K "_law_spare"))
  f__law_any_shares : ∃ fd, FunD K "_law_any_shares" "_law_any_shares" (defArgs (top 39)) (defBody (top 39)) (defScope (top 39)) [] [] (He.ga K "_law_any_shares") fd
  g__law_any_shares : mg "_law_any_shares" = some (.ref (He.ga K "_law_any_shares"))
  f__law_right : ∃ fd, FunD K "_law_right" "_law_right" (defArgs (top 41)) (defBody (top 41)) (defScope (top 41)) [] [] (He.ga K "_law_right") fd
  g__law_right : mg "_law_right" = some (.ref (He.ga K "_law_right"))
  f_law : ∃ fd, FunD K "law" "law" (defArgs (top 42)) (defBody (top 42)) (defScope (top 42)) [] [] (He.ga K "law") fd
  g_law : mg "law" = some (.ref (He.ga K "law"))
section
variable {P : Program} {w : World} {K : Frag} {mg : Str → Option Value} {base : Heap}
abbrev s_tupled : Stmt := top 2
theorem sc_tupled : FnScope ["thing", "part"] ["thing"] (defScope s_tupled) := ⟨rfl, rfl, rfl, by decide +kernel, rfl, by decide +kernel, by decide +kernel⟩
def d_tupled : Nat → List D → Rs D
  | 0 => fun _ => none
  | n + 1 => den 1 2 (sret (lf [] (vif (tr (visi2 .list .tuple (v 0))) (vcallB (one dTuple) (acons (pur (ecomp [1] (iany (lf [] (v 0))) (gn 1) tyes (lf [] (vcall (d_tupled n) (acons (v 1) anil))))) anil)) (v 0))))
theorem ok_tupled (T : Txt K mg) {fd : FuncData} (F : FunD K "tupled" "tupled" (defArgs s_tupled) (defBody s_tupled) (defScope s_tupled) [] [] (He.ga K "tupled") fd) : ∀ n, FnOk P w K mg base (L2.CX P w) (1 + n) (He.ga K "tupled") fd ["thing"] (spP K (d_tupled n))
  | 0 => fn_none F sc_tupled
  | n + 1 => by
    have sc := sc_tupled
    have ih : Fn P w K mg base (1 + n) "tupled" (d_tupled n) := ⟨_, fd, ["thing"], ok_tupled T F n, T.g_tupled, F.kp, F.bindsN fun _ _ _ _ _ _ us hl => match us, hl with | [_], _ => rfl⟩
    exact fn_okB (k := 1 + n) F sc (own := []) rfl rfl (fun cdv A outer s H E hr => (jb_of (js_one (js_ret (js_lift (jp_if (jt_truth (jp_isi2 .list .tuple T.b_isinstance T.b_list PyProof.Rows.boot_list T.b_tuple PyProof.Rows.boot_tuple (jp_v 0))) (jp_callTy call_tupleP d_tuple T.b_tuple PyProof.Rows.boot_tuple (ja_cons (j_of (je_lc (ow := [("part", 1)]) rfl sc.nd (ji_any (js_lift (jp_v 0))) (blkOk_by (by kernel_rfl)) (fun _ _ _ _ _ => (jg_n 1 sc.nd)) (fun _ _ _ _ _ => jts_nil) (fun _ _ _ _ _ => (js_lift (jp_call ih (hr.mono (by omega)) (ja_cons (jp_v 1) ja_nil)))))) ja_nil)) (jp_v 0)))))))
theorem fn_tupled (T : Txt K mg) (n : Nat) : Fn P w K mg base (1 + n) "tupled" (d_tupled n) := by
  obtain ⟨fd, F⟩ := T.f_tupled
  exact ⟨_, fd, ["thing"], ok_tupled T F n, T.g_tupled, F.kp, F.bindsN fun _ _ _ _ _ _ us hl => match us, hl with | [_], _ => rfl⟩
abbrev s_is_number : Stmt := top 5
theorem sc_is_number : FnScope ["thing"] ["thing"] (defScope s_is_number) := ⟨rfl, rfl, rfl, by decide +kernel, rfl, by decide +kernel, by decide +kernel⟩
def d_is_number : List D → Rs D := den 1 1 (sret (lf [] (vand (visi .int (v 0)) (vnot (visi .bool (v 0))))))
theorem ok_is_number (T : Txt K mg) {fd : FuncData} (F : FunD K "is_number" "is_number" (defArgs s_is_number) (defBody s_is_number) (defScope s_is_number) [] [] (He.ga K "is_number") fd) : FnOk P w K mg base (L2.CX P w) 1 (He.ga K "is_number") fd ["thing"] (spP K d_is_number) := by
  have sc := sc_is_number
  exact fn_okB F sc (own := []) rfl rfl (fun cdv A outer s H E hr => (jb_of (js_one (js_ret (js_lift (jp_and (jp_isi .int T.b_isinstance T.b_int PyProof.Rows.boot_int (jp_v 0)) (jp_one (jp_not (jp_isi .bool T.b_isinstance T.b_bool PyProof.Rows.boot_bool (jp_v 0))))))))))
theorem fn_is_number (T : Txt K mg) : Fn P w K mg base 1 "is_number" d_is_number := by
  obtain ⟨fd, F⟩ := T.f_is_number
  exact ⟨_, fd, ["thing"], ok_is_number T F, T.g_is_number, F.kp, F.bindsN fun _ _ _ _ _ _ us hl => match us, hl with | [_], _ => rfl⟩
abbrev s_divisor : Stmt := top 6
theorem sc_divisor : FnScope ["first", "second"] ["first", "second"] (defScope s_divisor) := ⟨rfl, rfl, rfl, by decide +kernel, rfl, by decide +kernel, by decide +kernel⟩
def d_divisor : List D → Rs D := den 2 2 (sseq (spar2 0 1 (lf [] (acons (vcallB (one dAbs) (acons (v 0) anil)) (acons (vcallB (one dAbs) (acons (v 1) anil)) anil)))) (sseq (swhile (lf [] (tb (op2 dNe (v 1) (c (.int 0))))) (spar2 0 1 (lf [] (acons (v 1) (acons (op2 dMod (v 0) (v 1)) anil)))) 1000000) (sret (lf [] (v 0)))))
theorem ok_divisor (T : Txt K mg) {fd : FuncData} (F : FunD K "divisor" "divisor" (defArgs s_divisor) (defBody s_divisor) (defScope s_divisor) [] [] (He.ga K "divisor") fd) : FnOk P w K mg base (L2.CX P w) 1 (He.ga K "divisor") fd ["first", "second"] (spP K d_divisor) := by
  have sc := sc_divisor
  exact fn_okB F sc (own := []) rfl rfl (fun cdv A outer s H E hr => (jb_cons (js_par2 0 1 rfl sc.nd (js_lift (ja_cons (jp_callB call_abs d_abs T.b_abs PyProof.Rows.boot_abs (ja_cons (jp_v 0) ja_nil)) (ja_cons (jp_callB call_abs d_abs T.b_abs PyProof.Rows.boot_abs (ja_cons (jp_v 1) ja_nil)) ja_nil)))) (jb_cons (js_while 1000000 (passes_of rfl) (js_lift (jt_ne hr (jp_v 1) jp_int)) (js_one (js_par2 0 1 rfl sc.nd (js_lift (ja_cons (jp_v 1) (ja_cons (jp_mod (jp_v 0) (jp_v 1)) ja_nil)))))) (jb_of (js_one (js_ret (js_lift (jp_v 0))))))))
theorem fn_divisor (T : Txt K mg) : Fn P w K mg base 1 "divisor" d_divisor := by
  obtain ⟨fd, F⟩ := T.f_divisor
  exact ⟨_, fd, ["first", "second"], ok_divisor T F, T.g_divisor, F.kp, F.bindsN fun _ _ _ _ _ _ us hl => match us, hl with | [_, _], _ => rfl⟩
abbrev s_lowest : Stmt := top 7
theorem sc_lowest : FnScope ["upper", "lower", "common"] ["upper", "lower"] (defScope s_lowest) := ⟨rfl, rfl, rfl, by decide +kernel, rfl, by decide +kernel, by decide +kernel⟩
def d_lowest : List D → Rs D := den 2 3 (sseq (sset 2 (lf [] (vcall d_divisor (acons (v 0) (acons (v 1) anil))))) (sseq (sif (lf [] (tb (op2 dLt (v 1) (c (.int 0))))) (sset 2 (lf [] (vneg (v 2)))) snext) (sret (lf [] (vtup (acons (op2 dFdiv (v 0) (v 2)) (acons (op2 dFdiv (v 1) (v 2)) anil)))))))
theorem ok_lowest (T : Txt K mg) {fd : FuncData} (F : FunD K "lowest" "lowest" (defArgs s_lowest) (defBody s_lowest) (defScope s_lowest) [] [] (He.ga K "lowest") fd) : FnOk P w K mg base (L2.CX P w) 2 (He.ga K "lowest") fd ["upper", "lower"] (spP K d_lowest) := by
  have sc := sc_lowest
  exact fn_okB F sc (own := []) rfl rfl (fun cdv A outer s H E hr => (jb_cons (js_set 2 sc.nd (js_lift (jp_call (fn_divisor T) (hr.mono (by omega)) (ja_cons (jp_v 0) (ja_cons (jp_v 1) ja_nil))))) (jb_cons (js_if (js_lift (jt_lt (jp_v 1) jp_int)) (js_one (js_set 2 sc.nd (js_lift (jp_neg (jp_v 2))))) js_nil) (jb_of (js_one (js_ret (js_lift (jp_tup (ja_cons (jp_fdiv (jp_v 0) (jp_v 2)) (ja_cons (jp_fdiv (jp_v 1) (jp_v 2)) ja_nil))))))))))
theorem fn_lowest (T : Txt K mg) : Fn P w K mg base 2 "lowest" d_lowest := by
  obtain ⟨fd, F⟩ := T.f_lowest
  exact ⟨_, fd, ["upper", "lower"], ok_lowest T F, T.g_lowest, F.kp, F.bindsN fun _ _ _ _ _ _ us hl => match us, hl with | [_, _], _ => rfl⟩
abbrev s_whole : Stmt := top 8
theorem sc_whole : FnScope ["number"] ["number"] (defScope s_whole) := ⟨rfl, rfl, rfl, by decide +kernel, rfl, by decide +kernel, by decide +kernel⟩
def d_whole : List D → Rs D := den 1 1 (sret (lf [] (vif (tr (vcall d_is_number (acons (v 0) anil))) (vtup (acons (v 0) (acons (c (.int 1)) anil))) (vcallB (one dTuple) (acons (v 0) anil)))))
theorem ok_whole (T : Txt K mg) {fd : FuncData} (F : FunD K "whole" "whole" (defArgs s_whole) (defBody s_whole) (defScope s_whole) [] [] (He.ga K "whole") fd) : FnOk P w K mg base (L2.CX P w) 2 (He.ga K "whole") fd ["number"] (spP K d_whole) := by
  have sc := sc_whole
  exact fn_okB F sc (own := []) rfl rfl (fun cdv A outer s H E hr => (jb_of (js_one (js_ret (js_lift (jp_if (jt_truth (jp_call (fn_is_number T) (hr.mono (by omega)) (ja_cons (jp_v 0) ja_nil))) (jp_tup (ja_cons (jp_v 0) (ja_cons jp_int ja_nil))) (jp_callTy call_tupleP d_tuple T.b_tuple PyProof.Rows.boot_tuple (ja_cons (jp_v 0) ja_nil))))))))
theorem fn_whole (T : Txt K mg) : Fn P w K mg base 2 "whole" d_whole := by
  obtain ⟨fd, F⟩ := T.f_whole
  exact ⟨_, fd, ["number"], ok_whole T F, T.g_whole, F.kp, F.bindsN fun _ _ _ _ _ _ us hl => match us, hl with | [_], _ => rfl⟩
abbrev s_plus : Stmt := top 9
theorem sc_plus : FnScope ["one", "other"] ["one", "other"] (defScope s_plus) := ⟨rfl, rfl, rfl, by decide +kernel, rfl, by decide +kernel, by decide +kernel⟩
def d_plus : List D → Rs D := den 2 2 (sret (lf [] (vcall d_lowest (acons (op2 dAdd (op2 dMul (op2 dIx (v 0) (c (.int 0))) (op2 dIx (v 1) (c (.int 1)))) (op2 dMul (op2 dIx (v 1) (c (.int 0))) (op2 dIx (v 0) (c (.int 1))))) (acons (op2 dMul (op2 dIx (v 0) (c (.int 1))) (op2 dIx (v 1) (c (.int 1)))) anil)))))
theorem ok_plus (T : Txt K mg) {fd : FuncData} (F : FunD K "plus" "plus" (defArgs s_plus) (defBody s_plus) (defScope s_plus) [] [] (He.ga K "plus") fd) : FnOk P w K mg base (L2.CX P w) 3 (He.ga K "plus") fd ["one", "other"] (spP K d_plus) := by
  have sc := sc_plus
  exact fn_okB F sc (own := []) rfl rfl (fun cdv A outer s H E hr => (jb_of (js_one (js_ret (js_lift (jp_call (fn_lowest T) (hr.mono (by omega)) (ja_cons (jp_add (jp_mul (jp_ix hr (jp_v 0) jp_int) (jp_ix hr (jp_v 1) jp_int)) (jp_mul (jp_ix hr (jp_v 1) jp_int) (jp_ix hr (jp_v 0) jp_int))) (ja_cons (jp_mul (jp_ix hr (jp_v 0) jp_int) (jp_ix hr (jp_v 1) jp_int)) ja_nil))))))))
theorem fn_plus (T : Txt K mg) : Fn P w K mg base 3 "plus" d_plus := by
  obtain ⟨fd, F⟩ := T.f_plus
  exact ⟨_, fd, ["one", "other"], ok_plus T F, T.g_plus, F.kp, F.bindsN fun _ _ _ _ _ _ us hl => match us, hl with | [_, _], _ => rfl⟩
abbrev s_over : Stmt := top 10
theorem sc_over : FnScope ["one", "other"] ["one", "other"] (defScope s_over) := ⟨rfl, rfl, rfl, by decide +kernel, rfl, by decide +kernel, by decide +kernel⟩
def d_over : List D → Rs D := den 2 2 (sret (lf [] (vcall d_lowest (acons (op2 dMul (op2 dIx (v 0) (c (.int 0))) (op2 dIx (v 1) (c (.int 1)))) (acons (op2 dMul (op2 dIx (v 0) (c (.int 1))) (op2 dIx (v 1) (c (.int 0)))) anil)))))
theorem ok_over (T : Txt K mg) {fd : FuncData} (F : FunD K "over" "over" (defArgs s_over) (defBody s_over) (defScope s_over) [] [] (He.ga K "over") fd) : FnOk P w K mg base (L2.CX P w) 3 (He.ga K "over") fd ["one", "other"] (spP K d_over) := by
  have sc := sc_over
  exact fn_okB F sc (own := []) rfl rfl (fun cdv A outer s H E hr => (jb_of (js_one (js_ret (js_lift (jp_call (fn_lowest T) (hr.mono (by omega)) (ja_cons (jp_mul (jp_ix hr (jp_v 0) jp_int) (jp_ix hr (jp_v 1) jp_int)) (ja_cons (jp_mul (jp_ix hr (jp_v 0) jp_int) (jp_ix hr (jp_v 1) jp_int)) ja_nil))))))))
theorem fn_over (T : Txt K mg) : Fn P w K mg base 3 "over" d_over := by
  obtain ⟨fd, F⟩ := T.f_over
  exact ⟨_, fd, ["one", "other"], ok_over T F, T.g_over, F.kp, F.bindsN fun _ _ _ _ _ _ us hl => match us, hl with | [_, _], _ => rfl⟩
abbrev s_sum_of : Stmt := top 11
theorem sc_sum_of : FnScope ["some", "found", "part"] ["some"] (defScope s_sum_of) := ⟨rfl, rfl, rfl, by decide +kernel, rfl, by decide +kernel, by decide +kernel⟩
def d_sum_of : List D → Rs D := den 1 3 (sseq (sset 1 (lf [] (c k_NOUGHT))) (sseq (sforI (iany (lf [] (v 0))) (gn 2) (sset 1 (lf [] (vcall d_plus (acons (v 1) (acons (v 2) anil)))))) (sret (lf [] (v 1)))))
theorem ok_sum_of (T : Txt K mg) {fd : FuncData} (F : FunD K "sum_of" "sum_of" (defArgs s_sum_of) (defBody s_sum_of) (defScope s_sum_of) [] [] (He.ga K "sum_of") fd) : FnOk P w K mg base (L2.CX P w) 4 (He.ga K "sum_of") fd ["some"] (spP K d_sum_of) := by
  have sc := sc_sum_of
  exact fn_okB F sc (own := []) rfl rfl (fun cdv A outer s H E hr => (jb_cons (js_set 1 sc.nd (js_lift (jp_k T.k_NOUGHT))) (jb_cons (js_for (passes_of rfl) rfl (ji_any (js_lift (jp_v 0))) (jg_n 2 sc.nd) (js_one (js_set 1 sc.nd (js_lift (jp_call (fn_plus T) (hr.mono (by omega)) (ja_cons (jp_v 1) (ja_cons (jp_v 2) ja_nil))))))) (jb_of (js_one (js_ret (js_lift (jp_v 1))))))))
theorem fn_sum_of (T : Txt K mg) : Fn P w K mg base 4 "sum_of" d_sum_of := by
  obtain ⟨fd, F⟩ := T.f_sum_of
  exact ⟨_, fd, ["some"], ok_sum_of T F, T.g_sum_of, F.kp, F.bindsN fun _ _ _ _ _ _ us hl => match us, hl with | [_], _ => rfl⟩
abbrev s_Net___init__ : Stmt := meth 13 1
theorem sc_Net___init__ : FnScope ["self", "net", "lines", "flows", "name", "capacity", "row"] ["self", "net"] (defScope s_Net___init__) := ⟨rfl, rfl, rfl, by decide +kernel, rfl, by decide +kernel, by decide +kernel⟩
def d_Net___init__ : List D → Option D := denI "Net" 2 7 (sseq (sasg (gt (gscons (gn 2) (gscons (gn 3) gsnil))) (lf [0] (vcall (d_tupled 12) (acons (v 1) anil)))) (sseq (sfset 0 2 "Net" (lf [0] (pur (edcomp [4, 5] (iany (lf [] (v 2))) (gt (gscons (gn 4) (gscons (gn 5) gsnil))) tyes (lf [] (v 4)) (lf [] (vcall d_whole (acons (v 5) anil))))))) (sseq (sfset 0 0 "Net" (lf [0] (pur (edcomp [6] (iany (lf [] (v 3))) (gn 6) tyes (lf [] (op2 dIx (v 6) (c (.int 0)))) (lf [] (v 6)))))) (sfset 0 1 "Net" (ecallG (one dSorted2) (econs (efld 0 0 "Net") enil))))))
theorem ok_Net___init__ (T : Txt K mg) {fd : FuncData} (F : FunD K "__init__" "Net.__init__" (defArgs s_Net___init__) (defBody s_Net___init__) (defScope s_Net___init__) [] [] (He.ma K (He.ga K "Net") "__init__") fd) : FnOk P w K mg base (L2.CX P w) 14 (He.ma K (He.ga K "Net") "__init__") fd ["self", "net"] (spI K "Net" d_Net___init__) := by
  have sc := sc_Net___init__
  exact fnI_okB "Net" F sc (own := [0]) rfl rfl rfl (fun cdv A outer s H E hr => (jb_cons (js_asg (jg_t rfl (jgs_cons (jg_n 2 sc.nd) (jgs_cons (jg_n 3 sc.nd) jgs_nil)) (gl_cons (gl_cons gl_nil))) (js_lift (jp_call (fn_tupled T 12) (hr.mono (by omega)) (ja_cons (jp_v 1) ja_nil)))) (jb_cons (js_fset 0 T.sl_Net_own_rooms (js_lift (j_of (je_n (jn_dc (ow := [("name", 4), ("capacity", 5)]) rfl sc.nd (ji_any (js_lift (jp_v 2))) (blkOk_by (by kernel_rfl)) (fun _ _ _ _ _ => (jg_t rfl (jgs_cons (jg_n 4 sc.nd) (jgs_cons (jg_n 5 sc.nd) jgs_nil)) (gl_cons (gl_cons gl_nil)))) (fun _ _ _ _ _ => jts_nil) (fun _ _ _ _ _ => (js_lift (jp_v 4))) (fun _ _ _ _ _ => (js_lift (jp_call (fn_whole T) (hr.mono (by omega)) (ja_cons (jp_v 5) ja_nil))))))))) (jb_cons (js_fset 0 T.sl_Net_own_flows (js_lift (j_of (je_n (jn_dc (ow := [("row", 6)]) rfl sc.nd (ji_any (js_lift (jp_v 3))) (blkOk_by (by kernel_rfl)) (fun _ _ _ _ _ => (jg_n 6 sc.nd)) (fun _ _ _ _ _ => jts_nil) (fun _ _ _ _ _ => (js_lift (jp_ix hr (jp_v 6) jp_int))) (fun _ _ _ _ _ => (js_lift (jp_v 6)))))))) (jb_of (js_one (js_fset 0 T.sl_Net_own_names (je_bi (b_sorted2 rfl (hu70 hr)) d_sorted2 T.b_sorted rfl (jae_cons (je_fld 0 T.sl_Net_own_flows) jae_nil)))))))))
theorem fn_Net___init__ (T : Txt K mg) : FnI P w K mg base 14 "Net" d_Net___init__ := by
  obtain ⟨fd, F⟩ := T.f_Net___init__
  exact ⟨_, fd, ["self", "net"], ok_Net___init__ T F, T.mk_Net, T.gc_Net, F.bindsN fun _ _ _ _ _ _ us hl => match us, hl with | [_, _], _ => rfl⟩
abbrev s_Net___iter__ : Stmt := meth 13 2
theorem sc_Net___iter__ : FnScope ["self"] ["self"] (defScope s_Net___iter__) := ⟨rfl, rfl, rfl, by decide +kernel, rfl, by decide +kernel, by decide +kernel⟩
theorem fn_Net___iter__ (T : Txt K mg) : FnIt P w K mg base 1 "Net" 1 := by
  obtain ⟨fd, F⟩ := T.f_Net___iter__
  refine ⟨_, fnS_ok F sc_Net___iter__ (F.bindsN fun _ _ _ _ _ _ us hl => match us, hl with | [_], _ => rfl) (fun s vs H Q E h => ?_) (fun cdv A out s H vs Q E hr h => ?_), T.m_Net___iter__.at_, T.m_Net___iter__.fn⟩
  · obtain ⟨a, dx, fs, l, zs, rfl, _⟩ := h; rfl
  · obtain ⟨a, dx, fs, l, zs, rfl, h2, h3, h4, h5⟩ := h
    exact ws_ret (we_iter T.sl_Net_own_names T.b_iter ⟨a, dx, fs, l, zs, rfl, h2, h3, h4, h5⟩)
abbrev s_Net_weight : Stmt := meth 13 8
theorem sc_Net_weight : FnScope ["self", "flow"] ["self", "flow"] (defScope s_Net_weight) := ⟨rfl, rfl, rfl, by decide +kernel, rfl, by decide +kernel, by decide +kernel⟩
def d_Net_weight : List D → Rs D := den 2 2 (sret (lf [] (op2 dIx (op2 dIx (vattr "Net" 0 (v 0)) (v 1)) (c (.int 2)))))
theorem ok_Net_weight (T : Txt K mg) {fd : FuncData} (F : FunD K "weight" "Net.weight" (defArgs s_Net_weight) (defBody s_Net_weight) (defScope s_Net_weight) [] [] (He.ma K (He.ga K "Net") "weight") fd) : FnOk P w K mg base (L2.CX P w) 1 (He.ma K (He.ga K "Net") "weight") fd ["self", "flow"] (spP K d_Net_weight) := by
  have sc := sc_Net_weight
  exact fn_okB F sc (own := []) rfl rfl (fun cdv A outer s H E hr => (jb_of (js_one (js_ret (js_lift (jp_ix hr (jp_ix hr (jp_attr T.sl_Net_own_flows (jp_v 0)) (jp_v 1)) jp_int))))))
theorem fn_Net_weight (T : Txt K mg) : FnM P w K mg base 1 "Net" "weight" d_Net_weight := by
  obtain ⟨fd, F⟩ := T.f_Net_weight
  exact ⟨T.c_Net, _, fd, ["self", "flow"], ok_Net_weight T F, T.m_Net_weight, F.bindsN fun _ _ _ _ _ _ us hl => match us, hl with | [_, _], _ => rfl⟩
abbrev s_Net_flows_on : Stmt := meth 13 11
theorem sc_Net_flows_on : FnScope ["self", "line", "name"] ["self", "line"] (defScope s_Net_flows_on) := ⟨rfl, rfl, rfl, by decide +kernel, rfl, by decide +kernel, by decide +kernel⟩
def d_Net_flows_on : List D → Rs D := den 2 3 (sret (lf [] (pur (ecomp [2] (iobj "Net" 1 (lf [] (v 0))) (gn 2) (lf [] (tb (op2 dIn (v 1) (op2 dIx (op2 dIx (vattr "Net" 0 (v 0)) (v 2)) (c (.int 1)))))) (lf [] (v 2))))))
theorem ok_Net_flows_on (T : Txt K mg) {fd : FuncData} (F : FunD K "flows_on" "Net.flows_on" (defArgs s_Net_flows_on) (defBody s_Net_flows_on) (defScope s_Net_flows_on) [] [] (He.ma K (He.ga K "Net") "flows_on") fd) : FnOk P w K mg base (L2.CX P w) 2 (He.ma K (He.ga K "Net") "flows_on") fd ["self", "line"] (spP K d_Net_flows_on) := by
  have sc := sc_Net_flows_on
  exact fn_okB F sc (own := []) rfl rfl (fun cdv A outer s H E hr => (jb_of (js_one (js_ret (js_lift (j_of (je_lc (ow := [("name", 2)]) rfl sc.nd (ji_obj (fn_Net___iter__ T) (hr.mono (by omega)) (js_lift (jp_v 0))) (blkOk_by (by kernel_rfl)) (fun _ _ _ _ _ => (jg_n 2 sc.nd)) (fun _ _ _ _ _ => (jts_one (js_lift (jt_c (jc_in hr (jp_v 1) (jp_ix hr (jp_ix hr (jp_attr T.sl_Net_own_flows (jp_v 0)) (jp_v 2)) jp_int)))))) (fun _ _ _ _ _ => (js_lift (jp_v 2))))))))))
theorem fn_Net_flows_on (T : Txt K mg) : FnM P w K mg base 2 "Net" "flows_on" d_Net_flows_on := by
  obtain ⟨fd, F⟩ := T.f_Net_flows_on
  exact ⟨T.c_Net, _, fd, ["self", "line"], ok_Net_flows_on T F, T.m_Net_flows_on, F.bindsN fun _ _ _ _ _ _ us hl => match us, hl with | [_, _], _ => rfl⟩
abbrev s_Net_load : Stmt := meth 13 12
theorem sc_Net_load : FnScope ["self", "shares", "line", "name"] ["self", "shares", "line"] (defScope s_Net_load) := ⟨rfl, rfl, rfl, by decide +kernel, rfl, by decide +kernel, by decide +kernel⟩
def d_Net_load : List D → Rs D := den 3 4 (sret (lf [] (vcall d_sum_of (acons (pur (ecomp [3] (iany (lf [] (vmeth "Net" d_Net_flows_on (v 0) (acons (v 2) anil)))) (gn 3) tyes (lf [] (op2 dIx (v 1) (v 3))))) anil))))
theorem ok_Net_load (T : Txt K mg) {fd : FuncData} (F : FunD K "load" "Net.load" (defArgs s_Net_load) (defBody s_Net_load) (defScope s_Net_load) [] [] (He.ma K (He.ga K "Net") "load") fd) : FnOk P w K mg base (L2.CX P w) 5 (He.ma K (He.ga K "Net") "load") fd ["self", "shares", "line"] (spP K d_Net_load) := by
  have sc := sc_Net_load
  exact fn_okB F sc (own := []) rfl rfl (fun cdv A outer s H E hr => (jb_of (js_one (js_ret (js_lift (jp_call (fn_sum_of T) (hr.mono (by omega)) (ja_cons (j_of (je_lc (ow := [("name", 3)]) rfl sc.nd (ji_any (js_lift (jp_meth (fn_Net_flows_on T) (hr.mono (by omega)) (jp_v 0) (ja_cons (jp_v 2) ja_nil)))) (blkOk_by (by kernel_rfl)) (fun _ _ _ _ _ => (jg_n 3 sc.nd)) (fun _ _ _ _ _ => jts_nil) (fun _ _ _ _ _ => (js_lift (jp_ix hr (jp_v 1) (jp_v 3)))))) ja_nil)))))))
theorem fn_Net_load (T : Txt K mg) : FnM P w K mg base 5 "Net" "load" d_Net_load := by
  obtain ⟨fd, F⟩ := T.f_Net_load
  exact ⟨T.c_Net, _, fd, ["self", "shares", "line"], ok_Net_load T F, T.m_Net_load, F.bindsN fun _ _ _ _ _ _ us hl => match us, hl with | [_, _, _], _ => rfl⟩
abbrev s_Net_level : Stmt := meth 13 14
theorem sc_Net_level : FnScope ["self", "shares", "flow"] ["self", "shares", "flow"] (defScope s_Net_level) := ⟨rfl, rfl, rfl, by decide +kernel, rfl, by decide +kernel, by decide +kernel⟩
def d_Net_level : List D → Rs D := den 3 3 (sret (lf [] (vcall d_over (acons (op2 dIx (v 1) (v 2)) (acons (vcall d_whole (acons (vmeth "Net" d_Net_weight (v 0) (acons (v 2) anil)) anil)) anil)))))
theorem ok_Net_level (T : Txt K mg) {fd : FuncData} (F : FunD K "level" "Net.level" (defArgs s_Net_level) (defBody s_Net_level) (defScope s_Net_level) [] [] (He.ma K (He.ga K "Net") "level") fd) : FnOk P w K mg base (L2.CX P w) 4 (He.ma K (He.ga K "Net") "level") fd ["self", "shares", "flow"] (spP K d_Net_level) := by
  have sc := sc_Net_level
  exact fn_okB F sc (own := []) rfl rfl (fun cdv A outer s H E hr => (jb_of (js_one (js_ret (js_lift (jp_call (fn_over T) (hr.mono (by omega)) (ja_cons (jp_ix hr (jp_v 1) (jp_v 2)) (ja_cons (jp_call (fn_whole T) (hr.mono (by omega)) (ja_cons (jp_meth (fn_Net_weight T) (hr.mono (by omega)) (jp_v 0) (ja_cons (jp_v 2) ja_nil)) ja_nil)) ja_nil))))))))
theorem fn_Net_level (T : Txt K mg) : FnM P w K mg base 4 "Net" "level" d_Net_level := by
  obtain ⟨fd, F⟩ := T.f_Net_level
  exact ⟨T.c_Net, _, fd, ["self", "shares", "flow"], ok_Net_level T F, T.m_Net_level, F.bindsN fun _ _ _ _ _ _ us hl => match us, hl with | [_, _, _], _ => rfl⟩
abbrev s_share_dict : Stmt := top 14
theorem sc_share_dict : FnScope ["shares"] ["shares"] (defScope s_share_dict) := ⟨rfl, rfl, rfl, by decide +kernel, rfl, by decide +kernel, by decide +kernel⟩
def d_share_dict : List D → Rs D := den 1 1 (sret (lf [] (vcallB (one dDict) (acons (vcall (d_tupled 12) (acons (v 0) anil)) anil))))
theorem ok_share_dict (T : Txt K mg) {fd : FuncData} (F : FunD K "share_dict" "share_dict" (defArgs s_share_dict) (defBody s_share_dict) (defScope s_share_dict) [] [] (He.ga K "share_dict") fd) : FnOk P w K mg base (L2.CX P w) 14 (He.ga K "share_dict") fd ["shares"] (spP K d_share_dict) := by
  have sc := sc_share_dict
  exact fn_okB F sc (own := []) rfl rfl (fun cdv A outer s H E hr => (jb_of (js_one (js_ret (js_lift (jp_callTy (b_dict rfl) d_dict T.b_dict PyProof.Rows.boot_dict (ja_cons (jp_call (fn_tupled T 12) (hr.mono (by omega)) (ja_cons (jp_v 0) ja_nil)) ja_nil)))))))
theorem fn_share_dict (T : Txt K mg) : Fn P w K mg base 14 "share_dict" d_share_dict := by
  obtain ⟨fd, F⟩ := T.f_share_dict
  exact ⟨_, fd, ["shares"], ok_share_dict T F, T.g_share_dict, F.kp, F.bindsN fun _ _ _ _ _ _ us hl => match us, hl with | [_], _ => rfl⟩
abbrev s_load : Stmt := top 15
theorem sc_load : FnScope ["net", "shares", "line"] ["net", "shares", "line"] (defScope s_load) := ⟨rfl, rfl, rfl, by decide +kernel, rfl, by decide +kernel, by decide +kernel⟩
def d_load : List D → Rs D := den 3 3 (sret (lf [] (vmeth "Net" d_Net_load (vmake d_Net___init__ (acons (v 0) anil)) (acons (vcall d_share_dict (acons (v 1) anil)) (acons (v 2) anil)))))
theorem ok_load (T : Txt K mg) {fd : FuncData} (F : FunD K "load" "load" (defArgs s_load) (defBody s_load) (defScope s_load) [] [] (He.ga K "load") fd) : FnOk P w K mg base (L2.CX P w) 16 (He.ga K "load") fd ["net", "shares", "line"] (spP K d_load) := by
  have sc := sc_load
  exact fn_okB F sc (own := []) rfl rfl (fun cdv A outer s H E hr => (jb_of (js_one (js_ret (js_lift (jp_meth (fn_Net_load T) (hr.mono (by omega)) (jp_make (fn_Net___init__ T) (hr.mono (by omega)) (ja_cons (jp_v 0) ja_nil)) (ja_cons (jp_call (fn_share_dict T) (hr.mono (by omega)) (ja_cons (jp_v 1) ja_nil)) (ja_cons (jp_v 2) ja_nil))))))))
theorem fn_load (T : Txt K mg) : Fn P w K mg base 16 "load" d_load := by
  obtain ⟨fd, F⟩ := T.f_load
  exact ⟨_, fd, ["net", "shares", "line"], ok_load T F, T.g_load, F.kp, F.bindsN fun _ _ _ _ _ _ us hl => match us, hl with | [_, _, _], _ => rfl⟩
abbrev s_level : Stmt := top 16
theorem sc_level : FnScope ["net", "shares", "flow"] ["net", "shares", "flow"] (defScope s_level) := ⟨rfl, rfl, rfl, by decide +kernel, rfl, by decide +kernel, by decide +kernel⟩
def d_level : List D → Rs D := den 3 3 (sret (lf [] (vmeth "Net" d_Net_level (vmake d_Net___init__ (acons (v 0) anil)) (acons (vcall d_share_dict (acons (v 1) anil)) (acons (v 2) anil)))))
theorem ok_level (T : Txt K mg) {fd : FuncData} (F : FunD K "level" "level" (defArgs s_level) (defBody s_level) (defScope s_level) [] [] (He.ga K "level") fd) : FnOk P w K mg base (L2.CX P w) 16 (He.ga K "level") fd ["net", "shares", "flow"] (spP K d_level) := by
  have sc := sc_level
  exact fn_okB F sc (own := []) rfl rfl (fun cdv A outer s H E hr => (jb_of (js_one (js_ret (js_lift (jp_meth (fn_Net_level T) (hr.mono (by omega)) (jp_make (fn_Net___init__ T) (hr.mono (by omega)) (ja_cons (jp_v 0) ja_nil)) (ja_cons (jp_call (fn_share_dict T) (hr.mono (by omega)) (ja_cons (jp_v 1) ja_nil)) (ja_cons (jp_v 2) ja_nil))))))))
theorem fn_level (T : Txt K mg) : Fn P w K mg base 16 "level" d_level := by
  obtain ⟨fd, F⟩ := T.f_level
  exact ⟨_, fd, ["net", "shares", "flow"], ok_level T F, T.g_level, F.kp, F.bindsN fun _ _ _ _ _ _ us hl => match us, hl with | [_, _, _], _ => rfl⟩
abbrev s__law_box : Stmt := top 18
theorem sc__law_box : FnScope ["_law_script", "_law_k", "_law_cell"] ["_law_script", "_law_k"] (defScope s__law_box) := ⟨rfl, rfl, rfl, by decide +kernel, rfl, by decide +kernel, by decide +kernel⟩
def d__law_box : List D → Rs D := denN 2 3 (rseq (sset 2 (lf [] (vif (tb (op2 dLt (v 1) (vcallB (one dLen) (acons (v 0) anil)))) (op2 dIx (v 0) (v 1)) (c (.int 0))))) (elst (lf [] (acons (op2 dMul (vcallB (one dAbs) (acons (v 2) anil)) (vcallB (one dInt) (acons (op2 dGe (vcallB (one dAbs) (acons (v 2) anil)) (op2 dPow (c (.int 10)) (c (.int 18)))) anil))) (acons (op2 dAdd (op2 dAdd (op2 dMod (vcallB (one dInt) (acons (v 2) anil)) (c (.int 2305843009213693951))) (op2 dMul (c (.int 39373)) (v 1))) (c (.int 131))) (acons (c (.int 0)) anil))))))
theorem ok__law_box (T : Txt K mg) {fd : FuncData} (F : FunD K "_law_box" "_law_box" (defArgs s__law_box) (defBody s__law_box) (defScope s__law_box) [] [] (He.ga K "_law_box") fd) : FnOk P w K mg base (L2.CX P w) 1 (He.ga K "_law_box") fd ["_law_script", "_law_k"] (spN K d__law_box) := by
  have sc := sc__law_box
  exact fnN_ok F sc (own := []) rfl rfl (fun cdv A outer s H E hr => (jr_cons (js_set 2 sc.nd (js_lift (jp_if (jt_lt (jp_v 1) (jp_callB b_len d_len T.b_len PySem.boot_len (ja_cons (jp_v 0) ja_nil))) (jp_ix hr (jp_v 0) (jp_v 1)) jp_int))) (jr_ret (jn_lst (js_lift (ja_cons (jp_mul (jp_callB call_abs d_abs T.b_abs PyProof.Rows.boot_abs (ja_cons (jp_v 2) ja_nil)) (jp_callTy b_int d_int T.b_int PyProof.Rows.boot_int (ja_cons (jp_ge (jp_callB call_abs d_abs T.b_abs PyProof.Rows.boot_abs (ja_cons (jp_v 2) ja_nil)) (jp_pow jp_int jp_int)) ja_nil))) (ja_cons (jp_add (jp_add (jp_mod (jp_callTy b_int d_int T.b_int PyProof.Rows.boot_int (ja_cons (jp_v 2) ja_nil)) jp_int) (jp_mul jp_int (jp_v 1))) jp_int) (ja_cons jp_int ja_nil))))))))
theorem fn__law_box (T : Txt K mg) : FnN P w K mg base 1 "_law_box" d__law_box := by
  obtain ⟨fd, F⟩ := T.f__law_box
  exact ⟨_, fd, ["_law_script", "_law_k"], ok__law_box T F, T.g__law_box, F.kp, F.bindsN fun _ _ _ _ _ _ us hl => match us, hl with | [_, _], _ => rfl⟩
abbrev s__law_take : Stmt := top 19
theorem sc__law_take : FnScope ["_law_box_here", "_law_below", "_law_drawn", "_law_once", "_law_far", "_law_twice"] ["_law_box_here", "_law_below"] (defScope s__law_take) := ⟨rfl, rfl, rfl, by decide +kernel, rfl, by decide +kernel, by decide +kernel⟩
def d__law_take : List D → List D → Option (D × List D) := denB 2 6 (sseq (sif (lfT (tb (op2 dGt (op2 dIx (v 0) (c (.int 0))) (c (.int 0))))) (sseq (sset 2 (lfo (op2 dMod (vcallB (one dInt) (acons (op2 dIx (v 0) (c (.int 0))) anil)) (v 1)))) (sseq (sixset 0 (lf [0] (c (.int 0))) (lfo (op2 dFdiv (op2 dIx (v 0) (c (.int 0))) (v 1)))) (sret (lf [0] (v 2))))) snext) (sseq (sixset 0 (lf [0] (c (.int 2))) (lfo (op2 dAdd (op2 dIx (v 0) (c (.int 2))) (c (.int 1))))) (sseq (sset 3 (lfo (op2 dMod (vcallB (one dInt) (acons (op2 dMul (op2 dAdd (op2 dIx (v 0) (c (.int 1))) (op2 dMul (c (.int 48271)) (op2 dIx (v 0) (c (.int 2))))) (op2 dAdd (c (.int 39373)) (op2 dIx (v 0) (c (.int 2))))) anil)) (c (.int 2147483647))))) (sseq (sset 4 (lf [0] (op2 dAdd (op2 dMod (vcallB (one dInt) (acons (v 3) anil)) (c (.int 40009))) (c (.int 7))))) (sseq (sset 5 (lfo (op2 dMod (vcallB (one dInt) (acons (op2 dMul (op2 dAdd (op2 dAdd (v 3) (op2 dIx (v 0) (c (.int 2)))) (op2 dFdiv (op2 dIx (v 0) (c (.int 1))) (c (.int 1000003)))) (v 4)) anil)) (c (.int 2147483629))))) (sret (lf [0] (op2 dMod (vcallB (one dInt) (acons (op2 dFdiv (op2 dMod (vcallB (one dInt) (acons (op2 dAdd (op2 dMul (v 5) (c (.int 48271))) (v 3)) anil)) (c (.int 2147483587))) (c (.int 64))) anil)) (v 1)))))))))
theorem ok__law_take (T : Txt K mg) {fd : FuncData} (F : FunD K "_law_take" "_law_take" (defArgs s__law_take) (defBody s__law_take) (defScope s__law_take) [] [] (He.ga K "_law_take") fd) : FnOk P w K mg base (L2.CX P w) 1 (He.ga K "_law_take") fd ["_law_box_here", "_law_below"] (spB K d__law_take) := by
  have sc := sc__law_take
  exact fnB_okB F sc (own := [0]) rfl rfl rfl (fun cdv A outer s H E hr => (jb_cons (js_if (jte_o (jt_gt (jp_ix hr (jp_v 0) jp_int) jp_int)) (js_cons (js_set 2 sc.nd (je_o (jp_mod (jp_callTy b_int d_int T.b_int PyProof.Rows.boot_int (ja_cons (jp_ix hr (jp_v 0) jp_int) ja_nil)) (jp_v 1)))) (js_cons (js_ixset 0 (je_o (jp_fdiv (jp_ix hr (jp_v 0) jp_int) (jp_v 1))) (js_lift jp_int)) (js_one (js_ret (js_lift (jp_v 2)))))) js_nil) (jb_cons (js_ixset 0 (je_o (jp_add (jp_ix hr (jp_v 0) jp_int) jp_int)) (js_lift jp_int)) (jb_cons (js_set 3 sc.nd (je_o (jp_mod (jp_callTy b_int d_int T.b_int PyProof.Rows.boot_int (ja_cons (jp_mul (jp_add (jp_ix hr (jp_v 0) jp_int) (jp_mul jp_int (jp_ix hr (jp_v 0) jp_int))) (jp_add jp_int (jp_ix hr (jp_v 0) jp_int))) ja_nil)) jp_int))) (jb_cons (js_set 4 sc.nd (js_lift (jp_add (jp_mod (jp_callTy b_int d_int T.b_int PyProof.Rows.boot_int (ja_cons (jp_v 3) ja_nil)) jp_int) jp_int))) (jb_cons (js_set 5 sc.nd (je_o (jp_mod (jp_callTy b_int d_int T.b_int PyProof.Rows.boot_int (ja_cons (jp_mul (jp_add (jp_add (jp_v 3) (jp_ix hr (jp_v 0) jp_int)) (jp_fdiv (jp_ix hr (jp_v 0) jp_int) jp_int)) (jp_v 4)) ja_nil)) jp_int))) (jb_of (js_one (js_ret (js_lift (jp_mod (jp_callTy b_int d_int T.b_int PyProof.Rows.boot_int (ja_cons (jp_fdiv (jp_mod (jp_callTy b_int d_int T.b_int PyProof.Rows.boot_int (ja_cons (jp_add (jp_mul (jp_v 5) jp_int) (jp_v 3)) ja_nil)) jp_int) jp_int) ja_nil)) (jp_v 1))))))))))))
theorem fn__law_take (T : Txt K mg) : FnB P w K mg base 1 "_law_take" d__law_take := by
  obtain ⟨fd, F⟩ := T.f__law_take
  exact ⟨_, fd, ["_law_box_here", "_law_below"], ok__law_take T F, T.g__law_take, F.kp, F.bindsN fun _ _ _ _ _ _ us hl => match us, hl with | [_, _], _ => rfl⟩
abbrev s__law_cells : Stmt := top 20
theorem sc__law_cells : FnScope ["_law_script", "_law_most", "_law_cells_here", "_law_k", "_law_cell", "_law_at_so"] ["_law_script", "_law_most"] (defScope s__law_cells) := ⟨rfl, rfl, rfl, by decide +kernel, rfl, by decide +kernel, by decide +kernel⟩
def d__law_cells : List D → Rs D := den 2 6 (sseq (sset 2 (enor (ecallG (one dList) (lf [2] (acons (vsl (v 0) onone (osome (v 1))) anil))) (elst (lf [2] (acons (c (.int 0)) anil))))) (sseq (sforI (ienum (lf [2] (vsl (v 0) (osome (v 1)) (osome (c (.int 63)))))) (gt (gscons (gn 3) (gscons (gn 4) gsnil))) (sseq (sset 5 (lf [2] (op2 dMod (vcallB (one dInt) (acons (v 3) anil)) (v 1)))) (sixset 2 (lf [2] (v 5)) (lfo (op2 dAdd (op2 dIx (v 2) (v 5)) (op2 dMul (v 4) (op2 dAdd (v 3) (c (.int 2))))))))) (sfrz [2] (sret (lf [] (v 2))))))
theorem ok__law_cells (T : Txt K mg) {fd : FuncData} (F : FunD K "_law_cells" "_law_cells" (defArgs s__law_cells) (defBody s__law_cells) (defScope s__law_cells) [] [] (He.ga K "_law_cells") fd) : FnOk P w K mg base (L2.CX P w) 1 (He.ga K "_law_cells") fd ["_law_script", "_law_most"] (spP K d__law_cells) := by
  have sc := sc__law_cells
  exact fn_okB F sc (own := [2]) rfl rfl (fun cdv A outer s H E hr => (jb_cons (js_setN 2 sc.nd (jn_or (jn_ty (b_list rfl) n_list T.b_list PyProof.Rows.boot_list (js_lift (ja_cons (jp_sl (jp_v 0) jo_none (jo_some (jp_v 1))) ja_nil))) (jn_lst (js_lift (ja_cons jp_int ja_nil))))) (jb_cons (js_for (passes_of rfl) rfl (ji_enum T.b_enumerate (js_lift (jp_sl (jp_v 0) (jo_some (jp_v 1)) (jo_some jp_int)))) (jg_t rfl (jgs_cons (jg_n 3 sc.nd) (jgs_cons (jg_n 4 sc.nd) jgs_nil)) (gl_cons (gl_cons gl_nil))) (js_cons (js_set 5 sc.nd (js_lift (jp_mod (jp_callTy b_int d_int T.b_int PyProof.Rows.boot_int (ja_cons (jp_v 3) ja_nil)) (jp_v 1)))) (js_one (js_ixset 2 (je_o (jp_add (jp_ix hr (jp_v 2) (jp_v 5)) (jp_mul (jp_v 4) (jp_add (jp_v 3) jp_int)))) (js_lift (jp_v 5)))))) (jb_frz (own := [2]) 2 (jb_of (js_one (js_ret (js_lift (jp_v 2)))))))))
theorem fn__law_cells (T : Txt K mg) : Fn P w K mg base 1 "_law_cells" d__law_cells := by
  obtain ⟨fd, F⟩ := T.f__law_cells
  exact ⟨_, fd, ["_law_script", "_law_most"], ok__law_cells T F, T.g__law_cells, F.kp, F.bindsN fun _ _ _ _ _ _ us hl => match us, hl with | [_, _], _ => rfl⟩
abbrev s__law_of : Stmt := top 21
theorem sc__law_of : FnScope ["_law_box_here", "_law_some"] ["_law_box_here", "_law_some"] (defScope s__law_of) := ⟨rfl, rfl, rfl, by decide +kernel, rfl, by decide +kernel, by decide +kernel⟩
def d__law_of : List D → List D → Option (D × List D) := denB 2 2 (sret (eop2 dIx (lf [0] (v 1)) (ecallB d__law_take 0 (lf [0] (acons (vcallB (one dLen) (acons (v 1) anil)) anil)))))
theorem ok__law_of (T : Txt K mg) {fd : FuncData} (F : FunD K "_law_of" "_law_of" (defArgs s__law_of) (defBody s__law_of) (defScope s__law_of) [] [] (He.ga K "_law_of") fd) : FnOk P w K mg base (L2.CX P w) 2 (He.ga K "_law_of") fd ["_law_box_here", "_law_some"] (spB K d__law_of) := by
  have sc := sc__law_of
  exact fnB_okB F sc (own := [0]) rfl rfl rfl (fun cdv A outer s H E hr => (jb_of (js_one (js_ret (je_ix hr (js_lift (jp_v 1)) (je_callB 0 (fn__law_take T) (hr.mono (by omega)) (js_lift (ja_cons (jp_callB b_len d_len T.b_len PySem.boot_len (ja_cons (jp_v 1) ja_nil)) ja_nil))))))))
theorem fn__law_of (T : Txt K mg) : FnB P w K mg base 2 "_law_of" d__law_of := by
  obtain ⟨fd, F⟩ := T.f__law_of
  exact ⟨_, fd, ["_law_box_here", "_law_some"], ok__law_of T F, T.g__law_of, F.kp, F.bindsN fun _ _ _ _ _ _ us hl => match us, hl with | [_, _], _ => rfl⟩
abbrev s__law_lists : Stmt := top 22
theorem sc__law_lists : FnScope ["_law_matter", "_law_bit"] ["_law_matter"] (defScope s__law_lists) := ⟨rfl, rfl, rfl, by decide +kernel, rfl, by decide +kernel, by decide +kernel⟩
def d__law_lists : Nat → List D → Rs D
  | 0 => fun _ => none
  | n + 1 => den 1 2 (sret (lf [] (vif (tr (visi2 .list .tuple (v 0))) (pur (ecomp [1] (iany (lf [] (v 0))) (gn 1) tyes (lf [] (vcall (d__law_lists n) (acons (v 1) anil))))) (v 0))))
theorem ok__law_lists (T : Txt K mg) {fd : FuncData} (F : FunD K "_law_lists" "_law_lists" (defArgs s__law_lists) (defBody s__law_lists) (defScope s__law_lists) [] [] (He.ga K "_law_lists") fd) : ∀ n, FnOk P w K mg base (L2.CX P w) (1 + n) (He.ga K "_law_lists") fd ["_law_matter"] (spP K (d__law_lists n))
  | 0 => fn_none F sc__law_lists
  | n + 1 => by
    have sc := sc__law_lists
    have ih : Fn P w K mg base (1 + n) "_law_lists" (d__law_lists n) := ⟨_, fd, ["_law_matter"], ok__law_lists T F n, T.g__law_lists, F.kp, F.bindsN fun _ _ _ _ _ _ us hl => match us, hl with | [_], _ => rfl⟩
    exact fn_okB (k := 1 + n) F sc (own := []) rfl rfl (fun cdv A outer s H E hr => (jb_of (js_one (js_ret (js_lift (jp_if (jt_truth (jp_isi2 .list .tuple T.b_isinstance T.b_list PyProof.Rows.boot_list T.b_tuple PyProof.Rows.boot_tuple (jp_v 0))) (j_of (je_lc (ow := [("_law_bit", 1)]) rfl sc.nd (ji_any (js_lift (jp_v 0))) (blkOk_by (by kernel_rfl)) (fun _ _ _ _ _ => (jg_n 1 sc.nd)) (fun _ _ _ _ _ => jts_nil) (fun _ _ _ _ _ => (js_lift (jp_call ih (hr.mono (by omega)) (ja_cons (jp_v 1) ja_nil)))))) (jp_v 0)))))))
theorem fn__law_lists (T : Txt K mg) (n : Nat) : Fn P w K mg base (1 + n) "_law_lists" (d__law_lists n) := by
  obtain ⟨fd, F⟩ := T.f__law_lists
  exact ⟨_, fd, ["_law_matter"], ok__law_lists T F n, T.g__law_lists, F.kp, F.bindsN fun _ _ _ _ _ _ us hl => match us, hl with | [_], _ => rfl⟩
abbrev s__law_same : Stmt := top 23
theorem sc__law_same : FnScope ["_law_found", "_law_due", "_law_mine", "_law_its"] ["_law_found", "_law_due"] (defScope s__law_same) := ⟨rfl, rfl, rfl, by decide +kernel, rfl, by decide +kernel, by decide +kernel⟩
def d__law_same : Nat → List D → Rs D
  | 0 => fun _ => none
  | n + 1 => den 2 4 (sseq (sif (lf [] (tr (visi2 .list .tuple (v 1)))) (sseq (sif (lf [] (tor (tb (op2 dNe (visi .list (v 0)) (visi .list (v 1)))) (tb (op2 dNe (visi .tuple (v 0)) (visi .tuple (v 1)))))) (sret (lf [] (c (.bl false)))) snext) (sret (lf [] (vand (op2 dEq (vcallB (one dLen) (acons (v 0) anil)) (vcallB (one dLen) (acons (v 1) anil))) (vcallB (one dAll) (acons (pur (ecomp [2, 3] (izip (lf [] (acons (v 0) (acons (v 1) anil)))) (gt (gscons (gn 2) (gscons (gn 3) gsnil))) tyes (lf [] (vcall (d__law_same n) (acons (v 2) (acons (v 3) anil)))))) anil)))))) snext) (sseq (sif (lf [] (tor (fun δ => bind ((v 1) δ) fun x => ok (isNon x)) (tr (visi2 .bool .str (v 1))))) (sret (lf [] (vand (op2 dEq (v 0) (v 1)) (vand (op2 dEq (visi .bool (v 0)) (visi .bool (v 1))) (op2 dEq (vis (v 0)) (vis (v 1))))))) snext) (sret (lf [] (vand (visi .int (v 0)) (vand (vnot (visi .bool (v 0))) (op2 dEq (v 0) (v 1))))))))
theorem ok__law_same (T : Txt K mg) {fd : FuncData} (F : FunD K "_law_same" "_law_same" (defArgs s__law_same) (defBody s__law_same) (defScope s__law_same) [] [] (He.ga K "_law_same") fd) : ∀ n, FnOk P w K mg base (L2.CX P w) (1 + n) (He.ga K "_law_same") fd ["_law_found", "_law_due"] (spP K (d__law_same n))
  | 0 => fn_none F sc__law_same
  | n + 1 => by
    have sc := sc__law_same
    have ih : Fn P w K mg base (1 + n) "_law_same" (d__law_same n) := ⟨_, fd, ["_law_found", "_law_due"], ok__law_same T F n, T.g__law_same, F.kp, F.bindsN fun _ _ _ _ _ _ us hl => match us, hl with | [_, _], _ => rfl⟩
    exact fn_okB (k := 1 + n) F sc (own := []) rfl rfl (fun cdv A outer s H E hr => (jb_cons (js_if (js_lift (jt_truth (jp_isi2 .list .tuple T.b_isinstance T.b_list PyProof.Rows.boot_list T.b_tuple PyProof.Rows.boot_tuple (jp_v 1)))) (js_cons (js_if (js_lift (jt_w (jw_or (jt_ne hr (jp_isi .list T.b_isinstance T.b_list PyProof.Rows.boot_list (jp_v 0)) (jp_isi .list T.b_isinstance T.b_list PyProof.Rows.boot_list (jp_v 1))) (jw_or1 (jt_ne hr (jp_isi .tuple T.b_isinstance T.b_tuple PyProof.Rows.boot_tuple (jp_v 0)) (jp_isi .tuple T.b_isinstance T.b_tuple PyProof.Rows.boot_tuple (jp_v 1))))))) (js_one (js_ret (js_lift jp_bl))) js_nil) (js_one (js_ret (js_lift (jp_and (jp_eq hr (jp_callB b_len d_len T.b_len PySem.boot_len (ja_cons (jp_v 0) ja_nil)) (jp_callB b_len d_len T.b_len PySem.boot_len (ja_cons (jp_v 1) ja_nil))) (jp_one (jp_callB (cr_all rfl) d_all T.b_all PyProof.Rows.boot_all (ja_cons (j_of (je_lc (ow := [("_law_mine", 2), ("_law_its", 3)]) rfl sc.nd (ji_zip T.b_zip (js_lift (ja_cons (jp_v 0) (ja_cons (jp_v 1) ja_nil)))) (blkOk_by (by kernel_rfl)) (fun _ _ _ _ _ => (jg_t rfl (jgs_cons (jg_n 2 sc.nd) (jgs_cons (jg_n 3 sc.nd) jgs_nil)) (gl_cons (gl_cons gl_nil)))) (fun _ _ _ _ _ => jts_nil) (fun _ _ _ _ _ => (js_lift (jp_call ih (hr.mono (by omega)) (ja_cons (jp_v 2) (ja_cons (jp_v 3) ja_nil))))))) ja_nil)))))))) js_nil) (jb_cons (js_if (js_lift (jt_w (jw_or (jt_is (jp_v 1)) (jw_or1 (jt_truth (jp_isi2 .bool .str T.b_isinstance T.b_bool PyProof.Rows.boot_bool T.b_str PyProof.Rows.boot_str (jp_v 1))))))) (js_one (js_ret (js_lift (jp_and (jp_eq hr (jp_v 0) (jp_v 1)) (jp_and (jp_eq hr (jp_isi .bool T.b_isinstance T.b_bool PyProof.Rows.boot_bool (jp_v 0)) (jp_isi .bool T.b_isinstance T.b_bool PyProof.Rows.boot_bool (jp_v 1))) (jp_one (jp_eq hr (jp_is (jp_v 0)) (jp_is (jp_v 1))))))))) js_nil) (jb_of (js_one (js_ret (js_lift (jp_and (jp_isi .int T.b_isinstance T.b_int PyProof.Rows.boot_int (jp_v 0)) (jp_and (jp_not (jp_isi .bool T.b_isinstance T.b_bool PyProof.Rows.boot_bool (jp_v 0))) (jp_one (jp_eq hr (jp_v 0) (jp_v 1))))))))))))
theorem fn__law_same (T : Txt K mg) (n : Nat) : Fn P w K mg base (1 + n) "_law_same" (d__law_same n) := by
  obtain ⟨fd, F⟩ := T.f__law_same
  exact ⟨_, fd, ["_law_found", "_law_due"], ok__law_same T F n, T.g__law_same, F.kp, F.bindsN fun _ _ _ _ _ _ us hl => match us, hl with | [_, _], _ => rfl⟩
abbrev s__law_terms : Stmt := top 24
theorem sc__law_terms : FnScope ["_law_upper", "_law_lower", "_law_one_so", "_law_own"] ["_law_upper", "_law_lower"] (defScope s__law_terms) := ⟨rfl, rfl, rfl, by decide +kernel, rfl, by decide +kernel, by decide +kernel⟩
def d__law_terms : List D → Rs D := den 2 4 (sseq (sif (lf [] (tb (op2 dLt (v 1) (c (.int 0))))) (spar2 0 1 (lf [] (acons (op2 dSub (c (.int 0)) (v 0)) (acons (op2 dSub (c (.int 0)) (v 1)) anil)))) snext) (sseq (spar2 2 3 (lf [] (acons (vcallB (one dAbs) (acons (v 0) anil)) (acons (v 1) anil)))) (sseq (swhile (lf [] (tb (op2 dNe (v 3) (c (.int 0))))) (spar2 2 3 (lf [] (acons (v 3) (acons (op2 dMod (vcallB (one dInt) (acons (v 2) anil)) (v 3)) anil)))) 1000000) (sret (lf [] (vtup (acons (op2 dFdiv (v 0) (v 2)) (acons (op2 dFdiv (v 1) (v 2)) anil))))))))
theorem ok__law_terms (T : Txt K mg) {fd : FuncData} (F : FunD K "_law_terms" "_law_terms" (defArgs s__law_terms) (defBody s__law_terms) (defScope s__law_terms) [] [] (He.ga K "_law_terms") fd) : FnOk P w K mg base (L2.CX P w) 1 (He.ga K "_law_terms") fd ["_law_upper", "_law_lower"] (spP K d__law_terms) := by
  have sc := sc__law_terms
  exact fn_okB F sc (own := []) rfl rfl (fun cdv A outer s H E hr => (jb_cons (js_if (js_lift (jt_lt (jp_v 1) jp_int)) (js_one (js_par2 0 1 rfl sc.nd (js_lift (ja_cons (jp_sub jp_int (jp_v 0)) (ja_cons (jp_sub jp_int (jp_v 1)) ja_nil))))) js_nil) (jb_cons (js_par2 2 3 rfl sc.nd (js_lift (ja_cons (jp_callB call_abs d_abs T.b_abs PyProof.Rows.boot_abs (ja_cons (jp_v 0) ja_nil)) (ja_cons (jp_v 1) ja_nil)))) (jb_cons (js_while 1000000 (passes_of rfl) (js_lift (jt_ne hr (jp_v 3) jp_int)) (js_one (js_par2 2 3 rfl sc.nd (js_lift (ja_cons (jp_v 3) (ja_cons (jp_mod (jp_callTy b_int d_int T.b_int PyProof.Rows.boot_int (ja_cons (jp_v 2) ja_nil)) (jp_v 3)) ja_nil)))))) (jb_of (js_one (js_ret (js_lift (jp_tup (ja_cons (jp_fdiv (jp_v 0) (jp_v 2)) (ja_cons (jp_fdiv (jp_v 1) (jp_v 2)) ja_nil)))))))))))
theorem fn__law_terms (T : Txt K mg) : Fn P w K mg base 1 "_law_terms" d__law_terms := by
  obtain ⟨fd, F⟩ := T.f__law_terms
  exact ⟨_, fd, ["_law_upper", "_law_lower"], ok__law_terms T F, T.g__law_terms, F.kp, F.bindsN fun _ _ _ _ _ _ us hl => match us, hl with | [_, _], _ => rfl⟩
abbrev s__law_plus : Stmt := top 25
theorem sc__law_plus : FnScope ["_law_one_so", "_law_own"] ["_law_one_so", "_law_own"] (defScope s__law_plus) := ⟨rfl, rfl, rfl, by decide +kernel, rfl, by decide +kernel, by decide +kernel⟩
def d__law_plus : List D → Rs D := den 2 2 (sret (lf [] (vcall d__law_terms (acons (op2 dAdd (op2 dMul (op2 dIx (v 0) (c (.int 0))) (op2 dIx (v 1) (c (.int 1)))) (op2 dMul (op2 dIx (v 1) (c (.int 0))) (op2 dIx (v 0) (c (.int 1))))) (acons (op2 dMul (op2 dIx (v 0) (c (.int 1))) (op2 dIx (v 1) (c (.int 1)))) anil)))))
theorem ok__law_plus (T : Txt K mg) {fd : FuncData} (F : FunD K "_law_plus" "_law_plus" (defArgs s__law_plus) (defBody s__law_plus) (defScope s__law_plus) [] [] (He.ga K "_law_plus") fd) : FnOk P w K mg base (L2.CX P w) 2 (He.ga K "_law_plus") fd ["_law_one_so", "_law_own"] (spP K d__law_plus) := by
  have sc := sc__law_plus
  exact fn_okB F sc (own := []) rfl rfl (fun cdv A outer s H E hr => (jb_of (js_one (js_ret (js_lift (jp_call (fn__law_terms T) (hr.mono (by omega)) (ja_cons (jp_add (jp_mul (jp_ix hr (jp_v 0) jp_int) (jp_ix hr (jp_v 1) jp_int)) (jp_mul (jp_ix hr (jp_v 1) jp_int) (jp_ix hr (jp_v 0) jp_int))) (ja_cons (jp_mul (jp_ix hr (jp_v 0) jp_int) (jp_ix hr (jp_v 1) jp_int)) ja_nil))))))))
theorem fn__law_plus (T : Txt K mg) : Fn P w K mg base 2 "_law_plus" d__law_plus := by
  obtain ⟨fd, F⟩ := T.f__law_plus
  exact ⟨_, fd, ["_law_one_so", "_law_own"], ok__law_plus T F, T.g__law_plus, F.kp, F.bindsN fun _ _ _ _ _ _ us hl => match us, hl with | [_, _], _ => rfl⟩
abbrev s__law_minus : Stmt := top 26
theorem sc__law_minus : FnScope ["_law_one_so", "_law_own"] ["_law_one_so", "_law_own"] (defScope s__law_minus) := ⟨rfl, rfl, rfl, by decide +kernel, rfl, by decide +kernel, by decide +kernel⟩
def d__law_minus : List D → Rs D := den 2 2 (sret (lf [] (vcall d__law_plus (acons (v 0) (acons (vtup (acons (op2 dSub (c (.int 0)) (op2 dIx (v 1) (c (.int 0)))) (acons (op2 dIx (v 1) (c (.int 1))) anil))) anil)))))
theorem ok__law_minus (T : Txt K mg) {fd : FuncData} (F : FunD K "_law_minus" "_law_minus" (defArgs s__law_minus) (defBody s__law_minus) (defScope s__law_minus) [] [] (He.ga K "_law_minus") fd) : FnOk P w K mg base (L2.CX P w) 3 (He.ga K "_law_minus") fd ["_law_one_so", "_law_own"] (spP K d__law_minus) := by
  have sc := sc__law_minus
  exact fn_okB F sc (own := []) rfl rfl (fun cdv A outer s H E hr => (jb_of (js_one (js_ret (js_lift (jp_call (fn__law_plus T) (hr.mono (by omega)) (ja_cons (jp_v 0) (ja_cons (jp_tup (ja_cons (jp_sub jp_int (jp_ix hr (jp_v 1) jp_int)) (ja_cons (jp_ix hr (jp_v 1) jp_int) ja_nil))) ja_nil))))))))
theorem fn__law_minus (T : Txt K mg) : Fn P w K mg base 3 "_law_minus" d__law_minus := by
  obtain ⟨fd, F⟩ := T.f__law_minus
  exact ⟨_, fd, ["_law_one_so", "_law_own"], ok__law_minus T F, T.g__law_minus, F.kp, F.bindsN fun _ _ _ _ _ _ us hl => match us, hl with | [_, _], _ => rfl⟩
abbrev s__law_by : Stmt := top 27
theorem sc__law_by : FnScope ["_law_one_so", "_law_own"] ["_law_one_so", "_law_own"] (defScope s__law_by) := ⟨rfl, rfl, rfl, by decide +kernel, rfl, by decide +kernel, by decide +kernel⟩
def d__law_by : List D → Rs D := den 2 2 (sret (lf [] (vcall d__law_terms (acons (op2 dMul (op2 dIx (v 0) (c (.int 0))) (op2 dIx (v 1) (c (.int 0)))) (acons (op2 dMul (op2 dIx (v 0) (c (.int 1))) (op2 dIx (v 1) (c (.int 1)))) anil)))))
theorem ok__law_by (T : Txt K mg) {fd : FuncData} (F : FunD K "_law_by" "_law_by" (defArgs s__law_by) (defBody s__law_by) (defScope s__law_by) [] [] (He.ga K "_law_by") fd) : FnOk P w K mg base (L2.CX P w) 2 (He.ga K "_law_by") fd ["_law_one_so", "_law_own"] (spP K d__law_by) := by
  have sc := sc__law_by
  exact fn_okB F sc (own := []) rfl rfl (fun cdv A outer s H E hr => (jb_of (js_one (js_ret (js_lift (jp_call (fn__law_terms T) (hr.mono (by omega)) (ja_cons (jp_mul (jp_ix hr (jp_v 0) jp_int) (jp_ix hr (jp_v 1) jp_int)) (ja_cons (jp_mul (jp_ix hr (jp_v 0) jp_int) (jp_ix hr (jp_v 1) jp_int)) ja_nil))))))))
theorem fn__law_by (T : Txt K mg) : Fn P w K mg base 2 "_law_by" d__law_by := by
  obtain ⟨fd, F⟩ := T.f__law_by
  exact ⟨_, fd, ["_law_one_so", "_law_own"], ok__law_by T F, T.g__law_by, F.kp, F.bindsN fun _ _ _ _ _ _ us hl => match us, hl with | [_, _], _ => rfl⟩
abbrev s__law_part : Stmt := top 28
theorem sc__law_part : FnScope ["_law_one_so", "_law_own"] ["_law_one_so", "_law_own"] (defScope s__law_part) := ⟨rfl, rfl, rfl, by decide +kernel, rfl, by decide +kernel, by decide +kernel⟩
def d__law_part : List D → Rs D := den 2 2 (sret (lf [] (vcall d__law_terms (acons (op2 dMul (op2 dIx (v 0) (c (.int 0))) (op2 dIx (v 1) (c (.int 1)))) (acons (op2 dMul (op2 dIx (v 0) (c (.int 1))) (op2 dIx (v 1) (c (.int 0)))) anil)))))
theorem ok__law_part (T : Txt K mg) {fd : FuncData} (F : FunD K "_law_part" "_law_part" (defArgs s__law_part) (defBody s__law_part) (defScope s__law_part) [] [] (He.ga K "_law_part") fd) : FnOk P w K mg base (L2.CX P w) 2 (He.ga K "_law_part") fd ["_law_one_so", "_law_own"] (spP K d__law_part) := by
  have sc := sc__law_part
  exact fn_okB F sc (own := []) rfl rfl (fun cdv A outer s H E hr => (jb_of (js_one (js_ret (js_lift (jp_call (fn__law_terms T) (hr.mono (by omega)) (ja_cons (jp_mul (jp_ix hr (jp_v 0) jp_int) (jp_ix hr (jp_v 1) jp_int)) (ja_cons (jp_mul (jp_ix hr (jp_v 0) jp_int) (jp_ix hr (jp_v 1) jp_int)) ja_nil))))))))
theorem fn__law_part (T : Txt K mg) : Fn P w K mg base 2 "_law_part" d__law_part := by
  obtain ⟨fd, F⟩ := T.f__law_part
  exact ⟨_, fd, ["_law_one_so", "_law_own"], ok__law_part T F, T.g__law_part, F.kp, F.bindsN fun _ _ _ _ _ _ us hl => match us, hl with | [_, _], _ => rfl⟩
abbrev s__law_under : Stmt := top 29
theorem sc__law_under : FnScope ["_law_one_so", "_law_own"] ["_law_one_so", "_law_own"] (defScope s__law_under) := ⟨rfl, rfl, rfl, by decide +kernel, rfl, by decide +kernel, by decide +kernel⟩
def d__law_under : List D → Rs D := den 2 2 (sret (lf [] (op2 dLt (op2 dMul (op2 dIx (v 0) (c (.int 0))) (op2 dIx (v 1) (c (.int 1)))) (op2 dMul (op2 dIx (v 1) (c (.int 0))) (op2 dIx (v 0) (c (.int 1)))))))
theorem ok__law_under (T : Txt K mg) {fd : FuncData} (F : FunD K "_law_under" "_law_under" (defArgs s__law_under) (defBody s__law_under) (defScope s__law_under) [] [] (He.ga K "_law_under") fd) : FnOk P w K mg base (L2.CX P w) 1 (He.ga K "_law_under") fd ["_law_one_so", "_law_own"] (spP K d__law_under) := by
  have sc := sc__law_under
  exact fn_okB F sc (own := []) rfl rfl (fun cdv A outer s H E hr => (jb_of (js_one (js_ret (js_lift (jp_lt (jp_mul (jp_ix hr (jp_v 0) jp_int) (jp_ix hr (jp_v 1) jp_int)) (jp_mul (jp_ix hr (jp_v 1) jp_int) (jp_ix hr (jp_v 0) jp_int))))))))
theorem fn__law_under (T : Txt K mg) : Fn P w K mg base 1 "_law_under" d__law_under := by
  obtain ⟨fd, F⟩ := T.f__law_under
  exact ⟨_, fd, ["_law_one_so", "_law_own"], ok__law_under T F, T.g__law_under, F.kp, F.bindsN fun _ _ _ _ _ _ us hl => match us, hl with | [_, _], _ => rfl⟩
abbrev s__law_sum : Stmt := top 30
theorem sc__law_sum : FnScope ["_law_some", "_law_found", "_law_one_so"] ["_law_some"] (defScope s__law_sum) := ⟨rfl, rfl, rfl, by decide +kernel, rfl, by decide +kernel, by decide +kernel⟩
def d__law_sum : List D → Rs D := den 1 3 (sseq (sset 1 (lf [] (vtup (acons (c (.int 0)) (acons (c (.int 1)) anil))))) (sseq (sforI (iany (lf [] (v 0))) (gn 2) (sset 1 (lf [] (vcall d__law_plus (acons (v 1) (acons (v 2) anil)))))) (sret (lf [] (v 1)))))
theorem ok__law_sum (T : Txt K mg) {fd : FuncData} (F : FunD K "_law_sum" "_law_sum" (defArgs s__law_sum) (defBody s__law_sum) (defScope s__law_sum) [] [] (He.ga K "_law_sum") fd) : FnOk P w K mg base (L2.CX P w) 3 (He.ga K "_law_sum") fd ["_law_some"] (spP K d__law_sum) := by
  have sc := sc__law_sum
  exact fn_okB F sc (own := []) rfl rfl (fun cdv A outer s H E hr => (jb_cons (js_set 1 sc.nd (js_lift (jp_tup (ja_cons jp_int (ja_cons jp_int ja_nil))))) (jb_cons (js_for (passes_of rfl) rfl (ji_any (js_lift (jp_v 0))) (jg_n 2 sc.nd) (js_one (js_set 1 sc.nd (js_lift (jp_call (fn__law_plus T) (hr.mono (by omega)) (ja_cons (jp_v 1) (ja_cons (jp_v 2) ja_nil))))))) (jb_of (js_one (js_ret (js_lift (jp_v 1))))))))
theorem fn__law_sum (T : Txt K mg) : Fn P w K mg base 3 "_law_sum" d__law_sum := by
  obtain ⟨fd, F⟩ := T.f__law_sum
  exact ⟨_, fd, ["_law_some"], ok__law_sum T F, T.g__law_sum, F.kp, F.bindsN fun _ _ _ _ _ _ us hl => match us, hl with | [_], _ => rfl⟩
abbrev s__law_drawn_net : Stmt := top 31
theorem sc__law_drawn_net : FnScope ["_law_box_here", "_law_wires", "_law_many", "_law_kind", "_law_left", "_law_found", "_law_turn", "_law_labels", "_law_rows", "_law_own", "_law_weight", "_law_bottom", "_law_top", "_law_line_so"] ["_law_box_here", "_law_wires", "_law_many", "_law_kind"] (defScope s__law_drawn_net) := ⟨rfl, rfl, rfl, by decide +kernel, rfl, by decide +kernel, by decide +kernel⟩
def d__law_drawn_net : List D → List D → Option (D × List D) := denB 4 14 (sseq (spar2 4 5 (econs (elst (lf [0, 4, 5, 7, 8] (acons (c (.str "a")) (acons (c (.str "b")) (acons (c (.str "c")) (acons (c (.str "d")) (acons (c (.str "ab")) (acons (c (.str "k")) anil)))))))) (econs (elst (lf [0, 4, 5, 7, 8] anil)) enil))) (sseq (sforI (irng1 (lf [0, 4, 5, 7, 8] (v 1))) (gn 6) (sapp 5 (etup (econs (epop 4 (ecallB d__law_take 0 (econs (lfo (vcallB (one dLen) (acons (v 4) anil))) enil))) (econs (eop2 dAdd (lf [0, 4, 5, 7, 8] (c (.int 1))) (ecallB d__law_take 0 (lf [0, 4, 5, 7, 8] (acons (c (.int 12)) anil)))) enil))))) (sfrz [0, 4, 5, 7, 8] (sfrz [0, 5, 7, 8] (sseq (spar3 5 7 8 (econs (lf [0, 7, 8] (vcallB (one dSorted2) (acons (v 5) anil))) (econs (elst (lf [0, 7, 8] (acons (c (.str "p")) (acons (c (.str "q")) (acons (c (.str "r")) (acons (c (.str "s")) (acons (c (.str "t")) (acons (c (.str "u")) (acons (c (.str "ab")) (acons (c (.str "z")) (acons (c (.str "x")) anil))))))))))) (econs (elst (lf [0, 7, 8] anil)) enil)))) (sseq (sforI (irng1 (lf [0, 7, 8] (v 2))) (gn 6) (sseq (sset 9 (ecomp [13] (iany (lf [0, 7, 8] (v 5))) (gn 13) (etb (eop2 dEq (ecallB d__law_take 0 (lf [0, 7, 8] (acons (c (.int 2)) anil))) (lf [0, 7, 8] (c (.int 0))))) (lf [0, 7, 8] (op2 dIx (v 13) (c (.int 0)))))) (sseq (sset 9 (eif (lf [0, 7, 8] (tb (op2 dNe (v 9) (vlst anil)))) (lf [0, 7, 8] (v 9)) (elst (econs (eop2 dIx (eop2 dIx (lf [0, 7, 8] (v 5)) (ecallB d__law_take 0 (lf [0, 7, 8] (acons (v 1) anil)))) (lf [0, 7, 8] (c (.int 0)))) enil)))) (sseq (sset 10 (eif (lf [0, 7, 8] (tb (op2 dGt (v 3) (c (.int 0))))) (eop2 dAdd (lf [0, 7, 8] (c (.int 1))) (ecallB d__law_take 0 (lf [0, 7, 8] (acons (c (.int 3)) anil)))) (lf [0, 7, 8] (c (.int 1))))) (sseq (sasg (gt (gscons (gn 11) (gscons (gn 12) gsnil))) (lf [0, 7, 8] (vtup (acons (c (.int 0)) (acons (c .non) anil))))) (sseq (sif (lf [0, 7, 8] (tb (op2 dGt (v 3) (c (.int 1))))) (sseq (sset 11 (ecallB d__law_of 0 (lf [0, 7, 8] (acons (vlst (acons (c (.int 0)) (acons (c (.int 0)) (acons (c (.int 0)) (acons (c (.int 1)) (acons (c (.int 2)) anil)))))) anil)))) (sset 12 (ecallB d__law_of 0 (lf [0, 7, 8] (acons (vlst (acons (c .non) (acons (c .non) (acons (vcallB (two dMax2) (acons (c (.int 1)) (acons (v 11) anil))) (acons (op2 dAdd (v 11) (c (.int 1))) (acons (op2 dAdd (v 11) (c (.int 3))) anil)))))) anil))))) snext) (sapp 8 (etup (econs (epop 7 (ecallB d__law_take 0 (econs (lfo (vcallB (one dLen) (acons (v 7) anil))) enil))) (econs (lf [0, 7, 8] (vcallB (one dTuple) (acons (v 9) anil))) (econs (lf [0, 7, 8] (v 10)) (econs (lf [0, 7, 8] (v 11)) (econs (lf [0, 7, 8] (v 12)) enil))))))))))))) (sfrz [0, 7, 8] (sfrz [0, 8] (sret (lf [0] (vtup (acons (vcallB (one dTuple) (acons (v 5) anil)) (acons (vcallB (one dTuple) (acons (vcallB (one dSorted2) (acons (v 8) anil)) anil)) anil)))))))))))))
theorem ok__law_drawn_net (T : Txt K mg) {fd : FuncData} (F : FunD K "_law_drawn_net" "_law_drawn_net" (defArgs s__law_drawn_net) (defBody s__law_drawn_net) (defScope s__law_drawn_net) [] [] (He.ga K "_law_drawn_net") fd) : FnOk P w K mg base (L2.CX P w) 3 (He.ga K "_law_drawn_net") fd ["_law_box_here", "_law_wires", "_law_many", "_law_kind"] (spB K d__law_drawn_net) := by
  have sc := sc__law_drawn_net
  exact fnB_okB F sc (own := [0, 4, 5, 7, 8]) rfl rfl rfl (fun cdv A outer s H E hr => (jb_cons (js_par2X 4 5 rfl sc.nd (jx_new (jn_lst (js_lift (ja_cons jp_str (ja_cons jp_str (ja_cons jp_str (ja_cons jp_str (ja_cons jp_str (ja_cons jp_str ja_nil)))))))) (jx_new (jn_lst (js_lift ja_nil)) jx_nil))) (jb_cons (js_for (passes_of rfl) rfl (ji_rng1 T.b_range (js_lift (jp_v 1))) (jg_n 6 sc.nd) (js_one (js_app 5 (je_tup (jae_cons (je_pop 4 (je_callB 0 (fn__law_take T) (hr.mono (by omega)) (jae_cons (je_o (jp_callB b_len d_len T.b_len PySem.boot_len (ja_cons (jp_v 4) ja_nil))) jae_nil))) (jae_cons (je_op o_add d_add (js_lift jp_int) (je_callB 0 (fn__law_take T) (hr.mono (by omega)) (js_lift (ja_cons jp_int ja_nil)))) jae_nil)))))) (jb_frz (own := [0, 4, 5, 7, 8]) 4 (jb_frz (own := [0, 5, 7, 8]) 5 (jb_cons (js_par3X 5 7 8 rfl sc.nd (jx_cons (js_lift (jp_callB (b_sorted2 rfl (hu70 hr)) d_sorted2 T.b_sorted rfl (ja_cons (jp_v 5) ja_nil))) (jx_new (jn_lst (js_lift (ja_cons jp_str (ja_cons jp_str (ja_cons jp_str (ja_cons jp_str (ja_cons jp_str (ja_cons jp_str (ja_cons jp_str (ja_cons jp_str (ja_cons jp_str ja_nil))))))))))) (jx_new (jn_lst (js_lift ja_nil)) jx_nil)))) (jb_cons (js_for (passes_of rfl) rfl (ji_rng1 T.b_range (js_lift (jp_v 2))) (jg_n 6 sc.nd) (js_cons (js_setLc (ow := [("_law_line_so", 13)]) 9 rfl sc.nd (ji_any (js_lift (jp_v 5))) (blkOk_by (by kernel_rfl)) (fun _ _ _ _ _ => (jg_n 13 sc.nd)) (fun _ _ _ _ _ => (jts_one (jte_cmp (op_eqD (hu64b hr)) d_eq (je_callB 0 (fn__law_take T) (hr.mono (by omega)) (js_lift (ja_cons jp_int ja_nil))) (js_lift jp_int)))) (fun _ _ _ _ _ => (js_lift (jp_ix hr (jp_v 13) jp_int)))) (js_cons (js_set 9 sc.nd (je_if (js_lift (jt_ne hr (jp_v 9) (jp_lst ja_nil))) (js_lift (jp_v 9)) (je_lst (jae_cons (je_ix hr (je_ix hr (js_lift (jp_v 5)) (je_callB 0 (fn__law_take T) (hr.mono (by omega)) (js_lift (ja_cons (jp_v 1) ja_nil)))) (js_lift jp_int)) jae_nil)))) (js_cons (js_set 10 sc.nd (je_if (js_lift (jt_gt (jp_v 3) jp_int)) (je_op o_add d_add (js_lift jp_int) (je_callB 0 (fn__law_take T) (hr.mono (by omega)) (js_lift (ja_cons jp_int ja_nil)))) (js_lift jp_int))) (js_cons (js_asg (jg_t rfl (jgs_cons (jg_n 11 sc.nd) (jgs_cons (jg_n 12 sc.nd) jgs_nil)) (gl_cons (gl_cons gl_nil))) (js_lift (jp_tup (ja_cons jp_int (ja_cons jp_non ja_nil))))) (js_cons (js_if (js_lift (jt_gt (jp_v 3) jp_int)) (js_cons (js_set 11 sc.nd (je_callB 0 (fn__law_of T) (hr.mono (by omega)) (js_lift (ja_cons (jp_lst (ja_cons jp_int (ja_cons jp_int (ja_cons jp_int (ja_cons jp_int (ja_cons jp_int ja_nil)))))) ja_nil)))) (js_one (js_set 12 sc.nd (je_callB 0 (fn__law_of T) (hr.mono (by omega)) (js_lift (ja_cons (jp_lst (ja_cons jp_non (ja_cons jp_non (ja_cons (jp_callB (call_max2 rfl) d_max2 T.b_max PyProof.Rows.boot_max (ja_cons jp_int (ja_cons (jp_v 11) ja_nil))) (ja_cons (jp_add (jp_v 11) jp_int) (ja_cons (jp_add (jp_v 11) jp_int) ja_nil)))))) ja_nil)))))) js_nil) (js_one (js_app 8 (je_tup (jae_cons (je_pop 7 (je_callB 0 (fn__law_take T) (hr.mono (by omega)) (jae_cons (je_o (jp_callB b_len d_len T.b_len PySem.boot_len (ja_cons (jp_v 7) ja_nil))) jae_nil))) (jae_cons (js_lift (jp_callTy call_tupleP d_tuple T.b_tuple PyProof.Rows.boot_tuple (ja_cons (jp_v 9) ja_nil))) (jae_cons (js_lift (jp_v 10)) (jae_cons (js_lift (jp_v 11)) (jae_cons (js_lift (jp_v 12)) jae_nil)))))))))))))) (jb_frz (own := [0, 7, 8]) 7 (jb_frz (own := [0, 8]) 8 (jb_of (js_one (js_ret (js_lift (jp_tup (ja_cons (jp_callTy call_tupleP d_tuple T.b_tuple PyProof.Rows.boot_tuple (ja_cons (jp_v 5) ja_nil)) (ja_cons (jp_callTy call_tupleP d_tuple T.b_tuple PyProof.Rows.boot_tuple (ja_cons (jp_callB (b_sorted2 rfl (hu70 hr)) d_sorted2 T.b_sorted rfl (ja_cons (jp_v 8) ja_nil)) ja_nil)) ja_nil))))))))))))))))
theorem fn__law_drawn_net (T : Txt K mg) : FnB P w K mg base 3 "_law_drawn_net" d__law_drawn_net := by
  obtain ⟨fd, F⟩ := T.f__law_drawn_net
  exact ⟨_, fd, ["_law_box_here", "_law_wires", "_law_many", "_law_kind"], ok__law_drawn_net T F, T.g__law_drawn_net, F.kp, F.bindsN fun _ _ _ _ _ _ us hl => match us, hl with | [_, _, _, _], _ => rfl⟩
abbrev s__law_roomy : Stmt := top 32
theorem sc__law_roomy : FnScope ["_law_box_here", "_law_wires", "_law_many", "_law_kind", "_law_lines", "_law_flows", "_law_found", "_law_line_so", "_law_room", "_law_row"] ["_law_box_here", "_law_wires", "_law_many", "_law_kind"] (defScope s__law_roomy) := ⟨rfl, rfl, rfl, by decide +kernel, rfl, by decide +kernel, by decide +kernel⟩
def d__law_roomy : List D → List D → Option (D × List D) := denB 4 10 (sseq (sasg (gt (gscons (gn 4) (gscons (gn 5) gsnil))) (ecallB d__law_drawn_net 0 (lf [0, 6] (acons (v 1) (acons (v 2) (acons (v 3) anil)))))) (sseq (sset 6 (elst (lf [0, 6] anil))) (sseq (sforI (iany (lf [0, 6] (v 4))) (gt (gscons (gn 7) (gscons (gn 8) gsnil))) (sapp 6 (lf [0, 6] (vtup (acons (v 7) (acons (vcallB (two dMax2) (acons (v 8) (acons (vcallB (one dSum) (acons (pur (ecomp [9] (iany (lf [] (v 5))) (gn 9) (lf [] (tb (op2 dIn (v 7) (op2 dIx (v 9) (c (.int 1)))))) (lf [] (op2 dIx (v 9) (c (.int 3)))))) anil)) anil))) anil)))))) (sfrz [0, 6] (sret (lf [0] (vtup (acons (vcallB (one dTuple) (acons (v 6) anil)) (acons (v 5) anil)))))))))
theorem ok__law_roomy (T : Txt K mg) {fd : FuncData} (F : FunD K "_law_roomy" "_law_roomy" (defArgs s__law_roomy) (defBody s__law_roomy) (defScope s__law_roomy) [] [] (He.ga K "_law_roomy") fd) : FnOk P w K mg base (L2.CX P w) 4 (He.ga K "_law_roomy") fd ["_law_box_here", "_law_wires", "_law_many", "_law_kind"] (spB K d__law_roomy) := by
  have sc := sc__law_roomy
  exact fnB_okB F sc (own := [0, 6]) rfl rfl rfl (fun cdv A outer s H E hr => (jb_cons (js_asg (jg_t rfl (jgs_cons (jg_n 4 sc.nd) (jgs_cons (jg_n 5 sc.nd) jgs_nil)) (gl_cons (gl_cons gl_nil))) (je_callB 0 (fn__law_drawn_net T) (hr.mono (by omega)) (js_lift (ja_cons (jp_v 1) (ja_cons (jp_v 2) (ja_cons (jp_v 3) ja_nil)))))) (jb_cons (js_setN 6 sc.nd (jn_lst (js_lift ja_nil))) (jb_cons (js_for (passes_of rfl) rfl (ji_any (js_lift (jp_v 4))) (jg_t rfl (jgs_cons (jg_n 7 sc.nd) (jgs_cons (jg_n 8 sc.nd) jgs_nil)) (gl_cons (gl_cons gl_nil))) (js_one (js_app 6 (js_lift (jp_tup (ja_cons (jp_v 7) (ja_cons (jp_callB (call_max2 rfl) d_max2 T.b_max PyProof.Rows.boot_max (ja_cons (jp_v 8) (ja_cons (jp_callB (cr_sum rfl) d_sum T.b_sum PyProof.Rows.boot_sum (ja_cons (j_of (je_lc (ow := [("_law_row", 9)]) rfl sc.nd (ji_any (js_lift (jp_v 5))) (blkOk_by (by kernel_rfl)) (fun _ _ _ _ _ => (jg_n 9 sc.nd)) (fun _ _ _ _ _ => (jts_one (js_lift (jt_c (jc_in hr (jp_v 7) (jp_ix hr (jp_v 9) jp_int)))))) (fun _ _ _ _ _ => (js_lift (jp_ix hr (jp_v 9) jp_int))))) ja_nil)) ja_nil))) ja_nil))))))) (jb_frz (own := [0, 6]) 6 (jb_of (js_one (js_ret (js_lift (jp_tup (ja_cons (jp_callTy call_tupleP d_tuple T.b_tuple PyProof.Rows.boot_tuple (ja_cons (jp_v 6) ja_nil)) (ja_cons (jp_v 5) ja_nil))))))))))))
theorem fn__law_roomy (T : Txt K mg) : FnB P w K mg base 4 "_law_roomy" d__law_roomy := by
  obtain ⟨fd, F⟩ := T.f__law_roomy
  exact ⟨_, fd, ["_law_box_here", "_law_wires", "_law_many", "_law_kind"], ok__law_roomy T F, T.g__law_roomy, F.kp, F.bindsN fun _ _ _ _ _ _ us hl => match us, hl with | [_, _, _, _], _ => rfl⟩
abbrev s__law_at : Stmt := top 34
theorem sc__law_at : FnScope ["_law_row", "_law_here", "_law_grown_so"] ["_law_row", "_law_here"] (defScope s__law_at) := ⟨rfl, rfl, rfl, by decide +kernel, rfl, by decide +kernel, by decide +kernel⟩
def d__law_at : List D → Rs D := den 2 3 (sseq (sset 2 (lf [] (vcall d__law_by (acons (vtup (acons (op2 dIx (v 0) (c (.int 2))) (acons (c (.int 1)) anil))) (acons (v 1) anil))))) (sret (lf [] (vif (tr (vcall d__law_under (acons (vtup (acons (op2 dIx (v 0) (c (.int 3))) (acons (c (.int 1)) anil))) (acons (v 2) anil)))) (v 2) (vtup (acons (op2 dIx (v 0) (c (.int 3))) (acons (c (.int 1)) anil)))))))
theorem ok__law_at (T : Txt K mg) {fd : FuncData} (F : FunD K "_law_at" "_law_at" (defArgs s__law_at) (defBody s__law_at) (defScope s__law_at) [] [] (He.ga K "_law_at") fd) : FnOk P w K mg base (L2.CX P w) 3 (He.ga K "_law_at") fd ["_law_row", "_law_here"] (spP K d__law_at) := by
  have sc := sc__law_at
  exact fn_okB F sc (own := []) rfl rfl (fun cdv A outer s H E hr => (jb_cons (js_set 2 sc.nd (js_lift (jp_call (fn__law_by T) (hr.mono (by omega)) (ja_cons (jp_tup (ja_cons (jp_ix hr (jp_v 0) jp_int) (ja_cons jp_int ja_nil))) (ja_cons (jp_v 1) ja_nil))))) (jb_of (js_one (js_ret (js_lift (jp_if (jt_truth (jp_call (fn__law_under T) (hr.mono (by omega)) (ja_cons (jp_tup (ja_cons (jp_ix hr (jp_v 0) jp_int) (ja_cons jp_int ja_nil))) (ja_cons (jp_v 2) ja_nil)))) (jp_v 2) (jp_tup (ja_cons (jp_ix hr (jp_v 0) jp_int) (ja_cons jp_int ja_nil))))))))))
theorem fn__law_at (T : Txt K mg) : Fn P w K mg base 3 "_law_at" d__law_at := by
  obtain ⟨fd, F⟩ := T.f__law_at
  exact ⟨_, fd, ["_law_row", "_law_here"], ok__law_at T F, T.g__law_at, F.kp, F.bindsN fun _ _ _ _ _ _ us hl => match us, hl with | [_, _], _ => rfl⟩
abbrev s__law_loads : Stmt := top 35
theorem sc__law_loads : FnScope ["_law_net_so", "_law_stopped_here", "_law_here", "_law_found", "_law_line_so", "_law_room", "_law_some", "_law_row"] ["_law_net_so", "_law_stopped_here", "_law_here"] (defScope s__law_loads) := ⟨rfl, rfl, rfl, by decide +kernel, rfl, by decide +kernel, by decide +kernel⟩
def d__law_loads : List D → Rs D := den 3 8 (sseq (sset 3 edict0) (sseq (sforI (iany (lf [3] (op2 dIx (v 0) (c (.int 0))))) (gt (gscons (gn 4) (gscons (gn 5) gsnil))) (sseq (sset 6 (ecomp [7] (iany (lf [3] (op2 dIx (v 0) (c (.int 1))))) (gn 7) (lf [3] (tb (op2 dIn (v 4) (op2 dIx (v 7) (c (.int 1)))))) (lf [3] (vget2 (v 1) (op2 dIx (v 7) (c (.int 0))) (vcall d__law_at (acons (v 7) (acons (v 2) anil))))))) (sdput 3 (lf [3] (v 4)) (lf [3] (vcall d__law_sum (acons (v 6) anil)))))) (sfrz [3] (sret (lf [] (v 3))))))
theorem ok__law_loads (T : Txt K mg) {fd : FuncData} (F : FunD K "_law_loads" "_law_loads" (defArgs s__law_loads) (defBody s__law_loads) (defScope s__law_loads) [] [] (He.ga K "_law_loads") fd) : FnOk P w K mg base (L2.CX P w) 4 (He.ga K "_law_loads") fd ["_law_net_so", "_law_stopped_here", "_law_here"] (spP K d__law_loads) := by
  have sc := sc__law_loads
  exact fn_okB F sc (own := [3]) rfl rfl (fun cdv A outer s H E hr => (jb_cons (js_setN 3 sc.nd jn_dict0) (jb_cons (js_for (passes_of rfl) rfl (ji_any (js_lift (jp_ix hr (jp_v 0) jp_int))) (jg_t rfl (jgs_cons (jg_n 4 sc.nd) (jgs_cons (jg_n 5 sc.nd) jgs_nil)) (gl_cons (gl_cons gl_nil))) (js_cons (js_setLc (ow := [("_law_row", 7)]) 6 rfl sc.nd (ji_any (js_lift (jp_ix hr (jp_v 0) jp_int))) (blkOk_by (by kernel_rfl)) (fun _ _ _ _ _ => (jg_n 7 sc.nd)) (fun _ _ _ _ _ => (jts_one (js_lift (jt_c (jc_in hr (jp_v 4) (jp_ix hr (jp_v 7) jp_int)))))) (fun _ _ _ _ _ => (js_lift (jp_get2 (hu70 hr) (jp_v 1) (jp_ix hr (jp_v 7) jp_int) (jp_call (fn__law_at T) (hr.mono (by omega)) (ja_cons (jp_v 7) (ja_cons (jp_v 2) ja_nil))))))) (js_one (js_dput 3 (hu70 hr) (js_lift (jp_call (fn__law_sum T) (hr.mono (by omega)) (ja_cons (jp_v 6) ja_nil))) (js_lift (jp_v 4)))))) (jb_frz (own := [3]) 3 (jb_of (js_one (js_ret (js_lift (jp_v 3)))))))))
theorem fn__law_loads (T : Txt K mg) : Fn P w K mg base 4 "_law_loads" d__law_loads := by
  obtain ⟨fd, F⟩ := T.f__law_loads
  exact ⟨_, fd, ["_law_net_so", "_law_stopped_here", "_law_here"], ok__law_loads T F, T.g__law_loads, F.kp, F.bindsN fun _ _ _ _ _ _ us hl => match us, hl with | [_, _, _], _ => rfl⟩
abbrev s__law_stopped : Stmt := top 36
theorem sc__law_stopped : FnScope ["_law_net_so", "_law_rooms", "_law_stopped_here", "_law_here", "_law_loads_here", "_law_found", "_law_row", "_law_mine", "_law_is_full", "_law_line_so"] ["_law_net_so", "_law_rooms", "_law_stopped_here", "_law_here"] (defScope s__law_stopped) := ⟨rfl, rfl, rfl, by decide +kernel, rfl, by decide +kernel, by decide +kernel⟩
def d__law_stopped : List D → Rs D := den 4 10 (sseq (spar2 4 5 (econs (lf [5] (vcall d__law_loads (acons (v 0) (acons (v 2) (acons (v 3) anil))))) (econs (ecallG (one dDict) (lf [5] (acons (v 2) anil))) enil))) (sseq (sforI (iany (lf [5] (op2 dIx (v 0) (c (.int 1))))) (gn 6) (sseq (sset 7 (lf [5] (vcall d__law_at (acons (v 6) (acons (v 3) anil))))) (sseq (sset 8 (lf [5] (op2 dNe (pur (ecomp [9] (iany (lf [] (op2 dIx (v 6) (c (.int 1))))) (gn 9) (lf [] (tb (op2 dEq (op2 dIx (v 4) (v 9)) (op2 dIx (v 1) (v 9))))) (lf [] (v 9)))) (vlst anil)))) (sif (lf [5] (tand (tb (op2 dNotIn (op2 dIx (v 6) (c (.int 0))) (v 2))) (tor (tr (v 8)) (tand (fun δ => bind ((op2 dIx (v 6) (c (.int 4))) δ) fun x => ok (!isNon x)) (tb (op2 dEq (v 7) (vtup (acons (op2 dIx (v 6) (c (.int 4))) (acons (c (.int 1)) anil))))))))) (sdput 5 (lf [5] (op2 dIx (v 6) (c (.int 0)))) (lf [5] (v 7))) snext)))) (sfrz [5] (sret (lf [] (v 5))))))
theorem ok__law_stopped (T : Txt K mg) {fd : FuncData} (F : FunD K "_law_stopped" "_law_stopped" (defArgs s__law_stopped) (defBody s__law_stopped) (defScope s__law_stopped) [] [] (He.ga K "_law_stopped") fd) : FnOk P w K mg base (L2.CX P w) 5 (He.ga K "_law_stopped") fd ["_law_net_so", "_law_rooms", "_law_stopped_here", "_law_here"] (spP K d__law_stopped) := by
  have sc := sc__law_stopped
  exact fn_okB F sc (own := [5]) rfl rfl (fun cdv A outer s H E hr => (jb_cons (js_par2T 4 5 rfl sc.nd (jx_cons (js_lift (jp_call (fn__law_loads T) (hr.mono (by omega)) (ja_cons (jp_v 0) (ja_cons (jp_v 2) (ja_cons (jp_v 3) ja_nil))))) (jx_new (jn_ty (b_dict rfl) n_dict T.b_dict PyProof.Rows.boot_dict (js_lift (ja_cons (jp_v 2) ja_nil))) jx_nil))) (jb_cons (js_for (passes_of rfl) rfl (ji_any (js_lift (jp_ix hr (jp_v 0) jp_int))) (jg_n 6 sc.nd) (js_cons (js_set 7 sc.nd (js_lift (jp_call (fn__law_at T) (hr.mono (by omega)) (ja_cons (jp_v 6) (ja_cons (jp_v 3) ja_nil))))) (js_cons (js_set 8 sc.nd (js_lift (jp_ne hr (j_of (je_lc (ow := [("_law_line_so", 9)]) rfl sc.nd (ji_any (js_lift (jp_ix hr (jp_v 6) jp_int))) (blkOk_by (by kernel_rfl)) (fun _ _ _ _ _ => (jg_n 9 sc.nd)) (fun _ _ _ _ _ => (jts_one (js_lift (jt_eq hr (jp_ix hr (jp_v 4) (jp_v 9)) (jp_ix hr (jp_v 1) (jp_v 9)))))) (fun _ _ _ _ _ => (js_lift (jp_v 9))))) (jp_lst ja_nil)))) (js_one (js_if (js_lift (jt_w (jw_and (jt_c (jc_nin hr (jp_ix hr (jp_v 6) jp_int) (jp_v 2))) (jw_and1 (jt_w (jw_or (jt_truth (jp_v 8)) (jw_or1 (jt_w (jw_and (jt_nis (jp_ix hr (jp_v 6) jp_int)) (jw_and1 (jt_eq hr (jp_v 7) (jp_tup (ja_cons (jp_ix hr (jp_v 6) jp_int) (ja_cons jp_int ja_nil)))))))))))))) (js_one (js_dput 5 (hu70 hr) (js_lift (jp_v 7)) (js_lift (jp_ix hr (jp_v 6) jp_int)))) js_nil))))) (jb_frz (own := [5]) 5 (jb_of (js_one (js_ret (js_lift (jp_v 5)))))))))
theorem fn__law_stopped (T : Txt K mg) : Fn P w K mg base 5 "_law_stopped" d__law_stopped := by
  obtain ⟨fd, F⟩ := T.f__law_stopped
  exact ⟨_, fd, ["_law_net_so", "_law_rooms", "_law_stopped_here", "_law_here"], ok__law_stopped T F, T.g__law_stopped, F.kp, F.bindsN fun _ _ _ _ _ _ us hl => match us, hl with | [_, _, _, _], _ => rfl⟩
abbrev s__law_events : Stmt := top 37
theorem sc__law_events : FnScope ["_law_net_so", "_law_rooms", "_law_stopped_here", "_law_here", "_law_found", "_law_loads_here", "_law_row", "_law_line_so", "_law_room", "_law_some", "_law_rising", "_law_left"] ["_law_net_so", "_law_rooms", "_law_stopped_here", "_law_here"] (defScope s__law_events) := ⟨rfl, rfl, rfl, by decide +kernel, rfl, by decide +kernel, by decide +kernel⟩
def d__law_events : List D → Rs D := den 4 12 (sseq (spar2 4 5 (econs (elst (lf [4] anil)) (econs (lf [4] (vcall d__law_loads (acons (v 0) (acons (v 2) (acons (v 3) anil))))) enil))) (sseq (sforI (iany (lf [4] (op2 dIx (v 0) (c (.int 1))))) (gn 6) (sif (lf [4] (tb (op2 dNotIn (op2 dIx (v 6) (c (.int 0))) (v 2)))) (sseq (sapp 4 (lf [4] (vcall d__law_terms (acons (op2 dIx (v 6) (c (.int 3))) (acons (op2 dIx (v 6) (c (.int 2))) anil))))) (sif (lf [4] (fun δ => bind ((op2 dIx (v 6) (c (.int 4))) δ) fun x => ok (!isNon x))) (sapp 4 (lf [4] (vcall d__law_terms (acons (op2 dIx (v 6) (c (.int 4))) (acons (op2 dIx (v 6) (c (.int 2))) anil))))) snext)) snext)) (sseq (sforI (iany (lf [4] (op2 dIx (v 0) (c (.int 0))))) (gt (gscons (gn 7) (gscons (gn 8) gsnil))) (sseq (sset 9 (ecomp [6] (iany (lf [4] (op2 dIx (v 0) (c (.int 1))))) (gn 6) (lf [4] (tand (tb (op2 dIn (v 7) (op2 dIx (v 6) (c (.int 1))))) (tb (op2 dNotIn (op2 dIx (v 6) (c (.int 0))) (v 2))))) (lf [4] (v 6)))) (sseq (sset 10 (ecomp [6] (iany (lf [4] (v 9))) (gn 6) (lf [4] (fun δ => bind ((tr (vcall d__law_under (acons (v 3) (acons (vcall d__law_terms (acons (op2 dIx (v 6) (c (.int 3))) (acons (op2 dIx (v 6) (c (.int 2))) anil))) anil)))) δ) fun b => ok (!b))) (lf [4] (op2 dIx (v 6) (c (.int 2)))))) (sif (lf [4] (tb (op2 dNe (v 10) (vlst anil)))) (sseq (sset 11 (lf [4] (vcall d__law_part (acons (vcall d__law_minus (acons (op2 dIx (v 1) (v 7)) (acons (op2 dIx (v 5) (v 7)) anil))) (acons (vtup (acons (vcallB (one dSum) (acons (v 10) anil)) (acons (c (.int 1)) anil))) anil))))) (sapp 4 (lf [4] (vcall d__law_plus (acons (v 3) (acons (v 11) anil)))))) snext)))) (sfrz [4] (sret (lf [] (v 4)))))))
theorem ok__law_events (T : Txt K mg) {fd : FuncData} (F : FunD K "_law_events" "_law_events" (defArgs s__law_events) (defBody s__law_events) (defScope s__law_events) [] [] (He.ga K "_law_events") fd) : FnOk P w K mg base (L2.CX P w) 5 (He.ga K "_law_events") fd ["_law_net_so", "_law_rooms", "_law_stopped_here", "_law_here"] (spP K d__law_events) := by
  have sc := sc__law_events
  exact fn_okB F sc (own := [4]) rfl rfl (fun cdv A outer s H E hr => (jb_cons (js_par2X 4 5 rfl sc.nd (jx_new (jn_lst (js_lift ja_nil)) (jx_cons (js_lift (jp_call (fn__law_loads T) (hr.mono (by omega)) (ja_cons (jp_v 0) (ja_cons (jp_v 2) (ja_cons (jp_v 3) ja_nil))))) jx_nil))) (jb_cons (js_for (passes_of rfl) rfl (ji_any (js_lift (jp_ix hr (jp_v 0) jp_int))) (jg_n 6 sc.nd) (js_one (js_if (js_lift (jt_c (jc_nin hr (jp_ix hr (jp_v 6) jp_int) (jp_v 2)))) (js_cons (js_app 4 (js_lift (jp_call (fn__law_terms T) (hr.mono (by omega)) (ja_cons (jp_ix hr (jp_v 6) jp_int) (ja_cons (jp_ix hr (jp_v 6) jp_int) ja_nil))))) (js_one (js_if (js_lift (jt_nis (jp_ix hr (jp_v 6) jp_int))) (js_one (js_app 4 (js_lift (jp_call (fn__law_terms T) (hr.mono (by omega)) (ja_cons (jp_ix hr (jp_v 6) jp_int) (ja_cons (jp_ix hr (jp_v 6) jp_int) ja_nil)))))) js_nil))) js_nil))) (jb_cons (js_for (passes_of rfl) rfl (ji_any (js_lift (jp_ix hr (jp_v 0) jp_int))) (jg_t rfl (jgs_cons (jg_n 7 sc.nd) (jgs_cons (jg_n 8 sc.nd) jgs_nil)) (gl_cons (gl_cons gl_nil))) (js_cons (js_setLc (ow := [("_law_row", 6)]) 9 rfl sc.nd (ji_any (js_lift (jp_ix hr (jp_v 0) jp_int))) (blkOk_by (by kernel_rfl)) (fun _ _ _ _ _ => (jg_n 6 sc.nd)) (fun _ _ _ _ _ => (jts_one (js_lift (jt_w (jw_and (jt_c (jc_in hr (jp_v 7) (jp_ix hr (jp_v 6) jp_int))) (jw_and1 (jt_c (jc_nin hr (jp_ix hr (jp_v 6) jp_int) (jp_v 2))))))))) (fun _ _ _ _ _ => (js_lift (jp_v 6)))) (js_cons (js_setLc (ow := [("_law_row", 6)]) 10 rfl sc.nd (ji_any (js_lift (jp_v 9))) (blkOk_by (by kernel_rfl)) (fun _ _ _ _ _ => (jg_n 6 sc.nd)) (fun _ _ _ _ _ => (jts_one (js_lift (jt_not (jt_truth (jp_call (fn__law_under T) (hr.mono (by omega)) (ja_cons (jp_v 3) (ja_cons (jp_call (fn__law_terms T) (hr.mono (by omega)) (ja_cons (jp_ix hr (jp_v 6) jp_int) (ja_cons (jp_ix hr (jp_v 6) jp_int) ja_nil))) ja_nil)))))))) (fun _ _ _ _ _ => (js_lift (jp_ix hr (jp_v 6) jp_int)))) (js_one (js_if (js_lift (jt_ne hr (jp_v 10) (jp_lst ja_nil))) (js_cons (js_set 11 sc.nd (js_lift (jp_call (fn__law_part T) (hr.mono (by omega)) (ja_cons (jp_call (fn__law_minus T) (hr.mono (by omega)) (ja_cons (jp_ix hr (jp_v 1) (jp_v 7)) (ja_cons (jp_ix hr (jp_v 5) (jp_v 7)) ja_nil))) (ja_cons (jp_tup (ja_cons (jp_callB (cr_sum rfl) d_sum T.b_sum PyProof.Rows.boot_sum (ja_cons (jp_v 10) ja_nil)) (ja_cons jp_int ja_nil))) ja_nil))))) (js_one (js_app 4 (js_lift (jp_call (fn__law_plus T) (hr.mono (by omega)) (ja_cons (jp_v 3) (ja_cons (jp_v 11) ja_nil))))))) js_nil))))) (jb_frz (own := [4]) 4 (jb_of (js_one (js_ret (js_lift (jp_v 4))))))))))
theorem fn__law_events (T : Txt K mg) : Fn P w K mg base 5 "_law_events" d__law_events := by
  obtain ⟨fd, F⟩ := T.f__law_events
  exact ⟨_, fd, ["_law_net_so", "_law_rooms", "_law_stopped_here", "_law_here"], ok__law_events T F, T.g__law_events, F.kp, F.bindsN fun _ _ _ _ _ _ us hl => match us, hl with | [_, _, _, _], _ => rfl⟩
abbrev s__law_fair : Stmt := top 33
theorem sc__law_fair : FnScope ["_law_net_so", "_law_rooms", "_law_stopped_here", "_law_here", "_law_own", "_law_later", "_law_line_so", "_law_room"] ["_law_net_so"] (defScope s__law_fair) := ⟨rfl, rfl, rfl, by decide +kernel, rfl, by decide +kernel, by decide +kernel⟩
def d__law_fair : List D → Rs D := den 1 8 (sseq (sset 1 (lf [] (vcallB (one dDict) (acons (pur (ecomp [6, 7] (iany (lf [] (op2 dIx (v 0) (c (.int 0))))) (gt (gscons (gn 6) (gscons (gn 7) gsnil))) tyes (lf [] (vtup (acons (v 6) (acons (vif (tr (visi .tuple (v 7))) (v 7) (vtup (acons (v 7) (acons (c (.int 1)) anil)))) anil)))))) anil)))) (sseq (sasg (gt (gscons (gn 2) (gscons (gn 3) gsnil))) (lf [] (vtup (acons (c (.dic [])) (acons (vtup (acons (c (.int 0)) (acons (c (.int 1)) anil))) anil))))) (sseq (swhile (lf [] (tb (op2 dLt (vcallB (one dLen) (acons (v 2) anil)) (vcallB (one dLen) (acons (op2 dIx (v 0) (c (.int 1))) anil))))) (sseq (sset 2 (lf [] (vcall d__law_stopped (acons (v 0) (acons (v 1) (acons (v 2) (acons (v 3) anil))))))) (sseq (sset 5 (ecomp [4] (iany (lf [] (vcall d__law_events (acons (v 0) (acons (v 1) (acons (v 2) (acons (v 3) anil))))))) (gn 4) (lf [] (tr (vcall d__law_under (acons (v 3) (acons (v 4) anil))))) (lf [] (v 4)))) (sif (lf [] (tb (op2 dNe (v 5) (vlst anil)))) (sseq (sset 3 (lf [] (op2 dIx (v 5) (c (.int 0))))) (sforI (iany (lf [] (v 5))) (gn 4) (sset 3 (lf [] (vif (tr (vcall d__law_under (acons (v 4) (acons (v 3) anil)))) (v 4) (v 3)))))) snext))) 1000000) (sret (lf [] (v 2))))))
theorem ok__law_fair (T : Txt K mg) {fd : FuncData} (F : FunD K "_law_fair" "_law_fair" (defArgs s__law_fair) (defBody s__law_fair) (defScope s__law_fair) [] [] (He.ga K "_law_fair") fd) : FnOk P w K mg base (L2.CX P w) 6 (He.ga K "_law_fair") fd ["_law_net_so"] (spP K d__law_fair) := by
  have sc := sc__law_fair
  exact fn_okB F sc (own := []) rfl rfl (fun cdv A outer s H E hr => (jb_cons (js_set 1 sc.nd (js_lift (jp_callTy (b_dict rfl) d_dict T.b_dict PyProof.Rows.boot_dict (ja_cons (j_of (je_lc (ow := [("_law_line_so", 6), ("_law_room", 7)]) rfl sc.nd (ji_any (js_lift (jp_ix hr (jp_v 0) jp_int))) (blkOk_by (by kernel_rfl)) (fun _ _ _ _ _ => (jg_t rfl (jgs_cons (jg_n 6 sc.nd) (jgs_cons (jg_n 7 sc.nd) jgs_nil)) (gl_cons (gl_cons gl_nil)))) (fun _ _ _ _ _ => jts_nil) (fun _ _ _ _ _ => (js_lift (jp_tup (ja_cons (jp_v 6) (ja_cons (jp_if (jt_truth (jp_isi .tuple T.b_isinstance T.b_tuple PyProof.Rows.boot_tuple (jp_v 7))) (jp_v 7) (jp_tup (ja_cons (jp_v 7) (ja_cons jp_int ja_nil)))) ja_nil))))))) ja_nil)))) (jb_cons (js_asg (jg_t rfl (jgs_cons (jg_n 2 sc.nd) (jgs_cons (jg_n 3 sc.nd) jgs_nil)) (gl_cons (gl_cons gl_nil))) (js_lift (jp_tup (ja_cons jp_dict0 (ja_cons (jp_tup (ja_cons jp_int (ja_cons jp_int ja_nil))) ja_nil))))) (jb_cons (js_while 1000000 (passes_of rfl) (js_lift (jt_lt (jp_callB b_len d_len T.b_len PySem.boot_len (ja_cons (jp_v 2) ja_nil)) (jp_callB b_len d_len T.b_len PySem.boot_len (ja_cons (jp_ix hr (jp_v 0) jp_int) ja_nil)))) (js_cons (js_set 2 sc.nd (js_lift (jp_call (fn__law_stopped T) (hr.mono (by omega)) (ja_cons (jp_v 0) (ja_cons (jp_v 1) (ja_cons (jp_v 2) (ja_cons (jp_v 3) ja_nil))))))) (js_cons (js_setLc (ow := [("_law_own", 4)]) 5 rfl sc.nd (ji_any (js_lift (jp_call (fn__law_events T) (hr.mono (by omega)) (ja_cons (jp_v 0) (ja_cons (jp_v 1) (ja_cons (jp_v 2) (ja_cons (jp_v 3) ja_nil))))))) (blkOk_by (by kernel_rfl)) (fun _ _ _ _ _ => (jg_n 4 sc.nd)) (fun _ _ _ _ _ => (jts_one (js_lift (jt_truth (jp_call (fn__law_under T) (hr.mono (by omega)) (ja_cons (jp_v 3) (ja_cons (jp_v 4) ja_nil))))))) (fun _ _ _ _ _ => (js_lift (jp_v 4)))) (js_one (js_if (js_lift (jt_ne hr (jp_v 5) (jp_lst ja_nil))) (js_cons (js_set 3 sc.nd (js_lift (jp_ix hr (jp_v 5) jp_int))) (js_one (js_for (passes_of rfl) rfl (ji_any (js_lift (jp_v 5))) (jg_n 4 sc.nd) (js_one (js_set 3 sc.nd (js_lift (jp_if (jt_truth (jp_call (fn__law_under T) (hr.mono (by omega)) (ja_cons (jp_v 4) (ja_cons (jp_v 3) ja_nil)))) (jp_v 4) (jp_v 3)))))))) js_nil))))) (jb_of (js_one (js_ret (js_lift (jp_v 2)))))))))
theorem fn__law_fair (T : Txt K mg) : Fn P w K mg base 6 "_law_fair" d__law_fair := by
  obtain ⟨fd, F⟩ := T.f__law_fair
  exact ⟨_, fd, ["_law_net_so"], ok__law_fair T F, T.g__law_fair, F.kp, F.bindsN fun _ _ _ _ _ _ us hl => match us, hl with | [_], _ => rfl⟩
abbrev s__law_pairs : Stmt := top 38
theorem sc__law_pairs : FnScope ["_law_stopped_here", "_law_own"] ["_law_stopped_here"] (defScope s__law_pairs) := ⟨rfl, rfl, rfl, by decide +kernel, rfl, by decide +kernel, by decide +kernel⟩
def d__law_pairs : List D → Rs D := den 1 2 (sret (lf [] (vcallB (one dTuple) (acons (pur (ecomp [1] (iany (lf [] (vcallB (one dSorted2) (acons (v 0) anil)))) (gn 1) tyes (lf [] (vtup (acons (v 1) (acons (op2 dIx (v 0) (v 1)) anil)))))) anil))))
theorem ok__law_pairs (T : Txt K mg) {fd : FuncData} (F : FunD K "_law_pairs" "_law_pairs" (defArgs s__law_pairs) (defBody s__law_pairs) (defScope s__law_pairs) [] [] (He.ga K "_law_pairs") fd) : FnOk P w K mg base (L2.CX P w) 1 (He.ga K "_law_pairs") fd ["_law_stopped_here"] (spP K d__law_pairs) := by
  have sc := sc__law_pairs
  exact fn_okB F sc (own := []) rfl rfl (fun cdv A outer s H E hr => (jb_of (js_one (js_ret (js_lift (jp_callTy call_tupleP d_tuple T.b_tuple PyProof.Rows.boot_tuple (ja_cons (j_of (je_lc (ow := [("_law_own", 1)]) rfl sc.nd (ji_any (js_lift (jp_callB (b_sorted2 rfl (hu70 hr)) d_sorted2 T.b_sorted rfl (ja_cons (jp_v 0) ja_nil)))) (blkOk_by (by kernel_rfl)) (fun _ _ _ _ _ => (jg_n 1 sc.nd)) (fun _ _ _ _ _ => jts_nil) (fun _ _ _ _ _ => (js_lift (jp_tup (ja_cons (jp_v 1) (ja_cons (jp_ix hr (jp_v 0) (jp_v 1)) ja_nil))))))) ja_nil)))))))
theorem fn__law_pairs (T : Txt K mg) : Fn P w K mg base 1 "_law_pairs" d__law_pairs := by
  obtain ⟨fd, F⟩ := T.f__law_pairs
  exact ⟨_, fd, ["_law_stopped_here"], ok__law_pairs T F, T.g__law_pairs, F.kp, F.bindsN fun _ _ _ _ _ _ us hl => match us, hl with | [_], _ => rfl⟩
abbrev s__law_spare : Stmt := top 40
theorem sc__law_spare : FnScope ["_law_net_so", "_law_stopped_here", "_law_row", "_law_some", "_law_line_so", "_law_room", "_law_used", "_law_here", "_law_own", "_law_its"] ["_law_net_so", "_law_stopped_here", "_law_row"] (defScope s__law_spare) := ⟨rfl, rfl, rfl, by decide +kernel, rfl, by decide +kernel, by decide +kernel⟩
def d__law_spare : List D → Rs D := den 3 10 (sseq (sset 3 (eif (lf [3] (fun δ => bind ((op2 dIx (v 2) (c (.int 4))) δ) fun x => ok (isNon x))) (elst (lf [3] anil)) (elst (lf [3] (acons (vcall d__law_minus (acons (vtup (acons (op2 dIx (v 2) (c (.int 4))) (acons (c (.int 1)) anil))) (acons (op2 dIx (v 1) (op2 dIx (v 2) (c (.int 0)))) anil))) anil))))) (sseq (sforI (iany (lf [3] (op2 dIx (v 0) (c (.int 0))))) (gt (gscons (gn 4) (gscons (gn 5) gsnil))) (sif (lf [3] (tb (op2 dIn (v 4) (op2 dIx (v 2) (c (.int 1)))))) (sseq (sset 6 (lf [3] (vcall d__law_sum (acons (pur (ecomp [9] (iany (lf [] (op2 dIx (v 0) (c (.int 1))))) (gn 9) (lf [] (tb (op2 dIn (v 4) (op2 dIx (v 9) (c (.int 1)))))) (lf [] (op2 dIx (v 1) (op2 dIx (v 9) (c (.int 0))))))) anil)))) (sapp 3 (lf [3] (vcall d__law_minus (acons (vtup (acons (v 5) (acons (c (.int 1)) anil))) (acons (v 6) anil)))))) snext)) (sfrz [3] (sseq (sset 7 (lf [] (op2 dIx (v 3) (c (.int 0))))) (sseq (sforI (iany (lf [] (v 3))) (gn 8) (sset 7 (lf [] (vif (tr (vcall d__law_under (acons (v 8) (acons (v 7) anil)))) (v 8) (v 7))))) (sret (lf [] (v 7))))))))
theorem ok__law_spare (T : Txt K mg) {fd : FuncData} (F : FunD K "_law_spare" "_law_spare" (defArgs s__law_spare) (defBody s__law_spare) (defScope s__law_spare) [] [] (He.ga K "_law_spare") fd) : FnOk P w K mg base (L2.CX P w) 4 (He.ga K "_law_spare") fd ["_law_net_so", "_law_stopped_here", "_law_row"] (spP K d__law_spare) := by
  have sc := sc__law_spare
  exact fn_okB F sc (own := [3]) rfl rfl (fun cdv A outer s H E hr => (jb_cons (js_setN 3 sc.nd (jn_if (js_lift (jt_is (jp_ix hr (jp_v 2) jp_int))) (jn_lst (js_lift ja_nil)) (jn_lst (js_lift (ja_cons (jp_call (fn__law_minus T) (hr.mono (by omega)) (ja_cons (jp_tup (ja_cons (jp_ix hr (jp_v 2) jp_int) (ja_cons jp_int ja_nil))) (ja_cons (jp_ix hr (jp_v 1) (jp_ix hr (jp_v 2) jp_int)) ja_nil))) ja_nil))))) (jb_cons (js_for (passes_of rfl) rfl (ji_any (js_lift (jp_ix hr (jp_v 0) jp_int))) (jg_t rfl (jgs_cons (jg_n 4 sc.nd) (jgs_cons (jg_n 5 sc.nd) jgs_nil)) (gl_cons (gl_cons gl_nil))) (js_one (js_if (js_lift (jt_c (jc_in hr (jp_v 4) (jp_ix hr (jp_v 2) jp_int)))) (js_cons (js_set 6 sc.nd (js_lift (jp_call (fn__law_sum T) (hr.mono (by omega)) (ja_cons (j_of (je_lc (ow := [("_law_its", 9)]) rfl sc.nd (ji_any (js_lift (jp_ix hr (jp_v 0) jp_int))) (blkOk_by (by kernel_rfl)) (fun _ _ _ _ _ => (jg_n 9 sc.nd)) (fun _ _ _ _ _ => (jts_one (js_lift (jt_c (jc_in hr (jp_v 4) (jp_ix hr (jp_v 9) jp_int)))))) (fun _ _ _ _ _ => (js_lift (jp_ix hr (jp_v 1) (jp_ix hr (jp_v 9) jp_int)))))) ja_nil)))) (js_one (js_app 3 (js_lift (jp_call (fn__law_minus T) (hr.mono (by omega)) (ja_cons (jp_tup (ja_cons (jp_v 5) (ja_cons jp_int ja_nil))) (ja_cons (jp_v 6) ja_nil))))))) js_nil))) (jb_frz (own := [3]) 3 (jb_cons (js_set 7 sc.nd (js_lift (jp_ix hr (jp_v 3) jp_int))) (jb_cons (js_for (passes_of rfl) rfl (ji_any (js_lift (jp_v 3))) (jg_n 8 sc.nd) (js_one (js_set 7 sc.nd (js_lift (jp_if (jt_truth (jp_call (fn__law_under T) (hr.mono (by omega)) (ja_cons (jp_v 8) (ja_cons (jp_v 7) ja_nil)))) (jp_v 8) (jp_v 7)))))) (jb_of (js_one (js_ret (js_lift (jp_v 7)))))))))))
theorem fn__law_spare (T : Txt K mg) : Fn P w K mg base 4 "_law_spare" d__law_spare := by
  obtain ⟨fd, F⟩ := T.f__law_spare
  exact ⟨_, fd, ["_law_net_so", "_law_stopped_here", "_law_row"], ok__law_spare T F, T.g__law_spare, F.kp, F.bindsN fun _ _ _ _ _ _ us hl => match us, hl with | [_, _, _], _ => rfl⟩
abbrev s__law_any_shares : Stmt := top 39
theorem sc__law_any_shares : FnScope ["_law_box_here", "_law_net_so", "_law_fair_so", "_law_found", "_law_row", "_law_bottom", "_law_portion", "_law_turn"] ["_law_box_here", "_law_net_so"] (defScope s__law_any_shares) := ⟨rfl, rfl, rfl, by decide +kernel, rfl, by decide +kernel, by decide +kernel⟩
def d__law_any_shares : List D → List D → Option (D × List D) := denB 2 8 (sseq (spar2 2 3 (econs (lf [0, 3] (vcall d__law_fair (acons (v 1) anil))) (econs edict0 enil))) (sseq (sforI (iany (lf [0, 3] (op2 dIx (v 1) (c (.int 1))))) (gn 4) (sseq (spar2 5 6 (econs (lf [0, 3] (vtup (acons (op2 dIx (v 4) (c (.int 3))) (acons (c (.int 1)) anil)))) (econs (ecall d__law_terms (econs (ecallB d__law_take 0 (lf [0, 3] (acons (c (.int 5)) anil))) (econs (lf [0, 3] (c (.int 4))) enil))) enil))) (sdput 3 (lf [0, 3] (op2 dIx (v 4) (c (.int 0)))) (lf [0, 3] (vcall d__law_plus (acons (v 5) (acons (vcall d__law_by (acons (vcall d__law_minus (acons (op2 dIx (v 2) (op2 dIx (v 4) (c (.int 0)))) (acons (v 5) anil))) (acons (v 6) anil))) anil))))))) (sseq (sforI (irng1 (ecallB d__law_take 0 (lf [0, 3] (acons (c (.int 3)) anil)))) (gn 7) (sseq (sset 4 (ecallB d__law_of 0 (lf [0, 3] (acons (vcallB (one dList) (acons (op2 dIx (v 1) (c (.int 1))) anil)) anil)))) (sdput 3 (lf [0, 3] (op2 dIx (v 4) (c (.int 0)))) (lfo (vcall d__law_plus (acons (op2 dIx (v 3) (op2 dIx (v 4) (c (.int 0)))) (acons (vcall d__law_spare (acons (v 1) (acons (v 3) (acons (v 4) anil)))) anil))))))) (sfrz [0, 3] (sret (lf [0] (v 3)))))))
theorem ok__law_any_shares (T : Txt K mg) {fd : FuncData} (F : FunD K "_law_any_shares" "_law_any_shares" (defArgs s__law_any_shares) (defBody s__law_any_shares) (defScope s__law_any_shares) [] [] (He.ga K "_law_any_shares") fd) : FnOk P w K mg base (L2.CX P w) 7 (He.ga K "_law_any_shares") fd ["_law_box_here", "_law_net_so"] (spB K d__law_any_shares) := by
  have sc := sc__law_any_shares
  exact fnB_okB F sc (own := [0, 3]) rfl rfl rfl (fun cdv A outer s H E hr => (jb_cons (js_par2X 2 3 rfl sc.nd (jx_cons (js_lift (jp_call (fn__law_fair T) (hr.mono (by omega)) (ja_cons (jp_v 1) ja_nil))) (jx_new jn_dict0 jx_nil))) (jb_cons (js_for (passes_of rfl) rfl (ji_any (js_lift (jp_ix hr (jp_v 1) jp_int))) (jg_n 4 sc.nd) (js_cons (js_par2 5 6 rfl sc.nd (jae_cons (js_lift (jp_tup (ja_cons (jp_ix hr (jp_v 4) jp_int) (ja_cons jp_int ja_nil)))) (jae_cons (je_call (fn__law_terms T) (hr.mono (by omega)) (jae_cons (je_callB 0 (fn__law_take T) (hr.mono (by omega)) (js_lift (ja_cons jp_int ja_nil))) (jae_cons (js_lift jp_int) jae_nil))) jae_nil))) (js_one (js_dput 3 (hu70 hr) (js_lift (jp_call (fn__law_plus T) (hr.mono (by omega)) (ja_cons (jp_v 5) (ja_cons (jp_call (fn__law_by T) (hr.mono (by omega)) (ja_cons (jp_call (fn__law_minus T) (hr.mono (by omega)) (ja_cons (jp_ix hr (jp_v 2) (jp_ix hr (jp_v 4) jp_int)) (ja_cons (jp_v 5) ja_nil))) (ja_cons (jp_v 6) ja_nil))) ja_nil)))) (js_lift (jp_ix hr (jp_v 4) jp_int)))))) (jb_cons (js_for (passes_of rfl) rfl (ji_rng1 T.b_range (je_callB 0 (fn__law_take T) (hr.mono (by omega)) (js_lift (ja_cons jp_int ja_nil)))) (jg_n 7 sc.nd) (js_cons (js_set 4 sc.nd (je_callB 0 (fn__law_of T) (hr.mono (by omega)) (js_lift (ja_cons (jp_callTy (b_list rfl) d_list T.b_list PyProof.Rows.boot_list (ja_cons (jp_ix hr (jp_v 1) jp_int) ja_nil)) ja_nil)))) (js_one (js_dput 3 (hu70 hr) (je_o (jp_call (fn__law_plus T) (hr.mono (by omega)) (ja_cons (jp_ix hr (jp_v 3) (jp_ix hr (jp_v 4) jp_int)) (ja_cons (jp_call (fn__law_spare T) (hr.mono (by omega)) (ja_cons (jp_v 1) (ja_cons (jp_v 3) (ja_cons (jp_v 4) ja_nil)))) ja_nil)))) (js_lift (jp_ix hr (jp_v 4) jp_int)))))) (jb_frz (own := [0, 3]) 3 (jb_of (js_one (js_ret (js_lift (jp_v 3))))))))))
theorem fn__law_any_shares (T : Txt K mg) : FnB P w K mg base 7 "_law_any_shares" d__law_any_shares := by
  obtain ⟨fd, F⟩ := T.f__law_any_shares
  exact ⟨_, fd, ["_law_box_here", "_law_net_so"], ok__law_any_shares T F, T.g__law_any_shares, F.kp, F.bindsN fun _ _ _ _ _ _ us hl => match us, hl with | [_, _], _ => rfl⟩
theorem fnk_load_2_1_0 (T : Txt K mg) : FnK P w K mg base 16 "load" d_load ["line", "shares", "net"] [2, 1, 0] := by
  obtain ⟨fd, F⟩ := T.f_load
  exact ⟨_, fd, ["net", "shares", "line"], ok_load T F, T.g_load, F.kp, kbn_of F fun _ _ _ _ _ _ ws hl => match ws, hl with | [_, _, _], _ => rfl⟩
theorem fnk_level_2_1_0 (T : Txt K mg) : FnK P w K mg base 16 "level" d_level ["flow", "shares", "net"] [2, 1, 0] := by
  obtain ⟨fd, F⟩ := T.f_level
  exact ⟨_, fd, ["net", "shares", "flow"], ok_level T F, T.g_level, F.kp, kbn_of F fun _ _ _ _ _ _ ws hl => match ws, hl with | [_, _, _], _ => rfl⟩
abbrev s__law_right : Stmt := top 41
theorem sc__law_right : FnScope ["_law_box_here", "_law_turn", "_law_wires", "_law_kind", "_law_net_so", "_law_again", "_law_mine", "_law_pairs_so", "_law_soft", "_law_line_so", "_law_room", "_law_row", "_law_due", "_law_told"] ["_law_box_here"] (defScope s__law_right) := ⟨rfl, rfl, rfl, by decide +kernel, rfl, by decide +kernel, by decide +kernel⟩
def d__law_right : List D → List D → Option (D × List D) := denB 1 14 (sseq (sforI (irng1 (lf [0] (c (.int 4)))) (gn 1) (sseq (spar2 2 3 (econs (eop2 dAdd (lf [0] (c (.int 1))) (ecallB d__law_take 0 (lf [0] (acons (c (.int 5)) anil)))) (econs (ecallB d__law_take 0 (lf [0] (acons (c (.int 3)) anil))) enil))) (sseq (sset 4 (ecallB d__law_roomy 0 (econs (lf [0] (v 2)) (econs (eop2 dAdd (lf [0] (c (.int 1))) (ecallB d__law_take 0 (lf [0] (acons (c (.int 8)) anil)))) (econs (lf [0] (v 3)) enil))))) (sforI (irng1 (lf [0] (c (.int 2)))) (gn 5) (sseq (sset 6 (ecallB d__law_any_shares 0 (lf [0] (acons (v 4) anil)))) (sseq (sset 7 (lf [0] (vcall d__law_pairs (acons (v 6) anil)))) (sseq (sset 8 (lf [0] (vcall (d__law_lists 12) (acons (vlst (acons (v 4) (acons (v 7) anil))) anil)))) (sseq (sforI (iany (lf [0] (op2 dIx (v 4) (c (.int 0))))) (gt (gscons (gn 9) (gscons (gn 10) gsnil))) (sseq (sset 12 (lf [0] (vcall d__law_sum (acons (pur (ecomp [11] (iany (lf [] (op2 dIx (v 4) (c (.int 1))))) (gn 11) (lf [] (tb (op2 dIn (v 9) (op2 dIx (v 11) (c (.int 1)))))) (lf [] (op2 dIx (v 6) (op2 dIx (v 11) (c (.int 0))))))) anil)))) (sseq (sset 13 (lf [0] (vlst (acons (vcall d_load (acons (v 4) (acons (v 7) (acons (v 9) anil)))) (acons (vcallK d_load 3 [2, 1, 0] (acons (v 9) (acons (op2 dIx (v 8) (c (.int 1))) (acons (op2 dIx (v 8) (c (.int 0))) anil)))) anil))))) (sif (lf [0] (fun δ => bind ((tr (vcall (d__law_same 12) (acons (v 13) (acons (vlst (acons (v 12) (acons (v 12) anil))) anil)))) δ) fun b => ok (!b))) (sret (lf [0] (c (.bl false)))) snext)))) (sseq (sforI (iany (lf [0] (op2 dIx (v 4) (c (.int 1))))) (gn 11) (sseq (sset 12 (lf [0] (vcall d__law_part (acons (op2 dIx (v 6) (op2 dIx (v 11) (c (.int 0)))) (acons (vtup (acons (op2 dIx (v 11) (c (.int 2))) (acons (c (.int 1)) anil))) anil))))) (sseq (sset 13 (lf [0] (vlst (acons (vcall d_level (acons (v 4) (acons (v 7) (acons (op2 dIx (v 11) (c (.int 0))) anil)))) (acons (vcallK d_level 3 [2, 1, 0] (acons (op2 dIx (v 11) (c (.int 0))) (acons (op2 dIx (v 8) (c (.int 1))) (acons (op2 dIx (v 8) (c (.int 0))) anil)))) anil))))) (sif (lf [0] (fun δ => bind ((tr (vcall (d__law_same 12) (acons (v 13) (acons (vlst (acons (v 12) (acons (v 12) anil))) anil)))) δ) fun b => ok (!b))) (sret (lf [0] (c (.bl false)))) snext)))) (sif (lf [0] (tb (op2 dNe (v 8) (vcall (d__law_lists 12) (acons (vlst (acons (v 4) (acons (v 7) anil))) anil))))) (sret (lf [0] (c (.bl false)))) snext)))))))))) (sret (lf [0] (c (.bl true)))))
theorem ok__law_right (T : Txt K mg) {fd : FuncData} (F : FunD K "_law_right" "_law_right" (defArgs s__law_right) (defBody s__law_right) (defScope s__law_right) [] [] (He.ga K "_law_right") fd) : FnOk P w K mg base (L2.CX P w) 17 (He.ga K "_law_right") fd ["_law_box_here"] (spB K d__law_right) := by
  have sc := sc__law_right
  exact fnB_okB F sc (own := [0]) rfl rfl rfl (fun cdv A outer s H E hr => (jb_cons (js_for (passes_of rfl) rfl (ji_rng1 T.b_range (js_lift jp_int)) (jg_n 1 sc.nd) (js_cons (js_par2 2 3 rfl sc.nd (jae_cons (je_op o_add d_add (js_lift jp_int) (je_callB 0 (fn__law_take T) (hr.mono (by omega)) (js_lift (ja_cons jp_int ja_nil)))) (jae_cons (je_callB 0 (fn__law_take T) (hr.mono (by omega)) (js_lift (ja_cons jp_int ja_nil))) jae_nil))) (js_cons (js_set 4 sc.nd (je_callB 0 (fn__law_roomy T) (hr.mono (by omega)) (jae_cons (js_lift (jp_v 2)) (jae_cons (je_op o_add d_add (js_lift jp_int) (je_callB 0 (fn__law_take T) (hr.mono (by omega)) (js_lift (ja_cons jp_int ja_nil)))) (jae_cons (js_lift (jp_v 3)) jae_nil))))) (js_one (js_for (passes_of rfl) rfl (ji_rng1 T.b_range (js_lift jp_int)) (jg_n 5 sc.nd) (js_cons (js_set 6 sc.nd (je_callB 0 (fn__law_any_shares T) (hr.mono (by omega)) (js_lift (ja_cons (jp_v 4) ja_nil)))) (js_cons (js_set 7 sc.nd (js_lift (jp_call (fn__law_pairs T) (hr.mono (by omega)) (ja_cons (jp_v 6) ja_nil)))) (js_cons (js_set 8 sc.nd (js_lift (jp_call (fn__law_lists T 12) (hr.mono (by omega)) (ja_cons (jp_lst (ja_cons (jp_v 4) (ja_cons (jp_v 7) ja_nil))) ja_nil)))) (js_cons (js_for (passes_of rfl) rfl (ji_any (js_lift (jp_ix hr (jp_v 4) jp_int))) (jg_t rfl (jgs_cons (jg_n 9 sc.nd) (jgs_cons (jg_n 10 sc.nd) jgs_nil)) (gl_cons (gl_cons gl_nil))) (js_cons (js_set 12 sc.nd (js_lift (jp_call (fn__law_sum T) (hr.mono (by omega)) (ja_cons (j_of (je_lc (ow := [("_law_row", 11)]) rfl sc.nd (ji_any (js_lift (jp_ix hr (jp_v 4) jp_int))) (blkOk_by (by kernel_rfl)) (fun _ _ _ _ _ => (jg_n 11 sc.nd)) (fun _ _ _ _ _ => (jts_one (js_lift (jt_c (jc_in hr (jp_v 9) (jp_ix hr (jp_v 11) jp_int)))))) (fun _ _ _ _ _ => (js_lift (jp_ix hr (jp_v 6) (jp_ix hr (jp_v 11) jp_int)))))) ja_nil)))) (js_cons (js_set 13 sc.nd (js_lift (jp_lst (ja_cons (jp_call (fn_load T) (hr.mono (by omega)) (ja_cons (jp_v 4) (ja_cons (jp_v 7) (ja_cons (jp_v 9) ja_nil)))) (ja_cons (jp_callK (fnk_load_2_1_0 T) (hr.mono (by omega)) (jk_cons (jp_v 9) (jk_cons (jp_ix hr (jp_v 8) jp_int) (jk_cons (jp_ix hr (jp_v 8) jp_int) jk_nil)))) ja_nil))))) (js_one (js_if (js_lift (jt_not (jt_truth (jp_call (fn__law_same T 12) (hr.mono (by omega)) (ja_cons (jp_v 13) (ja_cons (jp_lst (ja_cons (jp_v 12) (ja_cons (jp_v 12) ja_nil))) ja_nil)))))) (js_one (js_ret (js_lift jp_bl))) js_nil))))) (js_cons (js_for (passes_of rfl) rfl (ji_any (js_lift (jp_ix hr (jp_v 4) jp_int))) (jg_n 11 sc.nd) (js_cons (js_set 12 sc.nd (js_lift (jp_call (fn__law_part T) (hr.mono (by omega)) (ja_cons (jp_ix hr (jp_v 6) (jp_ix hr (jp_v 11) jp_int)) (ja_cons (jp_tup (ja_cons (jp_ix hr (jp_v 11) jp_int) (ja_cons jp_int ja_nil))) ja_nil))))) (js_cons (js_set 13 sc.nd (js_lift (jp_lst (ja_cons (jp_call (fn_level T) (hr.mono (by omega)) (ja_cons (jp_v 4) (ja_cons (jp_v 7) (ja_cons (jp_ix hr (jp_v 11) jp_int) ja_nil)))) (ja_cons (jp_callK (fnk_level_2_1_0 T) (hr.mono (by omega)) (jk_cons (jp_ix hr (jp_v 11) jp_int) (jk_cons (jp_ix hr (jp_v 8) jp_int) (jk_cons (jp_ix hr (jp_v 8) jp_int) jk_nil)))) ja_nil))))) (js_one (js_if (js_lift (jt_not (jt_truth (jp_call (fn__law_same T 12) (hr.mono (by omega)) (ja_cons (jp_v 13) (ja_cons (jp_lst (ja_cons (jp_v 12) (ja_cons (jp_v 12) ja_nil))) ja_nil)))))) (js_one (js_ret (js_lift jp_bl))) js_nil))))) (js_one (js_if (js_lift (jt_ne hr (jp_v 8) (jp_call (fn__law_lists T 12) (hr.mono (by omega)) (ja_cons (jp_lst (ja_cons (jp_v 4) (ja_cons (jp_v 7) ja_nil))) ja_nil)))) (js_one (js_ret (js_lift jp_bl))) js_nil)))))))))))) (jb_of (js_one (js_ret (js_lift jp_bl))))))
theorem fn__law_right (T : Txt K mg) : FnB P w K mg base 17 "_law_right" d__law_right := by
  obtain ⟨fd, F⟩ := T.f__law_right
  exact ⟨_, fd, ["_law_box_here"], ok__law_right T F, T.g__law_right, F.kp, F.bindsN fun _ _ _ _ _ _ us hl => match us, hl with | [_], _ => rfl⟩
abbrev s_law : Stmt := top 42
theorem sc_law : FnScope ["_law_script", "_law_cells_here", "_law_k"] ["_law_script"] (defScope s_law) := ⟨rfl, rfl, rfl, by decide +kernel, rfl, by decide +kernel, by decide +kernel⟩
def d_law : List D → Rs D := den 1 3 (sseq (sset 1 (lf [] (vcall d__law_cells (acons (v 0) (acons (c (.int 3)) anil))))) (sret (ecallG (one dAll) (econs (ecomp [2] (irng1 (lf [] (vcallB (one dLen) (acons (v 1) anil)))) (gn 2) tyes (ecallBN d__law_right (ecall d__law_box (lf [] (acons (v 1) (acons (v 2) anil)))) (lf [] anil))) enil))))
theorem ok_law (T : Txt K mg) {fd : FuncData} (F : FunD K "law" "law" (defArgs s_law) (defBody s_law) (defScope s_law) [] [] (He.ga K "law") fd) : FnOk P w K mg base (L2.CX P w) 18 (He.ga K "law") fd ["_law_script"] (spP K d_law) := by
  have sc := sc_law
  exact fn_okB F sc (own := []) rfl rfl (fun cdv A outer s H E hr => (jb_cons (js_set 1 sc.nd (js_lift (jp_call (fn__law_cells T) (hr.mono (by omega)) (ja_cons (jp_v 0) (ja_cons jp_int ja_nil))))) (jb_of (js_one (js_ret (je_bi (cr_all rfl) d_all T.b_all PyProof.Rows.boot_all (jae_cons (je_lc (ow := [("_law_k", 2)]) rfl sc.nd (ji_rng1 T.b_range (js_lift (jp_callB b_len d_len T.b_len PySem.boot_len (ja_cons (jp_v 1) ja_nil)))) (blkOk_by (by kernel_rfl)) (fun _ _ _ _ _ => (jg_n 2 sc.nd)) (fun _ _ _ _ _ => jts_nil) (fun _ _ _ _ _ => (je_callBN (fn__law_right T) (hr.mono (by omega)) (jn_call (fn__law_box T) (hr.mono (by omega)) (js_lift (ja_cons (jp_v 1) (ja_cons (jp_v 2) ja_nil)))) (js_lift ja_nil)))) jae_nil)))))))
theorem fn_law (T : Txt K mg) : Fn P w K mg base 18 "law" d_law := by
  obtain ⟨fd, F⟩ := T.f_law
  exact ⟨_, fd, ["_law_script"], ok_law T F, T.g_law, F.kp, F.bindsN fun _ _ _ _ _ _ us hl => match us, hl with | [_], _ => rfl⟩
end
end Lw
end
section
set_option maxHeartbeats 0
namespace Lw
open PySem L2 PD
/-! ### the head -/
def fn : List He.DefD := [⟨("tupled", none), "tupled", "tupled", defArgs s_tupled, defBody s_tupled, defScope s_tupled, [], []⟩, ⟨("is_number", none), "is_number", "is_number", defArgs s_is_number, defBody s_is_number, defScope s_is_number, [], []⟩, ⟨("divisor", none), "divisor", "divisor", defArgs s_divisor, defBody s_divisor, defScope s_divisor, [], []⟩, ⟨("lowest", none), "lowest", "lowest", defArgs s_lowest, defBody s_lowest, defScope s_lowest, [], []⟩, ⟨("whole", none), "whole", "whole", defArgs s_whole, defBody s_whole, defScope s_whole, [], []⟩, ⟨("plus", none), "plus", "plus", defArgs s_plus, defBody s_plus, defScope s_plus, [], []⟩, ⟨("over", none), "over", "over", defArgs s_over, defBody s_over, defScope s_over, [], []⟩, ⟨("sum_of", none), "sum_of", "sum_of", defArgs s_sum_of, defBody s_sum_of, defScope s_sum_of, [], []⟩, ⟨("share_dict", none), "share_dict", "share_dict", defArgs s_share_dict, defBody s_share_dict, defScope s_share_dict, [], []⟩, ⟨("load", none), "load", "load", defArgs s_load, defBody s_load, defScope s_load, [], []⟩, ⟨("level", none), "level", "level", defArgs s_level, defBody s_level, defScope s_level, [], []⟩, ⟨("_law_box", none), "_law_box", "_law_box", defArgs s__law_box, defBody s__law_box, defScope s__law_box, [], []⟩, ⟨("_law_take", none), "_law_take", "_law_take", defArgs s__law_take, defBody s__law_take, defScope s__law_take, [], []⟩, ⟨("_law_cells", none), "_law_cells", "_law_cells", defArgs s__law_cells, defBody s__law_cells, defScope s__law_cells, [], []⟩, ⟨("_law_of", none), "_law_of", "_law_of", defArgs s__law_of, defBody s__law_of, defScope s__law_of, [], []⟩, ⟨("_law_lists", none), "_law_lists", "_law_lists", defArgs s__law_lists, defBody s__law_lists, defScope s__law_lists, [], []⟩, ⟨("_law_same", none), "_law_same", "_law_same", defArgs s__law_same, defBody s__law_same, defScope s__law_same, [], []⟩, ⟨("_law_terms", none), "_law_terms", "_law_terms", defArgs s__law_terms, defBody s__law_terms, defScope s__law_terms, [], []⟩, ⟨("_law_plus", none), "_law_plus", "_law_plus", defArgs s__law_plus, defBody s__law_plus, defScope s__law_plus, [], []⟩, ⟨("_law_minus", none), "_law_minus", "_law_minus", defArgs s__law_minus, defBody s__law_minus, defScope s__law_minus, [], []⟩, ⟨("_law_by", none), "_law_by", "_law_by", defArgs s__law_by, defBody s__law_by, defScope s__law_by, [], []⟩, ⟨("_law_part", none), "_law_part", "_law_part", defArgs s__law_part, defBody s__law_part, defScope s__law_part, [], []⟩, ⟨("_law_under", none), "_law_under", "_law_under", defArgs s__law_under, defBody s__law_under, defScope s__law_under, [], []⟩, ⟨("_law_sum", none), "_law_sum", "_law_sum", defArgs s__law_sum, defBody s__law_sum, defScope s__law_sum, [], []⟩, ⟨("_law_drawn_net", none), "_law_drawn_net", "_law_drawn_net", defArgs s__law_drawn_net, defBody s__law_drawn_net, defScope s__law_drawn_net, [], []⟩, ⟨("_law_roomy", none), "_law_roomy", "_law_roomy", defArgs s__law_roomy, defBody s__law_roomy, defScope s__law_roomy, [], []⟩, ⟨("_law_at", none), "_law_at", "_law_at", defArgs s__law_at, defBody s__law_at, defScope s__law_at, [], []⟩, ⟨("_law_loads", none), "_law_loads", "_law_loads", defArgs s__law_loads, defBody s__law_loads, defScope s__law_loads, [], []⟩, ⟨("_law_stopped", none), "_law_stopped", "_law_stopped", defArgs s__law_stopped, defBody s__law_stopped, defScope s__law_stopped, [], []⟩, ⟨("_law_events", none), "_law_events", "_law_events", defArgs s__law_events, defBody s__law_events, defScope s__law_events, [], []⟩, ⟨("_law_fair", none), "_law_fair", "_law_fair", defArgs s__law_fair, defBody s__law_fair, defScope s__law_fair, [], []⟩, ⟨("_law_pairs", none), "_law_pairs", "_law_pairs", defArgs s__law_pairs, defBody s__law_pairs, defScope s__law_pairs, [], []⟩, ⟨("_law_spare", none), "_law_spare", "_law_spare", defArgs s__law_spare, defBody s__law_spare, defScope s__law_spare, [], []⟩, ⟨("_law_any_shares", none), "_law_any_shares", "_law_any_shares", defArgs s__law_any_shares, defBody s__law_any_shares, defScope s__law_any_shares, [], []⟩, ⟨("_law_right", none), "_law_right", "_law_right", defArgs s__law_right, defBody s__law_right, defScope s__law_right, [], []⟩, ⟨("law", none), "law", "law", defArgs s_law, defBody s_law, defScope s_law, [], []⟩, ⟨("Net", some "__init__"), "__init__", "Net.__init__", defArgs s_Net___init__, defBody s_Net___init__, defScope s_Net___init__, [], []⟩, ⟨("Net", some "__iter__"), "__iter__", "Net.__iter__", defArgs s_Net___iter__, defBody s_Net___iter__, defScope s_Net___iter__, [], []⟩, ⟨("Net", some "weight"), "weight", "Net.weight", defArgs s_Net_weight, defBody s_Net_weight, defScope s_Net_weight, [], []⟩, ⟨("Net", some "flows_on"), "flows_on", "Net.flows_on", defArgs s_Net_flows_on, defBody s_Net_flows_on, defScope s_Net_flows_on, [], []⟩, ⟨("Net", some "load"), "load", "Net.load", defArgs s_Net_load, defBody s_Net_load, defScope s_Net_load, [], []⟩, ⟨("Net", some "level"), "level", "Net.level", defArgs s_Net_level, defBody s_Net_level, defScope s_Net_level, [], []⟩]
def fa : List He.Fa := [.glo "tupled", .glo "is_number", .glo "divisor", .glo "lowest", .glo "whole", .glo "plus", .glo "over", .glo "sum_of", .glo "share_dict", .glo "load", .glo "level", .glo "_law_box", .glo "_law_take", .glo "_law_cells", .glo "_law_of", .glo "_law_lists", .glo "_law_same", .glo "_law_terms", .glo "_law_plus", .glo "_law_minus", .glo "_law_by", .glo "_law_part", .glo "_law_under", .glo "_law_sum", .glo "_law_drawn_net", .glo "_law_roomy", .glo "_law_at", .glo "_law_loads", .glo "_law_stopped", .glo "_law_events", .glo "_law_fair", .glo "_law_pairs", .glo "_law_spare", .glo "_law_any_shares", .glo "_law_right", .glo "law", .free "abs", .free "all", .free "bool", .free "dict", .free "enumerate", .free "int", .free "isinstance", .free "iter", .free "len", .free "list", .free "max", .free "range", .free "sorted", .free "str", .free "sum", .free "tuple", .free "zip", .mkr "Net", .glo "Net", .meth "Net" "__iter__", .meth "Net" "weight", .meth "Net" "flows_on", .meth "Net" "load", .meth "Net" "level"]
def exl (K : Frag) : List Bool := [tupB K "NOUGHT" [0, 1], sclsB K "Net", slotB K "Net" "own_flows" 0, slotB K "Net" "own_names" 1, slotB K "Net" "own_rooms" 2]
def exb (K : Frag) : Bool := (exl K).all id
theorem ex_at {K : Frag} (h : exb K = true) (i : Nat) {b : Bool} (e : (exl K)[i]? = some b) : b = true := List.all_eq_true.1 h b (List.mem_of_getElem? e)
abbrev R : PySem.W.OpenRow := PySem.W.OpenLaw.row PySem.Challenge.rw_leastshare_k12_loads_and_levels
abbrev hk : PySem.W.Hook := He.hookX 6 fa fn [] [] exb
def ob (s : PySem.W.SharedT) : He.AlX := He.obsX 6 fa fn [] [] exb (HandSHeadRun.getT s)
theorem ob_eq (s : PySem.W.SharedT) : ob s = hk.obs s.abs := He.obsX_eq (HandSHeadRun.getT_eq s)
theorem run (w : World) : HandSHeadRun.RunEq R (PySem.W.view R.prog [42]) hk ob 3000 [("_wall" : Str), ("tupled" : Str), ("is_number" : Str), ("divisor" : Str), ("lowest" : Str), ("whole" : Str), ("plus" : Str), ("over" : Str), ("sum_of" : Str), ("share_dict" : Str), ("load" : Str), ("level" : Str), ("_law_box" : Str), ("_law_take" : Str), ("_law_cells" : Str), ("_law_of" : Str), ("_law_lists" : Str), ("_law_same" : Str), ("_law_terms" : Str), ("_law_plus" : Str), ("_law_minus" : Str), ("_law_by" : Str), ("_law_part" : Str), ("_law_under" : Str), ("_law_sum" : Str), ("_law_drawn_net" : Str), ("_law_roomy" : Str), ("_law_fair" : Str), ("_law_at" : Str), ("_law_loads" : Str), ("_law_stopped" : Str), ("_law_events" : Str), ("_law_pairs" : Str), ("_law_any_shares" : Str), ("_law_spare" : Str), ("_law_right" : Str), ("Net" : Str), ("NOUGHT" : Str)] w := by
  intro os
  kernel_rfl
theorem txt {K : Frag} {h : Heap} {mg : Str → Option Value} (X : K.In h) (G : h.Ns mainGlobals mg) (c : He.SaysD fa fn K) (x : exb K = true) : Txt K mg where
  b_abs := He.free_ok X G (c.fact 36 (f := .free "abs") rfl)
  b_all := He.free_ok X G (c.fact 37 (f := .free "all") rfl)
  b_bool := He.free_ok X G (c.fact 38 (f := .free "bool") rfl)
  b_dict := He.free_ok X G (c.fact 39 (f := .free "dict") rfl)
  b_enumerate := He.free_ok X G (c.fact 40 (f := .free "enumerate") rfl)
  b_int := He.free_ok X G (c.fact 41 (f := .free "int") rfl)
  b_isinstance := He.free_ok X G (c.fact 42 (f := .free "isinstance") rfl)
  b_iter := He.free_ok X G (c.fact 43 (f := .free "iter") rfl)
  b_len := He.free_ok X G (c.fact 44 (f := .free "len") rfl)
  b_list := He.free_ok X G (c.fact 45 (f := .free "list") rfl)
  b_max := He.free_ok X G (c.fact 46 (f := .free "max") rfl)
  b_range := He.free_ok X G (c.fact 47 (f := .free "range") rfl)
  b_sorted := He.free_ok X G (c.fact 48 (f := .free "sorted") rfl)
  b_str := He.free_ok X G (c.fact 49 (f := .free "str") rfl)
  b_sum := He.free_ok X G (c.fact 50 (f := .free "sum") rfl)
  b_tuple := He.free_ok X G (c.fact 51 (f := .free "tuple") rfl)
  b_zip := He.free_ok X G (c.fact 52 (f := .free "zip") rfl)
  k_NOUGHT := tup_of X G (ex_at x 0 rfl)
  c_Net := scls_of (ex_at x 1 rfl)
  sl_Net_own_flows := slot_of (scls_of (ex_at x 1 rfl)) (ex_at x 2 rfl)
  sl_Net_own_names := slot_of (scls_of (ex_at x 1 rfl)) (ex_at x 3 rfl)
  sl_Net_own_rooms := slot_of (scls_of (ex_at x 1 rfl)) (ex_at x 4 rfl)
  mk_Net := He.mkr_ok (c.fact 53 (f := .mkr "Net") rfl)
  gc_Net := He.glo_ok X G (c.fact 54 (f := .glo "Net") rfl)
  m_Net___iter__ := He.meth_ok (c.fact 55 (f := .meth "Net" "__iter__") rfl)
  m_Net_weight := He.meth_ok (c.fact 56 (f := .meth "Net" "weight") rfl)
  m_Net_flows_on := He.meth_ok (c.fact 57 (f := .meth "Net" "flows_on") rfl)
  m_Net_load := He.meth_ok (c.fact 58 (f := .meth "Net" "load") rfl)
  m_Net_level := He.meth_ok (c.fact 59 (f := .meth "Net" "level") rfl)
  f_tupled := c.def_ 0 (d := ⟨("tupled", none), "tupled", "tupled", defArgs s_tupled, defBody s_tupled, defScope s_tupled, [], []⟩) rfl
  g_tupled := He.glo_ok X G (c.fact 0 (f := .glo "tupled") rfl)
  f_is_number := c.def_ 1 (d := ⟨("is_number", none), "is_number", "is_number", defArgs s_is_number, defBody s_is_number, defScope s_is_number, [], []⟩) rfl
  g_is_number := He.glo_ok X G (c.fact 1 (f := .glo "is_number") rfl)
  f_divisor := c.def_ 2 (d := ⟨("divisor", none), "divisor", "divisor", defArgs s_divisor, defBody s_divisor, defScope s_divisor, [], []⟩) rfl
  g_divisor := He.glo_ok X G (c.fact 2 (f := .glo "divisor") rfl)
  f_lowest := c.def_ 3 (d := ⟨("lowest", none), "lowest", "lowest", defArgs s_lowest, defBody s_lowest, defScope s_lowest, [], []⟩) rfl
  g_lowest := He.glo_ok X G (c.fact 3 (f := .glo "lowest") rfl)
  f_whole := c.def_ 4 (d := ⟨("whole", none), "whole", "whole", defArgs s_whole, defBody s_whole, defScope s_whole, [], []⟩) rfl
  g_whole := He.glo_ok X G (c.fact 4 (f := .glo "whole") rfl)
  f_plus := c.def_ 5 (d := ⟨("plus", none), "plus", "plus", defArgs s_plus, defBody s_plus, defScope s_plus, [], []⟩) rfl
  g_plus := He.glo_ok X G (c.fact 5 (f := .glo "plus") rfl)
  f_over := c.def_ 6 (d := ⟨("over", none), "over", "over", defArgs s_over, defBody s_over, defScope s_over, [], []⟩) rfl
  g_over := He.glo_ok X G (c.fact 6 (f := .glo "over") rfl)
  f_sum_of := c.def_ 7 (d := ⟨("sum_of", none), "sum_of", "sum_of", defArgs s_sum_of, defBody s_sum_of, defScope s_sum_of, [], []⟩) rfl
  g_sum_of := He.glo_ok X G (c.fact 7 (f := .glo "sum_of") rfl)
  f_share_dict := c.def_ 8 (d := ⟨("share_dict", none), "share_dict", "share_dict", defArgs s_share_dict, defBody s_share_dict, defScope s_share_dict, [], []⟩) rfl
  g_share_dict := He.glo_ok X G (c.fact 8 (f := .glo "share_dict") rfl)
  f_load := c.def_ 9 (d := ⟨("load", none), "load", "load", defArgs s_load, defBody s_load, defScope s_load, [], []⟩) rfl
  g_load := He.glo_ok X G (c.fact 9 (f := .glo "load") rfl)
  f_level := c.def_ 10 (d := ⟨("level", none), "level", "level", defArgs s_level, defBody s_level, defScope s_level, [], []⟩) rfl
  g_level := He.glo_ok X G (c.fact 10 (f := .glo "level") rfl)
  f__law_box := c.def_ 11 (d := ⟨("_law_box", none), "_law_box", "_law_box", defArgs s__law_box, defBody s__law_box, defScope s__law_box, [], []⟩) rfl
  g__law_box := He.glo_ok X G (c.fact 11 (f := .glo "_law_box") rfl)
  f__law_take := c.def_ 12 (d := ⟨("_law_take", none), "_law_take", "_law_take", defArgs s__law_take, defBody s__law_take, defScope s__law_take, [], []⟩) rfl
  g__law_take := He.glo_ok X G (c.fact 12 (f := .glo "_law_take") rfl)
  f__law_cells := c.def_ 13 (d := ⟨("_law_cells", none), "_law_cells", "_law_cells", defArgs s__law_cells, defBody s__law_cells, defScope s__law_cells, [], []⟩) rfl
  g__law_cells := He.glo_ok X G (c.fact 13 (f := .glo "_law_cells") rfl)
  f__law_of := c.def_ 14 (d := ⟨("_law_of", none), "_law_of", "_law_of", defArgs s__law_of, defBody s__law_of, defScope s__law_of, [], []⟩) rfl
  g__law_of := He.glo_ok X G (c.fact 14 (f := .glo "_law_of") rfl)
  f__law_lists := c.def_ 15 (d := ⟨("_law_lists", none), "_law_lists", "_law_lists", defArgs s__law_lists, defBody s__law_lists, defScope s__law_lists, [], []⟩) rfl
  g__law_lists := He.glo_ok X G (c.fact 15 (f := .glo "_law_lists") rfl)
  f__law_same := c.def_ 16 (d := ⟨("_law_same", none), "_law_same", "_law_same", defArgs s__law_same, defBody s__law_same, defScope s__law_same, [], []⟩) rfl
  g__law_same := He.glo_ok X G (c.fact 16 (f := .glo "_law_same") rfl)
  f__law_terms := c.def_ 17 (d := ⟨("_law_terms", none), "_law_terms", "_law_terms", defArgs s__law_terms, defBody s__law_terms, defScope s__law_terms, [], []⟩) rfl
  g__law_terms := He.glo_ok X G (c.fact 17 (f := .glo "_law_terms") rfl)
  f__law_plus := c.def_ 18 (d := ⟨("_law_plus", none), "_law_plus", "_law_plus", defArgs s__law_plus, defBody s__law_plus, defScope s__law_plus, [], []⟩) rfl
  g__law_plus := He.glo_ok X G (c.fact 18 (f := .glo "_law_plus") rfl)
  f__law_minus := c.def_ 19 (d := ⟨("_law_minus", none), "_law_minus", "_law_minus", defArgs s__law_minus, defBody s__law_minus, defScope s__law_minus, [], []⟩) rfl
  g__law_minus := He.glo_ok X G (c.fact 19 (f := .glo "_law_minus") rfl)
  f__law_by := c.def_ 20 (d := ⟨("_law_by", none), "_law_by", "_law_by", defArgs s__law_by, defBody s__law_by, defScope s__law_by, [], []⟩) rfl
  g__law_by := He.glo_ok X G (c.fact 20 (f := .glo "_law_by") rfl)
  f__law_part := c.def_ 21 (d := ⟨("_law_part", none), "_law_part", "_law_part", defArgs s__law_part, defBody s__law_part, defScope s__law_part, [], []⟩) rfl
  g__law_part := He.glo_ok X G (c.fact 21 (f := .glo "_law_part") rfl)
  f__law_under := c.def_ 22 (d := ⟨("_law_under", none), "_law_under", "_law_under", defArgs s__law_under, defBody s__law_under, defScope s__law_under, [], []⟩) rfl
  g__law_under := He.glo_ok X G (c.fact 22 (f := .glo "_law_under") rfl)
  f__law_sum := c.def_ 23 (d := ⟨("_law_sum", none), "_law_sum", "_law_sum", defArgs s__law_sum, defBody s__law_sum, defScope s__law_sum, [], []⟩) rfl
  g__law_sum := He.glo_ok X G (c.fact 23 (f := .glo "_law_sum") rfl)
  f__law_drawn_net := c.def_ 24 (d := ⟨("_law_drawn_net", none), "_law_drawn_net", "_law_drawn_net", defArgs s__law_drawn_net, defBody s__law_drawn_net, defScope s__law_drawn_net, [], []⟩) rfl
  g__law_drawn_net := He.glo_ok X G (c.fact 24 (f := .glo "_law_drawn_net") rfl)
  f__law_roomy := c.def_ 25 (d := ⟨("_law_roomy", none), "_law_roomy", "_law_roomy", defArgs s__law_roomy, defBody s__law_roomy, defScope s__law_roomy, [], []⟩) rfl
  g__law_roomy := He.glo_ok X G (c.fact 25 (f := .glo "_law_roomy") rfl)
  f__law_at := c.def_ 26 (d := ⟨("_law_at", none), "_law_at", "_law_at", defArgs s__law_at, defBody s__law_at, defScope s__law_at, [], []⟩) rfl
  g__law_at := He.glo_ok X G (c.fact 26 (f := .glo "_law_at") rfl)
  f__law_loads := c.def_ 27 (d := ⟨("_law_loads", none), "_law_loads", "_law_loads", defArgs s__law_loads, defBody s__law_loads, defScope s__law_loads, [], []⟩) rfl
  g__law_loads := He.glo_ok X G (c.fact 27 (f := .glo "_law_loads") rfl)
  f__law_stopped := c.def_ 28 (d := ⟨("_law_stopped", none), "_law_stopped", "_law_stopped", defArgs s__law_stopped, defBody s__law_stopped, defScope s__law_stopped, [], []⟩) rfl
  g__law_stopped := He.glo_ok X G (c.fact 28 (f := .glo "_law_stopped") rfl)
  f__law_events := c.def_ 29 (d := ⟨("_law_events", none), "_law_events", "_law_events", defArgs s__law_events, defBody s__law_events, defScope s__law_events, [], []⟩) rfl
  g__law_events := He.glo_ok X G (c.fact 29 (f := .glo "_law_events") rfl)
  f__law_fair := c.def_ 30 (d := ⟨("_law_fair", none), "_law_fair", "_law_fair", defArgs s__law_fair, defBody s__law_fair, defScope s__law_fair, [], []⟩) rfl
  g__law_fair := He.glo_ok X G (c.fact 30 (f := .glo "_law_fair") rfl)
  f__law_pairs := c.def_ 31 (d := ⟨("_law_pairs", none), "_law_pairs", "_law_pairs", defArgs s__law_pairs, defBody s__law_pairs, defScope s__law_pairs, [], []⟩) rfl
  g__law_pairs := He.glo_ok X G (c.fact 31 (f := .glo "_law_pairs") rfl)
  f__law_spare := c.def_ 32 (d := ⟨("_law_spare", none), "_law_spare", "_law_spare", defArgs s__law_spare, defBody s__law_spare, defScope s__law_spare, [], []⟩) rfl
  g__law_spare := He.glo_ok X G (c.fact 32 (f := .glo "_law_spare") rfl)
  f__law_any_shares := c.def_ 33 (d := ⟨("_law_any_shares", none), "_law_any_shares", "_law_any_shares", defArgs s__law_any_shares, defBody s__law_any_shares, defScope s__law_any_shares, [], []⟩) rfl
  g__law_any_shares := He.glo_ok X G (c.fact 33 (f := .glo "_law_any_shares") rfl)
  f__law_right := c.def_ 34 (d := ⟨("_law_right", none), "_law_right", "_law_right", defArgs s__law_right, defBody s__law_right, defScope s__law_right, [], []⟩) rfl
  g__law_right := He.glo_ok X G (c.fact 34 (f := .glo "_law_right") rfl)
  f_law := c.def_ 35 (d := ⟨("law", none), "law", "law", defArgs s_law, defBody s_law, defScope s_law, [], []⟩) rfl
  g_law := He.glo_ok X G (c.fact 35 (f := .glo "law") rfl)
  f_Net___init__ := c.def_ 36 (d := ⟨("Net", some "__init__"), "__init__", "Net.__init__", defArgs s_Net___init__, defBody s_Net___init__, defScope s_Net___init__, [], []⟩) rfl
  f_Net___iter__ := c.def_ 37 (d := ⟨("Net", some "__iter__"), "__iter__", "Net.__iter__", defArgs s_Net___iter__, defBody s_Net___iter__, defScope s_Net___iter__, [], []⟩) rfl
  f_Net_weight := c.def_ 38 (d := ⟨("Net", some "weight"), "weight", "Net.weight", defArgs s_Net_weight, defBody s_Net_weight, defScope s_Net_weight, [], []⟩) rfl
  f_Net_flows_on := c.def_ 39 (d := ⟨("Net", some "flows_on"), "flows_on", "Net.flows_on", defArgs s_Net_flows_on, defBody s_Net_flows_on, defScope s_Net_flows_on, [], []⟩) rfl
  f_Net_load := c.def_ 40 (d := ⟨("Net", some "load"), "load", "Net.load", defArgs s_Net_load, defBody s_Net_load, defScope s_Net_load, [], []⟩) rfl
  f_Net_level := c.def_ 41 (d := ⟨("Net", some "level"), "level", "Net.level", defArgs s_Net_level, defBody s_Net_level, defScope s_Net_level, [], []⟩) rfl
theorem law_holds (main : ∀ ns : List Int, ns.length ≤ 63 → d_law [.scr (ns.map D.int)] = some (.ok (.bl true))) : PySem.Challenge.rw_leastshare_k12_loads_and_levels.Holds := by
  w_on; o_law
  refine HandSHeadRun.head_any (r := PySem.W.OpenLaw.row PySem.Challenge.rw_leastshare_k12_loads_and_levels) (q := PySem.W.view (PySem.W.OpenLaw.row PySem.Challenge.rw_leastshare_k12_loads_and_levels).prog [42]) (H := hk) (ob := ob) (M := 3000) (loose := [("_wall" : Str), ("tupled" : Str), ("is_number" : Str), ("divisor" : Str), ("lowest" : Str), ("whole" : Str), ("plus" : Str), ("over" : Str), ("sum_of" : Str), ("share_dict" : Str), ("load" : Str), ("level" : Str), ("_law_box" : Str), ("_law_take" : Str), ("_law_cells" : Str), ("_law_of" : Str), ("_law_lists" : Str), ("_law_same" : Str), ("_law_terms" : Str), ("_law_plus" : Str), ("_law_minus" : Str), ("_law_by" : Str), ("_law_part" : Str), ("_law_under" : Str), ("_law_sum" : Str), ("_law_drawn_net" : Str), ("_law_roomy" : Str), ("_law_fair" : Str), ("_law_at" : Str), ("_law_loads" : Str), ("_law_stopped" : Str), ("_law_events" : Str), ("_law_pairs" : Str), ("_law_any_shares" : Str), ("_law_spare" : Str), ("_law_right" : Str), ("Net" : Str), ("NOUGHT" : Str)]) (d := HandSHeadRun.topDef (PySem.W.OpenLaw.row PySem.Challenge.rw_leastshare_k12_loads_and_levels).prog 42) (kwd := []) ob_eq
    (by kernel_rfl) (fun s => by kernel_rfl) run (by kernel_rfl) (by kernel_rfl) (by kernel_rfl) (by rfl) (by first | assumption | decide +kernel) (by decide +kernel) ⟨rfl, rfl, rfl, rfl, rfl, by decide +kernel⟩ ?hw ?hc
  case hw => w_witness2
  case hc =>
    refine PD.walk_ofG (l := PySem.Challenge.rw_leastshare_k12_loads_and_levels) (n := 63) (k := 18) (x := "_law_script") (CX := fun w => L2.CX (PySem.Challenge.rw_leastshare_k12_loads_and_levels).prog w) rfl (by decide) (by kernel_rfl) ⟨rfl, by decide, by decide⟩ ?F (fun w H s e s' z => cx_false z)
    intro w mg fa' h Y G hmg0
    obtain ⟨K, KX, cX⟩ := Y
    have hmg : mg ("law" : PySem.Str) = some (.ref fa') := by
      have e : (HandSHeadRun.topDef (PySem.W.OpenLaw.row PySem.Challenge.rw_leastshare_k12_loads_and_levels).prog 42).name = ("law" : PySem.Str) := by kernel_rfl
      rw [← e]
      exact hmg0
    have T := txt KX G cX.t.d cX.more
    obtain ⟨fd, F⟩ := T.f_law
    cases hmg.symm.trans T.g_law
    have b := FunD.bindsA (ps := ["_law_script"]) F fun _ _ _ _ _ _ us hl => match us, hl with | [_], _ => rfl
    exact ⟨K, fd, spP K d_law, KX, fun s v => b s [v] rfl, fun H a ns hl _ hS => law_sp hS (main ns hl), fun base _ _ => fnG_of (ok_law T F)⟩
end Lw
end
section
namespace PD
open PySem L2
/-! ### plain reasoning about mirrors: what is told, and how -/
/-- a Prop, by whose type simp sees that Q is not to be looked into -/
abbrev PropOf {β : Type} (_ : β → Prop) : Type := Prop
abbrev PropOf2 {β : Type} (_ : β → Env → Prop) : Type := Prop
def okR {α : Type} (o : Rs α) (Q : α → Prop) : PropOf Q := ∃ a, o = some (.ok a) ∧ Q a
def okE {α : Type} (o : RE α) (Q : α → Env → Prop) : PropOf2 Q := ∃ a δ, o = some (.ok (a, δ)) ∧ Q a δ
def okO {α : Type} (o : Option α) (Q : α → Prop) : PropOf Q := ∃ a, o = some a ∧ Q a
theorem okO.mono {α : Type} {o : Option α} {Q R : α → Prop} (h : okO o Q) (k : ∀ a, Q a → R a) : okO o R := let ⟨a, e, q⟩ := h; ⟨a, e, k a q⟩
theorem okR.mono {α : Type} {o : Rs α} {Q R : α → Prop} (h : okR o Q) (k : ∀ a, Q a → R a) : okR o R := let ⟨a, e, q⟩ := h; ⟨a, e, k a q⟩
theorem okE.mono {α : Type} {o : RE α} {Q R : α → Env → Prop} (h : okE o Q) (k : ∀ a δ, Q a δ → R a δ) : okE o R := let ⟨a, δ, e, q⟩ := h; ⟨a, δ, e, k a δ q⟩
@[simp] theorem okR_some {α : Type} {a : α} {Q : α → Prop} : okR (some (.ok a)) Q = Q a := by
  apply propext; constructor
  · rintro ⟨b, e, q⟩; cases e; exact q
  · exact fun q => ⟨a, rfl, q⟩
@[simp] theorem okR_ok {α : Type} {a : α} {Q : α → Prop} : okR (ok a) Q = Q a := okR_some
@[simp] theorem okR_bind {α β : Type} {x : Rs α} {f : α → Rs β} {Q : β → Prop} : okR (bind x f) Q = okR x fun a => okR (f a) Q := by
  apply propext
  cases x with
  | none => constructor <;> (rintro ⟨_, e, _⟩; cases e)
  | some y => cases y with
    | error e => constructor <;> (rintro ⟨_, e, _⟩; cases e)
    | ok a => rw [okR_some]; exact Iff.rfl
@[simp] theorem okR_opt {α : Type} {x : Option α} {Q : α → Prop} : okR (opt x) Q = okO x Q := by
  apply propext
  cases x with
  | none => constructor <;> (rintro ⟨_, e, _⟩; cases e)
  | some y => constructor
              · rintro ⟨_, e, q⟩; cases e; exact ⟨_, rfl, q⟩
              · rintro ⟨_, e, q⟩; cases e; exact ⟨_, rfl, q⟩
@[simp] theorem okR_ite {α : Type} {p : Prop} [Decidable p] {x y : Rs α} {Q : α → Prop} : okR (if p then x else y) Q = if p then okR x Q else okR y Q := by split <;> rfl
@[simp] theorem okO_some {α : Type} {x : α} {Q : α → Prop} : okO (some x) Q = Q x := by
  apply propext; constructor
  · rintro ⟨b, e, q⟩; cases e; exact q
  · exact fun q => ⟨x, rfl, q⟩
@[simp] theorem okE_some {α : Type} {a : α} {δ : Env} {Q : α → Env → Prop} : okE (some (.ok (a, δ))) Q = Q a δ := by
  apply propext; constructor
  · rintro ⟨b, _, e, q⟩; cases e; exact q
  · exact fun q => ⟨a, δ, rfl, q⟩
@[simp] theorem okE_bind {α β : Type} {x : RE α} {f : α → Env → RE β} {Q : β → Env → Prop} : okE (bindE x f) Q = okE x fun a δ => okE (f a δ) Q := by
  apply propext
  cases x with
  | none => constructor <;> (rintro ⟨_, _, e, _⟩; cases e)
  | some y => cases y with
    | error e => constructor <;> (rintro ⟨_, _, e, _⟩; cases e)
    | ok a => obtain ⟨a, δ⟩ := a; rw [okE_some]; exact Iff.rfl
@[simp] theorem okE_ite {α : Type} {p : Prop} [Decidable p] {x y : RE α} {Q : α → Env → Prop} : okE (if p then x else y) Q = if p then okE x Q else okE y Q := by split <;> rfl
@[simp] theorem okE_map {α : Type} {x : Option D} {δ : Env} {g : D → α} {Q : α → Env → Prop} : okE (x.map fun z => .ok (g z, δ)) Q = okO x fun z => Q (g z) δ := by
  apply propext
  cases x with
  | none => constructor
            · rintro ⟨_, _, e, _⟩; cases e
            · rintro ⟨_, e, _⟩; cases e
  | some y => constructor
              · rintro ⟨_, _, e, q⟩; cases e; exact ⟨_, rfl, q⟩
              · rintro ⟨_, e, q⟩; cases e; exact ⟨_, _, rfl, q⟩
@[simp] theorem okE_lf {α : Type} {own : List Nat} {g : Env → Rs α} {δ : Env} {Q : α → Env → Prop} : okE (lf own g δ) Q = okR (g (mask own δ)) fun d => Q d δ := by
  apply propext
  unfold lf
  cases g (mask own δ) with
  | none => constructor <;> (first | (rintro ⟨_, _, e, _⟩; cases e) | (rintro ⟨_, e, _⟩; cases e))
  | some y => cases y with
    | error e => constructor <;> (first | (rintro ⟨_, _, e, _⟩; cases e) | (rintro ⟨_, e, _⟩; cases e))
    | ok a => simp only [okR_some, okE_some]
@[simp] theorem okE_lfo {g : Env → Rs D} {δ : Env} {Q : D → Env → Prop} : okE (lfo g δ) Q = okR (g δ) fun d => flat d = true ∧ Q d δ := by
  apply propext
  unfold lfo
  cases g δ with
  | none => constructor <;> (first | (rintro ⟨_, _, e, _⟩; cases e) | (rintro ⟨_, e, _⟩; cases e))
  | some y => cases y with
    | error e => constructor <;> (first | (rintro ⟨_, _, e, _⟩; cases e) | (rintro ⟨_, e, _⟩; cases e))
    | ok a =>
      simp only [okR_some]
      cases h : flat a with
      | true => simp [okE_some]
      | false => simp; rintro ⟨_, _, e, _⟩; cases e
@[simp] theorem okE_lfT {g : Env → Rs Bool} {δ : Env} {Q : Bool → Env → Prop} : okE (lfT g δ) Q = okR (g δ) fun d => Q d δ := by
  apply propext
  unfold lfT
  cases g δ with
  | none => constructor <;> (first | (rintro ⟨_, _, e, _⟩; cases e) | (rintro ⟨_, e, _⟩; cases e))
  | some y => cases y with
    | error e => constructor <;> (first | (rintro ⟨_, _, e, _⟩; cases e) | (rintro ⟨_, e, _⟩; cases e))
    | ok a => simp only [okR_some, okE_some]
@[simp] theorem okR_pur {α : Type} {f : Env → RE α} {δ : Env} {Q : α → Prop} : okR (pur f δ) Q = okE (f δ) fun a _ => Q a := by
  apply propext
  unfold pur
  cases f δ with
  | none => constructor <;> (first | (rintro ⟨_, _, e, _⟩; cases e) | (rintro ⟨_, e, _⟩; cases e))
  | some y => cases y with
    | error e => constructor <;> (first | (rintro ⟨_, _, e, _⟩; cases e) | (rintro ⟨_, e, _⟩; cases e))
    | ok a => obtain ⟨a, δ1⟩ := a; simp only [okR_some, okE_some]
@[simp] theorem okE_ecall {m : List D → Rs D} {a : Env → RE (List D)} {δ : Env} {Q : D → Env → Prop} : okE (ecall m a δ) Q = okE (a δ) fun xs δ' => okR (m xs) fun d => Q d δ' := by
  unfold ecall
  rw [okE_bind]
  congr; funext xs δ'
  apply propext
  cases m xs with
  | none => constructor <;> (first | (rintro ⟨_, _, e, _⟩; cases e) | (rintro ⟨_, e, _⟩; cases e))
  | some y => cases y with
    | error e => constructor <;> (first | (rintro ⟨_, _, e, _⟩; cases e) | (rintro ⟨_, e, _⟩; cases e))
    | ok a => simp only [okR_some, okE_some]
/-! ### statements -/
theorem okS_seq {a b : Env → RO} {δ : Env} {Q : Out → Env → Prop} (h : okE (a δ) fun o δ' => match o with | .nx => okE (b δ') Q | o => Q o δ') : okE (sseq a b δ) Q := by
  obtain ⟨o, δ', e, q⟩ := h
  unfold sseq
  cases o with
  | nx => rw [e]; exact q
  | rt d => rw [e]; exact ⟨_, _, rfl, q⟩
  | bk => rw [e]; exact ⟨_, _, rfl, q⟩
  | ct => rw [e]; exact ⟨_, _, rfl, q⟩
@[simp] theorem okS_seqE {a b : Env → RO} {δ : Env} {Q : Out → Env → Prop} : okE (sseq a b δ) Q = okE (a δ) fun o δ' => match o with | .nx => okE (b δ') Q | .rt d => Q (.rt d) δ' | .bk => Q .bk δ' | .ct => Q .ct δ' := by
  apply propext; constructor
  · rintro ⟨o, δ', e, q⟩
    unfold sseq at e
    cases h : a δ with
    | none => rw [h] at e; cases e
    | some y => rcases y with x | ⟨o1, δ1⟩
                · rw [h] at e; cases e
                · rw [h] at e
                  cases o1 with
                  | nx => exact ⟨_, _, rfl, _, _, e, q⟩
                  | rt d => cases e; exact ⟨_, _, rfl, q⟩
                  | bk => cases e; exact ⟨_, _, rfl, q⟩
                  | ct => cases e; exact ⟨_, _, rfl, q⟩
  · intro h
    refine okS_seq (h.mono fun o δ' q => ?_)
    cases o <;> exact q
@[simp] theorem okS_set {i : Nat} {f : Env → RE D} {δ : Env} {Q : Out → Env → Prop} : okE (sset i f δ) Q = okE (f δ) fun d δ' => Q .nx (δ'.set i (some d)) := by
  unfold sset; rw [okE_bind]; congr; funext d δ'; rw [okE_some]
@[simp] theorem okS_ret {f : Env → RE D} {δ : Env} {Q : Out → Env → Prop} : okE (sret f δ) Q = okE (f δ) fun d δ' => Q (.rt d) δ' := by
  unfold sret; rw [okE_bind]; congr; funext d δ'; rw [okE_some]
@[simp] theorem okS_drop {f : Env → RE D} {δ : Env} {Q : Out → Env → Prop} : okE (sdrop f δ) Q = okE (f δ) fun _ δ' => Q .nx δ' := by
  unfold sdrop; rw [okE_bind]; congr; funext d δ'; rw [okE_some]
@[simp] theorem okS_next {δ : Env} {Q : Out → Env → Prop} : okE (snext δ) Q = Q .nx δ := okE_some
@[simp] theorem okS_if {t : Env → RE Bool} {a b : Env → RO} {δ : Env} {Q : Out → Env → Prop} : okE (sif t a b δ) Q = okE (t δ) fun k δ' => if k = true then okE (a δ') Q else okE (b δ') Q := by
  unfold sif; rw [okE_bind]; congr; funext d δ'; rw [okE_ite]
theorem okS_frz {own : List Nat} {k : Env → RO} {δ : Env} {Q : Out → Env → Prop} (h : bxIn own δ = true) : okE (sfrz own k δ) Q = okE (k δ) Q := by
  unfold sfrz; rw [if_pos h]
/-- a loop by its invariant; the body may end the def -/
theorem okS_for {g : D → Env → Option Env} {b : Env → RO} {Q : Out → Env → Prop} (I : Nat → Env → Prop) : ∀ {ds : List D} {n : Nat} {δ : Env}, I n δ →
    (∀ i d δ, ds[i]? = some d → I (n + i) δ → ∃ δ1, g d δ = some δ1 ∧ okE (b δ1) fun o δ2 => match o with | .nx => I (n + i + 1) δ2 | .ct => I (n + i + 1) δ2 | .rt d => Q (.rt d) δ2 | .bk => Q .nx δ2) →
    (∀ δ, I (n + ds.length) δ → Q .nx δ) → okE (sfor g b ds δ) Q
  | [], n, δ, h0, _, hq => ⟨_, _, rfl, hq δ h0⟩
  | d :: ds, n, δ, h0, hs, hq => by
    obtain ⟨δ1, e1, o, δ2, e2, q⟩ := hs 0 d δ rfl h0
    have go : I (n + 1) δ2 → okE (sfor g b ds δ2) Q := fun h => okS_for I h (fun i d δ hi hI => by
      have := hs (i + 1) d δ hi (by rw [← Nat.add_assoc, Nat.add_right_comm]; exact hI)
      rw [← Nat.add_assoc, Nat.add_right_comm n i 1] at this; exact this) (fun δ hI => hq δ (by rw [List.length_cons, Nat.add_comm ds.length, ← Nat.add_assoc]; exact hI))
    unfold sfor; rw [e1]; simp only []; rw [e2]
    cases o with
    | nx => exact go q
    | ct => exact go q
    | rt d => exact ⟨_, _, rfl, q⟩
    | bk => exact ⟨_, _, rfl, q⟩
@[simp] theorem okS_forI {f : Env → RE (List D)} {g : D → Env → Option Env} {b : Env → RO} {δ : Env} {Q : Out → Env → Prop} : okE (sforI f g b δ) Q = okE (f δ) fun ds δ' => okE (sfor g b ds δ') Q := by
  unfold sforI; rw [okE_bind]
/-- a comprehension by its invariant -/
theorem okE_scomp {vs : List Nat} {g : D → Env → Option Env} {t : Env → RE Bool} {e : Env → RE D} (I : Nat → List D → Env → Prop) : ∀ {ds acc : List D} {n : Nat} {δ : Env}, I n acc δ →
    (∀ i d acc δ, ds[i]? = some d → I (n + i) acc δ → ∃ δ1, g d δ = some δ1 ∧ okE (t δ1) fun k δ2 => if k = true then okE (e δ2) (fun y δ3 => acc.length < sizeLine ∧ I (n + i + 1) (acc ++ [y]) (wipeD vs δ3)) else I (n + i + 1) acc (wipeD vs δ2)) →
    okE (scomp vs g t e ds acc δ) (I (n + ds.length))
  | [], acc, n, δ, h0, _ => ⟨_, _, rfl, h0⟩
  | d :: ds, acc, n, δ, h0, hs => by
    obtain ⟨δ1, e1, k, δ2, e2, q⟩ := hs 0 d acc δ rfl h0
    have go : ∀ {acc δ2}, I (n + 1) acc δ2 → okE (scomp vs g t e ds acc δ2) (I (n + (d :: ds).length)) := fun {acc δ2} h => by
      have := okE_scomp (vs := vs) (g := g) (t := t) (e := e) I (ds := ds) h (fun i d acc δ hi hI => by
        have := hs (i + 1) d acc δ hi (by rw [← Nat.add_assoc, Nat.add_right_comm]; exact hI)
        rw [← Nat.add_assoc, Nat.add_right_comm n i 1] at this; exact this)
      rw [List.length_cons, Nat.add_comm ds.length, ← Nat.add_assoc]; exact this
    unfold scomp; rw [e1]; simp only []; rw [e2]
    cases k with
    | false => exact go q
    | true =>
      obtain ⟨y, δ3, e3, hl, q⟩ := q
      simp only []; rw [e3]; simp only []; rw [if_pos hl]
      exact go q
@[simp] theorem okE_ecomp {vs : List Nat} {f : Env → RE (List D)} {g : D → Env → Option Env} {t : Env → RE Bool} {e : Env → RE D} {δ : Env} {Q : D → Env → Prop} : okE (ecomp vs f g t e δ) Q = okE (f δ) fun ds δ' => okE (scomp vs g t e ds [] (wipeD vs δ')) fun ys δ2 => Q (.lst ys) δ2 := by
  unfold ecomp; rw [okE_bind]; congr; funext ds δ'; rw [okE_bind]; congr; funext ys δ2; rw [okE_some]
/-- .. of items that change nothing -/
theorem scomp_map {vs : List Nat} {g : D → Env → Option Env} {t : Env → RE Bool} {e : Env → RE D} {T : D → Bool} {F : D → D} {δ : Env} : ∀ {ds acc : List D}, (∀ d ∈ ds, ∃ δ1, g d δ = some δ1 ∧ wipeD vs δ1 = δ ∧ t δ1 = some (.ok (T d, δ1)) ∧ (T d = true → e δ1 = some (.ok (F d, δ1)))) → acc.length + ds.length ≤ sizeLine →
    scomp vs g t e ds acc δ = some (.ok (acc ++ (ds.filter T).map F, δ))
  | [], acc, _, _ => by simp [scomp]
  | d :: ds, acc, h, hl => by
    rw [List.length_cons] at hl
    obtain ⟨δ1, e1, ew, et, ee⟩ := h d List.mem_cons_self
    unfold scomp; rw [e1]; simp only []; rw [et]
    cases ht : T d with
    | false =>
      simp only []
      rw [ew, scomp_map (fun x hx => h x (List.mem_cons_of_mem _ hx)) (by omega), List.filter_cons_of_neg (by rw [ht]; exact Bool.false_ne_true)]
    | true =>
      simp only []
      rw [ee ht]; simp only []
      rw [if_pos (by omega), ew, scomp_map (fun x hx => h x (List.mem_cons_of_mem _ hx)) (by rw [List.length_append, List.length_singleton]; omega), List.filter_cons_of_pos ht]
      simp
end PD
end
section
namespace PD
open PySem L2
/-! ### evaluation of mirrors by simp -/
@[simp] theorem okR_v {i : Nat} {δ : Env} {Q : D → Prop} : okR (v i δ) Q = okO (δ[i]?.join) fun d => Q d := okR_opt
@[simp] theorem okR_c {d : D} {δ : Env} {Q : D → Prop} : okR (c d δ) Q = Q d := okR_ok
@[simp] theorem okR_op2 {g : D → D → Option D} {a b : Env → Rs D} {δ : Env} {Q : D → Prop} : okR (op2 g a b δ) Q = okR (a δ) fun x => okR (b δ) fun y => okO (g x y) fun z => Q z := by
  unfold op2; rw [okR_bind]; congr; funext x; rw [okR_bind]; congr; funext y; rw [okR_opt]
@[simp] theorem okR_tr {g : Env → Rs D} {δ : Env} {Q : Bool → Prop} : okR (tr g δ) Q = okR (g δ) fun x => okO (truth x) fun b => Q b := by
  unfold tr; rw [okR_bind]; congr; funext x; rw [okR_opt]
@[simp] theorem okR_tb {g : Env → Rs D} {δ : Env} {Q : Bool → Prop} : okR (tb g δ) Q = okR (g δ) fun x => okO (asB x) fun b => Q b := by
  unfold tb; rw [okR_bind]; congr; funext x; rw [okR_opt]
@[simp] theorem okR_tand {t u : Env → Rs Bool} {δ : Env} {Q : Bool → Prop} : okR (tand t u δ) Q = okR (t δ) fun b => if b = true then okR (u δ) Q else Q false := by
  unfold tand; rw [okR_bind]; congr; funext b; rw [okR_ite, okR_ok]
@[simp] theorem okR_tor {t u : Env → Rs Bool} {δ : Env} {Q : Bool → Prop} : okR (tor t u δ) Q = okR (t δ) fun b => if b = true then Q true else okR (u δ) Q := by
  unfold tor; rw [okR_bind]; congr; funext b; rw [okR_ite, okR_ok]
@[simp] theorem okR_vand {a b : Env → Rs D} {δ : Env} {Q : D → Prop} : okR (vand a b δ) Q = okR (a δ) fun x => okO (truth x) fun k => if k = true then okR (b δ) Q else Q x := by
  unfold vand; rw [okR_bind]; congr; funext x; rw [okR_bind, okR_opt]; congr; funext k; rw [okR_ite, okR_ok]
@[simp] theorem okR_vor {a b : Env → Rs D} {δ : Env} {Q : D → Prop} : okR (vor a b δ) Q = okR (a δ) fun x => okO (truth x) fun k => if k = true then Q x else okR (b δ) Q := by
  unfold vor; rw [okR_bind]; congr; funext x; rw [okR_bind, okR_opt]; congr; funext k; rw [okR_ite, okR_ok]
@[simp] theorem okR_vnot {a : Env → Rs D} {δ : Env} {Q : D → Prop} : okR (vnot a δ) Q = okR (a δ) fun x => okO (truth x) fun k => Q (.bl (!k)) := by
  unfold vnot; rw [okR_bind]; congr; funext x; rw [okR_bind, okR_opt]; congr; funext k; rw [okR_ok]
@[simp] theorem okR_vif {t : Env → Rs Bool} {a b : Env → Rs D} {δ : Env} {Q : D → Prop} : okR (vif t a b δ) Q = okR (t δ) fun k => if k = true then okR (a δ) Q else okR (b δ) Q := by
  unfold vif; rw [okR_bind]; congr; funext b; rw [okR_ite]
@[simp] theorem okR_vis {a : Env → Rs D} {δ : Env} {Q : D → Prop} : okR (vis a δ) Q = okR (a δ) fun x => Q (.bl (isNon x)) := by
  unfold vis; rw [okR_bind]; congr; funext x; rw [okR_ok]
@[simp] theorem okR_vnis {a : Env → Rs D} {δ : Env} {Q : D → Prop} : okR (vnis a δ) Q = okR (a δ) fun x => Q (.bl (!isNon x)) := by
  unfold vnis; rw [okR_bind]; congr; funext x; rw [okR_ok]
@[simp] theorem okR_vneg {a : Env → Rs D} {δ : Env} {Q : D → Prop} : okR (vneg a δ) Q = okR (a δ) fun x => okO (dNeg x) fun z => Q z := by
  unfold vneg; rw [okR_bind]; congr; funext x; rw [okR_opt]
@[simp] theorem okR_vrev {a : Env → Rs D} {δ : Env} {Q : D → Prop} : okR (vrev a δ) Q = okR (a δ) fun x => okO (dRev x) fun z => Q z := by
  unfold vrev; rw [okR_bind]; congr; funext x; rw [okR_opt]
@[simp] theorem okR_visi {t : Ty} {a : Env → Rs D} {δ : Env} {Q : D → Prop} : okR (visi t a δ) Q = okR (a δ) fun x => okO (isA t x) fun b => Q (.bl b) := by
  unfold visi; rw [okR_bind]; congr; funext x; rw [okR_opt]; apply propext; cases isA t x <;> simp [okO]
@[simp] theorem okR_visi2 {t u : Ty} {a : Env → Rs D} {δ : Env} {Q : D → Prop} : okR (visi2 t u a δ) Q = okR (a δ) fun x => okO (isA2 t u x) fun b => Q (.bl b) := by
  unfold visi2; rw [okR_bind]; congr; funext x; rw [okR_opt]; apply propext; cases isA2 t u x <;> simp [okO]
@[simp] theorem okR_anil {δ : Env} {Q : List D → Prop} : okR (anil δ) Q = Q [] := okR_ok
@[simp] theorem okR_acons {a : Env → Rs D} {r : Env → Rs (List D)} {δ : Env} {Q : List D → Prop} : okR (acons a r δ) Q = okR (a δ) fun x => okR (r δ) fun xs => Q (x :: xs) := by
  unfold acons; rw [okR_bind]; congr; funext x; rw [okR_bind]; congr; funext xs; rw [okR_ok]
@[simp] theorem okR_vtup {a : Env → Rs (List D)} {δ : Env} {Q : D → Prop} : okR (vtup a δ) Q = okR (a δ) fun xs => xs.length ≤ sizeLine ∧ Q (.tup xs) := by
  unfold vtup; rw [okR_bind]; congr; funext xs; rw [okR_ite, okR_ok]; apply propext
  split
  · simp [*]
  · rename_i hn; constructor
    · rintro ⟨_, e, _⟩; cases e
    · exact fun h => absurd h.1 hn
@[simp] theorem okR_vlst {a : Env → Rs (List D)} {δ : Env} {Q : D → Prop} : okR (vlst a δ) Q = okR (a δ) fun xs => xs.length ≤ sizeLine ∧ Q (.lst xs) := by
  unfold vlst; rw [okR_bind]; congr; funext xs; rw [okR_ite, okR_ok]; apply propext
  split
  · simp [*]
  · rename_i hn; constructor
    · rintro ⟨_, e, _⟩; cases e
    · exact fun h => absurd h.1 hn
@[simp] theorem okR_vcall {m : List D → Rs D} {a : Env → Rs (List D)} {δ : Env} {Q : D → Prop} : okR (vcall m a δ) Q = okR (a δ) fun xs => okR (m xs) Q := okR_bind
@[simp] theorem okR_vcallB {g : List D → Option D} {a : Env → Rs (List D)} {δ : Env} {Q : D → Prop} : okR (vcallB g a δ) Q = okR (a δ) fun xs => okO (g xs) fun z => Q z := by
  unfold vcallB; rw [okR_bind]; congr; funext x; rw [okR_opt]
@[simp] theorem okR_vcallK {m : List D → Rs D} {n : Nat} {ix : List Nat} {a : Env → Rs (List D)} {δ : Env} {Q : D → Prop} : okR (vcallK m n ix a δ) Q = okR (a δ) fun xs => xs.length = n ∧ okR (m (pick ix xs)) Q := by
  unfold vcallK; rw [okR_bind]; congr; funext xs; rw [okR_ite]; apply propext
  split
  · simp [*]
  · rename_i hn; constructor
    · rintro ⟨_, e, _⟩; cases e
    · exact fun h => absurd h.1 hn
@[simp] theorem okR_chain {g h : D → D → Option D} {a b e : Env → Rs D} {δ : Env} {Q : D → Prop} : okR (chain g h a b e δ) Q = okR (a δ) fun x => okR (b δ) fun y => okO (g x y) fun z => okO (asB z) fun k => if k = true then okR (e δ) (fun w => okO (h y w) fun u => Q u) else Q (.bl false) := by
  unfold chain; rw [okR_bind]; congr; funext x; rw [okR_bind]; congr; funext y; rw [okR_bind, okR_opt]; congr; funext z; rw [okR_bind, okR_opt]
  congr; funext k; rw [okR_ite, okR_ok, okR_bind]; congr; funext w; rw [okR_opt]
@[simp] theorem okR_onone {δ : Env} {Q : Option Int → Prop} : okR (onone δ) Q = Q none := okR_ok
@[simp] theorem okR_osome {a : Env → Rs D} {δ : Env} {Q : Option Int → Prop} : okR (osome a δ) Q = okR (a δ) fun x => okO (asI x) fun z => Q z := by
  unfold osome; rw [okR_bind]; congr; funext x; rw [okR_opt]
@[simp] theorem okR_vsl {a : Env → Rs D} {lo hi : Env → Rs (Option Int)} {δ : Env} {Q : D → Prop} : okR (vsl a lo hi δ) Q = okR (a δ) fun x => okR (lo δ) fun l => okR (hi δ) fun h => okO (dSl x l h) fun z => Q z := by
  unfold vsl; rw [okR_bind]; congr; funext x; rw [okR_bind]; congr; funext l; rw [okR_bind]; congr; funext h; rw [okR_opt]
@[simp] theorem okE_enil {δ : Env} {Q : List D → Env → Prop} : okE (enil δ) Q = Q [] δ := okE_some
@[simp] theorem okE_econs {a : Env → RE D} {r : Env → RE (List D)} {δ : Env} {Q : List D → Env → Prop} : okE (econs a r δ) Q = okE (a δ) fun x δ1 => okE (r δ1) fun xs δ2 => Q (x :: xs) δ2 := by
  unfold econs; rw [okE_bind]; congr; funext x δ1; rw [okE_bind]; congr; funext xs δ2; rw [okE_some]
@[simp] theorem okE_etup {a : Env → RE (List D)} {δ : Env} {Q : D → Env → Prop} : okE (etup a δ) Q = okE (a δ) fun xs δ' => xs.length ≤ sizeLine ∧ Q (.tup xs) δ' := by
  unfold etup; rw [okE_bind]; congr; funext xs δ'; rw [okE_ite, okE_some]; apply propext
  split
  · simp [*]
  · rename_i hn; constructor
    · rintro ⟨_, _, e, _⟩; cases e
    · exact fun h => absurd h.1 hn
@[simp] theorem okE_elst {a : Env → RE (List D)} {δ : Env} {Q : D → Env → Prop} : okE (elst a δ) Q = okE (a δ) fun xs δ' => xs.length ≤ sizeLine ∧ Q (.lst xs) δ' := by
  unfold elst; rw [okE_bind]; congr; funext xs δ'; rw [okE_ite, okE_some]; apply propext
  split
  · simp [*]
  · rename_i hn; constructor
    · rintro ⟨_, _, e, _⟩; cases e
    · exact fun h => absurd h.1 hn
@[simp] theorem okE_eop2 {g : D → D → Option D} {a b : Env → RE D} {δ : Env} {Q : D → Env → Prop} : okE (eop2 g a b δ) Q = okE (a δ) fun x δ1 => okE (b δ1) fun y δ2 => okO (g x y) fun z => Q z δ2 := by
  unfold eop2; rw [okE_bind]; congr; funext x δ1; rw [okE_bind]; congr; funext y δ2; exact okE_map
@[simp] theorem okE_etb {g : Env → RE D} {δ : Env} {Q : Bool → Env → Prop} : okE (etb g δ) Q = okE (g δ) fun x δ' => okO (asB x) fun b => Q b δ' := by
  unfold etb; rw [okE_bind]; congr; funext x δ'; apply propext
  cases asB x with
  | none => constructor
            · rintro ⟨_, _, e, _⟩; cases e
            · rintro ⟨_, e, _⟩; cases e
  | some y => constructor
              · rintro ⟨_, _, e, q⟩; cases e; exact ⟨_, rfl, q⟩
              · rintro ⟨_, e, q⟩; cases e; exact ⟨_, _, rfl, q⟩
@[simp] theorem okE_etr {g : Env → RE D} {δ : Env} {Q : Bool → Env → Prop} : okE (etr g δ) Q = okE (g δ) fun x δ' => okO (truth x) fun b => Q b δ' := by
  unfold etr; rw [okE_bind]; congr; funext x δ'; apply propext
  cases truth x with
  | none => constructor
            · rintro ⟨_, _, e, _⟩; cases e
            · rintro ⟨_, e, _⟩; cases e
  | some y => constructor
              · rintro ⟨_, _, e, q⟩; cases e; exact ⟨_, rfl, q⟩
              · rintro ⟨_, e, q⟩; cases e; exact ⟨_, _, rfl, q⟩
@[simp] theorem okE_eif {t : Env → RE Bool} {a b : Env → RE D} {δ : Env} {Q : D → Env → Prop} : okE (eif t a b δ) Q = okE (t δ) fun k δ' => if k = true then okE (a δ') Q else okE (b δ') Q := by
  unfold eif; rw [okE_bind]; congr; funext k δ'; rw [okE_ite]
@[simp] theorem okE_etand {t u : Env → RE Bool} {δ : Env} {Q : Bool → Env → Prop} : okE (etand t u δ) Q = okE (t δ) fun k δ' => if k = true then okE (u δ') Q else Q false δ' := by
  unfold etand; rw [okE_bind]; congr; funext k δ'; rw [okE_ite, okE_some]
@[simp] theorem okE_etor {t u : Env → RE Bool} {δ : Env} {Q : Bool → Env → Prop} : okE (etor t u δ) Q = okE (t δ) fun k δ' => if k = true then Q true δ' else okE (u δ') Q := by
  unfold etor; rw [okE_bind]; congr; funext k δ'; rw [okE_ite, okE_some]
@[simp] theorem okE_etnot {t : Env → RE Bool} {δ : Env} {Q : Bool → Env → Prop} : okE (etnot t δ) Q = okE (t δ) fun k δ' => Q (!k) δ' := by
  unfold etnot; rw [okE_bind]; congr; funext k δ'; rw [okE_some]
@[simp] theorem okE_tyes {δ : Env} {Q : Bool → Env → Prop} : okE (tyes δ) Q = Q true δ := okE_some
@[simp] theorem okE_ecallG {g : List D → Option D} {f : Env → RE (List D)} {δ : Env} {Q : D → Env → Prop} : okE (ecallG g f δ) Q = okE (f δ) fun xs δ' => okO (g xs) fun z => Q z δ' := by
  unfold ecallG; rw [okE_bind]; congr; funext xs δ'; exact okE_map
@[simp] theorem okE_iany {f : Env → RE D} {δ : Env} {Q : List D → Env → Prop} : okE (iany f δ) Q = okE (f δ) fun d δ' => okO (itemsA d) fun xs => Q xs δ' := by
  unfold iany; rw [okE_bind]; congr; funext x δ'; apply propext
  cases itemsA x with
  | none => constructor
            · rintro ⟨_, _, e, _⟩; cases e
            · rintro ⟨_, e, _⟩; cases e
  | some y => constructor
              · rintro ⟨_, _, e, q⟩; cases e; exact ⟨_, rfl, q⟩
              · rintro ⟨_, e, q⟩; cases e; exact ⟨_, _, rfl, q⟩
theorem okE_irng1 {f : Env → RE D} {δ : Env} {Q : List D → Env → Prop} (h : okE (f δ) fun d δ' => ∃ n : Int, d = .int n ∧ -(2 ^ 62) ≤ n ∧ n < 2 ^ 62 ∧ Q (rng 0 n) δ') : okE (irng1 f δ) Q := by
  unfold irng1; rw [okE_bind]
  refine h.mono fun d δ' ⟨n, e, h1, h2, q⟩ => ?_
  subst e
  simp only []
  rw [if_pos ⟨h1, h2⟩]; exact ⟨_, _, rfl, q⟩
theorem okS_par2 {i j : Nat} {f : Env → RE (List D)} {δ : Env} {Q : Out → Env → Prop} (h : okE (f δ) fun ds δ' => ∃ a b, ds = [a, b] ∧ Q .nx ((δ'.set i (some a)).set j (some b))) : okE (spar2 i j f δ) Q := by
  unfold spar2; rw [okE_bind]
  exact h.mono fun ds δ' ⟨a, b, e, q⟩ => by subst e; exact ⟨_, _, rfl, q⟩
theorem okS_par3 {i j l : Nat} {f : Env → RE (List D)} {δ : Env} {Q : Out → Env → Prop} (h : okE (f δ) fun ds δ' => ∃ a b e, ds = [a, b, e] ∧ Q .nx (((δ'.set i (some a)).set j (some b)).set l (some e))) : okE (spar3 i j l f δ) Q := by
  unfold spar3; rw [okE_bind]
  exact h.mono fun ds δ' ⟨a, b, e, h, q⟩ => by subst h; exact ⟨_, _, rfl, q⟩
@[simp] theorem okS_asg {g : D → Env → Option Env} {f : Env → RE D} {δ : Env} {Q : Out → Env → Prop} : okE (sasg g f δ) Q = okE (f δ) fun d δ' => okO (g d δ') fun δ2 => Q .nx δ2 := by
  unfold sasg; rw [okE_bind]; congr; funext d δ'; apply propext
  cases g d δ' with
  | none => constructor
            · rintro ⟨_, _, e, _⟩; cases e
            · rintro ⟨_, e, _⟩; cases e
  | some y => constructor
              · rintro ⟨_, _, e, q⟩; cases e; exact ⟨_, rfl, q⟩
              · rintro ⟨_, e, q⟩; cases e; exact ⟨_, _, rfl, q⟩
theorem okS_app {i : Nat} {f : Env → RE D} {δ : Env} {Q : Out → Env → Prop} {d0 : List D} (h0 : δ[i]? = some (some (.lst d0))) (h : okE (f δ) fun d δ' => ∃ ds, δ'[i]? = some (some (.lst ds)) ∧ ds.length < sizeLine ∧ Q .nx (δ'.set i (some (.lst (ds ++ [d]))))) : okE (sapp i f δ) Q := by
  unfold sapp; rw [h0]; simp only []; rw [okE_bind]
  exact h.mono fun d δ' ⟨ds, e, hl, q⟩ => by rw [e]; simp only []; rw [if_pos hl]; exact ⟨_, _, rfl, q⟩
theorem okE_pop {i : Nat} {f : Env → RE D} {δ : Env} {Q : D → Env → Prop} {d0 : List D} (h0 : δ[i]? = some (some (.lst d0))) (h : okE (f δ) fun d δ' => ∃ ds n y, δ'[i]? = some (some (.lst ds)) ∧ d = .int n ∧ 0 ≤ n ∧ n < 2 ^ 63 ∧ ds[n.toNat]? = some y ∧ Q y (δ'.set i (some (.lst (ds.eraseIdx n.toNat))))) : okE (epop i f δ) Q := by
  unfold epop; rw [h0]; simp only []; rw [okE_bind]
  exact h.mono fun d δ' ⟨ds, n, y, e, ed, h1, h2, h3, q⟩ => by rw [e, ed]; simp only []; rw [if_pos ⟨h1, h2⟩, h3]; exact ⟨_, _, rfl, q⟩
theorem okE_addO {i : Nat} {f : Env → RE D} {δ : Env} {Q : D → Env → Prop} {d0 : List D} (h0 : δ[i]? = some (some (.lst d0))) (h : okE (f δ) fun d δ' => ∃ ds es, δ'[i]? = some (some (.lst ds)) ∧ d = .lst es ∧ ds.length + es.length ≤ sizeLine ∧ Q (.lst (ds ++ es)) δ') : okE (eaddO i f δ) Q := by
  unfold eaddO; rw [h0]; simp only []; rw [okE_bind]
  exact h.mono fun d δ' ⟨ds, es, e, ed, hl, q⟩ => by rw [e, ed]; simp only []; rw [if_pos hl]; exact ⟨_, _, rfl, q⟩
theorem okE_callB {m : List D → List D → Option (D × List D)} {i : Nat} {a : Env → RE (List D)} {δ : Env} {Q : D → Env → Prop} {b0 : List D} (h0 : δ[i]? = some (some (.lst b0))) (h : okE (a δ) fun ds δ' => ∃ B r B', δ'[i]? = some (some (.lst B)) ∧ m B ds = some (r, B') ∧ Q r (δ'.set i (some (.lst B')))) : okE (ecallB m i a δ) Q := by
  unfold ecallB; rw [h0]; simp only []; rw [okE_bind]
  exact h.mono fun d δ' ⟨B, r, B', e, em, q⟩ => by rw [e]; simp only []; rw [em]; exact ⟨_, _, rfl, q⟩
theorem okE_callBN {m : List D → List D → Option (D × List D)} {fa : Env → RE D} {f : Env → RE (List D)} {δ : Env} {Q : D → Env → Prop} (h : okE (fa δ) fun d δ1 => okE (f δ1) fun ds δ2 => ∃ B r B', d = .lst B ∧ m B ds = some (r, B') ∧ Q r δ2) : okE (ecallBN m fa f δ) Q := by
  unfold ecallBN; rw [okE_bind]
  refine h.mono fun d δ1 h => ?_
  rw [okE_bind]
  exact h.mono fun ds δ2 ⟨B, r, B', ed, em, q⟩ => by subst ed; simp only []; rw [em]; exact ⟨_, _, rfl, q⟩
theorem okE_enor {f g : Env → RE D} {δ : Env} {Q : D → Env → Prop} (h : okE (f δ) fun d δ' => ∃ xs, d = .lst xs ∧ if xs = [] then okE (g δ') Q else Q (.lst xs) δ') : okE (enor f g δ) Q := by
  unfold enor; rw [okE_bind]
  exact h.mono fun d δ' ⟨xs, e, q⟩ => by
    subst e
    cases xs with
    | nil => simpa using q
    | cons x xs => simp only []; rw [okE_some]; simpa using q
theorem okS_ixset {i : Nat} {fk f : Env → RE D} {δ : Env} {Q : Out → Env → Prop} (h : okE (f δ) fun d δ1 => (∃ d0, δ1[i]? = some (some (.lst d0))) ∧ okE (fk δ1) fun k δ2 => ∃ ds n j, δ2[i]? = some (some (.lst ds)) ∧ k = .int n ∧ ixN ds.length n = some j ∧ Q .nx (δ2.set i (some (.lst (ds.set j d))))) : okE (sixset i fk f δ) Q := by
  unfold sixset; rw [okE_bind]
  refine h.mono fun d δ1 ⟨⟨d0, e0⟩, h⟩ => ?_
  rw [e0]; simp only []; rw [okE_bind]
  exact h.mono fun k δ2 ⟨ds, n, j, e, ek, ej, q⟩ => by rw [e, ek]; simp only []; rw [ej]; exact ⟨_, _, rfl, q⟩
/-! a def -/
theorem den_ok {n N : Nat} {body : Env → RO} {ds : List D} {Q : D → Prop} (hl : ds.length = n) (h : okE (body (ds.map some ++ List.replicate (N - n) none)) fun o _ => match o with | .rt d => Q d | .nx => Q .non | _ => False) : okR (den n N body ds) Q := by
  unfold den; rw [if_pos hl]
  obtain ⟨o, δ, e, q⟩ := h
  rw [e]
  cases o with
  | rt d => exact ⟨_, rfl, q⟩
  | nx => exact ⟨_, rfl, q⟩
  | bk => exact q.elim
  | ct => exact q.elim
theorem denB_ok {n N : Nat} {body : Env → RO} {B ds : List D} {Q : D → List D → Prop} (hl : ds.length + 1 = n) (h : okE (body (some (.lst B) :: (ds.map some ++ List.replicate (N - n) none))) fun o δ => match o with | .rt d => ∃ B', δ[(0 : Nat)]? = some (some (.lst B')) ∧ Q d B' | .nx => ∃ B', δ[(0 : Nat)]? = some (some (.lst B')) ∧ Q .non B' | _ => False) : ∃ d B', denB n N body B ds = some (d, B') ∧ Q d B' := by
  unfold denB; rw [if_pos hl]
  obtain ⟨o, δ, e, q⟩ := h
  rw [e]
  cases o with
  | rt d => obtain ⟨B', e, q⟩ := q; exact ⟨d, B', by simp only [bxOf]; rw [e], q⟩
  | nx => obtain ⟨B', e, q⟩ := q; exact ⟨.non, B', by simp only [bxOf]; rw [e], q⟩
  | bk => exact q.elim
  | ct => exact q.elim
theorem denN_ok {n N : Nat} {body : Env → RE D} {ds : List D} {Q : D → Prop} (hl : ds.length = n) (h : okE (body (ds.map some ++ List.replicate (N - n) none)) fun d _ => Q d) : okR (denN n N body ds) Q := by
  unfold denN; rw [if_pos hl]
  obtain ⟨o, δ, e, q⟩ := h
  rw [e]; exact ⟨_, rfl, q⟩
theorem okE_rseq {a : Env → RO} {b : Env → RE D} {δ : Env} {Q : D → Env → Prop} (h : okE (a δ) fun o δ' => match o with | .nx => okE (b δ') Q | _ => False) : okE (rseq a b δ) Q := by
  unfold rseq
  obtain ⟨o, δ', e, q⟩ := h
  rw [e]
  cases o with
  | nx => exact q
  | rt d => exact q.elim
  | bk => exact q.elim
  | ct => exact q.elim
end PD
end
section
set_option maxHeartbeats 1000000
namespace PD
open PySem L2
@[simp] theorem dAdd_int {a b : Int} : dAdd (.int a) (.int b) = some (.int (a + b)) := rfl
@[simp] theorem dSub_int {a b : Int} : dSub (.int a) (.int b) = some (.int (a - b)) := rfl
@[simp] theorem dInt_int {a : Int} : dInt (.int a) = some (.int a) := rfl
@[simp] theorem dInt_bl {b : Bool} : dInt (.bl b) = some (.int (if b then 1 else 0)) := rfl
@[simp] theorem dAbs_int {a : Int} : dAbs (.int a) = some (.int (if a < 0 then -a else a)) := rfl
@[simp] theorem dNeg_int {a : Int} : dNeg (.int a) = some (.int (-a)) := rfl
@[simp] theorem dMax2_int {a b : Int} : dMax2 (.int a) (.int b) = some (.int (if b > a then b else a)) := rfl
@[simp] theorem dMin2_int {a b : Int} : dMin2 (.int a) (.int b) = some (.int (if b < a then b else a)) := rfl
@[simp] theorem dCmp_int {fi : Int → Int → Bool} {fs : List Nat → List Nat → Bool} {a b : Int} : dCmp fi fs (.int a) (.int b) = some (.bl (fi a b)) := rfl
@[simp] theorem one_one {g : D → Option D} {x : D} : one g [x] = g x := rfl
@[simp] theorem two_two {g : D → D → Option D} {x y : D} : two g [x, y] = g x y := rfl
@[simp] theorem asB_bl {b : Bool} : asB (.bl b) = some b := rfl
@[simp] theorem truth_bl {b : Bool} : truth (.bl b) = some b := rfl
@[simp] theorem dLen_tup {xs : List D} : dLen (.tup xs) = some (.int xs.length) := rfl
@[simp] theorem dLen_lst {xs : List D} : dLen (.lst xs) = some (.int xs.length) := rfl
@[simp] theorem dLen_scr {xs : List D} : dLen (.scr xs) = some (.int xs.length) := rfl
@[simp] theorem dList_tup {xs : List D} : dList (.tup xs) = some (.lst xs) := rfl
@[simp] theorem dList_lst {xs : List D} : dList (.lst xs) = some (.lst xs) := rfl
@[simp] theorem dTuple_tup {xs : List D} : dTuple (.tup xs) = some (.tup xs) := rfl
@[simp] theorem dTuple_lst {xs : List D} : dTuple (.lst xs) = some (.tup xs) := rfl
@[simp] theorem itemsA_lst {xs : List D} : itemsA (.lst xs) = some xs := rfl
@[simp] theorem itemsA_tup {xs : List D} : itemsA (.tup xs) = some xs := rfl
@[simp] theorem asI_int {i : Int} : asI (.int i) = some (some i) := rfl
@[simp] theorem dIx_lst {xs : List D} {i : Int} : dIx (.lst xs) (.int i) = atI xs i := rfl
@[simp] theorem dIx_tup {xs : List D} {i : Int} : dIx (.tup xs) (.int i) = atI xs i := rfl
@[simp] theorem dIx_scr {xs : List D} {i : Int} : dIx (.scr xs) (.int i) = atI xs i := rfl
@[simp] theorem atI_nat {xs : List D} {i : Nat} : atI xs (i : Int) = xs[i]? := by
  simp only [atI, ixN]
  by_cases h : i < xs.length
  · simp [h]
  · simp [h]
theorem ixN_lt {n : Nat} {i : Int} (h : 0 ≤ i) (h2 : i < n) : ixN n i = some i.toNat := by simp [ixN, h, h2]
theorem ixN_nat {n i : Nat} : ixN n (i : Int) = if i < n then some i else none := by
  simp only [ixN]
  rw [if_pos (Int.natCast_nonneg i)]
  simp
@[simp] theorem atI_0 {xs : List D} : atI xs 0 = xs[0]? := atI_nat (i := 0)
@[simp] theorem ixN_0 {n : Nat} : ixN n 0 = if 0 < n then some 0 else none := ixN_nat (i := 0)
@[simp] theorem atI_1 {xs : List D} : atI xs 1 = xs[1]? := atI_nat (i := 1)
@[simp] theorem ixN_1 {n : Nat} : ixN n 1 = if 1 < n then some 1 else none := ixN_nat (i := 1)
@[simp] theorem atI_2 {xs : List D} : atI xs 2 = xs[2]? := atI_nat (i := 2)
@[simp] theorem ixN_2 {n : Nat} : ixN n 2 = if 2 < n then some 2 else none := ixN_nat (i := 2)
@[simp] theorem atI_3 {xs : List D} : atI xs 3 = xs[3]? := atI_nat (i := 3)
@[simp] theorem ixN_3 {n : Nat} : ixN n 3 = if 3 < n then some 3 else none := ixN_nat (i := 3)
@[simp] theorem atI_4 {xs : List D} : atI xs 4 = xs[4]? := atI_nat (i := 4)
@[simp] theorem ixN_4 {n : Nat} : ixN n 4 = if 4 < n then some 4 else none := ixN_nat (i := 4)
@[simp] theorem atI_5 {xs : List D} : atI xs 5 = xs[5]? := atI_nat (i := 5)
@[simp] theorem ixN_5 {n : Nat} : ixN n 5 = if 5 < n then some 5 else none := ixN_nat (i := 5)
@[simp] theorem atI_6 {xs : List D} : atI xs 6 = xs[6]? := atI_nat (i := 6)
@[simp] theorem ixN_6 {n : Nat} : ixN n 6 = if 6 < n then some 6 else none := ixN_nat (i := 6)
@[simp] theorem atI_7 {xs : List D} : atI xs 7 = xs[7]? := atI_nat (i := 7)
@[simp] theorem ixN_7 {n : Nat} : ixN n 7 = if 7 < n then some 7 else none := ixN_nat (i := 7)
@[simp] theorem atI_8 {xs : List D} : atI xs 8 = xs[8]? := atI_nat (i := 8)
@[simp] theorem ixN_8 {n : Nat} : ixN n 8 = if 8 < n then some 8 else none := ixN_nat (i := 8)
@[simp] theorem flat_int {i : Int} : flat (.int i) = true := rfl
@[simp] theorem flat_str {i : Str} : flat (.str i) = true := rfl
@[simp] theorem flat_bl {i : Bool} : flat (.bl i) = true := rfl
@[simp] theorem flat_non : flat .non = true := rfl
@[simp] theorem mask_nil {δ : Env} : mask [] δ = δ := rfl
@[simp] theorem mask_cons {i : Nat} {own : List Nat} {δ : Env} : mask (i :: own) δ = mask own (δ.set i none) := rfl
@[simp] theorem wipeD_nil {δ : Env} : wipeD [] δ = δ := rfl
@[simp] theorem wipeD_cons {i : Nat} {own : List Nat} {δ : Env} : wipeD (i :: own) δ = wipeD own (δ.set i none) := rfl
@[simp] theorem len_le0 : (0 : Nat) ≤ sizeLine := Nat.zero_le _
@[simp] theorem gn_eq {i : Nat} {d : D} {δ : Env} : gn i d δ = some (δ.set i (some d)) := rfl
@[simp] theorem gt_tup {h : List D → Env → Option Env} {ds : List D} {δ : Env} : gt h (.tup ds) δ = h ds δ := rfl
@[simp] theorem gscons_eq {h : D → Env → Option Env} {r : List D → Env → Option Env} {d : D} {ds : List D} {δ : Env} : gscons h r (d :: ds) δ = (h d δ).bind fun δ' => r ds δ' := rfl
@[simp] theorem gsnil_eq {δ : Env} : gsnil [] δ = some δ := rfl
@[simp] theorem dAll_lst {xs : List D} : dAll (.lst xs) = (dbools xs).map fun is => .bl (is.all id) := rfl
theorem log2_lt {i : Int} {k : Nat} (h : i.natAbs < 2 ^ k) (hk : 0 < k) : i.natAbs.log2 < k := by
  by_cases h0 : i.natAbs = 0
  · rw [h0]; simpa using hk
  · exact (Nat.log2_lt h0).2 h
theorem mulW {i j : Int} (h : i.natAbs < 2 ^ 200) (h2 : j.natAbs < 2 ^ 200) : CMulW i j := by
  have a := log2_lt h (by omega)
  have b := log2_lt h2 (by omega)
  unfold CMulW; omega
theorem dMul_ok {i j : Int} (h : i.natAbs < 2 ^ 200) (h2 : j.natAbs < 2 ^ 200) : dMul (.int i) (.int j) = some (.int (i * j)) := by
  simp only [dMul]; rw [if_pos (mulW h h2)]
theorem dMul_r {i j : Int} (h : -(2 ^ 64) < j) (h2 : j < 2 ^ 64) : dMul (.int i) (.int j) = some (.int (i * j)) := by
  simp only [dMul]
  split
  · rfl
  · rw [if_pos (show CMul i j from Or.inr ⟨h, h2⟩)]
theorem dFdiv_ok {i j : Int} (h : 0 < j) (h2 : j < 2 ^ 200) : dFdiv (.int i) (.int j) = some (.int (i.fdiv j)) := by
  simp only [dFdiv]; rw [if_pos]
  exact ⟨by omega, by have := log2_lt (i := j) (k := 200) (by omega) (by omega); omega⟩
theorem dMod_ok {i j : Int} (h : 0 < j) : dMod (.int i) (.int j) = some (.int (i.fmod j)) := by
  simp only [dMod]; rw [if_pos (by omega)]
theorem fmod_bd {i j : Int} (h : 0 < j) : 0 ≤ i.fmod j ∧ i.fmod j < j := ⟨Int.fmod_nonneg_of_pos i h, Int.fmod_lt_of_pos i h⟩
theorem sz {n : Nat} (h : n ≤ 16777216) : n ≤ sizeLine := by rw [PySem.sizeLine_eq]; exact h
/-! ### what changes lists, by simp -/
def lstAt (δ : Env) (i : Nat) : Option (List D) := match δ[i]? with
  | some (some (.lst ds)) => some ds
  | _ => none
@[simp] theorem lstAt_zero {ds : List D} {δ : Env} : lstAt (some (.lst ds) :: δ) 0 = some ds := rfl
@[simp] theorem lstAt_succ {x : Option D} {δ : Env} {i : Nat} : lstAt (x :: δ) (i + 1) = lstAt δ i := rfl
theorem lstAt_some {δ : Env} {i : Nat} {ds : List D} (h : lstAt δ i = some ds) : δ[i]? = some (some (.lst ds)) := by
  unfold lstAt at h
  split at h
  · rename_i e; cases h; exact e
  · cases h
theorem lstAt_of {δ : Env} {i : Nat} {ds : List D} (h : δ[i]? = some (some (.lst ds))) : lstAt δ i = some ds := by
  unfold lstAt; rw [h]
def asInt : D → Option Int
  | .int i => some i
  | _ => none
@[simp] theorem asInt_int {i : Int} : asInt (.int i) = some i := rfl
theorem asInt_some {d : D} {i : Int} (h : asInt d = some i) : d = .int i := by cases d <;> simp_all [asInt]
def asLst : D → Option (List D)
  | .lst i => some i
  | _ => none
@[simp] theorem asLst_lst {i : List D} : asLst (.lst i) = some i := rfl
theorem asLst_some {d : D} {i : List D} (h : asLst d = some i) : d = .lst i := by cases d <;> simp_all [asLst]
theorem ok_app {i : Nat} {f : Env → RE D} {δ : Env} {Q : Out → Env → Prop} (h : okO (lstAt δ i) fun _ => okE (f δ) fun d δ' => okO (lstAt δ' i) fun ds => ds.length < sizeLine ∧ Q .nx (δ'.set i (some (.lst (ds ++ [d]))))) : okE (sapp i f δ) Q := by
  obtain ⟨d0, e0, h⟩ := h
  exact okS_app (lstAt_some e0) (h.mono fun d δ' ⟨ds, e, q⟩ => ⟨ds, lstAt_some e, q⟩)
theorem ok_pop {i : Nat} {f : Env → RE D} {δ : Env} {Q : D → Env → Prop} (h : okO (lstAt δ i) fun _ => okE (f δ) fun d δ' => okO (lstAt δ' i) fun ds => okO (asInt d) fun n => 0 ≤ n ∧ n < 2 ^ 63 ∧ okO (ds[n.toNat]?) fun y => Q y (δ'.set i (some (.lst (ds.eraseIdx n.toNat))))) : okE (epop i f δ) Q := by
  obtain ⟨d0, e0, h⟩ := h
  exact okE_pop (lstAt_some e0) (h.mono fun d δ' ⟨ds, e, n, en, h1, h2, y, h3, q⟩ => ⟨ds, n, y, lstAt_some e, asInt_some en, h1, h2, h3, q⟩)
theorem ok_addO {i : Nat} {f : Env → RE D} {δ : Env} {Q : D → Env → Prop} (h : okO (lstAt δ i) fun _ => okE (f δ) fun d δ' => okO (lstAt δ' i) fun ds => okO (asLst d) fun es => ds.length + es.length ≤ sizeLine ∧ Q (.lst (ds ++ es)) δ') : okE (eaddO i f δ) Q := by
  obtain ⟨d0, e0, h⟩ := h
  exact okE_addO (lstAt_some e0) (h.mono fun d δ' ⟨ds, e, es, en, h1, q⟩ => ⟨ds, es, lstAt_some e, asLst_some en, h1, q⟩)
theorem ok_callB {m : List D → List D → Option (D × List D)} {i : Nat} {a : Env → RE (List D)} {δ : Env} {Q : D → Env → Prop} (h : okO (lstAt δ i) fun _ => okE (a δ) fun ds δ' => okO (lstAt δ' i) fun B => okO (m B ds) fun q => Q q.1 (δ'.set i (some (.lst q.2)))) : okE (ecallB m i a δ) Q := by
  obtain ⟨d0, e0, h⟩ := h
  exact okE_callB (lstAt_some e0) (h.mono fun d δ' ⟨B, e, ⟨r, B'⟩, em, q⟩ => ⟨B, r, B', lstAt_some e, em, q⟩)
theorem ok_callBN {m : List D → List D → Option (D × List D)} {fa : Env → RE D} {f : Env → RE (List D)} {δ : Env} {Q : D → Env → Prop} (h : okE (fa δ) fun d δ1 => okE (f δ1) fun ds δ2 => okO (asLst d) fun B => okO (m B ds) fun q => Q q.1 δ2) : okE (ecallBN m fa f δ) Q :=
  okE_callBN (h.mono fun d δ1 h => h.mono fun ds δ2 ⟨B, e, ⟨r, B'⟩, em, q⟩ => ⟨B, r, B', asLst_some e, em, q⟩)
theorem ok_ixset {i : Nat} {fk f : Env → RE D} {δ : Env} {Q : Out → Env → Prop} (h : okE (f δ) fun d δ1 => okO (lstAt δ1 i) fun _ => okE (fk δ1) fun k δ2 => okO (lstAt δ2 i) fun ds => okO (asInt k) fun n => okO (ixN ds.length n) fun j => Q .nx (δ2.set i (some (.lst (ds.set j d))))) : okE (sixset i fk f δ) Q :=
  okS_ixset (h.mono fun d δ1 ⟨d0, e0, h⟩ => ⟨⟨d0, lstAt_some e0⟩, h.mono fun k δ2 ⟨ds, e, n, en, j, ej, q⟩ => ⟨ds, n, j, lstAt_some e, asInt_some en, ej, q⟩⟩)
theorem ok_par2 {i j : Nat} {f : Env → RE (List D)} {δ : Env} {Q : Out → Env → Prop} : okE (spar2 i j f δ) Q = okE (f δ) fun ds δ' => okO (ds[0]?) fun a => okO (ds[1]?) fun b => ds.length = 2 ∧ Q .nx ((δ'.set i (some a)).set j (some b)) := by
  apply propext; constructor
  · rintro ⟨o, δ', e, q⟩
    unfold spar2 at e
    rw [show f δ = f δ from rfl] at e
    cases h : f δ with
    | none => rw [h] at e; cases e
    | some y => rcases y with x | ⟨ds, δ1⟩
                · rw [h] at e; cases e
                · rw [h] at e
                  simp only [bindE] at e
                  split at e
                  · cases e; exact ⟨_, _, rfl, _, rfl, _, rfl, rfl, q⟩
                  · cases e
  · intro h
    refine okS_par2 (h.mono fun ds δ' ⟨a, ea, b, eb, hl, q⟩ => ?_)
    match ds, hl with
    | [x, y], _ => cases ea; cases eb; exact ⟨_, _, rfl, q⟩
end PD
end
section
set_option maxHeartbeats 1000000
namespace PD
open PySem L2
@[simp] theorem okE_callBE {m : List D → List D → Option (D × List D)} {i : Nat} {a : Env → RE (List D)} {δ : Env} {Q : D → Env → Prop} : okE (ecallB m i a δ) Q = okO (lstAt δ i) fun _ => okE (a δ) fun ds δ' => okO (lstAt δ' i) fun B => okO (m B ds) fun q => Q q.1 (δ'.set i (some (.lst q.2))) := by
  apply propext; refine ⟨?_, ok_callB⟩
  rintro ⟨r, δ2, e, q⟩
  unfold ecallB at e
  split at e
  · rename_i d0 h0
    refine ⟨d0, lstAt_of h0, ?_⟩
    cases h : a δ with
    | none => rw [h] at e; cases e
    | some y => rcases y with x | ⟨ds, δ1⟩
                · rw [h] at e; cases e
                · rw [h] at e; simp only [bindE] at e
                  split at e
                  · rename_i B hB
                    cases hm : m B ds with
                    | none => rw [hm] at e; cases e
                    | some z => rw [hm] at e; cases e; exact ⟨ds, δ1, rfl, B, lstAt_of hB, z, hm, q⟩
                  · cases e
  · cases e
@[simp] theorem okE_callBNE {m : List D → List D → Option (D × List D)} {fa : Env → RE D} {f : Env → RE (List D)} {δ : Env} {Q : D → Env → Prop} : okE (ecallBN m fa f δ) Q = okE (fa δ) fun d δ1 => okE (f δ1) fun ds δ2 => okO (asLst d) fun B => okO (m B ds) fun q => Q q.1 δ2 := by
  unfold ecallBN; rw [okE_bind]; congr; funext d δ1; rw [okE_bind]; congr; funext ds δ2
  apply propext; constructor
  · rintro ⟨r, δ3, e, q⟩
    split at e
    · rename_i B
      cases hm : m B ds with
      | none => rw [hm] at e; cases e
      | some z => rw [hm] at e; cases e; exact ⟨B, rfl, z, hm, q⟩
    · cases e
  · rintro ⟨B, e, z, hm, q⟩
    cases asLst_some e
    simp only []; rw [hm]; exact ⟨_, _, rfl, q⟩
@[simp] theorem okE_popE {i : Nat} {f : Env → RE D} {δ : Env} {Q : D → Env → Prop} : okE (epop i f δ) Q = okO (lstAt δ i) fun _ => okE (f δ) fun d δ' => okO (lstAt δ' i) fun ds => okO (asInt d) fun n => 0 ≤ n ∧ n < 2 ^ 63 ∧ okO (ds[n.toNat]?) fun y => Q y (δ'.set i (some (.lst (ds.eraseIdx n.toNat)))) := by
  apply propext; refine ⟨?_, ok_pop⟩
  rintro ⟨r, δ2, e, q⟩
  unfold epop at e
  split at e
  · rename_i d0 h0
    refine ⟨d0, lstAt_of h0, ?_⟩
    cases h : f δ with
    | none => rw [h] at e; cases e
    | some y => rcases y with x | ⟨d, δ1⟩
                · rw [h] at e; cases e
                · rw [h] at e; simp only [bindE] at e
                  split at e
                  · rename_i ds hB
                    split at e
                    · rename_i k
                      split at e
                      · rename_i hk
                        split at e
                        · rename_i hy
                          cases e; exact ⟨_, δ1, rfl, ds, lstAt_of hB, k, rfl, hk.1, hk.2, _, hy, q⟩
                        · cases e
                      · cases e
                    · cases e
                  · cases e
  · cases e
@[simp] theorem okS_appE {i : Nat} {f : Env → RE D} {δ : Env} {Q : Out → Env → Prop} : okE (sapp i f δ) Q = okO (lstAt δ i) fun _ => okE (f δ) fun d δ' => okO (lstAt δ' i) fun ds => ds.length < sizeLine ∧ Q .nx (δ'.set i (some (.lst (ds ++ [d])))) := by
  apply propext; refine ⟨?_, ok_app⟩
  rintro ⟨r, δ2, e, q⟩
  unfold sapp at e
  split at e
  · rename_i d0 h0
    refine ⟨d0, lstAt_of h0, ?_⟩
    cases h : f δ with
    | none => rw [h] at e; cases e
    | some y => rcases y with x | ⟨d, δ1⟩
                · rw [h] at e; cases e
                · rw [h] at e; simp only [bindE] at e
                  split at e
                  · rename_i ds hB
                    split at e
                    · rename_i hk; cases e; exact ⟨_, δ1, rfl, ds, lstAt_of hB, hk, q⟩
                    · cases e
                  · cases e
  · cases e
@[simp] theorem okE_addOE {i : Nat} {f : Env → RE D} {δ : Env} {Q : D → Env → Prop} : okE (eaddO i f δ) Q = okO (lstAt δ i) fun _ => okE (f δ) fun d δ' => okO (lstAt δ' i) fun ds => okO (asLst d) fun es => ds.length + es.length ≤ sizeLine ∧ Q (.lst (ds ++ es)) δ' := by
  apply propext; refine ⟨?_, ok_addO⟩
  rintro ⟨r, δ2, e, q⟩
  unfold eaddO at e
  split at e
  · rename_i d0 h0
    refine ⟨d0, lstAt_of h0, ?_⟩
    cases h : f δ with
    | none => rw [h] at e; cases e
    | some y => rcases y with x | ⟨d, δ1⟩
                · rw [h] at e; cases e
                · rw [h] at e; simp only [bindE] at e
                  split at e
                  · rename_i ds hB
                    split at e
                    · rename_i es
                      split at e
                      · rename_i hk; cases e; exact ⟨_, _, rfl, ds, lstAt_of hB, es, rfl, hk, q⟩
                      · cases e
                    · cases e
                  · cases e
  · cases e
@[simp] theorem okS_ixsetE {i : Nat} {fk f : Env → RE D} {δ : Env} {Q : Out → Env → Prop} : okE (sixset i fk f δ) Q = okE (f δ) fun d δ1 => okO (lstAt δ1 i) fun _ => okE (fk δ1) fun k δ2 => okO (lstAt δ2 i) fun ds => okO (asInt k) fun n => okO (ixN ds.length n) fun j => Q .nx (δ2.set i (some (.lst (ds.set j d)))) := by
  apply propext; refine ⟨?_, ok_ixset⟩
  rintro ⟨r, δ2, e, q⟩
  unfold sixset at e
  cases h : f δ with
  | none => rw [h] at e; cases e
  | some y =>
    rcases y with x | ⟨d, δ1⟩
    · rw [h] at e; cases e
    · rw [h] at e; simp only [bindE] at e
      split at e
      · rename_i d0 h0
        refine ⟨d, δ1, rfl, d0, lstAt_of h0, ?_⟩
        cases h1 : fk δ1 with
        | none => rw [h1] at e; cases e
        | some y =>
          rcases y with x | ⟨k, δ3⟩
          · rw [h1] at e; cases e
          · rw [h1] at e; simp only [] at e
            split at e
            · rename_i ds hB
              split at e
              · rename_i n
                split at e
                · rename_i j hj; cases e; exact ⟨_, _, rfl, ds, lstAt_of hB, n, rfl, j, hj, q⟩
                · cases e
              · cases e
            · cases e
      · cases e
@[simp] theorem okS_par2E {i j : Nat} {f : Env → RE (List D)} {δ : Env} {Q : Out → Env → Prop} : okE (spar2 i j f δ) Q = okE (f δ) fun ds δ' => okO (ds[0]?) fun a => okO (ds[1]?) fun b => ds.length = 2 ∧ Q .nx ((δ'.set i (some a)).set j (some b)) := ok_par2
@[simp] theorem okS_par3E {i j l : Nat} {f : Env → RE (List D)} {δ : Env} {Q : Out → Env → Prop} : okE (spar3 i j l f δ) Q = okE (f δ) fun ds δ' => okO (ds[0]?) fun a => okO (ds[1]?) fun b => okO (ds[2]?) fun e => ds.length = 3 ∧ Q .nx (((δ'.set i (some a)).set j (some b)).set l (some e)) := by
  apply propext; constructor
  · rintro ⟨o, δ', e, q⟩
    unfold spar3 at e
    cases h : f δ with
    | none => rw [h] at e; cases e
    | some y => rcases y with x | ⟨ds, δ1⟩
                · rw [h] at e; cases e
                · rw [h] at e
                  simp only [bindE] at e
                  split at e
                  · cases e; exact ⟨_, _, rfl, _, rfl, _, rfl, _, rfl, rfl, q⟩
                  · cases e
  · intro h
    refine okS_par3 (h.mono fun ds δ' ⟨a, ea, b, eb, x, ex, hl, q⟩ => ?_)
    match ds, hl with
    | [x, y, z], _ => cases ea; cases eb; cases ex; exact ⟨_, _, _, rfl, q⟩
@[simp] theorem okE_irng1E {f : Env → RE D} {δ : Env} {Q : List D → Env → Prop} : okE (irng1 f δ) Q = okE (f δ) fun d δ' => okO (asInt d) fun n => (-(2 ^ 62) ≤ n ∧ n < 2 ^ 62) ∧ Q (rng 0 n) δ' := by
  apply propext; constructor
  · rintro ⟨o, δ', e, q⟩
    unfold irng1 at e
    cases h : f δ with
    | none => rw [h] at e; cases e
    | some y => rcases y with x | ⟨ds, δ1⟩
                · rw [h] at e; cases e
                · rw [h] at e
                  simp only [bindE] at e
                  split at e
                  · split at e
                    · rename_i hc; cases e; exact ⟨_, _, rfl, _, rfl, hc, q⟩
                    · cases e
                  · cases e
  · intro h
    exact okE_irng1 (h.mono fun d δ' ⟨n, e, hc, q⟩ => ⟨n, asInt_some e, hc.1, hc.2, q⟩)
@[simp] theorem okE_enorE {f g : Env → RE D} {δ : Env} {Q : D → Env → Prop} : okE (enor f g δ) Q = okE (f δ) fun d δ' => okO (asLst d) fun xs => if xs = [] then okE (g δ') Q else Q (.lst xs) δ' := by
  unfold enor; rw [okE_bind]; congr; funext d δ'
  apply propext; constructor
  · intro h
    split at h
    · exact ⟨_, rfl, by simpa using h⟩
    · rw [okE_some] at h; exact ⟨_, rfl, by simpa using h⟩
    · obtain ⟨_, _, e, _⟩ := h; cases e
  · rintro ⟨xs, e, h⟩
    cases asLst_some e
    cases xs with
    | nil => simpa using h
    | cons x xs => simp only []; rw [okE_some]; simpa using h
@[simp] theorem okE_ienumE {f : Env → RE D} {δ : Env} {Q : List D → Env → Prop} : okE (ienum f δ) Q = okE (f δ) fun d δ' => okO (seqL d) fun xs => Q (enumD 0 xs) δ' := by
  unfold ienum; rw [okE_bind]; congr; funext d δ'
  apply propext; constructor
  · intro h
    split at h
    · rw [okE_some] at h; exact ⟨_, rfl, h⟩
    · rw [okE_some] at h; exact ⟨_, rfl, h⟩
    · obtain ⟨_, _, e, _⟩ := h; cases e
  · rintro ⟨xs, e, h⟩
    cases d <;> first | (cases e; exact ⟨_, _, rfl, h⟩) | cases e
@[simp] theorem seqL_lst {xs : List D} : seqL (.lst xs) = some xs := rfl
@[simp] theorem seqL_scr {xs : List D} : seqL (.scr xs) = some xs := rfl
theorem sfrz_ok {own : List Nat} {k : Env → RO} {δ : Env} {Q : Out → Env → Prop} : okE (sfrz own k δ) Q = (bxIn own δ = true ∧ okE (k δ) Q) := by
  unfold sfrz
  by_cases h : bxIn own δ = true
  · rw [if_pos h]; simp [h]
  · rw [if_neg h]; apply propext; constructor
    · rintro ⟨_, _, e, _⟩; cases e
    · exact fun h2 => absurd h2.1 h
@[simp] theorem okS_frzE {own : List Nat} {k : Env → RO} {δ : Env} {Q : Out → Env → Prop} : okE (sfrz own k δ) Q = (bxIn own δ = true ∧ okE (k δ) Q) := sfrz_ok
@[simp] theorem bxIn_some {own : List Nat} {x : D} {δ : Env} : bxIn own (some x :: δ) = true := by simp [bxIn]
end PD
end
section
set_option maxHeartbeats 1000000
set_option exponentiation.threshold 3000
namespace PD
open PySem L2
/-! ### plain data -/
mutual
def pl : D → Bool
  | .non => true
  | .bl _ => true
  | .int i => decide (i.natAbs < 2 ^ 1900)
  | .str x => decide (x.length ≤ 1000) && PyData.strOk x
  | .tup xs => pls xs
  | .lst xs => pls xs
  | _ => false
def pls : List D → Bool
  | [] => true
  | x :: xs => pl x && pls xs
end
mutual
def wt : D → Nat
  | .non => 10
  | .bl _ => 10
  | .int _ => 600
  | .str x => 10 * x.length + 10
  | .tup xs => wts xs + 10
  | .lst xs => wts xs + 10
  | _ => 0
def wts : List D → Nat
  | [] => 0
  | x :: xs => wt x + 2 + wts xs
end
mutual
def dpt : D → Nat
  | .tup xs => dpts xs + 1
  | .lst xs => dpts xs + 1
  | _ => 0
def dpts : List D → Nat
  | [] => 0
  | x :: xs => max (dpt x) (dpts xs)
end
theorem textFrom_le : ∀ (ts : List Str) (k : Nat) (acc : Str), (PySem.textFrom k acc ts).length ≤ acc.length + PySem.piled ts
  | [], k, acc => by simp [PySem.textFrom]
  | t :: ts, k, acc => by
    rw [PySem.textFrom, PySem.piled_cons]
    have := textFrom_le ts (k + 1) (acc ++ (if k > 0 then ", " else "" : String) ++ t)
    have e : (acc ++ (if k > 0 then ", " else "" : String) ++ t).length = acc.length + (if k > 0 then 2 else 0) + t.length := by
      rw [strLen_append, strLen_append]
      split <;> rfl
    rw [e] at this
    have h2 : (if k > 0 then 2 else 0) ≤ 2 := by split <;> omega
    omega
theorem listText_le (ts : List Str) : (PySem.listText ts).length ≤ PySem.piled ts + 2 := by
  unfold PySem.listText
  rw [strLen_append]
  have := textFrom_le ts 0 "["
  have e1 : (("[" : String) : Str).length = 1 := rfl
  have e2 : (("]" : String) : Str).length = 1 := rfl
  omega
theorem tupleText_le (ts : List Str) : (PySem.tupleText ts).length ≤ PySem.piled ts + 3 := by
  unfold PySem.tupleText
  rw [strLen_append, strLen_append]
  have e1 : (("(" : String) : Str).length = 1 := rfl
  have e2 : ((if ts.length == 1 then ",)" else ")" : String) : Str).length ≤ 2 := by split <;> decide
  cases ts with
  | nil =>
    have : (Str.join ", " []).length = 0 := rfl
    omega
  | cons t ts =>
    have := PySem.join_length_add (t :: ts) (by simp)
    omega
theorem int_len {i : Int} (h : i.natAbs < 2 ^ 1900) : ((toString i : String) : Str).length ≤ 600 := by
  have e : ∀ s : String, (Str.ofString s).length = s.length := fun s => by
    rw [Str.ofString_eq_toList]; show (s.toList.map Char.toNat).toArray.size = _; rw [List.size_toArray, List.length_map, String.length_toList]
  show (Str.ofString (toString i)).length ≤ 600
  rw [e, Int.toString_eq_repr, Int.repr_eq_if]
  have h2 : (2 : Nat) ^ 1900 ≤ 10 ^ 599 := by decide +kernel
  have k : ∀ n : Nat, n < 2 ^ 1900 → n.repr.length ≤ 599 := fun n hn => (Nat.length_repr_le_iff (by decide)).2 (Nat.lt_of_lt_of_le hn h2)
  split
  · have := k i.toNat (by have : i.toNat = i.natAbs := by omega
                          rw [this]; exact h)
    omega
  · have := k (-i).toNat (by have : (-i).toNat = i.natAbs := by omega
                             rw [this]; exact h)
    rw [String.length_append]
    have : "-".length = 1 := rfl
    omega
mutual
theorem pl_py : ∀ {d : D}, pl d = true → ∃ p, toPy d = some p ∧ p.canLay0 = true ∧ p.showable = true ∧ p.depth = dpt d ∧ p.shown.length ≤ wt d
  | .non, _ => ⟨_, rfl, rfl, rfl, rfl, by decide⟩
  | .bl b, _ => ⟨_, rfl, rfl, rfl, rfl, by cases b <;> decide⟩
  | .int i, h => by
    have h1 : i.natAbs < 2 ^ 1900 := by simpa [pl] using h
    refine ⟨.int i, rfl, by simp [PyData.canLay0], ?_, by simp [PyData.depth, dpt], ?_⟩
    · simp only [PyData.showable, decide_eq_true_eq]
      exact Nat.lt_of_lt_of_le (log2_lt h1 (by decide)) (by decide)
    · rw [PyData.shown]; exact int_len h1
  | .str x, h => by
    simp only [pl, Bool.and_eq_true, decide_eq_true_eq] at h
    refine ⟨.str x, rfl, by simp [PyData.canLay0, h.2], by simp [PyData.showable], by simp [PyData.depth, dpt], ?_⟩
    rw [PyData.shown, wt]
    have := PySem.StrLaws.reprText_len x (fun c hc => by
      have h2 := h.2
      unfold PyData.strOk at h2
      have := (Array.all_eq_true'.1 h2) c (by simpa using hc)
      simp at this
      omega)
    omega
  | .tup xs, h => by
    obtain ⟨ps, h1, h2, h3, h4, h5⟩ := pls_py (xs := xs) (by simpa [pl] using h)
    refine ⟨.tuple ps, by simp [toPy, h1], by simpa [PyData.canLay0] using h2, by simpa [PyData.showable] using h3, by simp [PyData.depth, dpt, h4], ?_⟩
    rw [PyData.shown, wt]
    have := tupleText_le (PyData.shownAll ps)
    omega
  | .lst xs, h => by
    obtain ⟨ps, h1, h2, h3, h4, h5⟩ := pls_py (xs := xs) (by simpa [pl] using h)
    refine ⟨.list ps, by simp [toPy, h1], by simpa [PyData.canLay0] using h2, by simpa [PyData.showable] using h3, by simp [PyData.depth, dpt, h4], ?_⟩
    rw [PyData.shown, wt]
    have := listText_le (PyData.shownAll ps)
    omega
  | .scr _, h => by cases h
  | .npt _, h => by cases h
  | .dic _, h => by cases h
  | .obj _ _, h => by cases h
  | .ins _ _, h => by cases h
theorem pls_py : ∀ {xs : List D}, pls xs = true → ∃ ps, toPys xs = some ps ∧ PyData.canLayAll0 ps = true ∧ PyData.showableAll ps = true ∧ PyData.depthAll ps = dpts xs ∧ PySem.piled (PyData.shownAll ps) ≤ wts xs
  | [], _ => ⟨[], rfl, rfl, rfl, rfl, by simp [PyData.shownAll, PySem.piled]⟩
  | x :: xs, h => by
    simp only [pls, Bool.and_eq_true] at h
    obtain ⟨p, a1, a2, a3, a4, a5⟩ := pl_py h.1
    obtain ⟨ps, h1, h2, h3, h4, h5⟩ := pls_py h.2
    refine ⟨p :: ps, by simp [toPys, a1, h1], by simp [PyData.canLayAll0, a2, h2], by simp [PyData.showableAll, a3, h3], by simp [PyData.depthAll, dpts, a4, h4], ?_⟩
    rw [PyData.shownAll, PySem.piled_cons, wts]
    omega
end
/-! what can be asked of plain data -/
theorem shaped_of {d : D} (h : pl d = true) (h2 : dpt d ≤ 64) : ∃ p, toPy d = some p ∧ SeqAt.shaped p = true := by
  obtain ⟨p, h1, h3, _, h4, _⟩ := pl_py h
  exact ⟨p, h1, by simp [SeqAt.shaped, h3, h4, h2]⟩
theorem dRepr_ok {d : D} (h : pl d = true) (h2 : dpt d ≤ 64) (h3 : wt d ≤ 16000000) : ∃ s, dRepr d = some (.str s) := by
  obtain ⟨p, a1, a2, a3, a4, a5⟩ := pl_py h
  refine ⟨p.shown, ?_⟩
  unfold dRepr
  rw [a1, Option.bind_some, if_pos]
  have : p.shown.length ≤ sizeLine := sz (by omega)
  simp [a3, a4, h2, this]
theorem eqD_ok {x y : D} (hx : pl x = true) (hx2 : dpt x ≤ 64) (hy : pl y = true) (hy2 : dpt y ≤ 64) : ∃ p q, toPy x = some p ∧ toPy y = some q ∧ eqD x y = some (PyData.eqv p q) := by
  obtain ⟨p, h1, h2⟩ := shaped_of hx hx2
  obtain ⟨q, k1, k2⟩ := shaped_of hy hy2
  exact ⟨p, q, h1, k1, by simp [eqD, h1, k1, h2, k2]⟩
@[simp] theorem dEq_int {a b : Int} : dEq (.int a) (.int b) = some (.bl (a == b)) := by
  simp [dEq, eqD, toPy, SeqAt.shaped, PyData.canLay0, PyData.depth, PyData.eqv]
@[simp] theorem dNe_int {a b : Int} : dNe (.int a) (.int b) = some (.bl (a != b)) := by
  simp [dNe, eqD, toPy, SeqAt.shaped, PyData.canLay0, PyData.depth, PyData.eqv, bne]
@[simp] theorem dEq_bl {a b : Bool} : dEq (.bl a) (.bl b) = some (.bl (a == b)) := by
  simp [dEq, eqD, toPy, SeqAt.shaped, PyData.canLay0, PyData.depth, PyData.eqv]
@[simp] theorem dNe_bl {a b : Bool} : dNe (.bl a) (.bl b) = some (.bl (a != b)) := by
  simp [dNe, eqD, toPy, SeqAt.shaped, PyData.canLay0, PyData.depth, PyData.eqv, bne]
theorem eqD_str {a b : Str} (ha : PyData.strOk a = true) (hb : PyData.strOk b = true) : eqD (.str a) (.str b) = some (a == b) := by
  simp [eqD, toPy, SeqAt.shaped, PyData.canLay0, PyData.depth, PyData.eqv, ha, hb]
theorem pls_mem : ∀ {xs : List D}, pls xs = true ↔ ∀ x ∈ xs, pl x = true
  | [] => by simp [pls]
  | x :: xs => by simp [pls, pls_mem (xs := xs)]
theorem dpts_le : ∀ {xs : List D} {n : Nat}, dpts xs ≤ n ↔ ∀ x ∈ xs, dpt x ≤ n
  | [], n => by simp [dpts]
  | x :: xs, n => by simp [dpts, Nat.max_le, dpts_le (xs := xs)]
theorem wts_append : ∀ {xs ys : List D}, wts (xs ++ ys) = wts xs + wts ys
  | [], ys => by simp [wts]
  | x :: xs, ys => by simp [wts, wts_append (xs := xs)]; omega
theorem wts_mem : ∀ {xs : List D} {x : D}, x ∈ xs → wt x + 2 ≤ wts xs
  | [], _, h => by simp at h
  | x :: xs, y, h => by
    rcases List.mem_cons.1 h with rfl | h
    · simp [wts]
    · have := wts_mem h; simp [wts]; omega
theorem wts_le : ∀ {xs : List D} {k : Nat}, (∀ x ∈ xs, wt x + 2 ≤ k) → wts xs ≤ k * xs.length
  | [], _, _ => by simp [wts]
  | x :: xs, k, h => by
    have := wts_le (xs := xs) fun y hy => h y (List.mem_cons_of_mem _ hy)
    have := h x List.mem_cons_self
    simp [wts, Nat.mul_succ]; omega
theorem eq_of_okR {α : Type} {o : Rs α} {a : α} (h : okR o fun d => d = a) : o = some (.ok a) := by
  obtain ⟨d, e, rfl⟩ := h; exact e
/-- a comprehension whose parts change nothing -/
theorem okE_comp {vs : List Nat} {g : D → Env → Option Env} {t : Env → RE Bool} {e : Env → RE D} {δ : Env} {ds acc : List D} {Q : List D → Env → Prop} (T : D → Bool) (F : D → D) (h : ∀ d ∈ ds, okO (g d δ) fun δ1 => wipeD vs δ1 = δ ∧ okE (t δ1) fun k δ2 => k = T d ∧ δ2 = δ1 ∧ (k = true → okE (e δ1) fun y δ3 => y = F d ∧ δ3 = δ1)) (hl : acc.length + ds.length ≤ sizeLine) (q : Q (acc ++ (ds.filter T).map F) δ) : okE (scomp vs g t e ds acc δ) Q := by
  rw [scomp_map (T := T) (F := F) (fun d hd => ?_) hl]
  · rw [okE_some]; exact q
  · obtain ⟨δ1, e1, ew, k, δ2, e2, rfl, rfl, h3⟩ := h d hd
    refine ⟨_, e1, ew, e2, fun hT => ?_⟩
    obtain ⟨y, δ3, e3, rfl, rfl⟩ := h3 hT
    exact e3
theorem filter_true {α : Type} : ∀ {xs : List α}, xs.filter (fun _ => true) = xs
  | [] => rfl
  | x :: xs => by simp
theorem okE_compM {vs : List Nat} {g : D → Env → Option Env} {e : Env → RE D} {δ : Env} {ds acc : List D} {Q : List D → Env → Prop} (F : D → D) (h : ∀ d ∈ ds, okO (g d δ) fun δ1 => wipeD vs δ1 = δ ∧ okE (e δ1) fun y δ3 => y = F d ∧ δ3 = δ1) (hl : acc.length + ds.length ≤ sizeLine) (q : Q (acc ++ ds.map F) δ) : okE (scomp vs g tyes e ds acc δ) Q := by
  refine okE_comp (fun _ => true) F (fun d hd => ?_) hl (by rw [filter_true]; exact q)
  exact (h d hd).mono fun δ1 ⟨hw, he⟩ => ⟨hw, by simp; exact he⟩
@[simp] theorem dbools_map {α : Type} {f : α → Bool} : ∀ {xs : List α}, dbools (xs.map fun x => .bl (f x)) = some (xs.map f)
  | [] => rfl
  | x :: xs => by simp [dbools, dbools_map (xs := xs)]
@[simp] theorem dints_map {α : Type} {f : α → Int} : ∀ {xs : List α}, dints (xs.map fun x => .int (f x)) = some (xs.map f)
  | [] => rfl
  | x :: xs => by simp [dints, dints_map (xs := xs)]
end PD
end
section
set_option maxHeartbeats 1000000
namespace PD
open PySem L2
/-! ### texts of plain data are texts -/
theorem strOk_iff {x : Str} : PyData.strOk x = true ↔ ∀ e ∈ x.cps.toList, e < 1114112 := by
  unfold PyData.strOk
  rw [Array.all_eq_true']
  simp
theorem strOk_app {a b : Str} (ha : PyData.strOk a = true) (hb : PyData.strOk b = true) : PyData.strOk (a ++ b) = true := by
  rw [strOk_iff] at *
  intro e he
  have : (a ++ b).cps = a.cps ++ b.cps := rfl
  rw [this, Array.toList_append] at he
  rcases List.mem_append.1 he with h | h
  · exact ha e h
  · exact hb e h
theorem char_lt (c : Char) : c.toNat < 1114112 := by
  have := c.valid
  rcases this with h | h
  · have h2 : c.toNat = c.val.toNat := rfl
    omega
  · have h2 : c.toNat = c.val.toNat := rfl
    omega
theorem strOk_of (s : String) : PyData.strOk (Str.ofString s) = true := by
  rw [strOk_iff, Str.ofString_eq_toList]
  intro e he
  simp at he
  obtain ⟨c, _, rfl⟩ := he
  exact char_lt c
theorem reprChar_ok {q e : Nat} (hq : q < 1114112) (he : e < 1114112) : ∀ x ∈ Builtin.Str.reprChar q e, x < 1114112 := by
  have hex : ∀ w, ∀ x ∈ List.replicate (w - ((Nat.toDigits 16 e).map Char.toNat).length) 48 ++ (Nat.toDigits 16 e).map Char.toNat, x < 1114112 := by
    intro w x hx
    rcases List.mem_append.1 hx with h | h
    · rw [(List.mem_replicate.1 h).2]; decide
    · obtain ⟨c, _, rfl⟩ := List.mem_map.1 h
      exact char_lt c
  unfold Builtin.Str.reprChar
  dsimp only
  repeat' split
  all_goals intro x hx
  all_goals first | (rcases List.mem_append.1 hx with hx | hx; (simp at hx; omega); exact hex _ x hx) | (simp at hx; omega)
theorem fold_ok {q : Nat} (hq : q < 1114112) : ∀ (l : List Nat) (acc : Array Nat), (∀ e ∈ acc.toList, e < 1114112) → (∀ e ∈ l, e < 1114112) → ∀ e ∈ (l.foldl (fun out c => out ++ (Builtin.Str.reprChar q c).toArray) acc).toList, e < 1114112
  | [], acc, ha, _ => ha
  | x :: l, acc, ha, hl => by
    rw [List.foldl_cons]
    refine fold_ok hq l _ ?_ fun e he => hl e (List.mem_cons_of_mem _ he)
    intro e he
    rw [Array.toList_append] at he
    rcases List.mem_append.1 he with h | h
    · exact ha e h
    · exact reprChar_ok hq (hl x List.mem_cons_self) e (by simpa using h)
theorem reprText_ok {x : Str} (h : PyData.strOk x = true) : PyData.strOk (PySem.reprText x) = true := by
  rw [strOk_iff] at *
  have hq : PySem.reprQuote x < 1114112 := by unfold PySem.reprQuote; split <;> decide
  intro e he
  unfold PySem.reprText at he
  simp only [Array.toList_push] at he
  rcases List.mem_append.1 he with h1 | h1
  · rw [← Array.foldl_toList] at h1
    exact fold_ok hq _ _ (by simpa using hq) h e h1
  · rw [List.mem_singleton.1 h1]; exact hq
theorem textFrom_ok : ∀ (ts : List Str) (k : Nat) (acc : Str), PyData.strOk acc = true → (∀ t ∈ ts, PyData.strOk t = true) → PyData.strOk (PySem.textFrom k acc ts) = true
  | [], _, _, h, _ => h
  | t :: ts, k, acc, h, ht => by
    rw [PySem.textFrom]
    exact textFrom_ok ts _ _ (strOk_app (strOk_app h (strOk_of _)) (ht t List.mem_cons_self)) fun u hu => ht u (List.mem_cons_of_mem _ hu)
theorem join_ok {sep : Str} (hs : PyData.strOk sep = true) : ∀ (ts : List Str), (∀ t ∈ ts, PyData.strOk t = true) → PyData.strOk (Str.join sep ts) = true
  | [], _ => by rw [strOk_iff]; simp [Str.join, Str.empty]
  | [t], h => h t List.mem_cons_self
  | t :: u :: ts, h => by
    rw [Str.join]
    · exact strOk_app (strOk_app (h t List.mem_cons_self) hs) (join_ok hs (u :: ts) fun x hx => h x (List.mem_cons_of_mem _ hx))
    · simp
mutual
theorem shown_ok : ∀ {p : PyData}, p.canLay0 = true → PyData.strOk p.shown = true
  | .none, _ => by rw [PyData.shown]; exact strOk_of _
  | .bool b, _ => by rw [PyData.shown]; split <;> exact strOk_of _
  | .int i, _ => by rw [PyData.shown]; exact strOk_of _
  | .str x, h => by rw [PyData.shown]; exact reprText_ok (by simpa [PyData.canLay0] using h)
  | .list xs, h => by
    rw [PyData.shown, PySem.listText]
    exact strOk_app (textFrom_ok _ _ _ (strOk_of _) (showns_ok (by simpa [PyData.canLay0] using h))) (strOk_of _)
  | .tuple xs, h => by
    rw [PyData.shown, PySem.tupleText]
    exact strOk_app (strOk_app (strOk_of _) (join_ok (strOk_of _) _ (showns_ok (by simpa [PyData.canLay0] using h)))) (strOk_of _)
  | .dict _, h => by simp [PyData.canLay0] at h
theorem showns_ok : ∀ {ps : List PyData}, PyData.canLayAll0 ps = true → ∀ t ∈ PyData.shownAll ps, PyData.strOk t = true
  | [], _, t, h => by simp [PyData.shownAll] at h
  | p :: ps, h, t, ht => by
    simp only [PyData.canLayAll0, Bool.and_eq_true] at h
    rw [PyData.shownAll] at ht
    rcases List.mem_cons.1 ht with rfl | ht
    · exact shown_ok h.1
    · exact showns_ok h.2 t ht
end
theorem dRepr_same {d : D} (h : pl d = true) (h2 : dpt d ≤ 64) (h3 : wt d ≤ 16000000) : ∃ s, dRepr d = some (.str s) ∧ dNe (.str s) (.str s) = some (.bl false) := by
  obtain ⟨p, a1, a2, a3, a4, a5⟩ := pl_py h
  refine ⟨p.shown, ?_, ?_⟩
  · unfold dRepr
    rw [a1, Option.bind_some, if_pos]
    have : p.shown.length ≤ sizeLine := sz (by omega)
    simp [a3, a4, h2, this]
  · rw [dNe, eqD_str (shown_ok a2) (shown_ok a2)]; simp
end PD
end
section
namespace PD
open PySem L2
/-! ### the newer words, by simp -/
theorem okO_none {α : Type} {Q : α → Prop} : ¬ okO (none : Option α) Q := by rintro ⟨_, e, _⟩; cases e
theorem okR_none {α : Type} {Q : α → Prop} : ¬ okR (none : Rs α) Q := by rintro ⟨_, e, _⟩; cases e
theorem okE_none {α : Type} {Q : α → Env → Prop} : ¬ okE (none : RE α) Q := by rintro ⟨_, _, e, _⟩; cases e
@[simp] theorem okR_vattr {c : Str} {i : Nat} {g : Env → Rs D} {δ : Env} {Q : D → Prop} : okR (vattr c i g δ) Q = okR (g δ) fun x => okO (attrD c i x) fun z => Q z := by
  unfold vattr; rw [okR_bind]; congr; funext x; rw [okR_opt]
@[simp] theorem attrD_obj {c : Str} {i : Nat} {fs : List (Option D)} : attrD c i (.obj c fs) = fs[i]?.join := by simp [attrD]
def objAt (c : Str) : D → Option (List (Option D))
  | .obj c' fs => if c' = c then some fs else none
  | _ => none
@[simp] theorem objAt_obj {c : Str} {fs : List (Option D)} : objAt c (.obj c fs) = some fs := by simp [objAt]
theorem objAt_some {c : Str} {d : D} {fs : List (Option D)} (h : objAt c d = some fs) : d = .obj c fs := by
  unfold objAt at h
  split at h
  · split at h
    · rename_i q; cases h; rw [q]
    · cases h
  · cases h
@[simp] theorem okR_vmeth {c : Str} {m : List D → Rs D} {g : Env → Rs D} {a : Env → Rs (List D)} {δ : Env} {Q : D → Prop} : okR (vmeth c m g a δ) Q = okR (g δ) fun x => okO (objAt c x) fun fs => okR (a δ) fun xs => okR (m (.obj c fs :: xs)) Q := by
  unfold vmeth; rw [okR_bind]; congr; funext x
  apply propext
  cases x with
  | obj c' fs =>
    by_cases h : c' = c
    · subst h; simp
    · simp only [objAt, if_neg h]
      exact ⟨fun q => (okR_none q).elim, fun q => (okO_none q).elim⟩
  | _ => exact ⟨fun q => (okR_none q).elim, fun q => (okO_none q).elim⟩
@[simp] theorem okR_vmeth0 {c : Str} {m : List D → Rs D} {g : Env → Rs D} {δ : Env} {Q : D → Prop} : okR (vmeth0 c m g δ) Q = okR (g δ) fun x => okO (objAt c x) fun fs => okR (m [.obj c fs]) Q := by
  unfold vmeth0; rw [okR_vmeth]; congr; funext x; congr; funext fs; simp
@[simp] theorem okR_vmake {m : List D → Option D} {a : Env → Rs (List D)} {δ : Env} {Q : D → Prop} : okR (vmake m a δ) Q = okR (a δ) fun xs => okO (m xs) fun z => Q z := by
  unfold vmake; rw [okR_bind]; congr; funext xs; rw [okR_opt]
@[simp] theorem okR_vget2 {a b d : Env → Rs D} {δ : Env} {Q : D → Prop} : okR (vget2 a b d δ) Q = okR (a δ) fun x => isDc x = true ∧ okR (b δ) fun y => okR (d δ) fun z => okO (dGet2 x y z) fun u => Q u := by
  unfold vget2; rw [okR_bind]; congr; funext x; rw [okR_ite]
  split
  · rename_i h
    have e : (okR (bind (b δ) fun y => bind (d δ) fun z => opt (dGet2 x y z)) Q) = okR (b δ) fun y => okR (d δ) fun z => okO (dGet2 x y z) fun u => Q u := by
      rw [okR_bind]; congr; funext y; rw [okR_bind]; congr; funext z; rw [okR_opt]
    rw [e]
    exact propext ⟨fun q => ⟨h, q⟩, fun q => q.2⟩
  · rename_i h
    exact propext ⟨fun q => (okR_none q).elim, fun q => absurd q.1 h⟩
@[simp] theorem okE_edict0 {δ : Env} {Q : D → Env → Prop} : okE (edict0 δ) Q = Q (.dic []) δ := okE_some
@[simp] theorem okE_edcomp {vs : List Nat} {f : Env → RE (List D)} {g : D → Env → Option Env} {t : Env → RE Bool} {ek ev : Env → RE D} {δ : Env} {Q : D → Env → Prop} : okE (edcomp vs f g t ek ev δ) Q = okE (f δ) fun ds δ' => okE (dcomp vs g t ek ev ds [] (wipeD vs δ')) fun ys δ2 => Q (.dic ys) δ2 := by
  unfold edcomp; rw [okE_bind]; congr; funext ds δ'; rw [okE_bind]; congr; funext ys δ2; rw [okE_some]
@[simp] theorem okE_iobj {c : Str} {j : Nat} {f : Env → RE D} {δ : Env} {Q : List D → Env → Prop} : okE (iobj c j f δ) Q = okE (f δ) fun d δ' => okO (attrD c j d) fun z => okO (asLst z) fun xs => Q xs δ' := by
  unfold iobj; rw [okE_bind]; congr; funext d δ'
  apply propext
  cases h : attrD c j d with
  | none => exact ⟨fun q => (okE_none q).elim, fun q => (okO_none q).elim⟩
  | some z =>
    rw [okO_some]
    cases z with
    | lst xs => simp
    | _ => exact ⟨fun q => (okE_none q).elim, fun q => (okO_none q).elim⟩
def objIn (c : Str) (δ : Env) (i : Nat) : Option (List (Option D)) := match δ[i]? with
  | some (some d) => objAt c d
  | _ => none
@[simp] theorem objIn_zero {c : Str} {fs : List (Option D)} {δ : Env} : objIn c (some (.obj c fs) :: δ) 0 = some fs := by simp [objIn]
@[simp] theorem objIn_succ {c : Str} {x : Option D} {δ : Env} {i : Nat} : objIn c (x :: δ) (i + 1) = objIn c δ i := rfl
@[simp] theorem okS_fset {i j : Nat} {c : Str} {f : Env → RE D} {δ : Env} {Q : Out → Env → Prop} : okE (sfset i j c f δ) Q = okE (f δ) fun d δ1 => okO (objIn c δ1 i) fun fs => Q .nx (δ1.set i (some (.obj c (putF j d fs)))) := by
  unfold sfset; rw [okE_bind]; congr; funext d δ1
  unfold objIn
  generalize δ1[i]? = y
  apply propext
  cases y with
  | none => exact ⟨fun q => (okE_none q).elim, fun q => (okO_none q).elim⟩
  | some y => cases y with
    | none => exact ⟨fun q => (okE_none q).elim, fun q => (okO_none q).elim⟩
    | some z => cases z with
      | obj c' fs =>
        by_cases h : c' = c
        · subst h; simp [objAt]
        · simp only [objAt, if_neg h]
          exact ⟨fun q => (okE_none q).elim, fun q => (okO_none q).elim⟩
      | _ => exact ⟨fun q => (okE_none q).elim, fun q => (okO_none q).elim⟩
@[simp] theorem okE_efld {i j : Nat} {c : Str} {δ : Env} {Q : D → Env → Prop} : okE (efld i j c δ) Q = okO (objIn c δ i) fun fs => okO (fs[j]?.join) fun d => Q d δ := by
  unfold efld objIn
  generalize δ[i]? = y
  apply propext
  cases y with
  | none => exact ⟨fun q => (okE_none q).elim, fun q => (okO_none q).elim⟩
  | some y => cases y with
    | none => exact ⟨fun q => (okE_none q).elim, fun q => (okO_none q).elim⟩
    | some z => cases z with
      | obj c' fs =>
        by_cases h : c' = c
        · subst h
          simp only [objAt, if_true, okO_some]
          cases fs[j]? with
          | none => exact ⟨fun q => (okE_none q).elim, fun q => (okO_none q).elim⟩
          | some y => cases y with
            | none => exact ⟨fun q => (okE_none q).elim, fun q => (okO_none q).elim⟩
            | some d => simp
        · simp only [objAt, if_neg h]
          exact ⟨fun q => (okE_none q).elim, fun q => (okO_none q).elim⟩
      | _ => exact ⟨fun q => (okE_none q).elim, fun q => (okO_none q).elim⟩
def dicAt (δ : Env) (i : Nat) : Option (List (Key × D)) := match δ[i]? with
  | some (some (.dic ds)) => some ds
  | _ => none
@[simp] theorem dicAt_zero {ds : List (Key × D)} {δ : Env} : dicAt (some (.dic ds) :: δ) 0 = some ds := rfl
@[simp] theorem dicAt_succ {x : Option D} {δ : Env} {i : Nat} : dicAt (x :: δ) (i + 1) = dicAt δ i := rfl
@[simp] theorem okS_dput {i : Nat} {fk f : Env → RE D} {δ : Env} {Q : Out → Env → Prop} : okE (sdput i fk f δ) Q = okE (f δ) fun d δ1 => okO (dicAt δ1 i) fun _ => okE (fk δ1) fun k δ2 => okO (dicAt δ2 i) fun kvs => okO (keyOf k) fun key => kvs.length < sizeLine ∧ Q .nx (δ2.set i (some (.dic (putD kvs key d)))) := by
  have inner : ∀ (k d : D) (δ2 : Env), okE (match δ2[i]? with | some (some (.dic kvs)) => (match keyOf k with | some key => if kvs.length < sizeLine then some (.ok (Out.nx, δ2.set i (some (.dic (putD kvs key d))))) else none | none => none) | _ => none) Q = okO (dicAt δ2 i) fun kvs => okO (keyOf k) fun key => kvs.length < sizeLine ∧ Q .nx (δ2.set i (some (.dic (putD kvs key d)))) := fun k d δ2 => by
    unfold dicAt
    cases h : δ2[i]? with
    | none => exact propext ⟨fun q => (okE_none q).elim, fun q => (okO_none q).elim⟩
    | some y => cases y with
      | none => exact propext ⟨fun q => (okE_none q).elim, fun q => (okO_none q).elim⟩
      | some z => cases z with
        | dic kvs =>
          simp only [okO_some]
          cases keyOf k with
          | none => exact propext ⟨fun q => (okE_none q).elim, fun q => (okO_none q).elim⟩
          | some key =>
            rw [okO_some]
            simp only []
            apply propext
            split
            · rename_i h; rw [okE_some]; exact ⟨fun q => ⟨h, q⟩, fun q => q.2⟩
            · rename_i h; exact ⟨fun q => (okE_none q).elim, fun q => absurd q.1 h⟩
        | _ => exact propext ⟨fun q => (okE_none q).elim, fun q => (okO_none q).elim⟩
  unfold sdput; rw [okE_bind]; congr; funext d δ1
  cases h : δ1[i]? with
  | none => simp only [dicAt, h]; exact propext ⟨fun q => (okE_none q).elim, fun q => (okO_none q).elim⟩
  | some y => cases y with
    | none => simp only [dicAt, h]; exact propext ⟨fun q => (okE_none q).elim, fun q => (okO_none q).elim⟩
    | some z => cases z with
      | dic kvs =>
        have e : dicAt δ1 i = some kvs := by simp only [dicAt, h]
        rw [e, okO_some]
        simp only []
        rw [okE_bind]; congr; funext k δ2
        exact inner k d δ2
      | _ => simp only [dicAt, h]; exact propext ⟨fun q => (okE_none q).elim, fun q => (okO_none q).elim⟩
theorem denI_ok {c : Str} {n N : Nat} {body : Env → RO} {ds : List D} {Q : D → Prop} (hl : ds.length + 1 = n) (h : okE (body (some (.obj c []) :: (ds.map some ++ List.replicate (N - n) none))) fun o δ => match o with | .rt d => d = .non ∧ okO (δ[(0 : Nat)]?.join) Q | .nx => okO (δ[(0 : Nat)]?.join) Q | _ => False) : okO (denI c n N body ds) Q := by
  unfold denI denO; rw [if_pos hl]
  obtain ⟨o, δ, e, q⟩ := h
  rw [e]
  have fin : okO (δ[(0 : Nat)]?.join) Q → okO (match oOf .non δ with | some (.non, B) => some B | _ => none) Q := fun ⟨B, e, q⟩ => by
    unfold oOf
    cases h : δ[(0 : Nat)]? with
    | none => rw [h] at e; cases e
    | some y => rw [h] at e; cases y with
      | none => cases e
      | some z => cases e; exact ⟨_, rfl, q⟩
  cases o with
  | rt d => obtain ⟨rfl, q⟩ := q; exact fin q
  | nx => exact fin q
  | bk => exact q.elim
  | ct => exact q.elim
/-- a table comprehension of items that change nothing -/
theorem dcomp_map {vs : List Nat} {g : D → Env → Option Env} {t : Env → RE Bool} {ek ev : Env → RE D} {T : D → Bool} {Kf : D → Key} {F : D → D} {δ : Env} : ∀ {ds : List D} {acc : List (Key × D)}, (∀ d ∈ ds, ∃ δ1, g d δ = some δ1 ∧ wipeD vs δ1 = δ ∧ t δ1 = some (.ok (T d, δ1)) ∧ (T d = true → ek δ1 = some (.ok (kD (Kf d), δ1)) ∧ ev δ1 = some (.ok (F d, δ1)))) → acc.length + ds.length ≤ sizeLine →
    dcomp vs g t ek ev ds acc δ = some (.ok ((ds.filter T).foldl (fun acc d => putD acc (Kf d) (F d)) acc, δ))
  | [], acc, _, _ => by simp [dcomp]
  | d :: ds, acc, h, hl => by
    rw [List.length_cons] at hl
    obtain ⟨δ1, e1, ew, et, ee⟩ := h d List.mem_cons_self
    have kk : ∀ k : Key, keyOf (kD k) = some k := fun k => by cases k <;> rfl
    have pl : ∀ (acc : List (Key × D)) (k : Key) (v : D), (putD acc k v).length ≤ acc.length + 1 := fun acc k v => by
      unfold putD; split <;> simp
    unfold dcomp; rw [e1]; simp only []; rw [et]
    cases ht : T d with
    | false =>
      simp only []
      rw [ew, dcomp_map (fun x hx => h x (List.mem_cons_of_mem _ hx)) (by omega), List.filter_cons_of_neg (by rw [ht]; exact Bool.false_ne_true)]
    | true =>
      simp only []
      rw [(ee ht).1]; simp only []
      rw [(ee ht).2]; simp only []
      rw [kk]; simp only []
      rw [if_pos (by omega), ew, dcomp_map (fun x hx => h x (List.mem_cons_of_mem _ hx)) (by have := pl acc (Kf d) (F d); omega), List.filter_cons_of_pos ht]
      simp
theorem okE_dcomp {vs : List Nat} {g : D → Env → Option Env} {t : Env → RE Bool} {ek ev : Env → RE D} {δ : Env} {ds : List D} {acc : List (Key × D)} {Q : List (Key × D) → Env → Prop} (Kf : D → Key) (F : D → D) (h : ∀ d ∈ ds, okO (g d δ) fun δ1 => wipeD vs δ1 = δ ∧ okE (t δ1) fun k δ2 => k = true ∧ δ2 = δ1 ∧ (okE (ek δ1) fun y δ3 => y = kD (Kf d) ∧ δ3 = δ1) ∧ okE (ev δ1) fun y δ3 => y = F d ∧ δ3 = δ1) (hl : acc.length + ds.length ≤ sizeLine)
    (q : Q (ds.foldl (fun acc d => putD acc (Kf d) (F d)) acc) δ) : okE (dcomp vs g t ek ev ds acc δ) Q := by
  rw [dcomp_map (T := fun _ => true) (Kf := Kf) (F := F) (fun d hd => ?_) hl]
  · rw [okE_some, filter_true]; exact q
  · obtain ⟨δ1, e1, ew, k, δ2, e2, rfl, rfl, ⟨y, δ3, e3, rfl, rfl⟩, z, δ4, e4, rfl, rfl⟩ := h d hd
    exact ⟨_, e1, ew, e2, fun _ => ⟨e3, e4⟩⟩
/-- while, by an invariant that counts down -/
theorem okS_while {t : Env → RE Bool} {b : Env → RO} {Q : Out → Env → Prop} (I : Nat → Env → Prop) (hs : ∀ n δ, I n δ → (okE (t δ) fun k δ1 => if k = true then ∃ m, n = m + 1 ∧ okE (b δ1) (fun o δ2 => match o with | .nx => I m δ2 | .ct => I m δ2 | .bk => Q .nx δ2 | .rt d => Q (.rt d) δ2) else Q .nx δ1) ∧ True) :
    ∀ {fuel n : Nat} {δ : Env}, I n δ → n < fuel → okE (swhile t b fuel δ) Q
  | 0, n, δ, _, h => by omega
  | fuel + 1, n, δ, h0, hf => by
    obtain ⟨⟨k, δ1, e1, q⟩, _⟩ := hs n δ h0
    unfold swhile
    rw [e1]
    simp only [bindE]
    cases k with
    | false => rw [if_neg Bool.false_ne_true] at q ⊢; exact ⟨_, _, rfl, q⟩
    | true =>
      rw [if_pos rfl] at q ⊢
      obtain ⟨m, rfl, o, δ2, e2, q⟩ := q
      rw [e2]
      cases o with
      | nx => exact okS_while I hs q (by omega)
      | ct => exact okS_while I hs q (by omega)
      | bk => exact ⟨_, _, rfl, q⟩
      | rt d => exact ⟨_, _, rfl, q⟩
end PD
end
section
namespace Fa
/-! what divides the denominators -/
def LL : Nat := 5354228880
def DenL (k : Nat) (q : Rat) : Prop := ∃ n : Int, q * ((LL ^ k : Nat) : Rat) = (n : Rat)
theorem DenL.int {k : Nat} (i : Int) : DenL k (i : Rat) := ⟨i * ((LL ^ k : Nat) : Int), by
  rw [Rat.intCast_mul, Rat.intCast_natCast]⟩
theorem DenL.add {k : Nat} {p q : Rat} (hp : DenL k p) (hq : DenL k q) : DenL k (p + q) := by
  obtain ⟨n, hn⟩ := hp
  obtain ⟨m, hm⟩ := hq
  exact ⟨n + m, by rw [Rat.add_mul, hn, hm, Rat.intCast_add]⟩
theorem DenL.neg {k : Nat} {p : Rat} (hp : DenL k p) : DenL k (-p) := by
  obtain ⟨n, hn⟩ := hp
  exact ⟨-n, by rw [Rat.neg_mul, hn, Rat.intCast_neg]⟩
theorem DenL.sub {k : Nat} {p q : Rat} (hp : DenL k p) (hq : DenL k q) : DenL k (p - q) := by
  rw [Rat.sub_eq_add_neg]; exact hp.add hq.neg
theorem DenL.imul {k : Nat} {p : Rat} (i : Int) (hp : DenL k p) : DenL k ((i : Rat) * p) := by
  obtain ⟨n, hn⟩ := hp
  exact ⟨i * n, by rw [Rat.mul_assoc, hn, Rat.intCast_mul]⟩
theorem LL_pow_succ {k : Nat} : ((LL ^ (k + 1) : Nat) : Rat) = ((LL ^ k : Nat) : Rat) * (LL : Rat) := by
  rw [Nat.pow_succ, Rat.natCast_mul]
theorem DenL.div {k : Nat} {p : Rat} {w : Nat} (hp : DenL k p) (h0 : 0 < w) (hw : w ∣ LL) : DenL (k + 1) (p / (w : Rat)) := by
  obtain ⟨n, hn⟩ := hp
  obtain ⟨m, hm⟩ := hw
  refine ⟨n * (m : Int), ?_⟩
  have hw0 : (w : Rat) ≠ 0 := by
    have : (0 : Rat) < (w : Rat) := Rat.natCast_pos.2 h0
    grind
  have e : (LL : Rat) = (w : Rat) * (m : Rat) := by rw [hm, Rat.natCast_mul]
  rw [LL_pow_succ, e, Rat.intCast_mul, Rat.intCast_natCast, ← hn]
  grind
theorem DenL.mono {k j : Nat} {p : Rat} (hp : DenL k p) (h : k ≤ j) : DenL j p := by
  obtain ⟨n, hn⟩ := hp
  obtain ⟨i, rfl⟩ : ∃ i, j = k + i := ⟨j - k, by omega⟩
  refine ⟨n * ((LL ^ i : Nat) : Int), ?_⟩
  rw [Nat.pow_add, Rat.natCast_mul, ← Rat.mul_assoc, hn, Rat.intCast_mul, Rat.intCast_natCast]
theorem small_dvd : ∀ w : Nat, 0 < w → w ≤ 24 → w ∣ LL := by
  intro w h1 h2
  have : ∀ w : Fin 25, 0 < w.1 → w.1 ∣ LL := by decide +kernel
  exact this ⟨w, by omega⟩ h1
end Fa
end
section
namespace Fa
variable {α : Type} [DecidableEq α]
/-- a flow: weight, least, most -/
structure Row (α : Type) where
  name : α
  lines : List α
  w : Nat
  lo : Nat
  hi : Option Nat
structure Net (α : Type) where
  wires : List (α × Nat)
  rows : List (Row α)
def get (s : List (α × Rat)) (x : α) : Option Rat := (s.find? fun kv => decide (kv.1 = x)).map (·.2)
def put (s : List (α × Rat)) (x : α) (q : Rat) : List (α × Rat) := if (s.any fun kv => decide (kv.1 = x)) = true then s.map (fun kv => if kv.1 = x then (kv.1, q) else kv) else s ++ [(x, q)]
def at_ (r : Row α) (h : Rat) : Rat := if (r.lo : Rat) < (r.w : Rat) * h then (r.w : Rat) * h else (r.lo : Rat)
def val (s : List (α × Rat)) (h : Rat) (r : Row α) : Rat := (get s r.name).getD (at_ r h)
def sumQ (qs : List Rat) : Rat := qs.foldl (· + ·) 0
def onL (x : α) (r : Row α) : Bool := decide (x ∈ r.lines)
def load (N : Net α) (s : List (α × Rat)) (h : Rat) (x : α) : Rat := sumQ ((N.rows.filter (onL x)).map (val s h))
def full (N : Net α) (s : List (α × Rat)) (h : Rat) (r : Row α) : Bool := r.lines.any fun x => N.wires.any fun c => decide (c.1 = x) && decide (load N s h x = (c.2 : Rat))
def most (r : Row α) (h : Rat) : Bool := match r.hi with
  | some m => decide (at_ r h = (m : Rat))
  | none => false
def stops (N : Net α) (s : List (α × Rat)) (h : Rat) (r : Row α) : Bool := (get s r.name).isNone && (full N s h r || most r h)
def stop (N : Net α) (s : List (α × Rat)) (h : Rat) : List (α × Rat) := (N.rows.filter (stops N s h)).foldl (fun acc r => put acc r.name (at_ r h)) s
def lev (r : Row α) : Rat := (r.lo : Rat) / (r.w : Rat)
def rising (N : Net α) (s : List (α × Rat)) (h : Rat) (x : α) : List (Row α) := N.rows.filter fun r => onL x r && (get s r.name).isNone && !decide (h < lev r)
def wsum (rs : List (Row α)) : Nat := (rs.map Row.w).sum
def evR (r : Row α) : List Rat := lev r :: (match r.hi with
  | some m => [(m : Rat) / (r.w : Rat)]
  | none => [])
def evL (N : Net α) (s : List (α × Rat)) (h : Rat) (c : α × Nat) : List Rat := if rising N s h c.1 = [] then [] else [h + ((c.2 : Rat) - load N s h c.1) / (wsum (rising N s h c.1) : Rat)]
def events (N : Net α) (s : List (α × Rat)) (h : Rat) : List Rat := ((N.rows.filter fun r => (get s r.name).isNone).flatMap evR) ++ N.wires.flatMap (evL N s h)
/-! sums -/
theorem sum_from (qs : List Rat) : ∀ a : Rat, qs.foldl (· + ·) a = a + sumQ qs := by
  induction qs with
  | nil => intro a; simp [sumQ, Rat.add_zero]
  | cons q qs ih =>
    intro a
    unfold sumQ
    rw [List.foldl_cons, List.foldl_cons, ih, ih (0 + q)]
    grind
theorem sum_cons (q : Rat) (qs : List Rat) : sumQ (q :: qs) = q + sumQ qs := by
  show List.foldl (· + ·) (0 + q) qs = _
  rw [sum_from]; grind
theorem sum_nil : sumQ [] = 0 := rfl
theorem sum_perm {ps qs : List Rat} (h : ps.Perm qs) : sumQ ps = sumQ qs := by
  induction h with
  | nil => rfl
  | cons x _ ih => rw [sum_cons, sum_cons, ih]
  | swap x y l => rw [sum_cons, sum_cons, sum_cons, sum_cons]; grind
  | trans _ _ h1 h2 => exact h1.trans h2
theorem sum_nonneg : ∀ {qs : List Rat}, (∀ q ∈ qs, 0 ≤ q) → 0 ≤ sumQ qs
  | [], _ => by rw [sum_nil]; grind
  | q :: qs, h => by
    rw [sum_cons]
    have h1 := h q (by simp)
    have h2 := sum_nonneg (qs := qs) fun p hp => h p (by simp [hp])
    grind
theorem sum_mem : ∀ {qs : List Rat} {q : Rat}, (∀ q ∈ qs, 0 ≤ q) → q ∈ qs → q ≤ sumQ qs
  | q :: qs, p, h, hp => by
    rw [sum_cons]
    have h1 := h q (by simp)
    rcases List.mem_cons.1 hp with rfl | hp
    · have h2 := sum_nonneg (qs := qs) fun p hp => h p (by simp [hp])
      grind
    · have h2 := sum_mem (qs := qs) (fun p hp => h p (by simp [hp])) hp
      grind
/-! tables -/
theorem get_put (s : List (α × Rat)) (x y : α) (q : Rat) : get (put s x q) y = if y = x then some q else get s y := by
  unfold put
  split
  · rename_i h
    induction s with
    | nil => simp at h
    | cons kv s ih =>
      by_cases h1 : kv.1 = x
      · by_cases h2 : y = x
        · simp [get, h1, h2]
        · simp only [get, List.map_cons, h1, if_true, List.find?_cons]
          have e1 : decide (x = y) = false := by simp; exact fun z => h2 z.symm
          rw [e1]; simp only [if_neg h2]
          have : ∀ l : List (α × Rat), (List.find? (fun kv => decide (kv.1 = y)) (l.map fun kv => if kv.1 = x then (kv.1, q) else kv)) = List.find? (fun kv => decide (kv.1 = y)) l := fun l => by
            induction l with
            | nil => rfl
            | cons a l ih =>
              rw [List.map_cons]
              by_cases h3 : a.1 = x
              · simp only [h3, if_true, List.find?_cons, e1]; exact ih
              · simp only [h3, if_false, List.find?_cons]
                split
                · rfl
                · exact ih
          rw [this]
      · have h' : (s.any fun kv => decide (kv.1 = x)) = true := by simpa [h1] using h
        have ih := ih h'
        simp only [get, List.map_cons, h1, if_false, List.find?_cons] at ih ⊢
        by_cases h3 : kv.1 = y
        · simp [h3]; intro z; exact absurd (h3.trans z) h1
        · simp only [decide_eq_false h3]; exact ih
  · rename_i h
    have hn : ∀ kv ∈ s, kv.1 ≠ x := fun kv hkv e => h (List.any_eq_true.2 ⟨kv, hkv, by simpa using e⟩)
    unfold get
    rw [List.find?_append]
    by_cases h2 : y = x
    · subst h2
      have : List.find? (fun kv => decide (kv.1 = y)) s = none := List.find?_eq_none.2 fun kv hkv => by simpa using hn kv hkv
      simp [this]
    · have : decide (x = y) = false := by simp; exact fun z => h2 z.symm
      simp only [List.find?_cons, this, List.find?_nil, Option.or_none, if_neg h2]
theorem get_fold {h : Rat} : ∀ (rs : List (Row α)) (s : List (α × Rat)) (y : α), (rs.map Row.name).Nodup → get (rs.foldl (fun acc r => put acc r.name (at_ r h)) s) y = (match rs.find? (fun r => decide (r.name = y)) with | some r => some (at_ r h) | none => get s y)
  | [], s, y, _ => rfl
  | r :: rs, s, y, hn => by
    rw [List.map_cons, List.nodup_cons] at hn
    rw [List.foldl_cons, get_fold rs _ y hn.2, get_put, List.find?_cons]
    by_cases h1 : r.name = y
    · have e : rs.find? (fun r => decide (r.name = y)) = none := List.find?_eq_none.2 fun q hq => by
        simp; intro z; exact hn.1 (List.mem_map.2 ⟨q, hq, by rw [z, h1]⟩)
      rw [e]; simp [h1]
    · simp only [decide_eq_false h1]
      have : ¬ y = r.name := fun z => h1 z.symm
      rw [if_neg this]
theorem find_name {rs : List (Row α)} {p : Row α → Bool} {r : Row α} (hn : (rs.map Row.name).Nodup) (hr : r ∈ rs) : (rs.filter p).find? (fun q => decide (q.name = r.name)) = if p r = true then some r else none := by
  induction rs with
  | nil => simp at hr
  | cons q rs ih =>
    rw [List.map_cons, List.nodup_cons] at hn
    rcases List.mem_cons.1 hr with rfl | hr
    · have e : (rs.filter p).find? (fun q => decide (q.name = r.name)) = none := List.find?_eq_none.2 fun q hq => by
        simp; intro z; exact hn.1 (List.mem_map.2 ⟨q, (List.mem_filter.1 hq).1, z⟩)
      by_cases hp : p r = true
      · rw [List.filter_cons_of_pos hp, if_pos hp]; simp
      · rw [List.filter_cons_of_neg hp, if_neg hp, e]
    · have hne : q.name ≠ r.name := fun z => hn.1 (List.mem_map.2 ⟨r, hr, z.symm⟩)
      by_cases hp : p q = true
      · rw [List.filter_cons_of_pos hp, List.find?_cons, decide_eq_false hne]; exact ih hn.2 hr
      · rw [List.filter_cons_of_neg hp]; exact ih hn.2 hr
theorem nodup_filter {rs : List (Row α)} {p : Row α → Bool} (hn : (rs.map Row.name).Nodup) : ((rs.filter p).map Row.name).Nodup :=
  hn.sublist ((List.filter_sublist).map _)
theorem get_stop {N : Net α} {s : List (α × Rat)} {h : Rat} {r : Row α} (hn : (N.rows.map Row.name).Nodup) (hr : r ∈ N.rows) : get (stop N s h) r.name = if stops N s h r = true then some (at_ r h) else get s r.name := by
  unfold stop
  rw [get_fold _ _ _ (nodup_filter hn), find_name hn hr]
  split <;> rename_i e <;> split at e <;> first | (cases e; rfl) | (cases e; done) | rfl | skip
  all_goals simp_all
theorem val_stop {N : Net α} {s : List (α × Rat)} {h : Rat} {r : Row α} (hn : (N.rows.map Row.name).Nodup) (hr : r ∈ N.rows) : val (stop N s h) h r = val s h r := by
  unfold val
  rw [get_stop hn hr]
  split
  · rename_i e
    have : (get s r.name).isNone = true := by
      unfold stops at e
      simp only [Bool.and_eq_true] at e
      exact e.1
    rw [Option.isNone_iff_eq_none] at this
    rw [this]; rfl
  · rfl
theorem load_stop {N : Net α} {s : List (α × Rat)} {h : Rat} {x : α} (hn : (N.rows.map Row.name).Nodup) : load N (stop N s h) h x = load N s h x := by
  unfold load
  congr 1
  exact List.map_congr_left fun r hr => val_stop hn (List.mem_filter.1 hr).1
end Fa
end
section
namespace Fa
variable {α : Type} [DecidableEq α]
/-- a net that is in order -/
structure Ok (N : Net α) : Prop where
  nd : (N.rows.map Row.name).Nodup
  wd : (N.wires.map (·.1)).Nodup
  w1 : ∀ r ∈ N.rows, 1 ≤ r.w ∧ r.w ≤ 3
  ln : ∀ r ∈ N.rows, r.lines ≠ [] ∧ ∀ x ∈ r.lines, ∃ c, (x, c) ∈ N.wires
  hi : ∀ r ∈ N.rows, ∀ m, r.hi = some m → r.lo ≤ m ∧ m ≤ 5
  lo : ∀ r ∈ N.rows, r.lo ≤ 2
  few : N.rows.length ≤ 8
  cap : ∀ c ∈ N.wires, c.2 ≤ 64
  room : ∀ c ∈ N.wires, load N [] 0 c.1 ≤ (c.2 : Rat)
theorem wpos {N : Net α} (ok : Ok N) {r : Row α} (hr : r ∈ N.rows) : (0 : Rat) < (r.w : Rat) := Rat.natCast_pos.2 (ok.w1 r hr).1
theorem mul_div {a b : Rat} (hb : 0 < b) : b * (a / b) = a := by grind
theorem lt_lev {N : Net α} (ok : Ok N) {r : Row α} (hr : r ∈ N.rows) {h : Rat} : h < lev r ↔ (r.w : Rat) * h < (r.lo : Rat) := by
  have hw := wpos ok hr
  unfold lev
  rw [Rat.lt_div_iff hw]
  rw [Rat.mul_comm]
theorem at_lo {r : Row α} {h : Rat} : (r.lo : Rat) ≤ at_ r h := by unfold at_; split <;> grind
theorem at_w {r : Row α} {h : Rat} : (r.w : Rat) * h ≤ at_ r h := by unfold at_; split <;> grind
theorem at_cases {r : Row α} {h : Rat} : at_ r h = (r.lo : Rat) ∨ at_ r h = (r.w : Rat) * h := by unfold at_; split <;> simp
theorem at_nonneg {r : Row α} {h : Rat} : 0 ≤ at_ r h := by
  have := at_lo (r := r) (h := h)
  have h0 : (0 : Rat) ≤ (r.lo : Rat) := Rat.natCast_nonneg
  grind
def inc (s : List (α × Rat)) (h : Rat) (r : Row α) : Rat := if (get s r.name).isNone && !decide (h < lev r) then (r.w : Rat) else 0
theorem val_rise {N : Net α} (ok : Ok N) {s : List (α × Rat)} {h h' : Rat} (hh : h ≤ h') {r : Row α} (hr : r ∈ N.rows) (hl : get s r.name = none → h < lev r → h' ≤ lev r) : val s h' r = val s h r + (h' - h) * inc s h r := by
  have hw := wpos ok hr
  unfold val inc
  cases hg : get s r.name with
  | some q => simp; grind
  | none =>
    simp only [Option.getD_none, Option.isNone_none, Bool.true_and]
    by_cases hlt : h < lev r
    · have h2 := hl hg hlt
      have h3 := (lt_lev ok hr).1 hlt
      have h4 : ¬ ((r.lo : Rat) < (r.w : Rat) * h') := by
        intro z
        have : (r.w : Rat) * h' ≤ (r.w : Rat) * lev r := Rat.mul_le_mul_of_nonneg_left h2 (by grind)
        rw [show (r.w : Rat) * lev r = (r.lo : Rat) from mul_div hw] at this
        grind
      have h5 : ¬ ((r.lo : Rat) < (r.w : Rat) * h) := by grind
      simp [at_, h4, h5, hlt]; grind
    · have h3 : ¬ ((r.w : Rat) * h < (r.lo : Rat)) := fun z => hlt ((lt_lev ok hr).2 z)
      have h4 : (r.w : Rat) * h ≤ (r.w : Rat) * h' := Rat.mul_le_mul_of_nonneg_left hh (by grind)
      have e1 : at_ r h = (r.w : Rat) * h := by unfold at_; split <;> grind
      have e2 : at_ r h' = (r.w : Rat) * h' := by unfold at_; split <;> grind
      rw [e1, e2]; simp [hlt]; grind
theorem sum_rise {N : Net α} (ok : Ok N) {s : List (α × Rat)} {h h' : Rat} (hh : h ≤ h') : ∀ {rs : List (Row α)}, (∀ r ∈ rs, r ∈ N.rows ∧ (get s r.name = none → h < lev r → h' ≤ lev r)) →
    sumQ (rs.map (val s h')) = sumQ (rs.map (val s h)) + (h' - h) * sumQ (rs.map (inc s h))
  | [], _ => by simp [sum_nil]; grind
  | r :: rs, hs => by
    rw [List.map_cons, List.map_cons, List.map_cons, sum_cons, sum_cons, sum_cons, sum_rise ok hh (rs := rs) fun q hq => hs q (by simp [hq]), val_rise ok hh (hs r (by simp)).1 (hs r (by simp)).2]
    grind
theorem inc_sum {N : Net α} {s : List (α × Rat)} {h : Rat} {x : α} : ∀ {rs : List (Row α)}, sumQ ((rs.filter (onL x)).map (inc s h)) = (wsum (rs.filter fun r => onL x r && (get s r.name).isNone && !decide (h < lev r)) : Rat)
  | [] => by simp [sum_nil, wsum]
  | r :: rs => by
    have ih := inc_sum (N := N) (s := s) (h := h) (x := x) (rs := rs)
    by_cases h1 : onL x r = true
    · rw [List.filter_cons_of_pos h1, List.map_cons, sum_cons, ih]
      by_cases h2 : ((get s r.name).isNone && !decide (h < lev r)) = true
      · rw [List.filter_cons_of_pos (by rw [Bool.and_assoc, h1, h2]; rfl)]
        unfold inc wsum
        rw [if_pos h2, List.map_cons, List.sum_cons, Rat.natCast_add]
      · rw [List.filter_cons_of_neg (by rw [Bool.and_assoc, h1]; simpa using h2)]
        unfold inc
        rw [if_neg h2]; grind
    · rw [List.filter_cons_of_neg h1, ih, List.filter_cons_of_neg (by simp [h1])]
theorem load_rise {N : Net α} (ok : Ok N) {s : List (α × Rat)} {h h' : Rat} {x : α} (hh : h ≤ h') (hl : ∀ r ∈ N.rows, get s r.name = none → h < lev r → h' ≤ lev r) : load N s h' x = load N s h x + (h' - h) * (wsum (rising N s h x) : Rat) := by
  unfold load rising
  rw [sum_rise ok hh fun r hr => ⟨(List.mem_filter.1 hr).1, hl r (List.mem_filter.1 hr).1⟩, inc_sum (N := N)]
/-- what holds from turn to turn -/
structure Inv (N : Net α) (s : List (α × Rat)) (h : Rat) : Prop where
  h0 : 0 ≤ h
  ld : ∀ c ∈ N.wires, load N s h c.1 ≤ (c.2 : Rat)
  tp : ∀ r ∈ N.rows, get s r.name = none → ∀ m, r.hi = some m → at_ r h ≤ (m : Rat)
  nn : ∀ x q, get s x = some q → 0 ≤ q
theorem val_nonneg {N : Net α} {s : List (α × Rat)} {h : Rat} (I : Inv N s h) (r : Row α) : 0 ≤ val s h r := by
  unfold val
  cases e : get s r.name with
  | none => exact at_nonneg
  | some q => exact I.nn _ q e
theorem val_le {N : Net α} (ok : Ok N) {s : List (α × Rat)} {h : Rat} (I : Inv N s h) {r : Row α} (hr : r ∈ N.rows) : val s h r ≤ 64 := by
  obtain ⟨hne, hx⟩ := ok.ln r hr
  obtain ⟨x, hxm⟩ := List.exists_mem_of_ne_nil _ hne
  obtain ⟨c, hc⟩ := hx x hxm
  have h1 := I.ld _ hc
  have h2 : val s h r ≤ load N s h x := by
    unfold load
    refine sum_mem (fun q hq => ?_) (List.mem_map.2 ⟨r, List.mem_filter.2 ⟨hr, by simpa [onL] using hxm⟩, rfl⟩)
    obtain ⟨r', _, rfl⟩ := List.mem_map.1 hq
    exact val_nonneg I r'
  have h3 : ((c : Nat) : Rat) ≤ 64 := by
    have := ok.cap _ hc
    have h4 : ((c : Nat) : Rat) ≤ ((64 : Nat) : Rat) := Rat.natCast_le_natCast.2 this
    simpa using h4
  dsimp only at h1
  grind
theorem inv0 {N : Net α} (ok : Ok N) : Inv N [] 0 where
  h0 := by grind
  ld := ok.room
  tp := fun r hr _ m hm => by
    have h1 := (ok.hi r hr m hm).1
    have h2 : (r.lo : Rat) ≤ (m : Rat) := Rat.natCast_le_natCast.2 h1
    have h0 : (0 : Rat) ≤ (r.lo : Rat) := Rat.natCast_nonneg
    have : at_ r 0 = (r.lo : Rat) := by unfold at_; rw [if_neg (by rw [Rat.mul_zero]; grind)]
    rw [this]; exact h2
  nn := fun x q h => by simp [get] at h
theorem inv_stop {N : Net α} (ok : Ok N) {s : List (α × Rat)} {h : Rat} (I : Inv N s h) (hk : ∀ x q, get s x = some q → ∃ r ∈ N.rows, r.name = x) : Inv N (stop N s h) h ∧ ∀ x q, get (stop N s h) x = some q → ∃ r ∈ N.rows, r.name = x := by
  have keys : ∀ x q, get (stop N s h) x = some q → ∃ r ∈ N.rows, r.name = x := fun x q e => by
    unfold stop at e
    rw [get_fold _ _ _ (nodup_filter ok.nd)] at e
    split at e
    · rename_i r hr
      have := List.find?_some hr
      exact ⟨r, (List.mem_filter.1 (List.mem_of_find?_eq_some hr)).1, by simpa using this⟩
    · exact hk x q e
  refine ⟨⟨I.h0, fun c hc => by rw [load_stop ok.nd]; exact I.ld c hc, fun r hr hg m hm => ?_, fun x q e => ?_⟩, keys⟩
  · rw [get_stop ok.nd hr] at hg
    split at hg
    · cases hg
    · exact I.tp r hr hg m hm
  · obtain ⟨r, hr, rfl⟩ := keys x q e
    rw [get_stop ok.nd hr] at e
    split at e
    · cases e; exact at_nonneg
    · exact I.nn _ q e
/-- nobody who goes on is at an end -/
structure Calm (N : Net α) (s : List (α × Rat)) (h : Rat) : Prop where
  ln : ∀ r ∈ N.rows, get s r.name = none → ∀ c ∈ N.wires, c.1 ∈ r.lines → load N s h c.1 ≠ (c.2 : Rat)
  tp : ∀ r ∈ N.rows, get s r.name = none → ∀ m, r.hi = some m → at_ r h ≠ (m : Rat)
theorem calm_stop {N : Net α} (ok : Ok N) {s : List (α × Rat)} {h : Rat} : Calm N (stop N s h) h := by
  have key : ∀ r ∈ N.rows, get (stop N s h) r.name = none → full N s h r = false ∧ most r h = false := fun r hr hg => by
    rw [get_stop ok.nd hr] at hg
    split at hg
    · cases hg
    · rename_i hs
      unfold stops at hs
      rw [hg] at hs
      simp at hs
      exact hs
  refine ⟨fun r hr hg c hc hx e => ?_, fun r hr hg m hm e => ?_⟩
  · have h1 := (key r hr hg).1
    rw [load_stop ok.nd] at e
    have : full N s h r = true := by
      unfold full
      refine List.any_eq_true.2 ⟨c.1, hx, List.any_eq_true.2 ⟨c, hc, ?_⟩⟩
      simp [e]
    rw [this] at h1; cases h1
  · have h1 := (key r hr hg).2
    unfold most at h1
    rw [hm] at h1
    simp at h1
    exact h1 e
end Fa
end
section
namespace Fa
variable {α : Type} [DecidableEq α]
def later (N : Net α) (s : List (α × Rat)) (h : Rat) : List Rat := (events N s h).filter fun e => decide (h < e)
theorem wsum_pos {N : Net α} (ok : Ok N) {rs : List (Row α)} (hs : ∀ r ∈ rs, r ∈ N.rows) (h0 : rs ≠ []) : 0 < wsum rs := by
  cases rs with
  | nil => exact absurd rfl h0
  | cons r rs =>
    have := (ok.w1 r (hs r (by simp))).1
    unfold wsum
    rw [List.map_cons, List.sum_cons]; omega
theorem wsum_le : ∀ {rs : List (Row α)}, (∀ r ∈ rs, r.w ≤ 3) → wsum rs ≤ 3 * rs.length
  | [], _ => by simp [wsum]
  | r :: rs, h => by
    have h1 := h r (by simp)
    have h2 := wsum_le (rs := rs) fun q hq => h q (by simp [hq])
    unfold wsum at *
    rw [List.map_cons, List.sum_cons, List.length_cons]; omega
theorem rising_sub {N : Net α} {s : List (α × Rat)} {h : Rat} {x : α} : ∀ r ∈ rising N s h x, r ∈ N.rows := fun r hr => (List.mem_filter.1 hr).1
theorem mem_events {N : Net α} {s : List (α × Rat)} {h e : Rat} : e ∈ events N s h ↔ (∃ r ∈ N.rows, get s r.name = none ∧ e ∈ evR r) ∨ ∃ c ∈ N.wires, e ∈ evL N s h c := by
  unfold events
  rw [List.mem_append, List.mem_flatMap, List.mem_flatMap]
  constructor
  · rintro (⟨r, hr, he⟩ | h)
    · obtain ⟨h1, h2⟩ := List.mem_filter.1 hr
      exact .inl ⟨r, h1, by simpa using h2, he⟩
    · exact .inr h
  · rintro (⟨r, hr, h2, he⟩ | h)
    · exact .inl ⟨r, List.mem_filter.2 ⟨hr, by simpa using h2⟩, he⟩
    · exact .inr h
theorem mem_later {N : Net α} {s : List (α × Rat)} {h e : Rat} : e ∈ later N s h ↔ e ∈ events N s h ∧ h < e := by
  unfold later; rw [List.mem_filter]; simp
theorem lev_later {N : Net α} {s : List (α × Rat)} {h : Rat} {r : Row α} (hr : r ∈ N.rows) (hg : get s r.name = none) (hl : h < lev r) : lev r ∈ later N s h :=
  mem_later.2 ⟨mem_events.2 (.inl ⟨r, hr, hg, by simp [evR]⟩), hl⟩
theorem line_later {N : Net α} (ok : Ok N) {s : List (α × Rat)} {h : Rat} (I : Inv N s h) (C : Calm N s h) {c : α × Nat} (hc : c ∈ N.wires) (h0 : rising N s h c.1 ≠ []) : h + ((c.2 : Rat) - load N s h c.1) / (wsum (rising N s h c.1) : Rat) ∈ later N s h := by
  have hW : (0 : Rat) < (wsum (rising N s h c.1) : Rat) := Rat.natCast_pos.2 (wsum_pos ok rising_sub h0)
  refine mem_later.2 ⟨mem_events.2 (.inr ⟨c, hc, by unfold evL; rw [if_neg h0]; simp⟩), ?_⟩
  obtain ⟨r, hr⟩ := List.exists_mem_of_ne_nil _ h0
  obtain ⟨h1, h2⟩ := List.mem_filter.1 hr
  simp only [Bool.and_eq_true] at h2
  have hg : get s r.name = none := by simpa using h2.1.2
  have hx : c.1 ∈ r.lines := by simpa [onL] using h2.1.1
  have h3 := C.ln r h1 hg c hc hx
  have h4 := I.ld c hc
  have h5 : 0 < (c.2 : Rat) - load N s h c.1 := by grind
  have h6 : 0 < ((c.2 : Rat) - load N s h c.1) / (wsum (rising N s h c.1) : Rat) := by
    rw [Rat.div_def]; exact Rat.mul_pos h5 (Rat.inv_pos.2 hW)
  grind
theorem later_ne {N : Net α} (ok : Ok N) {s : List (α × Rat)} {h : Rat} (I : Inv N s h) (C : Calm N s h) {r : Row α} (hr : r ∈ N.rows) (hg : get s r.name = none) : later N s h ≠ [] := by
  by_cases hl : h < lev r
  · exact List.ne_nil_of_mem (lev_later hr hg hl)
  · obtain ⟨hne, hx⟩ := ok.ln r hr
    obtain ⟨x, hxm⟩ := List.exists_mem_of_ne_nil _ hne
    obtain ⟨c, hc⟩ := hx x hxm
    have : rising N s h x ≠ [] := List.ne_nil_of_mem (List.mem_filter.2 ⟨hr, by simp [onL, hxm, hg, hl]⟩)
    exact List.ne_nil_of_mem (line_later ok I C hc this)
theorem inv_next {N : Net α} (ok : Ok N) {s : List (α × Rat)} {h h' : Rat} (I : Inv N s h) (C : Calm N s h) (hm : h' ∈ later N s h) (hmin : ∀ e ∈ later N s h, h' ≤ e) :
    Inv N s h' ∧ h < h' ∧ ((∃ r ∈ N.rows, get s r.name = none ∧ h < lev r ∧ ¬ h' < lev r) ∨ ∃ r ∈ N.rows, stops N s h' r = true) := by
  obtain ⟨he, hlt⟩ := mem_later.1 hm
  have hle : h ≤ h' := Rat.le_of_lt hlt
  have hl : ∀ r ∈ N.rows, get s r.name = none → h < lev r → h' ≤ lev r := fun r hr hg z => hmin _ (lev_later hr hg z)
  have key : ∀ c ∈ N.wires, load N s h' c.1 = load N s h c.1 + (h' - h) * (wsum (rising N s h c.1) : Rat) := fun c hc => load_rise ok hle hl
  refine ⟨⟨by have := I.h0; grind, fun c hc => ?_, fun r hr hg m hm' => ?_, I.nn⟩, hlt, ?_⟩
  · rw [key c hc]
    by_cases h0 : rising N s h c.1 = []
    · rw [h0]
      have := I.ld c hc
      simp [wsum]; grind
    · have hW : (0 : Rat) < (wsum (rising N s h c.1) : Rat) := Rat.natCast_pos.2 (wsum_pos ok rising_sub h0)
      have h1 := hmin _ (line_later ok I C hc h0)
      have h2 : (h' - h) * (wsum (rising N s h c.1) : Rat) ≤ ((c.2 : Rat) - load N s h c.1) / (wsum (rising N s h c.1) : Rat) * (wsum (rising N s h c.1) : Rat) := Rat.mul_le_mul_of_nonneg_right (by grind) (by grind)
      rw [show ((c.2 : Rat) - load N s h c.1) / (wsum (rising N s h c.1) : Rat) * (wsum (rising N s h c.1) : Rat) = (c.2 : Rat) - load N s h c.1 by grind] at h2
      grind
  · have hw := wpos ok hr
    have h1 := I.tp r hr hg m hm'
    have h2 := C.tp r hr hg m hm'
    have h3 : (r.w : Rat) * h < (m : Rat) := by have := at_w (r := r) (h := h); grind
    have h4 : h < (m : Rat) / (r.w : Rat) := by rw [Rat.lt_div_iff hw, Rat.mul_comm]; exact h3
    have h5 := hmin _ (mem_later.2 ⟨mem_events.2 (.inl ⟨r, hr, hg, by simp [evR, hm']⟩), h4⟩)
    have h6 : (r.w : Rat) * h' ≤ (r.w : Rat) * ((m : Rat) / (r.w : Rat)) := Rat.mul_le_mul_of_nonneg_left h5 (by grind)
    rw [mul_div hw] at h6
    have h7 : (r.lo : Rat) ≤ (m : Rat) := Rat.natCast_le_natCast.2 (ok.hi r hr m hm').1
    rcases at_cases (r := r) (h := h') with e | e <;> rw [e] <;> assumption
  · rcases mem_events.1 he with ⟨r, hr, hg, he⟩ | ⟨c, hc, he⟩
    · have hw := wpos ok hr
      unfold evR at he
      rcases List.mem_cons.1 he with e | he
      · exact .inl ⟨r, hr, hg, by rw [← e]; exact hlt, by rw [e]; exact Rat.lt_irrefl⟩
      · cases hm' : r.hi with
        | none => rw [hm'] at he; simp at he
        | some m =>
          rw [hm'] at he
          have e : h' = (m : Rat) / (r.w : Rat) := by simpa using he
          refine .inr ⟨r, hr, ?_⟩
          have h7 : (r.lo : Rat) ≤ (m : Rat) := Rat.natCast_le_natCast.2 (ok.hi r hr m hm').1
          have h8 : (r.w : Rat) * h' = (m : Rat) := by rw [e]; exact mul_div hw
          have h9 : at_ r h' = (m : Rat) := by unfold at_; rw [h8]; split <;> grind
          unfold stops most
          rw [hg, hm']; simp [h9]
    · unfold evL at he
      split at he
      · simp at he
      · rename_i h0
        have e : h' = h + ((c.2 : Rat) - load N s h c.1) / (wsum (rising N s h c.1) : Rat) := by simpa using he
        have hW : (0 : Rat) < (wsum (rising N s h c.1) : Rat) := Rat.natCast_pos.2 (wsum_pos ok rising_sub h0)
        obtain ⟨r, hr⟩ := List.exists_mem_of_ne_nil _ h0
        obtain ⟨h1, h2⟩ := List.mem_filter.1 hr
        simp only [Bool.and_eq_true] at h2
        have hg : get s r.name = none := by simpa using h2.1.2
        have hx : c.1 ∈ r.lines := by simpa [onL] using h2.1.1
        refine .inr ⟨r, h1, ?_⟩
        have hf : load N s h' c.1 = (c.2 : Rat) := by
          rw [key c hc, e]
          grind
        have : full N s h' r = true := by
          unfold full
          exact List.any_eq_true.2 ⟨c.1, hx, List.any_eq_true.2 ⟨c, hc, by simp [hf]⟩⟩
        unfold stops
        rw [hg, this]; rfl
/-! how many turns -/
def nUn (N : Net α) (s : List (α × Rat)) : Nat := (N.rows.filter fun r => (get s r.name).isNone).length
def nLow (N : Net α) (s : List (α × Rat)) (h : Rat) : Nat := (N.rows.filter fun r => (get s r.name).isNone && decide (h < lev r)).length
def P (N : Net α) (s : List (α × Rat)) (h : Rat) : Nat := 2 * nUn N s + nLow N s h + (if N.rows.any (stops N s h) = true then 0 else 1)
theorem filt_le {β : Type} {p q : β → Bool} : ∀ {l : List β}, (∀ x ∈ l, p x = true → q x = true) → (l.filter p).length ≤ (l.filter q).length
  | [], _ => by simp
  | x :: l, h => by
    have ih := filt_le (p := p) (q := q) (l := l) fun y hy => h y (by simp [hy])
    by_cases hp : p x = true
    · rw [List.filter_cons_of_pos hp, List.filter_cons_of_pos (h x (by simp) hp), List.length_cons, List.length_cons]; omega
    · rw [List.filter_cons_of_neg hp]
      by_cases hq : q x = true
      · rw [List.filter_cons_of_pos hq, List.length_cons]; omega
      · rw [List.filter_cons_of_neg hq]; exact ih
theorem filt_lt {β : Type} {p q : β → Bool} : ∀ {l : List β}, (∀ x ∈ l, p x = true → q x = true) → (∃ x ∈ l, q x = true ∧ p x = false) → (l.filter p).length < (l.filter q).length
  | [], _, ⟨_, h, _⟩ => by simp at h
  | x :: l, h, ⟨y, hy, h1, h2⟩ => by
    have hle := filt_le (p := p) (q := q) (l := l) fun y hy => h y (by simp [hy])
    rcases List.mem_cons.1 hy with rfl | hy
    · rw [List.filter_cons_of_neg (by rw [h2]; simp), List.filter_cons_of_pos h1, List.length_cons]; omega
    · have ih := filt_lt (p := p) (q := q) (l := l) (fun y hy => h y (by simp [hy])) ⟨y, hy, h1, h2⟩
      by_cases hp : p x = true
      · rw [List.filter_cons_of_pos hp, List.filter_cons_of_pos (h x (by simp) hp), List.length_cons, List.length_cons]; omega
      · rw [List.filter_cons_of_neg hp]
        by_cases hq : q x = true
        · rw [List.filter_cons_of_pos hq, List.length_cons]; omega
        · rw [List.filter_cons_of_neg hq]; exact ih
theorem get_stop_none {N : Net α} (ok : Ok N) {s : List (α × Rat)} {h : Rat} {r : Row α} (hr : r ∈ N.rows) (hg : get (stop N s h) r.name = none) : get s r.name = none := by
  rw [get_stop ok.nd hr] at hg
  split at hg
  · cases hg
  · exact hg
theorem P_less {N : Net α} (ok : Ok N) {s : List (α × Rat)} {h h' : Rat} (I : Inv N s h) (hk : ∀ x q, get s x = some q → ∃ r ∈ N.rows, r.name = x) (hm : h' ∈ later N (stop N s h) h) (hmin : ∀ e ∈ later N (stop N s h) h, h' ≤ e) : P N (stop N s h) h' < P N s h := by
  obtain ⟨I1, _⟩ := inv_stop ok I hk
  obtain ⟨I2, hlt, pr⟩ := inv_next ok I1 (calm_stop ok) hm hmin
  have hb : nLow N (stop N s h) h' ≤ nLow N s h := filt_le fun r hr hp => by
    simp only [Bool.and_eq_true, decide_eq_true_eq, Option.isNone_iff_eq_none] at hp ⊢
    exact ⟨get_stop_none ok hr hp.1, by have := hp.2; grind⟩
  have ha : nUn N (stop N s h) ≤ nUn N s := filt_le fun r hr hp => by
    simp only [Option.isNone_iff_eq_none] at hp ⊢
    exact get_stop_none ok hr hp
  unfold P
  by_cases hs : N.rows.any (stops N s h) = true
  · rw [if_pos hs]
    have : nUn N (stop N s h) < nUn N s := by
      obtain ⟨r, hr, hr2⟩ := List.any_eq_true.1 hs
      refine filt_lt (fun r hr hp => ?_) ⟨r, hr, ?_, ?_⟩
      · simp only [Option.isNone_iff_eq_none] at hp ⊢
        exact get_stop_none ok hr hp
      · unfold stops at hr2
        simp only [Bool.and_eq_true] at hr2
        exact hr2.1
      · rw [get_stop ok.nd hr, if_pos hr2]; rfl
    split <;> omega
  · rw [if_neg hs]
    have hf : ∀ r ∈ N.rows, stops N s h r = false := fun r hr => by
      cases e : stops N s h r with
      | false => rfl
      | true => exact absurd (List.any_eq_true.2 ⟨r, hr, e⟩) hs
    have e : stop N s h = s := by
      unfold stop
      rw [List.filter_eq_nil_iff.2 fun r hr => by rw [hf r hr]; simp]
      rfl
    rw [e] at pr hb ⊢
    rcases pr with ⟨r, hr, hg, h1, h2⟩ | ⟨r, hr, hr2⟩
    · have : nLow N s h' < nLow N s h := by
        refine filt_lt (fun r hr hp => ?_) ⟨r, hr, by simp [hg, h1], by simp [hg, h2]⟩
        simp only [Bool.and_eq_true, decide_eq_true_eq] at hp ⊢
        exact ⟨hp.1, by have := hp.2; grind⟩
      split <;> omega
    · rw [if_pos (List.any_eq_true.2 ⟨r, hr, hr2⟩)]; omega
theorem P_bd {N : Net α} (ok : Ok N) {s : List (α × Rat)} {h : Rat} : P N s h ≤ 25 := by
  have h1 : nUn N s ≤ N.rows.length := List.length_filter_le _ _
  have h2 : nLow N s h ≤ N.rows.length := List.length_filter_le _ _
  have := ok.few
  unfold P; split <;> omega
/-! dens -/
structure Dn (k : Nat) (s : List (α × Rat)) (h : Rat) : Prop where
  h : DenL k h
  s : ∀ x q, get s x = some q → DenL k q
theorem DenL.nat {k : Nat} (i : Nat) : DenL k (i : Rat) := by rw [← Rat.intCast_natCast]; exact DenL.int _
theorem DenL.nmul {k : Nat} {p : Rat} (i : Nat) (hp : DenL k p) : DenL k ((i : Rat) * p) := by rw [← Rat.intCast_natCast]; exact hp.imul _
theorem DenL.sum {k : Nat} : ∀ {qs : List Rat}, (∀ q ∈ qs, DenL k q) → DenL k (sumQ qs)
  | [], _ => by rw [sum_nil]; exact (DenL.nat 0 : DenL k ((0 : Nat) : Rat))
  | q :: qs, h => by rw [sum_cons]; exact (h q (by simp)).add (DenL.sum fun p hp => h p (by simp [hp]))
theorem den_at {k : Nat} {r : Row α} {h : Rat} (hh : DenL k h) : DenL k (at_ r h) := by
  rcases at_cases (r := r) (h := h) with e | e <;> rw [e]
  · exact .nat _
  · exact hh.nmul _
theorem den_val {k : Nat} {s : List (α × Rat)} {h : Rat} (d : Dn k s h) (r : Row α) : DenL k (val s h r) := by
  unfold val
  cases e : get s r.name with
  | none => exact den_at d.h
  | some q => exact d.s _ q e
theorem den_load {k : Nat} {N : Net α} {s : List (α × Rat)} {h : Rat} (d : Dn k s h) (x : α) : DenL k (load N s h x) := by
  unfold load
  exact DenL.sum fun q hq => by obtain ⟨r, _, rfl⟩ := List.mem_map.1 hq; exact den_val d r
theorem dn_stop {k : Nat} {N : Net α} (ok : Ok N) {s : List (α × Rat)} {h : Rat} (d : Dn k s h) : Dn k (stop N s h) h where
  h := d.h
  s := fun x q e => by
    unfold stop at e
    rw [get_fold _ _ _ (nodup_filter ok.nd)] at e
    split at e
    · cases e; exact den_at d.h
    · exact d.s x q e
theorem wsum24 {N : Net α} (ok : Ok N) {s : List (α × Rat)} {h : Rat} {x : α} : wsum (rising N s h x) ≤ 24 := by
  have h1 := wsum_le (rs := rising N s h x) fun r hr => (ok.w1 r (rising_sub r hr)).2
  have h2 : (rising N s h x).length ≤ N.rows.length := List.length_filter_le _ _
  have := ok.few
  omega
theorem den_event {k : Nat} {N : Net α} (ok : Ok N) {s : List (α × Rat)} {h e : Rat} (d : Dn k s h) (he : e ∈ events N s h) : DenL (k + 1) e := by
  rcases mem_events.1 he with ⟨r, hr, hg, he⟩ | ⟨c, hc, he⟩
  · have hw := ok.w1 r hr
    have q : ∀ n : Nat, DenL (k + 1) ((n : Rat) / (r.w : Rat)) := fun n => (DenL.nat (k := k) n).div (by omega) (small_dvd _ (by omega) (by omega))
    unfold evR at he
    rcases List.mem_cons.1 he with rfl | he
    · exact q _
    · cases hm : r.hi with
      | none => rw [hm] at he; simp at he
      | some m => rw [hm] at he; rw [List.mem_singleton.1 he]; exact q _
  · unfold evL at he
    split at he
    · simp at he
    · rename_i h0
      rw [List.mem_singleton.1 he]
      exact (d.h.mono (by omega)).add (((DenL.nat _).sub (den_load d _)).div (wsum_pos ok rising_sub h0) (small_dvd _ (wsum_pos ok rising_sub h0) (wsum24 ok)))
theorem Dn.mono {k j : Nat} {s : List (α × Rat)} {h : Rat} (d : Dn k s h) (hk : k ≤ j) : Dn j s h := ⟨d.h.mono hk, fun x q e => (d.s x q e).mono hk⟩
/-- bounds of what is met -/
theorem h_le {N : Net α} (ok : Ok N) {s : List (α × Rat)} {h : Rat} (I : Inv N s h) {r : Row α} (hr : r ∈ N.rows) (hg : get s r.name = none) : h ≤ 64 := by
  have h1 := val_le ok I hr
  unfold val at h1
  rw [hg] at h1
  have h2 := at_w (r := r) (h := h)
  have hw := (ok.w1 r hr).1
  have h3 : (1 : Rat) ≤ (r.w : Rat) := by
    have : ((1 : Nat) : Rat) ≤ (r.w : Rat) := Rat.natCast_le_natCast.2 hw
    simpa using this
  have h4 : 1 * h ≤ (r.w : Rat) * h := Rat.mul_le_mul_of_nonneg_right h3 I.h0
  simp at h1
  grind
theorem cap64 {N : Net α} (ok : Ok N) {c : α × Nat} (hc : c ∈ N.wires) : (c.2 : Rat) ≤ 64 := by
  have h4 : ((c.2 : Nat) : Rat) ≤ ((64 : Nat) : Rat) := Rat.natCast_le_natCast.2 (ok.cap _ hc)
  simpa using h4
theorem div_le_self {a : Rat} {n : Nat} (ha : 0 ≤ a) (hn : 0 < n) : a / (n : Rat) ≤ a := by
  have h1 : (1 : Rat) ≤ (n : Rat) := by
    have : ((1 : Nat) : Rat) ≤ (n : Rat) := Rat.natCast_le_natCast.2 hn
    simpa using this
  have h0 : (0 : Rat) < (n : Rat) := by grind
  have h2 : a / (n : Rat) * 1 ≤ a / (n : Rat) * (n : Rat) := Rat.mul_le_mul_of_nonneg_left h1 (by rw [Rat.div_def]; exact Rat.mul_nonneg ha (Rat.le_of_lt (Rat.inv_pos.2 h0)))
  rw [Rat.mul_one, Rat.div_mul_cancel (by grind)] at h2
  exact h2
theorem div_nonneg {a : Rat} {n : Nat} (ha : 0 ≤ a) (hn : 0 < n) : 0 ≤ a / (n : Rat) := by
  rw [Rat.div_def]
  exact Rat.mul_nonneg ha (Rat.le_of_lt (Rat.inv_pos.2 (Rat.natCast_pos.2 hn)))
theorem event_bd {N : Net α} (ok : Ok N) {s : List (α × Rat)} {h e : Rat} (I : Inv N s h) (he : e ∈ events N s h) : 0 ≤ e ∧ e ≤ 200 := by
  rcases mem_events.1 he with ⟨r, hr, hg, he⟩ | ⟨c, hc, he⟩
  · have hw := ok.w1 r hr
    have q : ∀ n : Nat, n ≤ 5 → 0 ≤ (n : Rat) / (r.w : Rat) ∧ (n : Rat) / (r.w : Rat) ≤ 200 := fun n hn => by
      have h1 := div_le_self (a := (n : Rat)) Rat.natCast_nonneg (show 0 < r.w by omega)
      have h2 : ((n : Nat) : Rat) ≤ ((5 : Nat) : Rat) := Rat.natCast_le_natCast.2 hn
      have h3 : ((5 : Nat) : Rat) = 5 := rfl
      exact ⟨div_nonneg Rat.natCast_nonneg (by omega), by grind⟩
    unfold evR at he
    rcases List.mem_cons.1 he with rfl | he
    · exact q _ (by have := ok.lo r hr; omega)
    · cases hm : r.hi with
      | none => rw [hm] at he; simp at he
      | some m => rw [hm] at he; rw [List.mem_singleton.1 he]; exact q _ (ok.hi r hr m hm).2
  · unfold evL at he
    split at he
    · simp at he
    · rename_i h0
      rw [List.mem_singleton.1 he]
      have hp := wsum_pos ok rising_sub h0
      obtain ⟨r, hr⟩ := List.exists_mem_of_ne_nil _ h0
      obtain ⟨h1, h2⟩ := List.mem_filter.1 hr
      simp only [Bool.and_eq_true] at h2
      have hg : get s r.name = none := by simpa using h2.1.2
      have a1 := h_le ok I h1 hg
      have a2 := I.h0
      have a3 := I.ld c hc
      have a4 := cap64 ok hc
      have a5 : 0 ≤ load N s h c.1 := by
        unfold load
        exact sum_nonneg fun q hq => by obtain ⟨r, _, rfl⟩ := List.mem_map.1 hq; exact val_nonneg I r
      have a6 : 0 ≤ (c.2 : Rat) - load N s h c.1 := by grind
      have a7 := div_le_self a6 hp
      have a8 := div_nonneg a6 hp
      exact ⟨by grind, by grind⟩
/-- the least of some -/
def minQ (a : Rat) (l : List Rat) : Rat := l.foldl (fun a e => if e < a then e else a) a
theorem minQ_spec : ∀ (l : List Rat) (a : Rat), (minQ a l = a ∨ minQ a l ∈ l) ∧ minQ a l ≤ a ∧ ∀ e ∈ l, minQ a l ≤ e
  | [], a => ⟨.inl rfl, Rat.le_refl, by simp⟩
  | x :: l, a => by
    have ih := minQ_spec l (if x < a then x else a)
    have e : minQ a (x :: l) = minQ (if x < a then x else a) l := rfl
    rw [e]
    obtain ⟨h1, h2, h3⟩ := ih
    by_cases hx : x < a
    · rw [if_pos hx] at h1 h2 h3 ⊢
      refine ⟨.inr (by rcases h1 with h | h <;> simp [h]), by grind, fun y hy => ?_⟩
      rcases List.mem_cons.1 hy with rfl | hy
      · exact h2
      · exact h3 y hy
    · rw [if_neg hx] at h1 h2 h3 ⊢
      refine ⟨by rcases h1 with h | h <;> simp [h], h2, fun y hy => ?_⟩
      rcases List.mem_cons.1 hy with rfl | hy
      · grind
      · exact h3 y hy
theorem minQ_mem {l : List Rat} {a : Rat} (ha : a ∈ l) : minQ a l ∈ l ∧ ∀ e ∈ l, minQ a l ≤ e := by
  obtain ⟨h1, h2, h3⟩ := minQ_spec l a
  exact ⟨h1.elim (fun e => by rw [e]; exact ha) id, h3⟩
/-! all are stopped: by the table's length -/
theorem len_sub {β : Type} [DecidableEq β] : ∀ {l m : List β}, l.Nodup → (∀ x ∈ l, x ∈ m) → l.length ≤ m.length
  | [], _, _, _ => by simp
  | x :: l, m, hn, hs => by
    rw [List.nodup_cons] at hn
    have hx : x ∈ m := hs x (by simp)
    have ih := len_sub (l := l) (m := m.erase x) hn.2 fun y hy => (List.mem_erase_of_ne (fun e => hn.1 (by rw [← e]; exact hy))).2 (hs y (by simp [hy]))
    rw [List.length_erase_of_mem hx] at ih
    have : 0 < m.length := List.length_pos_of_mem hx
    rw [List.length_cons]; omega
theorem get_none {s : List (α × Rat)} {x : α} : get s x = none ↔ x ∉ s.map (·.1) := by
  unfold get
  rw [Option.map_eq_none_iff, List.find?_eq_none, List.mem_map]
  constructor
  · rintro h ⟨kv, hkv, rfl⟩; simpa using h kv hkv
  · intro h kv hkv; simp; exact fun e => h ⟨kv, hkv, e⟩
structure Tab (N : Net α) (s : List (α × Rat)) : Prop where
  nd : (s.map (·.1)).Nodup
  ks : ∀ x ∈ s.map (·.1), ∃ r ∈ N.rows, r.name = x
theorem Tab.keys {N : Net α} {s : List (α × Rat)} (t : Tab N s) : ∀ x q, get s x = some q → ∃ r ∈ N.rows, r.name = x := fun x q e => t.ks x (by
  cases Classical.em (x ∈ s.map (·.1)) with
  | inl h => exact h
  | inr h => rw [get_none.2 h] at e; cases e)
theorem put_keys {s : List (α × Rat)} {x : α} {q : Rat} : (put s x q).map (·.1) = if x ∈ s.map (·.1) then s.map (·.1) else s.map (·.1) ++ [x] := by
  unfold put
  by_cases h : (s.any fun kv => decide (kv.1 = x)) = true
  · rw [if_pos h, if_pos (by obtain ⟨kv, h1, h2⟩ := List.any_eq_true.1 h; exact List.mem_map.2 ⟨kv, h1, by simpa using h2⟩)]
    rw [List.map_map]
    exact List.map_congr_left fun kv _ => by dsimp only [Function.comp]; split <;> rfl
  · rw [if_neg h, if_neg (by rintro hx; obtain ⟨kv, h1, h2⟩ := List.mem_map.1 hx; exact h (List.any_eq_true.2 ⟨kv, h1, by simpa using h2⟩))]
    simp
theorem tab_put {N : Net α} {s : List (α × Rat)} (t : Tab N s) {r : Row α} (hr : r ∈ N.rows) {q : Rat} : Tab N (put s r.name q) := by
  refine ⟨?_, fun x hx => ?_⟩
  · rw [put_keys]
    split
    · exact t.nd
    · rename_i h
      rw [List.nodup_append]
      exact ⟨t.nd, by simp, fun a ha b hb e => h (by rw [List.mem_singleton.1 hb] at e; rw [← e]; exact ha)⟩
  · rw [put_keys] at hx
    split at hx
    · exact t.ks x hx
    · rcases List.mem_append.1 hx with hx | hx
      · exact t.ks x hx
      · exact ⟨r, hr, (List.mem_singleton.1 hx).symm⟩
theorem tab_stop {N : Net α} {s : List (α × Rat)} {h : Rat} (t : Tab N s) : Tab N (stop N s h) := by
  unfold stop
  have : ∀ (rs : List (Row α)) (s : List (α × Rat)), (∀ r ∈ rs, r ∈ N.rows) → Tab N s → Tab N (rs.foldl (fun acc r => put acc r.name (at_ r h)) s) := by
    intro rs
    induction rs with
    | nil => intro s _ t; exact t
    | cons r rs ih => intro s hs t; exact ih _ (fun q hq => hs q (by simp [hq])) (tab_put t (hs r (by simp)))
  exact this _ _ (fun r hr => (List.mem_filter.1 hr).1) t
theorem tab0 {N : Net α} : Tab N ([] : List (α × Rat)) := ⟨by simp, by simp⟩
theorem tab_less {N : Net α} (ok : Ok N) {s : List (α × Rat)} (t : Tab N s) : s.length < N.rows.length ↔ ∃ r ∈ N.rows, get s r.name = none := by
  constructor
  · intro h
    refine Classical.byContradiction fun hn => ?_
    have hall : ∀ x ∈ N.rows.map Row.name, x ∈ s.map (·.1) := fun x hx => by
      obtain ⟨r, hr, rfl⟩ := List.mem_map.1 hx
      exact Classical.byContradiction fun h2 => hn ⟨r, hr, get_none.2 h2⟩
    have := len_sub ok.nd hall
    rw [List.length_map, List.length_map] at this
    omega
  · rintro ⟨r, hr, hg⟩
    have h1 := get_none.1 hg
    have : (r.name :: s.map (·.1)).length ≤ (N.rows.map Row.name).length := len_sub (List.nodup_cons.2 ⟨h1, t.nd⟩) fun x hx => by
      rcases List.mem_cons.1 hx with rfl | hx
      · exact List.mem_map.2 ⟨r, hr, rfl⟩
      · obtain ⟨q, hq, rfl⟩ := t.ks x hx; exact List.mem_map.2 ⟨q, hq, rfl⟩
    simp at this; omega
end Fa
end
section
namespace PD
open PySem L2
/-! ### fractions as rational numbers -/
def encQ (q : Rat) : D := .tup [.int q.num, .int q.den]
def Bd (q : Rat) : Prop := q.num.natAbs < 2 ^ 4000 ∧ q.den < 2 ^ 4000
theorem dMul_big {i j : Int} (h : i.natAbs < 2 ^ 9000) (h2 : j.natAbs < 2 ^ 9000) : dMul (.int i) (.int j) = some (.int (i * j)) := by
  simp only [dMul]
  rw [if_pos]
  have a := log2_lt h (by omega)
  have b := log2_lt h2 (by omega)
  unfold CMulW; omega
theorem dFdiv_big {i j : Int} (h : 0 < j) (h2 : j.natAbs < 2 ^ 8900) : dFdiv (.int i) (.int j) = some (.int (i / j)) := by
  simp only [dFdiv]; rw [if_pos, Int.fdiv_eq_ediv_of_nonneg _ (by omega)]
  exact ⟨by omega, by have := log2_lt h2 (by omega); omega⟩
/-! Euclid's steps -/
def esteps : Nat → Nat → Nat → Nat
  | 0, _, _ => 0
  | f + 1, a, b => if b = 0 then 0 else 1 + esteps f b (a % b)
theorem esteps_bd : ∀ (k f a b : Nat), b < 2 ^ k → 2 * k + 2 ≤ f → ∃ n, n ≤ 2 * k + 1 ∧ ∀ g, 0 ≤ g → esteps (f + g) a b = n ∧ n ≤ f
  | 0, f, a, b, h, hf => by
    have : b = 0 := by simpa using h
    subst this
    refine ⟨0, by omega, fun g _ => ⟨?_, by omega⟩⟩
    cases f with
    | zero => omega
    | succ f => rw [Nat.add_right_comm]; simp [esteps]
  | k + 1, f, a, b, h, hf => by
    obtain ⟨f, rfl⟩ : ∃ f', f = f' + 2 := ⟨f - 2, by omega⟩
    by_cases hb : b = 0
    · subst hb
      exact ⟨0, by omega, fun g _ => ⟨by rw [show f + 2 + g = (f + 1 + g) + 1 by omega]; simp [esteps], by omega⟩⟩
    · by_cases hr : a % b = 0
      · refine ⟨1, by omega, fun g _ => ⟨?_, by omega⟩⟩
        rw [show f + 2 + g = (f + g) + 1 + 1 by omega]
        simp [esteps, hb, hr]
      · have hlt : a % b < b := Nat.mod_lt _ (by omega)
        have h1 : b % (a % b) < a % b := Nat.mod_lt _ (by omega)
        have h2 : b % (a % b) + (a % b) ≤ b := by
          have e := Nat.div_add_mod b (a % b)
          have : 1 ≤ b / (a % b) := (Nat.one_le_div_iff (by omega)).2 (by omega)
          have : a % b ≤ (a % b) * (b / (a % b)) := Nat.le_mul_of_pos_right _ (by omega)
          omega
        have hk : b % (a % b) < 2 ^ k := by
          rw [Nat.pow_succ] at h
          omega
        obtain ⟨n, hn, hg⟩ := esteps_bd k f (a % b) (b % (a % b)) hk (by omega)
        refine ⟨n + 2, by omega, fun g h0 => ⟨?_, by have := (hg 0 (by omega)).2; omega⟩⟩
        rw [show f + 2 + g = (f + g) + 1 + 1 by omega]
        simp only [esteps, hb, hr, if_false]
        rw [(hg g h0).1]; omega
/-- how many turns Euclid's loop takes -/
def eN (a b : Nat) : Nat := esteps (2 * (b.log2 + 1) + 2) a b
theorem eN_zero {a : Nat} : eN a 0 = 0 := rfl
theorem lt_log {b : Nat} : b < 2 ^ (b.log2 + 1) := Nat.lt_log2_self
theorem eN_eq {a b f : Nat} (h : 2 * (b.log2 + 1) + 2 ≤ f) : esteps f a b = eN a b := by
  obtain ⟨n, hn, hg⟩ := esteps_bd (b.log2 + 1) (2 * (b.log2 + 1) + 2) a b lt_log (Nat.le_refl _)
  have e1 := (hg 0 (Nat.zero_le _)).1
  have e2 := (hg (f - (2 * (b.log2 + 1) + 2)) (Nat.zero_le _)).1
  rw [show 2 * (b.log2 + 1) + 2 + (f - (2 * (b.log2 + 1) + 2)) = f by omega] at e2
  rw [e2]; unfold eN; rw [show 2 * (b.log2 + 1) + 2 = 2 * (b.log2 + 1) + 2 + 0 by rfl, e1]
theorem eN_succ {a b : Nat} (h : b ≠ 0) : eN a b = eN b (a % b) + 1 := by
  have hlt : a % b < b := Nat.mod_lt _ (by omega)
  have hl : (a % b).log2 ≤ b.log2 := by
    by_cases h0 : a % b = 0
    · rw [h0]; simp
    · exact (Nat.le_log2 h).2 (Nat.le_trans (Nat.log2_self_le h0) (by omega))
  have e : eN a b = esteps (2 * (b.log2 + 1) + 3 + 1) a b := (eN_eq (by omega)).symm
  rw [e]
  have e2 : esteps (2 * (b.log2 + 1) + 3 + 1) a b = 1 + esteps (2 * (b.log2 + 1) + 3) b (a % b) := by
    rw [esteps, if_neg h]
  rw [e2, eN_eq (by omega), Nat.add_comm]
theorem eN_le {a b : Nat} : eN a b ≤ 2 * b.log2 + 3 := by
  obtain ⟨n, hn, hg⟩ := esteps_bd (b.log2 + 1) (2 * (b.log2 + 1) + 2) a b lt_log (Nat.le_refl _)
  have e1 := (hg 0 (Nat.zero_le _)).1
  have : eN a b = n := by unfold eN; exact e1
  omega
theorem gcd_step {a b : Nat} : Nat.gcd b (a % b) = Nat.gcd a b := by
  rw [Nat.gcd_comm, ← Nat.gcd_rec, Nat.gcd_comm]
/-- lowest terms -/
theorem encQ_terms {u : Int} {l : Nat} (hl : l ≠ 0) : encQ (Rat.divInt u l) = .tup [.int (u / (Nat.gcd u.natAbs l : Nat)), .int ((l : Int) / (Nat.gcd u.natAbs l : Nat))] := by
  rw [Rat.divInt_ofNat]
  unfold encQ
  rw [Rat.num_mkRat, Rat.den_mkRat, if_neg hl, if_neg hl, Nat.gcd_comm]
  simp
theorem abs_gcd {u : Int} : (if u < 0 then -u else u) = (u.natAbs : Int) := by split <;> omega
open Fa
/-- few and small: it fits -/
theorem Bd_of {k : Nat} {q : Rat} (h : DenL k q) (hk : k ≤ 100) (h1 : -(2 ^ 20 : Int) ≤ q) (h2 : q ≤ (2 ^ 20 : Int)) : Bd q := by
  obtain ⟨n, hn⟩ := h
  have hN : (LL ^ k : Nat) ≠ 0 := Nat.ne_of_gt (Nat.pow_pos (by decide))
  have hpos : (0 : Rat) < ((LL ^ k : Nat) : Rat) := Rat.natCast_pos.2 (by omega)
  have e : q = Rat.divInt n ((LL ^ k : Nat) : Int) := by
    rw [Rat.divInt_eq_div, Rat.intCast_natCast, ← hn]
    grind
  have hLk : LL ^ k ≤ 2 ^ 3300 := by
    refine Nat.le_trans (Nat.pow_le_pow_right (by decide) hk) ?_
    have : LL ≤ 2 ^ 33 := by decide
    refine Nat.le_trans (Nat.pow_le_pow_left this 100) ?_
    rw [← Nat.pow_mul]
    exact Nat.pow_le_pow_right (by decide) (by decide)
  have hnb : n.natAbs ≤ 2 ^ 20 * LL ^ k := by
    have a1 : (n : Rat) ≤ ((2 ^ 20 : Int) : Rat) * ((LL ^ k : Nat) : Rat) := by rw [← hn]; exact Rat.mul_le_mul_of_nonneg_right h2 (by grind)
    have a2 : ((-(2 ^ 20 : Int) : Int) : Rat) * ((LL ^ k : Nat) : Rat) ≤ (n : Rat) := by rw [← hn]; exact Rat.mul_le_mul_of_nonneg_right (by simpa using h1) (by grind)
    rw [← Rat.intCast_natCast, ← Rat.intCast_mul, Rat.intCast_le_intCast] at a1 a2
    generalize hM : LL ^ k = M at a1 a2 ⊢
    omega
  have big : 2 ^ 20 * 2 ^ 3300 < 2 ^ 4000 := by rw [← Nat.pow_add]; exact Nat.pow_lt_pow_right (by decide) (by decide)
  rw [e, Rat.divInt_ofNat]
  constructor
  · rw [Rat.num_mkRat, if_neg hN]
    have : (n / ((LL ^ k).gcd n.natAbs : Nat)).natAbs ≤ n.natAbs := Int.natAbs_ediv_le_natAbs _ _
    refine Nat.lt_of_le_of_lt this (Nat.lt_of_le_of_lt hnb (Nat.lt_of_le_of_lt (Nat.mul_le_mul_left _ hLk) big))
  · rw [Rat.den_mkRat, if_neg hN]
    refine Nat.lt_of_le_of_lt (Nat.div_le_self _ _) (Nat.lt_of_le_of_lt hLk ?_)
    exact Nat.pow_lt_pow_right (by decide) (by decide)
end PD
end
section
namespace Lw
open PySem L2 PD Fa
/-! ### the law's and the program's fractions -/
theorem okS_step {a b : PD.Env → RO} {δ : PD.Env} {Q : Out → PD.Env → Prop} (h : ∀ K : Out → PD.Env → Prop, (∀ δ', okE (b δ') Q → K .nx δ') → (∀ d δ', Q (.rt d) δ' → K (.rt d) δ') → okE (a δ) K) : okE (sseq a b δ) Q :=
  okS_seq (h _ (fun _ h => h) (fun _ _ h => h))
theorem terms_pos {u : Int} {l : Nat} (hl : 0 < l) (hl2 : l < 2 ^ 8800) : d__law_terms [.int u, .int l] = some (.ok (encQ (Rat.divInt u l))) := by
  apply eq_of_okR
  refine den_ok rfl ?_
  have h1 : ¬ ((l : Int) < 0) := by omega
  simp [h1, dLt, ok_par2]
  refine okS_while (fun n δ => ∃ a b : Nat, δ = [some (.int u), some (.int l), some (.int a), some (.int b)] ∧ Nat.gcd a b = Nat.gcd u.natAbs l ∧ n = eN a b) ?_ (n := eN u.natAbs l) ⟨u.natAbs, l, by rw [abs_gcd], rfl, rfl⟩ ?_
  · rintro n δ ⟨a, b, rfl, hg, rfl⟩
    refine ⟨?_, trivial⟩
    simp
    by_cases hb : b = 0
    · subst hb
      simp at hg
      have hg0 : 0 < a := by rw [hg]; exact Nat.gcd_pos_of_pos_right _ hl
      have hga : a ≤ l := by rw [hg]; exact Nat.gcd_le_right _ hl
      simp
      rw [dFdiv_big (by omega) (by omega)]
      simp
      rw [dFdiv_big (by omega) (by omega)]
      simp
      refine ⟨sz (by omega), ?_⟩
      rw [← Rat.divInt_ofNat, encQ_terms (by omega), hg]
    · simp [hb, ok_par2]
      rw [dMod_ok (by omega)]
      simp
      refine ⟨eN b (a % b), eN_succ hb, b, a % b, ⟨rfl, ?_⟩, by rw [gcd_step]; exact hg, rfl⟩
      rw [Int.fmod_eq_emod_of_nonneg _ (by omega)]; simp
  · have := eN_le (a := u.natAbs) (b := l)
    have h2 := log2_lt (i := (l : Int)) (k := 8800) (by simpa using hl2) (by omega)
    simp at h2
    omega
theorem terms_ok {u l : Int} (hl : l ≠ 0) (hl2 : l.natAbs < 2 ^ 8800) : d__law_terms [.int u, .int l] = some (.ok (encQ (Rat.divInt u l))) := by
  rcases Int.lt_or_gt_of_ne hl with h | h
  · have e : d__law_terms [.int u, .int l] = d__law_terms [.int (-u), .int (-l)] := by
      unfold d__law_terms den
      simp only [List.length_cons, List.length_nil, if_true]
      have e1 : ∀ (rest : PD.Env → RO), (sseq (sif (lf [] (tb (op2 dLt (v 1) (c (.int 0))))) (spar2 0 1 (lf [] (acons (op2 dSub (c (.int 0)) (v 0)) (acons (op2 dSub (c (.int 0)) (v 1)) anil)))) snext) rest) [some (.int u), some (.int l), none, none] = rest [some (.int (0 - u)), some (.int (0 - l)), none, none] := fun rest => by
        simp [sseq, sif, lf, tb, op2, v, c, opt, ok, PD.bind, bindE, dLt, dCmp, asB, h, spar2, acons, anil, dSub]
      have e2 : ∀ (rest : PD.Env → RO), (sseq (sif (lf [] (tb (op2 dLt (v 1) (c (.int 0))))) (spar2 0 1 (lf [] (acons (op2 dSub (c (.int 0)) (v 0)) (acons (op2 dSub (c (.int 0)) (v 1)) anil)))) snext) rest) [some (.int (-u)), some (.int (-l)), none, none] = rest [some (.int (-u)), some (.int (-l)), none, none] := fun rest => by
        have : ¬ (-l < 0) := by omega
        have t2 : ¬ (0 < l) := by omega
        simp [t2, sseq, sif, lf, tb, op2, v, c, opt, ok, PD.bind, bindE, dLt, dCmp, asB, this, snext]
      show (match (sseq _ _) [some (.int u), some (.int l), none, none] with | none => _ | some (.ok (.rt d, _)) => _ | some (.ok (.nx, _)) => _ | some (.ok (.bk, _)) => _ | some (.ok (.ct, _)) => _ | some (.error (x, _)) => _) = (match (sseq _ _) [some (.int (-u)), some (.int (-l)), none, none] with | none => _ | some (.ok (.rt d, _)) => _ | some (.ok (.nx, _)) => _ | some (.ok (.bk, _)) => _ | some (.ok (.ct, _)) => _ | some (.error (x, _)) => _)
      rw [e1, e2]; simp
    obtain ⟨n, hn⟩ := Int.eq_ofNat_of_zero_le (show 0 ≤ -l by omega)
    rw [e, hn, terms_pos (by omega) (by omega), ← hn, Rat.neg_divInt_neg]
  · obtain ⟨n, rfl⟩ := Int.eq_ofNat_of_zero_le (show 0 ≤ l by omega)
    exact terms_pos (by omega) (by simpa using hl2)
/-- divisor, lowest: the program's own -/
theorem divisor_ok {u l : Int} (hl : l.natAbs < 2 ^ 8800) : d_divisor [.int u, .int l] = some (.ok (.int (Nat.gcd u.natAbs l.natAbs : Nat))) := by
  apply eq_of_okR
  refine den_ok rfl ?_
  simp [ok_par2]
  refine okS_while (fun n δ => ∃ a b : Nat, δ = [some (.int a), some (.int b)] ∧ Nat.gcd a b = Nat.gcd u.natAbs l.natAbs ∧ n = eN a b) ?_ (n := eN u.natAbs l.natAbs) ⟨u.natAbs, l.natAbs, by rw [abs_gcd, abs_gcd], rfl, rfl⟩ ?_
  · rintro n δ ⟨a, b, rfl, hg, rfl⟩
    refine ⟨?_, trivial⟩
    simp
    by_cases hb : b = 0
    · subst hb
      simp at hg
      simp [hg]
    · simp [hb, ok_par2]
      rw [dMod_ok (by omega)]
      simp
      refine ⟨eN b (a % b), eN_succ hb, b, a % b, ⟨rfl, ?_⟩, by rw [gcd_step]; exact hg, rfl⟩
      rw [Int.fmod_eq_emod_of_nonneg _ (by omega)]; simp
  · have := eN_le (a := u.natAbs) (b := l.natAbs)
    have h2 := log2_lt (i := l) (k := 8800) hl (by omega)
    omega
theorem lowest_ok {u : Int} {l : Nat} (hl : 0 < l) (hl2 : l < 2 ^ 8800) : d_lowest [.int u, .int l] = some (.ok (encQ (Rat.divInt u l))) := by
  apply eq_of_okR
  refine den_ok rfl ?_
  have h1 : ¬ ((l : Int) < 0) := by omega
  have hg : Nat.gcd u.natAbs (l : Int).natAbs = Nat.gcd u.natAbs l := by simp
  have hg0 : 0 < Nat.gcd u.natAbs l := Nat.gcd_pos_of_pos_right _ hl
  have hga : Nat.gcd u.natAbs l ≤ l := Nat.gcd_le_right _ hl
  simp only [okS_seqE, okS_set, okE_lf, mask_nil, okR_vcall, okR_acons, okR_v, okR_anil]
  simp
  rw [divisor_ok (by simpa using hl2), okR_some, hg]
  generalize hG : Nat.gcd u.natAbs l = G at *
  simp [h1, dLt]
  rw [dFdiv_big (by omega) (by omega)]
  simp
  rw [dFdiv_big (by omega) (by omega)]
  simp
  refine ⟨sz (by omega), ?_⟩
  rw [← Rat.divInt_ofNat, encQ_terms (by omega), hG]
/-! operations -/
theorem Bd.mul {p q : Rat} (hp : Bd p) (hq : Bd q) : p.den * q.den < 2 ^ 8800 := by
  refine Nat.lt_of_lt_of_le (Nat.mul_lt_mul_of_lt_of_le hp.2 (Nat.le_of_lt hq.2) (by have := q.den_pos; omega)) ?_
  rw [← Nat.pow_add]
  exact Nat.pow_le_pow_right (by decide) (by decide)
theorem b9 {n : Nat} (h : n < 2 ^ 4000) : n < 2 ^ 9000 := Nat.lt_of_lt_of_le h (Nat.pow_le_pow_right (by decide) (by decide))
theorem plus_ok {p q : Rat} (hp : Bd p) (hq : Bd q) : d__law_plus [encQ p, encQ q] = some (.ok (encQ (p + q))) := by
  apply eq_of_okR
  refine den_ok rfl ?_
  have e : p + q = Rat.divInt (p.num * q.den + q.num * p.den) ((p.den * q.den : Nat) : Int) := by rw [Rat.add_def', Rat.divInt_ofNat]
  rw [e]
  have hd : p.den * q.den ≠ 0 := Nat.mul_ne_zero p.den_nz q.den_nz
  have hb := Bd.mul hp hq
  simp [encQ]
  rw [dMul_big (b9 hp.1) (by simpa using b9 hq.2)]; simp
  rw [dMul_big (b9 hq.1) (by simpa using b9 hp.2)]; simp
  rw [dMul_big (by simpa using b9 hp.2) (by simpa using b9 hq.2)]; simp
  have := terms_pos (u := p.num * q.den + q.num * p.den) (l := p.den * q.den) (by omega) hb
  simp at this
  rw [this]; simp [encQ]
theorem minus_ok {p q : Rat} (hp : Bd p) (hq : Bd q) : d__law_minus [encQ p, encQ q] = some (.ok (encQ (p - q))) := by
  apply eq_of_okR
  refine den_ok rfl ?_
  have e : encQ (-q) = .tup [.int (-q.num), .int q.den] := rfl
  have h2 : Bd (-q) := ⟨by simpa using hq.1, by simpa using hq.2⟩
  have h3 := plus_ok hp h2
  rw [e, ← Rat.sub_eq_add_neg] at h3
  generalize hR : encQ (p - q) = R at *
  simp [encQ]
  refine ⟨sz (by omega), ?_⟩
  rw [show encQ p = D.tup [D.int p.num, D.int p.den] from rfl] at h3
  rw [h3]; simp
theorem by_ok {p q : Rat} (hp : Bd p) (hq : Bd q) : d__law_by [encQ p, encQ q] = some (.ok (encQ (p * q))) := by
  apply eq_of_okR
  refine den_ok rfl ?_
  have e : p * q = Rat.divInt (p.num * q.num) ((p.den * q.den : Nat) : Int) := by rw [Rat.mul_def', Rat.divInt_ofNat]
  rw [e]
  have hd : p.den * q.den ≠ 0 := Nat.mul_ne_zero p.den_nz q.den_nz
  have hb := Bd.mul hp hq
  simp [encQ]
  rw [dMul_big (b9 hp.1) (b9 hq.1)]; simp
  rw [dMul_big (by simpa using b9 hp.2) (by simpa using b9 hq.2)]; simp
  have := terms_pos (u := p.num * q.num) (l := p.den * q.den) (by omega) hb
  simp at this
  rw [this]; simp [encQ]
theorem enc_int (n : Int) : encQ (n : Rat) = .tup [.int n, .int 1] := by simp [encQ]
theorem enc_nat (n : Nat) : encQ (n : Rat) = .tup [.int n, .int 1] := by rw [← Rat.intCast_natCast, enc_int]
/-- divided by a number from 1 -/
theorem part_ok {p : Rat} {n : Nat} (hp : Bd p) (h0 : 0 < n) (hn : n < 2 ^ 100) : d__law_part [encQ p, .tup [.int n, .int 1]] = some (.ok (encQ (p / (n : Rat)))) := by
  apply eq_of_okR
  refine den_ok rfl ?_
  have e : p / (n : Rat) = Rat.divInt p.num ((p.den * n : Nat) : Int) := by
    rw [Rat.divInt_eq_div, Rat.intCast_natCast, Rat.natCast_mul]
    have h1 : p = (p.num : Rat) / (p.den : Rat) := by
      rw [← Rat.intCast_natCast, ← Rat.divInt_eq_div, Rat.num_divInt_den]
    have h2 : (p.den : Rat) ≠ 0 := by have := p.den_pos; have : (0 : Rat) < (p.den : Rat) := Rat.natCast_pos.2 this; grind
    have h3 : (n : Rat) ≠ 0 := by have : (0 : Rat) < (n : Rat) := Rat.natCast_pos.2 h0; grind
    have : p * (p.den : Rat) = (p.num : Rat) := by
      generalize (p.den : Rat) = d at *
      generalize (p.num : Rat) = m at *
      rw [h1]; grind
    generalize (p.den : Rat) = d at *
    rw [← this]; grind
  rw [e]
  have hd : 0 < p.den * n := Nat.mul_pos p.den_pos h0
  have hb : p.den * n < 2 ^ 8800 := by
    refine Nat.lt_of_lt_of_le (Nat.mul_lt_mul_of_lt_of_le hp.2 (Nat.le_of_lt hn) (by decide)) ?_
    rw [← Nat.pow_add]
    exact Nat.pow_le_pow_right (by decide) (by decide)
  simp [encQ]
  rw [dMul_big (b9 hp.1) (by simp)]; simp
  rw [dMul_big (by simpa using b9 hp.2) (by simp; exact b9 (Nat.lt_of_lt_of_le hn (Nat.pow_le_pow_right (by decide) (by decide))))]; simp
  have := terms_pos (u := p.num) (l := p.den * n) hd hb
  simp at this
  rw [this]; simp [encQ]
theorem under_ok {p q : Rat} (hp : Bd p) (hq : Bd q) : d__law_under [encQ p, encQ q] = some (.ok (.bl (decide (p < q)))) := by
  apply eq_of_okR
  refine den_ok rfl ?_
  simp [encQ]
  rw [dMul_big (b9 hp.1) (by simpa using b9 hq.2)]; simp
  rw [dMul_big (b9 hq.1) (by simpa using b9 hp.2)]; simp [dLt]
  rw [Rat.lt_iff]
theorem pplus_ok {p q : Rat} (hp : Bd p) (hq : Bd q) : d_plus [encQ p, encQ q] = some (.ok (encQ (p + q))) := by
  apply eq_of_okR
  refine den_ok rfl ?_
  have e : p + q = Rat.divInt (p.num * q.den + q.num * p.den) ((p.den * q.den : Nat) : Int) := by rw [Rat.add_def', Rat.divInt_ofNat]
  rw [e]
  have hd : p.den * q.den ≠ 0 := Nat.mul_ne_zero p.den_nz q.den_nz
  have hb := Bd.mul hp hq
  simp [encQ]
  rw [dMul_big (b9 hp.1) (by simpa using b9 hq.2)]; simp
  rw [dMul_big (b9 hq.1) (by simpa using b9 hp.2)]; simp
  rw [dMul_big (by simpa using b9 hp.2) (by simpa using b9 hq.2)]; simp
  have := lowest_ok (u := p.num * q.den + q.num * p.den) (l := p.den * q.den) (by omega) hb
  simp at this
  rw [this]; simp [encQ]
end Lw
end
section
namespace PD
open PySem L2 Fa
/-! ### small fractions -/
structure Sm (k : Nat) (q : Rat) : Prop where
  d : DenL k q
  l : -1000 ≤ q
  u : q ≤ 1000
theorem Sm.bd {k : Nat} {q : Rat} (h : Sm k q) (hk : k ≤ 100) : Bd q := by
  refine Bd_of h.d hk ?_ ?_
  · have := h.l
    have e : ((2 ^ 20 : Int) : Rat) = 1048576 := rfl
    rw [e]; grind
  · have := h.u
    have e : ((2 ^ 20 : Int) : Rat) = 1048576 := rfl
    rw [e]; grind
theorem bd_big {k : Nat} {q : Rat} (hd : DenL k q) (hk : k ≤ 100) (h1 : -1000000 ≤ q) (h2 : q ≤ 1000000) : Bd q := by
  refine Bd_of hd hk ?_ ?_
  · have e : ((2 ^ 20 : Int) : Rat) = 1048576 := rfl
    rw [e]; grind
  · have e : ((2 ^ 20 : Int) : Rat) = 1048576 := rfl
    rw [e]; grind
/-! ### nets as data -/
def encHi : Option Nat → D
  | none => .non
  | some m => .int m
def encRow (r : Row Str) : D := .tup [.str r.name, .tup (r.lines.map .str), .int r.w, .int r.lo, encHi r.hi]
def encWire (c : Str × Nat) : D := .tup [.str c.1, .int c.2]
def encNet (N : Net Str) : D := .tup [.tup (N.wires.map encWire), .tup (N.rows.map encRow)]
def encK (s : List (Str × Rat)) : List (Key × D) := s.map fun kv => (Sum.inr kv.1, encQ kv.2)
def encS (s : List (Str × Rat)) : D := .dic (encK s)
theorem find_enc {s : List (Str × Rat)} {x : Str} : ((encK s).find? fun kv => decide (kv.1 = .inr x)).map (·.2) = (get s x).map encQ := by
  unfold encK Fa.get
  induction s with
  | nil => rfl
  | cons kv s ih =>
    rw [List.map_cons, List.find?_cons, List.find?_cons]
    by_cases h : kv.1 = x
    · simp [h]
    · have e : decide ((Sum.inr kv.1 : Key) = .inr x) = false := by simp [h]
      simp only [e, decide_eq_false h]
      exact ih
@[simp] theorem dIx_enc {s : List (Str × Rat)} {x : Str} : dIx (encS s) (.str x) = (get s x).map encQ := find_enc
theorem in_enc {s : List (Str × Rat)} {x : Str} : inD (.str x) (encS s) = some (get s x).isSome := by
  show (some (Sum.inr x : Key)).map (fun k => (((encK s).find? fun kv => decide (kv.1 = k)).map (·.2)).isSome) = _
  rw [Option.map_some, find_enc]; simp
@[simp] theorem dIn_enc {s : List (Str × Rat)} {x : Str} : dIn (.str x) (encS s) = some (.bl (get s x).isSome) := by rw [dIn, in_enc]; rfl
@[simp] theorem dNotIn_enc {s : List (Str × Rat)} {x : Str} : dNotIn (.str x) (encS s) = some (.bl (get s x).isNone) := by
  rw [dNotIn, in_enc]; cases get s x <;> rfl
@[simp] theorem dGet2_enc {s : List (Str × Rat)} {x : Str} {d : D} : dGet2 (encS s) (.str x) d = some (((get s x).map encQ).getD d) := by
  show (some (Sum.inr x : Key)).map (fun k => (((encK s).find? fun kv => decide (kv.1 = k)).map (·.2)).getD d) = _
  rw [Option.map_some, find_enc]
@[simp] theorem isDc_enc {s : List (Str × Rat)} : isDc (encS s) = true := rfl
theorem put_enc {s : List (Str × Rat)} {x : Str} {q : Rat} : putD (encK s) (.inr x) (encQ q) = encK (put s x q) := by
  unfold putD put encK
  have e : ((s.map fun kv => ((Sum.inr kv.1 : Key), encQ kv.2)).any fun kv => decide (kv.1 = .inr x)) = s.any fun kv => decide (kv.1 = x) := by
    rw [List.any_map]
    congr; funext kv; simp
  rw [e]
  split
  · rw [List.map_map, List.map_map]
    exact List.map_congr_left fun kv _ => by
      dsimp only [Function.comp]
      by_cases h : kv.1 = x
      · simp [h]
      · simp [h]
  · simp
@[simp] theorem keyOf_str {x : Str} : keyOf (.str x) = some (.inr x) := rfl
theorem encK_len {s : List (Str × Rat)} : (encK s).length = s.length := by simp [encK]
/-- a table by its pairs -/
theorem get_map {β : Type} (f : β → Str) (g : β → Rat) : ∀ {l : List β} {b : β}, (l.map f).Nodup → b ∈ l → get (l.map fun b => (f b, g b)) (f b) = some (g b)
  | a :: l, b, hn, hb => by
    rw [List.map_cons, List.nodup_cons] at hn
    unfold Fa.get
    rw [List.map_cons, List.find?_cons]
    rcases List.mem_cons.1 hb with rfl | hb
    · simp
    · have : ¬ f a = f b := fun e => hn.1 (List.mem_map.2 ⟨b, hb, e.symm⟩)
      simp only [decide_eq_false this]
      exact get_map f g hn.2 hb
/-- made one by one -/
theorem put_new {s : List (Str × Rat)} {x : Str} {q : Rat} (h : x ∉ s.map (·.1)) : put s x q = s ++ [(x, q)] := by
  unfold put
  rw [if_neg]
  intro z
  obtain ⟨kv, h1, h2⟩ := List.any_eq_true.1 z
  exact h (List.mem_map.2 ⟨kv, h1, by simpa using h2⟩)
theorem inD_tup {x : Str} {ys : List Str} (hx : PyData.strOk x = true) (hy : ∀ x ∈ ys, PyData.strOk x = true) : inD (.str x) (.tup (ys.map D.str)) = some (decide (x ∈ ys)) := by
  have e1 : ∀ {xs : List Str}, toPys (xs.map D.str) = some (xs.map PyData.str) := fun {xs} => by
    induction xs with
    | nil => rfl
    | cons x xs ih => simp [toPys, toPy, ih]
  have e2 : ∀ {ys : List Str}, (ys.map PyData.str).any (fun z => PyData.eqv z (.str x)) = decide (x ∈ ys) := fun {ys} => by
    induction ys with
    | nil => rfl
    | cons y ys ih =>
      rw [List.map_cons, List.any_cons, ih, PyData.eqv]
      rw [Bool.eq_iff_iff]
      simp
      constructor
      · rintro (h | h)
        · exact .inl h.symm
        · exact .inr h
      · rintro (h | h)
        · exact .inl h.symm
        · exact .inr h
  have e3 : ∀ {xs : List Str}, (∀ x ∈ xs, PyData.strOk x = true) → PyData.canLayAll0 (xs.map PyData.str) = true := fun {xs} h => by
    induction xs with
    | nil => rfl
    | cons x xs ih => simp [PyData.canLayAll0, PyData.canLay0, h x (by simp), ih fun y hy => h y (by simp [hy])]
  have e4 : ∀ {xs : List Str}, PyData.depthAll (xs.map PyData.str) = 0 := fun {xs} => by
    induction xs with
    | nil => rfl
    | cons x xs ih => simp [PyData.depthAll, PyData.depth, ih]
  simp only [inD, toPy, e1, Option.bind_some, e2]
  rw [if_pos]
  simp [SeqAt.shaped, PyData.canLay0, PyData.depth, e3 hy, e4, hx]
/-- a net in order, its names texts -/
structure NetOk (N : Net Str) : Prop where
  ok : Ok N
  rn : ∀ r ∈ N.rows, PyData.strOk r.name = true ∧ ∀ x ∈ r.lines, PyData.strOk x = true
  wn : ∀ c ∈ N.wires, PyData.strOk c.1 = true
  fw : N.wires.length ≤ 9
  ll : ∀ r ∈ N.rows, r.lines.length ≤ 100
theorem NetOk.dIn {N : Net Str} (h : NetOk N) {c : Str × Nat} (hc : c ∈ N.wires) {r : Row Str} (hr : r ∈ N.rows) : PD.dIn (.str c.1) (.tup (r.lines.map .str)) = some (.bl (onL c.1 r)) := by
  rw [PD.dIn, inD_tup (h.wn c hc) (h.rn r hr).2]; rfl
theorem wire_ok {N : Net Str} (h : NetOk N) {r : Row Str} (hr : r ∈ N.rows) {x : Str} (hx : x ∈ r.lines) : ∃ c ∈ N.wires, c.1 = x := by
  obtain ⟨c, hc⟩ := (h.ok.ln r hr).2 x hx
  exact ⟨_, hc, rfl⟩
end PD
namespace Lw
open PySem L2 PD Fa
/-! ### sums -/
theorem sum_loop {f : List D → Rs D} (hf : ∀ {p q : Rat}, Bd p → Bd q → f [encQ p, encQ q] = some (.ok (encQ (p + q)))) {k : Nat} (hk : k ≤ 100) {x0 : Option D} {Q : Out → PD.Env → Prop} :
    ∀ {qs : List Rat} {a : Rat} {x : Option D}, (∀ q ∈ qs, Sm k q) → DenL k a → ∀ j : Nat, -1000 * (j : Rat) ≤ a → a ≤ 1000 * (j : Rat) → j + qs.length ≤ 500 → (∀ x, Q .nx [x0, some (encQ (a + sumQ qs)), x]) →
    okE (sfor (gn 2) (sset 1 (lf [] (vcall f (acons (v 1) (acons (v 2) anil))))) (qs.map encQ) [x0, some (encQ a), x]) Q
  | [], a, x, _, _, j, _, _, _, q => by
    have : a + sumQ [] = a := by rw [sum_nil]; grind
    rw [this] at q
    exact ⟨_, _, rfl, q x⟩
  | p :: qs, a, x, h, hd, j, h1, h2, hl, q => by
    have hp := h p (by simp)
    rw [List.length_cons] at hl
    have hj : (j : Rat) ≤ 500 := by
      have : (j : Rat) ≤ ((500 : Nat) : Rat) := Rat.natCast_le_natCast.2 (by omega)
      simpa using this
    have ba : Bd a := bd_big hd hk (by grind) (by grind)
    have e : (sset 1 (lf [] (vcall f (acons (v 1) (acons (v 2) anil))))) [x0, some (encQ a), some (encQ p)] = some (.ok (.nx, [x0, some (encQ (a + p)), some (encQ p)])) := by
      simp [sset, lf, mask, vcall, acons, anil, v, opt, PD.bind, ok, hf ba (hp.bd hk), bindE]
    rw [List.map_cons]
    unfold sfor
    simp only [gn_eq, List.set]
    rw [e]
    have hc : ((j + 1 : Nat) : Rat) = (j : Rat) + 1 := by rw [Rat.natCast_add]; rfl
    have l1 := hp.l
    have u1 := hp.u
    refine sum_loop hf hk (fun y hy => h y (by simp [hy])) (hd.add hp.d) (j + 1) (by rw [hc]; grind) (by rw [hc]; grind) (by omega) fun x => ?_
    have : a + p + sumQ qs = a + sumQ (p :: qs) := by rw [sum_cons]; grind
    rw [this]; exact q x
theorem sum_ok {k : Nat} (hk : k ≤ 100) {qs : List Rat} (h : ∀ q ∈ qs, Sm k q) (hl : qs.length ≤ 400) : d__law_sum [.lst (qs.map encQ)] = some (.ok (encQ (sumQ qs))) := by
  apply eq_of_okR
  refine den_ok rfl ?_
  simp
  refine ⟨sz (by omega), ?_⟩
  have e : D.tup [D.int 0, D.int 1] = encQ ((0 : Nat) : Rat) := (enc_nat 0).symm
  rw [e]
  refine sum_loop plus_ok hk h (DenL.nat 0) 0 (by grind) (by grind) (by omega) fun x => ?_
  simp
  congr 1; show ((0 : Nat) : Rat) + _ = _; simp; grind
theorem psum_ok {k : Nat} (hk : k ≤ 100) {qs : List Rat} (h : ∀ q ∈ qs, Sm k q) (hl : qs.length ≤ 400) : d_sum_of [.lst (qs.map encQ)] = some (.ok (encQ (sumQ qs))) := by
  apply eq_of_okR
  refine den_ok rfl ?_
  simp
  have e : k_NOUGHT = encQ ((0 : Nat) : Rat) := (enc_nat 0).symm
  rw [e]
  refine sum_loop pplus_ok hk h (DenL.nat 0) 0 (by grind) (by grind) (by omega) fun x => ?_
  simp
  congr 1; show ((0 : Nat) : Rat) + _ = _; simp; grind
end Lw
end
section
namespace PD
open PySem L2 Fa
/-- a comprehension over encoded things -/
theorem okE_compR {β : Type} {enc : β → D} {vs : List Nat} {g : D → Env → Option Env} {t : Env → RE Bool} {e : Env → RE D} {δ : Env} {Q : List D → Env → Prop} (T : β → Bool) (F : β → D) : ∀ {bs : List β} {acc : List D}, (∀ b ∈ bs, okO (g (enc b) δ) fun δ1 => wipeD vs δ1 = δ ∧ okE (t δ1) fun k δ2 => k = T b ∧ δ2 = δ1 ∧ (T b = true → okE (e δ1) fun y δ3 => y = F b ∧ δ3 = δ1)) → acc.length + bs.length ≤ sizeLine →
    Q (acc ++ (bs.filter T).map F) δ → okE (scomp vs g t e (bs.map enc) acc δ) Q
  | [], acc, _, _, q => by simpa [scomp] using q
  | b :: bs, acc, h, hl, q => by
    rw [List.length_cons] at hl
    obtain ⟨δ1, e1, ew, k, δ2, e2, rfl, rfl, h3⟩ := h b List.mem_cons_self
    rw [List.map_cons]
    unfold scomp; rw [e1]; simp only []; rw [e2]
    cases ht : T b with
    | false =>
      simp only []
      rw [ew]
      exact okE_compR T F (fun x hx => h x (List.mem_cons_of_mem _ hx)) (by omega) (by rw [List.filter_cons_of_neg (by rw [ht]; simp)] at q; exact q)
    | true =>
      obtain ⟨y, δ3, e3, rfl, rfl⟩ := h3 ht
      simp only []
      rw [e3]; simp only []
      rw [if_pos (by omega), ew]
      refine okE_compR T F (fun x hx => h x (List.mem_cons_of_mem _ hx)) (by rw [List.length_append, List.length_singleton]; omega) ?_
      rw [List.filter_cons_of_pos ht] at q
      simpa using q
@[simp] theorem dicAt_enc {s : List (Str × Rat)} {δ : Env} : dicAt (some (encS s) :: δ) 0 = some (encK s) := rfl
theorem dDict_enc {s : List (Str × Rat)} : dDict (encS s) = some (encS s) := rfl
structure St (N : Net Str) (k : Nat) (s : List (Str × Rat)) (h : Rat) : Prop where
  I : Inv N s h
  d : Dn k s h
  hb : h ≤ 200
  hk : k ≤ 90
  t : Tab N s
theorem sm_nat {k n : Nat} (h : n ≤ 1000) : Sm k (n : Rat) := by
  have h1 : (n : Rat) ≤ ((1000 : Nat) : Rat) := Rat.natCast_le_natCast.2 h
  have h2 : (0 : Rat) ≤ (n : Rat) := Rat.natCast_nonneg
  have e : ((1000 : Nat) : Rat) = 1000 := rfl
  exact ⟨.nat n, by grind, by grind⟩
section
variable {N : Net Str} {k : Nat} {s : List (Str × Rat)} {h : Rat}
theorem St.sh (st : St N k s h) : Sm k h := ⟨st.d.h, by have := st.I.h0; grind, by have := st.hb; grind⟩
theorem St.swh (st : St N k s h) {n : Nat} (hn : n ≤ 3) : Sm k ((n : Rat) * h) := by
  have h1 : (n : Rat) ≤ ((3 : Nat) : Rat) := Rat.natCast_le_natCast.2 hn
  have h2 : (0 : Rat) ≤ (n : Rat) := Rat.natCast_nonneg
  have e : ((3 : Nat) : Rat) = 3 := rfl
  have h3 := Rat.mul_nonneg h2 st.I.h0
  have h4 := Rat.mul_le_mul_of_nonneg_right h1 st.I.h0
  have h5 := st.hb
  exact ⟨st.d.h.nmul n, by grind, by grind⟩
theorem St.sat (st : St N k s h) (ok : Ok N) {r : Row Str} (hr : r ∈ N.rows) : Sm k (at_ r h) := by
  rcases at_cases (r := r) (h := h) with e | e <;> rw [e]
  · exact sm_nat (by have := ok.lo r hr; omega)
  · exact st.swh (ok.w1 r hr).2
theorem St.sval (st : St N k s h) (ok : Ok N) {r : Row Str} (hr : r ∈ N.rows) : Sm k (val s h r) := ⟨den_val st.d r, by have := val_nonneg st.I r; grind, by have := val_le ok st.I hr; grind⟩
theorem St.sload (st : St N k s h) (ok : Ok N) {c : Str × Nat} (hc : c ∈ N.wires) : Sm k (load N s h c.1) := by
  refine ⟨den_load st.d _, ?_, ?_⟩
  · have : 0 ≤ load N s h c.1 := by
      unfold Fa.load
      exact sum_nonneg fun q hq => by obtain ⟨r, _, rfl⟩ := List.mem_map.1 hq; exact val_nonneg st.I r
    grind
  · have h1 := st.I.ld c hc
    have h2 := cap64 ok hc
    grind
theorem St.stop (st : St N k s h) (ok : Ok N) : St N k (Fa.stop N s h) h := ⟨(inv_stop ok st.I st.t.keys).1, dn_stop ok st.d, st.hb, st.hk, tab_stop st.t⟩
end
end PD
namespace Lw
open PySem L2 PD Fa
section
variable {N : Net Str} {k : Nat} {s : List (Str × Rat)} {h : Rat}
theorem at_ok (ok : NetOk N) (st : St N k s h) {r : Row Str} (hr : r ∈ N.rows) : d__law_at [encRow r, encQ h] = some (.ok (encQ (at_ r h))) := by
  apply eq_of_okR
  refine den_ok rfl ?_
  have b1 := by_ok (p := (r.w : Rat)) (q := h) ((sm_nat (k := k) (by have := (ok.ok.w1 r hr).2; omega)).bd (by have := st.hk; omega)) (st.sh.bd (by have := st.hk; omega))
  have b2 := under_ok (p := (r.lo : Rat)) (q := (r.w : Rat) * h) ((sm_nat (k := k) (by have := ok.ok.lo r hr; omega)).bd (by have := st.hk; omega)) ((st.swh (ok.ok.w1 r hr).2).bd (by have := st.hk; omega))
  rw [enc_nat] at b1 b2
  unfold at_
  generalize hX : encQ ((r.w : Rat) * h) = X at *
  generalize hY : encQ h = Y at *
  simp [encRow]
  refine ⟨sz (by omega), ?_⟩
  rw [b1]; simp
  refine ⟨sz (by omega), ?_⟩
  rw [b2]; simp
  split
  · exact hX.symm
  · exact ⟨sz (by omega), (enc_nat _).symm⟩
theorem loads_ok (ok : NetOk N) (st : St N k s h) : d__law_loads [encNet N, encS s, encQ h] = some (.ok (encS (N.wires.map fun c => (c.1, load N s h c.1)))) := by
  apply eq_of_okR
  refine den_ok rfl ?_
  have hk := st.hk
  simp [encNet]
  refine okS_for (fun i δ => ∃ x4 x5 x6, δ = [some (D.tup [D.tup (N.wires.map encWire), D.tup (N.rows.map encRow)]), some (encS s), some (encQ h), some (encS ((N.wires.take i).map fun c => (c.1, load N s h c.1))), x4, x5, x6, none]) (n := 0) ⟨none, none, none, rfl⟩ ?_ ?_
  · rintro i d δ hi ⟨x4, x5, x6, rfl⟩
    rw [Nat.zero_add, List.getElem?_map, Option.map_eq_some_iff] at *
    obtain ⟨c, hc, rfl⟩ := hi
    have hcm : c ∈ N.wires := List.mem_of_getElem? hc
    refine ⟨_, by simp [encWire]; rfl, ?_⟩
    simp
    refine okE_compR (enc := encRow) (T := onL c.1) (F := fun r => encQ (val s h r)) (fun r hr => ?_) ?_ ?_
    · simp [encRow]
      rw [ok.dIn hcm hr]; simp
      intro _
      have := at_ok ok st hr
      unfold encRow at this
      rw [this]; simp
      unfold val
      cases get s r.name <;> rfl
    · simp; exact sz (by have := ok.ok.few; omega)
    · simp
      have hs := sum_ok (k := k) (by omega) (qs := (N.rows.filter (onL c.1)).map (val s h)) (fun q hq => by
        obtain ⟨r, hr, rfl⟩ := List.mem_map.1 hq
        exact st.sval ok.ok (List.mem_filter.1 hr).1) (by
          rw [List.length_map]
          have := List.length_filter_le (onL c.1) N.rows
          have := ok.ok.few
          omega)
      rw [List.map_map] at hs
      have e1 : (encQ ∘ val s h) = fun r => encQ (val s h r) := rfl
      rw [e1] at hs
      rw [hs]; simp
      have hw := ok.fw
      refine ⟨Nat.lt_of_lt_of_le (show _ < 100 by rw [encK_len, List.length_take, List.length_map]; omega) (sz (by omega)), ?_⟩
      have hput : putD (encK ((N.wires.take i).map fun c => (c.1, load N s h c.1))) (.inr c.1) (encQ (load N s h c.1)) = encK ((N.wires.take (i + 1)).map fun c => (c.1, load N s h c.1)) := by
        rw [put_enc, put_new]
        · congr 1
          rw [List.take_add_one, hc]; simp
        · rw [List.map_map]
          have hn := ok.ok.wd
          have e : N.wires = N.wires.take i ++ c :: N.wires.drop (i + 1) := by
            obtain ⟨hlt, e2⟩ := List.getElem?_eq_some_iff.1 hc
            rw [← e2, ← List.drop_eq_getElem_cons hlt, List.take_append_drop]
          rw [e, List.map_append, List.nodup_append] at hn
          intro z
          obtain ⟨b, hb, hbe⟩ := List.mem_map.1 z
          exact hn.2.2 c.1 (List.mem_map.2 ⟨b, hb, hbe⟩) c.1 (by simp) rfl
      have e3 : encQ (sumQ ((N.rows.filter (onL c.1)).map (val s h))) = encQ (Fa.load N s h c.1) := rfl
      rw [e3, ← List.map_take, hput, List.map_take]; rfl
  · rintro δ ⟨x4, x5, x6, rfl⟩
    simp [bxIn]
end
end Lw
end
section
namespace PD
open PySem L2 Fa
/-! ### = of fractions, of lists and [] -/
def pyQ (q : Rat) : PyData := .tuple [.int q.num, .int q.den]
theorem toPy_enc (q : Rat) : toPy (encQ q) = some (pyQ q) := by simp [encQ, toPy, toPys, pyQ]
theorem toPys_enc : ∀ {qs : List Rat}, toPys (qs.map encQ) = some (qs.map pyQ)
  | [] => rfl
  | q :: qs => by simp [toPys, toPy_enc, toPys_enc (qs := qs)]
theorem rat_ext {p q : Rat} : p = q ↔ p.num = q.num ∧ (p.den : Int) = q.den := by
  constructor
  · rintro rfl; exact ⟨rfl, rfl⟩
  · rintro ⟨h1, h2⟩; exact Rat.ext h1 (by omega)
theorem eqv_enc {p q : Rat} : PyData.eqv (pyQ p) (pyQ q) = decide (p = q) := by
  simp only [pyQ, PyData.eqv, PyData.eqvAll]
  rw [Bool.eq_iff_iff]
  simp [rat_ext]
theorem shaped_enc (q : Rat) : SeqAt.shaped (pyQ q) = true := by simp [pyQ, SeqAt.shaped, PyData.canLay0, PyData.canLayAll0, PyData.depth, PyData.depthAll]
@[simp] theorem dEq_enc {p q : Rat} : dEq (encQ p) (encQ q) = some (.bl (decide (p = q))) := by
  simp [dEq, eqD, toPy_enc, shaped_enc, eqv_enc]
theorem eqv_nil {ps : List PyData} : PyData.eqv (.list ps) (.list []) = ps.isEmpty := by
  cases ps <;> simp [PyData.eqv, PyData.eqvAll]
theorem ne_nil {xs : List D} {ps : List PyData} (h : toPys xs = some ps) (h1 : PyData.canLayAll0 ps = true) (h2 : PyData.depthAll ps ≤ 60) : dNe (.lst xs) (.lst []) = some (.bl (!xs.isEmpty)) := by
  have hl : ps.isEmpty = xs.isEmpty := by
    cases xs with
    | nil => cases h; rfl
    | cons x xs =>
      simp only [toPys, Option.bind_eq_some_iff, Option.map_eq_some_iff] at h
      obtain ⟨p, _, qs, _, rfl⟩ := h
      rfl
  have s1 : SeqAt.shaped (.list ps) = true := by simp [SeqAt.shaped, PyData.canLay0, h1, PyData.depth]; omega
  have s2 : SeqAt.shaped (.list []) = true := by decide
  simp only [dNe, eqD, toPy, h, Option.map_some, Option.bind_some, toPys, s1, s2, eqv_nil, hl]
  rfl
theorem lays_enc : ∀ {qs : List Rat}, PyData.canLayAll0 (qs.map pyQ) = true ∧ PyData.depthAll (qs.map pyQ) ≤ 1
  | [] => ⟨rfl, by simp [PyData.depthAll]⟩
  | q :: qs => by
    obtain ⟨h1, h2⟩ := lays_enc (qs := qs)
    refine ⟨by simp [PyData.canLayAll0, h1, pyQ, PyData.canLay0], ?_⟩
    simp only [List.map_cons, PyData.depthAll, pyQ, PyData.depth]
    simp; omega
@[simp] theorem ne_nilQ {qs : List Rat} : dNe (.lst (qs.map encQ)) (.lst []) = some (.bl (!qs.isEmpty)) := by
  rw [ne_nil toPys_enc lays_enc.1 (Nat.le_trans lays_enc.2 (by decide))]; simp
theorem ne_nilI {is : List Int} : dNe (.lst (is.map D.int)) (.lst []) = some (.bl (!is.isEmpty)) := by
  have e1 : ∀ {is : List Int}, toPys (is.map D.int) = some (is.map PyData.int) := fun {is} => by
    induction is with
    | nil => rfl
    | cons x xs ih => simp [toPys, toPy, ih]
  have e3 : ∀ {is : List Int}, PyData.canLayAll0 (is.map PyData.int) = true := fun {is} => by
    induction is with
    | nil => rfl
    | cons x xs ih => simp [PyData.canLayAll0, PyData.canLay0, ih]
  have e4 : ∀ {is : List Int}, PyData.depthAll (is.map PyData.int) = 0 := fun {is} => by
    induction is with
    | nil => rfl
    | cons x xs ih => simp [PyData.depthAll, PyData.depth, ih]
  rw [ne_nil e1 e3 (by rw [e4]; decide)]; simp
theorem ne_nilS {xs : List Str} (h : ∀ x ∈ xs, PyData.strOk x = true) : dNe (.lst (xs.map D.str)) (.lst []) = some (.bl (!xs.isEmpty)) := by
  have e1 : ∀ {xs : List Str}, toPys (xs.map D.str) = some (xs.map PyData.str) := fun {xs} => by
    induction xs with
    | nil => rfl
    | cons x xs ih => simp [toPys, toPy, ih]
  have e3 : ∀ {xs : List Str}, (∀ x ∈ xs, PyData.strOk x = true) → PyData.canLayAll0 (xs.map PyData.str) = true := fun {xs} h => by
    induction xs with
    | nil => rfl
    | cons x xs ih => simp [PyData.canLayAll0, PyData.canLay0, h x (by simp), ih fun y hy => h y (by simp [hy])]
  have e4 : ∀ {xs : List Str}, PyData.depthAll (xs.map PyData.str) = 0 := fun {xs} => by
    induction xs with
    | nil => rfl
    | cons x xs ih => simp [PyData.depthAll, PyData.depth, ih]
  rw [ne_nil e1 (e3 h) (by rw [e4]; decide)]; simp
theorem put_len {s : List (Str × Rat)} {x : Str} {q : Rat} : (put s x q).length ≤ s.length + 1 := by unfold put; split <;> simp
theorem fold_len {h : Rat} : ∀ {rs : List (Row Str)} {s : List (Str × Rat)}, (rs.foldl (fun acc r => put acc r.name (at_ r h)) s).length ≤ s.length + rs.length
  | [], s => by simp
  | r :: rs, s => by
    have h1 := fold_len (h := h) (rs := rs) (s := put s r.name (at_ r h))
    have h2 := put_len (s := s) (x := r.name) (q := at_ r h)
    rw [List.foldl_cons, List.length_cons]; omega
theorem tab_len {N : Net Str} {s : List (Str × Rat)} (t : Tab N s) : s.length ≤ N.rows.length := by
  have := len_sub (l := s.map (·.1)) (m := N.rows.map Row.name) t.nd fun x hx => by
    obtain ⟨r, hr, rfl⟩ := t.ks x hx
    exact List.mem_map.2 ⟨r, hr, rfl⟩
  simpa using this
def rooms (N : Net Str) : List (Str × Rat) := N.wires.map fun c => (c.1, (c.2 : Rat))
theorem get_rooms {N : Net Str} (ok : Ok N) {c : Str × Nat} (hc : c ∈ N.wires) : get (rooms N) c.1 = some (c.2 : Rat) := get_map (fun c : Str × Nat => c.1) (fun c => (c.2 : Rat)) ok.wd hc
theorem get_loads {N : Net Str} (ok : Ok N) {s : List (Str × Rat)} {h : Rat} {c : Str × Nat} (hc : c ∈ N.wires) : get (N.wires.map fun c => (c.1, Fa.load N s h c.1)) c.1 = some (Fa.load N s h c.1) := get_map (fun c : Str × Nat => c.1) (fun c => Fa.load N s h c.1) ok.wd hc
theorem wire_inj {N : Net Str} (ok : Ok N) {c e : Str × Nat} (hc : c ∈ N.wires) (he : e ∈ N.wires) (h : c.1 = e.1) : c = e := by
  have h1 := get_rooms ok hc
  have h2 := get_rooms ok he
  rw [h, h2] at h1
  have h3 : (e.2 : Rat) = (c.2 : Rat) := by simpa using h1
  have h4 : e.2 = c.2 := Rat.natCast_inj.1 h3
  exact Prod.ext h h4.symm
/-- full, as it is asked -/
theorem full_eq {N : Net Str} (ok : Ok N) {s : List (Str × Rat)} {h : Rat} {r : Row Str} (hr : r ∈ N.rows) : full N s h r = r.lines.any fun x => decide (Fa.load N s h x = (get (rooms N) x).getD 0) := by
  unfold full
  rw [Bool.eq_iff_iff, List.any_eq_true, List.any_eq_true]
  constructor
  · rintro ⟨x, hx, h1⟩
    obtain ⟨c, hc, h2⟩ := List.any_eq_true.1 h1
    simp only [Bool.and_eq_true, decide_eq_true_eq] at h2
    refine ⟨x, hx, ?_⟩
    rw [← h2.1, get_rooms ok hc]
    simp
    rw [h2.1]; exact h2.2
  · rintro ⟨x, hx, h1⟩
    obtain ⟨c, hc⟩ := (ok.ln r hr).2 x hx
    refine ⟨x, hx, List.any_eq_true.2 ⟨_, hc, ?_⟩⟩
    have e := get_rooms ok hc
    dsimp only at e
    rw [e] at h1
    simpa using h1
theorem filter_empty {β : Type} {p : β → Bool} : ∀ {l : List β}, (l.filter p).isEmpty = !l.any p
  | [] => rfl
  | x :: l => by
    by_cases h : p x = true
    · rw [List.filter_cons_of_pos h, List.any_cons, h]; rfl
    · have h' : p x = false := by simpa using h
      rw [List.filter_cons_of_neg h, List.any_cons, h', filter_empty]; rfl
theorem take_succ {β : Type} {l : List β} {i : Nat} {b : β} (h : l[i]? = some b) : l.take (i + 1) = l.take i ++ [b] := by rw [List.take_add_one, h]; rfl
end PD
namespace Lw
open PySem L2 PD Fa
section
variable {N : Net Str} {k : Nat} {s : List (Str × Rat)} {h : Rat}
theorem okE_cut {α : Type} {o : RE α} {Q : α → PD.Env → Prop} (h : ∀ K : α → PD.Env → Prop, (∀ a δ, Q a δ → K a δ) → okE o K) : okE o Q := h Q fun _ _ h => h
theorem stopped_ok (ok : NetOk N) (st : St N k s h) : d__law_stopped [encNet N, encS (rooms N), encS s, encQ h] = some (.ok (encS (stop N s h))) := by
  apply eq_of_okR
  refine den_ok rfl ?_
  have hk := st.hk
  have hL := loads_ok ok st
  have hfew := ok.ok.few
  have hsl := tab_len st.t
  have hLd : ∀ {c : Str × Nat}, c ∈ N.wires → get (N.wires.map fun c => (c.1, Fa.load N s h c.1)) c.1 = some (Fa.load N s h c.1) := fun hc => get_loads ok.ok hc
  generalize hLds : (N.wires.map fun c => (c.1, Fa.load N s h c.1)) = Lds at hL hLd
  generalize hNet : encNet N = Net' at *
  have hN1 : dIx Net' (.int 1) = some (.tup (N.rows.map encRow)) := by rw [← hNet]; rfl
  simp [ok_par2, hL, dDict_enc]
  rw [hN1]; simp
  refine okS_for (fun i δ => ∃ x6 x7 x8, δ = [some Net', some (encS (rooms N)), some (encS s), some (encQ h), some (encS Lds), some (encS (((N.rows.take i).filter (stops N s h)).foldl (fun acc r => put acc r.name (at_ r h)) s)), x6, x7, x8, none]) (n := 0) ⟨none, none, none, rfl⟩ ?_ ?_
  · rintro i d δ hi ⟨x6, x7, x8, rfl⟩
    rw [Nat.zero_add, List.getElem?_map, Option.map_eq_some_iff] at *
    obtain ⟨r, hc, rfl⟩ := hi
    have hr : r ∈ N.rows := List.mem_of_getElem? hc
    have hA := at_ok ok st hr
    generalize hF : ((N.rows.take i).filter (stops N s h)).foldl (fun acc r => put acc r.name (at_ r h)) s = Fd
    have hFl : Fd.length ≤ 16 := by
      rw [← hF]
      have h1 := fold_len (h := h) (rs := (N.rows.take i).filter (stops N s h)) (s := s)
      have h2 := List.length_filter_le (stops N s h) (N.rows.take i)
      have h3 : (N.rows.take i).length ≤ N.rows.length := by rw [List.length_take]; omega
      omega
    have hNext : ((N.rows.take (i + 1)).filter (stops N s h)).foldl (fun acc r => put acc r.name (at_ r h)) s = if stops N s h r = true then put Fd r.name (at_ r h) else Fd := by
      rw [take_succ hc, List.filter_append, List.foldl_append, hF]
      by_cases hs : stops N s h r = true
      · rw [if_pos hs, List.filter_cons_of_pos hs]; rfl
      · rw [if_neg hs, List.filter_cons_of_neg hs]; rfl
    rw [hNext]
    refine ⟨_, rfl, ?_⟩
    refine okS_step fun K hK _ => ?_
    simp [hA]
    refine hK _ ?_
    clear hK
    refine okS_step fun K hK _ => ?_
    simp only [okS_set, okE_lf, okR_op2, okR_pur, okE_ecomp, okE_iany]
    simp [encRow]
    refine okE_compR (enc := D.str) (T := fun x => decide (Fa.load N s h x = (get (rooms N) x).getD 0)) (F := D.str) (fun x hx => ?_) ?_ ?_
    · obtain ⟨c, hc2, rfl⟩ := wire_ok ok hr hx
      simp [hLd hc2, get_rooms ok.ok hc2]
    · have h1 := ok.ll r hr
      simp; exact sz (by omega)
    · have eb : (!(r.lines.filter fun x => decide (Fa.load N s h x = (get (rooms N) x).getD 0)).isEmpty) = full N s h r := by
        rw [full_eq ok.ok hr, filter_empty, Bool.not_not]
      rw [List.nil_append, okR_vlst, okR_anil]
      refine ⟨sz (by simp), ?_⟩
      rw [ne_nilS (fun x hx => (ok.rn r hr).2 x (List.mem_filter.1 hx).1), eb, okO_some]
      refine hK _ ?_
      clear hK
      have go1 : ∀ K : Out → PD.Env → Prop, (∀ x6 x7 x8, K .nx [some Net', some (encS (rooms N)), some (encS s), some (encQ h), some (encS Lds), some (encS (if stops N s h r = true then put Fd r.name (at_ r h) else Fd)), x6, x7, x8, none]) → stops N s h r = true → ∀ x6 x7 x8, K .nx [some Net', some (encS (rooms N)), some (encS s), some (encQ h), some (encS Lds), some (encS (put Fd r.name (at_ r h))), x6, x7, x8, none] := fun K hK z x6 x7 x8 => by
        have := hK x6 x7 x8
        rw [if_pos z] at this; exact this
      have go0 : ∀ K : Out → PD.Env → Prop, (∀ x6 x7 x8, K .nx [some Net', some (encS (rooms N)), some (encS s), some (encQ h), some (encS Lds), some (encS (if stops N s h r = true then put Fd r.name (at_ r h) else Fd)), x6, x7, x8, none]) → stops N s h r = false → ∀ x6 x7 x8, K .nx [some Net', some (encS (rooms N)), some (encS s), some (encQ h), some (encS Lds), some (encS Fd), x6, x7, x8, none] := fun K hK z x6 x7 x8 => by
        have := hK x6 x7 x8
        rw [if_neg (by rw [z]; simp)] at this; exact this
      refine okE_cut fun K hK => ?_
      replace go1 := go1 K fun x6 x7 x8 => hK .nx _ ⟨x6, x7, x8, rfl⟩
      replace go0 := go0 K fun x6 x7 x8 => hK .nx _ ⟨x6, x7, x8, rfl⟩
      clear hK
      have hst : stops N s h r = ((get s r.name).isNone && (full N s h r || most r h)) := rfl
      have hFl2 : (encK Fd).length < sizeLine := Nat.lt_of_lt_of_le (show _ < 100 by rw [encK_len]; omega) (sz (by omega))
      have fin : stops N s h r = true → ∀ x6 x7 x8, K .nx [some Net', some (encS (rooms N)), some (encS s), some (encQ h), some (encS Lds), some (.dic (putD (encK Fd) (.inr r.name) (encQ (at_ r h)))), x6, x7, x8, none] := fun z x6 x7 x8 => by
        rw [put_enc]; exact go1 z x6 x7 x8
      generalize hat : at_ r h = At at *
      cases hg : get s r.name with
      | some q =>
        simp [hg]
        exact go0 (by rw [hst, hg]; rfl) _ _ _
      | none =>
        cases hf : full N s h r with
        | true =>
          simp [hg]
          exact ⟨hFl2, fin (by rw [hst, hg, hf]; rfl) _ _ _⟩
        | false =>
          cases hh : r.hi with
          | none =>
            simp [hg, encHi, PD.isNon]
            exact go0 (by rw [hst, hg, hf, most, hh]; rfl) _ _ _
          | some m =>
            simp [hg, encHi, PD.isNon]
            refine ⟨sz (by omega), ?_⟩
            rw [← enc_nat, dEq_enc, okO_some]
            have hm : most r h = decide (At = (m : Rat)) := by rw [most, hh, hat]
            by_cases hA2 : At = (m : Rat)
            · simp [hA2]
              rw [← hA2]
              exact ⟨hFl2, fin (by rw [hst, hg, hf, hm]; simp [hA2]) _ _ _⟩
            · simp [hA2]
              exact go0 (by rw [hst, hg, hf, hm]; simp [hA2]) _ _ _
  · rintro δ ⟨x6, x7, x8, rfl⟩
    simp [bxIn, stop]
end
end Lw
end
section
namespace PD
open PySem L2 Fa
theorem div_enc {a b : Nat} (hb : 0 < b) : Rat.divInt (a : Int) (b : Int) = (a : Rat) / (b : Rat) := by
  rw [Rat.divInt_eq_div, Rat.intCast_natCast, Rat.intCast_natCast]
theorem sum_w {rs : List (Row Str)} : ((rs.map fun r => (r.w : Int)).sum) = (wsum rs : Int) := by
  unfold wsum
  induction rs with
  | nil => rfl
  | cons r rs ih => simp [ih]
theorem evR_len {r : Row Str} : (evR r).length ≤ 2 := by unfold evR; cases r.hi <;> simp
theorem flat_len {β γ : Type} {f : β → List γ} {n : Nat} (hf : ∀ b, (f b).length ≤ n) : ∀ {l : List β}, (l.flatMap f).length ≤ n * l.length
  | [] => by simp
  | b :: l => by
    have h1 := hf b
    have h2 := flat_len hf (l := l)
    rw [List.flatMap_cons, List.length_append, List.length_cons, Nat.mul_succ]; omega
theorem evL_len {N : Net Str} {s : List (Str × Rat)} {h : Rat} {c : Str × Nat} : (evL N s h c).length ≤ 1 := by unfold evL; split <;> simp
theorem lev_bd {N : Net Str} (ok : Ok N) {r : Row Str} (hr : r ∈ N.rows) : Bd (lev r) := by
  have hw := ok.w1 r hr
  have hl := ok.lo r hr
  have h1 := div_nonneg (a := (r.lo : Rat)) (n := r.w) Rat.natCast_nonneg (by omega)
  have h2 := div_le_self (a := (r.lo : Rat)) (n := r.w) Rat.natCast_nonneg (by omega)
  have h3 : (r.lo : Rat) ≤ ((2 : Nat) : Rat) := Rat.natCast_le_natCast.2 hl
  have e : ((2 : Nat) : Rat) = 2 := rfl
  have d : DenL 1 ((r.lo : Rat) / (r.w : Rat)) := (DenL.nat (k := 0) r.lo).div (by omega) (small_dvd _ (by omega) (by omega))
  exact Sm.bd (k := 1) ⟨d, by unfold lev; grind, by unfold lev; grind⟩ (by omega)
theorem load_nonneg {N : Net Str} {k : Nat} {s : List (Str × Rat)} {h : Rat} (st : St N k s h) {x : Str} : 0 ≤ load N s h x := by
  unfold Fa.load
  exact sum_nonneg fun q hq => by obtain ⟨r, _, rfl⟩ := List.mem_map.1 hq; exact val_nonneg st.I r
end PD
namespace Lw
open PySem L2 PD Fa
section
variable {N : Net Str} {k : Nat} {s : List (Str × Rat)} {h : Rat}
theorem terms_nat {a b : Nat} (hb : 0 < b) (hb2 : b < 2 ^ 100) : d__law_terms [.int a, .int b] = some (.ok (encQ ((a : Rat) / (b : Rat)))) := by
  rw [terms_pos hb (Nat.lt_of_lt_of_le hb2 (Nat.pow_le_pow_right (by decide) (by decide))), div_enc hb]
theorem events_ok (ok : NetOk N) (st : St N k s h) : d__law_events [encNet N, encS (rooms N), encS s, encQ h] = some (.ok (.lst ((events N s h).map encQ))) := by
  apply eq_of_okR
  refine den_ok rfl ?_
  have hk := st.hk
  have hL := loads_ok ok st
  have hfew := ok.ok.few
  have hLd : ∀ {c : Str × Nat}, c ∈ N.wires → get (N.wires.map fun c => (c.1, Fa.load N s h c.1)) c.1 = some (Fa.load N s h c.1) := fun hc => get_loads ok.ok hc
  generalize hLds : (N.wires.map fun c => (c.1, Fa.load N s h c.1)) = Lds at hL hLd
  generalize hNet : encNet N = Net' at *
  have hN1 : dIx Net' (.int 1) = some (.tup (N.rows.map encRow)) := by rw [← hNet]; rfl
  have hN0 : dIx Net' (.int 0) = some (.tup (N.wires.map encWire)) := by rw [← hNet]; rfl
  refine okS_step fun K hK _ => ?_
  simp [ok_par2, hL]
  refine hK _ ?_
  clear hK
  refine okS_step fun K hK _ => ?_
  simp
  rw [hN1]; simp
  refine okS_for (fun i δ => ∃ x6, δ = [some Net', some (encS (rooms N)), some (encS s), some (encQ h), some (.lst ((((N.rows.take i).filter fun r => (get s r.name).isNone).flatMap evR).map encQ)), some (encS Lds), x6, none, none, none, none, none]) (n := 0) ⟨none, rfl⟩ ?_ ?_
  · rintro i d δ hi ⟨x6, rfl⟩
    rw [Nat.zero_add, List.getElem?_map, Option.map_eq_some_iff] at *
    obtain ⟨r, hc, rfl⟩ := hi
    have hr : r ∈ N.rows := List.mem_of_getElem? hc
    have hw := ok.ok.w1 r hr
    have hT := terms_nat (a := r.lo) (b := r.w) (by omega) (Nat.lt_of_le_of_lt hw.2 (by decide))
    have hTm : ∀ m : Nat, d__law_terms [.int m, .int r.w] = some (.ok (encQ ((m : Rat) / (r.w : Rat)))) := fun m => terms_nat (by omega) (Nat.lt_of_le_of_lt hw.2 (by decide))
    generalize hF : ((N.rows.take i).filter fun r => (get s r.name).isNone).flatMap evR = Fd
    have hFl : Fd.length ≤ 16 := by
      rw [← hF]
      have h1 := flat_len (f := evR) (n := 2) (fun r => evR_len) (l := (N.rows.take i).filter fun r => (get s r.name).isNone)
      have h2 := List.length_filter_le (fun r => (get s r.name).isNone) (N.rows.take i)
      have h3 : (N.rows.take i).length ≤ N.rows.length := by rw [List.length_take]; omega
      omega
    have hNext : ((N.rows.take (i + 1)).filter fun r => (get s r.name).isNone).flatMap evR = if (get s r.name).isNone = true then Fd ++ evR r else Fd := by
      rw [take_succ hc, List.filter_append, List.flatMap_append, hF]
      by_cases hs : (get s r.name).isNone = true
      · rw [if_pos hs, List.filter_cons_of_pos (p := fun r : Row Str => (get s r.name).isNone) hs]; simp
      · rw [if_neg hs, List.filter_cons_of_neg (p := fun r : Row Str => (get s r.name).isNone) hs]; simp
    rw [hNext]
    refine ⟨_, rfl, ?_⟩
    have l1 : Fd.length < sizeLine := Nat.lt_of_lt_of_le (show _ < 100 by omega) (sz (by omega))
    have l2 : Fd.length + 1 < sizeLine := Nat.lt_of_lt_of_le (show _ < 100 by omega) (sz (by omega))
    cases hg : get s r.name with
    | some q =>
      simp [encRow, hg]
    | none =>
      cases hh : r.hi with
      | none =>
        simp [encRow, hg, encHi, PD.isNon, hT, hh, evR, lev]
        exact l1
      | some m =>
        simp [encRow, hg, encHi, PD.isNon, hT, hTm, hh, evR, lev]
        exact ⟨l1, l2⟩
  · rintro δ ⟨x6, rfl⟩
    rw [show (0 + (N.rows.map encRow).length) = N.rows.length by simp, List.take_of_length_le (Nat.le_refl _)]
    generalize hE1 : (N.rows.filter fun r => (get s r.name).isNone).flatMap evR = E1
    have hE1l : E1.length ≤ 16 := by
      rw [← hE1]
      have h1 := flat_len (f := evR) (n := 2) (fun r => evR_len) (l := N.rows.filter fun r => (get s r.name).isNone)
      have h2 := List.length_filter_le (fun r => (get s r.name).isNone) N.rows
      omega
    refine hK _ ?_
    clear hK
    simp
    rw [hN0]; simp
    refine okS_for (fun i δ => ∃ x6 x7 x8 x9 x10 x11, δ = [some Net', some (encS (rooms N)), some (encS s), some (encQ h), some (.lst ((E1 ++ (N.wires.take i).flatMap (evL N s h)).map encQ)), some (encS Lds), x6, x7, x8, x9, x10, x11]) (n := 0) ⟨x6, none, none, none, none, none, by simp⟩ ?_ ?_
    · rintro i d δ hi ⟨x6, x7, x8, x9, x10, x11, rfl⟩
      rw [Nat.zero_add, List.getElem?_map, Option.map_eq_some_iff] at *
      obtain ⟨c, hc, rfl⟩ := hi
      have hcm : c ∈ N.wires := List.mem_of_getElem? hc
      have hd1 := hLd hcm
      have hd2 := get_rooms ok.ok hcm
      have hNext : (N.wires.take (i + 1)).flatMap (evL N s h) = (N.wires.take i).flatMap (evL N s h) ++ evL N s h c := by
        rw [take_succ hc, List.flatMap_append]; simp
      rw [hNext]
      generalize hF : (N.wires.take i).flatMap (evL N s h) = Fd
      have hFl : Fd.length ≤ 9 := by
        rw [← hF]
        have h1 := flat_len (f := evL N s h) (n := 1) (fun c => evL_len) (l := N.wires.take i)
        have h2 : (N.wires.take i).length ≤ N.wires.length := by rw [List.length_take]; omega
        have := ok.fw
        omega
      refine ⟨_, by simp [encWire]; rfl, ?_⟩
      refine okS_step fun K hK _ => ?_
      simp
      rw [hN1]; simp
      refine okE_compR (enc := encRow) (T := fun r => onL c.1 r && (get s r.name).isNone) (F := encRow) (fun r hr => ?_) ?_ ?_
      · simp [encRow]
        rw [ok.dIn hcm hr]; generalize onL c.1 r = b; rcases Bool.eq_false_or_eq_true b with e | e <;> simp [e]
      · simp; exact sz (by omega)
      refine hK _ ?_
      clear hK
      refine okS_step fun K hK _ => ?_
      simp
      refine okE_compR (enc := encRow) (T := fun r => !decide (h < lev r)) (F := fun r => D.int (r.w : Int)) (fun r hr => ?_) ?_ ?_
      · have hr' : r ∈ N.rows := (List.mem_filter.1 hr).1
        have hw := ok.ok.w1 r hr'
        have hT : d__law_terms [.int r.lo, .int r.w] = some (.ok (encQ (lev r))) := terms_nat (a := r.lo) (b := r.w) (by omega) (Nat.lt_of_le_of_lt hw.2 (by decide))
        have hU := under_ok (p := h) (q := lev r) (st.sh.bd (by omega)) (lev_bd ok.ok hr')
        simp [encRow, hT, hU]
      · simp; exact sz (by have := List.length_filter_le (fun r => onL c.1 r && (get s r.name).isNone) N.rows; omega)
      refine hK _ ?_
      clear hK
      have hR : (List.filter (fun r => !decide (h < lev r)) (List.filter (fun r => onL c.1 r && (get s r.name).isNone) N.rows)) = rising N s h c.1 := by
        rw [List.filter_filter]; unfold rising; congr; funext r; rw [Bool.and_comm]
      rw [hR, List.nil_append]
      have hE : evL N s h c = if rising N s h c.1 = [] then [] else [h + ((c.2 : Rat) - load N s h c.1) / (wsum (rising N s h c.1) : Rat)] := rfl
      have hsum : dSum (.lst ((rising N s h c.1).map fun r => D.int (r.w : Int))) = some (.int (wsum (rising N s h c.1) : Nat)) := by
        rw [dSum, dints_map, ← sum_w]; rfl
      have hne : dNe (.lst ((rising N s h c.1).map fun r => D.int (r.w : Int))) (.lst []) = some (.bl (!(rising N s h c.1).isEmpty)) := by
        have := ne_nilI (is := (rising N s h c.1).map fun r => (r.w : Int))
        rw [List.map_map] at this
        rw [show (fun r : Row Str => D.int (r.w : Int)) = D.int ∘ fun r : Row Str => (r.w : Int) from rfl, this]; simp
      have hl2 : (E1 ++ Fd).length < sizeLine := Nat.lt_of_lt_of_le (show _ < 100 by rw [List.length_append]; omega) (sz (by omega))
      have w0 := wsum_pos ok.ok (rs := rising N s h c.1) rising_sub
      have w1 := wsum24 ok.ok (s := s) (h := h) (x := c.1)
      generalize rising N s h c.1 = Rs at *
      rcases Rs with _ | ⟨r0, Rs⟩
      · rw [hE]
        have h0 : dNe (.lst []) (.lst []) = some (.bl false) := ne_nilI (is := [])
        simp [h0]
      · rw [hE]
        have hc64 := ok.ok.cap c hcm
        have l0 : 0 ≤ load N s h c.1 := load_nonneg st
        have l1 := st.I.ld c hcm
        have c64 := cap64 ok.ok hcm
        have s1 := st.sload ok.ok hcm
        have hM := minus_ok (p := (c.2 : Rat)) (q := load N s h c.1) ((sm_nat (k := k) (by omega)).bd (by omega)) (s1.bd (by omega))
        have dM : DenL k ((c.2 : Rat) - load N s h c.1) := (DenL.nat _).sub s1.d
        have hP := part_ok (p := (c.2 : Rat) - load N s h c.1) (n := wsum (r0 :: Rs)) (Sm.bd ⟨dM, by grind, by grind⟩ (by omega)) (w0 (by simp)) (Nat.lt_of_le_of_lt w1 (by decide))
        have hev : h + ((c.2 : Rat) - load N s h c.1) / (wsum (r0 :: Rs) : Rat) = h + ((c.2 : Rat) - load N s h c.1) / (wsum (r0 :: Rs) : Rat) := rfl
        have dv0 := div_nonneg (a := (c.2 : Rat) - load N s h c.1) (n := wsum (r0 :: Rs)) (by grind) (w0 (by simp))
        have dv1 := div_le_self (a := (c.2 : Rat) - load N s h c.1) (n := wsum (r0 :: Rs)) (by grind) (w0 (by simp))
        have hQ := plus_ok (p := h) (q := ((c.2 : Rat) - load N s h c.1) / (wsum (r0 :: Rs) : Rat)) (st.sh.bd (by omega)) (Sm.bd (k := k + 1) ⟨dM.div (w0 (by simp)) (small_dvd _ (w0 (by simp)) w1), by grind, by grind⟩ (by omega))
        rw [if_neg (by simp)]
        generalize wsum (r0 :: Rs) = W at *
        have hne : dNe (.lst ((r0 :: Rs).map fun r => D.int (r.w : Int))) (.lst []) = some (.bl true) := hne
        generalize (r0 :: Rs).map (fun r : Row Str => D.int (r.w : Int)) = Wl at hne hsum ⊢
        simp only [okS_if, okE_lf, okR_tb, okR_op2]
        simp [hne, hd1, hd2, hsum, hM]
        refine ⟨sz (by omega), ?_⟩
        rw [hP]; simp [hQ]
        simpa using hl2
    · rintro δ ⟨x6, x7, x8, x9, x10, x11, rfl⟩
      rw [show (0 + (N.wires.map encWire).length) = N.wires.length by simp, List.take_of_length_le (Nat.le_refl _)]
      simp [bxIn, events, hE1]
end
end Lw
end
section
namespace PD
open PySem L2 Fa
theorem pairsD_map {β : Type} {f : β → Str} {g : β → D} : ∀ {l : List β}, pairsD (l.map fun b => .tup [.str (f b), g b]) = some (l.map fun b => (Sum.inr (f b), g b))
  | [] => rfl
  | b :: l => by simp [pairsD, pairsD_map (l := l)]
theorem merge_nodup : ∀ {l acc : List (Key × D)}, ((acc ++ l).map (·.1)).Nodup → mergeD acc l = acc ++ l
  | [], acc, _ => by simp [mergeD]
  | kv :: l, acc, h => by
    have e : putD acc kv.1 kv.2 = acc ++ [kv] := by
      unfold putD
      rw [if_neg]
      intro z
      obtain ⟨kv2, h1, h2⟩ := List.any_eq_true.1 z
      rw [List.map_append, List.nodup_append] at h
      exact h.2.2 kv2.1 (List.mem_map.2 ⟨kv2, h1, rfl⟩) kv.1 (by simp) (by simpa using h2)
    have h2 := merge_nodup (l := l) (acc := acc ++ [kv]) (by simpa using h)
    unfold mergeD at h2 ⊢
    rw [List.foldl_cons, e, h2]; simp
theorem nodup_inr {β : Type} {f : β → Str} {g : β → D} {l : List β} (h : (l.map f).Nodup) : ((l.map fun b => ((Sum.inr (f b) : Key), g b)).map (·.1)).Nodup := by
  rw [List.map_map]
  have : ((l.map f).map (Sum.inr : Str → Key)).Nodup := List.Pairwise.map _ (fun a b hab e => hab (by cases e; rfl)) h
  rwa [List.map_map] at this
theorem dDict_lst {β : Type} {f : β → Str} {g : β → D} {l : List β} (h : (l.map f).Nodup) : dDict (.lst (l.map fun b => .tup [.str (f b), g b])) = some (.dic (l.map fun b => (Sum.inr (f b), g b))) := by
  rw [dDict, pairsD_map, Option.map_some, merge_nodup (by rw [List.nil_append]; exact nodup_inr h)]; rfl
theorem dDict_tup {β : Type} {f : β → Str} {g : β → D} {l : List β} (h : (l.map f).Nodup) : dDict (.tup (l.map fun b => .tup [.str (f b), g b])) = some (.dic (l.map fun b => (Sum.inr (f b), g b))) := by
  rw [dDict, pairsD_map, Option.map_some, merge_nodup (by rw [List.nil_append]; exact nodup_inr h)]; rfl
@[simp] theorem dLen_enc {s : List (Str × Rat)} : dLen (encS s) = some (.int s.length) := by simp [encS, dLen, encK_len]
/-- the fair shares -/
structure Shares (N : Net Str) (k : Nat) (s : List (Str × Rat)) : Prop where
  t : Tab N s
  all : ∀ r ∈ N.rows, ∃ q, get s r.name = some q
  sm : ∀ x q, get s x = some q → DenL k q ∧ 0 ≤ q ∧ q ≤ 64
theorem St.fair {N : Net Str} {k : Nat} {s : List (Str × Rat)} {h : Rat} (ok : Ok N) (st : St N k s h) (hn : ¬ s.length < N.rows.length) : Shares N k s where
  t := st.t
  all := fun r hr => by
    cases e : get s r.name with
    | some q => exact ⟨q, rfl⟩
    | none => exact absurd ((tab_less ok st.t).2 ⟨r, hr, e⟩) hn
  sm := fun x q e => by
    obtain ⟨r, hr, rfl⟩ := st.t.keys x q e
    refine ⟨st.d.s _ _ e, st.I.nn _ _ e, ?_⟩
    have := val_le ok st.I hr
    unfold val at this
    rw [e] at this; exact this
theorem P_ge {N : Net Str} {s : List (Str × Rat)} {h : Rat} {r : Row Str} (hr : r ∈ N.rows) (hg : get s r.name = none) : 2 ≤ P N s h := by
  have : 0 < nUn N s := List.length_pos_of_mem (List.mem_filter.2 ⟨hr, by rw [hg]; rfl⟩)
  unfold P; omega
theorem P_end {N : Net Str} {s : List (Str × Rat)} {h : Rat} (hn : ∀ r ∈ N.rows, get s r.name ≠ none) : P N s h ≤ 1 := by
  have e1 : nUn N s = 0 := by
    unfold nUn
    rw [List.length_eq_zero_iff, List.filter_eq_nil_iff]
    intro r hr z
    exact hn r hr (Option.isNone_iff_eq_none.1 z)
  have e2 : nLow N s h = 0 := by
    unfold nLow
    rw [List.length_eq_zero_iff, List.filter_eq_nil_iff]
    intro r hr z
    rw [Bool.and_eq_true] at z
    exact hn r hr (Option.isNone_iff_eq_none.1 z.1)
  unfold P; rw [e1, e2]; split <;> omega
theorem St.next {N : Net Str} {k : Nat} {s : List (Str × Rat)} {h h' : Rat} (ok : Ok N) (st : St N k s h) (hk : k + 1 ≤ 90) (hm : h' ∈ later N (Fa.stop N s h) h) (hmin : ∀ e ∈ later N (Fa.stop N s h) h, h' ≤ e) : St N (k + 1) (Fa.stop N s h) h' ∧ P N (Fa.stop N s h) h' < P N s h := by
  have st1 := st.stop ok
  have hn := inv_next ok st1.I (calm_stop ok) hm hmin
  refine ⟨⟨hn.1, ⟨den_event ok st1.d (mem_later.1 hm).1, fun x q e => (st1.d.s x q e).mono (by omega)⟩, (event_bd ok st1.I (mem_later.1 hm).1).2, hk, st1.t⟩, P_less ok st.I st.t.keys hm hmin⟩
theorem ev_sm {N : Net Str} {k : Nat} {s : List (Str × Rat)} {h e : Rat} (ok : Ok N) (st : St N k s h) (he : e ∈ events N s h) : Sm (k + 1) e := by
  have := event_bd ok st.I he
  exact ⟨den_event ok st.d he, by grind, by grind⟩
theorem st0 {N : Net Str} (ok : Ok N) : St N 0 [] 0 where
  I := inv0 ok
  d := ⟨DenL.nat 0, fun x q e => by simp [Fa.get] at e⟩
  hb := by grind
  hk := by omega
  t := tab0
theorem minQ_take {l : List Rat} {i : Nat} {e a : Rat} (h : l[i]? = some e) : minQ a (l.take (i + 1)) = if e < minQ a (l.take i) then e else minQ a (l.take i) := by
  rw [take_succ h]; unfold minQ; rw [List.foldl_append]; rfl
theorem minQ_in {l : List Rat} {a : Rat} (ha : a ∈ l) (i : Nat) : minQ a (l.take i) ∈ l := by
  rcases (minQ_spec (l.take i) a).1 with e | e
  · rw [e]; exact ha
  · exact List.mem_of_mem_take e
end PD
namespace Lw
open PySem L2 PD Fa
section
variable {N : Net Str}
theorem events_len (ok : NetOk N) {s : List (Str × Rat)} {h : Rat} : (events N s h).length ≤ 30 := by
  unfold events
  have h1 := flat_len (f := evR) (n := 2) (fun r => evR_len) (l := N.rows.filter fun r => (get s r.name).isNone)
  have h2 := List.length_filter_le (fun r => (get s r.name).isNone) N.rows
  have h3 := flat_len (f := evL N s h) (n := 1) (fun c => evL_len) (l := N.wires)
  have h4 := ok.ok.few
  have h5 := ok.fw
  rw [List.length_append]; omega
theorem fair_ok (ok : NetOk N) : ∃ s, d__law_fair [encNet N] = some (.ok (encS s)) ∧ Shares N 30 s := by
  have key : okR (d__law_fair [encNet N]) fun d => ∃ s, d = encS s ∧ Shares N 30 s := by
    refine den_ok rfl ?_
    have hfew := ok.ok.few
    have hst := fun {k : Nat} {s : List (Str × Rat)} {h : Rat} (st : PD.St N k s h) => stopped_ok ok st
    have hev := fun {k : Nat} {s : List (Str × Rat)} {h : Rat} (st : PD.St N k s h) => events_ok ok st
    generalize hNet : encNet N = Net' at *
    have hN1 : dIx Net' (.int 1) = some (.tup (N.rows.map encRow)) := by rw [← hNet]; rfl
    have hN0 : dIx Net' (.int 0) = some (.tup (N.wires.map encWire)) := by rw [← hNet]; rfl
    refine okS_step fun K hK _ => ?_
    simp
    rw [hN0]; simp
    refine okE_compR (enc := encWire) (T := fun _ => true) (F := fun c => .tup [.str c.1, encQ (c.2 : Rat)]) (fun c hc => ?_) ?_ ?_
    · simp [encWire, isA]
      exact ⟨sz (by omega), (enc_nat _).symm⟩
    · simp; exact sz (by have := ok.fw; omega)
    · rw [List.filter_eq_self.2 (fun _ _ => rfl), List.nil_append]
      have e := dDict_lst (f := fun c : Str × Nat => c.1) (g := fun c => encQ (c.2 : Rat)) (l := N.wires) ok.ok.wd
      have e2 : (D.dic (N.wires.map fun c => (Sum.inr c.1, encQ (c.2 : Rat)))) = encS (rooms N) := by unfold encS encK rooms; rw [List.map_map]; rfl
      rw [e2] at e
      rw [okR_anil, one, e]; simp
      refine hK _ ?_
      clear hK
      refine okS_step fun K hK _ => ?_
      simp
      refine ⟨sz (by omega), hK _ ?_⟩
      clear hK
      refine okS_step fun K hK _ => ?_
      refine okS_while (fun n δ => ∃ s h k x4 x5, δ = [some Net', some (encS (rooms N)), some (encS s), some (encQ h), x4, x5, none, none] ∧ PD.St N k s h ∧ P N s h ≤ n ∧ k + n ≤ 30) ?_ (n := 30) ⟨[], 0, 0, none, none, by rw [show encQ 0 = D.tup [.int 0, .int 1] from enc_nat 0]; rfl, st0 ok.ok, Nat.le_trans (P_bd ok.ok) (by omega), by omega⟩ (by omega)
      rintro n δ ⟨s, h, k, x4, x5, rfl, st, hP, hkn⟩
      refine ⟨?_, trivial⟩
      simp [hN1]
      by_cases hlt : s.length < N.rows.length
      · obtain ⟨r0, hr0, hg0⟩ := (tab_less ok.ok st.t).1 hlt
        have hP2 := P_ge (h := h) hr0 hg0
        have st1 := st.stop ok.ok
        obtain ⟨m, rfl⟩ : ∃ m, n = m + 1 := ⟨n - 1, by omega⟩
        rw [if_pos hlt]
        refine ⟨m, rfl, ?_⟩
        simp [hst st, hev st1]
        have hsd : ∀ {e : Rat}, e ∈ events N (Fa.stop N s h) h → Sm (k + 1) e := fun he => ev_sm ok.ok st1 he
        have hlen := events_len ok (s := Fa.stop N s h) (h := h)
        refine okE_compR (enc := encQ) (T := fun e => decide (h < e)) (F := encQ) (fun e he => ?_) ?_ ?_
        · have hU := under_ok (p := h) (q := e) (st.sh.bd (by omega)) ((hsd he).bd (by omega))
          simp [hU]
        · simp; exact sz (by omega)
        · rw [List.nil_append]
          have hfl : List.filter (fun e => decide (h < e)) (events N (Fa.stop N s h) h) = later N (Fa.stop N s h) h := rfl
          rw [hfl]
          simp
          have hLm : ∀ e ∈ later N (Fa.stop N s h) h, Sm (k + 1) e := fun e he => hsd (mem_later.1 he).1
          have hLl : (later N (Fa.stop N s h) h).length ≤ 30 := Nat.le_trans (List.length_filter_le _ _) hlen
          cases hLe : later N (Fa.stop N s h) h with
          | nil =>
            simp
            refine ⟨_, h, ⟨rfl, rfl⟩, k, st1, ?_, by omega⟩
            have := P_end (N := N) (s := Fa.stop N s h) (h := h) fun r hr hg => later_ne ok.ok st1.I (calm_stop ok.ok) hr hg hLe
            omega
          | cons a L =>
            rw [← hLe]
            have hne : (!(later N (Fa.stop N s h) h).isEmpty) = true := by rw [hLe]; rfl
            have ha : a ∈ later N (Fa.stop N s h) h := by rw [hLe]; simp
            rw [if_neg (by intro z; rw [z] at hne; cases hne)]
            generalize hLL2 : later N (Fa.stop N s h) h = LL2 at *
            have h0 : LL2[0]? = some a := by rw [hLe]; rfl
            simp [h0]
            refine okS_for (fun i δ => ∃ x4, δ = [some Net', some (encS (rooms N)), some (encS (Fa.stop N s h)), some (encQ (minQ a (LL2.take i))), x4, some (.lst (LL2.map encQ)), none, none]) (n := 0) ⟨none, rfl⟩ ?_ ?_
            · rintro i d δ hi ⟨x4, rfl⟩
              rw [Nat.zero_add, List.getElem?_map, Option.map_eq_some_iff] at *
              obtain ⟨e, he, rfl⟩ := hi
              rw [minQ_take he]
              have hU := under_ok (p := e) (q := minQ a (LL2.take i)) ((hLm e (List.mem_of_getElem? he)).bd (by omega)) ((hLm _ (minQ_in ha i)).bd (by omega))
              refine ⟨_, rfl, ?_⟩
              simp [hU]
              split <;> simp
            · rintro δ ⟨x4, rfl⟩
              rw [show (0 + (LL2.map encQ).length) = LL2.length by simp, List.take_of_length_le (Nat.le_refl _)]
              have hm := minQ_mem ha
              have := st.next ok.ok (by omega) (by rw [hLL2]; exact hm.1) (by rw [hLL2]; exact hm.2)
              exact ⟨_, _, k + 1, _, _, rfl, this.1, by omega, by omega⟩
      · rw [if_neg hlt]
        refine hK _ ?_
        simp
        have := st.fair ok.ok hlt
        exact ⟨s, rfl, this.t, this.all, fun x q e => ⟨(this.sm x q e).1.mono (by omega), (this.sm x q e).2⟩⟩
  obtain ⟨d, e, s, rfl, hs⟩ := key
  exact ⟨s, e, hs⟩
end
end Lw
end
section
namespace Lw
open PySem L2 PD
/-! ### the law's draws -/
structure Box (n : Nat) (B : List D) : Prop where
  is : ∃ a b e : Int, B = [.int a, .int b, .int e] ∧ 0 ≤ b ∧ b < 2 ^ 62 ∧ 0 ≤ e ∧ e ≤ n
theorem Box.mono {n m : Nat} {B : List D} (h : Box n B) (k : n ≤ m) : Box m B := by
  obtain ⟨a, b, e, r, h1, h2, h3, h4⟩ := h
  exact ⟨a, b, e, r, h1, h2, h3, by omega⟩
theorem take_ok {n : Nat} {B : List D} {m : Int} (hB : Box n B) (hn : n < 2 ^ 40) (hm : 0 < m) (hm2 : m < 2 ^ 60) : ∃ r B', d__law_take B [.int m] = some (r, B') ∧ ∃ i : Int, r = .int i ∧ 0 ≤ i ∧ i < m ∧ Box (n + 1) B' := by
  obtain ⟨a, b, e, rfl, h1, h2, h3, h4⟩ := hB
  refine denB_ok rfl ?_
  by_cases ha : 0 < a
  · simp [ha, dMod_ok hm, dFdiv_ok hm (show m < 2 ^ 200 by omega)]
    exact ⟨(fmod_bd hm).1, (fmod_bd hm).2, ⟨_, _, _, rfl, h1, h2, h3, by omega⟩⟩
  · simp [ha]
    rw [dMul_r (by omega) (by omega)]; simp
    rw [dMul_r (by omega) (by omega)]; simp
    rw [dMod_ok (by decide)]; simp
    rw [dMod_ok (by decide)]; simp
    rw [dFdiv_ok (by decide) (by decide)]; simp
    generalize hx : ((b + 48271 * (e + 1)) * (39373 + (e + 1))).fmod 2147483647 = x
    have hb := fmod_bd (i := x) (j := 40009) (by decide)
    rw [dMul_r (by omega) (by omega)]; simp
    rw [dMod_ok (by decide)]; simp
    rw [dMul_r (by omega) (by omega)]; simp
    rw [dMod_ok (by decide)]; simp
    rw [dFdiv_ok (by decide) (by decide)]; simp
    rw [dMod_ok hm]; simp
    exact ⟨(fmod_bd hm).1, (fmod_bd hm).2, ⟨_, _, _, rfl, h1, h2, by omega, by omega⟩⟩
/-- one draw in a def -/
theorem okO_take {n : Nat} {B : List D} {m : Int} {Q : D × List D → Prop} (hB : Box n B) (hn : n < 2 ^ 40) (hm : 0 < m) (hm2 : m < 2 ^ 60) (q : ∀ (i : Int) B', 0 ≤ i → i < m → Box (n + 1) B' → Q (.int i, B')) : okO (d__law_take B [.int m]) Q := by
  obtain ⟨r, B', e, i, rfl, h1, h2, h3⟩ := take_ok hB hn hm hm2
  rw [e, okO_some]; exact q i B' h1 h2 h3
theorem okO_of {n : Nat} {B : List D} {xs : List D} {Q : D × List D → Prop} (hB : Box n B) (hn : n < 2 ^ 40) (h0 : xs ≠ []) (hl : xs.length < 2 ^ 60) (q : ∀ d B', d ∈ xs → Box (n + 1) B' → Q (d, B')) : okO (d__law_of B [.lst xs]) Q := by
  have h : ∃ d B', d__law_of B [.lst xs] = some (d, B') ∧ (d ∈ xs ∧ Box (n + 1) B') := by
    refine denB_ok rfl ?_
    simp
    have h1 : 0 < xs.length := List.length_pos_iff.2 h0
    refine okO_take hB hn (by omega) (by omega) fun i B' h1 h2 h3 => ?_
    obtain ⟨k, rfl⟩ := Int.eq_ofNat_of_zero_le h1
    have hk : k < xs.length := by omega
    simp [hk]
    exact h3
  obtain ⟨d, B', e, h1, h2⟩ := h
  rw [e, okO_some]; exact q d B' h1 h2
end Lw
namespace Lw
open PySem L2 PD
theorem enumD_get : ∀ {xs : List D} {k i : Nat} {d : D}, (enumD k xs)[i]? = some d → ∃ x, xs[i]? = some x ∧ d = .npt [.int ((k + i : Nat) : Int), x]
  | x :: xs, k, 0, d, h => by cases h; exact ⟨x, rfl, rfl⟩
  | x :: xs, k, i + 1, d, h => by
    obtain ⟨y, h1, rfl⟩ := enumD_get (xs := xs) (k := k + 1) (i := i) h
    exact ⟨y, h1, by rw [show k + 1 + i = k + (i + 1) by omega]⟩
theorem cut_take {xs : List D} {k : Nat} : cutD xs none (some (k : Int)) = xs.take k := by
  unfold cutD
  rw [HT.sIx_nat, HT.sIx_none, Nat.sub_zero, List.drop_zero]
  by_cases h : k ≤ xs.length
  · rw [Nat.min_eq_left h]
  · rw [Nat.min_eq_right (by omega), List.take_of_length_le (Nat.le_refl _), List.take_of_length_le (by omega)]
theorem cut_drop {xs : List D} {k j : Nat} : ∃ ys, cutD xs (some (k : Int)) (some (j : Int)) = ys ∧ ys.length ≤ xs.length - k ∧ ∀ y ∈ ys, y ∈ xs := by
  refine ⟨_, rfl, ?_, ?_⟩
  · unfold cutD
    rw [HT.sIx_nat, HT.sIx_nat]
    simp; omega
  · unfold cutD
    intro y hy
    exact List.mem_of_mem_drop (List.mem_of_mem_take hy)
theorem cells_loop {S : D} {k : Nat} {is : List Int} {ys : List D} (hy : ∀ y ∈ ys, ∃ i : Int, y = .int i) (hl : ys.length ≤ 63) (hk : 0 < k) (h : ys = [] ∨ is.length = k) {Q : Out → PD.Env → Prop} {a b e : Option D}
    (q : ∀ (is' : List Int) a b e, is'.length = is.length → Q .nx [some S, some (.int k), some (.lst (is'.map .int)), a, b, e]) :
    okE (sfor (gt (gscons (gn 3) (gscons (gn 4) gsnil)))
                    (sseq (sset 5 (lf [2] (op2 dMod (vcallB (one dInt) (acons (v 3) anil)) (v 1))))
                      (sixset 2 (lf [2] (v 5))
                        (lfo (op2 dAdd (op2 dIx (v 2) (v 5)) (op2 dMul (v 4) (op2 dAdd (v 3) (c (D.int 2))))))))
                    (enumD 0 ys) [some S, some (D.int k), some (.lst (is.map .int)), a, b, e]) Q := by
  refine okS_for (fun _ δ => ∃ (is' : List Int) (a b e : Option D), δ = [some S, some (.int k), some (.lst (is'.map .int)), a, b, e] ∧ is'.length = is.length) (n := 0) ⟨is, a, b, e, rfl, rfl⟩ ?_ ?_
  · rintro i d δ hi ⟨is', a, b, e, rfl, hl'⟩
    obtain ⟨x, hx, rfl⟩ := enumD_get hi
    obtain ⟨x, rfl⟩ := hy x (List.mem_of_getElem? hx)
    have hi2 : i < ys.length := by
      rcases Nat.lt_or_ge i ys.length with h | h
      · exact h
      · rw [List.getElem?_eq_none h] at hx; cases hx
    have hk2 : is'.length = k := by
      rcases h with h | h
      · subst h; simp at hi2
      · omega
    refine ⟨_, rfl, ?_⟩
    simp
    rw [dMod_ok (by omega)]; simp
    have hm := fmod_bd (i := (i : Int)) (j := k) (by omega)
    obtain ⟨j, hj⟩ := Int.eq_ofNat_of_zero_le hm.1
    rw [hj] at hm ⊢
    have hjk : j < is'.length := by omega
    simp [hjk]
    rw [dMul_r (by omega) (by omega)]; simp
    rw [ixN_lt (by omega) (by omega)]; simp
    exact ⟨is'.set j (is'[j] + x * (i + 2)), by simp, by simp [hl']⟩
  · rintro δ ⟨is', a, b, e, rfl, hl'⟩
    exact q is' a b e hl'
theorem cells_ok {ns : List Int} (hl : ns.length ≤ 63) {k : Nat} (hk : 0 < k) : okR (d__law_cells [.scr (ns.map D.int), .int k]) fun d => ∃ is : List Int, d = .lst (is.map D.int) ∧ 0 < is.length ∧ is.length ≤ k := by
  refine den_ok rfl ?_
  obtain ⟨ys, hy, hy1, hy2⟩ := cut_drop (xs := ns.map D.int) (k := k) (j := 63)
  have hs : dSl (.scr (ns.map D.int)) (some (k : Int)) (some 63) = some (.lst ys) := by rw [← hy]; rfl
  have hy3 : ∀ y ∈ ys, ∃ i : Int, y = .int i := fun y h => by
    obtain ⟨i, _, e⟩ := List.mem_map.1 (hy2 y h)
    exact ⟨i, e.symm⟩
  rw [List.length_map] at hy1
  simp [hs, show dSl (.scr (ns.map D.int)) none (some (k : Int)) = some (.lst ((ns.take k).map D.int)) by rw [List.map_take, ← cut_take]; rfl]
  split
  · rename_i h0
    refine ⟨sz (by omega), ?_⟩
    have hn : ns = [] := by
      rcases h0 with h | h
      · omega
      · exact h
    have : ys = [] := by apply List.length_eq_zero_iff.1; subst hn; simpa using hy1
    exact cells_loop (is := [0]) hy3 (by omega) hk (.inl this) fun is' a b e h => by simp [bxIn]; exact ⟨is', rfl, by simp at h; omega, by simp at h; omega⟩
  · rename_i h0
    have h1 : 0 < ns.length := by
      apply List.length_pos_iff.2
      intro h; exact h0 (.inr h)
    rw [← List.map_take]
    refine cells_loop (is := ns.take k) hy3 (by omega) hk ?_ fun is' a b e h => by simp [bxIn]; exact ⟨is', rfl, by simp at h; omega, by simp at h; omega⟩
    by_cases h : ns.length ≤ k
    · exact .inl (List.length_eq_zero_iff.1 (by omega))
    · exact .inr (by simp; omega)
theorem box_ok {is : List Int} {k : Nat} (hk : k < is.length) (hk2 : is.length ≤ 9) : okR (d__law_box [.lst (is.map D.int), .int k]) fun d => ∃ B, d = .lst B ∧ Box 0 B := by
  refine denN_ok rfl (okE_rseq ?_)
  simp [hk]
  rw [show dPow (.int 10) (.int 18) = some (.int (10 ^ 18)) from rfl]; simp
  rw [dMul_r (by split <;> omega) (by split <;> omega)]; simp
  rw [dMod_ok (by decide)]; simp
  rw [dMul_r (by omega) (by omega)]; simp
  have hm := fmod_bd (i := is[k]) (j := 2305843009213693951) (by decide)
  exact ⟨sz (by omega), ⟨_, _, _, rfl, by omega, by omega, by omega, by omega⟩⟩
theorem lt_of_get {α : Type} {xs : List α} {i : Nat} {d : α} (h : xs[i]? = some d) : i < xs.length := by
  rcases Nat.lt_or_ge i xs.length with h1 | h1
  · exact h1
  · rw [List.getElem?_eq_none h1] at h; cases h
theorem all_true : ∀ {a : List D}, (∀ d ∈ a, d = .bl true) → (dbools a).map (fun is => D.bl (is.all id)) = some (.bl true)
  | [], _ => rfl
  | x :: a, h => by
    cases h x List.mem_cons_self
    have := all_true (a := a) fun d hd => h d (List.mem_cons_of_mem _ hd)
    rw [dbools]
    cases h2 : dbools a with
    | none => rw [h2] at this; cases this
    | some bs => rw [h2] at this; simpa using this
/-- the law, by its draws -/
theorem law_ok (H : ∀ B, Box 0 B → ∃ B', d__law_right B [] = some (.bl true, B')) {ns : List Int} (hl : ns.length ≤ 63) : d_law [.scr (ns.map D.int)] = some (.ok (.bl true)) := by
  have h : okR (d_law [.scr (ns.map D.int)]) fun d => d = .bl true := by
    refine den_ok rfl ?_
    simp
    obtain ⟨d, e, is, rfl, h1, h2⟩ := cells_ok hl (k := 3) (by decide)
    rw [show d__law_cells [.scr (ns.map D.int), .int 3] = _ from e]; simp
    refine ⟨by omega, ?_⟩
    have hr : ∀ d ∈ rng 0 (is.length : Int), ∃ k : Nat, k < is.length ∧ d = .int k := by
      intro d hd
      unfold rng at hd
      obtain ⟨i, hi, rfl⟩ := List.mem_map.1 hd
      exact ⟨i, by simpa using List.mem_range.1 hi, by simp⟩
    refine okE.mono (okE_scomp (fun i acc δ => (∀ d ∈ acc, d = .bl true) ∧ acc.length ≤ i ∧ δ = [some (.scr (ns.map D.int)), some (.lst (is.map .int)), none]) (n := 0) ⟨by simp, by simp, rfl⟩ ?_) ?_
    · rintro i d acc δ hi ⟨ha, hb, rfl⟩
      obtain ⟨k, hk, rfl⟩ := hr d (List.mem_of_getElem? hi)
      refine ⟨_, rfl, ?_⟩
      simp
      obtain ⟨d, e, B, rfl, hB⟩ := box_ok hk (by omega)
      rw [e]; simp
      obtain ⟨B', e⟩ := H B hB
      rw [e]; simp
      have hi2 := lt_of_get hi
      rw [show (rng 0 (is.length : Int)).length = is.length by simp [rng]] at hi2
      refine ⟨by rw [PySem.sizeLine_eq]; omega, fun d h => h.elim (ha d) id, by omega⟩
    · rintro a δ ⟨ha, _, _⟩
      simp
      rw [all_true ha]; simp
  obtain ⟨d, e, rfl⟩ := h
  exact e
end Lw
end
section
namespace PD
open PySem L2 Fa
theorem alike_strs : ∀ {xs ys : List Str}, W.alikeAll (xs.map PyData.str) (ys.map PyData.str) = true
  | [], _ => by cases ‹List Str› <;> simp [W.alikeAll]
  | _ :: _, [] => by simp [W.alikeAll]
  | x :: xs, y :: ys => by simp [W.alikeAll, W.alike, alike_strs (xs := xs) (ys := ys)]
theorem erase_perm {α : Type} : ∀ {xs : List α} {i : Nat} (h : i < xs.length), (xs[i] :: xs.eraseIdx i).Perm xs
  | x :: xs, 0, _ => .refl _
  | x :: xs, i + 1, h => by
    have := erase_perm (xs := xs) (i := i) (by simpa using h)
    simp only [List.getElem_cons_succ, List.eraseIdx_cons_succ]
    exact (List.Perm.swap _ _ _).trans (this.cons x)
theorem map_eraseIdx {α β : Type} {f : α → β} : ∀ (xs : List α) (i : Nat), (xs.eraseIdx i).map f = (xs.map f).eraseIdx i
  | [], _ => rfl
  | _ :: _, 0 => rfl
  | x :: xs, i + 1 => by simp [map_eraseIdx xs i]
theorem nodup_inj {α β : Type} {f : α → β} : ∀ {xs : List α} {x y : α}, (xs.map f).Nodup → x ∈ xs → y ∈ xs → f x = f y → x = y
  | [], _, _, _, h, _, _ => by simp at h
  | z :: xs, x, y, hn, hx, hy, e => by
    rw [List.map_cons, List.nodup_cons] at hn
    rcases List.mem_cons.1 hx with rfl | hx
    · rcases List.mem_cons.1 hy with rfl | hy
      · rfl
      · exact absurd (List.mem_map.2 ⟨y, hy, e.symm⟩) hn.1
    · rcases List.mem_cons.1 hy with h | hy
      · rw [h] at e; exact absurd (List.mem_map.2 ⟨x, hx, e⟩) hn.1
      · exact nodup_inj hn.2 hx hy e
theorem perm_unmap {α β : Type} {f : α → β} {xs ys : List β} (h : xs.Perm ys) : ∀ {l : List α}, ys = l.map f → ∃ S : List α, xs = S.map f ∧ S.Perm l := by
  induction h with
  | nil => intro l e; exact ⟨l, e, .refl _⟩
  | cons x _ ih =>
    intro l e
    cases l with
    | nil => cases e
    | cons a l =>
      rw [List.map_cons, List.cons.injEq] at e
      obtain ⟨S, rfl, p⟩ := ih e.2
      exact ⟨a :: S, by rw [List.map_cons, e.1], p.cons a⟩
  | swap x y l' =>
    intro l e
    match l, e with
    | [], e => cases e
    | [_], e => cases e
    | a :: b :: l, e =>
      simp only [List.map_cons, List.cons.injEq] at e
      exact ⟨b :: a :: l, by simp [e], .swap _ _ _⟩
  | trans _ _ h1 h2 =>
    intro l e
    obtain ⟨S, rfl, p⟩ := h2 e
    obtain ⟨S', rfl, p'⟩ := h1 rfl
    exact ⟨S', rfl, p'.trans p⟩
theorem toPys_map2 {α : Type} {f : α → D} {g : α → PyData} (h : ∀ a, toPy (f a) = some (g a)) : ∀ {l : List α}, toPys (l.map f) = some (l.map g)
  | [] => rfl
  | a :: l => by simp [toPys, h, toPys_map2 h (l := l)]
theorem toPys_strs {xs : List Str} : toPys (xs.map D.str) = some (xs.map PyData.str) := toPys_map2 fun _ => rfl
theorem dep_strs : ∀ {xs : List Str}, PyData.depthAll (xs.map PyData.str) = 0
  | [] => rfl
  | x :: xs => by simp [PyData.depthAll, PyData.depth, dep_strs (xs := xs)]
theorem sorted_wires {F : List (Str × Nat)} : ∃ S : List (Str × Nat), dSorted2 (.lst (F.map encWire)) = some (.lst (S.map encWire)) ∧ S.Perm F := by
  have e : toPys (F.map encWire) = some (F.map fun c => .tuple [.str c.1, .int c.2]) := toPys_map2 fun c => by simp [encWire, toPy, toPys]
  have hs : sortOk (F.map fun c => .tuple [.str c.1, .int c.2]) = true := by
    unfold sortOk
    rw [Bool.and_eq_true, Bool.or_eq_true]
    refine ⟨List.all_eq_true.2 fun p hpp => ?_, .inl (Bool.and_eq_true_iff.2 ⟨List.all_eq_true.2 fun p hpp => ?_, List.all_eq_true.2 fun p hpp => List.all_eq_true.2 fun q hqq => ?_⟩)⟩
    · obtain ⟨c, _, rfl⟩ := List.mem_map.1 hpp; simp [PyData.depth, PyData.depthAll, nodict, nodicts]
    · obtain ⟨c, _, rfl⟩ := List.mem_map.1 hpp; rfl
    · obtain ⟨c, _, rfl⟩ := List.mem_map.1 hpp
      obtain ⟨c', _, rfl⟩ := List.mem_map.1 hqq
      simp [itemsOf, lexOk, W.alike]
  obtain ⟨S, e1, p⟩ := perm_unmap (isort_permD (F.map encWire)) rfl
  refine ⟨S, ?_, p⟩
  rw [← e1]
  simp [dSorted2, dSorted, sortD, e, hs]
def pyHi : Option Nat → PyData
  | none => .none
  | some m => .int m
def pyRow (r : Row Str) : PyData := .tuple [.str r.name, .tuple (r.lines.map PyData.str), .int r.w, .int r.lo, pyHi r.hi]
theorem toPy_row (r : Row Str) : toPy (encRow r) = some (pyRow r) := by
  unfold encRow pyRow
  cases r.hi <;> simp [toPy, toPys, toPys_strs, encHi, pyHi]
theorem nodicts_strs : ∀ {ls : List Str}, nodicts (ls.map PyData.str) = true
  | [] => rfl
  | x :: ls => by simp [nodicts, nodict, nodicts_strs (ls := ls)]
theorem sorted_rows {R : List (Row Str)} (hn : (R.map Row.name).Nodup) : ∃ S : List (Row Str), dSorted2 (.lst (R.map encRow)) = some (.lst (S.map encRow)) ∧ S.Perm R := by
  have e : toPys (R.map encRow) = some (R.map pyRow) := toPys_map2 toPy_row
  have hs : sortOk (R.map pyRow) = true := by
    unfold sortOk
    rw [Bool.and_eq_true, Bool.or_eq_true]
    refine ⟨List.all_eq_true.2 fun p hpp => ?_, .inl (Bool.and_eq_true_iff.2 ⟨List.all_eq_true.2 fun p hpp => ?_, List.all_eq_true.2 fun p hpp => List.all_eq_true.2 fun q hqq => ?_⟩)⟩
    · obtain ⟨c, _, rfl⟩ := List.mem_map.1 hpp
      unfold pyRow
      cases c.hi <;> simp [PyData.depth, PyData.depthAll, nodict, nodicts, nodicts_strs, dep_strs, pyHi]
    · obtain ⟨c, _, rfl⟩ := List.mem_map.1 hpp; rfl
    · obtain ⟨x, hx, rfl⟩ := List.mem_map.1 hpp
      obtain ⟨y, hy, rfl⟩ := List.mem_map.1 hqq
      by_cases hss : x.name = y.name
      · cases nodup_inj hn hx hy hss
        unfold pyRow
        cases x.hi <;> simp [itemsOf, lexOk, W.alike, alike_strs, pyHi]
      · simp [pyRow, itemsOf, lexOk, W.alike, PyData.eqv, hss]
  obtain ⟨S, e1, p⟩ := perm_unmap (isort_permD (R.map encRow)) rfl
  refine ⟨S, ?_, p⟩
  rw [← e1]
  simp [dSorted2, dSorted, sortD, e, hs]
end PD
namespace Lw
open PySem L2 PD Fa
def nm6 : List Str := ["a", "b", "c", "d", "ab", "k"]
def nm9 : List Str := ["p", "q", "r", "s", "t", "u", "ab", "z", "x"]
theorem nm6_ok : ∀ s ∈ nm6, PyData.strOk s = true := by decide +kernel
theorem nm9_ok : ∀ s ∈ nm9, PyData.strOk s = true := by decide +kernel
theorem nm6_nd : nm6.Nodup := by decide +kernel
theorem nm9_nd : nm9.Nodup := by decide +kernel
def OnS (S : List (Str × Nat)) (s : Str) : Prop := ∃ c ∈ S, c.1 = s
def WireOk (c : Str × Nat) : Prop := c.1 ∈ nm6 ∧ 1 ≤ c.2 ∧ c.2 ≤ 12
def AllW (F : List (Str × Nat)) : Prop := ∀ f ∈ F, WireOk f
structure RowOk (S : List (Str × Nat)) (r : Row Str) : Prop where
  n : r.name ∈ nm9
  l0 : r.lines ≠ []
  ll : r.lines.length ≤ 6
  ln : ∀ x ∈ r.lines, ∃ c ∈ S, c.1 = x
  w1 : 1 ≤ r.w
  w2 : r.w ≤ 3
  lo : r.lo ≤ 2
  hi : ∀ m, r.hi = some m → 1 ≤ m ∧ r.lo ≤ m ∧ m ≤ 5
structure Drawn (N : Net Str) : Prop where
  wd : (N.wires.map (·.1)).Nodup
  ws : ∀ c ∈ N.wires, WireOk c
  nd : (N.rows.map Row.name).Nodup
  rs : ∀ r ∈ N.rows, RowOk N.wires r
set_option maxHeartbeats 2000000 in
theorem drawn_ok {n : Nat} {B : List D} {w m k : Nat} (hB : Box n B) (hn : n < 2 ^ 30) (hw : 1 ≤ w) (hw2 : w ≤ 6) (hm : m ≤ 9) : ∃ d B', d__law_drawn_net B [.int w, .int m, .int k] = some (d, B') ∧ ∃ N, d = encNet N ∧ N.wires.length = w ∧ N.rows.length = m ∧ Drawn N ∧ Box (n + 1000) B' := by
  refine denB_ok rfl ?_
  simp
  refine ⟨sz (by omega), by omega, ?_⟩
  refine okS_for (fun i δ => ∃ (L : List Str) (F : List (Str × Nat)) (B : List D) (x : Option D), δ = [some (.lst B), some (.int w), some (.int m), some (.int k), some (.lst (L.map D.str)), some (.lst (F.map encWire)), x, none, none, none, none, none, none, none] ∧ i ≤ w ∧ L.length = 6 - i ∧ F.length = i ∧ Box (n + 2 * i) B ∧ (∀ s ∈ L, s ∈ nm6) ∧ AllW F ∧ (F.map (·.1) ++ L).Nodup) (n := 0) ⟨nm6, [], B, none, rfl, by omega, rfl, rfl, hB, fun _ h => h, fun _ h => by simp at h, nm6_nd⟩ ?_ ?_
  · rintro i d δ hi ⟨L, F, B, x, rfl, h1, h2, h3, h4, h5, h6, h7⟩
    rw [Nat.zero_add] at *
    have hi2 := lt_of_get hi
    rw [show (rng 0 (w : Int)).length = w by simp [rng]] at hi2
    refine ⟨_, rfl, ?_⟩
    simp [flat]
    refine okO_take h4 (by omega) (by omega) (by omega) fun j B1 j0 j1 hB1 => ?_
    obtain ⟨j, rfl⟩ := Int.eq_ofNat_of_zero_le j0
    have hj : j < L.length := by omega
    simp [hj]
    refine ⟨by omega, okO_take hB1 (by omega) (by omega) (by omega) fun e B2 e0 e1 hB2 => ?_⟩
    obtain ⟨e, rfl⟩ := Int.eq_ofNat_of_zero_le e0
    simp
    refine ⟨sz (by omega), Nat.lt_of_lt_of_le (show F.length < 100 by omega) (sz (by omega)), L.eraseIdx j, F ++ [(L[j], 1 + e)], B2, ⟨rfl, ?_, ?_⟩, by omega, ?_, by simp [h3], ?_, ?_, ?_, ?_⟩
    · exact (PD.map_eraseIdx _ _).symm
    · simp [encWire]
    · rw [List.length_eraseIdx_of_lt hj]; omega
    · exact hB2.mono (by omega)
    · exact fun s hs => h5 s (List.mem_of_mem_eraseIdx hs)
    · intro f hf
      rcases List.mem_append.1 hf with hf | hf
      · exact h6 f hf
      · rw [List.mem_singleton.1 hf]
        exact ⟨h5 _ (List.getElem_mem _), by show 1 ≤ 1 + e; omega, by show 1 + e ≤ 12; omega⟩
    · have hp := erase_perm hj
      rw [List.map_append, List.append_assoc]
      exact (List.Perm.append_left _ hp).nodup_iff.2 h7
  · rintro δ ⟨L, F, B, x, rfl, h1, h2, h3, h4, h5, h6, h7⟩
    rw [List.nodup_append] at h7
    obtain ⟨S, hS0, hSp⟩ := sorted_wires (F := F)
    simp [hS0]
    have hS : ∀ f ∈ S, WireOk f := fun f hf => h6 f (hSp.mem_iff.1 hf)
    have hSd : (S.map (·.1)).Nodup := (hSp.map _).nodup_iff.2 h7.1
    have hSl : S.length = w := by
      rw [hSp.length_eq, h3]; simp [rng]
    clear hS0 hSp h3 h6 h7
    refine ⟨sz (by omega), by omega, ?_⟩
    refine okS_for (fun i δ => ∃ (L' : List Str) (R : List (Row Str)) (B : List D) (x9 x10 x11 x12 x6 : Option D), δ = [some (.lst B), some (.int w), some (.int m), some (.int k), some (.lst (L.map D.str)), some (.lst (S.map encWire)), x6, some (.lst (L'.map D.str)), some (.lst (R.map encRow)), x9, x10, x11, x12, none] ∧ i ≤ m ∧ L'.length = 9 - i ∧ R.length = i ∧ Box (n + 100 + 20 * i) B ∧ (∀ s ∈ L', s ∈ nm9) ∧ (∀ f ∈ R, RowOk S f) ∧ (R.map Row.name ++ L').Nodup) (n := 0) ⟨nm9, [], B, none, none, none, none, x, rfl, by omega, rfl, rfl, h4.mono (by omega), fun _ h => h, by simp, nm9_nd⟩ ?_ ?_
    · rintro i d δ hi ⟨L', R, B, x9, x10, x11, x12, x6, rfl, g1, g2, g3, g4, g5, g6, g7⟩
      rw [Nat.zero_add] at *
      have hi2 := lt_of_get hi
      rw [show (rng 0 (m : Int)).length = m by simp [rng]] at hi2
      refine ⟨_, rfl, ?_⟩
      refine okS_step fun K hK _ => ?_
      simp
      refine okE.mono (okE_scomp (fun j acc δ => ∃ B, δ = [some (.lst B), some (.int w), some (.int m), some (.int k), some (.lst (L.map D.str)), some (.lst (S.map encWire)), some d, some (.lst (L'.map D.str)), some (.lst (R.map encRow)), x9, x10, x11, x12, none] ∧ Box (n + 100 + 20 * i + j) B ∧ acc.length ≤ j ∧ ∃ ss : List Str, acc = ss.map D.str ∧ ∀ s ∈ ss, OnS S s) (n := 0) ⟨B, rfl, g4, by simp, [], rfl, by simp⟩ ?_) ?_
      · rintro j f acc δ hj ⟨B, rfl, k1, k2, ss, rfl, k3⟩
        rw [Nat.zero_add] at *
        have hj2 := lt_of_get hj
        rw [List.length_map] at hj2
        rw [List.getElem?_map, Option.map_eq_some_iff] at hj
        obtain ⟨c, hc, rfl⟩ := hj
        have hcS := List.mem_of_getElem? hc
        refine ⟨_, rfl, ?_⟩
        simp
        refine okO_take k1 (by omega) (by omega) (by omega) fun r B1 r0 r1 hB1 => ?_
        simp [encWire]
        split
        · simp at k2
          refine ⟨Nat.lt_of_lt_of_le (show ss.length < 100 by omega) (sz (by omega)), hB1.mono (by omega), by omega, ss ++ [c.1], by simp, ?_⟩
          intro s' hs'
          rcases List.mem_append.1 hs' with h | h
          · exact k3 s' h
          · rw [List.mem_singleton.1 h]; exact ⟨c, hcS, rfl⟩
        · simp at k2
          exact ⟨hB1.mono (by omega), by omega, ss, rfl, k3⟩
      · rintro acc δ ⟨B, rfl, k1, k2, ss, rfl, k3⟩
        rw [Nat.zero_add, show (S.map encWire).length = w by rw [List.length_map, hSl]] at k1 k2
        simp
        refine hK _ ?_
        clear hK
        refine okS_step fun K hK _ => ?_
        suffices hs : ∀ (ss : List Str) (B : List D), ss ≠ [] → ss.length ≤ 6 → (∀ s ∈ ss, OnS S s) → Box (n + 100 + 20 * i + 10) B → K .nx [some (.lst B), some (.int w), some (.int m), some (.int k), some (.lst (L.map D.str)), some (.lst (S.map encWire)), some d, some (.lst (L'.map D.str)), some (.lst (R.map encRow)), some (.lst (ss.map D.str)), x10, x11, x12, none] by
          simp
          have e : dNe (.lst (ss.map D.str)) (.lst []) = some (.bl (!ss.isEmpty)) := ne_nilS fun s hs => by
            obtain ⟨c, hc, rfl⟩ := k3 s hs
            exact nm6_ok _ (hS c hc).1
          rw [e]; simp
          simp at k2
          by_cases h0 : ss = []
          · simp [h0]
            refine okO_take k1 (by omega) (by omega) (by omega) fun r B1 r0 r1 hB1 => ?_
            obtain ⟨r, rfl⟩ := Int.eq_ofNat_of_zero_le r0
            have hr : r < S.length := by omega
            simp [hr, encWire]
            exact ⟨sz (by omega), hs [S[r].1] B1 (by simp) (by simp) (fun s hs => by rw [List.mem_singleton.1 hs]; exact ⟨_, List.getElem_mem hr, rfl⟩) (hB1.mono (by omega))⟩
          · simp [h0]
            exact hs ss B h0 (by omega) k3 (k1.mono (by omega))
        clear k1 k2 k3
        intro ss B k0 k2 k3 k1
        refine hK _ ?_
        clear hK
        refine okS_step fun K hK _ => ?_
        suffices hs : ∀ (W : Nat) (B : List D), 1 ≤ W → W ≤ 3 → Box (n + 100 + 20 * i + 11) B → K .nx [some (.lst B), some (.int w), some (.int m), some (.int k), some (.lst (L.map D.str)), some (.lst (S.map encWire)), some d, some (.lst (L'.map D.str)), some (.lst (R.map encRow)), some (.lst (ss.map D.str)), some (.int W), x11, x12, none] by
          simp
          split
          · refine okO_take k1 (by omega) (by omega) (by omega) fun r B1 r0 r1 hB1 => ?_
            obtain ⟨r, rfl⟩ := Int.eq_ofNat_of_zero_le r0
            simp
            have := hs (1 + r) B1 (by omega) (by omega) (hB1.mono (by omega))
            rwa [Int.natCast_add] at this
          · exact hs 1 B (by omega) (by omega) (k1.mono (by omega))
        clear k1
        intro W B W1 W2 k1
        refine hK _ ?_
        clear hK
        refine okS_step fun K hK _ => ?_
        simp
        refine ⟨sz (by omega), hK _ ?_⟩
        clear hK
        refine okS_step fun K hK _ => ?_
        suffices hs : ∀ (b : Nat) (t : Option Nat) (B : List D), b ≤ 2 → (∀ i, t = some i → 1 ≤ i ∧ b ≤ i ∧ i ≤ 5) → Box (n + 100 + 20 * i + 13) B → K .nx [some (.lst B), some (.int w), some (.int m), some (.int k), some (.lst (L.map D.str)), some (.lst (S.map encWire)), some d, some (.lst (L'.map D.str)), some (.lst (R.map encRow)), some (.lst (ss.map D.str)), some (.int W), some (.int b), some (encHi t), none] by
          simp
          split
          · refine ⟨sz (by omega), okO_of k1 (by omega) (by simp) (by simp) fun b B1 hb hB1 => ?_⟩
            have hb2 : ∃ b' : Nat, b = .int b' ∧ b' ≤ 2 := by
              simp at hb
              rcases hb with rfl | rfl | rfl
              · exact ⟨0, rfl, by omega⟩
              · exact ⟨1, rfl, by omega⟩
              · exact ⟨2, rfl, by omega⟩
            obtain ⟨b, rfl, hb1⟩ := hb2
            simp
            refine ⟨sz (by omega), okO_of hB1 (by omega) (by simp) (by simp) fun t B2 ht hB2 => ?_⟩
            simp
            have ht2 : ∃ t' : Option Nat, t = encHi t' ∧ ∀ i, t' = some i → 1 ≤ i ∧ b ≤ i ∧ i ≤ 5 := by
              simp at ht
              rcases ht with rfl | rfl | rfl | rfl
              · exact ⟨none, rfl, by simp⟩
              · by_cases hb0 : b = 0
                · subst hb0
                  exact ⟨some 1, rfl, fun i hi => by cases hi; omega⟩
                · refine ⟨some b, ?_, fun i hi => by cases hi; omega⟩
                  unfold encHi
                  simp; omega
              · exact ⟨some (b + 1), rfl, fun i hi => by cases hi; omega⟩
              · exact ⟨some (b + 3), rfl, fun i hi => by cases hi; omega⟩
            obtain ⟨t, rfl, ht2⟩ := ht2
            exact hs b t B2 hb1 ht2 (hB2.mono (by omega))
          · exact hs 0 none B (by omega) (by simp) (k1.mono (by omega))
        clear k1
        intro b t B b1 ht k1
        refine hK _ ?_
        clear hK
        refine okE_cut fun K hK => ?_
        simp [flat]
        refine okO_take k1 (by omega) (by omega) (by omega) fun r B1 r0 r1 hB1 => ?_
        obtain ⟨r, rfl⟩ := Int.eq_ofNat_of_zero_le r0
        have hr : r < L'.length := by omega
        simp [hr]
        refine ⟨by omega, sz (by omega), Nat.lt_of_lt_of_le (show R.length < 100 by omega) (sz (by omega)), hK _ _ ?_⟩
        clear hK
        refine ⟨L'.eraseIdx r, R ++ [⟨L'[r], ss, W, b, t⟩], B1, _, _, _, _, _, by rw [PD.map_eraseIdx, List.map_append]; rfl, by omega, ?_, by simp [g3], hB1.mono (by omega), fun s hs => g5 s (List.mem_of_mem_eraseIdx hs), ?_, ?_⟩
        · rw [List.length_eraseIdx_of_lt hr]; omega
        · intro f hf
          rcases List.mem_append.1 hf with hf | hf
          · exact g6 f hf
          · rw [List.mem_singleton.1 hf]
            exact ⟨g5 _ (List.getElem_mem hr), k0, k2, k3, W1, W2, b1, ht⟩
        · have hp := erase_perm hr
          rw [List.map_append, List.append_assoc]
          exact (List.Perm.append_left _ hp).nodup_iff.2 g7
    · rintro δ ⟨L', R, B, x9, x10, x11, x12, x6, rfl, g1, g2, g3, g4, g5, g6, g7⟩
      rw [List.nodup_append] at g7
      obtain ⟨R', hR0, hRp⟩ := sorted_rows g7.1
      simp [hR0]
      simp [rng] at g4 g3
      exact ⟨sz (by omega), ⟨S, R'⟩, rfl, hSl, by rw [← g3]; exact hRp.length_eq, ⟨hSd, hS, (hRp.map _).nodup_iff.2 g7.1, fun r hr => g6 r (hRp.mem_iff.1 hr)⟩, g4.mono (by omega)⟩
end Lw
end
section
namespace PD
open PySem L2 Fa
theorem load0 {N : Net Str} {x : Str} : load N [] 0 x = (((N.rows.filter (onL x)).map Row.lo).sum : Nat) := by
  unfold Fa.load
  induction N.rows.filter (onL x) with
  | nil => rfl
  | cons r rs ih =>
    rw [List.map_cons, sum_cons, ih, List.map_cons, List.sum_cons, Rat.natCast_add]
    congr 1
    show at_ r 0 = _
    have h0 : (0 : Rat) ≤ (r.lo : Rat) := Rat.natCast_nonneg
    unfold at_; rw [if_neg (by rw [Rat.mul_zero]; grind)]
theorem lo_sum : ∀ {rs : List (Row Str)}, (∀ r ∈ rs, r.lo ≤ 2) → (rs.map Row.lo).sum ≤ 2 * rs.length
  | [], _ => by simp
  | r :: rs, h => by
    have h1 := h r (by simp)
    have h2 := lo_sum (rs := rs) fun q hq => h q (by simp [hq])
    simp; omega
theorem lo_int {rs : List (Row Str)} : (rs.map fun r => (r.lo : Int)).sum = ((rs.map Row.lo).sum : Nat) := by
  induction rs with
  | nil => rfl
  | cons r rs ih => simp [ih]
def roomOf (rows : List (Row Str)) (c : Str × Nat) : Str × Nat := (c.1, max c.2 ((rows.filter (onL c.1)).map Row.lo).sum)
end PD
namespace Lw
open PySem L2 PD Fa
theorem roomy_net {N : Net Str} (h : Drawn N) (hw : N.wires.length ≤ 9) (hm : N.rows.length ≤ 8) : NetOk ⟨N.wires.map (roomOf N.rows), N.rows⟩ := by
  have hlo : ∀ x : Str, ((N.rows.filter (onL x)).map Row.lo).sum ≤ 16 := fun x => by
    have h1 := lo_sum (rs := N.rows.filter (onL x)) fun r hr => (h.rs r (List.mem_filter.1 hr).1).lo
    have h2 := List.length_filter_le (onL x) N.rows
    omega
  refine ⟨⟨h.nd, ?_, fun r hr => ⟨(h.rs r hr).w1, (h.rs r hr).w2⟩, fun r hr => ⟨(h.rs r hr).l0, fun x hx => ?_⟩, fun r hr m e => ⟨((h.rs r hr).hi m e).2.1, ((h.rs r hr).hi m e).2.2⟩, fun r hr => (h.rs r hr).lo, hm, fun c hc => ?_, fun c hc => ?_⟩, fun r hr => ⟨nm9_ok _ (h.rs r hr).n, fun x hx => ?_⟩, fun c hc => ?_, ?_, fun r hr => Nat.le_trans (h.rs r hr).ll (by omega)⟩
  · dsimp only; rw [List.map_map]; exact h.wd
  · obtain ⟨c, hc, rfl⟩ := (h.rs r hr).ln x hx
    exact ⟨_, List.mem_map.2 ⟨c, hc, rfl⟩⟩
  · obtain ⟨c, hc', rfl⟩ := List.mem_map.1 hc
    have h1 := (h.ws c hc').2.2
    have h2 := hlo c.1
    show max _ _ ≤ _
    omega
  · obtain ⟨c, hc, rfl⟩ := List.mem_map.1 hc
    rw [load0]
    exact Rat.natCast_le_natCast.2 (Nat.le_max_right _ _)
  · obtain ⟨c, hc, rfl⟩ := (h.rs r hr).ln x hx
    exact nm6_ok _ (h.ws c hc).1
  · obtain ⟨c, hc', rfl⟩ := List.mem_map.1 hc
    exact nm6_ok _ (h.ws c hc').1
  · dsimp only; rw [List.length_map]; exact hw
theorem roomy_ok {n : Nat} {B : List D} {w m k : Nat} (hB : Box n B) (hn : n < 2 ^ 30) (hw : 1 ≤ w) (hw2 : w ≤ 6) (hm : m ≤ 8) : ∃ d B', d__law_roomy B [.int w, .int m, .int k] = some (d, B') ∧ ∃ N, d = encNet N ∧ N.wires.length = w ∧ N.rows.length = m ∧ NetOk N ∧ Box (n + 1000) B' := by
  refine denB_ok rfl ?_
  obtain ⟨d, B', e, N, rfl, h1, h2, h3, h4⟩ := drawn_ok (k := k) hB hn hw hw2 (show m ≤ 9 by omega)
  have hst : ∀ c ∈ N.wires, ∀ r ∈ N.rows, PD.dIn (.str c.1) (.tup (r.lines.map .str)) = some (.bl (onL c.1 r)) := fun c hc r hr => by
    rw [PD.dIn, inD_tup (nm6_ok _ (h3.ws c hc).1) fun x hx => by
      obtain ⟨c, hc, rfl⟩ := (h3.rs r hr).ln x hx
      exact nm6_ok _ (h3.ws c hc).1]
    rfl
  simp [e, encNet]
  refine okS_for (fun i δ => ∃ x7 x8, δ = [some (.lst B'), some (.int w), some (.int m), some (.int k), some (.tup (N.wires.map encWire)), some (.tup (N.rows.map encRow)), some (.lst (((N.wires.take i).map (roomOf N.rows)).map encWire)), x7, x8, none]) (n := 0) ⟨none, none, by simp⟩ ?_ ?_
  · rintro i d δ hi ⟨x7, x8, rfl⟩
    rw [List.getElem?_map, Option.map_eq_some_iff] at hi
    rw [Nat.zero_add]
    obtain ⟨c, hc, rfl⟩ := hi
    have hcm : c ∈ N.wires := List.mem_of_getElem? hc
    have hts := take_succ hc
    rw [hts]
    have hil : (N.wires.take i).length ≤ 6 := by rw [List.length_take]; omega
    refine ⟨_, by simp [encWire]; rfl, ?_⟩
    simp
    refine okE_compR (enc := encRow) (T := onL c.1) (F := fun r => D.int (r.lo : Int)) (fun r hr => ?_) ?_ ?_
    · simp [encRow]
      rw [hst c hcm r hr]; simp
    · simp; exact sz (by omega)
    · have hsum : dSum (.lst ((N.rows.filter (onL c.1)).map fun r => D.int (r.lo : Int))) = some (.int (((N.rows.filter (onL c.1)).map Row.lo).sum : Nat)) := by
        rw [dSum, dints_map, ← lo_int]; rfl
      rw [List.nil_append]
      simp [hsum]
      refine ⟨sz (by omega), Nat.lt_of_lt_of_le (show _ < 100 by omega) (sz (by omega)), ?_⟩
      simp [roomOf, encWire]
      omega
  · rintro δ ⟨x7, x8, rfl⟩
    rw [show (0 + (N.wires.map encWire).length) = N.wires.length by simp, List.take_of_length_le (Nat.le_refl _)]
    simp
    refine ⟨sz (by omega), ⟨N.wires.map (roomOf N.rows), N.rows⟩, ?_, by simp [h1], h2, roomy_net h3 (by omega) (by omega), h4⟩
    simp [encNet]
end Lw
end
section
namespace PD
open PySem L2 Fa
def Leaf (d : D) : Prop := (∃ i, d = .int i) ∨ d = .non ∨ (∃ b, d = .bl b) ∨ ∃ s, d = .str s ∧ PyData.strOk s = true
/-- plain data of some depth -/
def Gd : Nat → D → Prop
  | 0, d => Leaf d
  | n + 1, d => Leaf d ∨ ∃ xs, (d = .lst xs ∨ d = .tup xs) ∧ xs.length ≤ 1000 ∧ ∀ x ∈ xs, Gd n x
def lstN : Nat → D → D
  | 0, d => d
  | n + 1, .lst xs => .lst (xs.map (lstN n))
  | n + 1, .tup xs => .lst (xs.map (lstN n))
  | _ + 1, d => d
def tupN : Nat → D → D
  | 0, d => d
  | n + 1, .lst xs => .tup (xs.map (tupN n))
  | n + 1, .tup xs => .tup (xs.map (tupN n))
  | _ + 1, d => d
theorem Gd.leaf {n : Nat} {d : D} (h : Leaf d) : Gd n d := by cases n; exact h; exact .inl h
theorem Gd.succ : ∀ {n : Nat} {d : D}, Gd n d → Gd (n + 1) d
  | 0, d, h => .inl h
  | n + 1, d, h => by
    rcases h with h | ⟨xs, e, hl, h⟩
    · exact .inl h
    · exact .inr ⟨xs, e, hl, fun x hx => (h x hx).succ⟩
theorem Gd.mono {n m : Nat} {d : D} (h : Gd n d) (k : n ≤ m) : Gd m d := by
  obtain ⟨j, rfl⟩ := Nat.exists_eq_add_of_le k
  induction j with
  | zero => exact h
  | succ j ih => exact (ih (by omega)).succ
theorem lstN_leaf {n : Nat} {d : D} (h : Leaf d) : lstN n d = d := by
  cases n with
  | zero => rfl
  | succ n => rcases h with ⟨i, rfl⟩ | rfl | ⟨b, rfl⟩ | ⟨s, rfl, _⟩ <;> rfl
theorem tupN_leaf {n : Nat} {d : D} (h : Leaf d) : tupN n d = d := by
  cases n with
  | zero => rfl
  | succ n => rcases h with ⟨i, rfl⟩ | rfl | ⟨b, rfl⟩ | ⟨s, rfl, _⟩ <;> rfl
theorem Gd.lst : ∀ {n : Nat} {d : D}, Gd n d → Gd n (lstN n d)
  | 0, d, h => h
  | n + 1, d, h => by
    rcases h with h | ⟨xs, e, hl, h⟩
    · rw [lstN_leaf h]; exact .inl h
    · refine .inr ⟨xs.map (lstN n), ?_, by simpa using hl, fun x hx => ?_⟩
      · rcases e with rfl | rfl <;> exact .inl rfl
      · obtain ⟨y, hy, rfl⟩ := List.mem_map.1 hx
        exact (h y hy).lst
theorem tup_lst : ∀ {n : Nat} {d : D}, Gd n d → tupN n (lstN n d) = tupN n d
  | 0, d, h => rfl
  | n + 1, d, h => by
    rcases h with h | ⟨xs, e, hl, h⟩
    · rw [lstN_leaf h]
    · have e2 : (xs.map (lstN n)).map (tupN n) = xs.map (tupN n) := by
        rw [List.map_map]
        exact List.map_congr_left fun x hx => tup_lst (h x hx)
      rcases e with rfl | rfl <;> simp only [lstN, tupN, e2]
/-- .. of tuples alone -/
def Tu : Nat → D → Prop
  | 0, d => Leaf d
  | n + 1, d => Leaf d ∨ ∃ xs, d = .tup xs ∧ xs.length ≤ 1000 ∧ ∀ x ∈ xs, Tu n x
theorem Tu.gd : ∀ {n : Nat} {d : D}, Tu n d → Gd n d
  | 0, _, h => h
  | n + 1, _, h => by
    rcases h with h | ⟨xs, e, hl, h⟩
    · exact .inl h
    · exact .inr ⟨xs, .inr e, hl, fun x hx => (h x hx).gd⟩
theorem Tu.id : ∀ {n : Nat} {d : D}, Tu n d → tupN n d = d
  | 0, _, h => rfl
  | n + 1, _, h => by
    rcases h with h | ⟨xs, rfl, hl, h⟩
    · exact tupN_leaf h
    · simp only [tupN]
      rw [List.map_congr_left (g := fun x => x) fun x hx => (h x hx).id]; simp
theorem Tu.succ : ∀ {n : Nat} {d : D}, Tu n d → Tu (n + 1) d
  | 0, d, h => .inl h
  | n + 1, d, h => by
    rcases h with h | ⟨xs, e, hl, h⟩
    · exact .inl h
    · exact .inr ⟨xs, e, hl, fun x hx => (h x hx).succ⟩
theorem Tu.mono {n m : Nat} {d : D} (h : Tu n d) (k : n ≤ m) : Tu m d := by
  obtain ⟨j, rfl⟩ := Nat.exists_eq_add_of_le k
  induction j with
  | zero => exact h
  | succ j ih => exact (ih (by omega)).succ
theorem Tu.int {n : Nat} {i : Int} : Tu n (.int i) := by cases n; exact .inl ⟨i, rfl⟩; exact .inl (.inl ⟨i, rfl⟩)
theorem Tu.str {n : Nat} {s : Str} (h : PyData.strOk s = true) : Tu n (.str s) := by cases n; exact .inr (.inr (.inr ⟨s, rfl, h⟩)); exact .inl (.inr (.inr (.inr ⟨s, rfl, h⟩)))
theorem Tu.non {n : Nat} : Tu n .non := by cases n; exact .inr (.inl rfl); exact .inl (.inr (.inl rfl))
theorem Tu.tup {n : Nat} {xs : List D} (hl : xs.length ≤ 1000) (h : ∀ x ∈ xs, Tu n x) : Tu (n + 1) (.tup xs) := .inr ⟨xs, rfl, hl, h⟩
/-! ### as data -/
theorem Gd.py : ∀ {n : Nat} {d : D}, Gd n d → ∃ p, toPy d = some p ∧ PyData.canLay0 p = true ∧ PyData.depth p ≤ n ∧ PyData.eqv p p = true
  | n, d, h => by
    have lf : Leaf d → ∃ p, toPy d = some p ∧ PyData.canLay0 p = true ∧ PyData.depth p ≤ n ∧ PyData.eqv p p = true := by
      rintro (⟨i, rfl⟩ | rfl | ⟨b, rfl⟩ | ⟨s, rfl, hs⟩)
      · exact ⟨_, rfl, by simp [PyData.canLay0], by simp [PyData.depth], by simp [PyData.eqv]⟩
      · exact ⟨_, rfl, by simp [PyData.canLay0], by simp [PyData.depth], by simp [PyData.eqv]⟩
      · exact ⟨_, rfl, by simp [PyData.canLay0], by simp [PyData.depth], by simp [PyData.eqv]⟩
      · exact ⟨_, rfl, by simp [PyData.canLay0, hs], by simp [PyData.depth], by simp [PyData.eqv]⟩
    match n, h with
    | 0, h => exact lf h
    | n + 1, h =>
      rcases h with h | ⟨xs, e, hl, h⟩
      · exact lf h
      · have all : ∀ {xs : List D}, (∀ x ∈ xs, Gd n x) → ∃ ps, toPys xs = some ps ∧ PyData.canLayAll0 ps = true ∧ PyData.depthAll ps ≤ n ∧ PyData.eqvAll ps ps = true := fun {xs} h => by
          induction xs with
          | nil => exact ⟨[], rfl, rfl, by simp [PyData.depthAll], by simp [PyData.eqvAll]⟩
          | cons x xs ih =>
            obtain ⟨ps, e1, e2, e3, e4⟩ := ih fun y hy => h y (by simp [hy])
            obtain ⟨p, f1, f2, f3, f4⟩ := (h x (by simp)).py
            exact ⟨p :: ps, by simp [toPys, e1, f1], by simp [PyData.canLayAll0, e2, f2], by simp [PyData.depthAll]; omega, by simp [PyData.eqvAll, e4, f4]⟩
        obtain ⟨ps, e1, e2, e3, e4⟩ := all h
        rcases e with rfl | rfl
        · exact ⟨.list ps, by simp [toPy, e1], by simp [PyData.canLay0, e2], by simp [PyData.depth]; omega, by simp [PyData.eqv, e4]⟩
        · exact ⟨.tuple ps, by simp [toPy, e1], by simp [PyData.canLay0, e2], by simp [PyData.depth]; omega, by simp [PyData.eqv, e4]⟩
theorem Gd.eq {n : Nat} {d : D} (h : Gd n d) (hn : n ≤ 60) : eqD d d = some true := by
  obtain ⟨p, e1, e2, e3, e4⟩ := h.py
  simp [eqD, e1, e4, SeqAt.shaped, e2]; omega
theorem Gd.dEq {n : Nat} {d : D} (h : Gd n d) (hn : n ≤ 60) : PD.dEq d d = some (.bl true) := by rw [PD.dEq, h.eq hn]; rfl
theorem Gd.dNe {n : Nat} {d : D} (h : Gd n d) (hn : n ≤ 60) : PD.dNe d d = some (.bl false) := by rw [PD.dNe, h.eq hn]; rfl
@[simp] theorem gt_npt {h : List D → Env → Option Env} {ds : List D} {δ : Env} : gt h (.npt ds) δ = h ds δ := rfl
theorem okE_compA {β : Type} {enc : β → D} {vs : List Nat} {g : D → Env → Option Env} {e : Env → RE D} {δ : Env} {Q : List D → Env → Prop} (F : β → D) {bs : List β} (h : ∀ b ∈ bs, okO (g (enc b) δ) fun δ1 => wipeD vs δ1 = δ ∧ okE (e δ1) fun y δ3 => y = F b ∧ δ3 = δ1) (hl : bs.length ≤ sizeLine) (q : Q (bs.map F) δ) : okE (scomp vs g tyes e (bs.map enc) [] δ) Q := by
  refine okE_compR (fun _ => true) F (fun b hb => ?_) (by simpa using hl) ?_
  · obtain ⟨δ1, e1, h1, h2⟩ := h b hb
    exact ⟨δ1, e1, h1, ⟨true, δ1, rfl, rfl, rfl, fun _ => h2⟩⟩
  · rw [List.filter_eq_self.2 (fun _ _ => rfl)]; exact q
@[simp] theorem okE_izipL {f : Env → RE (List D)} {δ : Env} {xs : List D} {Q : List D → Env → Prop} (h : f δ = some (.ok ([.lst xs, .lst xs], δ))) : okE (izip f δ) Q = Q (zipD xs xs) δ := by
  unfold izip; rw [h]; simp [bindE]
@[simp] theorem okE_izipT {f : Env → RE (List D)} {δ : Env} {xs : List D} {Q : List D → Env → Prop} (h : f δ = some (.ok ([.tup xs, .tup xs], δ))) : okE (izip f δ) Q = Q (zipD xs xs) δ := by
  unfold izip; rw [h]; simp [bindE]
theorem zip_self : ∀ {xs : List D}, zipD xs xs = xs.map fun x => .npt [x, x]
  | [] => rfl
  | x :: xs => by rw [zipD, zip_self]; rfl
theorem dbools_true {β : Type} : ∀ {l : List β}, dbools (l.map fun _ => D.bl true) = some (l.map fun _ => true)
  | [] => rfl
  | x :: xs => by simp [dbools, dbools_true (l := xs)]
end PD
namespace Lw
open PySem L2 PD Fa
theorem sz1000 {n : Nat} (h : n ≤ 1000) : n ≤ sizeLine := by rw [PySem.sizeLine_eq]; omega
theorem lists_ok : ∀ {n : Nat} {d : D}, Gd n d → d__law_lists (n + 1) [d] = some (.ok (lstN n d))
  | n, d, h => by
    have lfc : Leaf d → d__law_lists (n + 1) [d] = some (.ok (lstN n d)) := fun hl => by
      rw [lstN_leaf hl]
      apply eq_of_okR
      refine den_ok rfl ?_
      rcases hl with ⟨i, rfl⟩ | rfl | ⟨b, rfl⟩ | ⟨s, rfl, hs⟩ <;> simp [isA2, isA]
    match n, h with
    | 0, h => exact lfc h
    | n + 1, h =>
      rcases h with h | ⟨xs, e, hl, h⟩
      · exact lfc h
      · apply eq_of_okR
        refine den_ok rfl ?_
        have e2 : lstN (n + 1) d = .lst (xs.map (lstN n)) := by rcases e with rfl | rfl <;> rfl
        have fin : ∀ {Q : List D → PD.Env → Prop} {z : D}, Q (xs.map (lstN n)) [some z, none] → okE (scomp [1] (gn 1) tyes (lf [] (vcall (d__law_lists (n + 1)) (acons (v 1) anil))) xs [] [some z, none]) Q := fun {Q z} q => by
          have := okE_compA (enc := fun x => x) (vs := [1]) (g := gn 1) (e := lf [] (vcall (d__law_lists (n + 1)) (acons (v 1) anil))) (δ := [some z, none]) (Q := Q) (lstN n) (bs := xs) (fun x hx => by simp [lists_ok (h x hx)]) (sz1000 hl) q
          simpa using this
        rw [e2]
        rcases e with rfl | rfl <;> (simp [isA2, isA]; refine fin ?_; simp)
theorem tupled_ok : ∀ {n : Nat} {d : D}, Gd n d → d_tupled (n + 1) [d] = some (.ok (tupN n d))
  | n, d, h => by
    have lfc : Leaf d → d_tupled (n + 1) [d] = some (.ok (tupN n d)) := fun hl => by
      rw [tupN_leaf hl]
      apply eq_of_okR
      refine den_ok rfl ?_
      rcases hl with ⟨i, rfl⟩ | rfl | ⟨b, rfl⟩ | ⟨s, rfl, hs⟩ <;> simp [isA2, isA]
    match n, h with
    | 0, h => exact lfc h
    | n + 1, h =>
      rcases h with h | ⟨xs, e, hl, h⟩
      · exact lfc h
      · apply eq_of_okR
        refine den_ok rfl ?_
        have e2 : tupN (n + 1) d = .tup (xs.map (tupN n)) := by rcases e with rfl | rfl <;> rfl
        have fin : ∀ {Q : List D → PD.Env → Prop} {z : D}, Q (xs.map (tupN n)) [some z, none] → okE (scomp [1] (gn 1) tyes (lf [] (vcall (d_tupled (n + 1)) (acons (v 1) anil))) xs [] [some z, none]) Q := fun {Q z} q => by
          have := okE_compA (enc := fun x => x) (vs := [1]) (g := gn 1) (e := lf [] (vcall (d_tupled (n + 1)) (acons (v 1) anil))) (δ := [some z, none]) (Q := Q) (tupN n) (bs := xs) (fun x hx => by simp [tupled_ok (h x hx)]) (sz1000 hl) q
          simpa using this
        rw [e2]
        rcases e with rfl | rfl <;> (simp [isA2, isA]; refine fin ?_; simp)
theorem same_ok : ∀ {n : Nat} {d : D}, Gd n d → d__law_same (n + 1) [d, d] = some (.ok (.bl true))
  | n, d, h => by
    have lfc : Leaf d → d__law_same (n + 1) [d, d] = some (.ok (.bl true)) := fun hl => by
      have he : PD.dEq d d = some (.bl true) := (Gd.leaf (n := 0) hl).dEq (by omega)
      apply eq_of_okR
      refine den_ok rfl ?_
      rcases hl with ⟨i, rfl⟩ | rfl | ⟨b, rfl⟩ | ⟨s, rfl, hs⟩ <;> simp [isA2, isA, PD.isNon, he]
    match n, h with
    | 0, h => exact lfc h
    | n + 1, h =>
      rcases h with h | ⟨xs, e, hl, h⟩
      · exact lfc h
      · apply eq_of_okR
        refine den_ok rfl ?_
        have fin : ∀ {Q : List D → PD.Env → Prop} {z w : D}, Q (xs.map fun _ => .bl true) [some z, some w, none, none] → okE (scomp [2, 3] (gt (gscons (gn 2) (gscons (gn 3) gsnil))) tyes (lf [] (vcall (d__law_same (n + 1)) (acons (v 2) (acons (v 3) anil)))) (zipD xs xs) [] [some z, some w, none, none]) Q := fun {Q z w} q => by
          rw [zip_self]
          exact okE_compA (enc := fun x => D.npt [x, x]) (fun _ => .bl true) (bs := xs) (fun x hx => by simp [same_ok (h x hx)]) (sz1000 hl) q
        rcases e with rfl | rfl
        · simp [isA2, isA]
          rw [okE_izipL (xs := xs) rfl]
          refine fin ?_; simp [dbools_true]
        · simp [isA2, isA]
          rw [okE_izipT (xs := xs) rfl]
          refine fin ?_; simp [dbools_true]
end Lw
end
section
namespace PD
open PySem L2 Fa
/-- shares for all, bounded -/
structure Sh (N : Net Str) (b : Rat) (s : List (Str × Rat)) : Prop where
  t : Tab N s
  all : ∀ r ∈ N.rows, ∃ q, get s r.name = some q
  sm : ∀ x q, get s x = some q → DenL 31 q ∧ -b ≤ q ∧ q ≤ b
def loadS (N : Net Str) (s : List (Str × Rat)) (x : Str) : Rat := sumQ ((N.rows.filter (onL x)).map fun r => (get s r.name).getD 0)
theorem sum_bd {b : Rat} (hb : 0 ≤ b) : ∀ {qs : List Rat}, (∀ q ∈ qs, -b ≤ q ∧ q ≤ b) → ∀ {n : Nat}, qs.length ≤ n → -((n : Rat) * b) ≤ sumQ qs ∧ sumQ qs ≤ (n : Rat) * b
  | [], _, n, _ => by
    rw [sum_nil]
    have := Rat.mul_nonneg (show (0 : Rat) ≤ (n : Rat) from Rat.natCast_nonneg) hb
    constructor <;> grind
  | q :: qs, h, 0, hl => by simp at hl
  | q :: qs, h, n + 1, hl => by
    have h1 := h q (by simp)
    have h2 := sum_bd hb (qs := qs) (fun p hp => h p (by simp [hp])) (n := n) (by simpa using hl)
    rw [sum_cons, Rat.natCast_add]
    have e : ((n : Rat) + ((1 : Nat) : Rat)) * b = (n : Rat) * b + b := by rw [Rat.add_mul]; congr 1; simp
    rw [e]
    constructor <;> grind
section
variable {N : Net Str} {b : Rat} {s : List (Str × Rat)}
theorem Sh.row (h : Sh N b s) {r : Row Str} (hr : r ∈ N.rows) : ∃ q, get s r.name = some q ∧ DenL 31 q ∧ -b ≤ q ∧ q ≤ b := by
  obtain ⟨q, e⟩ := h.all r hr
  exact ⟨q, e, h.sm _ _ e⟩
theorem Sh.load (ok : Ok N) (h : Sh N b s) (hb : 0 ≤ b) (x : Str) : DenL 31 (loadS N s x) ∧ -(8 * b) ≤ loadS N s x ∧ loadS N s x ≤ 8 * b := by
  have hl : ((N.rows.filter (onL x)).map fun r => (get s r.name).getD 0).length ≤ 8 := by
    rw [List.length_map]; exact Nat.le_trans (List.length_filter_le _ _) ok.few
  have hq : ∀ q ∈ (N.rows.filter (onL x)).map fun r => (get s r.name).getD 0, DenL 31 q ∧ -b ≤ q ∧ q ≤ b := fun q hq => by
    obtain ⟨r, hr, rfl⟩ := List.mem_map.1 hq
    obtain ⟨q, e, h1⟩ := h.row (List.mem_filter.1 hr).1
    rw [e]; exact h1
  have h1 := sum_bd hb (fun q h => (hq q h).2) hl
  refine ⟨DenL.sum fun q h => (hq q h).1, ?_, ?_⟩
  · exact h1.1
  · exact h1.2
theorem Sh.put (h : Sh N b s) {b' : Rat} (hb : b ≤ b') {r : Row Str} (hr : r ∈ N.rows) {q : Rat} (hq : DenL 31 q ∧ -b' ≤ q ∧ q ≤ b') : Sh N b' (put s r.name q) := by
  have hg : ∀ x, get (Fa.put s r.name q) x = if x = r.name then some q else get s x := fun x => get_put _ _ _ _
  refine ⟨tab_put h.t hr, fun r' hr' => ?_, fun x p e => ?_⟩
  · rw [hg]
    split
    · exact ⟨q, rfl⟩
    · exact h.all r' hr'
  · rw [hg] at e
    split at e
    · cases e; exact hq
    · have := h.sm x p e
      exact ⟨this.1, by grind, by grind⟩
end
theorem bdB {q : Rat} (h : DenL 31 q) (h1 : -1000000 ≤ q) (h2 : q ≤ 1000000) : Bd q := bd_big h (by omega) h1 h2
end PD
namespace Lw
open PySem L2 PD Fa
theorem sum_loopB {f : List D → Rs D} (hf : ∀ {p q : Rat}, Bd p → Bd q → f [encQ p, encQ q] = some (.ok (encQ (p + q)))) {k : Nat} (hk : k ≤ 100) {x0 : Option D} {Q : Out → PD.Env → Prop} :
    ∀ {qs : List Rat} {a : Rat} {x : Option D}, (∀ q ∈ qs, DenL k q ∧ -10000 ≤ q ∧ q ≤ 10000) → DenL k a → ∀ j : Nat, -10000 * (j : Rat) ≤ a → a ≤ 10000 * (j : Rat) → j + qs.length ≤ 50 → (∀ x, Q .nx [x0, some (encQ (a + sumQ qs)), x]) →
    okE (sfor (gn 2) (sset 1 (lf [] (vcall f (acons (v 1) (acons (v 2) anil))))) (qs.map encQ) [x0, some (encQ a), x]) Q
  | [], a, x, _, _, j, _, _, _, q => by
    have : a + sumQ [] = a := by rw [sum_nil]; grind
    rw [this] at q
    exact ⟨_, _, rfl, q x⟩
  | p :: qs, a, x, h, hd, j, h1, h2, hl, q => by
    have hp := h p (by simp)
    rw [List.length_cons] at hl
    have hj : (j : Rat) ≤ 50 := by
      have : (j : Rat) ≤ ((50 : Nat) : Rat) := Rat.natCast_le_natCast.2 (by omega)
      simpa using this
    have ba : Bd a := bd_big hd hk (by grind) (by grind)
    have bp : Bd p := bd_big hp.1 hk (by grind) (by grind)
    have e : (sset 1 (lf [] (vcall f (acons (v 1) (acons (v 2) anil))))) [x0, some (encQ a), some (encQ p)] = some (.ok (.nx, [x0, some (encQ (a + p)), some (encQ p)])) := by
      simp [sset, lf, mask, vcall, acons, anil, v, opt, PD.bind, ok, hf ba bp, bindE]
    rw [List.map_cons]
    unfold sfor
    simp only [gn_eq, List.set]
    rw [e]
    have hc : ((j + 1 : Nat) : Rat) = (j : Rat) + 1 := by rw [Rat.natCast_add]; rfl
    have l1 := hp.2.1
    have u1 := hp.2.2
    refine sum_loopB hf hk (fun y hy => h y (by simp [hy])) (hd.add hp.1) (j + 1) (by rw [hc]; grind) (by rw [hc]; grind) (by omega) fun x => ?_
    have : a + p + sumQ qs = a + sumQ (p :: qs) := by rw [sum_cons]; grind
    rw [this]; exact q x
theorem sumB_ok {k : Nat} (hk : k ≤ 100) {qs : List Rat} (h : ∀ q ∈ qs, DenL k q ∧ -10000 ≤ q ∧ q ≤ 10000) (hl : qs.length ≤ 50) : d__law_sum [.lst (qs.map encQ)] = some (.ok (encQ (sumQ qs))) := by
  apply eq_of_okR
  refine den_ok rfl ?_
  simp
  refine ⟨sz (by omega), ?_⟩
  have e : D.tup [D.int 0, D.int 1] = encQ ((0 : Nat) : Rat) := (enc_nat 0).symm
  rw [e]
  refine sum_loopB plus_ok hk h (DenL.nat 0) 0 (by grind) (by grind) (by omega) fun x => ?_
  simp
  congr 1; show ((0 : Nat) : Rat) + _ = _; simp; grind
theorem psumB_ok {k : Nat} (hk : k ≤ 100) {qs : List Rat} (h : ∀ q ∈ qs, DenL k q ∧ -10000 ≤ q ∧ q ≤ 10000) (hl : qs.length ≤ 50) : d_sum_of [.lst (qs.map encQ)] = some (.ok (encQ (sumQ qs))) := by
  apply eq_of_okR
  refine den_ok rfl ?_
  simp
  have e : k_NOUGHT = encQ ((0 : Nat) : Rat) := (enc_nat 0).symm
  rw [e]
  refine sum_loopB pplus_ok hk h (DenL.nat 0) 0 (by grind) (by grind) (by omega) fun x => ?_
  simp
  congr 1; show ((0 : Nat) : Rat) + _ = _; simp; grind
section
variable {N : Net Str} {b : Rat} {s : List (Str × Rat)}
theorem law_load (ok : NetOk N) (h : Sh N b s) (hb1 : b ≤ 10000) {c : Str × Nat} : d__law_sum [.lst ((N.rows.filter (onL c.1)).map fun r => encQ ((get s r.name).getD 0))] = some (.ok (encQ (loadS N s c.1))) := by
  have := sumB_ok (k := 31) (by omega) (qs := (N.rows.filter (onL c.1)).map fun r => (get s r.name).getD 0) (fun q hq => by
    obtain ⟨r, hr, rfl⟩ := List.mem_map.1 hq
    obtain ⟨q, e, h1⟩ := h.row (List.mem_filter.1 hr).1
    rw [e]; exact ⟨h1.1, by have := h1.2.1; simp; grind, by have := h1.2.2; simp; grind⟩) (by
      rw [List.length_map]
      have h1 := List.length_filter_le (onL c.1) N.rows
      have h2 := ok.ok.few
      omega)
  rw [List.map_map] at this
  exact this
def hiPart (s : List (Str × Rat)) (r : Row Str) : List Rat := match r.hi with
  | none => []
  | some m => [(m : Rat) - (get s r.name).getD 0]
def spL (N : Net Str) (s : List (Str × Rat)) (r : Row Str) (ws : List (Str × Nat)) : List Rat := hiPart s r ++ (ws.filter fun c => onL c.1 r).map fun c => (c.2 : Rat) - loadS N s c.1
theorem sp_bd (ok : NetOk N) (h : Sh N b s) (hb0 : 10 ≤ b) {r : Row Str} (hr : r ∈ N.rows) {ws : List (Str × Nat)} (hw : ∀ c ∈ ws, c ∈ N.wires) : ∀ q ∈ spL N s r ws, DenL 31 q ∧ -(8 * b + 64) ≤ q ∧ q ≤ 8 * b + 64 := by
  intro q hq
  unfold spL at hq
  rcases List.mem_append.1 hq with hq | hq
  · unfold hiPart at hq
    cases hh : r.hi with
    | none => rw [hh] at hq; simp at hq
    | some m =>
      rw [hh] at hq
      rw [List.mem_singleton.1 hq]
      obtain ⟨p, e, h1, h2, h3⟩ := h.row hr
      have hm := (ok.ok.hi r hr m hh).2
      have m5 : (m : Rat) ≤ ((5 : Nat) : Rat) := Rat.natCast_le_natCast.2 hm
      have m0 : (0 : Rat) ≤ (m : Rat) := Rat.natCast_nonneg
      have e5 : ((5 : Nat) : Rat) = 5 := rfl
      rw [e]
      exact ⟨(DenL.nat _).sub h1, by simp; grind, by simp; grind⟩
  · obtain ⟨c, hc, rfl⟩ := List.mem_map.1 hq
    have hc := hw c (List.mem_filter.1 hc).1
    have h1 := h.load ok.ok (by grind) c.1
    have h2 := cap64 ok.ok hc
    have h3 : (0 : Rat) ≤ (c.2 : Rat) := Rat.natCast_nonneg
    exact ⟨(DenL.nat _).sub h1.1, by grind, by grind⟩
theorem sp_ne (ok : NetOk N) {r : Row Str} (hr : r ∈ N.rows) : spL N s r N.wires ≠ [] := by
  obtain ⟨h1, h2⟩ := ok.ok.ln r hr
  obtain ⟨x, hx⟩ := List.exists_mem_of_ne_nil _ h1
  obtain ⟨c, hc⟩ := h2 x hx
  intro e
  unfold spL at e
  have := (List.append_eq_nil_iff.1 e).2
  have h3 : (x, c) ∈ N.wires.filter fun c => onL c.1 r := List.mem_filter.2 ⟨hc, by simpa [onL] using hx⟩
  rw [List.map_eq_nil_iff] at this
  rw [this] at h3
  simp at h3
theorem hi_len {r : Row Str} : (hiPart s r).length ≤ 1 := by unfold hiPart; split <;> simp
theorem spare_ok (ok : NetOk N) (h : Sh N b s) (hb0 : 10 ≤ b) (hb1 : b ≤ 10000) {r : Row Str} (hr : r ∈ N.rows) : ∃ q, d__law_spare [encNet N, encS s, encRow r] = some (.ok (encQ q)) ∧ DenL 31 q ∧ -(8 * b + 64) ≤ q ∧ q ≤ 8 * b + 64 := by
  have key : okR (d__law_spare [encNet N, encS s, encRow r]) fun d => ∃ q, d = encQ q ∧ DenL 31 q ∧ -(8 * b + 64) ≤ q ∧ q ≤ 8 * b + 64 := by
    refine den_ok rfl ?_
    have hfew := ok.ok.few
    have hfw := ok.fw
    generalize hNet : encNet N = Net' at *
    have hN1 : dIx Net' (.int 1) = some (.tup (N.rows.map encRow)) := by rw [← hNet]; rfl
    have hN0 : dIx Net' (.int 0) = some (.tup (N.wires.map encWire)) := by rw [← hNet]; rfl
    generalize hRow : encRow r = Row'
    have hR0 : dIx Row' (.int 0) = some (.str r.name) := by rw [← hRow]; rfl
    have hR1 : dIx Row' (.int 1) = some (.tup (r.lines.map .str)) := by rw [← hRow]; rfl
    have hR4 : dIx Row' (.int 4) = some (encHi r.hi) := by rw [← hRow]; rfl
    obtain ⟨p, hp, hp1, hp2, hp3⟩ := h.row hr
    refine okS_step fun K hK _ => ?_
    suffices hs : K .nx [some Net', some (encS s), some Row', some (.lst ((hiPart s r).map encQ)), none, none, none, none, none, none] by
      simp [hR4]
      cases hh : r.hi with
      | none =>
        have e : hiPart s r = [] := by unfold hiPart; rw [hh]
        rw [e] at hs
        simp [encHi, PD.isNon]
        exact hs
      | some m =>
        have e : hiPart s r = [(m : Rat) - p] := by unfold hiPart; rw [hh, hp]; rfl
        rw [e] at hs
        have hm := (ok.ok.hi r hr m hh).2
        have hM := minus_ok (p := (m : Rat)) (q := p) ((sm_nat (k := 0) (by omega)).bd (by omega)) (bdB hp1 (by grind) (by grind))
        rw [enc_nat] at hM
        simp [encHi, PD.isNon, hR0, hp, hM]
        exact ⟨sz (by omega), sz (by omega), hs⟩
    refine hK _ ?_
    clear hK
    refine okS_step fun K hK _ => ?_
    simp
    rw [hN0]; simp
    refine okS_for (fun i δ => ∃ x4 x5 x6, δ = [some Net', some (encS s), some Row', some (.lst ((spL N s r (N.wires.take i)).map encQ)), x4, x5, x6, none, none, none]) (n := 0) ⟨none, none, none, by simp [spL]⟩ ?_ ?_
    · rintro i d δ hi ⟨x4, x5, x6, rfl⟩
      rw [Nat.zero_add, List.getElem?_map, Option.map_eq_some_iff] at *
      obtain ⟨c, hc, rfl⟩ := hi
      have hcm : c ∈ N.wires := List.mem_of_getElem? hc
      have hst := ok.dIn hcm hr
      have hnx : spL N s r (N.wires.take (i + 1)) = spL N s r (N.wires.take i) ++ (if onL c.1 r = true then [(c.2 : Rat) - loadS N s c.1] else []) := by
        unfold spL
        rw [take_succ hc, List.filter_append, List.map_append, List.append_assoc]
        congr 2
        by_cases ho : onL c.1 r = true
        · rw [if_pos ho, List.filter_cons_of_pos (p := fun c : Str × Nat => onL c.1 r) ho]; rfl
        · rw [if_neg ho, List.filter_cons_of_neg (p := fun c : Str × Nat => onL c.1 r) ho]; rfl
      rw [hnx]
      have hl : (spL N s r (N.wires.take i)).length ≤ 20 := by
        unfold spL
        rw [List.length_append, List.length_map]
        have h1 := hi_len (s := s) (r := r)
        have h2 := List.length_filter_le (fun c : Str × Nat => onL c.1 r) (N.wires.take i)
        rw [List.length_take] at h2
        omega
      generalize spL N s r (N.wires.take i) = Fd at *
      refine ⟨_, by simp [encWire]; rfl, ?_⟩
      simp [hR1]
      rw [hst]
      generalize honr : onL c.1 r = on
      rcases Bool.eq_false_or_eq_true on with e | e
      · subst e
        simp
        rw [hN1]; simp
        refine okE_compR (enc := encRow) (T := onL c.1) (F := fun r => encQ ((get s r.name).getD 0)) (fun r hr => ?_) ?_ ?_
        · have hst := ok.dIn hcm hr
          obtain ⟨q, e, _⟩ := h.row hr
          simp [encRow]
          rw [hst]; simp [e]
        · simp; exact sz (by omega)
        · have h1 := h.load ok.ok (by grind) c.1
          have hM := minus_ok (p := (c.2 : Rat)) (q := loadS N s c.1) ((sm_nat (k := 0) (by have := ok.ok.cap c hcm; omega)).bd (by omega)) (bdB h1.1 (by grind) (by grind))
          rw [enc_nat] at hM
          rw [List.nil_append]
          simp [law_load ok h hb1, hM]
          exact ⟨sz (by omega), Nat.lt_of_lt_of_le (show Fd.length < 100 by omega) (sz (by omega))⟩
      · subst e
        simp
    · rintro δ ⟨x4, x5, x6, rfl⟩
      rw [show (0 + (N.wires.map encWire).length) = N.wires.length by simp, List.take_of_length_le (Nat.le_refl _)]
      refine hK _ ?_
      clear hK
      have hne := sp_ne (s := s) ok hr
      have hbd := sp_bd ok h hb0 hr (ws := N.wires) fun _ h => h
      generalize spL N s r N.wires = Ls at *
      cases hLe : Ls with
      | nil => exact absurd hLe hne
      | cons a L =>
        rw [← hLe]
        have h0 : Ls[0]? = some a := by rw [hLe]; rfl
        have ha : a ∈ Ls := by rw [hLe]; simp
        have hBd : ∀ e ∈ Ls, Bd e := fun e he => by
          have := hbd e he
          exact bdB this.1 (by grind) (by grind)
        simp [h0, bxIn]
        refine okS_for (fun i δ => ∃ x8, δ = [some Net', some (encS s), some Row', some (.lst (Ls.map encQ)), x4, x5, x6, some (encQ (minQ a (Ls.take i))), x8, none]) (n := 0) ⟨none, rfl⟩ ?_ ?_
        · rintro i d δ hi ⟨x8, rfl⟩
          rw [Nat.zero_add, List.getElem?_map, Option.map_eq_some_iff] at *
          obtain ⟨e, he, rfl⟩ := hi
          rw [minQ_take he]
          have hU := under_ok (p := e) (q := minQ a (Ls.take i)) (hBd e (List.mem_of_getElem? he)) (hBd _ (minQ_in ha i))
          refine ⟨_, rfl, ?_⟩
          simp [hU]
          split <;> simp
        · rintro δ ⟨x8, rfl⟩
          simp
          exact ⟨_, rfl, hbd _ (minQ_mem ha).1⟩
  obtain ⟨d, e, q, rfl, hs⟩ := key
  exact ⟨q, e, hs⟩
end
end Lw
end
section
namespace PD
open PySem L2 Fa
theorem keysS_enc : ∀ {s : List (Str × Rat)}, keysS (encK s) = some (s.map (·.1))
  | [] => rfl
  | kv :: s => by
    have := keysS_enc (s := s)
    unfold encK at this ⊢
    rw [List.map_cons, keysS, this]; rfl
theorem sorted_keys {s : List (Str × Rat)} (hl : s.length < 64) : ∃ ks : List Str, dSorted2 (encS s) = some (.lst (ks.map .str)) ∧ ks.Perm (s.map (·.1)) := by
  obtain ⟨ks, e1, p⟩ := perm_unmap (isort_permD ((s.map (·.1)).map .str)) rfl
  refine ⟨ks, ?_, p⟩
  rw [← e1]
  show (keysS (encK s)).bind _ = _
  rw [keysS_enc, Option.bind_some, if_pos (by rw [List.length_map]; exact hl)]
def encP (s : List (Str × Rat)) (ks : List Str) : D := .tup (ks.map fun x => .tup [.str x, encQ ((get s x).getD 0)])
theorem mix_bd {f l p : Rat} (hf0 : 0 ≤ f) (hf : f ≤ 64) (hl0 : 0 ≤ l) (hl : l ≤ 2) (hp0 : 0 ≤ p) (hp : p ≤ 1) : -100 ≤ l + (f - l) * p ∧ l + (f - l) * p ≤ 100 := by
  have h1 : 0 ≤ (f - l + 2) * p := Rat.mul_nonneg (by grind) hp0
  have h2 : (f - l + 2) * p ≤ (f - l + 2) * 1 := Rat.mul_le_mul_of_nonneg_left hp (by grind)
  constructor <;> grind
end PD
namespace Lw
open PySem L2 PD Fa
section
variable {N : Net Str} {b : Rat} {s : List (Str × Rat)}
theorem pairs_ok (ok : NetOk N) (h : Sh N b s) : ∃ ks : List Str, ks.Perm (s.map (·.1)) ∧ d__law_pairs [encS s] = some (.ok (encP s ks)) := by
  have hl := tab_len h.t
  have hf := ok.ok.few
  obtain ⟨ks, e, p⟩ := sorted_keys (s := s) (by omega)
  refine ⟨ks, p, ?_⟩
  apply eq_of_okR
  refine den_ok rfl ?_
  simp [e]
  have hkl : ks.length = s.length := by rw [p.length_eq, List.length_map]
  refine okE_compA (enc := D.str) (fun x => .tup [.str x, encQ ((get s x).getD 0)]) (fun x hx => ?_) (sz (by omega)) ?_
  · obtain ⟨r, hr, rfl⟩ := h.t.ks x (p.mem_iff.1 hx)
    obtain ⟨q, e, _⟩ := h.row hr
    simp [e]
    exact sz (by omega)
  · simp [encP]
theorem any_ok {n : Nat} {B : List D} (hB : Box n B) (hn : n < 2 ^ 30) (ok : NetOk N) (h0 : N.rows ≠ []) : ∃ d B', d__law_any_shares B [encNet N] = some (d, B') ∧ ∃ s, d = encS s ∧ Sh N 10000 s ∧ Box (n + 100) B' := by
  refine denB_ok rfl ?_
  have hfew := ok.ok.few
  obtain ⟨f, hf, hF⟩ := fair_ok ok
  have hsp := fun {b : Rat} {s : List (Str × Rat)} (h : Sh N b s) (hb0 : 10 ≤ b) (hb1 : b ≤ 10000) {r : Row Str} (hr : r ∈ N.rows) => spare_ok ok h hb0 hb1 hr
  generalize hNet : encNet N = Net' at *
  have hN1 : dIx Net' (.int 1) = some (.tup (N.rows.map encRow)) := by rw [← hNet]; rfl
  refine okS_step fun K hK _ => ?_
  simp [ok_par2, hf]
  refine hK _ ?_
  clear hK
  refine okS_step fun K hK _ => ?_
  simp
  rw [hN1]; simp
  refine okS_for (fun i δ => ∃ (s : List (Str × Rat)) (B : List D) (x4 x5 x6 : Option D), δ = [some (.lst B), some Net', some (encS f), some (encS s), x4, x5, x6, none] ∧ s.map (·.1) = (N.rows.take i).map Row.name ∧ (∀ kv ∈ s, DenL 31 kv.2 ∧ -100 ≤ kv.2 ∧ kv.2 ≤ 100) ∧ Box (n + i) B) (n := 0) ⟨[], B, none, none, none, rfl, rfl, by simp, hB⟩ ?_ ?_
  · rintro i d δ hi ⟨s, B, x4, x5, x6, rfl, hs1, hs2, hB⟩
    rw [Nat.zero_add] at *
    rw [List.getElem?_map, Option.map_eq_some_iff] at hi
    obtain ⟨r, hr', rfl⟩ := hi
    have hr : r ∈ N.rows := List.mem_of_getElem? hr'
    have hil := lt_of_get hr'
    obtain ⟨q, hq⟩ := hF.all r hr
    obtain ⟨hq1, hq2, hq3⟩ := hF.sm _ _ hq
    have hlo := ok.ok.lo r hr
    have lo2 : (r.lo : Rat) ≤ ((2 : Nat) : Rat) := Rat.natCast_le_natCast.2 hlo
    have lo0 : (0 : Rat) ≤ (r.lo : Rat) := Rat.natCast_nonneg
    have e2 : ((2 : Nat) : Rat) = 2 := rfl
    refine ⟨_, rfl, ?_⟩
    generalize hRow : encRow r = Row'
    have hR0 : dIx Row' (.int 0) = some (.str r.name) := by rw [← hRow]; rfl
    have hR3 : dIx Row' (.int 3) = some (.int r.lo) := by rw [← hRow]; rfl
    simp [ok_par2, hR3]
    refine ⟨sz (by omega), ?_⟩
    refine okO_take hB (by omega) (by omega) (by omega) fun j B1 j0 j1 hB1 => ?_
    obtain ⟨j, rfl⟩ := Int.eq_ofNat_of_zero_le j0
    have hT := terms_nat (a := j) (b := 4) (by omega) (by decide)
    have j4 : (j : Rat) ≤ ((4 : Nat) : Rat) := Rat.natCast_le_natCast.2 (by omega)
    have jn : (0 : Rat) ≤ (j : Rat) := Rat.natCast_nonneg
    have e4 : ((4 : Nat) : Rat) = 4 := rfl
    have hp0 : 0 ≤ (j : Rat) / ((4 : Nat) : Rat) := div_nonneg jn (by omega)
    have hp1 : (j : Rat) / ((4 : Nat) : Rat) ≤ 1 := by
      have h5 : (j : Rat) / ((4 : Nat) : Rat) * 4 = (j : Rat) := by rw [e4]; grind
      grind
    have hpd : DenL 1 ((j : Rat) / ((4 : Nat) : Rat)) := (DenL.nat (k := 0) j).div (by omega) (small_dvd 4 (by omega) (by omega))
    have hmx := mix_bd hq2 hq3 lo0 (by grind) hp0 hp1
    have hM := minus_ok (p := q) (q := (r.lo : Rat)) (Sm.bd (k := 30) ⟨hq1, by grind, by grind⟩ (by omega)) ((sm_nat (k := 0) (by omega)).bd (by omega))
    have hBy := by_ok (p := q - (r.lo : Rat)) (q := (j : Rat) / ((4 : Nat) : Rat)) (Sm.bd (k := 30) ⟨hq1.sub (DenL.nat _), by grind, by grind⟩ (by omega)) (Sm.bd (k := 1) ⟨hpd, by grind, by grind⟩ (by omega))
    have hd31 : DenL 31 ((q - (r.lo : Rat)) * ((j : Rat) / ((4 : Nat) : Rat))) := by
      have e : (q - (r.lo : Rat)) * ((j : Rat) / ((4 : Nat) : Rat)) = ((j : Rat) * (q - (r.lo : Rat))) / ((4 : Nat) : Rat) := by grind
      rw [e]
      exact ((hq1.sub (DenL.nat _)).nmul j).div (by omega) (small_dvd 4 (by omega) (by omega))
    have hPl := plus_ok (p := (r.lo : Rat)) (q := (q - (r.lo : Rat)) * ((j : Rat) / ((4 : Nat) : Rat))) ((sm_nat (k := 0) (by omega)).bd (by omega)) (Sm.bd (k := 31) ⟨hd31, by grind, by grind⟩ (by omega))
    have hdd : DenL 31 ((r.lo : Rat) + (q - (r.lo : Rat)) * ((j : Rat) / ((4 : Nat) : Rat))) := (DenL.nat _).add hd31
    rw [enc_nat] at hM hPl
    generalize hres : (r.lo : Rat) + (q - (r.lo : Rat)) * ((j : Rat) / ((4 : Nat) : Rat)) = res at *
    simp at hT
    generalize (j : Rat) / ((4 : Nat) : Rat) = por at *
    simp [hT, hR0, hq, hM, hBy, hPl]
    have hsl : s.length ≤ 8 := by
      have := congrArg List.length hs1
      rw [List.length_map, List.length_map, List.length_take] at this
      omega
    have hnew : r.name ∉ s.map (·.1) := by
      rw [hs1]
      intro z
      have h1 := take_succ hr'
      have h2 := ok.ok.nd
      have h3 : ((N.rows.take (i + 1)).map Row.name).Nodup := by
        rw [List.map_take]; exact List.Sublist.nodup (List.take_sublist _ _) h2
      rw [h1, List.map_append, List.nodup_append] at h3
      exact h3.2.2 _ z r.name (by simp) rfl
    have hpe := put_enc (s := s) (x := r.name) (q := res)
    rw [put_new hnew] at hpe
    rw [hpe]
    refine ⟨Nat.lt_of_lt_of_le (show (encK s).length < 100 by rw [encK_len]; omega) (sz (by omega)), s ++ [(r.name, res)], B1, ⟨rfl, rfl⟩, ?_, ?_, hB1.mono (by omega)⟩
    · rw [List.map_append, hs1, ← List.map_take, take_succ hr', List.map_append]; rfl
    · intro x p hkv
      rcases List.mem_append.1 hkv with hkv | hkv
      · exact hs2 _ hkv
      · cases List.mem_singleton.1 hkv
        exact ⟨hdd, hmx.1, hmx.2⟩
  · rintro δ ⟨s, B, x4, x5, x6, rfl, hs1, hs2, hB⟩
    rw [show (0 + (N.rows.map encRow).length) = N.rows.length by simp] at hs1 hB
    rw [List.take_of_length_le (Nat.le_refl _)] at hs1
    have hSh : Sh N 100 s := by
      refine ⟨⟨by rw [hs1]; exact ok.ok.nd, fun x hx => by rw [hs1] at hx; obtain ⟨r, hr, e⟩ := List.mem_map.1 hx; exact ⟨r, hr, e⟩⟩, fun r hr => ?_, fun x q e => ?_⟩
      · cases e : get s r.name with
        | some q => exact ⟨q, rfl⟩
        | none => exact absurd (show r.name ∈ s.map (·.1) by rw [hs1]; exact List.mem_map.2 ⟨r, hr, rfl⟩) (get_none.1 e)
      · unfold Fa.get at e
        rw [Option.map_eq_some_iff] at e
        obtain ⟨kv, e1, rfl⟩ := e
        exact hs2 kv (List.mem_of_find?_eq_some e1)
    refine hK _ ?_
    clear hK
    refine okS_step fun K hK _ => ?_
    simp
    refine okO_take hB (by omega) (by omega) (by omega) fun j B1 j0 j1 hB1 => ?_
    obtain ⟨j, rfl⟩ := Int.eq_ofNat_of_zero_le j0
    simp
    refine ⟨by omega, ?_⟩
    refine okS_for (fun i δ => ∃ (s : List (Str × Rat)) (B : List D) (x4 x5 x6 x7 : Option D), δ = [some (.lst B), some Net', some (encS f), some (encS s), x4, x5, x6, x7] ∧ Sh N (if i = 0 then 100 else if i = 1 then 1000 else 10000) s ∧ Box (n + 20 + i) B) (n := 0) ⟨s, B1, x4, x5, x6, none, rfl, hSh, hB1.mono (by omega)⟩ ?_ ?_
    · rintro i d δ hi ⟨s, B, x4, x5, x6, x7, rfl, hs, hB⟩
      rw [Nat.zero_add] at *
      have hi2 := lt_of_get hi
      rw [show (rng 0 (j : Int)).length = j by simp [rng]] at hi2
      refine ⟨_, rfl, ?_⟩
      simp
      rw [hN1]; simp
      refine okO_of hB (by omega) (by simpa using h0) (by simp; omega) fun d B2 hd hB2 => ?_
      obtain ⟨r, hr, rfl⟩ := List.mem_map.1 hd
      generalize hbb : (if i = 0 then (100 : Rat) else if i = 1 then 1000 else 10000) = bb at hs
      have hbb2 : 10 ≤ bb ∧ bb ≤ 1000 ∧ 9 * bb + 64 ≤ (if i + 1 = 0 then (100 : Rat) else if i + 1 = 1 then 1000 else 10000) := by
        rw [← hbb]
        have : i = 0 ∨ i = 1 := by omega
        rcases this with rfl | rfl <;> simp <;> grind
      obtain ⟨sp, hs1, hs2, hs3, hs4⟩ := hsp hs hbb2.1 (by grind) hr
      obtain ⟨q, hq, hq1, hq2, hq3⟩ := hs.row hr
      have hPl := plus_ok (p := q) (q := sp) (bdB hq1 (by grind) (by grind)) (bdB hs2 (by grind) (by grind))
      have hnx := hs.put (b' := if i + 1 = 0 then (100 : Rat) else if i + 1 = 1 then 1000 else 10000) (by grind) hr (q := q + sp) ⟨hq1.add hs2, by grind, by grind⟩
      have hsl := tab_len hs.t
      generalize hRow : encRow r = Row' at *
      have hR0 : dIx Row' (.int 0) = some (.str r.name) := by rw [← hRow]; rfl
      have hpe := put_enc (s := s) (x := r.name) (q := q + sp)
      simp [hR0, hq, hs1, hPl]
      rw [hpe]
      refine ⟨rfl, Nat.lt_of_lt_of_le (show (encK s).length < 100 by rw [encK_len]; omega) (sz (by omega)), _, B2, ⟨rfl, rfl⟩, ?_, hB2.mono (by omega)⟩
      simpa using hnx
    · rintro δ ⟨s, B, x4, x5, x6, x7, rfl, hs, hB⟩
      rw [show (0 + (rng 0 (j : Int)).length) = j by simp [rng]] at hs hB
      refine hK _ ?_
      simp [bxIn]
      refine ⟨s, rfl, ?_, hB.mono (by omega)⟩
      refine ⟨hs.t, hs.all, fun x q e => ?_⟩
      have h1 := hs.sm x q e
      have : (if j = 0 then (100 : Rat) else if j = 1 then 1000 else 10000) ≤ 10000 := by
        split
        · grind
        · split <;> grind
      exact ⟨h1.1, by grind, by grind⟩
end
end Lw
end
section
namespace PD
open PySem L2 Fa
theorem okE_dcompA {β : Type} {enc : β → D} {vs : List Nat} {g : D → Env → Option Env} {t : Env → RE Bool} {ek ev : Env → RE D} {δ : Env} {Q : List (Key × D) → Env → Prop} (f : β → Str) (F : β → D) : ∀ {bs : List β} {acc : List (Key × D)}, (∀ b ∈ bs, okO (g (enc b) δ) fun δ1 => wipeD vs δ1 = δ ∧ okE (t δ1) fun k δ2 => k = true ∧ δ2 = δ1 ∧ (okE (ek δ1) fun y δ3 => y = .str (f b) ∧ δ3 = δ1) ∧ okE (ev δ1) fun y δ3 => y = F b ∧ δ3 = δ1) → ((acc ++ bs.map fun b => ((Sum.inr (f b) : Key), F b)).map (·.1)).Nodup → acc.length + bs.length ≤ sizeLine →
    Q (acc ++ bs.map fun b => (Sum.inr (f b), F b)) δ → okE (dcomp vs g t ek ev (bs.map enc) acc δ) Q
  | [], acc, _, _, _, q => by simpa [dcomp] using q
  | b :: bs, acc, h, nd, hl, q => by
    rw [List.length_cons] at hl
    obtain ⟨δ1, e1, ew, k, δ2, e2, rfl, rfl, ⟨y, δ3, e3, rfl, rfl⟩, z, δ4, e4, rfl, rfl⟩ := h b List.mem_cons_self
    rw [List.map_cons]
    unfold dcomp; rw [e1]; simp only []; rw [e2]; simp only []
    rw [e3]; simp only []
    rw [e4]; simp only [keyOf_str]
    have ep : putD acc (.inr (f b)) (F b) = acc ++ [(.inr (f b), F b)] := by
      unfold putD
      rw [if_neg]
      intro z
      obtain ⟨kv2, h1, h2⟩ := List.any_eq_true.1 z
      rw [List.map_append, List.nodup_append] at nd
      exact nd.2.2 kv2.1 (List.mem_map.2 ⟨kv2, h1, rfl⟩) (.inr (f b)) (by simp) (by simpa using h2)
    rw [if_pos (by omega), ew, ep]
    refine okE_dcompA f F (fun x hx => h x (List.mem_cons_of_mem _ hx)) (by simpa using nd) (by rw [List.length_append, List.length_singleton]; omega) ?_
    simpa using q
def encF (N : Net Str) : D := .dic (N.rows.map fun r => (Sum.inr r.name, encRow r))
def encObj (N : Net Str) (rs : List (Row Str)) : D := .obj "Net" [some (encF N), some (.lst (rs.map fun r => .str r.name)), some (encS (rooms N))]
theorem find_row {l : List (Row Str)} {r : Row Str} (hn : (l.map Row.name).Nodup) (hr : r ∈ l) : ((l.map fun r => ((Sum.inr r.name : Key), encRow r)).find? fun kv => decide (kv.1 = .inr r.name)).map (·.2) = some (encRow r) := by
  induction l with
  | nil => simp at hr
  | cons a l ih =>
    rw [List.map_cons, List.nodup_cons] at hn
    rw [List.map_cons, List.find?_cons]
    rcases List.mem_cons.1 hr with rfl | hr
    · simp
    · have : ¬ a.name = r.name := fun e => hn.1 (List.mem_map.2 ⟨r, hr, e.symm⟩)
      have e : decide ((Sum.inr a.name : Key) = .inr r.name) = false := by simp [this]
      simp only [e]
      exact ih hn.2 hr
theorem dIx_flows {N : Net Str} (ok : Ok N) {r : Row Str} (hr : r ∈ N.rows) : dIx (encF N) (.str r.name) = some (encRow r) := find_row ok.nd hr
theorem sorted_flows {N : Net Str} (ok : Ok N) : ∃ rs : List (Row Str), dSorted2 (encF N) = some (.lst (rs.map fun r => .str r.name)) ∧ rs.Perm N.rows := by
  have hk : ∀ {l : List (Row Str)}, keysS (l.map fun r => ((Sum.inr r.name : Key), encRow r)) = some (l.map Row.name) := fun {l} => by
    induction l with
    | nil => rfl
    | cons a l ih => rw [List.map_cons, keysS, ih]; rfl
  obtain ⟨rs, e1, p⟩ := perm_unmap (f := fun r : Row Str => D.str r.name) (isort_permD ((N.rows.map Row.name).map .str)) (l := N.rows) (by rw [List.map_map]; rfl)
  refine ⟨rs, ?_, p⟩
  rw [← e1]
  show (keysS _).bind _ = _
  rw [hk, Option.bind_some, if_pos (by rw [List.length_map]; have := ok.few; omega)]
def reS (s : List (Str × Rat)) (ks : List Str) : List (Str × Rat) := ks.map fun x => (x, (get s x).getD 0)
theorem get_reS {s : List (Str × Rat)} {ks : List Str} (hn : ks.Nodup) {x : Str} (hx : x ∈ ks) : get (reS s ks) x = some ((get s x).getD 0) :=
  get_map (fun x : Str => x) (fun x => (get s x).getD 0) (by simpa using hn) hx
end PD
namespace Lw
open PySem L2 PD Fa
theorem number_ok {i : Int} : d_is_number [.int i] = some (.ok (.bl true)) := by
  apply eq_of_okR
  refine den_ok rfl ?_
  simp [isA]
theorem whole_ok {n : Nat} : d_whole [.int n] = some (.ok (.tup [.int n, .int 1])) := by
  apply eq_of_okR
  refine den_ok rfl ?_
  simp [number_ok]
  exact sz (by omega)
theorem over_ok {p : Rat} {n : Nat} (hp : Bd p) (h0 : 0 < n) (hn : n < 2 ^ 100) : d_over [encQ p, .tup [.int n, .int 1]] = some (.ok (encQ (p / (n : Rat)))) := by
  apply eq_of_okR
  refine den_ok rfl ?_
  have e : p / (n : Rat) = Rat.divInt p.num ((p.den * n : Nat) : Int) := by
    rw [Rat.divInt_eq_div, Rat.intCast_natCast, Rat.natCast_mul]
    have h1 : p = (p.num : Rat) / (p.den : Rat) := by
      rw [← Rat.intCast_natCast, ← Rat.divInt_eq_div, Rat.num_divInt_den]
    have h2 : (p.den : Rat) ≠ 0 := by have := p.den_pos; have : (0 : Rat) < (p.den : Rat) := Rat.natCast_pos.2 this; grind
    have h3 : (n : Rat) ≠ 0 := by have : (0 : Rat) < (n : Rat) := Rat.natCast_pos.2 h0; grind
    have : p * (p.den : Rat) = (p.num : Rat) := by
      generalize (p.den : Rat) = d at *
      generalize (p.num : Rat) = m at *
      rw [h1]; grind
    generalize (p.den : Rat) = d at *
    rw [← this]; grind
  rw [e]
  have hd : 0 < p.den * n := Nat.mul_pos p.den_pos h0
  have hb : p.den * n < 2 ^ 8800 := by
    refine Nat.lt_of_lt_of_le (Nat.mul_lt_mul_of_lt_of_le hp.2 (Nat.le_of_lt hn) (by decide)) ?_
    rw [← Nat.pow_add]
    exact Nat.pow_le_pow_right (by decide) (by decide)
  simp [encQ]
  rw [dMul_big (b9 hp.1) (by simp)]; simp
  rw [dMul_big (by simpa using b9 hp.2) (by simp; exact b9 (Nat.lt_of_lt_of_le hn (Nat.pow_le_pow_right (by decide) (by decide))))]; simp
  have := lowest_ok (u := p.num) (l := p.den * n) hd hb
  simp at this
  rw [this]; simp [encQ]
section
variable {N : Net Str} {b : Rat} {s : List (Str × Rat)}
theorem net_ok (ok : NetOk N) {d : D} (hd : d_tupled 12 [d] = some (.ok (encNet N))) : ∃ rs : List (Row Str), rs.Perm N.rows ∧ d_Net___init__ [d] = some (encObj N rs) := by
  obtain ⟨rs, e, p⟩ := sorted_flows ok.ok
  refine ⟨rs, p, ?_⟩
  have hfew := ok.ok.few
  have hfw := ok.fw
  have key : okO (d_Net___init__ [d]) fun z => z = encObj N rs := by
    refine denI_ok rfl ?_
    simp [hd, encNet]
    refine okE_dcompA (enc := encWire) (fun c => c.1) (fun c => encQ (c.2 : Rat)) (fun c hc => ?_) (by rw [List.nil_append]; exact nodup_inr ok.ok.wd) (by simp; exact sz (by omega)) ?_
    · simp [encWire, whole_ok, enc_nat]
    · have e2 : (D.dic (N.wires.map fun c => (Sum.inr c.1, encQ (c.2 : Rat)))) = encS (rooms N) := by unfold encS encK rooms; rw [List.map_map]; rfl
      rw [List.nil_append, e2]
      simp [PD.putF]
      refine okE_dcompA (enc := encRow) (fun r => r.name) encRow (fun r hr => ?_) (by rw [List.nil_append]; exact nodup_inr ok.ok.nd) (by simp; exact sz (by omega)) ?_
      · simp [encRow]
      · rw [List.nil_append]
        have e3 : (D.dic (N.rows.map fun r => (Sum.inr r.name, encRow r))) = encF N := rfl
        rw [e3]
        simp [PD.putF, e]
        rfl
  obtain ⟨z, e, rfl⟩ := key
  exact e
theorem flows_ok (ok : NetOk N) {rs : List (Row Str)} (hp : rs.Perm N.rows) {c : Str × Nat} (hc : c ∈ N.wires) : d_Net_flows_on [encObj N rs, .str c.1] = some (.ok (.lst ((rs.filter (onL c.1)).map fun r => .str r.name))) := by
  apply eq_of_okR
  refine den_ok rfl ?_
  simp [encObj]
  refine okE_compR (enc := fun r : Row Str => D.str r.name) (T := onL c.1) (F := fun r => .str r.name) (fun r hr => ?_) (by simp; exact sz (by have := hp.length_eq; have := ok.ok.few; omega)) ?_
  · have hr' := hp.mem_iff.1 hr
    simp [dIx_flows ok.ok hr', encRow]
    rw [ok.dIn hc hr']; simp
  · simp
theorem sumP {rs : List (Row Str)} (hp : rs.Perm N.rows) {x : Str} : sumQ ((rs.filter (onL x)).map fun r => (get s r.name).getD 0) = loadS N s x := sum_perm ((hp.filter _).map _)
theorem nload_ok (ok : NetOk N) (h : Sh N b s) (hb1 : b ≤ 10000) {rs : List (Row Str)} (hp : rs.Perm N.rows) {ks : List Str} (hk : ks.Perm (s.map (·.1))) {c : Str × Nat} (hc : c ∈ N.wires) : d_Net_load [encObj N rs, encS (reS s ks), .str c.1] = some (.ok (encQ (loadS N s c.1))) := by
  apply eq_of_okR
  refine den_ok rfl ?_
  have hF := flows_ok ok hp hc
  have hlen := hp.length_eq
  have hfew := ok.ok.few
  have hfl := List.length_filter_le (onL c.1) rs
  have hkn : ks.Nodup := hk.nodup_iff.2 h.t.nd
  unfold encObj at hF ⊢
  simp [hF]
  refine okE_compA (enc := fun r : Row Str => D.str r.name) (fun r => encQ ((get s r.name).getD 0)) (fun r hr => ?_) (sz (by omega)) ?_
  · have hr' := hp.mem_iff.1 (List.mem_filter.1 hr).1
    obtain ⟨q, e, _⟩ := h.row hr'
    have hx : r.name ∈ ks := hk.mem_iff.2 (Classical.byContradiction fun z => by rw [get_none.2 z] at e; cases e)
    simp [get_reS hkn hx]
  · have := psumB_ok (k := 31) (by omega) (qs := (rs.filter (onL c.1)).map fun r => (get s r.name).getD 0) (fun q hq => by
      obtain ⟨r, hr, rfl⟩ := List.mem_map.1 hq
      obtain ⟨q, e, h1⟩ := h.row (hp.mem_iff.1 (List.mem_filter.1 hr).1)
      rw [e]; exact ⟨h1.1, by have := h1.2.1; simp; grind, by have := h1.2.2; simp; grind⟩) (by rw [List.length_map]; omega)
    rw [List.map_map, sumP hp] at this
    simp
    rw [show (fun r : Row Str => encQ ((get s r.name).getD 0)) = encQ ∘ fun r : Row Str => (get s r.name).getD 0 from rfl, this]; simp
theorem nlevel_ok (ok : NetOk N) (h : Sh N b s) (hb1 : b ≤ 10000) {rs : List (Row Str)} {ks : List Str} (hk : ks.Perm (s.map (·.1))) {r : Row Str} (hr : r ∈ N.rows) {q : Rat} (hq : get s r.name = some q) : d_Net_level [encObj N rs, encS (reS s ks), .str r.name] = some (.ok (encQ (q / (r.w : Rat)))) := by
  have hkn : ks.Nodup := hk.nodup_iff.2 h.t.nd
  have hx : r.name ∈ ks := hk.mem_iff.2 (Classical.byContradiction fun z => by rw [get_none.2 z] at hq; cases hq)
  have hg := get_reS (s := s) hkn hx
  rw [hq] at hg
  have hW : d_Net_weight [encObj N rs, .str r.name] = some (.ok (.int r.w)) := by
    apply eq_of_okR
    refine den_ok rfl ?_
    simp [encObj, dIx_flows ok.ok hr, encRow]
  have hsm := h.sm _ _ hq
  have hw := ok.ok.w1 r hr
  have hO := over_ok (p := q) (n := r.w) (bdB hsm.1 (by grind) (by grind)) (by omega) (Nat.lt_of_le_of_lt hw.2 (by decide))
  apply eq_of_okR
  refine den_ok rfl ?_
  unfold encObj at hW ⊢
  simp [hg, hW, whole_ok, hO]
/-- the two that the law asks -/
theorem load_ok (ok : NetOk N) (h : Sh N b s) (hb1 : b ≤ 10000) {d e : D} (hd : d_tupled 12 [d] = some (.ok (encNet N))) {ks : List Str} (hk : ks.Perm (s.map (·.1))) (he : d_tupled 12 [e] = some (.ok (encP s ks))) {c : Str × Nat} (hc : c ∈ N.wires) : d_load [d, e, .str c.1] = some (.ok (encQ (loadS N s c.1))) := by
  obtain ⟨rs, hp, hN⟩ := net_ok ok hd
  have hD : d_share_dict [e] = some (.ok (encS (reS s ks))) := by
    apply eq_of_okR
    refine den_ok rfl ?_
    simp [he, encP]
    rw [dDict_tup (f := fun x : Str => x) (by simpa using hk.nodup_iff.2 h.t.nd)]
    simp [encS, encK, reS]
  have hL := nload_ok ok h hb1 hp hk hc
  apply eq_of_okR
  refine den_ok rfl ?_
  unfold encObj at hN hL
  simp [hN, hD, hL]
theorem level_ok (ok : NetOk N) (h : Sh N b s) (hb1 : b ≤ 10000) {d e : D} (hd : d_tupled 12 [d] = some (.ok (encNet N))) {ks : List Str} (hk : ks.Perm (s.map (·.1))) (he : d_tupled 12 [e] = some (.ok (encP s ks))) {r : Row Str} (hr : r ∈ N.rows) {q : Rat} (hq : get s r.name = some q) : d_level [d, e, .str r.name] = some (.ok (encQ (q / (r.w : Rat)))) := by
  obtain ⟨rs, hp, hN⟩ := net_ok ok hd
  have hD : d_share_dict [e] = some (.ok (encS (reS s ks))) := by
    apply eq_of_okR
    refine den_ok rfl ?_
    simp [he, encP]
    rw [dDict_tup (f := fun x : Str => x) (by simpa using hk.nodup_iff.2 h.t.nd)]
    simp [encS, encK, reS]
  have hL := nlevel_ok (rs := rs) ok h hb1 hk hr hq
  apply eq_of_okR
  refine den_ok rfl ?_
  unfold encObj at hN hL
  simp [hN, hD, hL]
end
end Lw
end
section
namespace PD
open PySem L2 Fa
theorem tupN_succ : ∀ {n : Nat} {d : D}, Gd n d → tupN (n + 1) d = tupN n d
  | 0, d, h => tupN_leaf h
  | n + 1, d, h => by
    rcases h with h | ⟨xs, e, hl, h⟩
    · rw [tupN_leaf h, tupN_leaf h]
    · have e2 : xs.map (tupN (n + 1)) = xs.map (tupN n) := List.map_congr_left fun x hx => tupN_succ (h x hx)
      rcases e with rfl | rfl
      · show D.tup (xs.map (tupN (n + 1))) = D.tup (xs.map (tupN n)); rw [e2]
      · show D.tup (xs.map (tupN (n + 1))) = D.tup (xs.map (tupN n)); rw [e2]
theorem Tu.encQ {n : Nat} {q : Rat} : Tu (n + 1) (PD.encQ q) := Tu.tup (by simp) fun x hx => by
  simp at hx
  rcases hx with rfl | rfl <;> exact Tu.int
theorem Tu.row {N : Net Str} (ok : NetOk N) {r : Row Str} (hr : r ∈ N.rows) : Tu 2 (encRow r) := Tu.tup (by simp) fun x hx => by
  simp at hx
  rcases hx with rfl | rfl | rfl | rfl | rfl
  · exact Tu.str (ok.rn r hr).1
  · refine Tu.tup (by rw [List.length_map]; have := ok.ll r hr; omega) fun x hx => ?_
    obtain ⟨y, hy, rfl⟩ := List.mem_map.1 hx
    exact Tu.str ((ok.rn r hr).2 y hy)
  · exact Tu.int
  · exact Tu.int
  · cases r.hi
    · exact Tu.non
    · exact Tu.int
theorem Tu.net {N : Net Str} (ok : NetOk N) : Tu 4 (encNet N) := Tu.tup (by simp) fun x hx => by
  simp at hx
  rcases hx with rfl | rfl
  · refine Tu.tup (by rw [List.length_map]; have := ok.fw; omega) fun x hx => ?_
    obtain ⟨c, hc, rfl⟩ := List.mem_map.1 hx
    exact Tu.tup (by simp) fun x hx => by
      simp at hx
      rcases hx with rfl | rfl
      · exact Tu.str (ok.wn c hc)
      · exact Tu.int
  · refine Tu.tup (by rw [List.length_map]; have := ok.ok.few; omega) fun x hx => ?_
    obtain ⟨r, hr, rfl⟩ := List.mem_map.1 hx
    exact Tu.row ok hr
theorem Tu.pairs {s : List (Str × Rat)} {ks : List Str} (hk : ∀ x ∈ ks, PyData.strOk x = true) (hl : ks.length ≤ 1000) : Tu 3 (encP s ks) := Tu.tup (by rw [List.length_map]; exact hl) fun x hx => by
  obtain ⟨y, hy, rfl⟩ := List.mem_map.1 hx
  exact Tu.tup (by simp) fun x hx => by
    simp at hx
    rcases hx with rfl | rfl
    · exact Tu.str (hk y hy)
    · exact Tu.encQ
theorem Gd.two {n : Nat} {a b : D} (ha : Gd n a) (hb : Gd n b) : Gd (n + 1) (.lst [a, b]) := .inr ⟨_, .inl rfl, by simp, fun x hx => by
  simp at hx
  rcases hx with rfl | rfl
  · exact ha
  · exact hb⟩
end PD
namespace Lw
open PySem L2 PD Fa
theorem tup_soft {d : D} (h : Tu 4 d) : d_tupled 12 [lstN 10 d] = some (.ok d) := by
  have g := (h.mono (show 4 ≤ 10 by omega)).gd
  have := tupled_ok (g.lst.mono (show 10 ≤ 11 by omega))
  rw [this, tupN_succ g.lst, tup_lst g, (h.mono (show 4 ≤ 10 by omega)).id]
theorem tup_id {d : D} (h : Tu 4 d) : d_tupled 12 [d] = some (.ok d) := by
  have := tupled_ok (h.mono (show 4 ≤ 11 by omega)).gd
  rw [this, (h.mono (show 4 ≤ 11 by omega)).id]
theorem same_two {q : Rat} : d__law_same 12 [.lst [encQ q, encQ q], .lst [encQ q, encQ q]] = some (.ok (.bl true)) := same_ok ((Gd.two (Tu.encQ (n := 0)).gd (Tu.encQ (n := 0)).gd).mono (show 2 ≤ 11 by omega))
set_option maxHeartbeats 2000000 in
theorem right_ok {B : List D} (hB : Box 0 B) : ∃ B', d__law_right B [] = some (.bl true, B') := by
  have key : ∃ d B', d__law_right B [] = some (d, B') ∧ d = .bl true := by
    refine denB_ok rfl ?_
    refine okS_step fun K hK _ => ?_
    simp
    refine okS_for (fun i δ => ∃ (B : List D) (x1 x2 x3 x4 x5 x6 x7 x8 x9 x10 x11 x12 x13 : Option D), δ = [some (.lst B), x1, x2, x3, x4, x5, x6, x7, x8, x9, x10, x11, x12, x13] ∧ Box (3000 * i) B) (n := 0) ⟨B, none, none, none, none, none, none, none, none, none, none, none, none, none, rfl, hB⟩ ?_ ?_
    · rintro i d δ hi ⟨B, x1, x2, x3, x4, x5, x6, x7, x8, x9, x10, x11, x12, x13, rfl, hB⟩
      rw [Nat.zero_add]
      have hi2 := lt_of_get hi
      rw [show (rng 0 4).length = 4 from rfl] at hi2
      refine ⟨_, rfl, ?_⟩
      refine okS_step fun K hK _ => ?_
      simp [ok_par2]
      refine okO_take hB (by omega) (by omega) (by omega) fun w B1 w0 w1 hB1 => ?_
      obtain ⟨w, rfl⟩ := Int.eq_ofNat_of_zero_le w0
      simp
      refine okO_take hB1 (by omega) (by omega) (by omega) fun k B2 k0 k1 hB2 => ?_
      obtain ⟨k, rfl⟩ := Int.eq_ofNat_of_zero_le k0
      simp
      refine hK _ ?_
      clear hK
      refine okS_step fun K hK _ => ?_
      simp
      refine okO_take hB2 (by omega) (by omega) (by omega) fun m B3 m0 m1 hB3 => ?_
      obtain ⟨m, rfl⟩ := Int.eq_ofNat_of_zero_le m0
      obtain ⟨d4, B4, e4, N, rfl, hNw, hNm, ok, hB4⟩ := roomy_ok (w := 1 + w) (m := 1 + m) (k := k) hB3 (by omega) (by omega) (by omega) (by omega)
      rw [Int.natCast_add, Int.natCast_add] at e4
      simp at e4
      simp [e4]
      refine hK _ ?_
      clear hK e4
      have h0 : N.rows ≠ [] := fun z => by rw [z, List.length_nil] at hNm; omega
      have tu := Tu.net ok
      have hT1 := tup_id tu
      have hT3 := tup_soft tu
      have g10 := (tu.mono (show 4 ≤ 10 by omega)).gd
      have hfew := ok.ok.few
      have hfw := ok.fw
      have hany := fun {n : Nat} {B : List D} (hB : Box n B) (hn : n < 2 ^ 30) => any_ok hB hn ok h0
      have hN1 : dIx (encNet N) (.int 1) = some (.tup (N.rows.map encRow)) := rfl
      have hN0 : dIx (encNet N) (.int 0) = some (.tup (N.wires.map encWire)) := rfl
      generalize hNet : encNet N = Net' at *
      generalize (some (D.int (1 + (w : Int)))) = x2
      generalize (some (D.int (k : Int))) = x3
      generalize (some d) = x1
      simp
      refine okS_for (fun j δ => ∃ (B : List D) (x5 x6 x7 x8 x9 x10 x11 x12 x13 : Option D), δ = [some (.lst B), x1, x2, x3, some Net', x5, x6, x7, x8, x9, x10, x11, x12, x13] ∧ Box (3000 * i + 1100 + 200 * j) B) (n := 0) ⟨B4, x5, x6, x7, x8, x9, x10, x11, x12, x13, rfl, hB4.mono (by omega)⟩ ?_ ?_
      · rintro j d δ hj ⟨B, x5, x6, x7, x8, x9, x10, x11, x12, x13, rfl, hB⟩
        rw [Nat.zero_add] at *
        have hj2 := lt_of_get hj
        rw [show (rng 0 2).length = 2 from rfl] at hj2
        refine ⟨_, rfl, ?_⟩
        refine okS_step fun K hK _ => ?_
        obtain ⟨d6, B6, e6, s, rfl, hs, hB6⟩ := hany hB (by omega)
        simp [e6]
        refine hK _ ?_
        clear hK e6
        obtain ⟨ks, hk, hP⟩ := pairs_ok ok hs
        have hkl : ks.length ≤ 1000 := by
          have h1 := hk.length_eq
          have h2 := tab_len hs.t
          rw [List.length_map] at h1
          omega
        have tp := Tu.pairs (s := s) (ks := ks) (fun x hx => by
          obtain ⟨r, hr, rfl⟩ := hs.t.ks x (hk.mem_iff.1 hx)
          exact (ok.rn r hr).1) hkl
        have hT2 := tup_id (tp.mono (show 3 ≤ 4 by omega))
        have hT4 := tup_soft (tp.mono (show 3 ≤ 4 by omega))
        have gp10 := (tp.mono (show 3 ≤ 10 by omega)).gd
        have hLs := lists_ok (Gd.two g10 gp10)
        have hSf : dNe (.lst [lstN 10 Net', lstN 10 (encP s ks)]) (.lst [lstN 10 Net', lstN 10 (encP s ks)]) = some (.bl false) := (Gd.two g10.lst gp10.lst).dNe (by omega)
        rw [show lstN (10 + 1) (.lst [Net', encP s ks]) = .lst [lstN 10 Net', lstN 10 (encP s ks)] from rfl] at hLs
        have hl1 := fun {c : Str × Nat} (hc : c ∈ N.wires) => load_ok ok hs (by grind) (by rw [hNet]; exact hT1) hk hT2 hc
        have hl2 := fun {c : Str × Nat} (hc : c ∈ N.wires) => load_ok ok hs (by grind) (by rw [hNet]; exact hT3) hk hT4 hc
        have hv1 := fun {r : Row Str} (hr : r ∈ N.rows) {q : Rat} (hq : get s r.name = some q) => level_ok ok hs (by grind) (by rw [hNet]; exact hT1) hk hT2 hr hq
        have hv2 := fun {r : Row Str} (hr : r ∈ N.rows) {q : Rat} (hq : get s r.name = some q) => level_ok ok hs (by grind) (by rw [hNet]; exact hT3) hk hT4 hr hq
        have hLs : d__law_lists 12 [.lst [Net', encP s ks]] = some (.ok (.lst [lstN 10 Net', lstN 10 (encP s ks)])) := hLs
        generalize encP s ks = P' at *
        generalize lstN 10 Net' = S1 at *
        generalize lstN 10 P' = S2 at *
        refine okS_step fun K hK _ => ?_
        simp [hP]
        refine hK _ ?_
        clear hK
        refine okS_step fun K hK _ => ?_
        simp
        refine ⟨sz (by omega), ?_⟩
        rw [hLs]
        simp
        refine hK _ ?_
        clear hK
        refine okS_step fun K hK _ => ?_
        simp
        rw [hN0]; simp
        generalize (some d) = x5
        refine okS_for (fun _ δ => ∃ (x9 x10 x11 x12 x13 : Option D), δ = [some (.lst B6), x1, x2, x3, some Net', x5, some (encS s), some P', some (.lst [S1, S2]), x9, x10, x11, x12, x13]) (n := 0) ⟨x9, x10, x11, x12, x13, rfl⟩ ?_ ?_
        · rintro a d δ ha ⟨x9, x10, x11, x12, x13, rfl⟩
          rw [List.getElem?_map, Option.map_eq_some_iff] at ha
          obtain ⟨c, hc, rfl⟩ := ha
          have hcm : c ∈ N.wires := List.mem_of_getElem? hc
          refine ⟨_, by simp [encWire]; rfl, ?_⟩
          refine okS_step fun K hK _ => ?_
          simp
          rw [hN1]; simp
          refine okE_compR (enc := encRow) (T := onL c.1) (F := fun r => encQ ((get s r.name).getD 0)) (fun r hr => ?_) ?_ ?_
          · have hst := ok.dIn hcm hr
            obtain ⟨q, e, _⟩ := hs.row hr
            simp [encRow]
            rw [hst]; simp [e]
          · simp; exact sz (by omega)
          · rw [List.nil_append]
            simp [law_load ok hs (by grind) (c := c)]
            refine hK _ ?_
            clear hK
            have h1 := hl1 hcm
            have h2 := hl2 hcm
            have hpk : pick [2, 1, 0] [D.str c.1, S2, S1] = [S1, S2, D.str c.1] := rfl
            simp [h1, h2, hpk]
            refine ⟨sz (by omega), ?_⟩
            rw [same_two]; simp
        · rintro δ ⟨x9, x10, x11, x12, x13, rfl⟩
          refine hK _ ?_
          clear hK
          refine okS_step fun K hK _ => ?_
          simp
          rw [hN1]; simp
          refine okS_for (fun _ δ => ∃ (x11 x12 x13 : Option D), δ = [some (.lst B6), x1, x2, x3, some Net', x5, some (encS s), some P', some (.lst [S1, S2]), x9, x10, x11, x12, x13]) (n := 0) ⟨x11, x12, x13, rfl⟩ ?_ ?_
          · rintro a d δ ha ⟨x11, x12, x13, rfl⟩
            rw [List.getElem?_map, Option.map_eq_some_iff] at ha
            obtain ⟨r, hr', rfl⟩ := ha
            have hr : r ∈ N.rows := List.mem_of_getElem? hr'
            obtain ⟨q, hq, hq1, hq2, hq3⟩ := hs.row hr
            have h1 := hv1 hr hq
            have h2 := hv2 hr hq
            have hw := ok.ok.w1 r hr
            have hPt := part_ok (p := q) (n := r.w) (bdB hq1 (by grind) (by grind)) (by omega) (Nat.lt_of_le_of_lt hw.2 (by decide))
            refine ⟨_, rfl, ?_⟩
            simp [encRow, hq]
            refine ⟨sz (by omega), ?_⟩
            rw [hPt]
            have hpk : pick [2, 1, 0] [D.str r.name, S2, S1] = [S1, S2, D.str r.name] := rfl
            simp [h1, h2, hpk]
            refine ⟨sz (by omega), ?_⟩
            rw [same_two]; simp
          · rintro δ ⟨x11, x12, x13, rfl⟩
            refine hK _ ?_
            clear hK
            simp
            refine ⟨sz (by omega), ?_⟩
            rw [hLs]; simp [hSf]
            exact hB6.mono (by omega)
      · rintro δ ⟨B, x5, x6, x7, x8, x9, x10, x11, x12, x13, rfl, hB⟩
        rw [show (0 + (rng 0 2).length) = 2 from rfl] at hB
        exact ⟨B, x1, x2, x3, _, x5, x6, x7, x8, x9, x10, x11, x12, x13, rfl, hB.mono (by omega)⟩
    · rintro δ ⟨B, x1, x2, x3, x4, x5, x6, x7, x8, x9, x10, x11, x12, x13, rfl, hB⟩
      refine hK _ ?_
      simp
  obtain ⟨d, B', e, rfl⟩ := key
  exact ⟨B', e⟩
theorem k_main (ns : List Int) (hl : ns.length ≤ 63) : d_law [.scr (ns.map D.int)] = some (.ok (.bl true)) := law_ok (fun _ hB => right_ok hB) hl
end Lw
end
set_option maxRecDepth 100000 in
set_option maxHeartbeats 8000000 in
theorem PySem.Challenge.cw_leastshare_k12_loads_and_levels_holds : PySem.Challenge.rw_leastshare_k12_loads_and_levels.Holds := by
  exact Lw.law_holds Lw.k_main
