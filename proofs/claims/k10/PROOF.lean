import PyProof.Rows.All
import Wide.All
import OpenK.AllK
import Wide.FinOn
import HandS.ForMost
import HandS.Exc
import HandS.TryOnly
import HandS.ExcOwn
import HandS.WordsExc
import HandS.Defaults
import HandS.CallSlots
import HandS.Conv
import HandS.Flow
import HandS.Style
import HandS.Slots
import HandS.IterVal
import HandS.Wide
import HandS.WideBits
import HandS.SetKeys
import HandS.TupSets
import HandS.DictComp
import HandS.IsInst
import HandS.Deep
import HandS.DeepEq
import HandS.TupAny
import HandS.TupMul
import HandS.Zip
import HandS.Remove
import HandS.ListItems
import HandS.Head0
import HandS.Head1
import HandS.Head2
import HandS.Head3
import HandS.Head4
import HandS.HeadEnd
import HandS.HeadHook1
import HandS.HeadHook2
import HandS.HeadHook3
import HandS.HeadHook4
import HandS.HeadWalk
import KE.SortData
import HandS.Strs
import HandS.SetFor
import KE.KRevSl
import OpenK.KMore
import HandS.Ends
import PySem.Challenge.RW_leastshare_k10_nets_or_none
set_option Elab.async false
set_option linter.all false
set_option maxRecDepth 100000
section
namespace PD
open PySem L2
/-! ### data -/
inductive D where
  | non | bl (b : Bool) | int (i : Int) | str (x : Str) | tup (xs : List D) | lst (xs : List D) | scr (xs : List D)
  | dic (kvs : List (Key × D)) | obj (c : Str) (fs : List (Option D)) | ins (c : Str) (fs : List (Str × D))
  deriving Inhabited
abbrev Frag := PySem.W.Frag
mutual
inductive Rep (K : Frag) (F : Hp) : V → D → Prop
  | non : Rep K F .non .non
  | bl (b : Bool) : Rep K F (.bl b) (.bl b)
  | int (i : Int) : Rep K F (.int i) (.int i)
  | str (x : Str) : Rep K F (.str x) (.str x)
  | tup {a : Addr} {vs : List V} {ds : List D} (h : SqT K F a vs) (r : Reps K F vs ds) : Rep K F (.ref a) (.tup ds)
  | lst {a : Addr} {vs : List V} {ds : List D} (h : F a = some (.lst vs)) (r : Reps K F vs ds) : Rep K F (.ref a) (.lst ds)
  | scr {a : Addr} {vs : List V} {ds : List D} (h : SqL K F a vs) (r : Reps K F vs ds) : Rep K F (.ref a) (.scr ds)
  | dic {a : Addr} {kvs : List (Key × V)} {kds : List (Key × D)} (h : F a = some (.dK kvs)) (r : RepK K F kvs kds) : Rep K F (.ref a) (.dic kds)
  | obj {a dx : Addr} {c : Str} {vs : List (Option V)} {ds : List (Option D)} (h : F a = some (SlX.SlO a (He.ga K c) dx vs)) (hx : F dx = some (.xd [])) (r : RepO K F vs ds) : Rep K F (.ref a) (.obj c ds)
  | ins {a dx : Addr} {c : Str} {fs : List (Str × V)} {ds : List (Str × D)} (h : F a = some (.ins (He.ga K c) dx fs)) (r : RepF K F fs ds) : Rep K F (.ref a) (.ins c ds)
inductive Reps (K : Frag) (F : Hp) : List V → List D → Prop
  | nil : Reps K F [] []
  | cons {v : V} {d : D} {vs : List V} {ds : List D} (h : Rep K F v d) (r : Reps K F vs ds) : Reps K F (v :: vs) (d :: ds)
inductive RepK (K : Frag) (F : Hp) : List (Key × V) → List (Key × D) → Prop
  | nil : RepK K F [] []
  | cons {k : Key} {v : V} {d : D} {vs : List (Key × V)} {ds : List (Key × D)} (h : Rep K F v d) (r : RepK K F vs ds) : RepK K F ((k, v) :: vs) ((k, d) :: ds)
inductive RepF (K : Frag) (F : Hp) : List (Str × V) → List (Str × D) → Prop
  | nil : RepF K F [] []
  | cons {k : Str} {v : V} {d : D} {vs : List (Str × V)} {ds : List (Str × D)} (h : Rep K F v d) (r : RepF K F vs ds) : RepF K F ((k, v) :: vs) ((k, d) :: ds)
inductive RepO (K : Frag) (F : Hp) : List (Option V) → List (Option D) → Prop
  | nil : RepO K F [] []
  | none {v : Option V} {vs : List (Option V)} {ds : List (Option D)} (r : RepO K F vs ds) : RepO K F (v :: vs) (none :: ds)
  | some {v : V} {d : D} {vs : List (Option V)} {ds : List (Option D)} (h : Rep K F v d) (r : RepO K F vs ds) : RepO K F (some v :: vs) (some d :: ds)
end
/-- heaps that grow -/
def Ex (H H' : Hp) : Prop := ∀ a o, H a = some o → H' a = some o
theorem Ex.refl (H : Hp) : Ex H H := fun _ _ h => h
theorem Ex.trans {H H1 H2 : Hp} (a : Ex H H1) (b : Ex H1 H2) : Ex H H2 := fun x o h => b x o (a x o h)
theorem Ex.new {H : Hp} {p : Addr} {o : HO} (h : H p = none) : Ex H (upd H p o) := fun a u e => by rw [upd_ne (ne_of_none e h)]; exact e
theorem Ex.upd2 {F H : Hp} {p : Addr} {o : HO} (e : Ex F H) : Ex (upd F p o) (upd H p o) := fun a u h => by
  unfold upd at *
  by_cases h1 : a = p
  · rw [if_pos h1] at *; exact h
  · rw [if_neg h1] at *; exact e a u h
theorem ex_rd {H H' : Hp} {a : Addr} {u : HO} (e : Ex H H') (h : Rd H a u) : Rd H' a u := by
  rcases h with h | ⟨o, h⟩
  · exact Or.inl (e a _ h)
  · exact Or.inr ⟨o, e a _ h⟩
theorem ex_l {K : Frag} {H H' : Hp} {a : Addr} {xs : List V} (e : Ex H H') (h : SqL K H a xs) : SqL K H' a xs := by
  rcases h with h | h
  · exact Or.inl (ex_rd e h)
  · exact Or.inr h
theorem ex_t {K : Frag} {H H' : Hp} {a : Addr} {xs : List V} (e : Ex H H') (h : SqT K H a xs) : SqT K H' a xs := by
  rcases h with h | h
  · exact Or.inl (ex_rd e h)
  · exact Or.inr h
mutual
theorem Rep.mono {K : Frag} {F F' : Hp} (e : Ex F F') : ∀ {v : V} {d : D}, Rep K F v d → Rep K F' v d
  | _, _, .non => .non
  | _, _, .bl b => .bl b
  | _, _, .int i => .int i
  | _, _, .str x => .str x
  | _, _, .tup h r => .tup (ex_t e h) (Reps.mono e r)
  | _, _, .lst h r => .lst (e _ _ h) (Reps.mono e r)
  | _, _, .scr h r => .scr (ex_l e h) (Reps.mono e r)
  | _, _, .dic h r => .dic (e _ _ h) (RepK.mono e r)
  | _, _, .obj h hx r => .obj (e _ _ h) (e _ _ hx) (RepO.mono e r)
  | _, _, .ins h r => .ins (e _ _ h) (RepF.mono e r)
theorem Reps.mono {K : Frag} {F F' : Hp} (e : Ex F F') : ∀ {v : List V} {d : List D}, Reps K F v d → Reps K F' v d
  | _, _, .nil => .nil
  | _, _, .cons h r => .cons (Rep.mono e h) (Reps.mono e r)
theorem RepK.mono {K : Frag} {F F' : Hp} (e : Ex F F') : ∀ {v : List (Key × V)} {d : List (Key × D)}, RepK K F v d → RepK K F' v d
  | _, _, .nil => .nil
  | _, _, .cons h r => .cons (Rep.mono e h) (RepK.mono e r)
theorem RepF.mono {K : Frag} {F F' : Hp} (e : Ex F F') : ∀ {v : List (Str × V)} {d : List (Str × D)}, RepF K F v d → RepF K F' v d
  | _, _, .nil => .nil
  | _, _, .cons h r => .cons (Rep.mono e h) (RepF.mono e r)
theorem RepO.mono {K : Frag} {F F' : Hp} (e : Ex F F') : ∀ {v : List (Option V)} {d : List (Option D)}, RepO K F v d → RepO K F' v d
  | _, _, .nil => .nil
  | _, _, .none r => .none (RepO.mono e r)
  | _, _, .some h r => .some (Rep.mono e h) (RepO.mono e r)
end
/-- F: what is held fast; H: the heap. Both grow, F by new things alone -/
structure Grow (F H F' H' : Hp) : Prop where
  ff : Ex F F'
  fh : Ex F' H'
  hh : Ex H H'
  nw : ∀ a, F' a ≠ none → F a ≠ none ∨ H a = none
theorem Grow.refl {F H : Hp} (e : Ex F H) : Grow F H F H := ⟨Ex.refl F, e, Ex.refl H, fun a h => Or.inl h⟩
theorem none_back {H H' : Hp} {p : Addr} (e : Ex H H') (h : H' p = none) : H p = none := by
  cases h1 : H p with
  | none => rfl
  | some o => rw [e p o h1] at h; cases h
theorem Grow.trans {F H F1 H1 F2 H2 : Hp} (a : Grow F H F1 H1) (b : Grow F1 H1 F2 H2) : Grow F H F2 H2 :=
  ⟨a.ff.trans b.ff, b.fh, a.hh.trans b.hh, fun x h => (b.nw x h).elim (a.nw x) fun h1 => Or.inr (none_back a.hh h1)⟩
theorem upd_ne_none {F : Hp} {p a : Addr} {o : HO} (h : upd F p o a ≠ none) : F a ≠ none ∨ a = p := by
  by_cases e : a = p
  · exact Or.inr e
  · rw [upd_ne e] at h; exact Or.inl h
theorem Grow.new {F H : Hp} {p : Addr} {o : HO} (e : Ex F H) (h : H p = none) : Grow F H (upd F p o) (upd H p o) :=
  ⟨Ex.new (none_back e h), e.upd2, Ex.new h, fun a ha => (upd_ne_none ha).imp id fun e => by rw [e]; exact h⟩
theorem Grow.ex {F H F' H' : Hp} (g : Grow F H F' H') : Ex F H' := g.ff.trans g.fh
/-! ### outcomes -/
/-- an exception of the program: its class's name, its fields -/
structure XD where
  cls : Str
  fs : List (Str × D)
abbrev Rs (α : Type) := Option (Except XD α)
abbrev Env := List (Option D)
def ok {α : Type} (a : α) : Rs α := some (.ok a)
def bind {α β : Type} (x : Rs α) (f : α → Rs β) : Rs β := match x with
  | none => none
  | some (.error e) => some (.error e)
  | some (.ok a) => f a
/-- a part that may be missing -/
def opt {α : Type} (x : Option α) : Rs α := x.map .ok
structure RepX (K : Frag) (F : Hp) (cls : Value) (dd : Option Addr) (x : XD) : Prop where
  cls : cls = .ref (He.ga K x.cls)
  fs : ∃ d fs, dd = some d ∧ F d = some (.xd fs) ∧ RepF K F fs x.fs
def Post {α β : Type} (rel : Hp → β → α → Prop) (K : Frag) (F H : Hp) (σ : L2.St) (W : WX) (o : Except XD α) (Q : β → Hp → Prop) : Prop := match o with
  | .ok d => ∀ v F' H', Grow F H F' H' → rel F' v d → Q v H'
  | .error x => ∀ cls dd F' H', Grow F H F' H' → RepX K F' cls dd x → W cls dd σ H'
theorem Post.later {α β : Type} {rel : Hp → β → α → Prop} {K : Frag} {F H F1 H1 : Hp} {σ : L2.St} {W : WX} {o : Except XD α} {Q : β → Hp → Prop} (g : Grow F H F1 H1) (p : Post rel K F H σ W o Q) : Post rel K F1 H1 σ W o Q := by
  cases o with
  | ok d => exact fun v F' H' g' r => p v F' H' (g.trans g') r
  | error x => exact fun c d F' H' g' r => p c d F' H' (g.trans g') r
/-- the slots are these data -/
structure RP (K : Frag) (F : Hp) (σ : L2.St) (H : Hp) (δ : Env) : Prop where
  ex : Ex F H
  ln : σ.length = δ.length
  val : ∀ (i : Nat) (d : D), δ[i]? = some (some d) → ∃ v : V, σ[i]? = some (some v) ∧ Rep K F v d
theorem RP.later {K : Frag} {F H F1 H1 : Hp} {σ : L2.St} {δ : Env} (g : Grow F H F1 H1) (r : RP K F σ H δ) : RP K F1 σ H1 δ :=
  ⟨g.fh, r.ln, fun i d h => let ⟨v, a, b⟩ := r.val i d h; ⟨v, a, b.mono g.ff⟩⟩
/-! ### the judgements by what they mean -/
def WE (X : Cx) (e : Expr) (σ : L2.St) (H : Hp) (Q : VK) : Prop := ∀ pins s, Inv X pins σ H s → wpAny (model X.prog X.w) X.A (eval e X.env) (EP X pins σ Q) X.xe s
theorem pe_we {X : Cx} {e : Expr} : PE X e (WE X e) := ⟨fun pins s _ _ _ I h => h pins s I⟩
theorem we_of {X : Cx} {e : Expr} {t : TE} {σ : L2.St} {H : Hp} {Q : VK} (h : PE X e t) (q : t σ H Q) : WE X e σ H Q := fun pins s I => h.run pins s σ H Q I q
def WT (X : Cx) (e : Expr) (σ : L2.St) (H : Hp) (Q : Bool → Hp → Prop) : Prop := ∀ pins s, Inv X pins σ H s → wpAny (model X.prog X.w) X.A (isTrue e X.env (eval e X.env)) (TP X pins σ Q) X.xe s
theorem pt_wt {X : Cx} {e : Expr} : PT X e (WT X e) := ⟨fun pins s _ _ _ I h => h pins s I⟩
theorem wt_of {X : Cx} {e : Expr} {t : TT} {σ : L2.St} {H : Hp} {Q : Bool → Hp → Prop} (h : PT X e t) (q : t σ H Q) : WT X e σ H Q := fun pins s I => h.run pins s σ H Q I q
def WA (X : Cx) (es : List Expr) (σ : L2.St) (H : Hp) (Q : List V → Hp → Prop) : Prop := ∀ pos pins s, Inv X pins σ H s → wpAny (model X.prog X.w) X.A (spliced (backTo pos (starEach es X.env))) (AP X pins σ Q) X.xe s
theorem pa_wa {X : Cx} {es : List Expr} : PA X es (WA X es) := ⟨fun pos pins s _ _ _ I h => h pos pins s I⟩
theorem wa_of {X : Cx} {es : List Expr} {t : TA} {σ : L2.St} {H : Hp} {Q : List V → Hp → Prop} (h : PA X es t) (q : t σ H Q) : WA X es σ H Q := fun pos pins s I => h.run pos pins s σ H Q I q
def WS (X : Cx) (st : Stmt) (D : Ends) (σ : L2.St) (H : Hp) : Prop := ∀ pins s, Inv X pins σ H s → wpAny (model X.prog X.w) X.A (exec st X.env) (SP X pins D) X.xe s
theorem ps_ws {X : Cx} {st : Stmt} : PS X st (WS X st) := ⟨fun pins s _ _ _ I h => h pins s I⟩
theorem ws_of {X : Cx} {st : Stmt} {t : TS} {D : Ends} {σ : L2.St} {H : Hp} (h : PS X st t) (q : t D σ H) : WS X st D σ H := fun pins s I => h.run pins s σ H D I q
def WSs (X : Cx) (st : List Stmt) (D : Ends) (σ : L2.St) (H : Hp) : Prop := ∀ pins s, Inv X pins σ H s → wpAny (model X.prog X.w) X.A (execs st X.env) (SP X pins D) X.xe s
theorem pss_wss {X : Cx} {st : List Stmt} : PSs X st (WSs X st) := ⟨fun pins s _ _ _ I h => h pins s I⟩
theorem wss_of {X : Cx} {st : List Stmt} {t : TS} {D : Ends} {σ : L2.St} {H : Hp} (h : PSs X st t) (q : t D σ H) : WSs X st D σ H := fun pins s I => h.run pins s σ H D I q
/-! ### pure expressions -/
structure J {α β : Type} (X : Cx) (w : L2.St → Hp → (β → Hp → Prop) → Prop) (rel : Hp → β → α → Prop) (g : Env → Rs α) : Prop where
  run : ∀ {σ F H δ W Q o}, RP X.K F σ H δ → Takes X W → g δ = some o → Post rel X.K F H σ W o Q → w σ H Q
abbrev JP (X : Cx) (e : Expr) (g : Env → Rs D) : Prop := J X (WE X e) (Rep X.K) g
abbrev relT (_ : Hp) (b a : Bool) : Prop := b = a
abbrev JT (X : Cx) (e : Expr) (g : Env → Rs Bool) : Prop := J X (WT X e) relT g
abbrev JA (X : Cx) (es : List Expr) (g : Env → Rs (List D)) : Prop := J X (WA X es) (Reps X.K) g
theorem j_bind {α β α2 β2 : Type} {X : Cx} {w : L2.St → Hp → (β → Hp → Prop) → Prop} {rel : Hp → β → α → Prop} {rel2 : Hp → β2 → α2 → Prop} {g : Env → Rs α} {k : α → Rs α2} {σ : L2.St} {F H : Hp} {δ : Env} {W : WX} {o : Except XD α2} {Q : β2 → Hp → Prop} {Q1 : β → Hp → Prop}
    (ha : J X w rel g) (r : RP X.K F σ H δ) (tk : Takes X W) (hg : bind (g δ) k = some o) (hP : Post rel2 X.K F H σ W o Q)
    (hk : ∀ x v F1 H1, k x = some o → Grow F H F1 H1 → rel F1 v x → RP X.K F1 σ H1 δ → Post rel2 X.K F1 H1 σ W o Q → Q1 v H1) : w σ H Q1 := by
  cases e : g δ with
  | none => rw [e] at hg; cases hg
  | some y => cases y with
    | ok x => rw [e] at hg; exact ha.run r tk e fun v F1 H1 gr rx => hk x v F1 H1 hg gr rx (r.later gr) (hP.later gr)
    | error x => rw [e] at hg; cases hg; exact ha.run r tk e hP
theorem jp_bind {α2 β2 : Type} {X : Cx} {a : Expr} {rel2 : Hp → β2 → α2 → Prop} {g : Env → Rs D} {k : D → Rs α2} {σ : L2.St} {F H : Hp} {δ : Env} {W : WX} {o : Except XD α2} {Q : β2 → Hp → Prop} {Q1 : VK}
    (ha : JP X a g) (r : RP X.K F σ H δ) (tk : Takes X W) (hg : bind (g δ) k = some o) (hP : Post rel2 X.K F H σ W o Q)
    (hk : ∀ x v F1 H1, k x = some o → Grow F H F1 H1 → Rep X.K F1 v x → RP X.K F1 σ H1 δ → Post rel2 X.K F1 H1 σ W o Q → Q1 v H1) : WE X a σ H Q1 := j_bind ha r tk hg hP hk
theorem jt_bind {α2 β2 : Type} {X : Cx} {a : Expr} {rel2 : Hp → β2 → α2 → Prop} {g : Env → Rs Bool} {k : Bool → Rs α2} {σ : L2.St} {F H : Hp} {δ : Env} {W : WX} {o : Except XD α2} {Q : β2 → Hp → Prop} {Q1 : Bool → Hp → Prop}
    (ha : JT X a g) (r : RP X.K F σ H δ) (tk : Takes X W) (hg : bind (g δ) k = some o) (hP : Post rel2 X.K F H σ W o Q)
    (hk : ∀ x F1 H1, k x = some o → Grow F H F1 H1 → RP X.K F1 σ H1 δ → Post rel2 X.K F1 H1 σ W o Q → Q1 x H1) : WT X a σ H Q1 := j_bind ha r tk hg hP fun x v F1 H1 h1 g1 e r1 p1 => by cases e; exact hk _ F1 H1 h1 g1 r1 p1
theorem ja_bind {α2 β2 : Type} {X : Cx} {es : List Expr} {rel2 : Hp → β2 → α2 → Prop} {g : Env → Rs (List D)} {k : List D → Rs α2} {σ : L2.St} {F H : Hp} {δ : Env} {W : WX} {o : Except XD α2} {Q : β2 → Hp → Prop} {Q1 : List V → Hp → Prop}
    (ha : JA X es g) (r : RP X.K F σ H δ) (tk : Takes X W) (hg : bind (g δ) k = some o) (hP : Post rel2 X.K F H σ W o Q)
    (hk : ∀ x v F1 H1, k x = some o → Grow F H F1 H1 → Reps X.K F1 v x → RP X.K F1 σ H1 δ → Post rel2 X.K F1 H1 σ W o Q → Q1 v H1) : WA X es σ H Q1 := j_bind ha r tk hg hP hk
/-- an expression's end -/
theorem Post.fin {α β : Type} {rel : Hp → β → α → Prop} {K : Frag} {F H : Hp} {σ : L2.St} {W : WX} {Q : β → Hp → Prop} {d : α} {o : Except XD α} (h : ok d = some o) (p : Post rel K F H σ W o Q) : ∀ v F' H', Grow F H F' H' → rel F' v d → Q v H' := by
  cases h; exact p
/-- .. by something that may be missing -/
theorem opt_some {α : Type} {x : Option α} {o : Except XD α} (h : opt x = some o) : ∃ d, x = some d ∧ o = .ok d := by
  cases x with
  | none => cases h
  | some d => cases h; exact ⟨d, rfl, rfl⟩
def v (i : Nat) : Env → Rs D := fun δ => opt (δ[i]?.join)
theorem jp_v {X : Cx} {x : Str} {pos : Pos} (i : Nat) (hN : X.N[i]? = some x := by rfl) (hv : Vis X.env.scope x := by first | exact Or.inl rfl | exact Or.inr (Or.inl rfl) | exact Or.inr (Or.inr rfl))
    (hd : (x == ("__debug__" : Str)) = false := by decide) (hcd : (x == ("__classdict__" : Str)) = false := by decide) : JP X (.Name x pos) (v i) := ⟨fun {σ F H δ W Q o} r _ hg hP => by
  obtain ⟨d, hd', rfl⟩ := opt_some hg
  have h1 : δ[i]? = some (some d) := by
    cases h : δ[i]? with
    | none => rw [h] at hd'; cases hd'
    | some y => rw [h] at hd'; cases y with
      | none => cases hd'
      | some z => cases hd'; rfl
  obtain ⟨w, hw, rw'⟩ := r.val i d h1
  exact we_of (pe_var hN hv hd hcd) ⟨w, hw, hP w F H (.refl r.ex) rw'⟩⟩
def c (d : D) : Env → Rs D := fun _ => ok d
theorem jp_int {X : Cx} {i j pos} : JP X (.Constant (.int i) j pos) (c (.int i)) := ⟨fun r _ hg hP => we_of pe_int (hP.fin hg _ _ _ (.refl r.ex) (.int _))⟩
theorem jp_bl {X : Cx} {i j pos} : JP X (.Constant (.bool i) j pos) (c (.bl i)) := ⟨fun r _ hg hP => we_of pe_bl (hP.fin hg _ _ _ (.refl r.ex) (.bl _))⟩
theorem jp_non {X : Cx} {j pos} : JP X (.Constant .none j pos) (c .non) := ⟨fun r _ hg hP => we_of pe_non (hP.fin hg _ _ _ (.refl r.ex) .non)⟩
theorem jp_str {X : Cx} {i j pos} : JP X (.Constant (.str i) j pos) (c (.str i)) := ⟨fun r _ hg hP => we_of pe_str (hP.fin hg _ _ _ (.refl r.ex) (.str _))⟩
/-- an operation on data, by the reading of the values -/
def OpD (K : Frag) (r : R2) (g : D → D → Option D) : Prop := ∀ {F H : Hp} {vx vy : V} {x y z : D}, Ex F H → Rep K F vx x → Rep K F vy y → g x y = some z → ∀ Q : VK, (∀ v F' H', Grow F H F' H' → Rep K F' v z → Q v H') → r vx vy H Q
def op2 (g : D → D → Option D) (a b : Env → Rs D) : Env → Rs D := fun δ => bind (a δ) fun x => bind (b δ) fun y => opt (g x y)
theorem jp_op {X : Cx} {a b : Expr} {op : Operator} {pos : Pos} {r : R2} {g : D → D → Option D} {fa fb : Env → Rs D} (ho : OpR X (binaryOp op) r) (hr : OpD X.K r g) (ha : JP X a fa) (hb : JP X b fb) : JP X (.BinOp a op b pos) (op2 g fa fb) := ⟨fun rp tk hg hP =>
  we_of (pe_op ho pe_we pe_we) (jp_bind ha rp tk hg hP fun x vx F1 H1 h1 g1 rx r1 P1 => jp_bind hb r1 tk h1 P1 fun y vy F2 H2 h2 g2 ry r2 P2 => by
    obtain ⟨z, hz, rfl⟩ := opt_some h2
    exact hr r2.ex (rx.mono g2.ff) ry hz _ P2)⟩
theorem jp_cmp {X : Cx} {a b : Expr} {op : CmpOp} {pos : Pos} {r : R2} {g : D → D → Option D} {fa fb : Env → Rs D} (ho : OpR X (compareOp op) r) (hr : OpD X.K r g) (ha : JP X a fa) (hb : JP X b fb)
    (hm : behindInMarks op b = false := by first | exact nomark _ | with_unfolding_all rfl) : JP X (.Compare a [op] [b] pos) (op2 g fa fb) := ⟨fun rp tk hg hP =>
  we_of (pe_cmpR ho pe_we pe_we hm) (jp_bind ha rp tk hg hP fun x vx F1 H1 h1 g1 rx r1 P1 => jp_bind hb r1 tk h1 P1 fun y vy F2 H2 h2 g2 ry r2 P2 => by
    obtain ⟨z, hz, rfl⟩ := opt_some h2
    exact hr r2.ex (rx.mono g2.ff) ry hz _ P2)⟩
end PD
end
section
namespace PD
open PySem L2
theorem Rep.len : ∀ {K : Frag} {F : Hp} {vs : List V} {ds : List D}, Reps K F vs ds → vs.length = ds.length
  | _, _, _, _, .nil => rfl
  | _, _, _, _, .cons _ r => congrArg (· + 1) (Rep.len r)
theorem RepK.len : ∀ {K : Frag} {F : Hp} {vs : List (Key × V)} {ds : List (Key × D)}, RepK K F vs ds → vs.length = ds.length
  | _, _, _, _, .nil => rfl
  | _, _, _, _, .cons _ r => congrArg (· + 1) (RepK.len r)
theorem Reps.get {K : Frag} {F : Hp} : ∀ {vs : List V} {ds : List D} {i : Nat} {d : D}, Reps K F vs ds → ds[i]? = some d → ∃ v, vs[i]? = some v ∧ Rep K F v d
  | _, _, 0, _, .cons h _, e => by cases e; exact ⟨_, rfl, h⟩
  | _, _, _ + 1, _, .cons _ r, e => by rw [List.getElem?_cons_succ] at e ⊢; exact Reps.get r e
  | _, _, _, _, .nil, e => by cases e
theorem Reps.get' {K : Frag} {F : Hp} : ∀ {vs : List V} {ds : List D} {i : Nat} {v : V}, Reps K F vs ds → vs[i]? = some v → ∃ d, ds[i]? = some d ∧ Rep K F v d
  | _, _, 0, _, .cons h _, e => by cases e; exact ⟨_, rfl, h⟩
  | _, _, _ + 1, _, .cons _ r, e => by rw [List.getElem?_cons_succ] at e ⊢; exact Reps.get' r e
  | _, _, _, _, .nil, e => by cases e
theorem Reps.app {K : Frag} {F : Hp} : ∀ {vs ws : List V} {ds es : List D}, Reps K F vs ds → Reps K F ws es → Reps K F (vs ++ ws) (ds ++ es)
  | _, _, _, _, .nil, b => b
  | _, _, _, _, .cons h r, b => .cons h (Reps.app r b)
theorem Reps.drop {K : Frag} {F : Hp} : ∀ {vs : List V} {ds : List D} (n : Nat), Reps K F vs ds → Reps K F (vs.drop n) (ds.drop n)
  | _, _, 0, r => r
  | _, _, _ + 1, .nil => .nil
  | _, _, n + 1, .cons _ r => Reps.drop n r
theorem Reps.take {K : Frag} {F : Hp} : ∀ {vs : List V} {ds : List D} (n : Nat), Reps K F vs ds → Reps K F (vs.take n) (ds.take n)
  | _, _, 0, _ => .nil
  | _, _, _ + 1, .nil => .nil
  | _, _, n + 1, .cons h r => .cons h (Reps.take n r)
theorem RepK.val {K : Frag} {F : Hp} {k : Key} : ∀ {vs : List (Key × V)} {ds : List (Key × D)}, RepK K F vs ds →
    (valV vs k = none ∧ (ds.find? fun kv => decide (kv.1 = k)).map (·.2) = none) ∨ ∃ v d, valV vs k = some v ∧ (ds.find? fun kv => decide (kv.1 = k)).map (·.2) = some d ∧ Rep K F v d
  | _, _, .nil => .inl ⟨rfl, rfl⟩
  | _, _, .cons (k := k1) (v := v) (d := d) h r => by
    by_cases e : k1 = k
    · exact .inr ⟨v, d, by simp [valV, List.find?_cons, e], by simp [List.find?_cons, e], h⟩
    · rcases RepK.val (k := k) r with ⟨a, b⟩ | ⟨v', d', a, b, c⟩
      · exact .inl ⟨by simpa [valV, List.find?_cons, e] using a, by simpa [List.find?_cons, e] using b⟩
      · exact .inr ⟨v', d', by simpa [valV, List.find?_cons, e] using a, by simpa [List.find?_cons, e] using b, c⟩
/-! ### truth -/
def truth : D → Option Bool
  | .non => some false
  | .bl b => some b
  | .int i => some (i != 0)
  | .str y => if y.length ≤ sizeLine then some ((y.length : Int) != 0) else none
  | .tup xs => some (!xs.isEmpty)
  | .lst xs => some (!xs.isEmpty)
  | .scr xs => some (!xs.isEmpty)
  | .dic xs => some (!xs.isEmpty)
  | _ => none
theorem isEmpty_of_len {α β : Type} {a : List α} {b : List β} (h : a.length = b.length) : a.isEmpty = b.isEmpty := by
  cases a <;> cases b <;> simp_all
theorem tru_of {K : Frag} {F H : Hp} {w : V} {d : D} {k : Bool} (e : Ex F H) (r : Rep K F w d) (h : truth d = some k) : TruV K w H k := by
  cases r with
  | non => cases h; rfl
  | bl b => cases h; rfl
  | int i => cases h; rfl
  | str x =>
    simp only [truth] at h
    by_cases hl : x.length ≤ sizeLine
    · rw [if_pos hl] at h; cases h; exact ⟨hl, rfl⟩
    · rw [if_neg hl] at h; cases h
  | tup h1 r1 => cases h; exact .inr (.inl ⟨_, ex_t e h1, by rw [isEmpty_of_len (Rep.len r1)]⟩)
  | lst h1 r1 => cases h; exact .inl ⟨_, SqL.of (e _ _ h1), by rw [isEmpty_of_len (Rep.len r1)]⟩
  | scr h1 r1 => cases h; exact .inl ⟨_, ex_l e h1, by rw [isEmpty_of_len (Rep.len r1)]⟩
  | dic h1 r1 => cases h; exact .inr (.inr ⟨_, e _ _ h1, by rw [isEmpty_of_len (RepK.len r1)]⟩)
  | obj h1 hx r1 => cases h
  | ins h1 r1 => cases h
def tr (g : Env → Rs D) : Env → Rs Bool := fun δ => bind (g δ) fun x => opt (truth x)
theorem jt_truth {X : Cx} {a : Expr} {g : Env → Rs D} (ha : JP X a g) (he : ∀ whole, isTrue a X.env whole = (do let v ← whole; standAt a.pos; holding [v] (truthy v)) := by intro _; rfl) : JT X a (tr g) := ⟨fun rp tk hg hP =>
  wt_of (pt_truth pe_we he) (jp_bind ha rp tk hg hP fun x vx F1 H1 h1 g1 rx r1 P1 => by
    obtain ⟨k, hk, rfl⟩ := opt_some h1
    exact ⟨k, tru_of r1.ex rx hk, P1 k F1 H1 (.refl r1.ex) rfl⟩)⟩
def asB : D → Option Bool
  | .bl b => some b
  | _ => none
def tb (g : Env → Rs D) : Env → Rs Bool := fun δ => bind (g δ) fun x => opt (asB x)
theorem asB_some {d : D} {b : Bool} (h : asB d = some b) : d = .bl b := by cases d <;> simp_all [asB]
theorem bind_assoc {α β γ : Type} (x : Rs α) (f : α → Rs β) (g : β → Rs γ) : bind (bind x f) g = bind x fun a => bind (f a) g := by
  cases x with
  | none => rfl
  | some y => cases y <;> rfl
theorem jt_cmp {X : Cx} {a b : Expr} {op : CmpOp} {pos : Pos} {r : R2} {g : D → D → Option D} {fa fb : Env → Rs D} (ho : OpR X (compareOp op) r) (hr : OpD X.K r g) (ha : JP X a fa) (hb : JP X b fb)
    (hm : behindInMarks op b = false := by first | exact nomark _ | with_unfolding_all rfl) : JT X (.Compare a [op] [b] pos) (tb (op2 g fa fb)) := ⟨fun rp tk hg hP => by
  simp only [tb, op2, bind_assoc] at hg
  exact wt_of (pt_cmpR ho pe_we pe_we hm) (jp_bind ha rp tk hg hP fun x vx F1 H1 h1 g1 rx r1 P1 => jp_bind hb r1 tk h1 P1 fun y vy F2 H2 h2 g2 ry r2 P2 => by
    cases e : g x y with
    | none => rw [e] at h2; cases h2
    | some z =>
      rw [e] at h2
      obtain ⟨q, hq, rfl⟩ := opt_some (x := asB z) h2
      cases asB_some hq
      refine hr r2.ex (Rep.mono g2.ff rx) ry e _ fun v F' H' g3 rv => ?_
      cases rv
      exact ⟨q, rfl, P2 q F' H' g3 rfl⟩)⟩
theorem jt_not {X : Cx} {a : Expr} {pos : Pos} {t : Env → Rs Bool} (ha : JT X a t) : JT X (.UnaryOp .Not a pos) (fun δ => bind (t δ) fun b => ok (!b)) := ⟨fun rp tk hg hP =>
  wt_of (pt_not pt_wt) (jt_bind ha rp tk hg hP fun x F1 H1 h1 g1 r1 P1 => P1.fin h1 _ F1 H1 (.refl r1.ex) rfl)⟩
/-! and, or as tests -/
def WW (X : Cx) (e : Expr) (σ : L2.St) (H : Hp) (Q : Bool → Hp → Prop) : Prop := ∀ (whole : Sem Value) pins s, Inv X pins σ H s → wpAny (model X.prog X.w) X.A (isTrue e X.env whole) (TP X pins σ Q) X.xe s
theorem pw_ww {X : Cx} {e : Expr} : PW X e (WW X e) := ⟨fun whole pins s _ _ _ I h => h whole pins s I⟩
theorem ww_of {X : Cx} {e : Expr} {t : TT} {σ : L2.St} {H : Hp} {Q : Bool → Hp → Prop} (h : PW X e t) (q : t σ H Q) : WW X e σ H Q := fun whole pins s I => h.run whole pins s σ H Q I q
abbrev JW (X : Cx) (e : Expr) (g : Env → Rs Bool) : Prop := J X (WW X e) relT g
theorem jt_w {X : Cx} {e : Expr} {g : Env → Rs Bool} (h : JW X e g) : JT X e g := ⟨fun rp tk hg hP => fun pins s I => h.run rp tk hg hP _ pins s I⟩
theorem jw_and1 {X : Cx} {a : Expr} {pos : Pos} {t : Env → Rs Bool} (ha : JT X a t) : JW X (.BoolOp .And [a] pos) t := ⟨fun rp tk hg hP => ww_of (pw_and1 pt_wt) (ha.run rp tk hg hP)⟩
theorem jw_or1 {X : Cx} {a : Expr} {pos : Pos} {t : Env → Rs Bool} (ha : JT X a t) : JW X (.BoolOp .Or [a] pos) t := ⟨fun rp tk hg hP => ww_of (pw_or1 pt_wt) (ha.run rp tk hg hP)⟩
def tand (t u : Env → Rs Bool) : Env → Rs Bool := fun δ => bind (t δ) fun b => if b = true then u δ else ok false
def tor (t u : Env → Rs Bool) : Env → Rs Bool := fun δ => bind (t δ) fun b => if b = true then ok true else u δ
theorem jw_and {X : Cx} {a b : Expr} {rest : List Expr} {pos : Pos} {t u : Env → Rs Bool} (ha : JT X a t) (hb : JW X (.BoolOp .And (b :: rest) pos) u) : JW X (.BoolOp .And (a :: b :: rest) pos) (tand t u) := ⟨fun rp tk hg hP =>
  ww_of (pw_and pt_wt pw_ww) (jt_bind ha rp tk hg hP fun x F1 H1 h1 g1 r1 P1 => by
    cases x with
    | true => rw [if_pos rfl] at *; exact hb.run r1 tk h1 P1
    | false => rw [if_neg Bool.false_ne_true] at *; exact P1.fin h1 _ F1 H1 (.refl r1.ex) rfl)⟩
theorem jw_or {X : Cx} {a b : Expr} {rest : List Expr} {pos : Pos} {t u : Env → Rs Bool} (ha : JT X a t) (hb : JW X (.BoolOp .Or (b :: rest) pos) u) : JW X (.BoolOp .Or (a :: b :: rest) pos) (tor t u) := ⟨fun rp tk hg hP =>
  ww_of (pw_or pt_wt pw_ww) (jt_bind ha rp tk hg hP fun x F1 H1 h1 g1 r1 P1 => by
    cases x with
    | false => rw [if_neg Bool.false_ne_true] at *; exact hb.run r1 tk h1 P1
    | true => rw [if_pos rfl] at *; exact P1.fin h1 _ F1 H1 (.refl r1.ex) rfl)⟩
/-! .. as values -/
def vand (a b : Env → Rs D) : Env → Rs D := fun δ => bind (a δ) fun x => bind (opt (truth x)) fun k => if k = true then b δ else ok x
def vor (a b : Env → Rs D) : Env → Rs D := fun δ => bind (a δ) fun x => bind (opt (truth x)) fun k => if k = true then ok x else b δ
def vnot (a : Env → Rs D) : Env → Rs D := fun δ => bind (a δ) fun x => bind (opt (truth x)) fun k => ok (.bl (!k))
theorem bind_opt {α β : Type} {x : Option α} {f : α → Rs β} {o : Except XD β} (h : bind (opt x) f = some o) : ∃ a, x = some a ∧ f a = some o := by
  cases x with
  | none => cases h
  | some a => exact ⟨a, rfl, h⟩
theorem jp_one {X : Cx} {a : Expr} {op} {pos : Pos} {g : Env → Rs D} (h : JP X a g) : JP X (.BoolOp op [a] pos) g := ⟨fun rp tk hg hP => we_of (pe_one pe_we) (h.run rp tk hg hP)⟩
theorem jp_and {X : Cx} {a b : Expr} {rest : List Expr} {pos : Pos} {f g : Env → Rs D} (ha : JP X a f) (hb : JP X (.BoolOp .And (b :: rest) pos) g) : JP X (.BoolOp .And (a :: b :: rest) pos) (vand f g) := ⟨fun rp tk hg hP =>
  we_of (pe_andT pe_we pe_we) (jp_bind ha rp tk hg hP fun x vx F1 H1 h1 g1 rx r1 P1 => by
    obtain ⟨k, hk, h2⟩ := bind_opt h1
    refine ⟨k, tru_of r1.ex rx hk, ?_⟩
    cases k with
    | true => rw [if_pos rfl] at *; exact hb.run r1 tk h2 P1
    | false => rw [if_neg Bool.false_ne_true] at *; exact P1.fin h2 _ F1 H1 (.refl r1.ex) rx)⟩
theorem jp_or {X : Cx} {a b : Expr} {rest : List Expr} {pos : Pos} {f g : Env → Rs D} (ha : JP X a f) (hb : JP X (.BoolOp .Or (b :: rest) pos) g) : JP X (.BoolOp .Or (a :: b :: rest) pos) (vor f g) := ⟨fun rp tk hg hP =>
  we_of (pe_orT pe_we pe_we) (jp_bind ha rp tk hg hP fun x vx F1 H1 h1 g1 rx r1 P1 => by
    obtain ⟨k, hk, h2⟩ := bind_opt h1
    refine ⟨k, tru_of r1.ex rx hk, ?_⟩
    cases k with
    | false => rw [if_neg Bool.false_ne_true] at *; exact hb.run r1 tk h2 P1
    | true => rw [if_pos rfl] at *; exact P1.fin h2 _ F1 H1 (.refl r1.ex) rx)⟩
theorem jp_not {X : Cx} {a : Expr} {pos : Pos} {f : Env → Rs D} (ha : JP X a f) : JP X (.UnaryOp .Not a pos) (vnot f) := ⟨fun rp tk hg hP =>
  we_of (pe_notT pe_we) (jp_bind ha rp tk hg hP fun x vx F1 H1 h1 g1 rx r1 P1 => by
    obtain ⟨k, hk, h2⟩ := bind_opt h1
    exact ⟨k, tru_of r1.ex rx hk, P1.fin h2 _ F1 H1 (.refl r1.ex) (.bl _)⟩)⟩
def vif (t : Env → Rs Bool) (a b : Env → Rs D) : Env → Rs D := fun δ => bind (t δ) fun k => if k = true then a δ else b δ
theorem jp_if {X : Cx} {q a b : Expr} {pos : Pos} {t : Env → Rs Bool} {f g : Env → Rs D} (hq : JT X q t) (ha : JP X a f) (hb : JP X b g) : JP X (.IfExp q a b pos) (vif t f g) := ⟨fun rp tk hg hP =>
  we_of (pe_ifExp pt_wt pe_we pe_we) (jt_bind hq rp tk hg hP fun x F1 H1 h1 g1 r1 P1 => by
    cases x with
    | true => rw [if_pos rfl] at *; exact ha.run r1 tk h1 P1
    | false => rw [if_neg Bool.false_ne_true] at *; exact hb.run r1 tk h1 P1)⟩
/-! ### arguments -/
def anil : Env → Rs (List D) := fun _ => ok []
def acons (a : Env → Rs D) (r : Env → Rs (List D)) : Env → Rs (List D) := fun δ => bind (a δ) fun x => bind (r δ) fun xs => ok (x :: xs)
theorem ja_nil {X : Cx} : JA X [] anil := ⟨fun rp tk hg hP => wa_of pa_nil (hP.fin hg _ _ _ (.refl rp.ex) .nil)⟩
theorem ja_cons {X : Cx} {e : Expr} {es : List Expr} {a : Env → Rs D} {r : Env → Rs (List D)} (ha : JP X e a) (hr : JA X es r) (hs : starEach (e :: es) X.env = (false, eval e X.env) :: starEach es X.env := by rfl) : JA X (e :: es) (acons a r) := ⟨fun rp tk hg hP =>
  wa_of (pa_cons pe_we pa_wa hs) (jp_bind ha rp tk hg hP fun x vx F1 H1 h1 g1 rx r1 P1 => ja_bind hr r1 tk h1 P1 fun xs vxs F2 H2 h2 g2 rxs r2 P2 => P2.fin h2 _ F2 H2 (.refl r2.ex) (.cons (rx.mono g2.ff) rxs))⟩
def vtup (a : Env → Rs (List D)) : Env → Rs D := fun δ => bind (a δ) fun xs => if xs.length ≤ sizeLine then ok (.tup xs) else none
def vlst (a : Env → Rs (List D)) : Env → Rs D := fun δ => bind (a δ) fun xs => if xs.length ≤ sizeLine then ok (.lst xs) else none
theorem jp_tup {X : Cx} {es : List Expr} {x1} {pos : Pos} {a : Env → Rs (List D)} (ha : JA X es a) : JP X (.Tuple es x1 pos) (vtup a) := ⟨fun rp tk hg hP =>
  we_of (pe_tup pa_wa) (ja_bind ha rp tk hg hP fun xs vs F1 H1 h1 g1 rx r1 P1 => by
    by_cases hl : xs.length ≤ sizeLine
    · rw [if_pos hl] at h1
      exact ⟨by rw [Rep.len rx]; exact hl, fun p hp => P1.fin h1 _ _ _ (.new r1.ex hp) (.tup (SqT.of upd_same) (rx.mono (Ex.new (none_back r1.ex hp))))⟩
    · rw [if_neg hl] at h1; cases h1)⟩
theorem jp_lst {X : Cx} {es : List Expr} {pos : Pos} {a : Env → Rs (List D)} (ha : JA X es a) : JP X (.List es pos) (vlst a) := ⟨fun rp tk hg hP =>
  we_of (pe_lst pa_wa) (ja_bind ha rp tk hg hP fun xs vs F1 H1 h1 g1 rx r1 P1 => by
    by_cases hl : xs.length ≤ sizeLine
    · rw [if_pos hl] at h1
      exact ⟨by rw [Rep.len rx]; exact hl, fun p hp => P1.fin h1 _ _ _ (.new r1.ex hp) (.lst upd_same (rx.mono (Ex.new (none_back r1.ex hp))))⟩
    · rw [if_neg hl] at h1; cases h1)⟩
/-! ### calls -/
/-- what a def promises: from data to data -/
def spP (K : Frag) (m : List D → Rs D) : Sp := fun vs H Q E => ∃ F ds o, Ex F H ∧ Reps K F vs ds ∧ m ds = some o ∧ Post (Rep K) K F H [] (fun cls dd _ H' => E cls dd H') o Q
/-- a def of the module -/
structure Fn (P : Program) (w : World) (K : Frag) (mg : Str → Option Value) (base : Heap) (k : Nat) (x : Str) (m : List D → Rs D) : Prop where
  at_ : ∃ f fd ps, FnOk P w K mg base (L2.CX P w) k f fd ps (spP K m) ∧ mg x = some (.ref f) ∧ PySem.W.keepIn K (.ref f) = true ∧ Binds K fd ps []
def vcall (m : List D → Rs D) (a : Env → Rs (List D)) : Env → Rs D := fun δ => bind (a δ) m
theorem post_call {K : Frag} {F H : Hp} {σ : L2.St} {W : WX} {o : Except XD D} {Q : VK} (p : Post (Rep K) K F H σ W o Q) : Post (Rep K) K F H [] (fun cls dd _ H' => L2.WE W σ cls dd H') o Q := by
  cases o with
  | ok d => exact p
  | error x => exact p
theorem jp_call {X : Cx} {k : Nat} {x : Str} {p pos : Pos} {e : Expr} {es : List Expr} {m : List D → Rs D} {a : Env → Rs (List D)} (hf : Fn X.prog X.w X.K X.mg X.base k x m) (hr : Room k X.A) (ha : JA X (e :: es) a) (hg : Gl X x := by rfl)
    (hdb : (x == ("__debug__" : Str)) = false := by decide) (he : starEach (e :: es) X.env = (false, eval e X.env) :: starEach es X.env := by rfl) (hpl : (backTo pos (starEach es X.env)).any (·.1) = false := by rfl) :
    JP X (.Call (.Name x p) (e :: es) [] pos) (vcall m a) := ⟨fun rp tk hg' hP => by
  obtain ⟨f, fd, ps, F, hm, hk, hb⟩ := hf.at_
  exact we_of (pe_callS F hr hg hm hk hb (fun σ => passAt tk σ) pa_wa hdb he hpl) (ja_bind ha rp tk hg' hP fun xs vs F1 H1 h1 g1 rx r1 P1 => ⟨F1, xs, _, r1.ex, rx, h1, post_call P1⟩)⟩
/-- a built-in on data -/
def CallD (K : Frag) (r : List V → Hp → VK → Prop) (g : List D → Option D) : Prop := ∀ {F H : Hp} {vs : List V} {xs : List D} {z : D}, Ex F H → Reps K F vs xs → g xs = some z → ∀ Q : VK, (∀ v F' H', Grow F H F' H' → Rep K F' v z → Q v H') → r vs H Q
def vcallB (g : List D → Option D) (a : Env → Rs (List D)) : Env → Rs D := fun δ => bind (a δ) fun xs => opt (g xs)
theorem jp_callB {X : Cx} {id : String} {x : Str} {p pos : Pos} {e : Expr} {es : List Expr} {r : List V → Hp → VK → Prop} {g : List D → Option D} {a : Env → Rs (List D)} (hc : CallR X (.builtin id) r) (hd : CallD X.K r g) (hm : X.mg x = none) (hv : bootBuiltins x = some (.builtin id)) (ha : JA X (e :: es) a) (hg : Gl X x := by rfl)
    (hn : x ≠ "__name__" := by decide) (hdb : (x == ("__debug__" : Str)) = false := by decide) (he : starEach (e :: es) X.env = (false, eval e X.env) :: starEach es X.env := by rfl) (hpl : (backTo pos (starEach es X.env)).any (·.1) = false := by rfl) :
    JP X (.Call (.Name x p) (e :: es) [] pos) (vcallB g a) := ⟨fun rp tk hg' hP =>
  we_of (pe_callB hc hg hm hv pa_wa hn hdb he hpl) (ja_bind ha rp tk hg' hP fun xs vs F1 H1 h1 g1 rx r1 P1 => by
    obtain ⟨z, hz, rfl⟩ := opt_some h1
    exact hd r1.ex rx hz _ P1)⟩
theorem jp_callTy {X : Cx} {T : String} {x : Str} {p pos : Pos} {e : Expr} {es : List Expr} {r : List V → Hp → VK → Prop} {g : List D → Option D} {a : Env → Rs (List D)} (hc : CallR X (.type T) r) (hd : CallD X.K r g) (hm : X.mg x = none) (hv : bootBuiltins x = some (.type T)) (ha : JA X (e :: es) a) (hg : Gl X x := by rfl)
    (hn : x ≠ "__name__" := by decide) (hdb : (x == ("__debug__" : Str)) = false := by decide) (he : starEach (e :: es) X.env = (false, eval e X.env) :: starEach es X.env := by rfl) (hpl : (backTo pos (starEach es X.env)).any (·.1) = false := by rfl) :
    JP X (.Call (.Name x p) (e :: es) [] pos) (vcallB g a) := ⟨fun rp tk hg' hP =>
  we_of (pe_callTy hc hg hm hv pa_wa hn hdb he hpl) (ja_bind ha rp tk hg' hP fun xs vs F1 H1 h1 g1 rx r1 P1 => by
    obtain ⟨z, hz, rfl⟩ := opt_some h1
    exact hd r1.ex rx hz _ P1)⟩
end PD
end
section
namespace PD
open PySem L2
/-! ### own containers -/
inductive OwnV (K : Frag) (F H : Hp) : V → D → List Addr → Prop
  | lst {p : Addr} {vs : List V} {ds : List D} (h : H p = some (.lst vs)) (r : Reps K F vs ds) : OwnV K F H (.ref p) (.lst ds) [p]
  | dic {p : Addr} {vs : List (Key × V)} {ds : List (Key × D)} (h : H p = some (.dK vs)) (r : RepK K F vs ds) : OwnV K F H (.ref p) (.dic ds) [p]
theorem OwnV.keep {K : Frag} {F H F' H' : Hp} {w : V} {d : D} {fp : List Addr} (e : Ex F F') (k : ∀ a ∈ fp, ∀ o, H a = some o → H' a = some o) (o : OwnV K F H w d fp) : OwnV K F' H' w d fp := by
  cases o with
  | lst h r => exact .lst (k _ (List.mem_singleton.2 rfl) _ h) (r.mono e)
  | dic h r => exact .dic (k _ (List.mem_singleton.2 rfl) _ h) (r.mono e)
/-- what a caller lets a body change; bx: the list that is its first argument -/
structure Pm where
  ch : Addr → Prop
  bx : Addr → Prop
instance : CoeFun Pm (fun _ => Addr → Prop) := ⟨Pm.ch⟩
def Pm.no : Pm := ⟨fun _ => False, fun _ => False⟩
/-- at the level of statements the box alone changes -/
class PmOk (P : Pm) : Prop where
  ok : ∀ a, P a → P.bx a
instance : PmOk Pm.no := ⟨fun _ h => h⟩
instance (p : Addr) : PmOk ⟨fun a => a = p, fun a => a = p⟩ := ⟨fun _ h => h⟩
/-- the slots of a def's body. own: those that hold containers of its own; F0, H0: the entry; P: what the caller lets it change -/
structure RS (K : Frag) (own : List Nat) (P : Pm) (F0 H0 F : Hp) (σ : L2.St) (H : Hp) (δ : Env) : Prop where
  ff : Ex F0 F
  fh : Ex F H
  hh : ∀ a o, ¬ P a → H0 a = some o → H a = some o
  dm : ∀ a, H0 a ≠ none → H a ≠ none
  nw : ∀ a, F a ≠ none → F0 a ≠ none ∨ H0 a = none
  ln : σ.length = δ.length
  par : ∀ a, P.bx a → 0 ∈ own ∧ σ[0]? = some (some (.ref a))
  val : ∀ (i : Nat) (d : D), i ∉ own → δ[i]? = some (some d) → ∃ v : V, σ[i]? = some (some v) ∧ Rep K F v d
  own : ∃ fp : Nat → List Addr, (∀ (i : Nat) (d : D), i ∈ own → δ[i]? = some (some d) → ∃ v : V, σ[i]? = some (some v) ∧ OwnV K F H v d (fp i)) ∧
    (∀ i a, a ∈ fp i → F a = none ∧ H a ≠ none ∧ (H0 a = none ∨ P a)) ∧ ∀ i j a, i ≠ j → a ∈ fp i → a ∉ fp j
def mask (own : List Nat) (δ : Env) : Env := own.foldl (fun δ i => δ.set i none) δ
theorem mask_get : ∀ {own : List Nat} {δ : Env} {i : Nat} {d : D}, (mask own δ)[i]? = some (some d) → i ∉ own ∧ δ[i]? = some (some d)
  | [], _, _, _, h => ⟨by simp, h⟩
  | j :: own, δ, i, d, h => by
    obtain ⟨a, b⟩ := mask_get (own := own) (δ := δ.set j none) h
    by_cases e : j = i
    · subst e
      rw [List.getElem?_set] at b
      by_cases hl : j < δ.length <;> simp [hl] at b
    · rw [List.getElem?_set_ne e] at b
      exact ⟨by simp; exact ⟨fun h => e h.symm, a⟩, b⟩
theorem mask_len : ∀ {own : List Nat} {δ : Env}, (mask own δ).length = δ.length
  | [], _ => rfl
  | j :: own, δ => (mask_len (own := own) (δ := δ.set j none)).trans (List.length_set ..)
theorem RS.rp {K : Frag} {own : List Nat} {P : Pm} {F0 H0 F : Hp} {σ : L2.St} {H : Hp} {δ : Env} (r : RS K own P F0 H0 F σ H δ) : RP K F σ H (mask own δ) :=
  ⟨r.fh, r.ln.trans mask_len.symm, fun i d h => let ⟨a, b⟩ := mask_get h; r.val i d a b⟩
theorem RS.grow {K : Frag} {own : List Nat} {P : Pm} {F0 H0 F F' H' : Hp} {σ : L2.St} {H : Hp} {δ : Env} (r : RS K own P F0 H0 F σ H δ) (g : Grow F H F' H') : RS K own P F0 H0 F' σ H' δ where
  ff := r.ff.trans g.ff
  fh := g.fh
  hh := fun a o p h => g.hh a o (r.hh a o p h)
  dm := fun a h => by
    have := r.dm a h
    cases e : H a with
    | none => exact absurd e this
    | some o => rw [g.hh a o e]; simp
  nw := fun a h => (g.nw a h).elim (r.nw a) fun h1 => by
    by_cases e : H0 a = none
    · exact .inr e
    · exact absurd h1 (r.dm a e)
  ln := r.ln
  par := r.par
  val := fun i d h e => let ⟨v, a, b⟩ := r.val i d h e; ⟨v, a, b.mono g.ff⟩
  own := by
    obtain ⟨fp, h1, h2, h3⟩ := r.own
    refine ⟨fp, fun i d hi e => ?_, fun i a ha => ?_, h3⟩
    · obtain ⟨v, a, b⟩ := h1 i d hi e
      exact ⟨v, a, b.keep g.ff fun a _ o h => g.hh a o h⟩
    · obtain ⟨a1, a2, a3⟩ := h2 i a ha
      refine ⟨?_, ?_, a3⟩
      · cases e : F' a with
        | none => rfl
        | some o => exact ((g.nw a (by rw [e]; simp)).elim (fun h => absurd a1 h) fun h => absurd h a2)
      · cases e : H a with
        | none => exact absurd e a2
        | some o => rw [g.hh a o e]; simp
/-! ### outcomes with slots -/
abbrev RE (α : Type) := Option (Except (XD × Env) (α × Env))
def bindE {α β : Type} (x : RE α) (f : α → Env → RE β) : RE β := match x with
  | none => none
  | some (.error e) => some (.error e)
  | some (.ok (a, δ)) => f a δ
def lf {α : Type} (own : List Nat) (g : Env → Rs α) : Env → RE α := fun δ => match g (mask own δ) with
  | none => none
  | some (.ok d) => some (.ok (d, δ))
  | some (.error x) => some (.error (x, δ))
/-- the frame of a body, for short -/
structure Fr where
  own : List Nat
  P : Pm
  F0 : Hp
  H0 : Hp
abbrev RSf (X : Cx) (f : Fr) (F : Hp) (σ : L2.St) (H : Hp) (δ : Env) : Prop := RS X.K f.own f.P f.F0 f.H0 F σ H δ
def PostE {α β : Type} (rel : Hp → β → α → Prop) (X : Cx) (f : Fr) (F : Hp) (σ : L2.St) (W : WX) (o : Except (XD × Env) (α × Env)) (Q : β → Hp → Prop) : Prop := match o with
  | .ok (d, δ') => ∀ v F' H', RSf X f F' σ H' δ' → Ex F F' → rel F' v d → Q v H'
  | .error (x, δ') => ∀ cls dd F' H', RSf X f F' σ H' δ' → Ex F F' → RepX X.K F' cls dd x → W cls dd σ H'
structure JS0 {α β : Type} (X : Cx) (own : List Nat) (w : L2.St → Hp → (β → Hp → Prop) → Prop) (rel : Hp → β → α → Prop) (g : Env → RE α) : Prop where
  run : ∀ {P F0 H0 σ F H δ W Q o}, RSf X ⟨own, P, F0, H0⟩ F σ H δ → Takes X W → g δ = some o → PostE rel X ⟨own, P, F0, H0⟩ F σ W o Q → w σ H Q
abbrev JE (X : Cx) (own : List Nat) (e : Expr) (g : Env → RE D) : Prop := JS0 X own (WE X e) (Rep X.K) g
abbrev JTE (X : Cx) (own : List Nat) (e : Expr) (g : Env → RE Bool) : Prop := JS0 X own (WT X e) relT g
abbrev JAE (X : Cx) (own : List Nat) (es : List Expr) (g : Env → RE (List D)) : Prop := JS0 X own (WA X es) (Reps X.K) g
/-- a pure thing among others -/
theorem js_lift {α β : Type} {X : Cx} {own : List Nat} {w : L2.St → Hp → (β → Hp → Prop) → Prop} {rel : Hp → β → α → Prop} {g : Env → Rs α} (h : J X w rel g) : JS0 X own w rel (lf own g) := ⟨fun {P F0 H0 σ F H δ W Q o} r tk hg hP => by
  unfold lf at hg
  cases e : g (mask own δ) with
  | none => rw [e] at hg; cases hg
  | some y => cases y with
    | ok d => rw [e] at hg; cases hg; exact h.run r.rp tk e fun v F' H' gr rv => hP v F' H' (r.grow gr) gr.ff rv
    | error x => rw [e] at hg; cases hg; exact h.run r.rp tk e fun c d F' H' gr rv => hP c d F' H' (r.grow gr) gr.ff rv⟩
theorem PostE.later {α β : Type} {rel : Hp → β → α → Prop} {X : Cx} {f : Fr} {F F1 : Hp} {σ : L2.St} {W : WX} {o : Except (XD × Env) (α × Env)} {Q : β → Hp → Prop} (e : Ex F F1) (p : PostE rel X f F σ W o Q) : PostE rel X f F1 σ W o Q := by
  cases o with
  | ok d => exact fun v F' H' r g' rv => p v F' H' r (e.trans g') rv
  | error x => exact fun c d F' H' r g' rv => p c d F' H' r (e.trans g') rv
theorem js_bind {α β α2 β2 : Type} {X : Cx} {own : List Nat} {w : L2.St → Hp → (β → Hp → Prop) → Prop} {rel : Hp → β → α → Prop} {rel2 : Hp → β2 → α2 → Prop} {g : Env → RE α} {k : α → Env → RE α2} {σ : L2.St} {P : Pm} {F0 H0 F H : Hp} {δ : Env} {W : WX} {o : Except (XD × Env) (α2 × Env)} {Q : β2 → Hp → Prop} {Q1 : β → Hp → Prop}
    (ha : JS0 X own w rel g) (r : RSf X ⟨own, P, F0, H0⟩ F σ H δ) (tk : Takes X W) (hg : bindE (g δ) k = some o) (hP : PostE rel2 X ⟨own, P, F0, H0⟩ F σ W o Q)
    (hk : ∀ x v δ1 F1 H1, k x δ1 = some o → Ex F F1 → rel F1 v x → RSf X ⟨own, P, F0, H0⟩ F1 σ H1 δ1 → PostE rel2 X ⟨own, P, F0, H0⟩ F1 σ W o Q → Q1 v H1) : w σ H Q1 := by
  cases e : g δ with
  | none => rw [e] at hg; cases hg
  | some y => cases y with
    | ok x => rw [e] at hg; exact ha.run r tk e fun v F1 H1 r1 e1 rx => hk x.1 v x.2 F1 H1 hg e1 rx r1 (hP.later e1)
    | error x => rw [e] at hg; cases hg; exact ha.run r tk e hP
/-! ### statements -/
inductive Out where
  | nx | rt (d : D) | bk | ct
abbrev RO := RE Out
def PostS (X : Cx) (f : Fr) (F : Hp) (W : WX) (o : Except (XD × Env) (Out × Env)) (D : Ends) : Prop := match o with
  | .ok (.nx, δ') => ∀ σ' F' H', RSf X f F' σ' H' δ' → Ex F F' → D.nx σ' H'
  | .ok (.rt d, δ') => ∀ v σ' F' H', RSf X f F' σ' H' δ' → Ex F F' → Rep X.K F' v d → D.rt v H'
  | .ok (.bk, δ') => ∀ σ' F' H', RSf X f F' σ' H' δ' → Ex F F' → D.bk σ' H'
  | .ok (.ct, δ') => ∀ σ' F' H', RSf X f F' σ' H' δ' → Ex F F' → D.ct σ' H'
  | .error (x, δ') => ∀ cls dd σ' F' H', RSf X f F' σ' H' δ' → Ex F F' → RepX X.K F' cls dd x → W cls dd σ' H'
theorem PostS.later {X : Cx} {f : Fr} {F F1 : Hp} {W : WX} {o : Except (XD × Env) (Out × Env)} {D : Ends} (e : Ex F F1) (p : PostS X f F W o D) : PostS X f F1 W o D := by
  rcases o with x | ⟨o, δ'⟩
  · exact fun c d σ F' H' r g' rv => p c d σ F' H' r (e.trans g') rv
  · cases o with
    | nx => exact fun σ F' H' r g' => p σ F' H' r (e.trans g')
    | rt d => exact fun v σ F' H' r g' rv => p v σ F' H' r (e.trans g') rv
    | bk => exact fun σ F' H' r g' => p σ F' H' r (e.trans g')
    | ct => exact fun σ F' H' r g' => p σ F' H' r (e.trans g')
structure JS (X : Cx) (own : List Nat) (st : Stmt) (g : Env → RO) : Prop where
  run : ∀ {P F0 H0 σ F H δ W o D} [PmOk P], RSf X ⟨own, P, F0, H0⟩ F σ H δ → Takes X W → g δ = some o → PostS X ⟨own, P, F0, H0⟩ F W o D → WS X st D σ H
structure JSs (X : Cx) (own : List Nat) (st : List Stmt) (g : Env → RO) : Prop where
  run : ∀ {P F0 H0 σ F H δ W o D} [PmOk P], RSf X ⟨own, P, F0, H0⟩ F σ H δ → Takes X W → g δ = some o → PostS X ⟨own, P, F0, H0⟩ F W o D → WSs X st D σ H
/-- an expression in a statement -/
theorem se_bind {α β : Type} {X : Cx} {own : List Nat} {w : L2.St → Hp → (β → Hp → Prop) → Prop} {rel : Hp → β → α → Prop} {g : Env → RE α} {k : α → Env → RO} {σ : L2.St} {P : Pm} {F0 H0 F H : Hp} {δ : Env} {W : WX} {o : Except (XD × Env) (Out × Env)} {D : Ends} {Q1 : β → Hp → Prop}
    (ha : JS0 X own w rel g) (r : RSf X ⟨own, P, F0, H0⟩ F σ H δ) (tk : Takes X W) (hg : bindE (g δ) k = some o) (hP : PostS X ⟨own, P, F0, H0⟩ F W o D)
    (hk : ∀ x v δ1 F1 H1, k x δ1 = some o → Ex F F1 → rel F1 v x → RSf X ⟨own, P, F0, H0⟩ F1 σ H1 δ1 → PostS X ⟨own, P, F0, H0⟩ F1 W o D → Q1 v H1) : w σ H Q1 := by
  cases e : g δ with
  | none => rw [e] at hg; cases hg
  | some y => cases y with
    | ok x => rw [e] at hg; exact ha.run r tk e fun v F1 H1 r1 e1 rx => hk x.1 v x.2 F1 H1 hg e1 rx r1 (hP.later e1)
    | error x => rw [e] at hg; cases hg; exact ha.run r tk e fun c d F' H' r1 e1 rx => hP c d σ F' H' r1 e1 rx
def snext : Env → RO := fun δ => some (.ok (.nx, δ))
def sseq (a b : Env → RO) : Env → RO := fun δ => match a δ with
  | some (.ok (.nx, δ')) => b δ'
  | x => x
theorem js_nil {X : Cx} {own : List Nat} : JSs X own [] snext := ⟨fun r tk hg hP => by cases hg; exact wss_of pss_nil (hP _ _ _ r (Ex.refl _))⟩
theorem js_one {X : Cx} {own : List Nat} {st : Stmt} {g : Env → RO} (h : JS X own st g) : JSs X own [st] g := ⟨fun r tk hg hP => wss_of (pss_one ps_ws) (h.run r tk hg hP)⟩
theorem js_cons {X : Cx} {own : List Nat} {st : Stmt} {rest : List Stmt} {g k : Env → RO} (h : JS X own st g) (hr : JSs X own rest k) : JSs X own (st :: rest) (sseq g k) := ⟨fun {P F0 H0 σ F H δ W o D} _ r tk hg hP => by
  refine wss_of (pss_cons ps_ws pss_wss) ?_
  show WS X st { D with nx := WSs X rest D } σ H
  unfold sseq at hg
  cases e : g δ with
  | none => rw [e] at hg; cases hg
  | some y => rcases y with x | ⟨o1, δ1⟩
              · rw [e] at hg; cases hg; exact h.run r tk e hP
              · cases o1 with
                | nx => rw [e] at hg; exact h.run r tk e fun σ' F' H' r1 e1 => hr.run r1 tk hg (hP.later e1)
                | rt d => rw [e] at hg; cases hg; exact h.run r tk e hP
                | bk => rw [e] at hg; cases hg; exact h.run r tk e hP
                | ct => rw [e] at hg; cases hg; exact h.run r tk e hP⟩
def sret (f : Env → RE D) : Env → RO := fun δ => bindE (f δ) fun d δ' => some (.ok (.rt d, δ'))
theorem js_ret {X : Cx} {own : List Nat} {e : Expr} {pos : Pos} {f : Env → RE D} (h : JE X own e f) : JS X own (.Return (some e) pos) (sret f) := ⟨fun r tk hg hP => ws_of (ps_ret pe_we) (se_bind h r tk hg hP fun x v δ1 F1 H1 h1 e1 rx r1 P1 => by cases h1; exact P1 v _ F1 H1 r1 (Ex.refl _) rx)⟩
def sretN : Env → RO := fun δ => some (.ok (.rt .non, δ))
theorem js_retN {X : Cx} {own : List Nat} {pos : Pos} : JS X own (.Return none pos) sretN := ⟨fun r tk hg hP => by cases hg; exact ws_of ps_retN (hP .non _ _ _ r (Ex.refl _) .non)⟩
def sdrop (f : Env → RE D) : Env → RO := fun δ => bindE (f δ) fun _ δ' => some (.ok (.nx, δ'))
theorem js_expr {X : Cx} {own : List Nat} {e : Expr} {pos : Pos} {f : Env → RE D} (h : JE X own e f) (hs : swapsWith e none pos.line X.env = pure false := by rfl) : JS X own (.Expr e pos) (sdrop f) := ⟨fun r tk hg hP => ws_of (ps_expr pe_we hs) (se_bind h r tk hg hP fun x v δ1 F1 H1 h1 e1 rx r1 P1 => by cases h1; exact P1 _ F1 H1 r1 (Ex.refl _))⟩
def sif (t : Env → RE Bool) (a b : Env → RO) : Env → RO := fun δ => bindE (t δ) fun k δ' => if k = true then a δ' else b δ'
theorem js_if {X : Cx} {own : List Nat} {q : Expr} {a b : List Stmt} {pos : Pos} {t : Env → RE Bool} {f g : Env → RO} (hq : JTE X own q t) (ha : JSs X own a f) (hb : JSs X own b g) : JS X own (.If q a b pos) (sif t f g) := ⟨fun {P F0 H0 σ F H δ W o D} _ r tk hg hP => by
  refine ws_of (ps_if pt_wt pss_wss pss_wss) ?_
  show WT X q σ H fun k H1 => if k = true then WSs X a D σ H1 else WSs X b D σ H1
  exact se_bind hq r tk hg hP fun x v δ1 F1 H1 h1 e1 rx r1 P1 => by
    cases rx
    cases x with
    | true => rw [if_pos rfl] at *; exact ha.run r1 tk h1 P1
    | false => rw [if_neg Bool.false_ne_true] at *; exact hb.run r1 tk h1 P1⟩
theorem RS.set {K : Frag} {own : List Nat} {P : Pm} {F0 H0 F : Hp} {σ : L2.St} {H : Hp} {δ : Env} {i : Nat} {w : V} {d : D} (r : RS K own P F0 H0 F σ H δ) (hi : i ∉ own) (rw' : Rep K F w d) : RS K own P F0 H0 F (σ.set i (some w)) H (δ.set i (some d)) where
  ff := r.ff
  fh := r.fh
  hh := r.hh
  dm := r.dm
  nw := r.nw
  ln := by rw [List.length_set, List.length_set, r.ln]
  par := fun a h => ⟨(r.par a h).1, by rw [List.getElem?_set_ne (fun e => hi (by rw [e]; exact (r.par a h).1))]; exact (r.par a h).2⟩
  val := fun j d' hj e => by
    by_cases h : i = j
    · subst h
      by_cases hl : i < δ.length
      · rw [List.getElem?_set_self hl] at e; cases e
        exact ⟨w, by rw [List.getElem?_set_self (by rw [r.ln]; exact hl)], rw'⟩
      · rw [List.getElem?_eq_none (by rw [List.length_set]; omega)] at e; cases e
    · rw [List.getElem?_set_ne h] at e ⊢
      exact r.val j d' hj e
  own := by
    obtain ⟨fp, h1, h2⟩ := r.own
    refine ⟨fp, fun j d' hj e => ?_, h2⟩
    have h : i ≠ j := fun h => hi (by rw [h]; exact hj)
    rw [List.getElem?_set_ne h] at e ⊢
    exact h1 j d' hj e
def sset (i : Nat) (f : Env → RE D) : Env → RO := fun δ => bindE (f δ) fun d δ' => some (.ok (.nx, δ'.set i (some d)))
theorem js_set {X : Cx} {own : List Nat} (i : Nat) {x : Str} {e : Expr} {pos pos' : Pos} {f : Env → RE D} (hN : X.N.Nodup) (h : JE X own e f) (hi : X.N[i]? = some x := by rfl) (hx : Loc X.env.scope x := by first | exact Or.inl rfl | exact Or.inr rfl) (ho : i ∉ own := by decide)
    (hs : swapsWith e (some (.Name x pos')) pos.line X.env = pure false := by rfl) (hf : X.fn x = true ∨ X.env.scope.names.lookup x = some .local := by first | exact .inl rfl | exact .inr rfl | assumption) : JS X own (.Assign [.Name x pos'] e pos) (sset i f) :=
  ⟨fun r tk hg hP => ws_of (ps_set hN hi hx pe_we hs hf) (se_bind h r tk hg hP fun x v δ1 F1 H1 h1 e1 rx r1 P1 => by cases h1; exact P1 _ F1 H1 (r1.set ho rx) (Ex.refl _))⟩
end PD
end
section
namespace PD
open PySem L2
/-! ### a def -/
def den (n N : Nat) (body : Env → RO) (ds : List D) : Rs D := if ds.length = n then (match body (ds.map some ++ List.replicate (N - n) none) with
  | none => none
  | some (.ok (.rt d, _)) => ok d
  | some (.ok (.nx, _)) => ok .non
  | some (.ok (.bk, _)) => none
  | some (.ok (.ct, _)) => none
  | some (.error (x, _)) => some (.error x)) else none
theorem Reps.some_get {K : Frag} {F : Hp} : ∀ {vs : List V} {ds : List D} {n m i : Nat} {d : D}, Reps K F vs ds → (ds.map some ++ List.replicate n (none : Option D))[i]? = some (some d) → ∃ v : V, (vs.map some ++ List.replicate m (none : Option V))[i]? = some (some v) ∧ Rep K F v d
  | _, _, n, m, i, d, .nil, e => by
    rw [List.map_nil, List.nil_append, List.getElem?_replicate] at e
    by_cases h : i < n
    · rw [if_pos h] at e; cases e
    · rw [if_neg h] at e; cases e
  | _, _, n, m, 0, d, .cons h r, e => by cases e; exact ⟨_, rfl, h⟩
  | _, _, n, m, i + 1, d, .cons h r, e => by
    rw [List.map_cons, List.cons_append, List.getElem?_cons_succ] at e
    rw [List.map_cons, List.cons_append, List.getElem?_cons_succ]
    exact Reps.some_get r e
section
variable {P : Program} {w : World} {K : Frag} {mg : Str → Option Value} {base : Heap}
theorem fn_ok {x qual : Str} {params : Arguments} {body : List Stmt} {scope : Scope} {f : Addr} {fd : FuncData} {dvs : List V} {kws : List (Str × V)} {N ps : List Str} {k : Nat} {own : List Nat} {g : Env → RO} (F : FunD K x qual params body scope dvs kws f fd) (S : FnScope N ps scope) (hon : own.all (fun i => decide (ps.length ≤ i)) = true)
    (hps : decide (ps.length ≤ N.length) = true)
    (hb : ∀ (cdv : Value) (A : Around) (outer : List PySem.Env) (s : Shared) (H : Hp) (E : XK), Room k (A.deeper (PyProof.Rows.envOfC qual scope s.heap.objs.size f cdv)) → JSs (cxOf (L2.CX P w) P w K mg base N qual scope f cdv A outer s H E) own body g) :
    FnOk P w K mg base (L2.CX P w) (k + 1) f fd ps (spP K (den ps.length N.length g)) := by
  refine FunD.ok F S (fun vs H Q E h => ?_) (fun cdv A outer s H vs Q E hr h => ?_)
  · obtain ⟨F', ds, o, e, r, h1, _⟩ := h
    unfold den at h1
    by_cases hl : ds.length = ps.length
    · rw [Rep.len r, hl]
    · rw [if_neg hl] at h1; cases h1
  · obtain ⟨F', ds, o, e, r, h1, hP⟩ := h
    unfold den at h1
    by_cases hl : ds.length = ps.length
    · rw [if_pos hl] at h1
      have hl' : ps.length ≤ N.length := of_decide_eq_true hps
      have hlv : vs.length = ps.length := by rw [Rep.len r, hl]
      refine ⟨_, pss_wss, ?_⟩
      have tk : Takes (cxOf (L2.CX P w) P w K mg base N qual scope f cdv A outer s H E) (fun cls d _ H => E cls d H) := takes_of rfl rfl rfl rfl
      have R0 : RSf (cxOf (L2.CX P w) P w K mg base N qual scope f cdv A outer s H E) ⟨own, Pm.no, F', H⟩ F' (L2.start N vs) H (ds.map some ++ List.replicate (N.length - ps.length) none) := {
        ff := Ex.refl _
        fh := e
        hh := fun _ _ _ h => h
        dm := fun _ h => h
        nw := fun _ h => .inl h
        ln := by unfold L2.start; simp [hl, hlv]
        par := fun _ h => h.elim
        val := fun i d _ h => by
          unfold L2.start
          exact Reps.some_get r h
        own := ⟨fun _ => [], And.intro (fun (i : Nat) (d : D) hi (h : (List.map some ds ++ List.replicate (N.length - ps.length) (none : Option D))[i]? = some (some d)) => by
          have := of_decide_eq_true (List.all_eq_true.1 hon i hi)
          rw [List.getElem?_append_right (by rw [List.length_map, hl]; exact this), List.getElem?_replicate] at h
          split at h <;> cases h) (And.intro (fun i a h => absurd h (by simp)) (fun i j a _ h => absurd h (by simp)))⟩ }
      cases e2 : g (ds.map some ++ List.replicate (N.length - ps.length) none) with
      | none => rw [e2] at h1; cases h1
      | some y =>
        rw [e2] at h1
        refine (hb cdv A outer s H E hr).run R0 tk e2 ?_
        rcases y with ⟨x, δ'⟩ | ⟨o1, δ'⟩
        · cases h1
          exact fun cls dd σ' F1 H1 r1 e1 rx => hP cls dd F1 H1 ⟨e1, r1.fh, fun a o h => r1.hh a o (fun h => h.elim) h, r1.nw⟩ rx
        · cases o1 with
          | rt d => cases h1; exact fun v σ' F1 H1 r1 e1 rx => hP v F1 H1 ⟨e1, r1.fh, fun a o h => r1.hh a o (fun h => h.elim) h, r1.nw⟩ rx
          | nx => cases h1; exact fun σ' F1 H1 r1 e1 => hP .non F1 H1 ⟨e1, r1.fh, fun a o h => r1.hh a o (fun h => h.elim) h, r1.nw⟩ .non
          | bk => cases h1
          | ct => cases h1
    · rw [if_neg hl] at h1; cases h1
end
/-! ### operators on data -/
def dAdd : D → D → Option D
  | .int i, .int j => some (.int (i + j))
  | .str i, .str j => if i.length + j.length ≤ sizeLine then some (.str (i ++ j)) else none
  | .tup i, .tup j => if i.length + j.length ≤ sizeLine then some (.tup (i ++ j)) else none
  | .lst i, .lst j => if i.length + j.length ≤ sizeLine then some (.lst (i ++ j)) else none
  | _, _ => none
abbrev rAddI : R2 := rI0 fun i j => .int (i + j)
abbrev rAddS : R2 := fun x y H Q => ∃ i j, x = .str i ∧ y = .str j ∧ i.length + j.length ≤ sizeLine ∧ Q (.str (i ++ j)) H
abbrev rAdd (K : Frag) : R2 := fun x y H Q => (rAddI x y H Q ∨ rAddS x y H Q) ∨ (rCatA K x y H Q ∨ rCat x y H Q)
theorem o_add {X : Cx} : OpR X (binaryOp .Add) (rAdd X.K) := (op_add.or op_add_str).or (op_catA.or op_cat)
theorem isnil {α β : Type} {a : List α} {b : List β} (h : a.length = b.length) : a = [] → b = [] := by
  intro e; subst e; exact List.length_eq_zero_iff.1 h.symm
theorem d_add {K : Frag} : OpD K (rAdd K) dAdd := fun {F H vx vy x y z} e rx ry h Q q => by
  cases rx <;> cases ry <;> (try (cases h; done)) <;> simp only [dAdd] at h
  case int.int i j => cases h; exact .inl (.inl ⟨i, j, rfl, rfl, q _ F H (.refl e) (.int _)⟩)
  case str.str i j =>
    split at h
    · cases h; exact .inl (.inr ⟨i, j, rfl, rfl, by assumption, q _ F H (.refl e) (.str _)⟩)
    · cases h
  case tup.tup a vs ds h1 r1 b ws es h2 r2 =>
    split at h
    · cases h
      have l1 := Rep.len r1
      have l2 := Rep.len r2
      refine .inr (.inl ⟨a, b, vs, ws, rfl, rfl, ex_t e h1, ex_t e h2, by omega, fun e1 => ?_, fun e1 e2 => ?_, fun e1 e2 p hp => ?_⟩)
      · cases isnil l1 e1; exact q _ F H (.refl e) (.tup h2 r2)
      · cases isnil l2 e2; rw [List.append_nil] at q; exact q _ F H (.refl e) (.tup h1 r1)
      · exact q _ _ _ (.new e hp) (.tup (SqT.of upd_same) ((r1.app r2).mono (Ex.new (none_back e hp))))
    · cases h
  case lst.lst a vs ds h1 r1 b ws es h2 r2 =>
    split at h
    · cases h
      have l1 := Rep.len r1
      have l2 := Rep.len r2
      exact .inr (.inr ⟨a, b, vs, ws, rfl, rfl, e _ _ h1, e _ _ h2, by omega, fun p hp => q _ _ _ (.new e hp) (.lst upd_same ((r1.app r2).mono (Ex.new (none_back e hp))))⟩)
    · cases h
def dSub : D → D → Option D
  | .int i, .int j => some (.int (i - j))
  | _, _ => none
theorem d_sub {K : Frag} : OpD K (rI0 fun i j => .int (i - j)) dSub := fun {F H vx vy x y z} e rx ry h Q q => by
  cases rx <;> cases ry <;> (try (cases h; done))
  cases h; exact ⟨_, _, rfl, rfl, q _ F H (.refl e) (.int _)⟩
instance (i j : Int) : Decidable (CMulW i j) := inferInstanceAs (Decidable (_ < _))
instance (i j : Int) : Decidable (CMul i j) := inferInstanceAs (Decidable (_ ∨ _))
def dMul : D → D → Option D
  | .int i, .int j => if CMulW i j then some (.int (i * j)) else if CMul i j then some (.int (i * j)) else none
  | .lst xs, .int k => if -(2 ^ 63) ≤ k ∧ k < 2 ^ 63 ∧ xs.length * k.toNat ≤ sizeLine then some (.lst (List.replicate k.toNat xs).flatten) else none
  | .tup xs, .int k => if xs.isEmpty = false ∧ 2 ≤ k ∧ k ≤ 1000 ∧ xs.length ≤ 1000 then some (.tup (List.replicate k.toNat xs).flatten) else none
  | _, _ => none
abbrev rMul (K : Frag) : R2 := fun x y H Q => (rI CMulW (fun i j => .int (i * j)) x y H Q ∨ rI CMul (fun i j => .int (i * j)) x y H Q) ∨ (rRep x y H Q ∨ rRepT K x y H Q)
theorem o_mul {X : Cx} : OpR X (binaryOp .Mult) (rMul X.K) := (op_mulW.or op_mul).or (op_rep.or op_repT)
theorem Reps.rep {K : Frag} {F : Hp} {vs : List V} {ds : List D} (r : Reps K F vs ds) : ∀ n : Nat, Reps K F (List.replicate n vs).flatten (List.replicate n ds).flatten
  | 0 => .nil
  | n + 1 => by rw [List.replicate_succ, List.replicate_succ, List.flatten_cons, List.flatten_cons]; exact r.app (Reps.rep r n)
theorem d_mul {K : Frag} : OpD K (rMul K) dMul := fun {F H vx vy x y z} e rx ry h Q q => by
  cases rx <;> cases ry <;> (try (cases h; done)) <;> simp only [dMul] at h
  case int.int i j =>
    split at h
    · cases h; exact .inl (.inl ⟨i, j, rfl, rfl, by assumption, q _ F H (.refl e) (.int _)⟩)
    · split at h
      · cases h; exact .inl (.inr ⟨i, j, rfl, rfl, by assumption, q _ F H (.refl e) (.int _)⟩)
      · cases h
  case tup.int a vs ds h1 r1 k =>
    split at h
    · rename_i hc
      cases h
      have l1 := Rep.len r1
      exact .inr (.inr ⟨a, k, vs, rfl, rfl, ex_t e h1, fun e1 => by rw [isnil l1 e1] at hc; exact absurd hc.1 (by simp), hc.2.1, hc.2.2.1, by omega, fun p hp => q _ _ _ (.new e hp) (.tup (SqT.of upd_same) ((r1.rep _).mono (Ex.new (none_back e hp))))⟩)
    · cases h
  case lst.int a vs ds h1 r1 k =>
    split at h
    · rename_i hc
      cases h
      have l1 := Rep.len r1
      exact .inr (.inl ⟨a, k, vs, rfl, rfl, e _ _ h1, hc.1, hc.2.1, by rw [l1]; exact hc.2.2, fun p hp => q _ _ _ (.new e hp) (.lst upd_same ((r1.rep _).mono (Ex.new (none_back e hp))))⟩)
    · cases h
abbrev CDivG (_ j : Int) : Prop := j ≠ 0 ∧ j.natAbs.log2 < 9000
theorem o_fdiv {X : Cx} : OpR X (binaryOp .FloorDiv) (rI CDivG fun i j => .int (i.fdiv j)) := opI fun i j _ _ _ _ _ hc q => PyProof.Rows.floordiv_int hc.1 q (.inl (PyProof.noPylong_of_log2 hc.2))
def dFdiv : D → D → Option D
  | .int i, .int j => if CDivG i j then some (.int (i.fdiv j)) else none
  | _, _ => none
theorem d_fdiv {K : Frag} : OpD K (rI CDivG fun i j => .int (i.fdiv j)) dFdiv := fun {F H vx vy x y z} e rx ry h Q q => by
  cases rx <;> cases ry <;> (try (cases h; done)) <;> simp only [dFdiv] at h
  split at h
  · cases h; exact ⟨_, _, rfl, rfl, by assumption, q _ F H (.refl e) (.int _)⟩
  · cases h
def dMod : D → D → Option D
  | .int i, .int j => if j ≠ 0 then some (.int (i.fmod j)) else none
  | _, _ => none
theorem d_mod {K : Frag} : OpD K (rI (fun _ j => j ≠ 0) fun i j => .int (i.fmod j)) dMod := fun {F H vx vy x y z} e rx ry h Q q => by
  cases rx <;> cases ry <;> (try (cases h; done)) <;> simp only [dMod] at h
  split at h
  · cases h; exact ⟨_, _, rfl, rfl, by assumption, q _ F H (.refl e) (.int _)⟩
  · cases h
instance (i j : Int) : Decidable (CPow i j) := inferInstanceAs (Decidable (_ ∧ _))
def dPow : D → D → Option D
  | .int i, .int j => if CPow i j then some (.int (i ^ j.toNat)) else none
  | _, _ => none
theorem d_pow {K : Frag} : OpD K (rI CPow fun i j => .int (i ^ j.toNat)) dPow := fun {F H vx vy x y z} e rx ry h Q q => by
  cases rx <;> cases ry <;> (try (cases h; done)) <;> simp only [dPow] at h
  split at h
  · cases h; exact ⟨_, _, rfl, rfl, by assumption, q _ F H (.refl e) (.int _)⟩
  · cases h
section
variable {X : Cx} {a b : Expr} {pos : Pos} {fa fb : Env → Rs D}
theorem jp_add (ha : JP X a fa) (hb : JP X b fb) : JP X (.BinOp a .Add b pos) (op2 dAdd fa fb) := jp_op o_add d_add ha hb
theorem jp_sub (ha : JP X a fa) (hb : JP X b fb) : JP X (.BinOp a .Sub b pos) (op2 dSub fa fb) := jp_op op_sub d_sub ha hb
theorem jp_mul (ha : JP X a fa) (hb : JP X b fb) : JP X (.BinOp a .Mult b pos) (op2 dMul fa fb) := jp_op o_mul d_mul ha hb
theorem jp_fdiv (ha : JP X a fa) (hb : JP X b fb) : JP X (.BinOp a .FloorDiv b pos) (op2 dFdiv fa fb) := jp_op o_fdiv d_fdiv ha hb
theorem jp_mod (ha : JP X a fa) (hb : JP X b fb) : JP X (.BinOp a .Mod b pos) (op2 dMod fa fb) := jp_op op_modN d_mod ha hb
theorem jp_pow (ha : JP X a fa) (hb : JP X b fb) : JP X (.BinOp a .Pow b pos) (op2 dPow fa fb) := jp_op op_pow d_pow ha hb
end
end PD
end
section
namespace PD
open PySem L2
/-! ### equality -/
mutual
def toPy : D → Option PyData
  | .non => some .none
  | .bl b => some (.bool b)
  | .int i => some (.int i)
  | .str x => some (.str x)
  | .tup xs => (toPys xs).map .tuple
  | .lst xs => (toPys xs).map .list
  | .scr xs => (toPys xs).map .list
  | .dic _ => none
  | .obj _ _ => none
  | .ins _ _ => none
def toPys : List D → Option (List PyData)
  | [] => some []
  | x :: xs => (toPy x).bind fun p => (toPys xs).map fun ps => p :: ps
end
mutual
theorem dp_of {K : Frag} {F H : Hp} (e : Ex F H) : ∀ {w : V} {d : D} {p : PyData}, Rep K F w d → toPy d = some p → Dp K H w p
  | _, _, _, .non, h => by cases h; exact .non
  | _, _, _, .bl b, h => by cases h; exact .bl b
  | _, _, _, .int i, h => by cases h; exact .int i
  | _, _, _, .str x, h => by cases h; exact .str x
  | _, _, _, .tup (ds := ds) h1 r, h => by
    simp only [toPy, Option.map_eq_some_iff] at h
    obtain ⟨ps, h2, rfl⟩ := h
    exact .tup (ex_t e h1) (dps_of e r h2)
  | _, _, _, .lst (ds := ds) h1 r, h => by
    simp only [toPy, Option.map_eq_some_iff] at h
    obtain ⟨ps, h2, rfl⟩ := h
    exact .lst (SqL.of (e _ _ h1)) (dps_of e r h2)
  | _, _, _, .scr (ds := ds) h1 r, h => by
    simp only [toPy, Option.map_eq_some_iff] at h
    obtain ⟨ps, h2, rfl⟩ := h
    exact .lst (ex_l e h1) (dps_of e r h2)
  | _, _, _, .dic _ _, h => by simp [toPy] at h
  | _, _, _, .obj _ _ _, h => by simp [toPy] at h
  | _, _, _, .ins _ _, h => by simp [toPy] at h
theorem dps_of {K : Frag} {F H : Hp} (e : Ex F H) : ∀ {ws : List V} {ds : List D} {ps : List PyData}, Reps K F ws ds → toPys ds = some ps → DpAll K H ws ps
  | _, _, _, .nil, h => by cases h; exact .nil
  | _, _, _, .cons h1 r, h => by
    simp only [toPys, Option.bind_eq_some_iff, Option.map_eq_some_iff] at h
    obtain ⟨p, h2, ps, h3, rfl⟩ := h
    exact .cons (dp_of e h1 h2) (dps_of e r h3)
end
/-- == of data, where it is told -/
def eqD (x y : D) : Option Bool := (toPy x).bind fun p => (toPy y).bind fun q => if SeqAt.shaped p && SeqAt.shaped q then some (PyData.eqv p q) else none
theorem eqD_some {x y : D} {b : Bool} (h : eqD x y = some b) : ∃ p q, toPy x = some p ∧ toPy y = some q ∧ SeqAt.shaped p = true ∧ SeqAt.shaped q = true ∧ b = PyData.eqv p q := by
  simp only [eqD, Option.bind_eq_some_iff] at h
  obtain ⟨p, h1, q, h2, h3⟩ := h
  split at h3
  · rename_i hc
    rw [Bool.and_eq_true] at hc
    cases h3; exact ⟨p, q, h1, h2, hc.1, hc.2, rfl⟩
  · cases h3
def dEq (x y : D) : Option D := (eqD x y).map .bl
def dNe (x y : D) : Option D := (eqD x y).map fun b => .bl (!b)
theorem d_eq {K : Frag} : OpD K (rEqD K) dEq := fun {F H vx vy x y z} e rx ry h Q q => by
  simp only [dEq, Option.map_eq_some_iff] at h
  obtain ⟨b, h1, rfl⟩ := h
  obtain ⟨p, r, hp, hr, s1, s2, rfl⟩ := eqD_some h1
  exact ⟨p, r, dp_of e rx hp, dp_of e ry hr, s1, s2, q _ F H (.refl e) (.bl _)⟩
theorem d_ne {K : Frag} : OpD K (rNeD K) dNe := fun {F H vx vy x y z} e rx ry h Q q => by
  simp only [dNe, Option.map_eq_some_iff] at h
  obtain ⟨b, h1, rfl⟩ := h
  obtain ⟨p, r, hp, hr, s1, s2, rfl⟩ := eqD_some h1
  exact ⟨p, r, dp_of e rx hp, dp_of e ry hr, s1, s2, q _ F H (.refl e) (.bl _)⟩
theorem hu64 {k : Nat} {A : Around} (hr : Room k A) : A.units + 65 < cLine := by have := hr.un; omega
/-! ### order -/
def dCmp (fi : Int → Int → Bool) (fs : List Nat → List Nat → Bool) : D → D → Option D
  | .int i, .int j => some (.bl (fi i j))
  | .str i, .str j => some (.bl (fs i.cps.toList j.cps.toList))
  | _, _ => none
abbrev rCmp (fi : Int → Int → Bool) (fs : List Nat → List Nat → Bool) : R2 := fun x y H Q => rI0 (fun i j => .bl (fi i j)) x y H Q ∨ ∃ i j, x = .str i ∧ y = .str j ∧ Q (.bl (fs i.cps.toList j.cps.toList)) H
theorem d_cmp {K : Frag} {fi : Int → Int → Bool} {fs : List Nat → List Nat → Bool} : OpD K (rCmp fi fs) (dCmp fi fs) := fun {F H vx vy x y z} e rx ry h Q q => by
  cases rx <;> cases ry <;> (try (cases h; done)) <;> simp only [dCmp] at h
  · cases h; exact .inl ⟨_, _, rfl, rfl, q _ F H (.refl e) (.bl _)⟩
  · cases h; exact .inr ⟨_, _, rfl, rfl, q _ F H (.refl e) (.bl _)⟩
abbrev dLt := dCmp (fun i j => decide (i < j)) fun a b => decide (a < b)
abbrev dLe := dCmp (fun i j => decide (i ≤ j)) fun a b => !decide (b < a)
abbrev dGt := dCmp (fun i j => decide (j < i)) fun a b => decide (b < a)
abbrev dGe := dCmp (fun i j => decide (j ≤ i)) fun a b => !decide (a < b)
theorem o_lt {X : Cx} : OpR X (compareOp .Lt) (rCmp (fun i j => decide (i < j)) fun a b => decide (a < b)) := op_lt.or op_lt_str
theorem o_le {X : Cx} : OpR X (compareOp .LtE) (rCmp (fun i j => decide (i ≤ j)) fun a b => !decide (b < a)) := op_le.or op_le_str
theorem o_gt {X : Cx} : OpR X (compareOp .Gt) (rCmp (fun i j => decide (j < i)) fun a b => decide (b < a)) := op_gt.or op_gt_str
theorem o_ge {X : Cx} : OpR X (compareOp .GtE) (rCmp (fun i j => decide (j ≤ i)) fun a b => !decide (a < b)) := op_ge.or op_ge_str
/-! ### is None -/
def isNon : D → Bool
  | .non => true
  | _ => false
theorem isNon_of {K : Frag} {F : Hp} {w : V} {d : D} (r : Rep K F w d) : decide (w = .non) = isNon d := by cases r <;> rfl
section
variable {X : Cx} {a b : Expr} {pos p2 : Pos} {j : Nat} {fa fb : Env → Rs D} {k : Nat}
theorem jp_eq (hr : Room k X.A) (ha : JP X a fa) (hb : JP X b fb) : JP X (.Compare a [.Eq] [b] pos) (op2 dEq fa fb) := jp_cmp (op_eqD (by have := hu64 hr; omega)) d_eq ha hb
theorem jp_ne (hr : Room k X.A) (ha : JP X a fa) (hb : JP X b fb) : JP X (.Compare a [.NotEq] [b] pos) (op2 dNe fa fb) := jp_cmp (op_neD (by have := hu64 hr; omega)) d_ne ha hb
theorem jp_lt (ha : JP X a fa) (hb : JP X b fb) : JP X (.Compare a [.Lt] [b] pos) (op2 dLt fa fb) := jp_cmp o_lt d_cmp ha hb
theorem jp_le (ha : JP X a fa) (hb : JP X b fb) : JP X (.Compare a [.LtE] [b] pos) (op2 dLe fa fb) := jp_cmp o_le d_cmp ha hb
theorem jp_gt (ha : JP X a fa) (hb : JP X b fb) : JP X (.Compare a [.Gt] [b] pos) (op2 dGt fa fb) := jp_cmp o_gt d_cmp ha hb
theorem jp_ge (ha : JP X a fa) (hb : JP X b fb) : JP X (.Compare a [.GtE] [b] pos) (op2 dGe fa fb) := jp_cmp o_ge d_cmp ha hb
theorem jt_eq (hr : Room k X.A) (ha : JP X a fa) (hb : JP X b fb) : JT X (.Compare a [.Eq] [b] pos) (tb (op2 dEq fa fb)) := jt_cmp (op_eqD (by have := hu64 hr; omega)) d_eq ha hb
theorem jt_ne (hr : Room k X.A) (ha : JP X a fa) (hb : JP X b fb) : JT X (.Compare a [.NotEq] [b] pos) (tb (op2 dNe fa fb)) := jt_cmp (op_neD (by have := hu64 hr; omega)) d_ne ha hb
theorem jt_lt (ha : JP X a fa) (hb : JP X b fb) : JT X (.Compare a [.Lt] [b] pos) (tb (op2 dLt fa fb)) := jt_cmp o_lt d_cmp ha hb
theorem jt_le (ha : JP X a fa) (hb : JP X b fb) : JT X (.Compare a [.LtE] [b] pos) (tb (op2 dLe fa fb)) := jt_cmp o_le d_cmp ha hb
theorem jt_gt (ha : JP X a fa) (hb : JP X b fb) : JT X (.Compare a [.Gt] [b] pos) (tb (op2 dGt fa fb)) := jt_cmp o_gt d_cmp ha hb
theorem jt_ge (ha : JP X a fa) (hb : JP X b fb) : JT X (.Compare a [.GtE] [b] pos) (tb (op2 dGe fa fb)) := jt_cmp o_ge d_cmp ha hb
def vis (f : Env → Rs D) : Env → Rs D := fun δ => bind (f δ) fun x => ok (.bl (isNon x))
def vnis (f : Env → Rs D) : Env → Rs D := fun δ => bind (f δ) fun x => ok (.bl (!isNon x))
theorem jp_is (ha : JP X a fa) : JP X (.Compare a [.Is] [.Constant .none j p2] pos) (vis fa) := ⟨fun rp tk hg hP =>
  we_of (pe_cmp (pc_isN pe_we)) (jp_bind ha rp tk hg hP fun x vx F1 H1 h1 g1 rx r1 P1 => by rw [isNon_of rx]; exact P1.fin h1 _ F1 H1 (.refl r1.ex) (.bl _))⟩
theorem jp_nis (ha : JP X a fa) : JP X (.Compare a [.IsNot] [.Constant .none j p2] pos) (vnis fa) := ⟨fun rp tk hg hP =>
  we_of (pe_cmp (pc_notN pe_we)) (jp_bind ha rp tk hg hP fun x vx F1 H1 h1 g1 rx r1 P1 => by rw [isNon_of rx]; exact P1.fin h1 _ F1 H1 (.refl r1.ex) (.bl _))⟩
theorem jt_is (ha : JP X a fa) : JT X (.Compare a [.Is] [.Constant .none j p2] pos) (fun δ => bind (fa δ) fun x => ok (isNon x)) := ⟨fun rp tk hg hP =>
  wt_of (pt_cmp (pc_isN pe_we)) (jp_bind ha rp tk hg hP fun x vx F1 H1 h1 g1 rx r1 P1 => ⟨_, rfl, by rw [isNon_of rx]; exact P1.fin h1 _ F1 H1 (.refl r1.ex) rfl⟩)⟩
theorem jt_nis (ha : JP X a fa) : JT X (.Compare a [.IsNot] [.Constant .none j p2] pos) (fun δ => bind (fa δ) fun x => ok (!isNon x)) := ⟨fun rp tk hg hP =>
  wt_of (pt_cmp (pc_notN pe_we)) (jp_bind ha rp tk hg hP fun x vx F1 H1 h1 g1 rx r1 P1 => ⟨_, rfl, by rw [isNon_of rx]; exact P1.fin h1 _ F1 H1 (.refl r1.ex) rfl⟩)⟩
/-- -e -/
def dNeg : D → Option D
  | .int i => some (.int (-i))
  | _ => none
def vneg (f : Env → Rs D) : Env → Rs D := fun δ => bind (f δ) fun x => opt (dNeg x)
theorem jp_neg (ha : JP X a fa) : JP X (.UnaryOp .USub a pos) (vneg fa) := ⟨fun rp tk hg hP =>
  we_of (pe_un un_neg pe_we) (jp_bind ha rp tk hg hP fun x vx F1 H1 h1 g1 rx r1 P1 => by
    obtain ⟨z, hz, rfl⟩ := opt_some h1
    cases rx <;> (try (cases hz; done))
    cases hz; exact ⟨_, rfl, P1 _ F1 H1 (.refl r1.ex) (.int _)⟩)⟩
end
/-! ### subscripts -/
def dIx : D → D → Option D
  | .tup xs, .int i => atI xs i
  | .lst xs, .int i => atI xs i
  | .scr xs, .int i => atI xs i
  | .str x, .int i => if x.length ≤ sizeLine then (atI x.cps.toList i).map fun c => .str ⟨#[c]⟩ else none
  | .dic kvs, .int i => (kvs.find? fun kv => decide (kv.1 = .inl i)).map (·.2)
  | .dic kvs, .str i => (kvs.find? fun kv => decide (kv.1 = .inr i)).map (·.2)
  | _, _ => none
theorem Reps.atI {K : Frag} {F : Hp} {vs : List V} {ds : List D} {i : Int} {d : D} (r : Reps K F vs ds) (h : L2.atI ds i = some d) : ∃ v, L2.atI vs i = some v ∧ Rep K F v d := by
  unfold L2.atI at *
  rw [Rep.len r]
  cases e : ixN ds.length i with
  | none => rw [e] at h; cases h
  | some j => rw [e] at h; exact r.get h
def isDic : D → Bool
  | .dic _ => true
  | _ => false
def rIx (K : Frag) : R2 := fun x y H Q => rIxL K x y H Q ∨ rIxT K x y H Q ∨ rIxS x y H Q
theorem ix_any {X : Cx} : IxR X (rIx X.K) := fun value slice pins s σ H x y v u Q I rx ry h hs => by
  rcases h with h | h | h
  · exact ix_list value slice pins s σ H x y v u Q I rx ry h hs
  · exact ix_tup value slice pins s σ H x y v u Q I rx ry h hs
  · exact ix_str value slice pins s σ H x y v u Q I rx ry h hs
theorem d_ix {K : Frag} {F H : Hp} {vx vy : V} {x y z : D} (e : Ex F H) (rx : Rep K F vx x) (ry : Rep K F vy y) (h : dIx x y = some z) (nd : isDic x = false) (Q : VK) (q : ∀ v F' H', Grow F H F' H' → Rep K F' v z → Q v H') : rIx K vx vy H Q := by
  cases rx <;> cases ry <;> (try (cases h; done)) <;> (try (cases nd; done)) <;> simp only [dIx] at h
  case str.int x i =>
    split at h
    · rename_i hc
      simp only [Option.map_eq_some_iff] at h
      obtain ⟨c, hc', rfl⟩ := h
      exact .inr (.inr ⟨x, i, c, rfl, rfl, hc, hc', q _ F H (.refl e) (.str _)⟩)
    · cases h
  case tup.int a vs ds h1 r1 i =>
    obtain ⟨w, hw, rw'⟩ := r1.atI h
    exact .inr (.inl ⟨a, vs, i, w, rfl, rfl, ex_t e h1, hw, q _ F H (.refl e) rw'⟩)
  case lst.int a vs ds h1 r1 i =>
    obtain ⟨w, hw, rw'⟩ := r1.atI h
    exact .inl ⟨a, vs, i, w, rfl, rfl, SqL.of (e _ _ h1), hw, q _ F H (.refl e) rw'⟩
  case scr.int a vs ds h1 r1 i =>
    obtain ⟨w, hw, rw'⟩ := r1.atI h
    exact .inl ⟨a, vs, i, w, rfl, rfl, ex_l e h1, hw, q _ F H (.refl e) rw'⟩
theorem d_dget {K : Frag} {F H : Hp} {vx vy : V} {x y z : D} (e : Ex F H) (rx : Rep K F vx x) (ry : Rep K F vy y) (h : dIx x y = some z) (nd : isDic x = true) : ∃ a w, vx = .ref a ∧ DGet H a vy (some w) ∧ Rep K F w z := by
  cases rx <;> (try (cases nd; done))
  case dic a kvs kds h1 r1 =>
    cases ry <;> (try (cases h; done)) <;> simp only [dIx] at h
    case int i =>
      rcases r1.val (k := .inl i) with ⟨_, b⟩ | ⟨w, d, a1, b, c⟩
      · rw [b] at h; cases h
      · rw [b] at h; cases h; exact ⟨a, w, rfl, a1 ▸ DGet.k (k := .inl i) (e _ _ h1), c⟩
    case str i =>
      rcases r1.val (k := .inr i) with ⟨_, b⟩ | ⟨w, d, a1, b, c⟩
      · rw [b] at h; cases h
      · rw [b] at h; cases h; exact ⟨a, w, rfl, a1 ▸ DGet.k (k := .inr i) (e _ _ h1), c⟩
theorem jp_ix {X : Cx} {a b : Expr} {pos : Pos} {fa fb : Env → Rs D} {k : Nat} (hr : Room k X.A) (ha : JP X a fa) (hb : JP X b fb) (hs : PlainIx b := by exact fun _ _ => rfl) : JP X (.Subscript a b pos) (op2 dIx fa fb) := ⟨fun {σ F H δ W Q o} rp tk hg hP => by
  by_cases hd : ∃ x, fa δ = some (.ok x) ∧ isDic x = true
  · obtain ⟨x0, e0, hx0⟩ := hd
    refine we_of (pe_dget (hu_of hr) pe_we pe_we hs) (ha.run rp tk e0 fun vx F1 H1 g1 rx => ?_)
    unfold op2 at hg
    rw [e0] at hg
    exact jp_bind hb (rp.later g1) tk hg (hP.later g1) fun y vy F2 H2 h2 g2 ry r2 P2 => by
      obtain ⟨z, hz, rfl⟩ := opt_some h2
      obtain ⟨p, w, e1, hD, rw'⟩ := d_dget r2.ex (rx.mono g2.ff) ry hz hx0
      exact ⟨p, w, e1, hD, P2 w F2 H2 (.refl r2.ex) rw'⟩
  · refine we_of (pe_ix ix_any pe_we pe_we hs) ?_
    unfold op2 at hg
    cases e0 : fa δ with
    | none => rw [e0] at hg; cases hg
    | some y0 => cases y0 with
      | error x => rw [e0] at hg; cases hg; exact ha.run rp tk e0 hP
      | ok x =>
        rw [e0] at hg
        exact ha.run rp tk e0 fun vx F1 H1 g1 rx => jp_bind hb (rp.later g1) tk hg (hP.later g1) fun y vy F2 H2 h2 g2 ry r2 P2 => by
          obtain ⟨z, hz, rfl⟩ := opt_some h2
          cases hx : isDic x with
          | false => exact d_ix r2.ex (rx.mono g2.ff) ry hz hx _ P2
          | true => exact absurd ⟨x, e0, hx⟩ hd⟩
end PD
end
section
namespace PD
open PySem L2
/-! ### in -/
section
variable {X : Cx}
def rInT (K : Frag) (neg : Bool) : R2 := fun x y H Q => ∃ d ds, Dp K H x d ∧ Dp K H y (.tuple ds) ∧ SeqAt.shaped d = true ∧ SeqAt.shaped (.tuple ds) = true ∧ Q (.bl (if neg then !(ds.any fun z => PyData.eqv z d) else ds.any fun z => PyData.eqv z d)) H
theorem op_inT (hu : X.A.units + 65 < cLine) : OpR X (compareOp .In) (rInT X.K false) := by
  intro pins s σ H x y v u Q I rx ry h
  obtain ⟨d, ds, hd, he, sd, se, q⟩ := h
  obtain ⟨as, r1⟩ := Dp.reads I d x v hd rx
  obtain ⟨bs, r2⟩ := Dp.reads I (.tuple ds) y u he ry
  exact SeqAt.in_tuple_reads r2 r1 (SeqAt.canLay_of_shaped se) (SeqAt.canLay_of_shaped sd) (PyProof.Rows.room_in_shaped sd hu) ⟨.bl _, H, I, rfl, q⟩
theorem op_notInT (hu : X.A.units + 65 < cLine) : OpR X (compareOp .NotIn) (rInT X.K true) := by
  intro pins s σ H x y v u Q I rx ry h
  obtain ⟨d, ds, hd, he, sd, se, q⟩ := h
  obtain ⟨as, r1⟩ := Dp.reads I d x v hd rx
  obtain ⟨bs, r2⟩ := Dp.reads I (.tuple ds) y u he ry
  exact SeqAt.notIn_tuple_reads r2 r1 (SeqAt.canLay_of_shaped se) (SeqAt.canLay_of_shaped sd) (PyProof.Rows.room_in_shaped sd hu) ⟨.bl _, H, I, rfl, q⟩
end
def keyOf : D → Option Key
  | .int i => some (.inl i)
  | .str x => some (.inr x)
  | _ => none
theorem keyOf_rep {K : Frag} {F : Hp} {w : V} {d : D} {k : Key} (r : Rep K F w d) (h : keyOf d = some k) : w = kV k := by
  cases r <;> (try (cases h; done)) <;> cases h <;> rfl
/-- x in y -/
def inD : D → D → Option Bool
  | x, .tup ys => (toPy x).bind fun p => (toPys ys).bind fun qs => if SeqAt.shaped p && SeqAt.shaped (.tuple qs) then some (qs.any fun z => PyData.eqv z p) else none
  | x, .lst ys => (toPy x).bind fun p => (toPys ys).bind fun qs => if SeqAt.shaped p && SeqAt.shaped (.list qs) then some (qs.any fun z => PyData.eqv z p) else none
  | x, .dic kvs => (keyOf x).map fun k => ((kvs.find? fun kv => decide (kv.1 = k)).map (·.2)).isSome
  | .str x, .str z => if x.cps.size = 1 then some (decide (x.cps.getD 0 0 ∈ z.cps.toList)) else none
  | _, _ => none
def dIn (x y : D) : Option D := (inD x y).map .bl
def dNotIn (x y : D) : Option D := (inD x y).map fun b => .bl (!b)
def rIn1 (K : Frag) : R2 := fun x y H Q => (rInT K false x y H Q ∨ rInD K x y H Q) ∨ ∃ (c : Nat) (z : Str), x = .str ⟨#[c]⟩ ∧ y = .str z ∧ Q (.bl (decide (c ∈ z.cps.toList))) H
def rIn2 (K : Frag) : R2 := fun x y H Q => (rInT K true x y H Q ∨ rNotInD K x y H Q) ∨ ∃ (c : Nat) (z : Str), x = .str ⟨#[c]⟩ ∧ y = .str z ∧ Q (.bl (!decide (c ∈ z.cps.toList))) H
theorem one_sign {x : Str} (h : x.cps.size = 1) : x = ⟨#[x.cps.getD 0 0]⟩ := by
  obtain ⟨⟨l⟩⟩ := x
  cases l with
  | nil => cases h
  | cons a r => cases r with
    | nil => rfl
    | cons b r => simp at h
theorem d_in {K : Frag} {F H : Hp} {vx vy : V} {x y : D} {b : Bool} (e : Ex F H) (rx : Rep K F vx x) (ry : Rep K F vy y) (h : inD x y = some b) (nd : isDic y = false) : (∀ Q : VK, Q (.bl b) H → rIn1 K vx vy H Q) ∧ (∀ Q : VK, Q (.bl (!b)) H → rIn2 K vx vy H Q) := by
  cases ry with
  | tup h1 r1 =>
    simp only [inD, Option.bind_eq_some_iff] at h
    obtain ⟨p, hp, qs, hq, h3⟩ := h
    split at h3
    · rename_i hc
      rw [Bool.and_eq_true] at hc
      cases h3
      have dx := dp_of e rx hp
      have dy : Dp K H _ (.tuple qs) := .tup (ex_t e h1) (dps_of e r1 hq)
      exact ⟨fun Q q => .inl (.inl ⟨p, qs, dx, dy, hc.1, hc.2, q⟩), fun Q q => .inl (.inl ⟨p, qs, dx, dy, hc.1, hc.2, q⟩)⟩
    · cases h3
  | lst h1 r1 =>
    simp only [inD, Option.bind_eq_some_iff] at h
    obtain ⟨p, hp, qs, hq, h3⟩ := h
    split at h3
    · rename_i hc
      rw [Bool.and_eq_true] at hc
      cases h3
      have dx := dp_of e rx hp
      have dy : Dp K H _ (.list qs) := .lst (SqL.of (e _ _ h1)) (dps_of e r1 hq)
      exact ⟨fun Q q => .inl (.inr ⟨p, qs, dx, dy, hc.1, hc.2, q⟩), fun Q q => .inl (.inr ⟨p, qs, dx, dy, hc.1, hc.2, q⟩)⟩
    · cases h3
  | dic h1 r1 => cases nd
  | str z =>
    cases rx with
    | str x =>
      simp only [inD] at h
      split at h
      · rename_i hc
        cases h
        exact ⟨fun Q q => .inr ⟨_, z, congrArg V.str (one_sign hc), rfl, q⟩, fun Q q => .inr ⟨_, z, congrArg V.str (one_sign hc), rfl, q⟩⟩
      · cases h
    | _ => simp [inD] at h
  | _ => cases rx <;> simp [inD] at h
section
variable {X : Cx} {a b : Expr} {pos : Pos} {fa fb : Env → Rs D} {k : Nat}
theorem o_in (hr : Room k X.A) : OpR X (compareOp .In) (rIn1 X.K) := ((op_inT (hu64 hr)).or (op_inD (hu64 hr))).or op_in_sign
theorem o_nin (hr : Room k X.A) : OpR X (compareOp .NotIn) (rIn2 X.K) := ((op_notInT (hu64 hr)).or (op_notInD (hu64 hr))).or op_notIn_sign
/-- a, b evaluated: by what b is -/
theorem in_cases {g : D → D → Option D} {σ : L2.St} {F H : Hp} {δ : Env} {W : WX} {Q1 : V → V → Hp → Prop} {Q : VK} {o : Except XD D} (ha : JP X a fa) (hb : JP X b fb) (rp : RP X.K F σ H δ) (tk : Takes X W) (hg : op2 g fa fb δ = some o) (hP : Post (Rep X.K) X.K F H σ W o Q)
    (fin : ∀ x y vx vy z F2 H2, fa δ = some (.ok x) → fb δ = some (.ok y) → g x y = some z → Rep X.K F2 vx x → Rep X.K F2 vy y → Ex F2 H2 → (∀ v F' H', Grow F2 H2 F' H' → Rep X.K F' v z → Q v H') → Q1 vx vy H2) :
    WE X a σ H fun x H1 => WE X b σ H1 fun y H2 => Q1 x y H2 := by
  unfold op2 at hg
  cases e0 : fa δ with
  | none => rw [e0] at hg; cases hg
  | some y0 => cases y0 with
    | error x => rw [e0] at hg; cases hg; exact ha.run rp tk e0 hP
    | ok x =>
      rw [e0] at hg
      refine ha.run rp tk e0 fun vx F1 H1 g1 rx => ?_
      cases e1 : fb δ with
      | none => simp only [bind] at hg; rw [e1] at hg; cases hg
      | some y1 => cases y1 with
        | error z => simp only [bind] at hg; rw [e1] at hg; cases hg; exact hb.run (rp.later g1) tk e1 (hP.later g1)
        | ok y =>
          simp only [bind] at hg
          rw [e1] at hg
          obtain ⟨z, hz, rfl⟩ := opt_some hg
          exact hb.run (rp.later g1) tk e1 fun vy F2 H2 g2 ry => fin x y vx vy z F2 H2 e0 e1 hz (rx.mono g2.ff) ry g2.fh fun v F' H' g3 rv => hP v F' H' ((g1.trans g2).trans g3) rv
theorem inD_dic {K : Frag} {F H : Hp} {vx vy : V} {x y : D} {b : Bool} (e : Ex F H) (rx : Rep K F vx x) (ry : Rep K F vy y) (h : inD x y = some b) (nd : isDic y = true) : ∃ a o, vy = .ref a ∧ DGet H a vx o ∧ b = o.isSome := by
  cases ry <;> (try (cases nd; done))
  case dic a kvs kds h1 r1 =>
    simp only [inD, Option.map_eq_some_iff] at h
    obtain ⟨k, hk, rfl⟩ := h
    cases keyOf_rep rx hk
    refine ⟨a, _, rfl, DGet.k (e _ _ h1), ?_⟩
    rcases r1.val (k := k) with ⟨a1, b1⟩ | ⟨w, d, a1, b1, c1⟩
    · rw [a1, b1]; rfl
    · rw [a1, b1]; rfl
def WC (X : Cx) (op : CmpOp) (a b : Expr) (σ : L2.St) (H : Hp) (Q : VK) : Prop := ∀ pins s, Inv X pins σ H s →
  wpAny (model X.prog X.w) X.A (eval a X.env) (fun v s₁ => wpAny (model X.prog X.w) X.A (eval b X.env) (fun u s₂ => wpAny (model X.prog X.w) X.A (compareOp op v u) (EP X pins σ Q) X.xe s₂) X.xe s₁) X.xe s
theorem pc_wc {op : CmpOp} : PC X op a b (WC X op a b) := ⟨fun pins s _ _ _ I h => h pins s I⟩
theorem wc_of {op : CmpOp} {t : TE} {σ : L2.St} {H : Hp} {Q : VK} (h : PC X op a b t) (q : t σ H Q) : WC X op a b σ H Q := fun pins s I => h.run pins s σ H Q I q
theorem pc_op {op : CmpOp} {r : R2} {ta tb : TE} (ho : OpR X (compareOp op) r) (ha : PE X a ta) (hb : PE X b tb) : PC X op a b (tOp r ta tb) := ⟨fun pins s σ H Q I h => binT ha hb I h fun v u s2 x y H2 I2 rx ry q => ho pins s2 σ H2 x y v u Q I2 rx ry q⟩
abbrev JC (X : Cx) (op : CmpOp) (a b : Expr) (g : Env → Rs D) : Prop := J X (WC X op a b) (Rep X.K) g
theorem jp_c {op : CmpOp} {g : Env → Rs D} (h : JC X op a b g) (hm : behindInMarks op b = false := by first | exact nomark _ | with_unfolding_all rfl) : JP X (.Compare a [op] [b] pos) g := ⟨fun rp tk hg hP => we_of (pe_cmp pc_wc hm) (h.run rp tk hg hP)⟩
theorem jt_c {op : CmpOp} {g : Env → Rs D} (h : JC X op a b g) (hm : behindInMarks op b = false := by first | exact nomark _ | with_unfolding_all rfl) : JT X (.Compare a [op] [b] pos) (tb g) := ⟨fun {σ F H δ W Q o} rp tk hg hP => wt_of (pt_cmp pc_wc hm) (j_bind (w := WC X op a b) h rp tk hg hP fun x vx F1 H1 h1 g1 rx r1 P1 => by
    obtain ⟨q, hq, rfl⟩ := opt_some h1
    cases asB_some hq
    cases rx
    exact ⟨q, rfl, P1 q F1 H1 (.refl r1.ex) rfl⟩)⟩
theorem jc_in (hr : Room k X.A) (ha : JP X a fa) (hb : JP X b fb) : JC X .In a b (op2 dIn fa fb) := ⟨fun {σ F H δ W Q o} rp tk hg hP => by
  by_cases hd : ∃ y, fb δ = some (.ok y) ∧ isDic y = true
  · obtain ⟨y0, e0, h0⟩ := hd
    refine wc_of (pc_din (hu_of hr) pe_we pe_we) (in_cases ha hb rp tk hg hP fun x y vx vy z F2 H2 ex ey hz rx ry e q => ?_)
    rw [e0] at ey; cases ey
    simp only [dIn, Option.map_eq_some_iff] at hz
    obtain ⟨b1, hz, rfl⟩ := hz
    obtain ⟨p, o1, e1, hD, rfl⟩ := inD_dic e rx ry hz h0
    exact ⟨p, o1, e1, hD, q _ F2 H2 (.refl e) (.bl _)⟩
  · refine wc_of (pc_op (o_in hr) pe_we pe_we) (in_cases ha hb rp tk hg hP fun x y vx vy z F2 H2 ex ey hz rx ry e q => ?_)
    simp only [dIn, Option.map_eq_some_iff] at hz
    obtain ⟨b1, hz, rfl⟩ := hz
    cases hx : isDic y with
    | true => exact absurd ⟨y, ey, hx⟩ hd
    | false => exact (d_in e rx ry hz hx).1 _ (q _ F2 H2 (.refl e) (.bl _))⟩
theorem jc_nin (hr : Room k X.A) (ha : JP X a fa) (hb : JP X b fb) : JC X .NotIn a b (op2 dNotIn fa fb) := ⟨fun {σ F H δ W Q o} rp tk hg hP => by
  by_cases hd : ∃ y, fb δ = some (.ok y) ∧ isDic y = true
  · obtain ⟨y0, e0, h0⟩ := hd
    refine wc_of (pc_dnotin (hu_of hr) pe_we pe_we) (in_cases ha hb rp tk hg hP fun x y vx vy z F2 H2 ex ey hz rx ry e q => ?_)
    rw [e0] at ey; cases ey
    simp only [dNotIn, Option.map_eq_some_iff] at hz
    obtain ⟨b1, hz, rfl⟩ := hz
    obtain ⟨p, o1, e1, hD, rfl⟩ := inD_dic e rx ry hz h0
    exact ⟨p, o1, e1, hD, q _ F2 H2 (.refl e) (.bl _)⟩
  · refine wc_of (pc_op (o_nin hr) pe_we pe_we) (in_cases ha hb rp tk hg hP fun x y vx vy z F2 H2 ex ey hz rx ry e q => ?_)
    simp only [dNotIn, Option.map_eq_some_iff] at hz
    obtain ⟨b1, hz, rfl⟩ := hz
    cases hx : isDic y with
    | true => exact absurd ⟨y, ey, hx⟩ hd
    | false => exact (d_in e rx ry hz hx).2 _ (q _ F2 H2 (.refl e) (.bl _))⟩
/-- a test by a value that is a bool -/
theorem jt_b {e : Expr} {g : Env → Rs D} (h : JP X e g) (he : ∀ whole, isTrue e X.env whole = (do let v ← whole; standAt e.pos; holding [v] (truthy v)) := by intro _; rfl) : JT X e (tb g) := ⟨fun rp tk hg hP =>
  wt_of (pt_val pe_we he) (jp_bind h rp tk hg hP fun x vx F1 H1 h1 g1 rx r1 P1 => by
    obtain ⟨q, hq, rfl⟩ := opt_some h1
    cases asB_some hq
    cases rx
    exact ⟨q, rfl, P1 q F1 H1 (.refl r1.ex) rfl⟩)⟩
end
end PD
end
section
namespace PD
open PySem L2
/-! ### isinstance -/
inductive Ty where
  | int | bool | str | list | tuple | dict
def Ty.nm : Ty → String
  | .int => "int" | .bool => "bool" | .str => "str" | .list => "list" | .tuple => "tuple" | .dict => "dict"
def tyName : D → Option String
  | .non => some "NoneType"
  | .bl _ => some "bool"
  | .int _ => some "int"
  | .str _ => some "str"
  | .tup _ => some "tuple"
  | .lst _ => some "list"
  | .scr _ => some "list"
  | .dic _ => some "dict"
  | _ => none
def isA : Ty → D → Option Bool
  | .int, .int _ => some true
  | .int, .bl _ => some true
  | .bool, .bl _ => some true
  | .str, .str _ => some true
  | .list, .lst _ => some true
  | .list, .scr _ => some true
  | .tuple, .tup _ => some true
  | .dict, .dic _ => some true
  | _, .obj _ _ => none
  | _, .ins _ _ => none
  | _, _ => some false
theorem isA_kit {K : Frag} {t : Ty} {d : D} {b : Bool} (h : isA t d = some b) : ∃ n, tyName d = some n ∧ PySem.W.kitOne K (.type n) (.type t.nm) = some b := by
  cases t <;> cases d <;> (try (cases h; done)) <;> cases h <;> exact ⟨_, rfl, kit_ty (by decide +kernel)⟩
theorem tyX_of {K : Frag} {F H : Hp} {w : V} {d : D} {n : String} (e : Ex F H) (r : Rep K F w d) (h : tyName d = some n) : TyX K H w (.type n) := by
  cases r with
  | non => cases h; exact .base .non
  | bl b => cases h; exact .base (.bl b)
  | int i => cases h; exact .base (.int i)
  | str x => cases h; exact .base (.str x)
  | tup h1 r1 =>
    cases h
    rcases ex_t e h1 with h1 | ⟨o, its, m, h2, h3, h4⟩
    · rcases h1 with h1 | ⟨o, h1⟩
      · exact .base (.tup h1)
      · exact .fTuple h1
    · exact .kTuple h2 h3
  | lst h1 r1 => cases h; exact .base (.lst (e _ _ h1))
  | scr h1 r1 =>
    cases h
    rcases ex_l e h1 with h1 | ⟨o, its, m, h2, h3, h4⟩
    · rcases h1 with h1 | ⟨o, h1⟩
      · exact .base (.lst h1)
      · exact .base (.frz h1)
    · exact .kList h2 h3
  | dic h1 r1 => cases h; exact .base (.dK (e _ _ h1))
  | obj h1 hx r1 => cases h
  | ins h1 r1 => cases h
section
variable {X : Cx} {a : Expr} {p p1 p2 p3 pos pt : Pos} {fa : Env → Rs D}
def visi (t : Ty) (f : Env → Rs D) : Env → Rs D := fun δ => bind (f δ) fun x => opt ((isA t x).map .bl)
theorem jp_isi (t : Ty) {x : Str} (hi : X.mg "isinstance" = none) (hx : X.mg x = none) (hv : bootBuiltins x = some (.type t.nm)) (ha : JP X a fa) (hg : Gl X "isinstance" := by rfl) (hgx : Gl X x := by rfl) (hn : x ≠ "__name__" := by decide) (hdb : (x == ("__debug__" : Str)) = false := by decide)
    (hs1 : starEach [a, .Name x p1] X.env = (false, eval a X.env) :: starEach [.Name x p1] X.env := by rfl) (hs2 : starEach [.Name x p1] X.env = (false, eval (.Name x p1) X.env) :: starEach [] X.env := by rfl) (hpl : (backTo pos (starEach [.Name x p1] X.env)).any (·.1) = false := by rfl) :
    JP X (.Call (.Name "isinstance" p) [a, .Name x p1] [] pos) (visi t fa) := ⟨fun rp tk hg' hP =>
  we_of (pe_callB call_isi hg hi PyProof.Rows.boot_isinstance (pa_cons pe_we (pa_cons (pe_bltn (v := .ty t.nm) hgx hx hv rfl hn hdb) pa_nil hs2) hs1) (he := hs1) (hpl := hpl)) (jp_bind ha rp tk hg' hP fun x vx F1 H1 h1 g1 rx r1 P1 => by
    obtain ⟨z, hz, rfl⟩ := opt_some h1
    simp only [Option.map_eq_some_iff] at hz
    obtain ⟨b, hb, rfl⟩ := hz
    obtain ⟨n, hn, hk⟩ := isA_kit (K := X.K) hb
    exact ⟨_, _, _, _, b, rfl, .ty _, tyX_of r1.ex rx hn, hk, P1 _ F1 H1 (.refl r1.ex) (.bl _)⟩)⟩
def isA2 (t u : Ty) (d : D) : Option Bool := (isA t d).bind fun b => if b = true then some true else isA u d
theorem isA2_kit {K : Frag} {t u : Ty} {d : D} {b : Bool} (h : isA2 t u d = some b) : ∃ n, tyName d = some n ∧ PySem.W.kitAny K (.type n) [.type t.nm, .type u.nm] = some b := by
  simp only [isA2, Option.bind_eq_some_iff] at h
  obtain ⟨b1, h1, h2⟩ := h
  obtain ⟨n, hn, hk⟩ := isA_kit (K := K) h1
  refine ⟨n, hn, kitAny_cons hk (fun e => ?_) (fun e => ?_)⟩
  · subst e
    rw [if_neg Bool.false_ne_true] at h2
    obtain ⟨n', hn', hk'⟩ := isA_kit (K := K) h2
    rw [hn] at hn'; cases hn'
    exact kitAny_cons hk' (fun e => by subst e; exact kitAny_nil) (fun e => e)
  · subst e
    rw [if_pos rfl] at h2; cases h2; rfl
def visi2 (t u : Ty) (f : Env → Rs D) : Env → Rs D := fun δ => bind (f δ) fun x => opt ((isA2 t u x).map .bl)
theorem jp_isi2 (t u : Ty) {x y : Str} {k : Nat} (hi : X.mg "isinstance" = none) (hx : X.mg x = none) (hv : bootBuiltins x = some (.type t.nm)) (hy : X.mg y = none) (hw : bootBuiltins y = some (.type u.nm)) (ha : JP X a fa) (hg : Gl X "isinstance" := by rfl) (hgx : Gl X x := by rfl) (hgy : Gl X y := by rfl)
    (hn : x ≠ "__name__" := by decide) (hdb : (x == ("__debug__" : Str)) = false := by decide) (hn' : y ≠ "__name__" := by decide) (hdb' : (y == ("__debug__" : Str)) = false := by decide)
    (hs1 : starEach [a, .Tuple [.Name x p1, .Name y p2] k pt] X.env = (false, eval a X.env) :: starEach [.Tuple [.Name x p1, .Name y p2] k pt] X.env := by rfl) (hs2 : starEach [.Tuple [.Name x p1, .Name y p2] k pt] X.env = (false, eval (.Tuple [.Name x p1, .Name y p2] k pt) X.env) :: starEach [] X.env := by rfl)
    (hs3 : starEach [.Name x p1, .Name y p2] X.env = (false, eval (.Name x p1) X.env) :: starEach [.Name y p2] X.env := by rfl) (hs4 : starEach [.Name y p2] X.env = (false, eval (.Name y p2) X.env) :: starEach [] X.env := by rfl)
    (hpl : (backTo pos (starEach [.Tuple [.Name x p1, .Name y p2] k pt] X.env)).any (·.1) = false := by rfl) :
    JP X (.Call (.Name "isinstance" p) [a, .Tuple [.Name x p1, .Name y p2] k pt] [] pos) (visi2 t u fa) := ⟨fun rp tk hg' hP =>
  we_of (pe_callB call_isiT hg hi PyProof.Rows.boot_isinstance (pa_cons pe_we (pa_cons (pe_tup (pa_cons (pe_bltn (v := .ty t.nm) hgx hx hv rfl hn hdb) (pa_cons (pe_bltn (v := .ty u.nm) hgy hy hw rfl hn' hdb') pa_nil hs4) hs3)) pa_nil hs2) hs1) (he := hs1) (hpl := hpl)) (jp_bind ha rp tk hg' hP fun x vx F1 H1 h1 g1 rx r1 P1 => by
    obtain ⟨z, hz, rfl⟩ := opt_some h1
    simp only [Option.map_eq_some_iff] at hz
    obtain ⟨b, hb, rfl⟩ := hz
    obtain ⟨n, hn, hk⟩ := isA2_kit (K := X.K) hb
    have g2 : ∀ q, H1 q = none → Grow F1 H1 F1 (upd H1 q (.tup [.ty t.nm, .ty u.nm])) := fun q hq => ⟨Ex.refl _, r1.ex.trans (Ex.new hq), Ex.new hq, fun a h => .inl h⟩
    exact ⟨by show 2 ≤ sizeLine; decide, fun q hq => ⟨_, q, [.ty t.nm, .ty u.nm], _, [.type t.nm, .type u.nm], b, rfl, upd_same, .cons (.ty _) (.cons (.ty _) .nil), tyX_of (g2 q hq).fh rx hn, hk, P1 _ F1 _ (g2 q hq) (.bl _)⟩⟩)⟩
end
/-! ### built-ins -/
def one (g : D → Option D) : List D → Option D
  | [x] => g x
  | _ => none
def two (g : D → D → Option D) : List D → Option D
  | [x, y] => g x y
  | _ => none
theorem one_some {g : D → Option D} {xs : List D} {z : D} (h : one g xs = some z) : ∃ x, xs = [x] ∧ g x = some z := by
  unfold one at h; split at h
  · exact ⟨_, rfl, h⟩
  · cases h
theorem two_some {g : D → D → Option D} {xs : List D} {z : D} (h : two g xs = some z) : ∃ x y, xs = [x, y] ∧ g x y = some z := by
  unfold two at h; split at h
  · exact ⟨_, _, rfl, h⟩
  · cases h
theorem reps1 {K : Frag} {F : Hp} {vs : List V} {x : D} (r : Reps K F vs [x]) : ∃ w, vs = [w] ∧ Rep K F w x := by
  cases r with | cons h r => cases r; exact ⟨_, rfl, h⟩
theorem reps2 {K : Frag} {F : Hp} {vs : List V} {x y : D} (r : Reps K F vs [x, y]) : ∃ w u, vs = [w, u] ∧ Rep K F w x ∧ Rep K F u y := by
  cases r with | cons h r => cases r with | cons h2 r => cases r; exact ⟨_, _, rfl, h, h2⟩
def dLen : D → Option D
  | .str x => if x.length ≤ sizeLine then some (.int x.length) else none
  | .tup xs => some (.int xs.length)
  | .lst xs => some (.int xs.length)
  | .scr xs => some (.int xs.length)
  | .dic xs => some (.int xs.length)
  | _ => none
abbrev rLen0 (K : Frag) : List V → Hp → VK → Prop := fun xs H Q => (∃ x n, xs = [x] ∧ LenV K x H n ∧ Q (.int n) H) ∨ ∃ a kvs, xs = [V.ref a] ∧ H a = some (.dK kvs) ∧ Q (.int kvs.length) H
theorem b_len {X : Cx} : CallR X (.builtin "len") (rLen0 X.K) := call_len.or call_lenD
theorem d_len {K : Frag} : CallD K (rLen0 K) (one dLen) := fun {F H vs xs z} e r h Q q => by
  obtain ⟨x, e0, h0⟩ := one_some h; subst e0; clear h; have h := h0; clear h0
  obtain ⟨w, rfl, rr⟩ := reps1 r
  cases rr with
  | str x =>
    simp only [dLen] at h
    split at h
    · cases h; exact .inl ⟨_, _, rfl, ⟨by assumption, rfl⟩, q _ F H (.refl e) (.int _)⟩
    · cases h
  | tup h1 r1 => cases h; exact .inl ⟨_, _, rfl, .inr ⟨_, ex_t e h1, rfl⟩, by rw [Rep.len r1]; exact q _ F H (.refl e) (.int _)⟩
  | lst h1 r1 => cases h; exact .inl ⟨_, _, rfl, .inl ⟨_, SqL.of (e _ _ h1), rfl⟩, by rw [Rep.len r1]; exact q _ F H (.refl e) (.int _)⟩
  | scr h1 r1 => cases h; exact .inl ⟨_, _, rfl, .inl ⟨_, ex_l e h1, rfl⟩, by rw [Rep.len r1]; exact q _ F H (.refl e) (.int _)⟩
  | dic h1 r1 => cases h; exact .inr ⟨_, _, rfl, e _ _ h1, by rw [RepK.len r1]; exact q _ F H (.refl e) (.int _)⟩
  | _ => cases h
def dAbs : D → Option D
  | .int i => some (.int (if i < 0 then -i else i))
  | _ => none
theorem d_abs {K : Frag} : CallD K (fun xs H Q => ∃ i, xs = [.int i] ∧ Q (.int (if i < 0 then -i else i)) H) (one dAbs) := fun {F H vs xs z} e r h Q q => by
  obtain ⟨x, e0, h0⟩ := one_some h; subst e0; clear h; have h := h0; clear h0
  obtain ⟨w, rfl, rr⟩ := reps1 r
  cases rr <;> (try (cases h; done))
  cases h; exact ⟨_, rfl, q _ F H (.refl e) (.int _)⟩
def dInt : D → Option D
  | .int i => some (.int i)
  | .bl k => some (.int (if k then 1 else 0))
  | .str a => if a.length ≤ 640 then (PySem.intText? a).map .int else none
  | _ => none
abbrev rInt0 : List V → Hp → VK → Prop := fun xs H Q => ((∃ i, xs = [.int i] ∧ Q (.int i) H) ∨ ∃ k, xs = [.bl k] ∧ Q (.int (if k then 1 else 0)) H) ∨ ∃ a n, xs = [.str a] ∧ PySem.intText? a = some n ∧ a.length ≤ 640 ∧ Q (.int n) H
theorem b_int {X : Cx} : CallR X (.type "int") rInt0 := call_int1.or call_int_str
theorem d_int {K : Frag} : CallD K rInt0 (one dInt) := fun {F H vs xs z} e r h Q q => by
  obtain ⟨x, e0, h0⟩ := one_some h; subst e0; clear h; have h := h0; clear h0
  obtain ⟨w, rfl, rr⟩ := reps1 r
  cases rr with
  | int i => cases h; exact .inl (.inl ⟨_, rfl, q _ F H (.refl e) (.int _)⟩)
  | bl b => cases h; exact .inl (.inr ⟨_, rfl, q _ F H (.refl e) (.int _)⟩)
  | str x =>
    simp only [dInt] at h
    split at h
    · simp only [Option.map_eq_some_iff] at h
      obtain ⟨n, hn, rfl⟩ := h
      exact .inr ⟨_, n, rfl, hn, by assumption, q _ F H (.refl e) (.int _)⟩
    · cases h
  | _ => cases h
def dMax2 : D → D → Option D
  | .int i, .int j => some (.int (if j > i then j else i))
  | _, _ => none
theorem d_max2 {K : Frag} : CallD K (fun xs H Q => ∃ i j, xs = [.int i, .int j] ∧ Q (.int (if j > i then j else i)) H) (two dMax2) := fun {F H vs xs z} e r h Q q => by
  obtain ⟨x, y, e0, h0⟩ := two_some h; subst e0; clear h; have h := h0; clear h0
  obtain ⟨w, u, rfl, rr, r2⟩ := reps2 r
  cases rr <;> (try (cases h; done)) <;> cases r2 <;> (try (cases h; done))
  cases h; exact ⟨_, _, rfl, q _ F H (.refl e) (.int _)⟩
def dMin2 : D → D → Option D
  | .int i, .int j => some (.int (if j < i then j else i))
  | _, _ => none
theorem d_min2 {K : Frag} : CallD K (fun xs H Q => ∃ i j, xs = [.int i, .int j] ∧ Q (.int (if j < i then j else i)) H) (two dMin2) := fun {F H vs xs z} e r h Q q => by
  obtain ⟨x, y, e0, h0⟩ := two_some h; subst e0; clear h; have h := h0; clear h0
  obtain ⟨w, u, rfl, rr, r2⟩ := reps2 r
  cases rr <;> (try (cases h; done)) <;> cases r2 <;> (try (cases h; done))
  cases h; exact ⟨_, _, rfl, q _ F H (.refl e) (.int _)⟩
def kD : Key → D
  | .inl i => .int i
  | .inr x => .str x
theorem kV_rep {K : Frag} {F : Hp} (k : Key) : Rep K F (kV k) (kD k) := by cases k; exact .int _; exact .str _
theorem RepK.keys {K : Frag} {F : Hp} : ∀ {vs : List (Key × V)} {ds : List (Key × D)}, RepK K F vs ds → Reps K F (vs.map fun kv => kV kv.1) (ds.map fun kv => kD kv.1)
  | _, _, .nil => .nil
  | _, _, .cons h r => .cons (kV_rep _) (RepK.keys r)
def dList : D → Option D
  | .tup xs => some (.lst xs)
  | .lst xs => some (.lst xs)
  | .scr xs => some (.lst xs)
  | .dic xs => some (.lst (xs.map fun kv => kD kv.1))
  | _ => none
abbrev rList0 (K : Frag) : List V → Hp → VK → Prop := fun xs H Q => (∃ p ys, xs = [.ref p] ∧ (SqL K H p ys ∨ SqT K H p ys) ∧ ∀ l, H l = none → Q (.ref l) (upd H l (.lst ys))) ∨ ∃ (a : Addr) (kvs : List (Key × V)), xs = [.ref a] ∧ Rd H a (.dK kvs) ∧ ∀ p, H p = none → Q (.ref p) (upd H p (.lst (kvs.map fun kv => kV kv.1)))
theorem b_list {X : Cx} (hc : X.calm = true) : CallR X (.type "list") (rList0 X.K) := call_list_of.or (call_listD hc)
theorem d_list {K : Frag} : CallD K (rList0 K) (one dList) := fun {F H vs xs z} e r h Q q => by
  obtain ⟨x, e0, h0⟩ := one_some h; subst e0; clear h; have h := h0; clear h0
  obtain ⟨w, rfl, rr⟩ := reps1 r
  cases rr with
  | tup h1 r1 => cases h; exact .inl ⟨_, _, rfl, .inr (ex_t e h1), fun p hp => q _ _ _ (.new e hp) (.lst upd_same (r1.mono (Ex.new (none_back e hp))))⟩
  | lst h1 r1 => cases h; exact .inl ⟨_, _, rfl, .inl (SqL.of (e _ _ h1)), fun p hp => q _ _ _ (.new e hp) (.lst upd_same (r1.mono (Ex.new (none_back e hp))))⟩
  | scr h1 r1 => cases h; exact .inl ⟨_, _, rfl, .inl (ex_l e h1), fun p hp => q _ _ _ (.new e hp) (.lst upd_same (r1.mono (Ex.new (none_back e hp))))⟩
  | dic h1 r1 => cases h; exact .inr ⟨_, _, rfl, .of (e _ _ h1), fun p hp => q _ _ _ (.new e hp) (.lst upd_same (r1.keys.mono (Ex.new (none_back e hp))))⟩
  | _ => cases h
def dTuple : D → Option D
  | .tup xs => some (.tup xs)
  | .lst xs => some (.tup xs)
  | .scr xs => some (.tup xs)
  | _ => none
theorem d_tuple {K : Frag} : CallD K (fun xs H Q => ∃ p ys, xs = [.ref p] ∧ ((SqL K H p ys ∧ ∀ l, H l = none → Q (.ref l) (upd H l (.tup ys))) ∨ (SqT K H p ys ∧ Q (.ref p) H))) (one dTuple) := fun {F H vs xs z} e r h Q q => by
  obtain ⟨x, e0, h0⟩ := one_some h; subst e0; clear h; have h := h0; clear h0
  obtain ⟨w, rfl, rr⟩ := reps1 r
  cases rr with
  | tup h1 r1 => cases h; exact ⟨_, _, rfl, .inr ⟨ex_t e h1, q _ F H (.refl e) (.tup h1 r1)⟩⟩
  | lst h1 r1 => cases h; exact ⟨_, _, rfl, .inl ⟨SqL.of (e _ _ h1), fun p hp => q _ _ _ (.new e hp) (.tup (SqT.of upd_same) (r1.mono (Ex.new (none_back e hp))))⟩⟩
  | scr h1 r1 => cases h; exact ⟨_, _, rfl, .inl ⟨ex_l e h1, fun p hp => q _ _ _ (.new e hp) (.tup (SqT.of upd_same) (r1.mono (Ex.new (none_back e hp))))⟩⟩
  | _ => cases h
def dints : List D → Option (List Int)
  | [] => some []
  | .int i :: r => (dints r).map fun is => i :: is
  | _ => none
def dbools : List D → Option (List Bool)
  | [] => some []
  | .bl i :: r => (dbools r).map fun is => i :: is
  | _ => none
theorem dints_rep {K : Frag} {F : Hp} : ∀ {ds : List D} {vs : List V} {is : List Int}, Reps K F vs ds → dints ds = some is → vs = is.map V.int
  | _, _, _, .nil, h => by cases h; rfl
  | _, _, _, .cons h1 r, h => by
    cases h1 <;> (try (cases h; done))
    simp only [dints, Option.map_eq_some_iff] at h
    obtain ⟨is, h2, rfl⟩ := h
    rw [dints_rep r h2]; rfl
theorem dbools_rep {K : Frag} {F : Hp} : ∀ {ds : List D} {vs : List V} {is : List Bool}, Reps K F vs ds → dbools ds = some is → vs = is.map V.bl
  | _, _, _, .nil, h => by cases h; rfl
  | _, _, _, .cons h1 r, h => by
    cases h1 <;> (try (cases h; done))
    simp only [dbools, Option.map_eq_some_iff] at h
    obtain ⟨is, h2, rfl⟩ := h
    rw [dbools_rep r h2]; rfl
def dSum : D → Option D
  | .lst xs => (dints xs).map fun is => .int is.sum
  | _ => none
theorem d_sum {K : Frag} : CallD K (rSum K) (one dSum) := fun {F H vs xs z} e r h Q q => by
  obtain ⟨x, e0, h0⟩ := one_some h; subst e0; clear h; have h := h0; clear h0
  obtain ⟨w, rfl, rr⟩ := reps1 r
  cases rr <;> (try (cases h; done))
  case lst a vs ds h1 r1 =>
    simp only [dSum, Option.map_eq_some_iff] at h
    obtain ⟨is, h2, rfl⟩ := h
    cases dints_rep r1 h2
    exact ⟨_, is, rfl, SqL.of (e _ _ h1), q _ F H (.refl e) (.int _)⟩
def dAll : D → Option D
  | .lst xs => (dbools xs).map fun is => .bl (is.all id)
  | _ => none
theorem d_all {K : Frag} : CallD K (rAll K) (one dAll) := fun {F H vs xs z} e r h Q q => by
  obtain ⟨x, e0, h0⟩ := one_some h; subst e0; clear h; have h := h0; clear h0
  obtain ⟨w, rfl, rr⟩ := reps1 r
  cases rr <;> (try (cases h; done))
  case lst a vs ds h1 r1 =>
    simp only [dAll, Option.map_eq_some_iff] at h
    obtain ⟨is, h2, rfl⟩ := h
    cases dbools_rep r1 h2
    exact ⟨_, is, rfl, SqL.of (e _ _ h1), q _ F H (.refl e) (.bl _)⟩
def dAny : D → Option D
  | .lst xs => (dbools xs).map fun is => .bl (is.any id)
  | _ => none
theorem d_any {K : Frag} : CallD K (rAny K) (one dAny) := fun {F H vs xs z} e r h Q q => by
  obtain ⟨x, e0, h0⟩ := one_some h; subst e0; clear h; have h := h0; clear h0
  obtain ⟨w, rfl, rr⟩ := reps1 r
  cases rr <;> (try (cases h; done))
  case lst a vs ds h1 r1 =>
    simp only [dAny, Option.map_eq_some_iff] at h
    obtain ⟨is, h2, rfl⟩ := h
    cases dbools_rep r1 h2
    exact ⟨_, is, rfl, SqL.of (e _ _ h1), q _ F H (.refl e) (.bl _)⟩
end PD
end
section
namespace PD
open PySem L2
/-! ### from statements' expressions to pure ones -/
theorem RP.rs {K : Frag} {F H : Hp} {σ : L2.St} {δ : Env} (r : RP K F σ H δ) : RS K [] Pm.no F H F σ H δ where
  ff := Ex.refl _
  fh := r.ex
  hh := fun _ _ _ h => h
  dm := fun _ h => h
  nw := fun _ h => .inl h
  ln := r.ln
  par := fun _ h => h.elim
  val := fun i d _ h => r.val i d h
  own := ⟨fun _ => [], fun i d hi _ => absurd hi (by simp), fun i a h => absurd h (by simp), fun i j a _ h => absurd h (by simp)⟩
theorem RS.gr {K : Frag} {own : List Nat} {F0 H0 F : Hp} {σ : L2.St} {H : Hp} {δ : Env} (r : RS K own Pm.no F0 H0 F σ H δ) : Grow F0 H0 F H := ⟨r.ff, r.fh, fun a o h => r.hh a o (fun h => h.elim) h, r.nw⟩
def pur {α : Type} (f : Env → RE α) : Env → Rs α := fun δ => match f δ with
  | none => none
  | some (.ok (a, _)) => some (.ok a)
  | some (.error (x, _)) => some (.error x)
theorem j_of {α β : Type} {X : Cx} {w : L2.St → Hp → (β → Hp → Prop) → Prop} {rel : Hp → β → α → Prop} {f : Env → RE α} (h : JS0 X [] w rel f) : J X w rel (pur f) := ⟨fun {σ F H δ W Q o} rp tk hg hP => by
  unfold pur at hg
  cases e : f δ with
  | none => rw [e] at hg; cases hg
  | some y =>
    rw [e] at hg
    rcases y with ⟨x, δ1⟩ | ⟨d, δ1⟩
    · cases hg; exact h.run rp.rs tk e fun c dd F' H' r1 e1 rx => hP c dd F' H' r1.gr rx
    · cases hg; exact h.run rp.rs tk e fun v F' H' r1 e1 rx => hP v F' H' r1.gr rx⟩
/-! ### what is walked, targets -/
def WI (X : Cx) (tg iter : Expr) (σ : L2.St) (H : Hp) (R : It → Hp → Prop) : Prop := ∀ pins s, Inv X pins σ H s → wpAny (model X.prog X.w) X.A (eval iter X.env) (fun v s1 => wpAny (model X.prog X.w) X.A (pyIter v) (PIE X pins σ tg R) X.xe s1) X.xe s
theorem pi_wi {X : Cx} {tg iter : Expr} : PI X tg iter (WI X tg iter) := ⟨fun pins s _ _ _ I h => h pins s I⟩
theorem wi_of {X : Cx} {tg iter : Expr} {t : TI} {σ : L2.St} {H : Hp} {R : It → Hp → Prop} (h : PI X tg iter t) (q : t σ H R) : WI X tg iter σ H R := fun pins s I => h.run pins s σ H R I q
def WG (X : Cx) (tg : Expr) (v : V) (σ : L2.St) (H : Hp) (Q : L2.St → Hp → Prop) : Prop := ∀ pins s u, Inv X pins σ H s → RelV v u → wpAny (model X.prog X.w) X.A (assign tg X.env u) (fun _ s' => ∃ σ' H', Inv X pins σ' H' s' ∧ Q σ' H') X.xe s
theorem pg_wg {X : Cx} {tg : Expr} : PG X tg (WG X tg) := ⟨fun pins s _ _ v u _ I r h => h pins s u I r⟩
theorem wg_of {X : Cx} {tg : Expr} {t : TG} {v : V} {σ : L2.St} {H : Hp} {Q : L2.St → Hp → Prop} (h : PG X tg t) (q : t v σ H Q) : WG X tg v σ H Q := fun pins s u I r => h.run pins s σ H v u Q I r q
structure Src (K : Frag) (F : Hp) (ds : List D) (J : It) : Prop where
  go : ∀ {F1 H1 : Hp}, Ex F F1 → Ex F1 H1 → ∀ {i : Nat} {d : D}, ds[i]? = some d → J.go i H1 ∧ ∀ x H', J.yld i H1 x H' → ∃ F', Grow F1 H1 F' H' ∧ Rep K F' x d
  stop : ∀ {F1 H1 : Hp}, Ex F F1 → Ex F1 H1 → ∀ {i : Nat}, ds.length ≤ i → J.stop i H1
structure JI (X : Cx) (own : List Nat) (tg iter : Expr) (f : Env → RE (List D)) : Prop where
  run : ∀ {P F0 H0 σ F H δ W o} {R : It → Hp → Prop}, RSf X ⟨own, P, F0, H0⟩ F σ H δ → Takes X W → f δ = some o → (match o with
    | .ok (ds, δ') => ∀ J F' H', RSf X ⟨own, P, F0, H0⟩ F' σ H' δ' → Ex F F' → Src X.K F' ds J → R J H'
    | .error (x, δ') => ∀ cls dd F' H', RSf X ⟨own, P, F0, H0⟩ F' σ H' δ' → Ex F F' → RepX X.K F' cls dd x → W cls dd σ H') → WI X tg iter σ H R
theorem wipe_get {σ : L2.St} {j : Nat} : ∀ {vs : List Nat}, (wipe σ vs)[j]? = if j ∈ vs then σ[j]?.map (fun _ => none) else σ[j]?
  | [] => by simp [wipe]
  | v :: vs => by
    show ((wipe σ vs).set v none)[j]? = _
    by_cases h : v = j
    · subst h
      rw [List.getElem?_set]
      simp only [List.mem_cons, true_or, if_true]
      by_cases hl : v < σ.length
      · rw [if_pos (by rw [wipe_length]; exact hl), List.getElem?_eq_getElem hl]; rfl
      · rw [if_neg (by rw [wipe_length]; exact hl), List.getElem?_eq_none (by omega)]; rfl
    · rw [List.getElem?_set_ne h, wipe_get]
      have e : (j ∈ v :: vs) ↔ j ∈ vs := by simp; exact fun e => absurd e.symm h
      by_cases hv : j ∈ vs
      · rw [if_pos hv, if_pos (e.2 hv)]
      · rw [if_neg hv, if_neg (fun h => hv (e.1 h))]
theorem wipe_set {σ : L2.St} {i : Nat} {x : Option V} {vs : List Nat} (h : i ∈ vs) : wipe (σ.set i x) vs = wipe σ vs := by
  apply List.ext_getElem?
  intro j
  rw [wipe_get, wipe_get]
  by_cases hj : i = j
  · subst hj
    rw [if_pos h, if_pos h, List.getElem?_set]
    by_cases hl : i < σ.length
    · simp [hl]
    · simp [hl]
  · rw [List.getElem?_set_ne hj]
structure JG (X : Cx) (own : List Nat) (tg : Expr) (is : List Nat) (h : D → Env → Option Env) : Prop where
  run : ∀ {P F0 H0 σ F H δ d v δ'} {Q : L2.St → Hp → Prop}, RSf X ⟨own, P, F0, H0⟩ F σ H δ → Rep X.K F v d → h d δ = some δ' → (∀ σ' F' H', RSf X ⟨own, P, F0, H0⟩ F' σ' H' δ' → Ex F F' → (∀ vs : List Nat, (∀ i, i ∈ is → i ∈ vs) → wipe σ' vs = wipe σ vs) → Q σ' H') → WG X tg v σ H Q
def gn (i : Nat) : D → Env → Option Env := fun d δ => some (δ.set i (some d))
theorem jg_n {X : Cx} {own : List Nat} {x : Str} {pos : Pos} (i : Nat) (hN : X.N.Nodup) (hi : X.N[i]? = some x := by rfl) (hx : Loc X.env.scope x := by first | exact Or.inl rfl | exact Or.inr rfl) (ho : i ∉ own := by decide)
    (hf : X.fn x = true ∨ X.env.scope.names.lookup x = some .local := by first | exact .inl rfl | exact .inr rfl | assumption) : JG X own (.Name x pos) [i] (gn i) :=
  ⟨fun r rv h q => by cases h; exact wg_of (pg_name hN hi hx hf) (q _ _ _ (r.set ho rv) (Ex.refl _) fun vs hv => wipe_set (hv i (List.mem_singleton.2 rfl)))⟩
def WGs (X : Cx) (tgs : List Expr) (vs : List V) (σ : L2.St) (H : Hp) (Q : L2.St → Hp → Prop) : Prop := ∀ pins s us, Inv X pins σ H s → Vals vs us → wpAny (model X.prog X.w) X.A (assignInOrder ((assignEach tgs X.env).map (·.2)) us) (fun _ s' => ∃ σ' H', Inv X pins σ' H' s' ∧ Q σ' H') X.xe s
theorem pgs_wgs {X : Cx} {tgs : List Expr} : PGs X tgs (WGs X tgs) := ⟨fun pins s _ _ vs us _ I r h => h pins s us I r⟩
theorem wgs_of {X : Cx} {tgs : List Expr} {t : TGs} {vs : List V} {σ : L2.St} {H : Hp} {Q : L2.St → Hp → Prop} (h : PGs X tgs t) (q : t vs σ H Q) : WGs X tgs vs σ H Q := fun pins s us I r => h.run pins s σ H vs us Q I r q
/-- several targets -/
structure JGs (X : Cx) (own : List Nat) (tgs : List Expr) (is : List Nat) (h : List D → Env → Option Env) : Prop where
  run : ∀ {P F0 H0 σ F H δ ds vs δ'} {Q : L2.St → Hp → Prop}, RSf X ⟨own, P, F0, H0⟩ F σ H δ → Reps X.K F vs ds → h ds δ = some δ' → (∀ σ' F' H', RSf X ⟨own, P, F0, H0⟩ F' σ' H' δ' → Ex F F' → (∀ vs : List Nat, (∀ i, i ∈ is → i ∈ vs) → wipe σ' vs = wipe σ vs) → Q σ' H') → WGs X tgs vs σ H Q
def gsnil : List D → Env → Option Env
  | [], δ => some δ
  | _, _ => none
def gscons (h : D → Env → Option Env) (r : List D → Env → Option Env) : List D → Env → Option Env
  | d :: ds, δ => (h d δ).bind fun δ' => r ds δ'
  | _, _ => none
theorem jgs_nil {X : Cx} {own : List Nat} : JGs X own [] [] gsnil := ⟨fun {P F0 H0 σ F H δ ds vs δ' Q} r rv h q => by
  cases rv with
  | nil => cases h; exact wgs_of pgs_nil ⟨rfl, q _ _ _ r (Ex.refl _) fun _ _ => rfl⟩
  | cons _ _ => cases h⟩
theorem jgs_cons {X : Cx} {own : List Nat} {e : Expr} {es : List Expr} {is js : List Nat} {h : D → Env → Option Env} {k : List D → Env → Option Env} (h1 : JG X own e is h) (h2 : JGs X own es js k) (hs : (assignEach (e :: es) X.env).map (·.2) = assign e X.env :: (assignEach es X.env).map (·.2) := by rfl) : JGs X own (e :: es) (is ++ js) (gscons h k) := ⟨fun {P F0 H0 σ F H δ ds vs δ' Q} r rv hh q => by
  cases rv with
  | nil => cases hh
  | cons ra rb =>
    simp only [gscons, Option.bind_eq_some_iff] at hh
    obtain ⟨δ1, e1, e2⟩ := hh
    exact wgs_of (pgs_cons pg_wg pgs_wgs hs) ⟨_, _, rfl, h1.run r ra e1 fun σ1 F1 H1 r1 x1 w1 => h2.run r1 (rb.mono x1) e2 fun σ2 F2 H2 r2 x2 w2 => q σ2 F2 H2 r2 (x1.trans x2) fun vs hv => (w2 vs fun i hi => hv i (List.mem_append_right _ hi)).trans (w1 vs fun i hi => hv i (List.mem_append_left _ hi))⟩⟩
def gt (h : List D → Env → Option Env) : D → Env → Option Env
  | .tup ds, δ => h ds δ
  | _, _ => none
theorem jg_t {X : Cx} {own : List Nat} {es : List Expr} {k n : Nat} {pos : Pos} {is : List Nat} {h : List D → Env → Option Env} (hc : X.calm = true) (hk : JGs X own es is h) (hl : ∀ ds δ δ', h ds δ = some δ' → ds.length = n) (hn : (assignEach es X.env).length = n := by rfl) (hst : (assignEach es X.env).findIdx? (·.1) = none := by rfl) : JG X own (.Tuple es k pos) is (gt h) := ⟨fun {P F0 H0 σ F H δ d v δ' Q} r rv hh q => by
  cases rv <;> (try (cases hh; done))
  case tup a vs ds h1 r1 =>
    exact wg_of (pg_tup hc pgs_wgs hn hst) ⟨a, vs, rfl, ex_t r.fh h1, (Rep.len r1).trans (hl _ _ _ hh), hk.run r r1 hh q⟩⟩
theorem gl_nil : ∀ (ds : List D) (δ δ' : Env), gsnil ds δ = some δ' → ds.length = 0
  | [], _, _, _ => rfl
  | _ :: _, _, _, h => by cases h
theorem gl_cons {n : Nat} {h : D → Env → Option Env} {r : List D → Env → Option Env} (hr : ∀ (ds : List D) (δ δ' : Env), r ds δ = some δ' → ds.length = n) : ∀ (ds : List D) (δ δ' : Env), gscons h r ds δ = some δ' → ds.length = n + 1
  | [], _, _, h => by cases h
  | d :: ds, δ, δ', hh => by
    simp only [gscons, Option.bind_eq_some_iff] at hh
    obtain ⟨δ1, e1, e2⟩ := hh
    rw [List.length_cons, hr _ _ _ e2]
/-! lists, tuples -/
theorem src_list {K : Frag} {F : Hp} {a : Addr} {vs : List V} {ds : List D} (h : SqL K F a vs) (r : Reps K F vs ds) : Src K F ds (Itl K a) where
  go := fun {F1 H1} e1 e2 {i d} hd => by
    obtain ⟨w, hw, rw'⟩ := r.get hd
    refine ⟨⟨vs, w, ex_l (e1.trans e2) h, hw⟩, fun x H' ⟨e, hx⟩ => ?_⟩
    subst e
    have := hx vs (ex_l (e1.trans e2) h)
    rw [hw] at this; cases this
    exact ⟨F1, .refl e2, rw'.mono e1⟩
  stop := fun {F1 H1} e1 e2 {i} hi => ⟨vs, ex_l (e1.trans e2) h, by rw [Rep.len r]; exact hi⟩
theorem src_tup {K : Frag} {F : Hp} {a : Addr} {vs : List V} {ds : List D} (h : SqT K F a vs) (r : Reps K F vs ds) : Src K F ds (Itt K a) where
  go := fun {F1 H1} e1 e2 {i d} hd => by
    obtain ⟨w, hw, rw'⟩ := r.get hd
    refine ⟨⟨vs, w, ex_t (e1.trans e2) h, hw⟩, fun x H' ⟨e, hx⟩ => ?_⟩
    subst e
    have := hx vs (ex_t (e1.trans e2) h)
    rw [hw] at this; cases this
    exact ⟨F1, .refl e2, rw'.mono e1⟩
  stop := fun {F1 H1} e1 e2 {i} hi => ⟨vs, ex_t (e1.trans e2) h, by rw [Rep.len r]; exact hi⟩
def items : D → Option (List D)
  | .lst xs => some xs
  | .scr xs => some xs
  | .tup xs => some xs
  | _ => none
def iseq (f : Env → RE D) : Env → RE (List D) := fun δ => bindE (f δ) fun d δ' => (items d).map fun xs => .ok (xs, δ')
theorem ji_seq {X : Cx} {own : List Nat} {tg e : Expr} {f : Env → RE D} (h : JE X own e f) : JI X own tg e (iseq f) := ⟨fun {P F0 H0 σ F H δ W o R} r tk hg hP => by
  unfold iseq at hg
  cases e0 : f δ with
  | none => rw [e0] at hg; cases hg
  | some y =>
    rw [e0] at hg
    rcases y with ⟨x, δ1⟩ | ⟨d, δ1⟩
    · cases hg; exact wi_of (pi_list pe_we) (h.run r tk e0 hP)
    · simp only [bindE, Option.map_eq_some_iff] at hg
      obtain ⟨xs, hx, rfl⟩ := hg
      cases d <;> (try (cases hx; done))
      case tup => cases hx; exact wi_of (pi_tup pe_we) (h.run r tk e0 fun v F1 H1 r1 e1 rx => by cases rx with | tup h1 r2 => exact ⟨_, rfl, ⟨_, ex_t r1.fh h1⟩, hP _ F1 H1 r1 e1 (src_tup h1 r2)⟩)
      case lst => cases hx; exact wi_of (pi_list pe_we) (h.run r tk e0 fun v F1 H1 r1 e1 rx => by cases rx with | lst h1 r2 => exact ⟨_, rfl, ⟨_, SqL.of (r1.fh _ _ h1)⟩, hP _ F1 H1 r1 e1 (src_list (SqL.of h1) r2)⟩)
      case scr => cases hx; exact wi_of (pi_list pe_we) (h.run r tk e0 fun v F1 H1 r1 e1 rx => by cases rx with | scr h1 r2 => exact ⟨_, rfl, ⟨_, ex_l r1.fh h1⟩, hP _ F1 H1 r1 e1 (src_list h1 r2)⟩)⟩
def rng (lo hi : Int) : List D := (List.range (hi - lo).toNat).map fun i => .int (lo + (i : Nat))
theorem src_rng {K : Frag} {F : Hp} {lo hi : Int} : Src K F (rng lo hi) (Itr lo (hi - lo).toNat) where
  go := fun {F1 H1} e1 e2 {i d} hd => by
    unfold rng at hd
    rw [List.getElem?_map, Option.map_eq_some_iff] at hd
    obtain ⟨j, hj, rfl⟩ := hd
    have := List.getElem?_eq_some_iff.1 hj
    obtain ⟨h1, h2⟩ := this
    rw [List.length_range] at h1
    rw [List.getElem_range] at h2
    subst h2
    exact ⟨h1, fun x H' ⟨e, hx⟩ => by subst e; subst hx; exact ⟨F1, .refl e2, .int _⟩⟩
  stop := fun {F1 H1} e1 e2 {i} hi => by unfold rng at hi; rw [List.length_map, List.length_range] at hi; exact hi
def irng1 (f : Env → RE D) : Env → RE (List D) := fun δ => bindE (f δ) fun d δ' => match d with
  | .int n => if -(2 ^ 62) ≤ n ∧ n < 2 ^ 62 then some (.ok (rng 0 n, δ')) else none
  | _ => none
theorem ji_rng1 {X : Cx} {own : List Nat} {tg e : Expr} {p pos : Pos} {f : Env → RE D} (hm : X.mg "range" = none) (h : JE X own e f) (hg : Gl X "range" := by rfl) (hs : starEach [e] X.env = [(false, eval e X.env)] := by rfl) : JI X own tg (.Call (.Name "range" p) [e] [] pos) (irng1 f) := ⟨fun {P F0 H0 σ F H δ W o R} r tk hg' hP => by
  refine wi_of (pi_range1 hg hm (pa_cons pe_we pa_nil hs) hs) ?_
  unfold irng1 at hg'
  cases e0 : f δ with
  | none => rw [e0] at hg'; cases hg'
  | some y =>
    rw [e0] at hg'
    rcases y with ⟨x, δ1⟩ | ⟨d, δ1⟩
    · cases hg'; exact h.run r tk e0 hP
    · simp only [bindE] at hg'
      cases d <;> (try (cases hg'; done))
      case int n =>
        by_cases hc : -(2 ^ 62) ≤ n ∧ n < 2 ^ 62
        · dsimp only at hg'; rw [if_pos hc] at hg'
          cases hg'
          refine h.run r tk e0 fun v F1 H1 r1 e1 rx => ?_
          cases rx
          refine ⟨n, rfl, hc.1, hc.2, ?_⟩
          have := hP (Itr 0 (n - 0).toNat) F1 H1 r1 e1 src_rng
          rw [Int.sub_zero] at this
          exact this
        · dsimp only at hg'; rw [if_neg hc] at hg'; cases hg'⟩
/-! ### while, for -/
def swhile (t : Env → RE Bool) (b : Env → RO) : Nat → Env → RO
  | 0, _ => none
  | n + 1, δ => bindE (t δ) fun k δ1 => if k = true then (match b δ1 with
    | some (.ok (.nx, δ2)) => swhile t b n δ2
    | some (.ok (.ct, δ2)) => swhile t b n δ2
    | some (.ok (.bk, δ2)) => some (.ok (.nx, δ2))
    | x => x) else some (.ok (.nx, δ1))
theorem js_while {X : Cx} {own : List Nat} {q : Expr} {body : List Stmt} {pos : Pos} {t : Env → RE Bool} {b : Env → RO} (n : Nat) (hp : PassesOwn (model X.prog X.w) X.A X.env X.xe) (hq : JTE X own q t) (hb : JSs X own body b) : JS X own (.While q body [] pos) (swhile t b n) := ⟨fun {P F0 H0 σ F H δ W o D} _ r tk hg hP => by
  refine ws_of (ps_while hp pt_wt pss_wss) ?_
  refine ⟨fun m σ' H' => ∃ F' δ', RSf X ⟨own, P, F0, H0⟩ F' σ' H' δ' ∧ Ex F F' ∧ swhile t b m δ' = some o, ⟨n, F, δ, r, Ex.refl _, hg⟩, ?_⟩
  rintro m σ1 H1 ⟨F1, δ1, r1, e1, h1⟩
  cases m with
  | zero => cases h1
  | succ m =>
    refine se_bind hq r1 tk h1 (hP.later e1) fun k v δ2 F2 H2 h2 e2 rx r2 P2 => ?_
    cases rx
    cases k with
    | false => rw [if_neg Bool.false_ne_true] at *; cases h2; exact P2 _ F2 H2 r2 (Ex.refl _)
    | true =>
      rw [if_pos rfl] at h2 ⊢
      refine ⟨fun σ' H' => ∃ F' δ', RSf X ⟨own, P, F0, H0⟩ F' σ' H' δ' ∧ Ex F F' ∧ swhile t b m δ' = some o, fun σ' H' h => ⟨m, Nat.lt_succ_self m, h⟩, ?_⟩
      cases e3 : b δ2 with
      | none => rw [e3] at h2; cases h2
      | some y =>
        rw [e3] at h2
        rcases y with ⟨x, δ3⟩ | ⟨o1, δ3⟩
        · cases h2; exact hb.run r2 tk e3 P2
        · cases o1 with
          | nx => exact hb.run r2 tk e3 fun σ' F' H' r3 x3 => ⟨F', δ3, r3, (e1.trans e2).trans x3, h2⟩
          | ct => exact hb.run r2 tk e3 fun σ' F' H' r3 x3 => ⟨F', δ3, r3, (e1.trans e2).trans x3, h2⟩
          | bk => cases h2; exact hb.run r2 tk e3 P2
          | rt d => cases h2; exact hb.run r2 tk e3 P2⟩
def sfor (g : D → Env → Option Env) (b : Env → RO) : List D → Env → RO
  | [], δ => some (.ok (.nx, δ))
  | d :: ds, δ => match g d δ with
    | none => none
    | some δ1 => match b δ1 with
      | some (.ok (.nx, δ2)) => sfor g b ds δ2
      | some (.ok (.ct, δ2)) => sfor g b ds δ2
      | some (.ok (.bk, δ2)) => some (.ok (.nx, δ2))
      | x => x
def sforI (f : Env → RE (List D)) (g : D → Env → Option Env) (b : Env → RO) : Env → RO := fun δ => bindE (f δ) fun ds δ' => sfor g b ds δ'
theorem js_for {X : Cx} {own : List Nat} {tg iter : Expr} {body : List Stmt} {pos : Pos} {f : Env → RE (List D)} {g : D → Env → Option Env} {is : List Nat} {b : Env → RO} (hp : PassesOwn (model X.prog X.w) X.A X.env X.xe) (hc : X.calm = true) (hi : JI X own tg iter f) (hg : JG X own tg is g) (hb : JSs X own body b)
    (hs : ∀ x, foldedSetIterable iter X.env x = pure x := by intro _; rfl) : JS X own (.For tg iter body [] pos) (sforI f g b) := ⟨fun {P F0 H0 σ F H δ W o D} _ r tk hh hP => by
  refine ws_of (ps_for hp hc pi_wi pg_wg pss_wss hs) ?_
  unfold sforI at hh
  cases e0 : f δ with
  | none => rw [e0] at hh; cases hh
  | some y =>
    rw [e0] at hh
    rcases y with ⟨x, δ1⟩ | ⟨ds, δ1⟩
    · cases hh; exact hi.run r tk e0 fun c dd F' H' r1 e1 rx => hP c dd σ F' H' r1 e1 rx
    · simp only [bindE] at hh
      refine hi.run r tk e0 fun J F1 H1 r1 e1 src => ?_
      refine ⟨fun i m σ' H' => ∃ F' δ', RSf X ⟨own, P, F0, H0⟩ F' σ' H' δ' ∧ Ex F1 F' ∧ i + m = ds.length ∧ sfor g b (ds.drop i) δ' = some o, ⟨ds.length, F1, δ1, r1, Ex.refl _, Nat.zero_add _, hh⟩, ?_⟩
      rintro i m σ2 H2 ⟨F2, δ2, r2, e2, hm, h2⟩
      cases hd : ds[i]? with
      | none =>
        have hl : ds.length ≤ i := List.getElem?_eq_none_iff.1 hd
        rw [List.drop_of_length_le hl] at h2
        cases h2
        exact .inl ⟨src.stop e2 r2.fh hl, hP σ2 F2 H2 r2 (e1.trans e2)⟩
      | some d =>
        have hl : i < ds.length := (List.getElem?_eq_some_iff.1 hd).1
        have hd' : ds[i] = d := (List.getElem?_eq_some_iff.1 hd).2
        rw [List.drop_eq_getElem_cons hl, hd'] at h2
        obtain ⟨g1, g2⟩ := src.go e2 r2.fh hd
        refine .inr ⟨g1, fun σ' H' => ∃ F' δ', RSf X ⟨own, P, F0, H0⟩ F' σ' H' δ' ∧ Ex F1 F' ∧ (i + 1) + (m - 1) = ds.length ∧ sfor g b (ds.drop (i + 1)) δ' = some o, fun σ' H' h => ⟨m - 1, by omega, h⟩, fun x H' hy => ?_⟩
        obtain ⟨F3, g3, rx⟩ := g2 x H' hy
        simp only [sfor] at h2
        cases e4 : g d δ2 with
        | none => rw [e4] at h2; cases h2
        | some δ4 =>
          rw [e4] at h2
          simp only [] at h2
          refine hg.run (r2.grow g3) rx e4 fun σ4 F4 H4 r4 x4 _ => ?_
          have ex4 : Ex F1 F4 := (e2.trans g3.ff).trans x4
          have P4 := hP.later (e1.trans ex4)
          cases e5 : b δ4 with
          | none => rw [e5] at h2; cases h2
          | some z =>
            rw [e5] at h2
            rcases z with ⟨x, δ5⟩ | ⟨o1, δ5⟩
            · cases h2; exact hb.run r4 tk e5 P4
            · cases o1 with
              | nx => exact hb.run r4 tk e5 fun σ' F' H' r3 x3 => ⟨F', δ5, r3, ex4.trans x3, by omega, h2⟩
              | ct => exact hb.run r4 tk e5 fun σ' F' H' r3 x3 => ⟨F', δ5, r3, ex4.trans x3, by omega, h2⟩
              | bk => cases h2; exact hb.run r4 tk e5 P4
              | rt d => cases h2; exact hb.run r4 tk e5 P4⟩
end PD
end
section
namespace PD
open PySem L2
/-! ### own containers read by a pure expression -/
mutual
def flat : D → Bool
  | .non => true
  | .bl _ => true
  | .int _ => true
  | .str _ => true
  | .tup xs => flats xs
  | _ => false
def flats : List D → Bool
  | [] => true
  | x :: xs => flat x && flats xs
end
def notTup : Option HO → Bool
  | some (.tup _) => false
  | some (.frz _ (.tup _)) => false
  | _ => true
open Classical in
/-- F without some cells -/
noncomputable def less (F : Hp) (A : Addr → Prop) : Hp := fun a => if A a then none else F a
mutual
theorem unfz {K : Frag} {F : Hp} {A : Addr → Prop} (h : ∀ a, A a → notTup (F a) = true) : ∀ {v : V} {d : D}, Rep K F v d → flat d = true → Rep K (less F A) v d
  | _, _, .non, _ => .non
  | _, _, .bl b, _ => .bl b
  | _, _, .int i, _ => .int i
  | _, _, .str x, _ => .str x
  | _, _, .tup (a := a) (ds := ds) h1 r, hf => by
    rw [flat] at hf
    refine .tup ?_ (unfzs h r hf)
    rcases h1 with h1 | h1
    · refine .inl ?_
      have na : ¬ A a := fun ha => by
        have := h a ha
        rcases h1 with h1 | ⟨o, h1⟩ <;> rw [h1] at this <;> cases this
      rcases h1 with h1 | ⟨o, h1⟩
      · exact .inl (by unfold less; rw [if_neg na]; exact h1)
      · exact .inr ⟨o, by unfold less; rw [if_neg na]; exact h1⟩
    · exact .inr h1
  | _, _, .lst _ _, hf => by simp [flat] at hf
  | _, _, .scr _ _, hf => by simp [flat] at hf
  | _, _, .dic _ _, hf => by simp [flat] at hf
  | _, _, .obj _ _ _, hf => by simp [flat] at hf
  | _, _, .ins _ _, hf => by simp [flat] at hf
theorem unfzs {K : Frag} {F : Hp} {A : Addr → Prop} (h : ∀ a, A a → notTup (F a) = true) : ∀ {v : List V} {d : List D}, Reps K F v d → flats d = true → Reps K (less F A) v d
  | _, _, .nil, _ => .nil
  | _, _, .cons h1 r, hf => by
    rw [flats, Bool.and_eq_true] at hf
    exact .cons (unfz h h1 hf.1) (unfzs h r hf.2)
end
theorem unfzK {K : Frag} {F : Hp} {A : Addr → Prop} (h : ∀ a, A a → notTup (F a) = true) : ∀ {v : List (Key × V)} {d : List (Key × D)}, RepK K F v d → flats (d.map (·.2)) = true → RepK K (less F A) v d
  | _, _, .nil, _ => .nil
  | _, _, .cons h1 r, hf => by
    rw [List.map_cons, flats, Bool.and_eq_true] at hf
    exact .cons (unfz h h1 hf.1) (unfzK h r hf.2)
open Classical in
/-- all own containers held fast -/
theorem RS.frz {K : Frag} {own : List Nat} {P : Pm} {F0 H0 F : Hp} {σ : L2.St} {H : Hp} {δ : Env} (r : RS K own P F0 H0 F σ H δ) :
    ∃ A : Addr → Prop, (∀ a, A a → F a = none ∧ H a ≠ none) ∧ ∃ F1, Ex F F1 ∧ RP K F1 σ H δ ∧ (∀ a, A a → notTup (F1 a) = true ∧ F1 a ≠ none) ∧ ∀ a, ¬ A a → F1 a = F a := by
  obtain ⟨fp, h1, h2, h3⟩ := r.own
  refine ⟨fun a => ∃ i d, i ∈ own ∧ δ[i]? = some (some d) ∧ a ∈ fp i, fun a ⟨i, d, hi, hd, ha⟩ => ⟨(h2 i a ha).1, (h2 i a ha).2.1⟩, fun a => if (∃ i d, i ∈ own ∧ δ[i]? = some (some d) ∧ a ∈ fp i) then H a else F a, ?_, ?_, ?_, ?_⟩
  · intro a o e
    show (if _ then _ else _) = _
    split
    · exact r.fh a o e
    · exact e
  · have ef : Ex F (fun a => if (∃ i d, i ∈ own ∧ δ[i]? = some (some d) ∧ a ∈ fp i) then H a else F a) := by
      intro a o e
      show (if _ then _ else _) = _
      split
      · exact r.fh a o e
      · exact e
    refine ⟨fun a o e => ?_, r.ln, fun i d hd => ?_⟩
    · have e' : (if (∃ i d, i ∈ own ∧ δ[i]? = some (some d) ∧ a ∈ fp i) then H a else F a) = some o := e
      split at e'
      · exact e'
      · exact r.fh a o e'
    · by_cases hi : i ∈ own
      · obtain ⟨v, hv, o⟩ := h1 i d hi hd
        refine ⟨v, hv, ?_⟩
        cases hfp : fp i with
        | nil => rw [hfp] at o; cases o
        | cons p ps =>
          rw [hfp] at o
          have hp : (if (∃ i d, i ∈ own ∧ δ[i]? = some (some d) ∧ p ∈ fp i) then H p else F p) = H p := if_pos ⟨i, d, hi, hd, by rw [hfp]; exact List.mem_cons_self⟩
          cases o with
          | lst h r2 => exact .lst (by show (if _ then _ else _) = _; rw [hp]; exact h) (r2.mono ef)
          | dic h r2 => exact .dic (by show (if _ then _ else _) = _; rw [hp]; exact h) (r2.mono ef)
      · obtain ⟨v, hv, rv⟩ := r.val i d hi hd
        exact ⟨v, hv, rv.mono ef⟩
  · rintro a ⟨i, d, hi, hd, ha⟩
    show notTup (if _ then _ else _) = true ∧ (if _ then _ else _) ≠ none
    rw [if_pos ⟨i, d, hi, hd, ha⟩]
    obtain ⟨v, hv, o⟩ := h1 i d hi hd
    cases hfp : fp i with
    | nil => rw [hfp] at o; cases o
    | cons p ps =>
      rw [hfp] at o ha
      cases o with
      | lst h r2 => cases List.mem_singleton.1 ha; rw [h]; exact ⟨rfl, by simp⟩
      | dic h r2 => cases List.mem_singleton.1 ha; rw [h]; exact ⟨rfl, by simp⟩
  · intro a ha
    show (if _ then _ else _) = _
    rw [if_neg ha]
theorem less_grow {F F1 H F2 H2 : Hp} {A : Addr → Prop} (hA : ∀ a, A a → F a = none ∧ H a ≠ none) (e : Ex F F1) (hn : ∀ a, A a → F1 a ≠ none) (hs : ∀ a, ¬ A a → F1 a = F a) (g : Grow F1 H F2 H2) : Grow F H (less F2 A) H2 where
  ff := fun a o h => by
    have na : ¬ A a := fun ha => by rw [(hA a ha).1] at h; cases h
    unfold less; rw [if_neg na]; exact g.ff a o (e a o h)
  fh := fun a o h => by
    unfold less at h
    split at h
    · cases h
    · exact g.fh a o h
  hh := g.hh
  nw := fun a h => by
    unfold less at h
    split at h
    · exact absurd rfl h
    · rename_i na
      rcases g.nw a h with h1 | h1
      · rw [hs a na] at h1; exact .inl h1
      · exact .inr h1
/-- own containers read, the result flat -/
def lfo (g : Env → Rs D) : Env → RE D := fun δ => match g δ with
  | some (.ok d) => if flat d = true then some (.ok (d, δ)) else none
  | _ => none
def lfT (g : Env → Rs Bool) : Env → RE Bool := fun δ => match g δ with
  | some (.ok d) => some (.ok (d, δ))
  | _ => none
theorem je_o {X : Cx} {own : List Nat} {e : Expr} {g : Env → Rs D} (h : JP X e g) : JE X own e (lfo g) := ⟨fun {P F0 H0 σ F H δ W Q o} r tk hg hP => by
  unfold lfo at hg
  cases e0 : g δ with
  | none => rw [e0] at hg; cases hg
  | some y => cases y with
    | error x => rw [e0] at hg; cases hg
    | ok d =>
      rw [e0] at hg
      dsimp only at hg
      split at hg
      · rename_i hf
        cases hg
        obtain ⟨A, hA, F1, ef, rp, hn, hs⟩ := r.frz
        refine h.run rp tk e0 fun v F2 H2 g2 rv => ?_
        have g3 := less_grow hA ef (fun a ha => (hn a ha).2) hs g2
        exact hP v _ H2 (r.grow g3) g3.ff (unfz (fun a ha => by
          have h1 := (hn a ha).2
          have h2 := (hn a ha).1
          cases e1 : F1 a with
          | none => exact absurd e1 h1
          | some o => rw [e1] at h2; rw [g2.ff a o e1]; exact h2) rv hf)
      · cases hg⟩
theorem jte_o {X : Cx} {own : List Nat} {e : Expr} {g : Env → Rs Bool} (h : JT X e g) : JTE X own e (lfT g) := ⟨fun {P F0 H0 σ F H δ W Q o} r tk hg hP => by
  unfold lfT at hg
  cases e0 : g δ with
  | none => rw [e0] at hg; cases hg
  | some y => cases y with
    | error x => rw [e0] at hg; cases hg
    | ok d =>
      rw [e0] at hg
      cases hg
      obtain ⟨A, hA, F1, ef, rp, hn, hs⟩ := r.frz
      refine h.run rp tk e0 fun v F2 H2 g2 rv => ?_
      have g3 := less_grow hA ef (fun a ha => (hn a ha).2) hs g2
      exact hP v _ H2 (r.grow g3) g3.ff rv⟩
/-! ### several names at once -/
def spar2 (i j : Nat) (f : Env → RE (List D)) : Env → RO := fun δ => bindE (f δ) fun ds δ' => match ds with
  | [a, b] => some (.ok (.nx, (δ'.set i (some a)).set j (some b)))
  | _ => none
theorem js_par2 {X : Cx} {own : List Nat} (i j : Nat) {x y : Str} {a b : Expr} {px py pt pos : Pos} {kt k2 pt2} {f : Env → RE (List D)} (hc : X.calm = true) (hN : X.N.Nodup) (ha : JAE X own [a, b] f) (hi : X.N[i]? = some x := by rfl) (hj : X.N[j]? = some y := by rfl) (hij : i ≠ j := by decide)
    (hx : X.env.scope.names.lookup x = some .local := by rfl) (hy : X.env.scope.names.lookup y = some .local := by rfl) (oi : i ∉ own := by decide) (oj : j ∉ own := by decide)
    (hw : swappedStores [.Tuple [.Name x px, .Name y py] kt pt] (.Tuple [a, b] k2 pt2) X.env = pure (some [x, y]) := by rfl)
    (hs : swapsWithSole [.Tuple [.Name x px, .Name y py] kt pt] (.Tuple [a, b] k2 pt2) pos.line X.env = pure false := by rfl) :
    JS X own (.Assign [.Tuple [.Name x px, .Name y py] kt pt] (.Tuple [a, b] k2 pt2) pos) (spar2 i j f) :=
  ⟨fun r tk hg hP => ws_of (ps_par hc hN hi hj hij hx hy pa_wa hw hs) (se_bind ha r tk hg hP fun ds vs δ1 F1 H1 h1 e1 rx r1 P1 => by
    rcases ds with _ | ⟨d1, _ | ⟨d2, _ | ⟨d3, ds⟩⟩⟩ <;> (try (cases h1; done))
    obtain ⟨w, u, rfl, ra, rb⟩ := reps2 rx
    cases h1
    exact ⟨w, u, rfl, P1 _ F1 H1 ((r1.set oi ra).set oj rb) (Ex.refl _)⟩)⟩
def spar3 (i j l : Nat) (f : Env → RE (List D)) : Env → RO := fun δ => bindE (f δ) fun ds δ' => match ds with
  | [a, b, c] => some (.ok (.nx, ((δ'.set i (some a)).set j (some b)).set l (some c)))
  | _ => none
theorem reps3 {K : Frag} {F : Hp} {vs : List V} {x y z : D} (r : Reps K F vs [x, y, z]) : ∃ w u t, vs = [w, u, t] ∧ Rep K F w x ∧ Rep K F u y ∧ Rep K F t z := by
  cases r with | cons h r => cases r with | cons h2 r => cases r with | cons h3 r => cases r; exact ⟨_, _, _, rfl, h, h2, h3⟩
theorem js_par3 {X : Cx} {own : List Nat} (i j l : Nat) {x y z : Str} {a b c : Expr} {px py pz pt pos : Pos} {kt k2 pt2} {f : Env → RE (List D)} (hc : X.calm = true) (hN : X.N.Nodup) (ha : JAE X own [a, b, c] f) (hi : X.N[i]? = some x := by rfl) (hj : X.N[j]? = some y := by rfl) (hl : X.N[l]? = some z := by rfl) (hij : i ≠ j := by decide) (hil : i ≠ l := by decide) (hjl : j ≠ l := by decide)
    (hx : X.env.scope.names.lookup x = some .local := by rfl) (hy : X.env.scope.names.lookup y = some .local := by rfl) (hz : X.env.scope.names.lookup z = some .local := by rfl) (oi : i ∉ own := by decide) (oj : j ∉ own := by decide) (ol : l ∉ own := by decide)
    (hw : swappedStores [.Tuple [.Name x px, .Name y py, .Name z pz] kt pt] (.Tuple [a, b, c] k2 pt2) X.env = pure (some [x, y, z]) := by rfl)
    (hs : swapsWithSole [.Tuple [.Name x px, .Name y py, .Name z pz] kt pt] (.Tuple [a, b, c] k2 pt2) pos.line X.env = pure false := by rfl) :
    JS X own (.Assign [.Tuple [.Name x px, .Name y py, .Name z pz] kt pt] (.Tuple [a, b, c] k2 pt2) pos) (spar3 i j l f) :=
  ⟨fun r tk hg hP => ws_of (ps_par3 hc hN hi hj hl hij hil hjl hx hy hz pa_wa hw hs) (se_bind ha r tk hg hP fun ds vs δ1 F1 H1 h1 e1 rx r1 P1 => by
    rcases ds with _ | ⟨d1, _ | ⟨d2, _ | ⟨d3, _ | ⟨d4, ds⟩⟩⟩⟩ <;> (try (cases h1; done))
    obtain ⟨w, u, t, rfl, ra, rb, rc⟩ := reps3 rx
    cases h1
    exact ⟨w, u, t, rfl, P1 _ F1 H1 (((r1.set oi ra).set oj rb).set ol rc) (Ex.refl _)⟩)⟩
/-- target = value, by a target of any form -/
def sasg (g : D → Env → Option Env) (f : Env → RE D) : Env → RO := fun δ => bindE (f δ) fun d δ' => (g d δ').map fun δ2 => .ok (.nx, δ2)
theorem js_asg {X : Cx} {own : List Nat} {tg e : Expr} {pos : Pos} {f : Env → RE D} {g : D → Env → Option Env} {is : List Nat} (hg : JG X own tg is g) (h : JE X own e f) (hs : swapsWithSole [tg] e pos.line X.env = pure false := by rfl) (hw : swappedStores [tg] e X.env = pure none := by rfl) (h1 : (assignEach [tg] X.env).map (·.2) = [assign tg X.env] := by rfl) :
    JS X own (.Assign [tg] e pos) (sasg g f) := ⟨fun r tk hh hP => ws_of (ps_asg pe_we pg_wg hs hw h1) (se_bind h r tk hh hP fun x v δ1 F1 H1 h1 e1 rx r1 P1 => by
    simp only [Option.map_eq_some_iff] at h1
    obtain ⟨δ2, h2, rfl⟩ := h1
    exact hg.run r1 rx h2 fun σ' F' H' r2 x2 _ => P1 σ' F' H' r2 x2)⟩
/-! ### stateful arguments and displays -/
def enil : Env → RE (List D) := fun δ => some (.ok ([], δ))
def econs (a : Env → RE D) (r : Env → RE (List D)) : Env → RE (List D) := fun δ => bindE (a δ) fun x δ1 => bindE (r δ1) fun xs δ2 => some (.ok (x :: xs, δ2))
theorem PostE.fin {α β : Type} {rel : Hp → β → α → Prop} {X : Cx} {f : Fr} {F : Hp} {σ : L2.St} {W : WX} {Q : β → Hp → Prop} {d : α} {δ : Env} {o : Except (XD × Env) (α × Env)} (h : some (.ok (d, δ)) = some o) (p : PostE rel X f F σ W o Q) : ∀ v F' H', RSf X f F' σ H' δ → Ex F F' → rel F' v d → Q v H' := by
  cases h; exact p
section
variable {X : Cx} {own : List Nat} {e a b : Expr} {es : List Expr} {pos : Pos}
theorem jae_nil : JAE X own [] enil := ⟨fun r tk hg hP => wa_of pa_nil (hP.fin hg _ _ _ r (Ex.refl _) .nil)⟩
theorem jae_cons {f : Env → RE D} {k : Env → RE (List D)} (ha : JE X own e f) (hr : JAE X own es k) (hs : starEach (e :: es) X.env = (false, eval e X.env) :: starEach es X.env := by rfl) : JAE X own (e :: es) (econs f k) := ⟨fun {P F0 H0 σ F H δ W Q o} r tk hg hP =>
  wa_of (pa_cons pe_we pa_wa hs) (js_bind (w := WE X e) ha r tk hg hP fun x vx δ1 F1 H1 h1 e1 rx r1 P1 => js_bind (w := WA X es) hr r1 tk h1 P1 fun xs vxs δ2 F2 H2 h2 e2 rxs r2 P2 => P2.fin h2 _ F2 H2 r2 (Ex.refl _) (.cons (rx.mono e2) rxs))⟩
/-- new things in a state -/
theorem RS.new {K : Frag} {own : List Nat} {P : Pm} {F0 H0 F : Hp} {σ : L2.St} {H : Hp} {δ : Env} {p : Addr} {o : HO} (r : RS K own P F0 H0 F σ H δ) (hp : H p = none) : RS K own P F0 H0 (upd F p o) σ (upd H p o) δ := r.grow (.new r.fh hp)
def etup (a : Env → RE (List D)) : Env → RE D := fun δ => bindE (a δ) fun xs δ' => if xs.length ≤ sizeLine then some (.ok (.tup xs, δ')) else none
def elst (a : Env → RE (List D)) : Env → RE D := fun δ => bindE (a δ) fun xs δ' => if xs.length ≤ sizeLine then some (.ok (.lst xs, δ')) else none
theorem je_tup {x1} {f : Env → RE (List D)} (ha : JAE X own es f) : JE X own (.Tuple es x1 pos) (etup f) := ⟨fun {P F0 H0 σ F H δ W Q o} r tk hg hP =>
  we_of (pe_tup pa_wa) (js_bind (w := WA X es) ha r tk hg hP fun xs vs δ1 F1 H1 h1 e1 rx r1 P1 => by
    by_cases hl : xs.length ≤ sizeLine
    · rw [if_pos hl] at h1
      exact ⟨by rw [Rep.len rx]; exact hl, fun p hp => P1.fin h1 _ _ _ (r1.new hp) (Ex.new (none_back r1.fh hp)) (.tup (SqT.of upd_same) (rx.mono (Ex.new (none_back r1.fh hp))))⟩
    · rw [if_neg hl] at h1; cases h1)⟩
theorem je_lst {f : Env → RE (List D)} (ha : JAE X own es f) : JE X own (.List es pos) (elst f) := ⟨fun {P F0 H0 σ F H δ W Q o} r tk hg hP =>
  we_of (pe_lst pa_wa) (js_bind (w := WA X es) ha r tk hg hP fun xs vs δ1 F1 H1 h1 e1 rx r1 P1 => by
    by_cases hl : xs.length ≤ sizeLine
    · rw [if_pos hl] at h1
      exact ⟨by rw [Rep.len rx]; exact hl, fun p hp => P1.fin h1 _ _ _ (r1.new hp) (Ex.new (none_back r1.fh hp)) (.lst upd_same (rx.mono (Ex.new (none_back r1.fh hp))))⟩
    · rw [if_neg hl] at h1; cases h1)⟩
/-- operators -/
theorem RS.opd {K : Frag} {own : List Nat} {P : Pm} {F0 H0 F F' H' : Hp} {σ : L2.St} {H : Hp} {δ : Env} (r : RS K own P F0 H0 F σ H δ) (g : Grow F H F' H') : RS K own P F0 H0 F' σ H' δ := r.grow g
def eop2 (g : D → D → Option D) (a b : Env → RE D) : Env → RE D := fun δ => bindE (a δ) fun x δ1 => bindE (b δ1) fun y δ2 => (g x y).map fun z => .ok (z, δ2)
theorem je_op {op : Operator} {rr : R2} {g : D → D → Option D} {fa fb : Env → RE D} (ho : OpR X (binaryOp op) rr) (hr : OpD X.K rr g) (ha : JE X own a fa) (hb : JE X own b fb) : JE X own (.BinOp a op b pos) (eop2 g fa fb) := ⟨fun {P F0 H0 σ F H δ W Q o} r tk hg hP =>
  we_of (pe_op ho pe_we pe_we) (js_bind (w := WE X a) ha r tk hg hP fun x vx δ1 F1 H1 h1 e1 rx r1 P1 => js_bind (w := WE X b) hb r1 tk h1 P1 fun y vy δ2 F2 H2 h2 e2 ry r2 P2 => by
    simp only [Option.map_eq_some_iff] at h2
    obtain ⟨z, hz, rfl⟩ := h2
    exact hr r2.fh (rx.mono e2) ry hz _ fun v F' H' g rv => P2 v F' H' (r2.grow g) g.ff rv)⟩
def etb (g : Env → RE D) : Env → RE Bool := fun δ => bindE (g δ) fun x δ' => (asB x).map fun b => .ok (b, δ')
theorem jte_cmp {op : CmpOp} {rr : R2} {g : D → D → Option D} {fa fb : Env → RE D} (ho : OpR X (compareOp op) rr) (hr : OpD X.K rr g) (ha : JE X own a fa) (hb : JE X own b fb) (hm : behindInMarks op b = false := by first | exact nomark _ | with_unfolding_all rfl) : JTE X own (.Compare a [op] [b] pos) (etb (eop2 g fa fb)) := ⟨fun {P F0 H0 σ F H δ W Q o} r tk hg hP => by
  have hg' : bindE (fa δ) (fun x δ1 => bindE (fb δ1) fun y δ2 => bindE ((g x y).map fun z => (.ok (z, δ2) : Except (XD × Env) (D × Env))) fun x δ' => (asB x).map fun b => .ok (b, δ')) = some o := by
    rw [← hg]; unfold etb eop2
    cases fa δ with
    | none => rfl
    | some y => cases y with
      | error x => rfl
      | ok p => dsimp only [bindE]; cases fb p.2 with
        | none => rfl
        | some y => cases y <;> rfl
  exact wt_of (pt_cmpR ho pe_we pe_we hm) (js_bind (w := WE X a) ha r tk hg' hP fun x vx δ1 F1 H1 h1 e1 rx r1 P1 => js_bind (w := WE X b) hb r1 tk h1 P1 fun y vy δ2 F2 H2 h2 e2 ry r2 P2 => by
    cases e : g x y with
    | none => rw [e] at h2; cases h2
    | some z =>
      rw [e] at h2
      simp only [Option.map_some, bindE, Option.map_eq_some_iff] at h2
      obtain ⟨q, hq, rfl⟩ := h2
      cases asB_some hq
      refine hr r2.fh (rx.mono e2) ry e _ fun v F' H' g3 rv => ?_
      cases rv
      exact ⟨q, rfl, P2 q F' H' (r2.grow g3) g3.ff rfl⟩)⟩
def eif (t : Env → RE Bool) (a b : Env → RE D) : Env → RE D := fun δ => bindE (t δ) fun k δ' => if k = true then a δ' else b δ'
theorem je_if {q : Expr} {t : Env → RE Bool} {f g : Env → RE D} (hq : JTE X own q t) (ha : JE X own a f) (hb : JE X own b g) : JE X own (.IfExp q a b pos) (eif t f g) := ⟨fun {P F0 H0 σ F H δ W Q o} r tk hg hP =>
  we_of (pe_ifExp pt_wt pe_we pe_we) (js_bind (w := WT X q) hq r tk hg hP fun k v δ1 F1 H1 h1 e1 rx r1 P1 => by
    cases rx
    cases k with
    | true => rw [if_pos rfl] at *; exact ha.run r1 tk h1 P1
    | false => rw [if_neg Bool.false_ne_true] at *; exact hb.run r1 tk h1 P1)⟩
/-- a call of a pure def with stateful arguments -/
def ecall (m : List D → Rs D) (a : Env → RE (List D)) : Env → RE D := fun δ => bindE (a δ) fun xs δ' => match m xs with
  | none => none
  | some (.ok d) => some (.ok (d, δ'))
  | some (.error x) => some (.error (x, δ'))
theorem je_call {k : Nat} {x : Str} {p : Pos} {m : List D → Rs D} {f : Env → RE (List D)} (hf : Fn X.prog X.w X.K X.mg X.base k x m) (hr : Room k X.A) (ha : JAE X own (e :: es) f) (hg : Gl X x := by rfl)
    (hdb : (x == ("__debug__" : Str)) = false := by decide) (he : starEach (e :: es) X.env = (false, eval e X.env) :: starEach es X.env := by rfl) (hpl : (backTo pos (starEach es X.env)).any (·.1) = false := by rfl) :
    JE X own (.Call (.Name x p) (e :: es) [] pos) (ecall m f) := ⟨fun {P F0 H0 σ F H δ W Q o} r tk hg' hP => by
  obtain ⟨fa, fd, ps, F, hm, hk, hb⟩ := hf.at_
  refine we_of (pe_callS F hr hg hm hk hb (fun σ => passAt tk σ) pa_wa hdb he hpl) (js_bind (w := WA X (e :: es)) ha r tk hg' hP fun xs vs δ1 F1 H1 h1 e1 rx r1 P1 => ?_)
  cases em : m xs with
  | none => rw [em] at h1; cases h1
  | some y =>
    rw [em] at h1
    cases y with
    | ok d => cases h1; exact ⟨F1, xs, _, r1.fh, rx, em, fun v F' H' g rv => P1 v F' H' (r1.grow g) g.ff rv⟩
    | error z => cases h1; exact ⟨F1, xs, _, r1.fh, rx, em, fun c dd F' H' g rv => P1 c dd F' H' (r1.grow g) g.ff rv⟩⟩
end
end PD
end
section
namespace PD
open PySem L2
/-! ### another base -/
structure Chn (P : Pm) (F0 H0 : Hp) (P' : Pm) (F1 H1 : Hp) : Prop where
  ff : Ex F0 F1
  hh : ∀ a o, ¬ P a → H0 a = some o → H1 a = some o
  dm : ∀ a, H0 a ≠ none → H1 a ≠ none
  nw : ∀ a, F1 a ≠ none → F0 a ≠ none ∨ H0 a = none
  pp : ∀ a, P' a → H0 a = none ∨ P a
  bx : ∀ a, P.bx a → P'.bx a
section
variable {K : Frag} {own : List Nat} {P P' : Pm} {F0 H0 F1 H1 F : Hp} {σ : L2.St} {H : Hp} {δ : Env}
theorem RS.back (r : RS K own P' F1 H1 F σ H δ) (c : Chn P F0 H0 P' F1 H1) : RS K own P F0 H0 F σ H δ where
  ff := c.ff.trans r.ff
  fh := r.fh
  hh := fun a o p h => r.hh a o (fun q => (c.pp a q).elim (fun e => by rw [e] at h; cases h) p) (c.hh a o p h)
  dm := fun a h => r.dm a (c.dm a h)
  nw := fun a h => (r.nw a h).elim (c.nw a) fun e => .inr (by
    cases e0 : H0 a with
    | none => rfl
    | some o => exact absurd e (c.dm a (by rw [e0]; simp)))
  ln := r.ln
  par := fun a h => r.par a (c.bx a h)
  val := r.val
  own := by
    obtain ⟨fp, h1, h2, h3⟩ := r.own
    refine ⟨fp, h1, fun i a ha => ?_, h3⟩
    obtain ⟨a1, a2, a3⟩ := h2 i a ha
    refine ⟨a1, a2, a3.elim (fun e => .inl ?_) (c.pp a)⟩
    cases e0 : H0 a with
    | none => rfl
    | some o => exact absurd e (c.dm a (by rw [e0]; simp))
/-- the cell Dd of no one (known to the base) is written; a new base -/
theorem RS.mut {Dd : Addr} {o : HO} (r : RS K own P F0 H0 F σ H δ) (hD : H0 Dd ≠ none) (nP : ¬ P Dd) (nF : F Dd = none) : ∃ P' : Pm, RS K own P' F (upd H Dd o) F σ (upd H Dd o) δ ∧ ¬ P' Dd ∧ (∀ a, P' a → H0 a = none ∨ P a) ∧ P'.bx = P.bx := by
  obtain ⟨fp, h1, h2, h3⟩ := r.own
  have nD : ∀ i, Dd ∉ fp i := fun i hi => (h2 i Dd hi).2.2.elim (fun e => hD e) nP
  have ne : ∀ i a, a ∈ fp i → a ≠ Dd := fun i a ha e => nD i (e ▸ ha)
  refine ⟨⟨fun a => ∃ i, a ∈ fp i, P.bx⟩, ?_, fun ⟨i, hi⟩ => nD i hi, fun a ⟨i, hi⟩ => (h2 i a hi).2.2, rfl⟩
  exact {
    ff := Ex.refl _
    fh := fun a q e => by
      have : a ≠ Dd := fun x => by rw [x, nF] at e; cases e
      rw [upd_ne this]; exact r.fh a q e
    hh := fun _ _ _ h => h
    dm := fun _ h => h
    nw := fun _ h => .inl h
    ln := r.ln
    par := r.par
    val := r.val
    own := ⟨fp, fun i d hi hd => by
      obtain ⟨v, hv, o⟩ := h1 i d hi hd
      exact ⟨v, hv, o.keep (Ex.refl _) fun a ha q e => by rw [upd_ne (ne i a ha)]; exact e⟩, fun i a ha => ⟨(h2 i a ha).1, by rw [upd_ne (ne i a ha)]; exact (h2 i a ha).2.1, .inr ⟨i, ha⟩⟩, h3⟩ }
theorem RS.chn (r : RS K own P F0 H0 F σ H δ) {Dd : Addr} {o : HO} {P' : Pm} (h0 : H0 Dd = none) (pp : ∀ a, P' a → H0 a = none ∨ P a) (bx : ∀ a, P.bx a → P'.bx a) : Chn P F0 H0 P' F (upd H Dd o) where
  ff := r.ff
  hh := fun a q p h => by
    have : a ≠ Dd := fun e => by rw [e, h0] at h; cases h
    rw [upd_ne this]; exact r.hh a q p h
  dm := fun a h => by
    have : a ≠ Dd := fun e => by rw [e] at h; exact h h0
    rw [upd_ne this]; exact r.dm a h
  nw := r.nw
  pp := pp
  bx := bx
/-- while a new list grows at Dd -/
structure LS (K : Frag) (own : List Nat) (P : Pm) (F0 H0 : Hp) (Dd : Addr) (ob : HO) (F : Hp) (σ : L2.St) (H : Hp) (δ : Env) : Prop where
  r : ∃ P' F1 H1, RS K own P' F1 H1 F σ H δ ∧ Chn P F0 H0 P' F1 H1 ∧ H1 Dd = some ob ∧ ¬ P' Dd ∧ F1 Dd = none
  h0 : H0 Dd = none
theorem LS.nF {Dd : Addr} {ob : HO} (l : LS K own P F0 H0 Dd ob F σ H δ) : F Dd = none := by
  obtain ⟨P', F1, H1, r, c, e, n, f⟩ := l.r
  cases q : F Dd with
  | none => rfl
  | some u => exact absurd (r.nw Dd (by rw [q]; simp)) (by rintro (h | h); exact h f; rw [e] at h; cases h)
theorem LS.at {Dd : Addr} {ob : HO} (l : LS K own P F0 H0 Dd ob F σ H δ) : H Dd = some ob := by
  obtain ⟨P', F1, H1, r, c, e, n, nf⟩ := l.r
  exact r.hh Dd _ n e
theorem LS.rs {Dd : Addr} {ob : HO} (l : LS K own P F0 H0 Dd ob F σ H δ) : RS K own P F0 H0 F σ H δ := by
  obtain ⟨P', F1, H1, r, c, e, n, nf⟩ := l.r
  exact r.back c
theorem LS.start {Dd : Addr} {ob : HO} (r : RS K own P F0 H0 F σ H δ) (hn : H Dd = none) : LS K own P F0 H0 Dd ob F σ (upd H Dd ob) δ := by
  have h0 : H0 Dd = none := by
    cases e : H0 Dd with
    | none => rfl
    | some o => exact absurd hn (r.dm Dd (by rw [e]; simp))
  obtain ⟨fp, h1, h2, h3⟩ := r.own
  have ne : ∀ i a, a ∈ fp i → a ≠ Dd := fun i a ha e => (h2 i a ha).2.1 (e ▸ hn)
  refine ⟨⟨⟨fun a => ∃ i, a ∈ fp i, P.bx⟩, F, upd H Dd ob, ?_, r.chn h0 (fun a ⟨i, hi⟩ => (h2 i a hi).2.2) (fun _ h => h), upd_same, fun ⟨i, hi⟩ => ne i _ hi rfl, none_back r.fh hn⟩, h0⟩
  exact {
    ff := Ex.refl _
    fh := r.fh.trans (Ex.new hn)
    hh := fun _ _ _ h => h
    dm := fun _ h => h
    nw := fun _ h => .inl h
    ln := r.ln
    par := r.par
    val := r.val
    own := ⟨fp, fun i d hi hd => by
      obtain ⟨v, hv, o⟩ := h1 i d hi hd
      exact ⟨v, hv, o.keep (Ex.refl _) fun a ha q e => by rw [upd_ne (ne i a ha)]; exact e⟩, fun i a ha => ⟨(h2 i a ha).1, by rw [upd_ne (ne i a ha)]; exact (h2 i a ha).2.1, .inr ⟨i, ha⟩⟩, h3⟩ }
theorem Chn.trans {P2 : Pm} {F2 H2 : Hp} (a : Chn P F0 H0 P' F1 H1) (b : Chn P' F1 H1 P2 F2 H2) : Chn P F0 H0 P2 F2 H2 where
  ff := a.ff.trans b.ff
  hh := fun x o p h => b.hh x o (fun q => (a.pp x q).elim (fun e => by rw [e] at h; cases h) p) (a.hh x o p h)
  dm := fun x h => b.dm x (a.dm x h)
  nw := fun x h => (b.nw x h).elim (a.nw x) fun e => .inr (by
    cases e0 : H0 x with
    | none => rfl
    | some o => exact absurd e (a.dm x (by rw [e0]; simp)))
  pp := fun x h => (b.pp x h).elim (fun e => .inl (by
    cases e0 : H0 x with
    | none => rfl
    | some o => exact absurd e (a.dm x (by rw [e0]; simp)))) (a.pp x)
  bx := fun x h => b.bx x (a.bx x h)
theorem LS.app {Dd : Addr} {ob ob' : HO} (l : LS K own P F0 H0 Dd ob F σ H δ) : LS K own P F0 H0 Dd ob' F σ (upd H Dd ob') δ := by
  obtain ⟨P', F1, H1, r, c, e, n, nf⟩ := l.r
  obtain ⟨P2, r2, n2, p2, b2⟩ := r.mut (o := ob') (by rw [e]; simp) n l.nF
  refine ⟨⟨P2, F, _, r2, ?_, upd_same, n2, l.nF⟩, l.h0⟩
  refine { ff := c.ff.trans r.ff, hh := fun a q p h => ?_, dm := fun a h => ?_, nw := fun a h => (l.rs).nw a h, pp := fun a h => ?_, bx := fun a h => by rw [b2]; exact c.bx a h }
  · have : a ≠ Dd := fun e => by rw [e, l.h0] at h; cases h
    rw [upd_ne this]; exact (l.rs).hh a q p h
  · have : a ≠ Dd := fun e => by rw [e] at h; exact h l.h0
    rw [upd_ne this]; exact (l.rs).dm a h
  · exact (p2 a h).elim (fun e => .inl (by
      cases e0 : H0 a with
      | none => rfl
      | some o => exact absurd e (c.dm a (by rw [e0]; simp)))) (c.pp a)
end
/-! ### list comprehensions -/
def wipeD (vs : List Nat) (δ : Env) : Env := mask vs δ
theorem RS.wipe {K : Frag} {own vs : List Nat} {P : Pm} {F0 H0 F : Hp} {σ : L2.St} {H : Hp} {δ : Env} (r : RS K own P F0 H0 F σ H δ) (hv : ∀ i, i ∈ vs → i ∉ own) : RS K own P F0 H0 F (L2.wipe σ vs) H (wipeD vs δ) where
  ff := r.ff
  fh := r.fh
  hh := r.hh
  dm := r.dm
  nw := r.nw
  ln := by rw [wipe_length, wipeD, mask_len, r.ln]
  par := fun a h => ⟨(r.par a h).1, by rw [wipe_get, if_neg (fun q => hv 0 q (r.par a h).1)]; exact (r.par a h).2⟩
  val := fun i d hi h => by
    obtain ⟨a, b⟩ := mask_get h
    obtain ⟨v, hv, rv⟩ := r.val i d hi b
    exact ⟨v, by rw [wipe_get, if_neg a]; exact hv, rv⟩
  own := by
    obtain ⟨fp, h1, h2⟩ := r.own
    refine ⟨fp, fun i d hi h => ?_, h2⟩
    obtain ⟨a, b⟩ := mask_get h
    obtain ⟨v, hv, o⟩ := h1 i d hi b
    exact ⟨v, by rw [wipe_get, if_neg a]; exact hv, o⟩
theorem RS.unwipe {K : Frag} {own vs : List Nat} {P : Pm} {F0 H0 F : Hp} {σ : L2.St} {H : Hp} {δ : Env} (r : RS K own P F0 H0 F (L2.wipe σ vs) H δ) : RS K own P F0 H0 F σ H δ where
  ff := r.ff
  fh := r.fh
  hh := r.hh
  dm := r.dm
  nw := r.nw
  ln := by rw [← r.ln, wipe_length]
  par := fun a h => ⟨(r.par a h).1, (wipe_some (r.par a h).2).1⟩
  val := fun i d hi h => by
    obtain ⟨v, hv, rv⟩ := r.val i d hi h
    exact ⟨v, (wipe_some hv).1, rv⟩
  own := by
    obtain ⟨fp, h1, h2⟩ := r.own
    refine ⟨fp, fun i d hi h => ?_, h2⟩
    obtain ⟨v, hv, o⟩ := h1 i d hi h
    exact ⟨v, (wipe_some hv).1, o⟩
theorem takes_false {X : Cx} {W : WX} (h : ∀ c d σ H, ¬ W c d σ H) : Takes X W := fun u s' ⟨_, _, _, _, _, _, _, _, _, _, _, _, _, _, _, _, w⟩ => absurd w (h _ _ _ _)
def scomp (vs : List Nat) (g : D → Env → Option Env) (t : Env → RE Bool) (e : Env → RE D) : List D → List D → Env → RE (List D)
  | [], acc, δ => some (.ok (acc, δ))
  | d :: ds, acc, δ => match g d δ with
    | none => none
    | some δ1 => match t δ1 with
      | some (.ok (true, δ2)) => (match e δ2 with
        | some (.ok (y, δ3)) => if acc.length < sizeLine then scomp vs g t e ds (acc ++ [y]) (wipeD vs δ3) else none
        | _ => none)
      | some (.ok (false, δ2)) => scomp vs g t e ds acc (wipeD vs δ2)
      | _ => none
def tyes : Env → RE Bool := fun δ => some (.ok (true, δ))
section
variable {X : Cx} {own : List Nat} {elt tg iter : Expr} {ifs : List Expr} {scope : Scope} {ow : List (Str × Nat)} {pos : Pos} {f : Env → RE (List D)} {g : D → Env → Option Env} {is : List Nat} {t : Env → RE Bool} {e : Env → RE D}
/-- the tests of a clause -/
def WTs (X : Cx) (ifs : List Expr) (σ : L2.St) (H : Hp) (Q : Bool → Hp → Prop) : Prop := ∀ pins s, Inv X pins σ H s → wpAny (model X.prog X.w) X.A (forIn ifs true fun c r => if r = true then do let ok ← isTrue c X.env (eval c X.env); pure (ForInStep.yield ok) else pure (ForInStep.yield r)) (TP X pins σ Q) X.xe s
theorem pts_wts {X : Cx} {ifs : List Expr} : PTs X ifs (WTs X ifs) := ⟨fun pins s _ _ _ I h => h pins s I⟩
theorem wts_of {X : Cx} {ifs : List Expr} {t : TT} {σ : L2.St} {H : Hp} {Q : Bool → Hp → Prop} (h : PTs X ifs t) (q : t σ H Q) : WTs X ifs σ H Q := fun pins s I => h.run pins s σ H Q I q
abbrev JTs (X : Cx) (own : List Nat) (ifs : List Expr) (g : Env → RE Bool) : Prop := JS0 X own (WTs X ifs) relT g
theorem jts_nil {X : Cx} {own : List Nat} : JTs X own [] tyes := ⟨fun r tk hg hP => wts_of pts_nil (hP.fin hg _ _ _ r (Ex.refl _) rfl)⟩
theorem jts_one {X : Cx} {own : List Nat} {q : Expr} {t : Env → RE Bool} (h : JTE X own q t) : JTs X own [q] t := ⟨fun r tk hg hP => wts_of (pts_one pt_wt) (h.run r tk hg hP)⟩
/-- the block's readings, whatever the block's start is -/
abbrev bG (X : Cx) (scope : Scope) (tg : Expr) : TG := fun v σ H Q => ∀ (s : Shared) (Hb : Hp) (C : Addr) (cl : List (Str × Addr)) (fp : List Addr), WG (X.blk s Hb scope (compEnvC scope cl C X.env) fp) tg v σ H Q
abbrev bT (X : Cx) (scope : Scope) (ifs : List Expr) : TT := fun σ H Q => ∀ (s : Shared) (Hb : Hp) (C : Addr) (cl : List (Str × Addr)) (fp : List Addr), WTs (X.blk s Hb scope (compEnvC scope cl C X.env) fp) ifs σ H Q
abbrev bE (X : Cx) (scope : Scope) (e : Expr) : TE := fun σ H Q => ∀ (s : Shared) (Hb : Hp) (C : Addr) (cl : List (Str × Addr)) (fp : List Addr), WE (X.blk s Hb scope (compEnvC scope cl C X.env) fp) e σ H Q
theorem lc_read {σ : L2.St} {P : Pm} {F0 H0 F H : Hp} {δ : Env} {W : WX} {o : Except (XD × Env) (List D × Env)} {Q : VK} (hi : JI X own tg iter f)
    (hg : ∀ (s : Shared) (Hb : Hp) (C : Addr) (cl : List (Str × Addr)) (fp : List Addr), JG (X.blk s Hb scope (compEnvC scope cl C X.env) fp) own tg is g)
    (ht : ∀ (s : Shared) (Hb : Hp) (C : Addr) (cl : List (Str × Addr)) (fp : List Addr), JTs (X.blk s Hb scope (compEnvC scope cl C X.env) fp) own ifs t)
    (he : ∀ (s : Shared) (Hb : Hp) (C : Addr) (cl : List (Str × Addr)) (fp : List Addr), JE (X.blk s Hb scope (compEnvC scope cl C X.env) fp) own elt e)
    (hvs : (ow.map (·.2)).all (fun i => !own.contains i) = true) (his : is.all (fun i => (ow.map (·.2)).contains i) = true)
    (r : RSf X ⟨own, P, F0, H0⟩ F σ H δ) (tk : Takes X W) (hh : bindE (f δ) (fun ds δ' => scomp (ow.map (·.2)) g t e ds [] (wipeD (ow.map (·.2)) δ')) = some o)
    (hx : ∀ x δ', o = .error (x, δ') → ∀ cls dd F' H', RSf X ⟨own, P, F0, H0⟩ F' σ H' δ' → Ex F F' → RepX X.K F' cls dd x → W cls dd σ H')
    (hP : ∀ ds δ', o = .ok (ds, δ') → ∀ Dd vs F' H', LS X.K own P F0 H0 Dd (.lst vs) F' σ H' δ' → Ex F F' → Reps X.K F' vs ds → Q (.ref Dd) H') :
    tLc (WI X tg iter) (bG X scope tg) (bT X scope ifs) (bE X scope elt) (ow.map (·.2)) σ H Q := by
  have hv : ∀ i, i ∈ ow.map (·.2) → i ∉ own := fun i hi hc => by
    have := List.all_eq_true.1 hvs i hi
    simp at this
    exact this hc
  have hi' : ∀ i, i ∈ is → i ∈ ow.map (·.2) := fun i h => by
    have := List.all_eq_true.1 his i h
    simpa using this
  cases e0 : f δ with
  | none => rw [e0] at hh; cases hh
  | some y =>
    rw [e0] at hh
    rcases y with ⟨x, δ1⟩ | ⟨ds, δ1⟩
    · cases hh; exact hi.run r tk e0 (hx x δ1 rfl)
    · simp only [bindE] at hh
      refine hi.run r tk e0 fun J F1 H1 r1 e1 src => fun Dd hD => ?_
      refine ⟨fun i m Hc => ∃ F' δ' acc vs, LS X.K own P F0 H0 Dd (.lst vs) F' (wipe σ (ow.map (·.2))) Hc δ' ∧ Ex F1 F' ∧ Reps X.K F' vs acc ∧ i + m = ds.length ∧ scomp (ow.map (·.2)) g t e (ds.drop i) acc δ' = some o, ⟨ds.length, F1, _, [], [], .start (r1.wipe hv) hD, Ex.refl _, .nil, Nat.zero_add _, hh⟩, ?_⟩
      rintro i m H2 ⟨F2, δ2, acc, vs, l2, e2, ra, hm, h2⟩
      cases hd : ds[i]? with
      | none =>
        have hl : ds.length ≤ i := List.getElem?_eq_none_iff.1 hd
        rw [List.drop_of_length_le hl] at h2
        cases h2
        obtain ⟨⟨P', Fb, Hb, rr, cc, ee, nn, nf⟩, nh⟩ := l2
        exact .inl ⟨src.stop e2 rr.fh hl, hP acc δ2 rfl Dd vs F2 H2 ⟨⟨P', Fb, Hb, rr.unwipe, cc, ee, nn, nf⟩, nh⟩ (e1.trans e2) ra⟩
      | some d =>
        have hl : i < ds.length := (List.getElem?_eq_some_iff.1 hd).1
        have hd' : ds[i] = d := (List.getElem?_eq_some_iff.1 hd).2
        rw [List.drop_eq_getElem_cons hl, hd'] at h2
        obtain ⟨⟨P', Fb, Hb, rr, cc, ee, nn, nf⟩, nh⟩ := l2
        obtain ⟨g1, g2⟩ := src.go e2 rr.fh hd
        refine .inr ⟨g1, fun Hc => ∃ F' δ' acc vs, LS X.K own P F0 H0 Dd (.lst vs) F' (wipe σ (ow.map (·.2))) Hc δ' ∧ Ex F1 F' ∧ Reps X.K F' vs acc ∧ (i + 1) + (m - 1) = ds.length ∧ scomp (ow.map (·.2)) g t e (ds.drop (i + 1)) acc δ' = some o, fun H' h => ⟨m - 1, by omega, h⟩, fun x H' hy => ?_⟩
        obtain ⟨F3, g3, rx⟩ := g2 x H' hy
        simp only [scomp] at h2
        cases e4 : g d δ2 with
        | none => rw [e4] at h2; cases h2
        | some δ4 =>
          rw [e4] at h2
          simp only [] at h2
          intro s0 Hb0 C0 cl0 fp0
          have ww : wipe (wipe σ (ow.map (·.2))) (ow.map (·.2)) = wipe σ (ow.map (·.2)) := by
            apply List.ext_getElem?
            intro j
            rw [wipe_get, wipe_get]
            by_cases hj : j ∈ ow.map (·.2)
            · rw [if_pos hj, if_pos hj]; cases σ[j]? <;> rfl
            · rw [if_neg hj, if_neg hj]
          refine (hg s0 Hb0 C0 cl0 fp0).run (P := P') (F0 := Fb) (H0 := Hb) (rr.grow g3) rx e4 fun σ4 F4 H4 r4 x4 w4 => ⟨(w4 _ hi').trans ww, fun s1 Hb1 C1 cl1 fp1 => ?_⟩
          have hw := (w4 _ hi').trans ww
          cases e5 : t δ4 with
          | none => rw [e5] at h2; cases h2
          | some z =>
            rw [e5] at h2
            rcases z with ⟨x5, δ5⟩ | ⟨b5, δ5⟩
            · cases h2
            · refine (ht s1 Hb1 C1 cl1 fp1).run (W := fun _ _ _ _ => False) (P := P') (F0 := Fb) (H0 := Hb) r4 (takes_false fun _ _ _ _ h => h) e5 fun v5 F5 H5 r5 x5 rb => ?_
              cases rb
              have ex5 : Ex F2 F5 := (g3.ff.trans x4).trans x5
              cases b5 with
              | false =>
                rw [if_neg Bool.false_ne_true]
                dsimp only at h2
                refine ⟨F5, _, acc, vs, ⟨⟨P', Fb, Hb, ?_, cc, ee, nn, nf⟩, nh⟩, e2.trans ex5, ra.mono ex5, by omega, h2⟩
                have := r5.wipe hv
                rw [hw] at this
                exact this
              | true =>
                rw [if_pos rfl]
                dsimp only at h2
                intro s2 Hb2 C2 cl2 fp2
                cases e6 : e δ5 with
                | none => rw [e6] at h2; cases h2
                | some z =>
                  rw [e6] at h2
                  rcases z with ⟨x6, δ6⟩ | ⟨y6, δ6⟩
                  · cases h2
                  · dsimp only at h2
                    refine (he s2 Hb2 C2 cl2 fp2).run (W := fun _ _ _ _ => False) (P := P') (F0 := Fb) (H0 := Hb) r5 (takes_false fun _ _ _ _ h => h) e6 fun v6 F6 H6 r6 x6 ry => ?_
                    split at h2
                    · rename_i hsz
                      have ex6 : Ex F2 F6 := ex5.trans x6
                      have r7 := r6.wipe hv
                      rw [hw] at r7
                      have l7 : LS X.K own P F0 H0 Dd (.lst vs) F6 (wipe σ (ow.map (·.2))) H6 (wipeD (ow.map (·.2)) δ6) := ⟨⟨P', Fb, Hb, r7, cc, ee, nn, nf⟩, nh⟩
                      refine ⟨vs, l7.at, by rw [Rep.len ra]; exact hsz, F6, _, acc ++ [y6], vs ++ [v6], l7.app, e2.trans ex6, (ra.mono ex6).app (.cons ry .nil), by omega, h2⟩
                    · cases h2
variable {P : Program}
/-- a list comprehension: what is made, frozen -/
def ecomp (vs : List Nat) (f : Env → RE (List D)) (g : D → Env → Option Env) (t : Env → RE Bool) (e : Env → RE D) : Env → RE D := fun δ => bindE (f δ) fun ds δ' => bindE (scomp vs g t e ds [] (wipeD vs δ')) fun ys δ2 => some (.ok (.lst ys, δ2))
theorem LS.frz {K : Frag} {own : List Nat} {P : Pm} {F0 H0 F : Hp} {σ : L2.St} {H : Hp} {δ : Env} {Dd : Addr} {ob : HO} (l : LS K own P F0 H0 Dd ob F σ H δ) : RS K own P F0 H0 (upd F Dd ob) σ H δ := by
  obtain ⟨P', F1, H1, r, c, e, n, nf⟩ := l.r
  have hD := l.at
  have nF := l.nF
  obtain ⟨fp, h1, h2, h3⟩ := r.own
  have nD : ∀ i, Dd ∉ fp i := fun i hi => (h2 i Dd hi).2.2.elim (fun q => by rw [e] at q; cases q) n
  have R := r.back c
  exact {
    ff := R.ff.trans (Ex.new nF)
    fh := fun a o h => by
      by_cases q : a = Dd
      · subst q; rw [upd_same] at h; cases h; exact hD
      · rw [upd_ne q] at h; exact r.fh a o h
    hh := R.hh
    dm := R.dm
    nw := fun a h => (upd_ne_none h).elim (R.nw a) fun q => .inr (by rw [q]; exact l.h0)
    ln := R.ln
    par := R.par
    val := fun i d hi h => let ⟨v, a, b⟩ := R.val i d hi h; ⟨v, a, b.mono (Ex.new nF)⟩
    own := ⟨fp, fun i d hi hd => by
      obtain ⟨v, hv, o⟩ := h1 i d hi hd
      exact ⟨v, hv, o.keep (Ex.new nF) fun a _ q h => h⟩, fun i a ha => ⟨by rw [upd_ne (fun q : a = Dd => nD i (by rw [← q]; exact ha))]; exact (h2 i a ha).1, (h2 i a ha).2.1, (h2 i a ha).2.2.elim (fun q => .inl (by
        cases e0 : H0 a with
        | none => rfl
        | some o => exact absurd q (c.dm a (by rw [e0]; simp)))) (c.pp a)⟩, h3⟩ }
theorem bindE_assoc {α β γ : Type} (x : RE α) (f : α → Env → RE β) (g : β → Env → RE γ) : bindE (bindE x f) g = bindE x fun a δ => bindE (f a δ) g := by
  cases x with
  | none => rfl
  | some y => cases y <;> rfl
theorem je_lc (hc : X.calm = true) (hN : X.N.Nodup) (hi : JI X own tg iter f) (ok : BlkOk X.N X.env.scope scope ow)
    (hg : ∀ (s : Shared) (Hb : Hp) (C : Addr) (cl : List (Str × Addr)) (fp : List Addr), JG (X.blk s Hb scope (compEnvC scope cl C X.env) fp) own tg is g)
    (ht : ∀ (s : Shared) (Hb : Hp) (C : Addr) (cl : List (Str × Addr)) (fp : List Addr), JTs (X.blk s Hb scope (compEnvC scope cl C X.env) fp) own ifs t)
    (he : ∀ (s : Shared) (Hb : Hp) (C : Addr) (cl : List (Str × Addr)) (fp : List Addr), JE (X.blk s Hb scope (compEnvC scope cl C X.env) fp) own elt e)
    (hvs : (ow.map (·.2)).all (fun i => !own.contains i) = true := by decide) (his : is.all (fun i => (ow.map (·.2)).contains i) = true := by decide) (hs : ∀ x, foldedSetIterable iter X.env x = pure x := by intro _; rfl) :
    JE X own (.ListComp elt [⟨tg, iter, ifs, 0⟩] scope pos) (ecomp (ow.map (·.2)) f g t e) := ⟨fun {P F0 H0 σ F H δ W Q o} r tk hh hP => by
  refine we_of (pe_lc (g := bG X scope tg) (tt := bT X scope ifs) (te := bE X scope elt) hc hN pi_wi ok (fun s Hb C cl fp => ⟨fun pins s' σ' H' v u Q' I rv h => (h s Hb C cl fp) pins s' u I rv⟩) (fun s Hb C cl fp => ⟨fun pins s' σ' H' Q' I h => (h s Hb C cl fp) pins s' I⟩) (fun s Hb C cl fp => ⟨fun pins s' σ' H' Q' I h => (h s Hb C cl fp) pins s' I⟩) hs) ?_
  unfold ecomp at hh
  rw [← bindE_assoc] at hh
  cases e0 : bindE (f δ) (fun ds δ' => scomp (ow.map (·.2)) g t e ds [] (wipeD (ow.map (·.2)) δ')) with
  | none => rw [e0] at hh; cases hh
  | some o1 =>
    rw [e0] at hh
    refine lc_read (ow := ow) hi hg ht he hvs his r tk e0 (fun x δ' q => ?_) (fun ds δ' q Dd vs F' H' l x rv => ?_)
    · subst q; cases hh; exact hP
    · subst q; cases hh
      exact hP _ _ _ l.frz (x.trans (Ex.new l.nF)) (.lst upd_same (rv.mono (Ex.new l.nF)))⟩
/-- name = [..] -/
theorem js_setLc (i : Nat) {y : Str} {py spos : Pos} (hc : X.calm = true) (hN : X.N.Nodup) (hi : JI X own tg iter f) (ok : BlkOk X.N X.env.scope scope ow)
    (hg : ∀ (s : Shared) (Hb : Hp) (C : Addr) (cl : List (Str × Addr)) (fp : List Addr), JG (X.blk s Hb scope (compEnvC scope cl C X.env) fp) own tg is g)
    (ht : ∀ (s : Shared) (Hb : Hp) (C : Addr) (cl : List (Str × Addr)) (fp : List Addr), JTs (X.blk s Hb scope (compEnvC scope cl C X.env) fp) own ifs t)
    (he : ∀ (s : Shared) (Hb : Hp) (C : Addr) (cl : List (Str × Addr)) (fp : List Addr), JE (X.blk s Hb scope (compEnvC scope cl C X.env) fp) own elt e)
    (hy : X.N[i]? = some y := by rfl) (hyl : X.env.scope.names.lookup y = some .local := by rfl) (ho : i ∉ own := by decide)
    (hsw : swapsWith (.ListComp elt [⟨tg, iter, ifs, 0⟩] scope pos) (some (.Name y py)) spos.line X.env = pure true := by exact sw_true rfl rfl rfl (by decide +kernel))
    (hvs : (ow.map (·.2)).all (fun i => !own.contains i) = true := by decide) (his : is.all (fun i => (ow.map (·.2)).contains i) = true := by decide) (hs : ∀ x, foldedSetIterable iter X.env x = pure x := by intro _; rfl) :
    JS X own (.Assign [.Name y py] (.ListComp elt [⟨tg, iter, ifs, 0⟩] scope pos) spos) (sset i (ecomp (ow.map (·.2)) f g t e)) := ⟨fun {P F0 H0 σ F H δ W o D} _ r tk hh hP => by
  refine ws_of (ps_setLc (g := bG X scope tg) (tt := bT X scope ifs) (te := bE X scope elt) hc hN hy hyl hsw pi_wi ok (fun s Hb C cl fp => ⟨fun pins s' σ' H' v u Q' I rv h => (h s Hb C cl fp) pins s' u I rv⟩) (fun s Hb C cl fp => ⟨fun pins s' σ' H' Q' I h => (h s Hb C cl fp) pins s' I⟩) (fun s Hb C cl fp => ⟨fun pins s' σ' H' Q' I h => (h s Hb C cl fp) pins s' I⟩) hs) ?_
  unfold sset ecomp at hh
  rw [← bindE_assoc, bindE_assoc] at hh
  cases e0 : bindE (f δ) (fun ds δ' => scomp (ow.map (·.2)) g t e ds [] (wipeD (ow.map (·.2)) δ')) with
  | none => rw [e0] at hh; cases hh
  | some o1 =>
    rw [e0] at hh
    refine lc_read (ow := ow) hi hg ht he hvs his r tk e0 (fun x δ' q => ?_) (fun ds δ' q Dd vs F' H' l x rv => ?_)
    · subst q; cases hh; exact fun cls dd F' H' r1 e1 rx => hP cls dd σ F' H' r1 e1 rx
    · subst q; cases hh
      exact hP _ _ _ (l.frz.set ho (.lst upd_same (rv.mono (Ex.new l.nF)))) (x.trans (Ex.new l.nF))⟩
end
end PD
end
section
namespace PD
open PySem L2
/-- a module's constant -/
def Kc (K : Frag) (mg : Str → Option Value) (x : Str) (d : D) : Prop := ∃ u v, mg x = some u ∧ RelV v u ∧ ∀ F, Rep K F v d
theorem jp_k {X : Cx} {x : Str} {pos : Pos} {d : D} (h : Kc X.K X.mg x d) (hg : Gl X x := by rfl) (hd : (x == ("__debug__" : Str)) = false := by decide) : JP X (.Name x pos) (c d) := ⟨fun rp tk hg' hP => by
  obtain ⟨u, w, hm, rv, rep⟩ := h
  exact we_of (pe_glob hg hm rv hd) (hP.fin hg' _ _ _ (.refl rp.ex) (rep _))⟩
section
variable {P : Program} {w : World} {K : Frag} {mg : Str → Option Value} {base : Heap}
theorem fn_none {x qual : Str} {params : Arguments} {body : List Stmt} {scope : Scope} {f : Addr} {fd : FuncData} {dvs : List V} {kws : List (Str × V)} {N ps : List Str} {k : Nat} (F : FunD K x qual params body scope dvs kws f fd) (S : FnScope N ps scope) :
    FnOk P w K mg base (L2.CX P w) (k + 1) f fd ps (spP K fun _ => none) := by
  refine FunD.ok F S (fun vs H Q E h => ?_) (fun cdv A outer s H vs Q E hr h => ?_)
  · obtain ⟨_, _, _, _, _, h, _⟩ := h; cases h
  · obtain ⟨_, _, _, _, _, h, _⟩ := h; cases h
end
end PD
end
section
namespace PD
open PySem L2
section
variable {K : Frag} {own : List Nat} {P : Pm} {F0 H0 F : Hp} {σ : L2.St} {H : Hp} {δ : Env}
/-- a container's contents -/
inductive OwnO (K : Frag) (F : Hp) : HO → D → Prop
  | lst {vs : List V} {ds : List D} (r : Reps K F vs ds) : OwnO K F (.lst vs) (.lst ds)
  | dic {vs : List (Key × V)} {ds : List (Key × D)} (r : RepK K F vs ds) : OwnO K F (.dK vs) (.dic ds)
theorem OwnO.at {ob : HO} {d : D} {p : Addr} (o : OwnO K F ob d) (h : H p = some ob) : OwnV K F H (.ref p) d [p] := by
  cases o with
  | lst r => exact .lst h r
  | dic r => exact .dic h r
theorem OwnO.rep {ob : HO} {d : D} {p : Addr} (o : OwnO K F ob d) (h : F p = none) : Rep K (upd F p ob) (.ref p) d := by
  cases o with
  | lst r => exact .lst upd_same (r.mono (Ex.new h))
  | dic r => exact .dic upd_same (r.mono (Ex.new h))
theorem OwnO.mono {ob : HO} {d : D} {F' : Hp} (e : Ex F F') (o : OwnO K F ob d) : OwnO K F' ob d := by
  cases o with
  | lst r => exact .lst (r.mono e)
  | dic r => exact .dic (r.mono e)
/-- a new list becomes a slot's own -/
theorem LS.keepOwn {Dd : Addr} {ob : HO} {dd : D} {i : Nat} (l : LS K own P F0 H0 Dd ob F σ H δ) (rv : OwnO K F ob dd) (hi : i ∈ own) (hz : i ≠ 0) : RS K own P F0 H0 F (σ.set i (some (.ref Dd))) H (δ.set i (some dd)) := by
  obtain ⟨P', F1, H1, r, c, e, n, nf⟩ := l.r
  have hD := l.at
  have nF := l.nF
  obtain ⟨fp, h1, h2, h3⟩ := r.own
  have nD : ∀ i, Dd ∉ fp i := fun i hi => (h2 i Dd hi).2.2.elim (fun q => by rw [e] at q; cases q) n
  have R := r.back c
  exact {
    ff := R.ff
    fh := R.fh
    hh := R.hh
    dm := R.dm
    nw := R.nw
    ln := by rw [List.length_set, List.length_set, R.ln]
    par := fun a h => ⟨(R.par a h).1, by rw [List.getElem?_set_ne hz]; exact (R.par a h).2⟩
    val := fun j d hj h => by
      have hne : i ≠ j := fun q => hj (by rw [← q]; exact hi)
      rw [List.getElem?_set_ne hne] at h ⊢
      exact R.val j d hj h
    own := by
      refine ⟨fun j => if j = i then [Dd] else fp j, fun j d hj h => ?_, fun j a ha => ?_, fun j k a hjk ha hk => ?_⟩
      · by_cases q : i = j
        · subst q
          by_cases hl : i < δ.length
          · rw [List.getElem?_set_self hl] at h; cases h
            exact ⟨_, List.getElem?_set_self (by rw [R.ln]; exact hl), by dsimp only; rw [if_pos rfl]; exact rv.at hD⟩
          · rw [List.getElem?_eq_none (by rw [List.length_set]; omega)] at h; cases h
        · rw [List.getElem?_set_ne q] at h ⊢
          dsimp only
          rw [if_neg (fun x => q x.symm)]
          exact h1 j d hj h
      · dsimp only at ha
        by_cases q : j = i
        · rw [if_pos q] at ha; cases List.mem_singleton.1 ha
          exact ⟨nF, by rw [hD]; simp, .inl l.h0⟩
        · rw [if_neg q] at ha
          exact ⟨(h2 j a ha).1, (h2 j a ha).2.1, (h2 j a ha).2.2.elim (fun q => .inl (by
            cases e0 : H0 a with
            | none => rfl
            | some o => exact absurd q (c.dm a (by rw [e0]; simp)))) (c.pp a)⟩
      · dsimp only at ha
        by_cases q : j = i
        · rw [if_pos q] at ha; cases List.mem_singleton.1 ha
          dsimp only at hk
          rw [if_neg (fun x => hjk (q.trans x.symm))] at hk
          exact nD k hk
        · rw [if_neg q] at ha
          dsimp only at hk
          by_cases q2 : k = i
          · rw [if_pos q2] at hk; cases List.mem_singleton.1 hk
            exact nD j ha
          · rw [if_neg q2] at hk
            exact h3 j k a hjk ha hk }
/-- what a slot owns -/
theorem RS.lst {i : Nat} {ds : List D} (r : RS K own P F0 H0 F σ H δ) (hi : i ∈ own) (h : δ[i]? = some (some (.lst ds))) : ∃ p vs, σ[i]? = some (some (.ref p)) ∧ H p = some (.lst vs) ∧ Reps K F vs ds ∧ F p = none := by
  obtain ⟨fp, h1, h2, h3⟩ := r.own
  obtain ⟨v, hv, o⟩ := h1 i _ hi h
  cases hfp : fp i with
  | nil => rw [hfp] at o; cases o
  | cons a as =>
    have h2' := h2 i a (by rw [hfp]; exact List.mem_cons_self)
    rw [hfp] at o
    cases o with
    | lst hp rv => exact ⟨_, _, hv, hp, rv, h2'.1⟩
/-- .. changed -/
theorem RS.put {i : Nat} {ds ds' : List D} {p : Addr} {vs' : List V} (r : RS K own P F0 H0 F σ H δ) (hi : i ∈ own) (h : δ[i]? = some (some (.lst ds))) (hp : σ[i]? = some (some (.ref p))) (rv : Reps K F vs' ds') : RS K own P F0 H0 F σ (upd H p (.lst vs')) (δ.set i (some (.lst ds'))) := by
  obtain ⟨fp, h1, h2, h3⟩ := r.own
  obtain ⟨v, hv, o⟩ := h1 i _ hi h
  rw [hp] at hv; cases hv
  have hfp : fp i = [p] := by
    cases hfp : fp i with
    | nil => rw [hfp] at o; cases o
    | cons a as => rw [hfp] at o; cases o with | lst _ _ => rfl
  have hpi : p ∈ fp i := by rw [hfp]; exact List.mem_singleton.2 rfl
  obtain ⟨a1, a2, a3⟩ := h2 i p hpi
  have hl : i < δ.length := (List.getElem?_eq_some_iff.1 h).1
  exact {
    ff := r.ff
    fh := fun a q e => by
      have : a ≠ p := fun x => by rw [x, a1] at e; cases e
      rw [upd_ne this]; exact r.fh a q e
    hh := fun a q n e => by
      have : a ≠ p := fun x => by
        subst x
        exact a3.elim (fun z => by rw [z] at e; cases e) n
      rw [upd_ne this]; exact r.hh a q n e
    dm := fun a e => by
      by_cases x : a = p
      · subst x; rw [upd_same]; simp
      · rw [upd_ne x]; exact r.dm a e
    nw := r.nw
    ln := by rw [List.length_set, r.ln]
    par := r.par
    val := fun j d hj e => by
      have hne : i ≠ j := fun q => hj (by rw [← q]; exact hi)
      rw [List.getElem?_set_ne hne] at e
      exact r.val j d hj e
    own := by
      refine ⟨fp, fun j d hj e => ?_, fun j a ha => ?_, h3⟩
      · by_cases q : i = j
        · subst q
          rw [List.getElem?_set_self hl] at e; cases e
          exact ⟨_, hp, by rw [hfp]; exact .lst upd_same rv⟩
        · rw [List.getElem?_set_ne q] at e
          obtain ⟨w, hw, ow⟩ := h1 j d hj e
          exact ⟨w, hw, ow.keep (Ex.refl _) fun a ha o e => by rw [upd_ne (fun x : a = p => h3 i j p q hpi (x ▸ ha))]; exact e⟩
      · obtain ⟨b1, b2, b3⟩ := h2 j a ha
        refine ⟨b1, ?_, b3⟩
        by_cases x : a = p
        · subst x; rw [upd_same]; simp
        · rw [upd_ne x]; exact b2 }
/-- .. given away -/
theorem RS.mv {i : Nat} {ds : List D} {p : Addr} {vs : List V} (r : RS K own P F0 H0 F σ H δ) (hi : i ∈ own) (h : δ[i]? = some (some (.lst ds))) (hp : σ[i]? = some (some (.ref p))) (hH : H p = some (.lst vs)) (hpar : H0 p = none) : RS K own P F0 H0 (upd F p (.lst vs)) σ H (δ.set i none) := by
  obtain ⟨fp, h1, h2, h3⟩ := r.own
  obtain ⟨v, hv, o⟩ := h1 i _ hi h
  rw [hp] at hv; cases hv
  have hfp : fp i = [p] := by
    cases hfp : fp i with
    | nil => rw [hfp] at o; cases o
    | cons a as => rw [hfp] at o; cases o with | lst _ _ => rfl
  have hpi : p ∈ fp i := by rw [hfp]; exact List.mem_singleton.2 rfl
  obtain ⟨a1, a2, a3⟩ := h2 i p hpi
  have hl : i < δ.length := (List.getElem?_eq_some_iff.1 h).1
  exact {
    ff := r.ff.trans (Ex.new a1)
    fh := fun a q e => by
      by_cases x : a = p
      · subst x; rw [upd_same] at e; cases e; exact hH
      · rw [upd_ne x] at e; exact r.fh a q e
    hh := r.hh
    dm := r.dm
    nw := fun a e => (upd_ne_none e).elim (r.nw a) fun x => .inr (by rw [x]; exact hpar)
    ln := by rw [List.length_set, r.ln]
    par := r.par
    val := fun j d hj e => by
      have hne : i ≠ j := fun q => hj (by rw [← q]; exact hi)
      rw [List.getElem?_set_ne hne] at e
      obtain ⟨w, hw, rw'⟩ := r.val j d hj e
      exact ⟨w, hw, rw'.mono (Ex.new a1)⟩
    own := by
      refine ⟨fun j => if j = i then [] else fp j, fun j d hj e => ?_, fun j a ha => ?_, fun j k a hjk ha hk => ?_⟩
      · by_cases q : i = j
        · subst q
          rw [List.getElem?_set_self hl] at e; cases e
        · rw [List.getElem?_set_ne q] at e
          dsimp only
          rw [if_neg (fun x => q x.symm)]
          obtain ⟨w, hw, ow⟩ := h1 j d hj e
          exact ⟨w, hw, ow.keep (Ex.new a1) fun a ha o e => e⟩
      · dsimp only at ha
        by_cases q : j = i
        · rw [if_pos q] at ha; cases ha
        · rw [if_neg q] at ha
          obtain ⟨b1, b2, b3⟩ := h2 j a ha
          exact ⟨by rw [upd_ne (fun x : a = p => h3 i j p (fun z => q z.symm) hpi (x ▸ ha))]; exact b1, b2, b3⟩
      · dsimp only at ha
        by_cases q : j = i
        · rw [if_pos q] at ha; cases ha
        · rw [if_neg q] at ha
          dsimp only at hk
          by_cases q2 : k = i
          · rw [if_pos q2] at hk; cases hk
          · rw [if_neg q2] at hk
            exact h3 j k a hjk ha hk }
end
/-! ### new lists -/
def PostN (X : Cx) (f : Fr) (F : Hp) (σ : L2.St) (W : WX) (o : Except (XD × Env) (D × Env)) (Q : VK) : Prop := match o with
  | .ok (d, δ') => ∀ Dd ob F' H', LS X.K f.own f.P f.F0 f.H0 Dd ob F' σ H' δ' → Ex F F' → OwnO X.K F' ob d → Q (.ref Dd) H'
  | .error (x, δ') => ∀ cls dd F' H', RSf X f F' σ H' δ' → Ex F F' → RepX X.K F' cls dd x → W cls dd σ H'
theorem PostN.later {X : Cx} {f : Fr} {F F1 : Hp} {σ : L2.St} {W : WX} {o : Except (XD × Env) (D × Env)} {Q : VK} (e : Ex F F1) (p : PostN X f F σ W o Q) : PostN X f F1 σ W o Q := by
  rcases o with x | ⟨d, δ'⟩
  · exact fun c d F' H' r g' rv => p c d F' H' r (e.trans g') rv
  · exact fun Dd ob F' H' r g' rv => p Dd ob F' H' r (e.trans g') rv
structure JN (X : Cx) (own : List Nat) (e : Expr) (g : Env → RE D) : Prop where
  run : ∀ {P F0 H0 σ F H δ W Q o}, RSf X ⟨own, P, F0, H0⟩ F σ H δ → Takes X W → g δ = some o → PostN X ⟨own, P, F0, H0⟩ F σ W o Q → WE X e σ H Q
section
variable {X : Cx} {own : List Nat} {e a b : Expr} {es : List Expr} {pos : Pos}
/-- an expression in a new thing -/
theorem sn_bind {α β : Type} {w : L2.St → Hp → (β → Hp → Prop) → Prop} {rel : Hp → β → α → Prop} {g : Env → RE α} {k : α → Env → RE D} {σ : L2.St} {P : Pm} {F0 H0 F H : Hp} {δ : Env} {W : WX} {o : Except (XD × Env) (D × Env)} {Q : VK} {Q1 : β → Hp → Prop}
    (ha : JS0 X own w rel g) (r : RSf X ⟨own, P, F0, H0⟩ F σ H δ) (tk : Takes X W) (hg : bindE (g δ) k = some o) (hP : PostN X ⟨own, P, F0, H0⟩ F σ W o Q)
    (hk : ∀ x v δ1 F1 H1, k x δ1 = some o → Ex F F1 → rel F1 v x → RSf X ⟨own, P, F0, H0⟩ F1 σ H1 δ1 → PostN X ⟨own, P, F0, H0⟩ F1 σ W o Q → Q1 v H1) : w σ H Q1 := by
  cases e : g δ with
  | none => rw [e] at hg; cases hg
  | some y => cases y with
    | ok x => rw [e] at hg; exact ha.run r tk e fun v F1 H1 r1 e1 rx => hk x.1 v x.2 F1 H1 hg e1 rx r1 (hP.later e1)
    | error x => rw [e] at hg; cases hg; exact ha.run r tk e fun c d F' H' r1 e1 rx => hP c d F' H' r1 e1 rx
theorem PostN.fin {f : Fr} {F : Hp} {σ : L2.St} {W : WX} {Q : VK} {d : D} {δ : Env} {o : Except (XD × Env) (D × Env)} (h : some (.ok (d, δ)) = some o) (p : PostN X f F σ W o Q) : ∀ Dd ob F' H', LS X.K f.own f.P f.F0 f.H0 Dd ob F' σ H' δ → Ex F F' → OwnO X.K F' ob d → Q (.ref Dd) H' := by
  cases h; exact p
/-- frozen -/
theorem je_n {g : Env → RE D} (h : JN X own e g) : JE X own e g := ⟨fun {P F0 H0 σ F H δ W Q o} r tk hg hP => by
  rcases o with x | ⟨d, δ1⟩
  · exact h.run r tk hg hP
  · exact h.run r tk hg fun Dd vs F' H' l ex rv => hP _ _ _ l.frz (ex.trans (Ex.new l.nF)) (rv.rep l.nF)⟩
/-- x = a new container, x a slot's own -/
theorem js_setN (i : Nat) {x : Str} {pos' : Pos} {g : Env → RE D} (hN : X.N.Nodup) (h : JN X own e g) (hi : X.N[i]? = some x := by rfl) (hx : Loc X.env.scope x := by first | exact Or.inl rfl | exact Or.inr rfl) (ho : i ∈ own := by decide) (hz : i ≠ 0 := by decide)
    (hs : swapsWith e (some (.Name x pos')) pos.line X.env = pure false := by rfl) (hf : X.fn x = true ∨ X.env.scope.names.lookup x = some .local := by first | exact .inl rfl | exact .inr rfl | assumption) : JS X own (.Assign [.Name x pos'] e pos) (sset i g) := ⟨fun {P F0 H0 σ F H δ W o D} _ r tk hg hP => by
  refine ws_of (ps_set hN hi hx pe_we hs hf) ?_
  unfold sset at hg
  cases e0 : g δ with
  | none => rw [e0] at hg; cases hg
  | some y =>
    rw [e0] at hg
    rcases y with ⟨x, δ1⟩ | ⟨d, δ1⟩
    · cases hg; exact h.run r tk e0 fun c d F' H' r1 e1 rx => hP c d σ F' H' r1 e1 rx
    · cases hg; exact h.run r tk e0 fun Dd vs F' H' l ex rv => hP _ _ _ (l.keepOwn rv ho hz) ex⟩
theorem jn_lst {f : Env → RE (List D)} (ha : JAE X own es f) : JN X own (.List es pos) (elst f) := ⟨fun {P F0 H0 σ F H δ W Q o} r tk hg hP => by
  refine we_of (pe_lst pa_wa) (sn_bind (w := WA X es) ha r tk hg hP fun xs vs δ1 F1 H1 h1 e1 rx r1 P1 => ?_)
  by_cases hl : xs.length ≤ sizeLine
  · rw [if_pos hl] at h1
    exact ⟨by rw [Rep.len rx]; exact hl, fun p hp => P1.fin h1 _ _ _ _ (.start r1 hp) (Ex.refl _) (.lst rx)⟩
  · rw [if_neg hl] at h1; cases h1⟩
/-- a slot's own list given away -/
def emv (i : Nat) : Env → RE D := fun δ => match δ[i]? with
  | some (some (.lst ds)) => some (.ok (.lst ds, δ.set i none))
  | _ => none
/-! x.append(e) -/
def sapp (i : Nat) (f : Env → RE D) : Env → RO := fun δ => match δ[i]? with
  | some (some (.lst _)) => bindE (f δ) fun d δ' => (match δ'[i]? with
    | some (some (.lst ds)) => if ds.length < sizeLine then some (.ok (.nx, δ'.set i (some (.lst (ds ++ [d]))))) else none
    | _ => none)
  | _ => none
theorem own_at {δ : Env} {i : Nat} {α : Type} {k : List D → Option α} {o : α} (h : (match δ[i]? with | some (some (.lst ds)) => k ds | _ => none) = some o) : ∃ ds, δ[i]? = some (some (.lst ds)) ∧ k ds = some o := by
  split at h
  · exact ⟨_, by assumption, h⟩
  · cases h
theorem js_app (i : Nat) {x : Str} {p1 p2 p3 : Pos} {f : Env → RE D} (h : JE X own e f) (hi : X.N[i]? = some x := by rfl) (hv : Vis X.env.scope x := by first | exact Or.inl rfl | exact Or.inr (Or.inl rfl) | exact Or.inr (Or.inr rfl)) (ho : i ∈ own := by decide)
    (hd : (x == ("__debug__" : Str)) = false := by decide) (hcd : (x == ("__classdict__" : Str)) = false := by decide)
    (hbase : attributeBase (.Name x p1) "append" X.env (eval (.Name x p1) X.env) = eval (.Name x p1) X.env := by rfl)
    (hfew : ((backTo p3 (starEach [e] X.env)).all (fun x => !x.1) && (backToKw p3 (keywordEach [] X.env)).all (fun x => x.1.isSome) && decide (([e] : List Expr).length + ([] : List Keyword).length + (if ([] : List Keyword).isEmpty then 0 else 1) < 30)) = true := by rfl)
    (hline : (p2.endLine == p3.line) = true := by rfl) (hs : starEach [e] X.env = (false, eval e X.env) :: starEach [] X.env := by rfl) (hplain : (backTo p3 (starEach [] X.env)).any (·.1) = false := by rfl)
    (hsw : swapsWith (.Call (.Attribute (.Name x p1) "append" p2) [e] [] p3) none pos.line X.env = pure false := by rfl) : JS X own (.Expr (.Call (.Attribute (.Name x p1) "append" p2) [e] [] p3) pos) (sapp i f) := ⟨fun {P F0 H0 σ F H δ W o D} _ r tk hg hP => by
  obtain ⟨ds0, h0, hg⟩ := own_at hg
  obtain ⟨p, vs0, hp, hH0, rv0, hF0⟩ := r.lst ho h0
  refine ws_of (ps_expr (pe_bm PySem.F.plainAttrs_list PySem.F.slot_list_append PySem.F.type_list_append mt_append (pe_var hi hv hd hcd) (pa_cons pe_we pa_nil hs) hbase hfew hline hs hplain) hsw) ⟨_, hp, .inl ⟨rfl, _, SqL.of hH0⟩, ?_⟩
  refine se_bind (w := WE X e) h r tk hg hP fun d v δ1 F1 H1 h1 e1 rx r1 P1 => ?_
  obtain ⟨ds, h2, h1⟩ := own_at h1
  split at h1
  · rename_i hl
    cases h1
    obtain ⟨p', vs, hp', hH, rv, hF⟩ := r1.lst ho h2
    rw [hp] at hp'; cases hp'
    exact ⟨p, vs, v, rfl, rfl, hH, by rw [Rep.len rv]; exact hl, P1 _ F1 _ (r1.put ho h2 hp (rv.app (.cons rx .nil))) (Ex.refl _)⟩
  · cases h1⟩
/-! x.pop(e) -/
def epop (i : Nat) (f : Env → RE D) : Env → RE D := fun δ => match δ[i]? with
  | some (some (.lst _)) => bindE (f δ) fun d δ' => (match δ'[i]? with
    | some (some (.lst ds)) => (match d with
      | .int k => if 0 ≤ k ∧ k < 2 ^ 63 then (match ds[k.toNat]? with
        | some y => some (.ok (y, δ'.set i (some (.lst (ds.eraseIdx k.toNat)))))
        | none => none) else none
      | _ => none)
    | _ => none)
  | _ => none
theorem Reps.erase {K : Frag} {F : Hp} : ∀ {vs : List V} {ds : List D} (n : Nat), Reps K F vs ds → Reps K F (vs.eraseIdx n) (ds.eraseIdx n)
  | _, _, _, .nil => .nil
  | _, _, 0, .cons _ r => r
  | _, _, n + 1, .cons h r => .cons h (Reps.erase n r)
theorem je_pop (i : Nat) {x : Str} {p1 p2 : Pos} {f : Env → RE D} (h : JE X own e f) (hi : X.N[i]? = some x := by rfl) (hv : Vis X.env.scope x := by first | exact Or.inl rfl | exact Or.inr (Or.inl rfl) | exact Or.inr (Or.inr rfl)) (ho : i ∈ own := by decide)
    (hd : (x == ("__debug__" : Str)) = false := by decide) (hcd : (x == ("__classdict__" : Str)) = false := by decide)
    (hbase : attributeBase (.Name x p1) "pop" X.env (eval (.Name x p1) X.env) = eval (.Name x p1) X.env := by rfl)
    (hfew : ((backTo pos (starEach [e] X.env)).all (fun x => !x.1) && (backToKw pos (keywordEach [] X.env)).all (fun x => x.1.isSome) && decide (([e] : List Expr).length + ([] : List Keyword).length + (if ([] : List Keyword).isEmpty then 0 else 1) < 30)) = true := by rfl)
    (hline : (p2.endLine == pos.line) = true := by rfl) (hs : starEach [e] X.env = (false, eval e X.env) :: starEach [] X.env := by rfl) (hplain : (backTo pos (starEach [] X.env)).any (·.1) = false := by rfl) : JE X own (.Call (.Attribute (.Name x p1) "pop" p2) [e] [] pos) (epop i f) := ⟨fun {P F0 H0 σ F H δ W Q o} r tk hg hP => by
  obtain ⟨ds0, h0, hg⟩ := own_at hg
  obtain ⟨p, vs0, hp, hH0, rv0, hF0⟩ := r.lst ho h0
  refine we_of (pe_bm PySem.F.plainAttrs_list PySem.F.slot_list_pop PySem.F.type_list_pop mt_popAt (pe_var hi hv hd hcd) (pa_cons pe_we pa_nil hs) hbase hfew hline hs hplain) ⟨_, hp, .inl ⟨rfl, _, SqL.of hH0⟩, ?_⟩
  refine js_bind (w := WE X e) h r tk hg hP fun d v δ1 F1 H1 h1 e1 rx r1 P1 => ?_
  obtain ⟨ds, h2, h3⟩ := own_at h1
  clear h1
  obtain ⟨p', vs, hp', hH, rv, hF⟩ := r1.lst ho h2
  rw [hp] at hp'; cases hp'
  cases rx with
  | int k =>
    dsimp only at h3
    split at h3
    · rename_i hk
      split at h3
      · rename_i y hy
        cases h3
        obtain ⟨w, hw, rw'⟩ := rv.get hy
        have hlt : k.toNat < vs.length := (List.getElem?_eq_some_iff.1 hw).1
        exact ⟨p, vs, k, k.toNat, w, rfl, rfl, hH, by omega, hk.2, (ixN_seq (by unfold ixN; rw [if_pos hk.1, if_pos (by omega)])).1, hw, P1 _ F1 _ (r1.put ho h2 hp (rv.erase k.toNat)) (Ex.refl _) rw'⟩
      · cases h3
    · cases h3
  | _ => cases h3⟩
end
end PD
end
section
namespace PD
open PySem L2
/-! ### a def that changes its first argument, a list -/
structure GrowB (p : Addr) (F H F' H' : Hp) : Prop where
  ff : Ex F F'
  fh : Ex F' H'
  hh : ∀ a o, a ≠ p → H a = some o → H' a = some o
  nw : ∀ a, F' a ≠ none → F a ≠ none ∨ H a = none
  np : F' p = none
def spB (K : Frag) (m : List D → List D → Option (D × List D)) : Sp := fun vs H Q _ => ∃ F p ws bs B ds d B', vs = .ref p :: ws ∧ Ex F H ∧ F p = none ∧ H p = some (.lst bs) ∧ Reps K F bs B ∧ Reps K F ws ds ∧ m B ds = some (d, B') ∧
  ∀ v F' H' bs', GrowB p F H F' H' → H' p = some (.lst bs') → Reps K F' bs' B' → Rep K F' v d → Q v H'
structure FnB (P : Program) (w : World) (K : Frag) (mg : Str → Option Value) (base : Heap) (k : Nat) (x : Str) (m : List D → List D → Option (D × List D)) : Prop where
  at_ : ∃ f fd ps, FnOk P w K mg base (L2.CX P w) k f fd ps (spB K m) ∧ mg x = some (.ref f) ∧ PySem.W.keepIn K (.ref f) = true ∧ Binds K fd ps []
def bxOf (d : D) (δ : Env) : Option (D × List D) := match δ[(0 : Nat)]? with
  | some (some (.lst B')) => some (d, B')
  | _ => none
def denB (n N : Nat) (body : Env → RO) (B ds : List D) : Option (D × List D) := if ds.length + 1 = n then (match body (some (.lst B) :: (ds.map some ++ List.replicate (N - n) none)) with
  | some (.ok (.rt d, δ)) => bxOf d δ
  | some (.ok (.nx, δ)) => bxOf .non δ
  | _ => none) else none
theorem bxOf_some {d d' : D} {δ : Env} {B : List D} (h : bxOf d δ = some (d', B)) : d = d' ∧ δ[0]? = some (some (.lst B)) := by
  unfold bxOf at h
  split at h
  · cases h; exact ⟨rfl, by assumption⟩
  · cases h
section
variable {P : Program} {w : World} {K : Frag} {mg : Str → Option Value} {base : Heap}
theorem fnB_ok {x qual : Str} {params : Arguments} {body : List Stmt} {scope : Scope} {f : Addr} {fd : FuncData} {dvs : List V} {kws : List (Str × V)} {N ps : List Str} {k : Nat} {own : List Nat} {g : Env → RO} (F : FunD K x qual params body scope dvs kws f fd) (S : FnScope N ps scope) (hon : own.all (fun i => decide (i = 0 ∨ ps.length ≤ i)) = true) (h0 : own.contains 0 = true)
    (hps : decide (ps.length ≤ N.length) = true)
    (hb : ∀ (cdv : Value) (A : Around) (outer : List PySem.Env) (s : Shared) (H : Hp) (E : XK), Room k (A.deeper (PyProof.Rows.envOfC qual scope s.heap.objs.size f cdv)) → JSs (cxOf (L2.CX P w) P w K mg base N qual scope f cdv A outer s H E) own body g) :
    FnOk P w K mg base (L2.CX P w) (k + 1) f fd ps (spB K (denB ps.length N.length g)) := by
  refine FunD.ok F S (fun vs H Q E h => ?_) (fun cdv A outer s H vs Q E hr h => ?_)
  · obtain ⟨F', p, ws, bs, B, ds, d, B', rfl, e, hF, hH, rb, rd, h1, _⟩ := h
    unfold denB at h1
    by_cases hl : ds.length + 1 = ps.length
    · rw [List.length_cons, Rep.len rd, hl]
    · rw [if_neg hl] at h1; cases h1
  · obtain ⟨F', p, ws, bs, B, ds, d, B', rfl, e, hF, hH, rb, rd, h1, hP⟩ := h
    unfold denB at h1
    by_cases hl : ds.length + 1 = ps.length
    · rw [if_pos hl] at h1
      have hl' : ps.length ≤ N.length := of_decide_eq_true hps
      have hlv : ws.length = ds.length := Rep.len rd
      have h0' : 0 ∈ own := by simpa using h0
      refine ⟨_, pss_wss, ?_⟩
      have tk : Takes (cxOf (L2.CX P w) P w K mg base N qual scope f cdv A outer s H E) (fun cls d _ H => E cls d H) := takes_of rfl rfl rfl rfl
      have R0 : RSf (cxOf (L2.CX P w) P w K mg base N qual scope f cdv A outer s H E) ⟨own, ⟨fun a => a = p, fun a => a = p⟩, F', H⟩ F' (L2.start N (.ref p :: ws)) H (some (.lst B) :: (ds.map some ++ List.replicate (N.length - ps.length) none)) := {
        ff := Ex.refl _
        fh := e
        hh := fun _ _ _ h => h
        dm := fun _ h => h
        nw := fun _ h => .inl h
        ln := by unfold L2.start; simp [hlv]; omega
        par := fun a h => ⟨h0', by rw [show a = p from h]; rfl⟩
        val := fun i d hi h => by
          cases i with
          | zero => exact absurd h0' hi
          | succ i =>
            unfold L2.start
            rw [List.getElem?_cons_succ] at h
            rw [List.map_cons, List.cons_append, List.getElem?_cons_succ]
            exact Reps.some_get rd h
        own := ⟨fun i => if i = 0 then [p] else [], And.intro (fun (i : Nat) (d : D) hi (h : (some (D.lst B) :: (List.map some ds ++ List.replicate (N.length - ps.length) (none : Option D)))[i]? = some (some d)) => by
          cases i with
          | zero => cases h; exact ⟨.ref p, rfl, .lst hH rb⟩
          | succ i =>
            have := of_decide_eq_true (List.all_eq_true.1 hon _ hi)
            rw [List.getElem?_cons_succ, List.getElem?_append_right (by rw [List.length_map]; omega), List.getElem?_replicate] at h
            split at h <;> cases h) (And.intro (fun i a h => by
              dsimp only at h
              by_cases q : i = 0
              · rw [if_pos q] at h; cases List.mem_singleton.1 h; exact ⟨hF, by rw [hH]; simp, .inr rfl⟩
              · rw [if_neg q] at h; cases h) (fun i j a hij h h2 => by
              dsimp only at h h2
              by_cases q : i = 0
              · rw [if_neg (fun z => hij (q.trans z.symm))] at h2; cases h2
              · rw [if_neg q] at h; cases h))⟩ }
      have fin : ∀ (v : V) (σ' : L2.St) (F1 H1 : Hp) (δ' : Env), RSf (cxOf (L2.CX P w) P w K mg base N qual scope f cdv A outer s H E) ⟨own, ⟨fun a => a = p, fun a => a = p⟩, F', H⟩ F1 σ' H1 δ' → δ'[0]? = some (some (.lst B')) → Rep K F1 v d → Q v H1 := fun v σ' F1 H1 δ' r1 hB rv => by
        obtain ⟨p', bs', hp', hH', rb', hF1⟩ := r1.lst h0' hB
        have := (r1.par p rfl).2
        rw [this] at hp'; cases hp'
        exact hP v F1 H1 bs' ⟨r1.ff, r1.fh, fun a o hne h => r1.hh a o hne h, r1.nw, hF1⟩ hH' rb' rv
      cases e2 : g (some (.lst B) :: (ds.map some ++ List.replicate (N.length - ps.length) none)) with
      | none => rw [e2] at h1; cases h1
      | some y =>
        rw [e2] at h1
        refine (hb cdv A outer s H E hr).run R0 tk e2 ?_
        rcases y with ⟨x, δ'⟩ | ⟨o1, δ'⟩
        · cases h1
        · cases o1 with
          | rt d1 => obtain ⟨rfl, hB⟩ := bxOf_some h1; exact fun v σ' F1 H1 r1 e1 rx => fin v σ' F1 H1 δ' r1 hB rx
          | nx => obtain ⟨rfl, hB⟩ := bxOf_some h1; exact fun σ' F1 H1 r1 e1 => fin .non σ' F1 H1 δ' r1 hB .non
          | bk => cases h1
          | ct => cases h1
    · rw [if_neg hl] at h1; cases h1
end
theorem RS.boxed {K : Frag} {own : List Nat} {P : Pm} {F0 H0 F F' H' : Hp} {σ : L2.St} {H : Hp} {δ : Env} {i : Nat} {p : Addr} {B B' : List D} {bs' : List V} (r : RS K own P F0 H0 F σ H δ) (hi : i ∈ own) (h : δ[i]? = some (some (.lst B))) (hp : σ[i]? = some (some (.ref p))) (g : GrowB p F H F' H') (hH : H' p = some (.lst bs')) (rv : Reps K F' bs' B') : RS K own P F0 H0 F' σ H' (δ.set i (some (.lst B'))) := by
  obtain ⟨fp, h1, h2, h3⟩ := r.own
  obtain ⟨v, hv, o⟩ := h1 i _ hi h
  rw [hp] at hv; cases hv
  have hfp : fp i = [p] := by
    cases hfp : fp i with
    | nil => rw [hfp] at o; cases o
    | cons a as => rw [hfp] at o; cases o with | lst _ _ => rfl
  have hpi : p ∈ fp i := by rw [hfp]; exact List.mem_singleton.2 rfl
  obtain ⟨a1, a2, a3⟩ := h2 i p hpi
  have hl : i < δ.length := (List.getElem?_eq_some_iff.1 h).1
  exact {
    ff := r.ff.trans g.ff
    fh := g.fh
    hh := fun a q n e => by
      have : a ≠ p := fun x => by
        subst x
        exact a3.elim (fun z => by rw [z] at e; cases e) n
      exact g.hh a q this (r.hh a q n e)
    dm := fun a e => by
      by_cases x : a = p
      · subst x; rw [hH]; simp
      · cases e2 : H a with
        | none => exact absurd e2 (r.dm a e)
        | some o => rw [g.hh a o x e2]; simp
    nw := fun a e => (g.nw a e).elim (r.nw a) fun z => .inr (by
      cases e0 : H0 a with
      | none => rfl
      | some o => exact absurd z (r.dm a (by rw [e0]; simp)))
    ln := by rw [List.length_set, r.ln]
    par := r.par
    val := fun j d hj e => by
      have hne : i ≠ j := fun q => hj (by rw [← q]; exact hi)
      rw [List.getElem?_set_ne hne] at e
      obtain ⟨w, hw, rw'⟩ := r.val j d hj e
      exact ⟨w, hw, rw'.mono g.ff⟩
    own := by
      refine ⟨fp, fun j d hj e => ?_, fun j a ha => ?_, h3⟩
      · by_cases q : i = j
        · subst q
          rw [List.getElem?_set_self hl] at e; cases e
          exact ⟨_, hp, by rw [hfp]; exact .lst hH rv⟩
        · rw [List.getElem?_set_ne q] at e
          obtain ⟨w, hw, ow⟩ := h1 j d hj e
          exact ⟨w, hw, ow.keep g.ff fun a ha o e => g.hh a o (fun x : a = p => h3 i j p q hpi (x ▸ ha)) e⟩
      · obtain ⟨b1, b2, b3⟩ := h2 j a ha
        by_cases x : a = p
        · subst x; exact ⟨g.np, by rw [hH]; simp, b3⟩
        · refine ⟨?_, ?_, b3⟩
          · cases q : F' a with
            | none => rfl
            | some o => exact ((g.nw a (by rw [q]; simp)).elim (fun z => absurd b1 z) fun z => absurd z b2)
          · cases q : H a with
            | none => exact absurd q b2
            | some o => rw [g.hh a o x q]; simp }
def ecallB (m : List D → List D → Option (D × List D)) (i : Nat) (a : Env → RE (List D)) : Env → RE D := fun δ => match δ[i]? with
  | some (some (.lst _)) => bindE (a δ) fun ds δ' => (match δ'[i]? with
    | some (some (.lst B)) => (m B ds).map fun q => .ok (q.1, δ'.set i (some (.lst q.2)))
    | _ => none)
  | _ => none
theorem je_callB {X : Cx} {own : List Nat} (i : Nat) {k : Nat} {x y : Str} {p py pos : Pos} {es : List Expr} {m : List D → List D → Option (D × List D)} {f : Env → RE (List D)} (hf : FnB X.prog X.w X.K X.mg X.base k x m) (hr : Room k X.A) (ha : JAE X own es f) (hi : X.N[i]? = some y := by rfl) (hv : Vis X.env.scope y := by first | exact Or.inl rfl | exact Or.inr (Or.inl rfl) | exact Or.inr (Or.inr rfl)) (ho : i ∈ own := by decide) (hg : Gl X x := by rfl)
    (hd : (y == ("__debug__" : Str)) = false := by decide) (hcd : (y == ("__classdict__" : Str)) = false := by decide)
    (hdb : (x == ("__debug__" : Str)) = false := by decide) (he : starEach (.Name y py :: es) X.env = (false, eval (.Name y py) X.env) :: starEach es X.env := by rfl) (hpl : (backTo pos (starEach es X.env)).any (·.1) = false := by rfl) :
    JE X own (.Call (.Name x p) (.Name y py :: es) [] pos) (ecallB m i f) := ⟨fun {P F0 H0 σ F H δ W Q o} r tk hg' hP => by
  obtain ⟨fa, fd, ps, Fo, hm, hk, hb⟩ := hf.at_
  obtain ⟨ds0, h0, hg'⟩ := own_at hg'
  obtain ⟨q, vs0, hp, hH0, rv0, hF0⟩ := r.lst ho h0
  refine we_of (pe_callS Fo hr hg hm hk hb (fun σ => passAt tk σ) (pa_cons (pe_var hi hv hd hcd) pa_wa he) hdb he hpl) ⟨_, hp, ?_⟩
  refine js_bind (w := WA X es) ha r tk hg' hP fun xs vs δ1 F1 H1 h1 e1 rx r1 P1 => ?_
  obtain ⟨B, h2, h3⟩ := own_at h1
  clear h1
  obtain ⟨p', bs, hp', hH, rv, hF⟩ := r1.lst ho h2
  rw [hp] at hp'; cases hp'
  simp only [Option.map_eq_some_iff] at h3
  obtain ⟨⟨d, B'⟩, hm', rfl⟩ := h3
  exact ⟨F1, q, vs, bs, B, xs, d, B', rfl, r1.fh, hF, hH, rv, rx, hm', fun v F' H' bs' g hH' rb rd => P1 v F' H' (r1.boxed ho h2 hp g hH' rb) g.ff rd⟩⟩
end PD
end
section
namespace PD
open PySem L2
/-! ### subscripts with state -/
def eop (g : D → D → Option D) (fa fb : Env → RE D) : Env → RE D := eop2 g fa fb
theorem je_ix {X : Cx} {own : List Nat} {a b : Expr} {pos : Pos} {fa fb : Env → RE D} {k : Nat} (hr : Room k X.A) (ha : JE X own a fa) (hb : JE X own b fb) (hs : PlainIx b := by exact fun _ _ => rfl) : JE X own (.Subscript a b pos) (eop2 dIx fa fb) := ⟨fun {P F0 H0 σ F H δ W Q o} r tk hg hP => by
  unfold eop2 at hg
  cases e0 : fa δ with
  | none => rw [e0] at hg; cases hg
  | some y =>
    rw [e0] at hg
    rcases y with ⟨x, δ1⟩ | ⟨x, δ1⟩
    · cases hg; exact we_of (pe_ix ix_any pe_we pe_we hs) (ha.run r tk e0 hP)
    · simp only [bindE] at hg
      cases hx : isDic x with
      | false => exact we_of (pe_ix ix_any pe_we pe_we hs) (ha.run r tk e0 fun vx F1 H1 r1 e1 rx => js_bind (w := WE X b) hb r1 tk hg (hP.later e1) fun y vy δ2 F2 H2 h2 e2 ry r2 P2 => by
          simp only [Option.map_eq_some_iff] at h2
          obtain ⟨z, hz, rfl⟩ := h2
          exact d_ix r2.fh (rx.mono e2) ry hz hx _ fun v F' H' g rv => P2 v F' H' (r2.grow g) g.ff rv)
      | true => exact we_of (pe_dget (hu_of hr) pe_we pe_we hs) (ha.run r tk e0 fun vx F1 H1 r1 e1 rx => js_bind (w := WE X b) hb r1 tk hg (hP.later e1) fun y vy δ2 F2 H2 h2 e2 ry r2 P2 => by
          simp only [Option.map_eq_some_iff] at h2
          obtain ⟨z, hz, rfl⟩ := h2
          obtain ⟨p, w, ew, hD, rw'⟩ := d_dget r2.fh (rx.mono e2) ry hz hx
          exact ⟨p, w, ew, hD, P2 w F2 H2 r2 (Ex.refl _) rw'⟩)⟩
/-! ### slices -/
def cutD (xs : List D) (lo hi : Option Int) : List D := (xs.drop (HT.sIx xs.length 0 lo)).take (HT.sIx xs.length xs.length hi - HT.sIx xs.length 0 lo)
theorem Reps.cut {K : Frag} {F : Hp} {vs : List V} {ds : List D} (r : Reps K F vs ds) (lo hi : Option Int) : Reps K F (cutV vs lo hi) (cutD ds lo hi) := by
  unfold cutV cutD
  rw [Rep.len r]
  exact (r.drop _).take _
def asI : D → Option (Option Int)
  | .int i => some (some i)
  | _ => none
def WO (X : Cx) (e : Option Expr) (σ : L2.St) (H : Hp) (Q : Option Int → Hp → Prop) : Prop := ∃ t, PO X e t ∧ t σ H Q
abbrev JO (X : Cx) (e : Option Expr) (g : Env → Rs (Option Int)) : Prop := J X (WO X e) (fun _ b a => b = a) g
def onone : Env → Rs (Option Int) := fun _ => ok none
def osome (f : Env → Rs D) : Env → Rs (Option Int) := fun δ => bind (f δ) fun d => opt (asI d)
theorem jo_none {X : Cx} : JO X none onone := ⟨fun rp tk hg hP => ⟨_, po_none, hP.fin hg _ _ _ (.refl rp.ex) rfl⟩⟩
theorem jo_some {X : Cx} {e : Expr} {f : Env → Rs D} (h : JP X e f) : JO X (some e) (osome f) := ⟨fun rp tk hg hP => ⟨_, po_some pe_we, jp_bind h rp tk hg hP fun x vx F1 H1 h1 g1 rx r1 P1 => by
  obtain ⟨z, hz, rfl⟩ := opt_some h1
  cases rx <;> (try (cases hz; done))
  cases hz
  exact ⟨_, rfl, P1 _ F1 H1 (.refl r1.ex) rfl⟩⟩⟩
def dSl : D → Option Int → Option Int → Option D
  | .tup xs, lo, hi => some (.tup (cutD xs lo hi))
  | .lst xs, lo, hi => some (.lst (cutD xs lo hi))
  | .scr xs, lo, hi => some (.lst (cutD xs lo hi))
  | .str x, lo, hi => if x.length ≤ sizeLine then some (.str (cutS x lo hi)) else none
  | _, _, _ => none
def rSl (K : Frag) : V → Option Int → Option Int → Hp → VK → Prop := fun x lo hi H Q => (rSlA K x lo hi H Q ∨ rSlL K x lo hi H Q) ∨ rSlS x lo hi H Q
theorem sl_any {X : Cx} : SlR X (rSl X.K) := (sl_tupA.or sl_list).or sl_str
theorem d_sl {K : Frag} {F H : Hp} {vx : V} {x z : D} {lo hi : Option Int} (e : Ex F H) (rx : Rep K F vx x) (h : dSl x lo hi = some z) (Q : VK) (q : ∀ v F' H', Grow F H F' H' → Rep K F' v z → Q v H') : rSl K vx lo hi H Q := by
  cases rx <;> (try (cases h; done)) <;> simp only [dSl] at h
  case str x =>
    split at h
    · cases h; exact .inr ⟨_, rfl, by assumption, q _ F H (.refl e) (.str _)⟩
    · cases h
  case tup a vs ds h1 r1 =>
    cases h
    refine .inl (.inl ⟨a, vs, rfl, ex_t e h1, fun hw => ?_, fun hw p hp => q _ _ _ (.new e hp) (.tup (SqT.of upd_same) ((r1.cut lo hi).mono (Ex.new (none_back e hp))))⟩)
    refine q _ F H (.refl e) ?_
    have : cutD ds lo hi = ds := by
      unfold cutD
      rw [← Rep.len r1, hw.1, hw.2, List.drop_zero, Nat.sub_zero, Rep.len r1, List.take_length]
    rw [this]; exact .tup h1 r1
  case lst a vs ds h1 r1 => cases h; exact .inl (.inr ⟨a, vs, rfl, SqL.of (e _ _ h1), fun p hp => q _ _ _ (.new e hp) (.lst upd_same ((r1.cut lo hi).mono (Ex.new (none_back e hp))))⟩)
  case scr a vs ds h1 r1 => cases h; exact .inl (.inr ⟨a, vs, rfl, ex_l e h1, fun p hp => q _ _ _ (.new e hp) (.lst upd_same ((r1.cut lo hi).mono (Ex.new (none_back e hp))))⟩)
def vsl (a : Env → Rs D) (lo hi : Env → Rs (Option Int)) : Env → Rs D := fun δ => bind (a δ) fun x => bind (lo δ) fun l => bind (hi δ) fun h => opt (dSl x l h)
theorem jp_sl {X : Cx} {a : Expr} {lo hi : Option Expr} {p2 pos : Pos} {fa : Env → Rs D} {fl fh : Env → Rs (Option Int)} (ha : JP X a fa) (hl : JO X lo fl) (hh : JO X hi fh) : JP X (.Subscript a (.Slice lo hi none p2) pos) (vsl fa fl fh) := ⟨fun {σ F H δ W Q o} rp tk hg hP => by
  have po : ∀ e : Option Expr, PO X e (WO X e) := fun e => ⟨fun pins s σ H Q I ⟨t, pt, ht⟩ => pt.run pins s σ H Q I ht⟩
  exact we_of (pe_slice sl_any pe_we (po lo) (po hi)) (jp_bind ha rp tk hg hP fun x vx F1 H1 h1 g1 rx r1 P1 => j_bind (w := WO X lo) hl r1 tk h1 P1 fun l vl F2 H2 h2 g2 rl r2 P2 => by
    cases rl
    exact j_bind (w := WO X hi) hh r2 tk h2 P2 fun u vu F3 H3 h3 g3 ru r3 P3 => by
      cases ru
      obtain ⟨z, hz, rfl⟩ := opt_some h3
      exact d_sl r3.ex (rx.mono (g2.ff.trans g3.ff)) hz _ P3)⟩
/-! ### a op b op c -/
def chain (g h : D → D → Option D) (a b c : Env → Rs D) : Env → Rs D := fun δ => bind (a δ) fun x => bind (b δ) fun y => bind (opt (g x y)) fun z => bind (opt (asB z)) fun k => if k = true then bind (c δ) fun w => opt (h y w) else ok (.bl false)
theorem jchain {X : Cx} {a b c : Expr} {r r' : R2} {g h : D → D → Option D} {fa fb fc : Env → Rs D} {σ : L2.St} {F H : Hp} {δ : Env} {W : WX} {o : Except XD D} {Q : VK} (hg : OpD X.K r g) (hh : OpD X.K r' h) (ha : JP X a fa) (hb : JP X b fb) (hc : JP X c fc)
    (rp : RP X.K F σ H δ) (tk : Takes X W) (he : chain g h fa fb fc δ = some o) (hP : Post (Rep X.K) X.K F H σ W o Q) : tChain r r' (WE X a) (WE X b) (WE X c) σ H Q :=
  jp_bind ha rp tk he hP fun x vx F1 H1 h1 g1 rx r1 P1 => jp_bind hb r1 tk h1 P1 fun y vy F2 H2 h2 g2 ry r2 P2 => by
    obtain ⟨z, hz, h3⟩ := bind_opt h2
    obtain ⟨k, hk, h4⟩ := bind_opt h3
    cases asB_some hk
    refine hg r2.ex (rx.mono g2.ff) ry hz _ fun v F3 H3 g3 rv => ?_
    cases rv
    refine ⟨k, rfl, ?_⟩
    cases k with
    | true =>
      rw [if_pos rfl] at h4 ⊢
      exact jp_bind hc (r2.later g3) tk h4 (P2.later g3) fun w vw F4 H4 h5 g4 rw' r4 P4 => by
        obtain ⟨q, hq, rfl⟩ := opt_some h5
        exact hh r4.ex (ry.mono (g3.ff.trans g4.ff)) rw' hq _ P4
    | false =>
      rw [if_neg Bool.false_ne_true] at h4 ⊢
      exact (P2.later g3).fin h4 _ _ _ (.refl (r2.later g3).ex) (.bl _)
theorem jp_lele {X : Cx} {a b c : Expr} {pos : Pos} {fa fb fc : Env → Rs D} (ha : JP X a fa) (hb : JP X b fb) (hc : JP X c fc) (hm : lastMarks [.LtE, .LtE] [b, c] = false := by with_unfolding_all rfl) : JP X (.Compare a [.LtE, .LtE] [b, c] pos) (chain dLe dLe fa fb fc) :=
  ⟨fun rp tk hg hP => we_of (pe_chain o_le o_le pe_we pe_we pe_we hm) (jchain d_cmp d_cmp ha hb hc rp tk hg hP)⟩
theorem jt_lele {X : Cx} {a b c : Expr} {pos : Pos} {fa fb fc : Env → Rs D} (ha : JP X a fa) (hb : JP X b fb) (hc : JP X c fc) (hm : lastMarks [.LtE, .LtE] [b, c] = false := by with_unfolding_all rfl) : JT X (.Compare a [.LtE, .LtE] [b, c] pos) (tb (chain dLe dLe fa fb fc)) :=
  ⟨fun {σ F H δ W Q o} rp tk hg hP => by
    refine wt_of (pt_chain o_le o_le pe_we pe_we pe_we hm) ?_
    unfold tb at hg
    cases e : chain dLe dLe fa fb fc δ with
    | none => rw [e] at hg; cases hg
    | some y => cases y with
      | error x => rw [e] at hg; cases hg; exact jchain d_cmp d_cmp ha hb hc rp tk e hP
      | ok d =>
        rw [e] at hg
        obtain ⟨q, hq, rfl⟩ := opt_some (x := asB d) hg
        cases asB_some hq
        exact jchain d_cmp d_cmp ha hb hc rp tk e fun v F' H' g rv => by cases rv; exact ⟨q, rfl, hP q F' H' g rfl⟩⟩
/-! ### texts, enumerate, zip -/
def signs (x : Str) : List D := x.cps.toList.map fun c => .str ⟨#[c]⟩
theorem src_str {K : Frag} {F : Hp} {x : Str} : Src K F (signs x) (Its x) where
  go := fun {F1 H1} e1 e2 {i d} hd => by
    unfold signs at hd
    rw [List.getElem?_map, Option.map_eq_some_iff] at hd
    obtain ⟨c, hc, rfl⟩ := hd
    have hc' : x.cps[i]? = some c := by rw [← Array.getElem?_toList]; exact hc
    have hl : i < x.cps.size := by
      have := (List.getElem?_eq_some_iff.1 hc).1
      simpa using this
    exact ⟨hl, fun v H' ⟨e, c', h1, h2⟩ => by subst e; rw [hc'] at h1; cases h1; subst h2; exact ⟨F1, .refl e2, .str _⟩⟩
  stop := fun {F1 H1} e1 e2 {i} hi => by
    unfold signs at hi; rw [List.length_map] at hi
    have : x.cps.size ≤ i := by simpa using hi
    exact this
def istr (f : Env → RE D) : Env → RE (List D) := fun δ => bindE (f δ) fun d δ' => match d with
  | .str x => some (.ok (signs x, δ'))
  | _ => none
theorem ji_str {X : Cx} {own : List Nat} {tg e : Expr} {f : Env → RE D} (h : JE X own e f) : JI X own tg e (istr f) := ⟨fun {P F0 H0 σ F H δ W o R} r tk hg hP => by
  refine wi_of (pi_str pe_we) ?_
  unfold istr at hg
  cases e0 : f δ with
  | none => rw [e0] at hg; cases hg
  | some y =>
    rw [e0] at hg
    rcases y with ⟨x, δ1⟩ | ⟨d, δ1⟩
    · cases hg; exact h.run r tk e0 hP
    · cases d <;> (try (cases hg; done))
      cases hg; exact h.run r tk e0 fun v F1 H1 r1 e1 rx => by cases rx; exact ⟨_, rfl, hP _ F1 H1 r1 e1 src_str⟩⟩
def enumD (i : Nat) : List D → List D
  | [] => []
  | d :: ds => .tup [.int (i : Nat), d] :: enumD (i + 1) ds
theorem enumD_get : ∀ {ds : List D} {i j : Nat} {d : D}, (enumD i ds)[j]? = some d → ∃ x, ds[j]? = some x ∧ d = .tup [.int ((i + j : Nat) : Int), x]
  | [], _, _, _, h => by cases h
  | x :: xs, i, 0, d, h => by cases h; exact ⟨x, rfl, rfl⟩
  | x :: xs, i, j + 1, d, h => by
    rw [enumD, List.getElem?_cons_succ] at h
    obtain ⟨y, h1, h2⟩ := enumD_get h
    exact ⟨y, by rw [List.getElem?_cons_succ]; exact h1, by rw [h2]; congr 4; omega⟩
theorem enumD_len : ∀ {ds : List D} {i : Nat}, (enumD i ds).length = ds.length
  | [], _ => rfl
  | _ :: _, _ => congrArg (· + 1) enumD_len
theorem src_enum {K : Frag} {F : Hp} {a : Addr} {vs : List V} {ds : List D} (h : SqL K F a vs) (r : Reps K F vs ds) : Src K F (enumD 0 ds) (Ite K a) where
  go := fun {F1 H1} e1 e2 {i d} hd => by
    obtain ⟨x, hx, rfl⟩ := enumD_get hd
    obtain ⟨w, hw, rw'⟩ := r.get hx
    refine ⟨⟨vs, w, ex_l (e1.trans e2) h, hw⟩, fun v H' ⟨T, y, hv, hT, hH, hy⟩ => ?_⟩
    subst hv; subst hH
    have := hy vs (ex_l (e1.trans e2) h)
    rw [hw] at this; cases this
    refine ⟨_, .new e2 hT, .tup (SqT.of upd_same) (.cons ?_ (.cons ((rw'.mono e1).mono (Ex.new (none_back e2 hT))) .nil))⟩
    rw [Nat.zero_add]; exact .int _
  stop := fun {F1 H1} e1 e2 {i} hi => ⟨vs, ex_l (e1.trans e2) h, by rw [Rep.len r]; rw [enumD_len] at hi; exact hi⟩
def ienum (f : Env → RE D) : Env → RE (List D) := fun δ => bindE (f δ) fun d δ' => match d with
  | .lst xs => some (.ok (enumD 0 xs, δ'))
  | .scr xs => some (.ok (enumD 0 xs, δ'))
  | _ => none
theorem ji_enum {X : Cx} {own : List Nat} {e : Expr} {elts : List Expr} {kk : Nat} {p pos tpos : Pos} {f : Env → RE D} (hm : X.mg "enumerate" = none) (h : JE X own e f) (hg : Gl X "enumerate" := by rfl) (hs : starEach [e] X.env = [(false, eval e X.env)] := by rfl) : JI X own (.Tuple elts kk tpos) (.Call (.Name "enumerate" p) [e] [] pos) (ienum f) := ⟨fun {P F0 H0 σ F H δ W o R} r tk hg' hP => by
  refine wi_of (pi_enum hg hm (pa_cons pe_we pa_nil hs) hs) ?_
  unfold ienum at hg'
  cases e0 : f δ with
  | none => rw [e0] at hg'; cases hg'
  | some y =>
    rw [e0] at hg'
    rcases y with ⟨x, δ1⟩ | ⟨d, δ1⟩
    · cases hg'; exact h.run r tk e0 hP
    · cases d <;> (try (cases hg'; done))
      case lst => cases hg'; exact h.run r tk e0 fun v F1 H1 r1 e1 rx => by cases rx with | lst h1 r2 => exact ⟨_, _, rfl, SqL.of (r1.fh _ _ h1), hP _ F1 H1 r1 e1 (src_enum (SqL.of h1) r2)⟩
      case scr => cases hg'; exact h.run r tk e0 fun v F1 H1 r1 e1 rx => by cases rx with | scr h1 r2 => exact ⟨_, _, rfl, ex_l r1.fh h1, hP _ F1 H1 r1 e1 (src_enum h1 r2)⟩⟩
def zipD : List D → List D → List D
  | x :: xs, y :: ys => .tup [x, y] :: zipD xs ys
  | _, _ => []
theorem zipD_get : ∀ {xs ys : List D} {j : Nat} {d : D}, (zipD xs ys)[j]? = some d → ∃ x y, xs[j]? = some x ∧ ys[j]? = some y ∧ d = .tup [x, y]
  | [], _, _, _, h => by simp [zipD] at h
  | _ :: _, [], _, _, h => by simp [zipD] at h
  | x :: xs, y :: ys, 0, d, h => by cases h; exact ⟨x, y, rfl, rfl, rfl⟩
  | x :: xs, y :: ys, j + 1, d, h => by
    rw [zipD, List.getElem?_cons_succ] at h
    obtain ⟨a, b, h1, h2, h3⟩ := zipD_get h
    exact ⟨a, b, by rw [List.getElem?_cons_succ]; exact h1, by rw [List.getElem?_cons_succ]; exact h2, h3⟩
theorem zipD_len : ∀ {xs ys : List D}, (zipD xs ys).length = min xs.length ys.length
  | [], _ => by simp [zipD]
  | _ :: _, [] => by simp [zipD]
  | x :: xs, y :: ys => by simp [zipD, zipD_len]
theorem src_zipL {K : Frag} {F : Hp} {a b : Addr} {vs ws : List V} {ds es : List D} (h : SqL K F a vs) (h' : SqL K F b ws) (r : Reps K F vs ds) (r' : Reps K F ws es) : Src K F (zipD ds es) (Itz K a b) where
  go := fun {F1 H1} e1 e2 {i d} hd => by
    obtain ⟨x, y, hx, hy, rfl⟩ := zipD_get hd
    obtain ⟨w, hw, rw'⟩ := r.get hx
    obtain ⟨u, hu, ru⟩ := r'.get hy
    refine ⟨⟨vs, ws, w, u, ex_l (e1.trans e2) h, ex_l (e1.trans e2) h', hw, hu⟩, fun v H' ⟨T, p, q, hv, hT, hH, hp, hq⟩ => ?_⟩
    subst hv; subst hH
    have q1 := hp vs (ex_l (e1.trans e2) h)
    rw [hw] at q1; cases q1
    have q2 := hq ws (ex_l (e1.trans e2) h')
    rw [hu] at q2; cases q2
    exact ⟨_, .new e2 hT, .tup (SqT.of upd_same) (.cons ((rw'.mono e1).mono (Ex.new (none_back e2 hT))) (.cons ((ru.mono e1).mono (Ex.new (none_back e2 hT))) .nil))⟩
  stop := fun {F1 H1} e1 e2 {i} hi => ⟨vs, ws, ex_l (e1.trans e2) h, ex_l (e1.trans e2) h', by rw [Rep.len r, Rep.len r']; rw [zipD_len] at hi; omega⟩
theorem src_zipT {K : Frag} {F : Hp} {a b : Addr} {vs ws : List V} {ds es : List D} (h : SqT K F a vs) (h' : SqT K F b ws) (r : Reps K F vs ds) (r' : Reps K F ws es) : Src K F (zipD ds es) (RZ.ItzT K a b) where
  go := fun {F1 H1} e1 e2 {i d} hd => by
    obtain ⟨x, y, hx, hy, rfl⟩ := zipD_get hd
    obtain ⟨w, hw, rw'⟩ := r.get hx
    obtain ⟨u, hu, ru⟩ := r'.get hy
    refine ⟨⟨vs, ws, w, u, ex_t (e1.trans e2) h, ex_t (e1.trans e2) h', hw, hu⟩, fun v H' ⟨T, p, q, hv, hT, hH, hp, hq⟩ => ?_⟩
    subst hv; subst hH
    have q1 := hp vs (ex_t (e1.trans e2) h)
    rw [hw] at q1; cases q1
    have q2 := hq ws (ex_t (e1.trans e2) h')
    rw [hu] at q2; cases q2
    exact ⟨_, .new e2 hT, .tup (SqT.of upd_same) (.cons ((rw'.mono e1).mono (Ex.new (none_back e2 hT))) (.cons ((ru.mono e1).mono (Ex.new (none_back e2 hT))) .nil))⟩
  stop := fun {F1 H1} e1 e2 {i} hi => ⟨vs, ws, ex_t (e1.trans e2) h, ex_t (e1.trans e2) h', by rw [Rep.len r, Rep.len r']; rw [zipD_len] at hi; omega⟩
def izip (f : Env → RE (List D)) : Env → RE (List D) := fun δ => bindE (f δ) fun ds δ' => match ds with
  | [.lst xs, .lst ys] => some (.ok (zipD xs ys, δ'))
  | [.tup xs, .tup ys] => some (.ok (zipD xs ys, δ'))
  | _ => none
theorem ji_zip {X : Cx} {own : List Nat} {e e2 : Expr} {elts : List Expr} {kk : Nat} {p pos tpos : Pos} {f : Env → RE (List D)} (hm : X.mg "zip" = none) (h : JAE X own [e, e2] f) (hg : Gl X "zip" := by rfl)
    (hs : starEach [e, e2] X.env = (false, eval e X.env) :: starEach [e2] X.env := by rfl) (hpl : (backTo pos (starEach [e2] X.env)).any (·.1) = false := by rfl) : JI X own (.Tuple elts kk tpos) (.Call (.Name "zip" p) [e, e2] [] pos) (izip f) := ⟨fun {P F0 H0 σ F H δ W o R} r tk hg' hP => by
  refine wi_of (RZ.pi_zipA hg hm pa_wa hs hpl) ?_
  unfold izip at hg'
  cases e0 : f δ with
  | none => rw [e0] at hg'; cases hg'
  | some y =>
    rw [e0] at hg'
    rcases y with ⟨x, δ1⟩ | ⟨ds, δ1⟩
    · cases hg'; exact h.run r tk e0 hP
    · dsimp only [bindE] at hg'
      split at hg'
      · cases hg'
        exact h.run r tk e0 fun vs F1 H1 r1 e1 rx => by
          obtain ⟨w, u, rfl, ra, rb⟩ := reps2 rx
          cases ra with | lst h1 r2 => cases rb with | lst h3 r4 => exact ⟨_, _, _, _, rfl, .inl ⟨SqL.of (r1.fh _ _ h1), SqL.of (r1.fh _ _ h3), hP _ F1 H1 r1 e1 (src_zipL (SqL.of h1) (SqL.of h3) r2 r4)⟩⟩
      · cases hg'
        exact h.run r tk e0 fun vs F1 H1 r1 e1 rx => by
          obtain ⟨w, u, rfl, ra, rb⟩ := reps2 rx
          cases ra with | tup h1 r2 => cases rb with | tup h3 r4 => exact ⟨_, _, _, _, rfl, .inr ⟨ex_t r1.fh h1, ex_t r1.fh h3, hP _ F1 H1 r1 e1 (src_zipT h1 h3 r2 r4)⟩⟩
      · cases hg'⟩
end PD
end
section
namespace PD
open PySem PySem.W PySem.Calls PyProof.Rows
/-! ### sorting tuples that are told apart before unlike places -/
mutual
def nodict : PyData → Bool
  | .list xs => nodicts xs
  | .tuple xs => nodicts xs
  | .dict _ => false
  | _ => true
def nodicts : List PyData → Bool
  | [] => true
  | x :: xs => nodict x && nodicts xs
end
mutual
theorem reads_uniq {h : Heap} : ∀ (d d' : PyData) (v : Value) (as as' : List Addr), nodict d = true → nodict d' = true → Reads h v d as → Reads h v d' as' → d = d'
  | .none, _, _, _, _, _, _, r, r' => by cases r; cases r'; rfl
  | .bool _, _, _, _, _, _, _, r, r' => by cases r; cases r'; rfl
  | .int _, _, _, _, _, _, _, r, r' => by cases r; cases r'; rfl
  | .str _, _, _, _, _, _, _, r, r' => by cases r; cases r'; rfl
  | .list xs, d', _, _, _, ha, hb, r, r' => by
    cases r with
    | list h1 h2 h3 h4 =>
      cases r' with
      | list k1 k2 k3 k4 =>
        rw [h1] at k1; cases k1
        rw [h3] at k3; cases k3
        rw [reads_uniqs xs _ _ _ _ (by simpa [nodict] using ha) (by simpa [nodict] using hb) h4 k4]
      | tuple k1 k2 k3 k4 =>
        rw [h1] at k1; cases k1
        rw [h2] at k2; exact absurd (Value.type.inj k2) (by decide)
      | dict k1 k2 k3 k4 k5 => simp [nodict] at hb
  | .tuple xs, d', _, _, _, ha, hb, r, r' => by
    cases r with
    | tuple h1 h2 h3 h4 =>
      cases r' with
      | tuple k1 k2 k3 k4 =>
        rw [h1] at k1; cases k1
        rw [h3] at k3; cases k3
        rw [reads_uniqs xs _ _ _ _ (by simpa [nodict] using ha) (by simpa [nodict] using hb) h4 k4]
      | list k1 k2 k3 k4 =>
        rw [h1] at k1; cases k1
        rw [h2] at k2; exact absurd (Value.type.inj k2) (by decide)
      | dict k1 k2 k3 k4 k5 => simp [nodict] at hb
  | .dict _, _, _, _, _, ha, _, _, _ => by simp [nodict] at ha
theorem reads_uniqs {h : Heap} : ∀ (xs ys : List PyData) (vs : List Value) (as as' : List Addr), nodicts xs = true → nodicts ys = true → ReadsAll h vs xs as → ReadsAll h vs ys as' → xs = ys
  | [], _, _, _, _, _, _, r, r' => by cases r; cases r'; rfl
  | x :: xs, [], _, _, _, _, _, r, r' => by cases r'; cases r
  | x :: xs, y :: ys, _, _, _, ha, hb, r, r' => by
    rw [nodicts, Bool.and_eq_true] at ha hb
    cases r with
    | cons h1 h2 =>
      cases r' with
      | cons k1 k2 => rw [reads_uniq x y _ _ _ ha.1 hb.1 h1 k1, reads_uniqs xs ys _ _ _ ha.2 hb.2 h2 k2]
end
/-- one after another alike, as far as they are the same -/
def lexOk : List PyData → List PyData → Bool
  | x :: xs, y :: ys => alike x y && (!PyData.eqv x y || lexOk xs ys)
  | _, _ => true
section
variable {prog : Program} {w : World} {A : Around} {s : Shared}
theorem katLex_ok {b fin : Bool} {Q : Bool → Shared → Prop} : ∀ (xs ys : List PyData) (i : Nat) (vs ws : List Value) (as bs : List Addr), ReadsAll s.heap vs xs as → ReadsAll s.heap ws ys bs → lexOk xs ys = true →
    A.units + min (PyData.depthAll xs) (PyData.depthAll ys) < cLine → (b = true → i = 0 → ∀ x r t, xs = x :: r → x ≠ .tuple t) → fin = decide (xs.length < ys.length) → Q (PyProof.Rows.lexLt itemOrd (keyToksAll xs) (keyToksAll ys)) s → KatLex prog w A b fin Q (vs.zip ws) i s
  | [], ys, i, vs, ws, as, bs, ra, rb, _, hu, hb, hf, hq => katLex_alike [] ys i vs ws as bs ra rb (by cases ys <;> simp [alikeAll]) hu hb hf hq
  | x :: xs, [], i, vs, ws, as, bs, ra, rb, _, hu, hb, hf, hq => katLex_alike (x :: xs) [] i vs ws as bs ra rb (by simp [alikeAll]) hu hb hf hq
  | x :: xs, y :: ys, i, _, _, _, _, ra, rb, h, hu, hb, hf, hq => by
    rw [lexOk, Bool.and_eq_true] at h
    obtain ⟨h1, h2⟩ := h
    have hf' : fin = decide (xs.length < ys.length) := by
      rw [hf]
      simp only [List.length_cons, Nat.add_lt_add_iff_right]
    cases ra with
    | cons r rs =>
      cases rb with
      | cons r' rs' =>
        rw [List.zip_cons_cons]
        refine kat_cons (eqAt_alike x y A s _ _ _ _ r r' h1 (SeqAt.room_head hu) prog w _ _ ?_)
        cases hx : PyData.eqv x y with
        | true =>
          rw [hx] at h2
          rw [dataLt_all_yes h1 hx] at hq
          exact kat_yes (katLex_ok xs ys (i + 1) _ _ _ _ rs rs' (by simpa using h2) (SeqAt.room_tail hu) (fun _ hi => absurd hi (Nat.succ_ne_zero i)) hf' hq)
        | false =>
          rw [dataLt_all_no h1 hx] at hq
          refine kat_no (oneLt_alike (fun hbi t => ?_) r r' h1 (ne_none_of h1 hx) (SeqAt.room_head hu) hq)
          rw [Bool.and_eq_true] at hbi
          exact hb hbi.1 (by simpa using hbi.2) x xs t rfl
def itemsOf : PyData → List PyData
  | .tuple xs => xs
  | _ => []
theorem dataKind_some' {h : Heap} {ds : List PyData} (nd : ∀ d ∈ ds, nodict d = true) {v : Value} {d : PyData} {as : List Addr} (hd : d ∈ ds) (r : Reads h v d as) : (dataKind h ds).keyOf v = some (keyToks d) := by
  have q : ∃ d, d ∈ ds ∧ ∃ as, Reads h v d as := ⟨d, hd, as, r⟩
  have e : (dataKind h ds).keyOf v = some (keyToks q.choose) := by
    show (open Classical in if q : ∃ d, d ∈ ds ∧ ∃ as, Reads h v d as then some (keyToks q.choose) else none) = _
    rw [dif_pos q]
  obtain ⟨h1, as', h2⟩ := q.choose_spec
  rw [e, reads_uniq _ _ _ _ _ (nd _ h1) (nd _ hd) h2 r]
theorem sortsLex {vs : List Value} {ds : List PyData} (e : EachIs (fun v d => ∃ as, Reads s.heap v d as) vs ds) (nd : ∀ d ∈ ds, nodict d = true) (ht : ∀ d, d ∈ ds → ∃ x r, d = .tuple (x :: r)) (hl : ∀ d ∈ ds, ∀ d' ∈ ds, lexOk (itemsOf d) (itemsOf d') = true) (hu : ∀ d, d ∈ ds → A.units + d.depth < cLine) : SortsAt prog w A s (dataKind s.heap ds) vs := by
  have room : ∀ {d d' : PyData}, d ∈ ds → A.units + min d.depth d'.depth < cLine := fun {d d'} hd => Nat.lt_of_le_of_lt (Nat.add_le_add_left (Nat.min_le_left _ _) _) (hu d hd)
  refine ⟨fun v hv => ?_, ?_⟩
  · obtain ⟨d, hd, as, r⟩ := e.left v hv
    exact ⟨_, dataKind_some' nd hd r⟩
  · cases ds with
    | nil =>
      cases e
      exact ⟨general', fun E x y a b Q ha _ _ => (by
        obtain ⟨d, _, hd, _⟩ := dataKind_inv ha
        exact absurd hd (by simp)), fun h2 => absurd h2 (by simp)⟩
    | cons d₀ ds₀ =>
      obtain ⟨x₀, r₀, e₀⟩ := ht d₀ (List.mem_cons_self ..)
      have hfirst : ∀ x r, PyData.tuple (x :: r) ∈ d₀ :: ds₀ → alike x x₀ = true := by
        intro x r hm
        have q := hl _ hm d₀ (List.mem_cons_self ..)
        rw [e₀] at q
        simp only [itemsOf, lexOk, Bool.and_eq_true] at q
        exact q.1
      refine ⟨tuples' (dataType x₀ != Value.type "tuple"), ?_, fun h2 E Q hq => ?_⟩
      · intro E x y a b Q ha hb hq
        obtain ⟨d, as, hd, ra, rfl⟩ := dataKind_inv ha
        obtain ⟨d', as', hd', rb, rfl⟩ := dataKind_inv hb
        have hdd := hl d hd d' hd'
        have hroom := room (d' := d') hd
        obtain ⟨x1, r1, rfl⟩ := ht d hd
        obtain ⟨x2, r2, rfl⟩ := ht d' hd'
        have hq' : Q (dataLt (.tuple (x1 :: r1)) (.tuple (x2 :: r2))) s := hq
        rw [dataLt_tuple] at hq'
        cases ra with
        | @tuple l o xs n _ _ h1 h2 h3 h4 =>
          cases rb with
          | @tuple l' o' xs' n' _ _ k1 k2 k3 k4 =>
            have n1 : xs.size = (x1 :: r1).length := by simpa using SeqAt.ReadsAll.length _ _ _ h4
            have n2 : xs'.size = (x2 :: r2).length := by simpa using SeqAt.ReadsAll.length _ _ _ k4
            refine kat_lt h1 h3 k1 k3 (katLex_ok (x1 :: r1) (x2 :: r2) 0 _ _ _ _ h4 k4 hdd (by have q := SeqAt.room_in hroom; omega) (fun hb _ x r t ex => ?_) (by rw [n1, n2]) hq')
            obtain ⟨rfl, rfl⟩ := List.cons.inj ex
            have q := dataType_alike (hfirst _ _ hd)
            rw [← q] at hb
            exact dataType_tuple hb t
      · obtain ⟨fs, t1, t2, t3⟩ := each_katTups e ht
        refine kat_kind (T := dataType x₀) t1 (by omega) (fun f hf => ?_) (beq_self_eq_true _) hq
        obtain ⟨x, r, as, m1, m2⟩ := t3 f hf
        rw [← dataType_alike (hfirst x r m1)]
        exact looks_reads m2
end
/-- what can be sorted, told by a computation -/
def sortOk (ds : List PyData) : Bool := (ds.all fun d => decide (d.depth ≤ 64) && nodict d) && ((ds.all fun d => match d with | .tuple (_ :: _) => true | _ => false) && (ds.all fun d => ds.all fun d' => lexOk (itemsOf d) (itemsOf d')) ||
  (ds.all fun d => match d with | .none => false | .tuple _ => false | _ => true) && (ds.all fun d => ds.all fun d' => alike d d'))
theorem sortsOk {prog : Program} {w : World} {A : Around} {s : Shared} {vs : List Value} {ds : List PyData} (e : EachIs (fun v d => ∃ as, Reads s.heap v d as) vs ds) (h : sortOk ds = true) (hu : A.units + 65 < cLine) : SortsAt prog w A s (dataKind s.heap ds) vs ∧ ∀ d ∈ ds, nodict d = true := by
  unfold sortOk at h
  rw [Bool.and_eq_true] at h
  have hs : ∀ d ∈ ds, d.depth ≤ 64 ∧ nodict d = true := fun d hd => by
    have := List.all_eq_true.1 h.1 d hd
    rw [Bool.and_eq_true] at this
    exact ⟨of_decide_eq_true this.1, this.2⟩
  have hd : ∀ d ∈ ds, A.units + d.depth < cLine := fun d hd => by have := (hs d hd).1; omega
  refine ⟨?_, fun d hd => (hs d hd).2⟩
  rcases Bool.or_eq_true_iff.1 h.2 with h | h
  · rw [Bool.and_eq_true] at h
    refine sortsLex e (fun d hd => (hs d hd).2) (fun d hd => ?_) (fun d hd d' hd' => List.all_eq_true.1 (List.all_eq_true.1 h.2 d hd) d' hd') hd
    have := List.all_eq_true.1 h.1 d hd
    split at this
    · exact ⟨_, _, rfl⟩
    · cases this
  · rw [Bool.and_eq_true] at h
    refine SortsAt.data e (fun d hd d' hd' => List.all_eq_true.1 (List.all_eq_true.1 h.2 d hd) d' hd') (.inr fun d hd => ?_) hd
    have := List.all_eq_true.1 h.1 d hd
    constructor
    · rintro rfl; cases this
    · rintro xs rfl; cases this
end PD
end
section
namespace PD
open PySem PySem.W L2
/-! ### sorting by insertion -/
section
variable {α β : Type}
def insB (le : α → α → Bool) (x : α) : List α → List α
  | [] => [x]
  | y :: ys => if le x y then x :: y :: ys else y :: insB le x ys
def isort (le : α → α → Bool) : List α → List α
  | [] => []
  | x :: xs => insB le x (isort le xs)
theorem insB_mem (le : α → α → Bool) (x z : α) : ∀ ys, z ∈ insB le x ys ↔ z = x ∨ z ∈ ys
  | [] => by simp [insB]
  | y :: ys => by
    unfold insB
    split
    · simp
    · rw [List.mem_cons, insB_mem le x z ys, List.mem_cons]
      constructor
      · rintro (h | h | h)
        · exact .inr (.inl h)
        · exact .inl h
        · exact .inr (.inr h)
      · rintro (h | h | h)
        · exact .inr (.inl h)
        · exact .inl h
        · exact .inr (.inr h)
theorem isort_mem (le : α → α → Bool) (z : α) : ∀ ys, z ∈ isort le ys ↔ z ∈ ys
  | [] => by simp [isort]
  | y :: ys => by rw [isort, insB_mem, isort_mem le z ys, List.mem_cons]
theorem insB_sorted {le : α → α → Bool} (h : TotalLe le) (x : α) : ∀ ys, ys.Pairwise (fun a b => le a b = true) → (insB le x ys).Pairwise (fun a b => le a b = true)
  | [], _ => by simp [insB]
  | y :: ys, hp => by
    rw [List.pairwise_cons] at hp
    unfold insB
    split
    · rename_i hx
      refine List.pairwise_cons.2 ⟨fun z hz => ?_, List.pairwise_cons.2 hp⟩
      rcases List.mem_cons.1 hz with rfl | hz
      · exact hx
      · exact h.trans _ _ _ hx (hp.1 z hz)
    · rename_i hx
      refine List.pairwise_cons.2 ⟨fun z hz => ?_, insB_sorted h x ys hp.2⟩
      rcases (insB_mem le x z ys).1 hz with rfl | hz
      · rcases h.total z y with q | q
        · exact absurd q hx
        · exact q
      · exact hp.1 z hz
theorem insB_filter {le : α → α → Bool} (h : TotalLe le) (c x : α) : ∀ ys, (insB le x ys).filter (sameRank le c) = (x :: ys).filter (sameRank le c)
  | [] => rfl
  | y :: ys => by
    unfold insB
    split
    · rfl
    · rename_i hx
      rw [List.filter_cons, insB_filter h c x ys]
      by_cases hc : sameRank le c x = true
      · have hy : sameRank le c y = false := by
          cases hh : sameRank le c y with
          | false => rfl
          | true =>
            unfold sameRank at hc hh
            rw [Bool.and_eq_true] at hc hh
            exact absurd (h.trans _ _ _ hc.2 hh.1) hx
        simp [List.filter_cons, hc, hy]
      · simp [List.filter_cons, hc]
theorem isort_sorted {le : α → α → Bool} (h : TotalLe le) : ∀ ys, (isort le ys).Pairwise (fun a b => le a b = true)
  | [] => List.Pairwise.nil
  | y :: ys => insB_sorted h y _ (isort_sorted h ys)
theorem isort_filter {le : α → α → Bool} (h : TotalLe le) (c : α) : ∀ ys, (isort le ys).filter (sameRank le c) = ys.filter (sameRank le c)
  | [] => rfl
  | y :: ys => by rw [isort, insB_filter h, List.filter_cons, isort_filter h c ys, ← List.filter_cons]
theorem isort_eq {le : α → α → Bool} (h : TotalLe le) (ys : List α) : isort le ys = ys.mergeSort le := sort_unique h (isort_sorted h ys) fun c => isort_filter h c ys
end
/-! ### sorted of a list of data -/
def pyOf (d : D) : PyData := (toPy d).getD .none
def leD : D → D → Bool := dataLe false pyOf
theorem leD_total : TotalLe leD := sortLe_total (PyProof.Rows.listOrd PyProof.Rows.itemOrd) false fun b => keyToks (pyOf b)
/-- what sorted gives, where it is told -/
def sortD (xs : List D) : Option (List D) := (toPys xs).bind fun ps => if sortOk ps then some (isort leD xs) else none
def rSortedX (K : Frag) : List V → Hp → VK → Prop := fun vs H Q => ∃ a xs ps, vs = [V.ref a] ∧ SqL K H a xs ∧ DpAll K H xs ps ∧ sortOk ps = true ∧
  ∀ p, H p = none → Q (.ref p) (upd H p (.lst (((xs.zip ps).mergeSort (dataLe false Prod.snd)).map Prod.fst)))
section
variable {X : Cx}
theorem each_dp {pins : List (Addr × Obj)} {σ : St} {H : Hp} {s : Shared} (I : Inv X pins σ H s) : ∀ {xs : List V} {us : List Value} {ps : List PyData}, Vals xs us → DpAll X.K H xs ps → EachIs (fun v (b : V × PyData) => RelV b.1 v ∧ ∃ as, Reads s.heap v b.2 as) us (xs.zip ps)
  | _, _, [], .nil, _ => .nil
  | _, _, p :: ps, .nil, h => by cases h
  | _, _, [], .cons r t, h => by cases h
  | _, _, p :: ps, .cons r t, h => by
    cases h with
    | cons h1 h2 => exact .cons ⟨r, Dp.reads I _ _ _ h1 r⟩ (each_dp I t h2)
theorem dpAll_len {K : Frag} {H : Hp} : ∀ {xs : List V} {ps : List PyData}, DpAll K H xs ps → xs.length = ps.length
  | [], [], _ => rfl
  | [], _ :: _, h => by cases h
  | _ :: _, [], h => by cases h
  | _ :: xs, _ :: ps, h => by
    cases h with
    | cons h1 h2 => simp [dpAll_len h2]
theorem vals_each : ∀ {us : List Value} {bs : List (V × PyData)}, EachIs (fun v (b : V × PyData) => RelV b.1 v) us bs → Vals (bs.map Prod.fst) us
  | _, _, .nil => .nil
  | _, _, .cons h t => .cons h (vals_each t)
theorem cr_sortedX (hu : X.A.units + 70 < cLine) : CallR X (.builtin "sorted") (rSortedX X.K) := by
  intro pins s σ H vs us Q I r h
  obtain ⟨a, xs, ps, rfl, hs, hd, hok, q⟩ := h
  obtain ⟨its, rv, hl, hz⟩ := I.list hs
  rw [Vals.ref1 r]
  have e0 := each_dp I rv hd
  have hps : (xs.zip ps).map Prod.snd = ps := List.map_snd_zip (by rw [dpAll_len hd]; exact Nat.le_refl _)
  have er : EachIs (fun v d => ∃ as, Reads (sortingHeap (copyHeap s.heap its) (s.heap.objs.size + 1) its) v d as) its ps := by
    have := each_map (R := fun v d => ∃ as, Reads (sortingHeap (copyHeap s.heap its) (s.heap.objs.size + 1) its) v d as) Prod.snd (e0.mono fun v b h => ⟨h.2.choose, PyProof.Rows.Reads.keeps (fun _ _ => sorting_copy_old) h.2.choose_spec⟩)
    rwa [hps] at this
  obtain ⟨S, nd⟩ := sortsOk (prog := X.prog) (w := X.w) (A := X.A.in1.in1) (s := { s with heap := sortingHeap (copyHeap s.heap its) (s.heap.objs.size + 1) its }) er hok (by show X.A.units + 1 + 1 + 65 < cLine; omega)
  refine sorted_vals hl.isList S (by rw [← rv.length]; exact hz) ?_
  have hk : EachIs (fun v (b : V × PyData) => (dataKind (sortingHeap (copyHeap s.heap its) (s.heap.objs.size + 1) its) ps).keyOf v = some (keyToks b.2)) its (xs.zip ps) := by
    have l1 := e0.length
    refine EachIs.of_zip l1 fun z hz => ?_
    obtain ⟨h1, as, h2⟩ := e0.zip z hz
    exact dataKind_some' nd (List.of_mem_zip (List.of_mem_zip hz).2).2 (PyProof.Rows.Reads.keeps (fun _ _ => sorting_copy_old) h2)
  have hv := vals_each (sortVals_each (κ := dataKind (sortingHeap (copyHeap s.heap its) (s.heap.objs.size + 1) its) ps) (rev := false) (fun b : V × PyData => keyToks b.2) (e0.mono fun v b h => h.1) hk)
  obtain ⟨ep, he'⟩ := PyProof.Rows.sortedAll_at s.heap its (sortVals (dataKind (sortingHeap (copyHeap s.heap its) (s.heap.objs.size + 1) its) ps) false its its).toArray
  refine ⟨.ref _, upd H (s.heap.objs.size + 1) (.lst (((xs.zip ps).mergeSort (dataLe false Prod.snd)).map Prod.fst)), I.laid (t' := s.toks) (fun _ _ => PyProof.Rows.sortedAll_old) (Nat.le_succ _) ⟨?_, _, ep, hv, he'⟩, rfl, q _ (I.hok.fresh (Nat.le_succ _))⟩
  rw [List.length_map, (List.mergeSort_perm _ _).length_eq, List.length_zip, dpAll_len hd, Nat.min_self, ← dpAll_len hd]
  exact hz
end
/-- a list's items, frozen or the script's -/
def seqL : D → Option (List D)
  | .lst xs => some xs
  | .scr xs => some xs
  | _ => none
theorem seqL_rep {K : Frag} {F H : Hp} {v : V} {d : D} {xs : List D} (e : Ex F H) (r : Rep K F v d) (h : seqL d = some xs) : ∃ a vs, v = .ref a ∧ SqL K H a vs ∧ Reps K F vs xs := by
  cases r with
  | lst h' r' => cases h; exact ⟨_, _, rfl, .inl (.inl (e _ _ h')), r'⟩
  | scr h' r' => cases h; exact ⟨_, _, rfl, ex_l e h', r'⟩
  | _ => cases h
def dSorted (d : D) : Option D := (seqL d).bind fun xs => (sortD xs).map .lst
theorem toPys_map : ∀ {ds : List D} {ps : List PyData}, toPys ds = some ps → ps = ds.map pyOf
  | [], _, h => by simp [toPys] at h; subst h; rfl
  | d :: ds, _, h => by
    rw [toPys] at h
    cases h1 : toPy d with
    | none => rw [h1] at h; simp at h
    | some p =>
      cases h2 : toPys ds with
      | none => rw [h1, h2] at h; simp at h
      | some qs =>
        rw [h1, h2] at h
        simp only [Option.bind_some, Option.map_some, Option.some.injEq] at h
        subst h
        rw [List.map_cons, ← toPys_map h2]
        simp [pyOf, h1]
theorem reps_zip {K : Frag} {F : Hp} : ∀ {vs : List V} {ds : List D}, Reps K F vs ds → ∀ z ∈ vs.zip ds, Rep K F z.1 z.2
  | _, _, .nil, z, hz => by simp at hz
  | _, _, .cons h r, z, hz => by
    rw [List.zip_cons_cons] at hz
    rcases List.mem_cons.1 hz with rfl | hz
    · exact h
    · exact reps_zip r z hz
theorem reps_of_zip {K : Frag} {F : Hp} : ∀ {zs : List (V × D)}, (∀ z ∈ zs, Rep K F z.1 z.2) → Reps K F (zs.map Prod.fst) (zs.map Prod.snd)
  | [], _ => .nil
  | z :: zs, h => .cons (h z (List.mem_cons_self ..)) (reps_of_zip fun y hy => h y (List.mem_cons_of_mem _ hy))
theorem d_sorted {K : Frag} : CallD K (rSortedX K) (one dSorted) := fun {F H vs xs z} e r h Q q => by
  obtain ⟨x, rfl, h⟩ := one_some h
  obtain ⟨w, rfl, rx⟩ := reps1 r
  replace h : ((seqL x).bind fun xs => (sortD xs).map .lst) = some z := h
  cases h1 : seqL x with
  | none => rw [h1] at h; cases h
  | some ds =>
    rw [h1, Option.bind_some] at h
    obtain ⟨a, ws, rfl, hs, rs⟩ := seqL_rep e rx h1
    unfold sortD at h
    cases h2 : toPys ds with
    | none => rw [h2] at h; cases h
    | some ps =>
      rw [h2, Option.bind_some] at h
      split at h
      · rename_i h3
        cases h
        refine ⟨a, ws, ps, rfl, hs, dps_of e rs h2, h3, fun p hp => ?_⟩
        have hpn : F p = none := by
          cases hF : F p with
          | none => rfl
          | some o => exact absurd (e _ _ hF) (by rw [hp]; simp)
        have hlen : ws.length = ds.length := Rep.len rs
        have hps := toPys_map h2
        have ez : ws.zip ps = (ws.zip ds).map fun z => (z.1, pyOf z.2) := by
          rw [hps, List.zip_map_right]; rfl
        have e1 : (ws.zip ps).mergeSort (dataLe false Prod.snd) = ((ws.zip ds).mergeSort (dataLe false fun z => pyOf z.2)).map fun z => (z.1, pyOf z.2) := by
          rw [ez]; exact (sort_maps (r := dataLe false fun z : V × D => pyOf z.2) (s := dataLe false Prod.snd) (fun z : V × D => (z.1, pyOf z.2)) (fun a _ b _ => rfl)).symm
        have e2 : isort leD ds = ((ws.zip ds).mergeSort (dataLe false fun z => pyOf z.2)).map Prod.snd := by
          rw [isort_eq leD_total, sort_maps (r := dataLe false fun z : V × D => pyOf z.2) (s := leD) Prod.snd (fun a _ b _ => rfl), List.map_snd_zip (by omega)]
        have e3 : ((ws.zip ps).mergeSort (dataLe false Prod.snd)).map Prod.fst = ((ws.zip ds).mergeSort (dataLe false fun z => pyOf z.2)).map Prod.fst := by
          rw [e1, List.map_map]; rfl
        rw [e3]
        have hr : Reps K F (((ws.zip ds).mergeSort (dataLe false fun z => pyOf z.2)).map Prod.fst) (isort leD ds) := by
          rw [e2]
          exact reps_of_zip fun z hz => reps_zip rs z ((List.mergeSort_perm _ _).mem_iff.1 hz)
        exact q _ _ _ (.new e hp) (.lst upd_same (hr.mono (Ex.new hpn)))
      · cases h
end PD
end
section
namespace PD
open PySem PySem.Spec PyProof.Rows L2
/-! ### sets of texts -/
abbrev SK (P : Program) (w : World) := PySem.strKind P w
def keyS (e : Int × Value) : Str := match e.2 with | .str k _ => k | _ => Str.empty
def GoodS (P : Program) (w : World) (e : Int × Value) : Prop := ∃ k tk, e.2 = Value.str k tk ∧ e.1 = (SK P w).hash k
/-- the set at a holds the texts of xs, and can be walked -/
def SetS (P : Program) (w : World) (h : Heap) (a : Addr) (xs : List Str) : Prop :=
  ∃ o es ep t, h.get? a = some o ∧ o.ExactSet ∧ o.data = .set es ep t ∧ (∀ e ∈ es.toList, GoodS P w e) ∧ (es.toList.map keyS).Nodup ∧ (∀ k, k ∈ xs ↔ k ∈ es.toList.map keyS) ∧
    es.size ≤ xs.length ∧ xs.length + 1 < scanBound ∧ t.fits es.size = true ∧ Ris t.place.toList ∧ (w.params.followText "set-order" = true ∨ t.led = true)
section
variable {P : Program} {w : World} {h h' : Heap} {a : Addr} {xs : List Str} {A : Around} {E : Value → Shared → Prop} {s : Shared}
theorem SetS.at (R : SetS P w h a xs) (k : ∀ o, h.get? a = some o → h'.get? a = some o) : SetS P w h' a xs := by
  obtain ⟨o, es, ep, t, ho, r⟩ := R
  exact ⟨o, es, ep, t, k o ho, r⟩
theorem goodS_elems {l : List (Int × Value)} (g : ∀ e ∈ l, GoodS P w e) : ElemsOf (SK P w) l := fun e he => by
  obtain ⟨k, tk, h1, h2⟩ := g e he
  exact ⟨⟨k, by rw [h1]; exact strKind_is P w k tk, h2⟩, by rw [h1] <;> rfl⟩
theorem strKind_iff (k0 k : Str) (tk : Tok) : (SK P w).is k (.str k0 tk) = true ↔ k0 = k := by
  simp [SK, PySem.strKind, Value.isStrOf]
theorem goodS_mem {l : List (Int × Value)} (g : ∀ e ∈ l, GoodS P w e) (k : Str) : k ∈ l.map keyS ↔ ∃ e ∈ l, (SK P w).is k e.2 = true := by
  rw [List.mem_map]
  constructor
  · rintro ⟨e, he, q⟩
    obtain ⟨k0, tk, h1, _⟩ := g e he
    refine ⟨e, he, ?_⟩
    rw [h1]
    refine (strKind_iff k0 k tk).2 ?_
    rw [← q]; unfold keyS; rw [h1]
  · rintro ⟨e, he, q⟩
    obtain ⟨k0, tk, h1, _⟩ := g e he
    refine ⟨e, he, ?_⟩
    rw [h1] at q
    unfold keyS; rw [h1]
    exact (strKind_iff k0 k tk).1 q
theorem setS_tail {g : Bool → Sem Unit} (hg : ∀ (b : Bool) (s₁ : Shared) (Q' : Unit → Shared → Prop), Q' () s₁ → wpAny (model P w) A (g b) Q' E s₁)
    {o : Obj} {es : Array (Int × Value)} {ep : Nat} {t : SetTable} (ho : s.heap.get? a = some o) (hex : o.ExactSet) (hd : o.data = .set es ep t)
    {es1 : Array (Int × Value)} {t2 : SetTable} {ys : List Str} (g1 : ∀ e ∈ es1.toList, GoodS P w e) (nd1 : (es1.toList.map keyS).Nodup) (m1 : ∀ k, k ∈ ys ↔ k ∈ es1.toList.map keyS)
    (hb1 : es1.size ≤ ys.length) (hb0 : ys.length + 1 < scanBound) (hf2 : t2.fits es1.size = true) (hr : Ris t2.place.toList) (hl : w.params.followText "set-order" = true ∨ t2.led = true) {wasDummy : Bool} {R : Option Bool → Shared → Prop}
    (hR : ∀ h', Heap.SameBut a s.heap h' → SetS P w h' a ys → R (some true) { s with heap := h' }) :
    wpAny (model P w) A (do
        storeSet a es1 t2
        if (!wasDummy && t2.tooFull) = true then do
            g (relayAll t2 es1 (SetTable.grown es1.size)).2.2
            storeSet a (relayAll t2 es1 (SetTable.grown es1.size)).1 (relayAll t2 es1 (SetTable.grown es1.size)).2.1
            pure (some true)
          else pure (some true)) R E s := by
  refine wpAny_bind (wpAny_storeSet_of ho hd ?_ (fits_of_scanBound (by omega)))
  have ho1 := store_at (es' := es1) (t' := t2) ho hd
  have sb1 := Heap.SameBut.update s.heap a (Obj.putSet es1 t2)
  split
  · have pm := relayAll_perm t2 es1 (SetTable.grown es1.size)
    have hf3 := relayAll_fits t2 es1 (SetTable.grown es1.size)
    have hr3 := relayAll_ris t2 es1 (SetTable.grown es1.size)
    have hl3 := relayAll_led t2 es1 (SetTable.grown es1.size)
    generalize relayAll t2 es1 (SetTable.grown es1.size) = Z at pm hf3 hr3 hl3 ⊢
    obtain ⟨es2, t3, gave⟩ := Z
    dsimp only at pm hf3 hr3 hl3 ⊢
    have hsz : es2.size = es1.size := by rw [← Array.length_toList, pm.length_eq, Array.length_toList]
    refine wpAny_bind (hg _ _ _ ?_)
    refine wpAny_bind (wpAny_storeSet_of ho1 rfl ?_ (fits_of_scanBound (by omega)))
    have ho2 := store_at (es' := es2) (t' := t3) ho1 rfl
    refine wpAny_pure (hR _ (sb1.trans (Heap.SameBut.update _ a _)) ?_)
    exact ⟨_, es2, _, t3, ho2, hex, rfl, fun e he => g1 e (pm.mem_iff.mp he), (pm.map keyS).nodup_iff.mpr nd1, fun k => (m1 k).trans (pm.map keyS).mem_iff.symm, by rw [hsz]; exact hb1, hb0, hf3, hr3,
      hl.imp id fun z => by rw [hl3]; exact z⟩
  · exact wpAny_pure (hR _ sb1 ⟨_, es1, _, t2, ho1, hex, rfl, g1, nd1, m1, hb1, hb0, hf2, hr, hl⟩)
theorem setS_add {k : Str} {tk : Tok} {ys : List Str} {Q : Bool → Shared → Prop} (R : SetS P w s.heap a xs) (hys : ∀ j, j ∈ ys ↔ j ∈ xs ∨ j = k) (hlen : ys.length = xs.length + 1) (hb0 : ys.length + 1 < scanBound)
    (hQ : ∀ b h', Heap.SameBut a s.heap h' → SetS P w h' a ys → Q b { s with heap := h' }) :
    wpAny (model P w) A (setAddHashed a (.str k tk) ((SK P w).hash k)) Q E s := by
  obtain ⟨o, es, ep, t, ho, hex, hd, g, nd, hm, hb, hb', hf, hr, hl⟩ := R
  have hkey : (SK P w).is k (.str k tk) = true := strKind_is P w k tk
  have hsc : (Value.str k tk).scannable = true := rfl
  have hel : ElemsOf (SK P w) es.toList := goodS_elems g
  unfold setAddHashed setAddHashedIn
  refine wpAny_holding (wpAny_bind (wpAny_setState_of ho hd hf ?_))
  dsimp only
  rw [byScan_of hsc (by omega) hel]
  simp only [↓reduceIte]
  unfold setAddByScan
  refine wpAny_bind ?_
  refine wpAny_bind (wpAny_rule ?_)
  refine wpAny_bind (wpAny_setScan_of hkey ho hd hf hel ?_)
  cases hfi : List.findIdx? (fun e => (SK P w).is k e.2) es.toList with
  | some j =>
    dsimp only
    obtain ⟨hj, pj, _⟩ := List.findIdx?_eq_some_iff_getElem.mp hfi
    have hSk : k ∈ xs := (hm k).2 ((goodS_mem g k).2 ⟨es.toList[j], List.getElem_mem hj, pj⟩)
    refine wpAny_pure (wpAny_pure ?_)
    exact hQ _ s.heap (Heap.SameBut.refl a s.heap) ⟨o, es, ep, t, ho, hex, hd, g, nd, fun i => by
      rw [hys, ← hm i]
      exact ⟨fun z => z.elim id (fun e => e ▸ hSk), .inl⟩, by omega, hb0, hf, hr, hl⟩
  | none =>
    dsimp only
    have hnk : k ∉ es.toList.map keyS := fun z => by
      obtain ⟨e, he, q⟩ := (goodS_mem g k).1 z
      have c := List.findIdx?_eq_none_iff.mp hfi e he
      rw [q] at c
      cases c
    have hgw : ∀ (b : Bool) {s₁ : Shared} {Q' : Unit → Shared → Prop}, Q' () s₁ → wpAny (model P w) A (match b with | true => rule "set.scan.the-table-gave-way" | false => pure ()) Q' E s₁ :=
      fun b s₁ Q' q => by cases b <;> first | exact wpAny_pure q | exact wpAny_rule q
    have pm := layNew_perm t es ((SK P w).hash k) (.str k tk)
    have hf1 := layNew_fits t es ((SK P w).hash k) (.str k tk)
    have hr1 := layNew_ris t es ((SK P w).hash k) (.str k tk) hr
    have hl1 := layNew_led t es ((SK P w).hash k) (.str k tk)
    generalize layNew t es ((SK P w).hash k) (.str k tk) = Z at pm hf1 hr1 hl1 ⊢
    obtain ⟨es1, t1, wasDummy, gave⟩ := Z
    dsimp only at pm hf1 hr1 hl1 ⊢
    rw [Array.toList_push] at pm
    have pc : es1.toList.Perm (((SK P w).hash k, Value.str k tk) :: es.toList) := pm.trans (List.perm_append_singleton _ _)
    have pk : (es1.toList.map keyS).Perm (k :: es.toList.map keyS) := pc.map keyS
    have g1 : ∀ e ∈ es1.toList, GoodS P w e := fun e he => by
      rcases List.mem_cons.mp (pc.mem_iff.mp he) with z | z
      · rw [z]; exact ⟨k, tk, rfl, rfl⟩
      · exact g e z
    have nd1 : (es1.toList.map keyS).Nodup := pk.nodup_iff.mpr (List.nodup_cons.mpr ⟨hnk, nd⟩)
    have m1 : ∀ i, i ∈ ys ↔ i ∈ es1.toList.map keyS := fun i => by
      rw [hys, hm i, pk.mem_iff, List.mem_cons]
      exact Or.comm
    have hsz : es1.size ≤ ys.length := by rw [← Array.length_toList, pc.length_eq, List.length_cons, Array.length_toList]; omega
    have hled : w.params.followText "set-order" = true ∨ t1.led = true := hl.imp id fun z => by rw [hl1]; exact z
    refine wpAny_bind (hgw _ ?_)
    split
    · refine wpAny_bind ?_
      rw [hashByValue_scannable 8 hsc]
      refine wpAny_pure ?_
      refine setS_tail (ys := ys) ?_ ho hex hd g1 nd1 m1 hsz hb0 ?_ ?_ ?_ ?_
      · intro b s₁ Q' q; cases b <;> first | exact wpAny_pure q | exact wpAny_rule q
      · first | (split <;> first | exact hf1 | exact SetTable.fits_plain_off hf1) | exact hf1
      · first | (split <;> exact hr1) | exact hr1
      · first | (split <;> exact hled) | exact hled
      · intro h' sb r; dsimp only; exact wpAny_pure (hQ _ h' sb r)
    · refine wpAny_bind (wpAny_pure ?_)
      simp only [↓reduceIte]
      refine setS_tail (ys := ys) ?_ ho hex hd g1 nd1 m1 hsz hb0 hf1 hr1 hled ?_
      · intro b s₁ Q' q; cases b <;> first | exact wpAny_pure q | exact wpAny_rule q
      · intro h' sb r; dsimp only; exact wpAny_pure (hQ _ h' sb r)
abbrev freshSet (w : World) : Obj := { cls := .type "set", dict := none, data := .set #[] 0 (.fresh 0 0 (!w.params.followText "set-order")) }
theorem setS_new (ho : h.get? a = some (freshSet w)) : SetS P w h a [] :=
  ⟨_, #[], 0, _, ho, ⟨rfl, rfl, rfl⟩, rfl, (fun e he => by simp at he), (by simp), (fun k => by simp), (by simp), (by decide), (by rfl), List.Pairwise.nil, by
    show _ ∨ (!w.params.followText "set-order") = true
    cases w.params.followText "set-order"
    · exact .inr rfl
    · exact .inl rfl⟩
theorem setS_loop {I : Addr} {fp wr : List Addr} {G : Array GenState → Array GenState → Prop} {n : Nat} {Pv : Nat → Value → Prop} {St : Nat → Shared → Prop} {R : Result → Shared → Prop}
    (W : WalksS P w A.in1 I fp wr G n Pv St) (S : Addr) (hSf : S ∉ fp) (ns : List Str) (hn : n = ns.length) (hb : ns.length + 1 < scanBound) (hval : ∀ i v, Pv i v → ∃ k t, ns[i]? = some k ∧ v = .str k t) :
    ∀ (k i : Nat) (s : Shared), n - i = k → i ≤ n → St i s → SetS P w s.heap S (ns.take i) →
      (∀ s', Moved (S :: wr) G s s' → SetS P w s'.heap S ns → R (.ok (.ret .none)) s') →
      codeAny (model P w) A (.builtin "set.update.loop" ⟨[.ref S, .ref I], []⟩) R s := by
  have hSw : S ∉ wr := fun h => hSf (W.sub _ h)
  have hsub : ∀ b ∈ wr, b ∈ S :: wr := fun b hb => List.mem_cons_of_mem _ hb
  intro k
  induction k with
  | zero =>
    intro i s hk' hi hst hS hR
    have hin : i = n := by omega
    subst hin
    refine codeAny_builtin F.entry_set_update_loop ?_
    rw [Around.under_plainId F.plain_set_update_loop _]
    show wpAny _ A.in1 (pyNext (.ref I) >>= _) _ _ s
    refine wpAny_bind (W.done s _ _ hst fun s' hm => ?_)
    show wpAny _ A.in1 (ret Value.none) _ _ s'
    rw [List.take_of_length_le (by omega)] at hS
    exact wpAny_pure (hR s' (hm.mono hsub) (hS.at fun o e => hm.heap S o hSw e))
  | succ k ih =>
    intro i s hk' hi hst hS hR
    have hlt : i < n := by omega
    refine codeAny_builtin F.entry_set_update_loop ?_
    rw [Around.under_plainId F.plain_set_update_loop _]
    show wpAny _ A.in1 (pyNext (.ref I) >>= _) _ _ s
    refine wpAny_bind (W.item i s _ _ hlt hst fun v s' hP hst' hm => ?_)
    obtain ⟨z, t, hz, rfl⟩ := hval i v hP
    have hS' : SetS P w s'.heap S (ns.take i) := hS.at fun o e => hm.heap S o hSw e
    show wpAny _ A.in1 (holding [Value.str z t] (setAdd S (.str z t)) >>= _) _ _ s'
    refine wpAny_bind (wpAny_holding ?_)
    unfold setAdd
    refine wpAny_holding ?_
    refine wpAny_bind ((SK P w).pyHash (k := z) (strKind_is _ _ _ _) ?_)
    refine setS_add (s := { s' with toks := s'.toks + 1 }) (ys := ns.take (i + 1)) hS' (fun j => ?_) (by rw [List.length_take, List.length_take]; omega) (by rw [List.length_take]; omega) fun b h' hsb hS3 => ?_
    · rw [List.take_add_one, hz]
      simp [List.mem_append]
    refine wpAny_pure ⟨plainId_quiet F.plain_set_update_loop _, ih (i + 1) _ (by omega) hlt (W.frame _ s' _ _ hst' (Nat.le_succ _) fun b hb o e => ?_) hS3 fun s'' hm'' hS'' => ?_⟩
    · rw [hsb.2 b (fun h : b = S => hSf (by rw [← h]; exact hb))]; exact e
    · refine hR s'' (Moved.trans W.gtrans ((hm.mono hsub).then_heap (Nat.le_succ _) fun b o hb e => ?_) hm'') hS''
      rw [hsb.2 b (fun h : b = S => hb (by rw [h]; exact List.mem_cons_self))]; exact e
set_option maxHeartbeats 3200000 in
theorem call_setS_list {l : Addr} {items : Array Value} (ns : List Str) {Q : Value → Shared → Prop} (hh : A.handled = none) (hl : s.heap.IsList l items) (hit : StrsAre items.toList ns) (hb : ns.length + 1 < scanBound)
    (h : ∀ (h' : Heap) (tk : Nat), SetS P w h' s.heap.objs.size ns → (∀ b o, s.heap.get? b = some o → h'.get? b = some o) → Q (.ref s.heap.objs.size) { s with heap := h', toks := tk }) :
    wpAny (model P w) A (call (.type "set") [.ref l]) Q E s := by
  have hisz : items.size = ns.length := by
    have q := StrsAre.len_eq hit
    rw [Array.length_toList] at q
    exact q
  obtain ⟨c, tl, hmro⟩ := F.called_set.mro
  have hmade := F.called_set.made
  have hsub := F.called_set.sub
  refine wpAny_call (codeAny_of_tree ?_)
  show wpAny _ _ (callAny (.type "set") _) _ _ _
  refine wpAny_pure ⟨Code.quiet_builtin _ (by decide +kernel), codeAny_builtin F.entry_type_call ?_⟩
  rw [Around.under_plain (weight_type_call_type "set" [.ref l] []) rfl]
  have h1 := F.called_set.notType
  have h2 := F.called_set.canCreate
  have hct := F.typeCall_set_1 (.ref l)
  repeat (any_goals (first | assumption | wp_step))
  refine codeAny_mono (code_set_led1 (.ref l) (E := E) (Q₁ := fun obj s₁ => obj = .ref s.heap.objs.size ∧ s₁ = { s with heap := s.heap.push (freshSet w) }) ⟨rfl, rfl⟩) fun r s₁ hr => ?_
  cases r with
  | error e => exact hr
  | ok fl =>
    cases fl with
    | ret obj =>
      obtain ⟨rfl, rfl⟩ := hr
      have hS : (s.heap.push (freshSet w)).get? s.heap.objs.size = some (freshSet w) := Heap.get?_push_size _ rfl
      have hT : Shared.TypeIs { s with heap := s.heap.push (freshSet w) } (.ref s.heap.objs.size) "set" := ⟨_, hS, rfl⟩
      have hli := F.called_set.init.lookup
      have hbi := F.called_set.init.bind (.ref s.heap.objs.size)
      repeat (any_goals (first | assumption | wp_step))
      refine codeAny_mono (codeAny_call_builtin (R := wants (fun r s₂ => r = .none ∧ ∃ h' tk, s₂ = { s with heap := h', toks := tk } ∧ SetS P w h' s.heap.objs.size ns ∧
          (∀ b o, s.heap.get? b = some o → h'.get? b = some o)) E) F.called_set.init.plain F.entry_set_init (check_set_init_1 hT ?_)) fun r₂ s₂ hr₂ => ?_
      · obtain ⟨ol, hol, hcl, nl, hdl⟩ := hl
        obtain ⟨ocls, odict, odata, oslots⟩ := ol
        simp only at hcl hdl
        subst hcl; subst hdl
        have hol' : (s.heap.push (freshSet w)).get? l = some { cls := .type "list", dict := odict, data := .seq items nl, slots := oslots } := Heap.get?_push_of_some _ hol
        have hsls := F.sub_list_set
        have hslf := F.sub_list_frozenset
        have hne : (Value.type "list" == Value.type "dict") = false := by decide
        have hl1 : (s.heap.push (freshSet w)).IsList l items := ⟨_, hol', rfl, nl, rfl⟩
        unfold Builtin.«set.__init__» noKeywords Builtin.Frozenset.updateFrom
        generalize hPI : pyIter = PI
        wp_walk
        subst hPI
        refine wpAny_pyIter_list hl1 ?_
        refine wpAny_bind (wpAny_runValue ?_)
        have hlS : l < s.heap.objs.size := Heap.lt_size hol
        have hh3 : A.in1.in1.in1.handled = none := by simp [hh]
        have hneI : l ≠ (s.heap.push (freshSet w)).objs.size := by
          rw [Heap.size_push]; exact Nat.ne_of_lt (Nat.lt_succ_of_lt hlS)
        have hSf : s.heap.objs.size ∉ [(s.heap.push (freshSet w)).objs.size, l] := by
          rw [Heap.size_push]; simp only [List.mem_cons, List.mem_singleton, List.not_mem_nil, or_false, not_or]
          exact ⟨Nat.ne_of_lt (Nat.lt_succ_self _), Nat.ne_of_gt hlS⟩
        have hval : ∀ (i : Nat) (v : Value), items[i]? = some v → ∃ k t, ns[i]? = some k ∧ v = .str k t := fun i v hv => by
          have hi : i < ns.length := by rw [← hisz]; exact (Array.getElem?_eq_some_iff.mp hv).1
          obtain ⟨t, e⟩ := SS.strs_at hit i v (by rw [Array.getElem?_toList]; exact hv)
          refine ⟨ns[i], t, List.getElem?_eq_getElem hi, ?_⟩
          rw [e, List.getD_eq_getElem?_getD, List.getElem?_eq_getElem hi] <;> rfl
        refine setS_loop ((Walks.list hh3 _ l hneI items).toS) s.heap.objs.size
          hSf ns hisz hb hval (items.size - 0) 0 _ (by omega) (Nat.zero_le _)
          ⟨⟨_, Heap.get?_push_size _ rfl, rfl, rfl⟩, (hl1.push _)⟩ ?hS0 ?hR
        case hS0 => exact setS_new (Heap.get?_push_of_some _ hS)
        case hR =>
          intro s' hm hS'
          obtain ⟨h', g2, d', tk', os'⟩ := s'
          have eg : g2 = s.gens := hm.gens
          have ed : d' = s.drawn := hm.drawn
          have eo : os' = s.os := hm.os
          subst eg; subst ed; subst eo
          show wpAny _ _ _ _ _ _
          refine wpAny_pure ?_
          show wpAny _ _ (ret Value.none) _ _ _
          refine wpAny_pure ⟨rfl, h', tk', rfl, hS', fun b o e => ?_⟩
          have hb0 : b < s.heap.objs.size := Heap.lt_size e
          have hb1 : b ≠ s.heap.objs.size := Nat.ne_of_lt hb0
          have hb2 : b ≠ (s.heap.push (freshSet w)).objs.size := by
            rw [Heap.size_push]; exact Nat.ne_of_lt (Nat.lt_succ_of_lt hb0)
          exact hm.heap b o (by simp only [List.mem_cons, List.mem_singleton, List.not_mem_nil, or_false, not_or]; exact ⟨hb1, hb2⟩) (Heap.get?_push_of_some _ (Heap.get?_push_of_some _ e))
      · cases r₂ with
        | error e => exact hr₂
        | ok fl₂ =>
          cases fl₂ with
          | ret r =>
            obtain ⟨rfl, h', tk, rfl, hS', hk'⟩ := hr₂
            repeat (any_goals (first | assumption | wp_step))
            exact h _ _ hS' hk'
          | _ => exact hr₂.elim
    | _ => exact hr.elim
set_option maxHeartbeats 3200000 in
theorem call_setS_tuple {l : Addr} {items : Array Value} (ns : List Str) {Q : Value → Shared → Prop} (hh : A.handled = none) (hl : s.heap.IsTuple l items) (hit : StrsAre items.toList ns) (hb : ns.length + 1 < scanBound)
    (h : ∀ (h' : Heap) (tk : Nat), SetS P w h' s.heap.objs.size ns → (∀ b o, s.heap.get? b = some o → h'.get? b = some o) → Q (.ref s.heap.objs.size) { s with heap := h', toks := tk }) :
    wpAny (model P w) A (call (.type "set") [.ref l]) Q E s := by
  have hisz : items.size = ns.length := by
    have q := StrsAre.len_eq hit
    rw [Array.length_toList] at q
    exact q
  obtain ⟨c, tl, hmro⟩ := F.called_set.mro
  have hmade := F.called_set.made
  have hsub := F.called_set.sub
  refine wpAny_call (codeAny_of_tree ?_)
  show wpAny _ _ (callAny (.type "set") _) _ _ _
  refine wpAny_pure ⟨Code.quiet_builtin _ (by decide +kernel), codeAny_builtin F.entry_type_call ?_⟩
  rw [Around.under_plain (weight_type_call_type "set" [.ref l] []) rfl]
  have h1 := F.called_set.notType
  have h2 := F.called_set.canCreate
  have hct := F.typeCall_set_1 (.ref l)
  repeat (any_goals (first | assumption | wp_step))
  refine codeAny_mono (code_set_led1 (.ref l) (E := E) (Q₁ := fun obj s₁ => obj = .ref s.heap.objs.size ∧ s₁ = { s with heap := s.heap.push (freshSet w) }) ⟨rfl, rfl⟩) fun r s₁ hr => ?_
  cases r with
  | error e => exact hr
  | ok fl =>
    cases fl with
    | ret obj =>
      obtain ⟨rfl, rfl⟩ := hr
      have hS : (s.heap.push (freshSet w)).get? s.heap.objs.size = some (freshSet w) := Heap.get?_push_size _ rfl
      have hT : Shared.TypeIs { s with heap := s.heap.push (freshSet w) } (.ref s.heap.objs.size) "set" := ⟨_, hS, rfl⟩
      have hli := F.called_set.init.lookup
      have hbi := F.called_set.init.bind (.ref s.heap.objs.size)
      repeat (any_goals (first | assumption | wp_step))
      refine codeAny_mono (codeAny_call_builtin (R := wants (fun r s₂ => r = .none ∧ ∃ h' tk, s₂ = { s with heap := h', toks := tk } ∧ SetS P w h' s.heap.objs.size ns ∧
          (∀ b o, s.heap.get? b = some o → h'.get? b = some o)) E) F.called_set.init.plain F.entry_set_init (check_set_init_1 hT ?_)) fun r₂ s₂ hr₂ => ?_
      · obtain ⟨ol, hol, hcl, nl, hdl⟩ := hl
        obtain ⟨ocls, odict, odata, oslots⟩ := ol
        simp only at hcl hdl
        subst hcl; subst hdl
        have hol' : (s.heap.push (freshSet w)).get? l = some { cls := .type "tuple", dict := odict, data := .seq items nl, slots := oslots } := Heap.get?_push_of_some _ hol
        have hsls := F.sub_tuple_set
        have hslf := F.sub_tuple_frozenset
        have hne : (Value.type "tuple" == Value.type "dict") = false := by decide
        have hl1 : (s.heap.push (freshSet w)).IsTuple l items := ⟨_, hol', rfl, nl, rfl⟩
        unfold Builtin.«set.__init__» noKeywords Builtin.Frozenset.updateFrom
        generalize hPI : pyIter = PI
        wp_walk
        subst hPI
        refine wpAny_pyIter_tuple hl1 ?_
        refine wpAny_bind (wpAny_runValue ?_)
        have hlS : l < s.heap.objs.size := Heap.lt_size hol
        have hh3 : A.in1.in1.in1.handled = none := by simp [hh]
        have hneI : l ≠ (s.heap.push (freshSet w)).objs.size := by
          rw [Heap.size_push]; exact Nat.ne_of_lt (Nat.lt_succ_of_lt hlS)
        have hSf : s.heap.objs.size ∉ [(s.heap.push (freshSet w)).objs.size, l] := by
          rw [Heap.size_push]; simp only [List.mem_cons, List.mem_singleton, List.not_mem_nil, or_false, not_or]
          exact ⟨Nat.ne_of_lt (Nat.lt_succ_self _), Nat.ne_of_gt hlS⟩
        have hval : ∀ (i : Nat) (v : Value), items[i]? = some v → ∃ k t, ns[i]? = some k ∧ v = .str k t := fun i v hv => by
          have hi : i < ns.length := by rw [← hisz]; exact (Array.getElem?_eq_some_iff.mp hv).1
          obtain ⟨t, e⟩ := SS.strs_at hit i v (by rw [Array.getElem?_toList]; exact hv)
          refine ⟨ns[i], t, List.getElem?_eq_getElem hi, ?_⟩
          rw [e, List.getD_eq_getElem?_getD, List.getElem?_eq_getElem hi] <;> rfl
        refine setS_loop ((Walks.tuple hh3 _ l hneI items).toS) s.heap.objs.size
          hSf ns hisz hb hval (items.size - 0) 0 _ (by omega) (Nat.zero_le _)
          ⟨⟨_, Heap.get?_push_size _ rfl, rfl, rfl⟩, (hl1.push _)⟩ ?hS0 ?hR
        case hS0 => exact setS_new (Heap.get?_push_of_some _ hS)
        case hR =>
          intro s' hm hS'
          obtain ⟨h', g2, d', tk', os'⟩ := s'
          have eg : g2 = s.gens := hm.gens
          have ed : d' = s.drawn := hm.drawn
          have eo : os' = s.os := hm.os
          subst eg; subst ed; subst eo
          show wpAny _ _ _ _ _ _
          refine wpAny_pure ?_
          show wpAny _ _ (ret Value.none) _ _ _
          refine wpAny_pure ⟨rfl, h', tk', rfl, hS', fun b o e => ?_⟩
          have hb0 : b < s.heap.objs.size := Heap.lt_size e
          have hb1 : b ≠ s.heap.objs.size := Nat.ne_of_lt hb0
          have hb2 : b ≠ (s.heap.push (freshSet w)).objs.size := by
            rw [Heap.size_push]; exact Nat.ne_of_lt (Nat.lt_succ_of_lt hb0)
          exact hm.heap b o (by simp only [List.mem_cons, List.mem_singleton, List.not_mem_nil, or_false, not_or]; exact ⟨hb1, hb2⟩) (Heap.get?_push_of_some _ (Heap.get?_push_of_some _ e))
      · cases r₂ with
        | error e => exact hr₂
        | ok fl₂ =>
          cases fl₂ with
          | ret r =>
            obtain ⟨rfl, h', tk, rfl, hS', hk'⟩ := hr₂
            repeat (any_goals (first | assumption | wp_step))
            exact h _ _ hS' hk'
          | _ => exact hr₂.elim
    | _ => exact hr.elim
/-- sorted of what is gathered first -/
theorem sorted_by {v : Value} {Q : Value → Shared → Prop} {β : Type} {R : Value → β → Prop} {enc : β → PyData} {Bs : List β → Prop} (hu : A.units + 70 < cLine)
    (hcol : ∀ Q' : List Value → Shared → Prop, (∀ (s1 : Shared) (vs : List Value) (bs : List β), (∀ b o, s.heap.get? b = some o → s1.heap.get? b = some o) → s.heap.objs.size ≤ s1.heap.objs.size → s1.gens = s.gens → s1.os = s.os →
      W.EachIs (fun v b => R v b ∧ ∃ as, Reads s1.heap v (enc b) as) vs bs → Bs bs → Q' vs s1) → wpAny (model P w) A.in1 (collect v) Q' E s)
    (hb : ∀ bs, Bs bs → sortOk (bs.map enc) = true ∧ bs.length ≤ sizeLine)
    (hQ : ∀ s' p (out : List Value) (c : Nat) (bs : List β), (∀ b o, s.heap.get? b = some o → s'.heap.get? b = some o) → s'.gens = s.gens → s'.os = s.os → s.heap.objs.size ≤ p →
      s'.heap.get? p = some (seqObj "list" out.toArray c) → W.EachIs R out (bs.mergeSort (W.dataLe false enc)) → Bs bs → Q (.ref p) s') :
    wpAny (model P w) A (call (.builtin "sorted") [v]) Q E s := by
  refine Calls.call_function_entry kind_sorted plain_sorted entry_sorted (args_sorted1 _) ?_
  unfold Builtin.«sorted»
  refine wpAny_bind (m := checkCount "sorted" 1 1 _) (wpAny_pure ?_)
  refine wpAny_bind (hcol _ fun s1 vs bs k1 hz g1 o1 e hbs => ?_)
  obtain ⟨hok, hL⟩ := hb bs hbs
  have hvl : vs.length ≤ sizeLine := by rw [e.length]; exact hL
  refine wpAny_bind (wpAny_newList ?_ hvl)
  have hoL : (s1.heap.push (seqObj "list" vs.toArray 0)).get? s1.heap.objs.size = some (seqObj "list" vs.toArray 0) := Heap.get?_push_size _ rfl
  have kp : ∀ b o, s1.heap.get? b = some o → (W.sortingHeap (s1.heap.push (seqObj "list" vs.toArray 0)) s1.heap.objs.size vs).get? b = some o := fun b o q =>
    W.sortingHeap_old (Nat.ne_of_lt (Heap.lt_size q)) (Heap.get?_push_of_some _ q)
  have er : W.EachIs (fun v d => ∃ as, Reads (W.sortingHeap (s1.heap.push (seqObj "list" vs.toArray 0)) s1.heap.objs.size vs) v d as) vs (bs.map enc) :=
    W.each_map (R := fun v d => ∃ as, Reads (W.sortingHeap (s1.heap.push (seqObj "list" vs.toArray 0)) s1.heap.objs.size vs) v d as) enc (e.mono fun v b h => ⟨h.2.choose, Reads.keeps kp h.2.choose_spec⟩)
  obtain ⟨S, nd⟩ := sortsOk (prog := P) (w := w) (A := A.in1.in1) (s := { s1 with heap := W.sortingHeap (s1.heap.push (seqObj "list" vs.toArray 0)) s1.heap.objs.size vs }) er hok (by show A.units + 1 + 1 + 65 < cLine; omega)
  refine wpAny_bind (wpAny_holding (wpAny_call_entry slot_list_sort ⟨_, hoL, rfl⟩ entry_list_sort (W.list_sort_vals (s := { s1 with heap := s1.heap.push (seqObj "list" vs.toArray 0) }) hoL S hvl ⟨_, rfl, ?_⟩) (args_list_sort _)))
  have hk : W.EachIs (fun v (b : β) => (W.dataKind (W.sortingHeap (s1.heap.push (seqObj "list" vs.toArray 0)) s1.heap.objs.size vs) (bs.map enc)).keyOf v = some (W.keyToks (enc b))) vs bs := by
    refine W.EachIs.of_zip e.length fun z hz => ?_
    obtain ⟨h1, as, h2⟩ := e.zip z hz
    exact dataKind_some' nd (List.mem_map_of_mem (List.of_mem_zip hz).2) (Reads.keeps kp h2)
  have hv := W.sortVals_each (κ := W.dataKind (W.sortingHeap (s1.heap.push (seqObj "list" vs.toArray 0)) s1.heap.objs.size vs) (bs.map enc)) (rev := false) (fun b => W.keyToks (enc b)) (e.mono fun v b h => h.1) hk
  obtain ⟨c, hc⟩ := sortedHeap_at (vs := vs) (out := (W.sortVals (W.dataKind (W.sortingHeap (s1.heap.push (seqObj "list" vs.toArray 0)) s1.heap.objs.size vs) (bs.map enc)) false vs vs).toArray) hoL
  refine wpAny_pure ⟨_, rfl, hQ _ s1.heap.objs.size _ c bs (fun b u q0 => ?_) g1 o1 hz hc hv hbs⟩
  have q := k1 b u q0
  have hlt := Heap.lt_size q
  rw [sortedHeap_old (Nat.ne_of_lt hlt) (by rw [size_push']; exact Nat.lt_succ_of_lt hlt)]
  exact Heap.get?_push_of_some _ q
/-- sorted of a set of texts -/
theorem sorted_setS {Q : Value → Shared → Prop} (R : SetS P w s.heap a xs) (hh : A.handled = none) (hu : A.units + 70 < cLine) 
    (hQ : ∀ s' p (out : List Value) (c : Nat) (ns : List Str), (∀ b o, s.heap.get? b = some o → s'.heap.get? b = some o) → s'.gens = s.gens → s'.os = s.os → s.heap.objs.size ≤ p →
      s'.heap.get? p = some (seqObj "list" out.toArray c) → W.EachIs (fun v k => ∃ tk, v = Value.str k tk) out (ns.mergeSort (W.dataLe false PyData.str)) → ns.Nodup → (∀ k, k ∈ ns ↔ k ∈ xs) → Q (.ref p) s') :
    wpAny (model P w) A (call (.builtin "sorted") [.ref a]) Q E s := by
  obtain ⟨o, es, ep, t, ho, hex, hd, g, nd, hm, hb, hb0, hf, hr, hl⟩ := R
  refine sorted_by (R := fun v k => ∃ tk, v = Value.str k tk) (enc := PyData.str) (Bs := fun bs => bs.Nodup ∧ (∀ k, k ∈ bs ↔ k ∈ xs) ∧ bs.length ≤ xs.length) hu (fun Q' hq => ?_) (fun bs hbs => ⟨?_, ?_⟩) fun s' p out c bs h1 h2 h3 h4 h5 h6 h7 => hQ s' p out c bs h1 h2 h3 h4 h5 h6 h7.1 h7.2.1
  · refine collect_set (A := A.in1) hh ⟨o, ho, hex.1, hd⟩ hf (by omega) hr hl fun s1 vs k1 hz g1 o1 pm => ?_
    have pk : (vs.map fun v => keyS (0, v)).Perm (es.toList.map keyS) := by
      have q := pm.map fun v => keyS (0, v)
      rw [List.map_map] at q
      exact q
    have hv : ∀ v ∈ vs, ∃ k tk, v = Value.str k tk := fun v hv => by
      obtain ⟨e, he, q⟩ := List.mem_map.mp (pm.mem_iff.mp hv)
      obtain ⟨k, tk, h1, _⟩ := g e he
      exact ⟨k, tk, by rw [← q]; exact h1⟩
    refine hq s1 vs (vs.map fun v => keyS (0, v)) k1 hz g1 o1 ?_ ⟨pk.nodup_iff.mpr nd, fun k => by rw [pk.mem_iff, ← hm k], by rw [pk.length_eq, List.length_map, Array.length_toList]; exact hb⟩
    clear pm pk hq
    induction vs with
    | nil => exact .nil
    | cons v vs ih =>
      obtain ⟨k, tk, rfl⟩ := hv v List.mem_cons_self
      exact .cons ⟨⟨tk, rfl⟩, [], .str k tk⟩ (ih fun u hu => hv u (List.mem_cons_of_mem _ hu))
  · have a1 : ∀ d ∈ bs.map PyData.str, ∃ k, d = .str k := fun d hd => by
      obtain ⟨k, _, rfl⟩ := List.mem_map.1 hd
      exact ⟨k, rfl⟩
    unfold sortOk
    rw [Bool.and_eq_true]
    refine ⟨List.all_eq_true.2 fun d hd => ?_, Bool.or_eq_true_iff.2 (.inr ?_)⟩
    · obtain ⟨k, rfl⟩ := a1 d hd
      simp [nodict, PyData.depth]
    · rw [Bool.and_eq_true]
      refine ⟨List.all_eq_true.2 fun d hd => ?_, List.all_eq_true.2 fun d hd => List.all_eq_true.2 fun d' hd' => ?_⟩
      · obtain ⟨k, rfl⟩ := a1 d hd
        rfl
      · obtain ⟨k, rfl⟩ := a1 d hd
        obtain ⟨k', rfl⟩ := a1 d' hd'
        rfl
  · have := hbs.2.2
    exact fits_of_scanBound (by omega)
end
end PD
end
section
namespace PD
open PySem L2
/-! ### sorted(set(texts)) -/
theorem Grow.aside {F H : Hp} {p : Addr} {o : HO} (e : Ex F H) (h : H p = none) : Grow F H F (upd H p o) := ⟨Ex.refl F, e.trans (Ex.new h), Ex.new h, fun _ h => .inl h⟩
def SetSO (P : Program) (w : World) (a : Addr) (xs : List Str) : HO := .ext fun h => SetS P w h a xs
theorem setSO_new {w : World} {P : Program} {H : Hp} {h : Heap} {a : Addr} {xs : List Str} (R : SetS P w h a xs) : ObjOk P w H h a (SetSO P w a xs) := by
  have ⟨o, _, _, _, ho, _⟩ := R
  exact ⟨R, ⟨o, ho⟩, fun h1 h2 p k => SetS.at p k⟩
def leS : Str → Str → Bool := W.dataLe false PyData.str
theorem leS_total : W.TotalLe leS := W.sortLe_total (PyProof.Rows.listOrd PyProof.Rows.itemOrd) false fun b => W.keyToks (PyData.str b)
theorem leS_anti {a b : Str} (h1 : leS a b = true) (h2 : leS b a = true) : a = b := by
  have q : W.keyToks (PyData.str a) = W.keyToks (PyData.str b) := by
    refine (PyProof.Rows.listOrd PyProof.Rows.itemOrd).total _ _ ?_ ?_
    · unfold leS W.dataLe W.sortLe at h2
      simpa using h2
    · unfold leS W.dataLe W.sortLe at h1
      simpa using h1
  simp only [W.keyToks, List.cons.injEq, and_true, Sum.inr.injEq] at q
  cases a; cases b
  simp only [Str.mk.injEq]
  exact Array.toList_inj.1 q
def ddup : List Str → List Str
  | [] => []
  | x :: xs => if xs.contains x then ddup xs else x :: ddup xs
theorem ddup_mem (k : Str) : ∀ xs, k ∈ ddup xs ↔ k ∈ xs
  | [] => by simp [ddup]
  | x :: xs => by
    unfold ddup
    split
    · rename_i h
      rw [ddup_mem k xs, List.mem_cons]
      exact ⟨.inr, fun h' => h'.elim (fun e => e ▸ (by simpa using h)) id⟩
    · rw [List.mem_cons, List.mem_cons, ddup_mem k xs]
theorem ddup_nodup : ∀ xs, (ddup xs).Nodup
  | [] => List.Pairwise.nil
  | x :: xs => by
    unfold ddup
    split
    · exact ddup_nodup xs
    · rename_i h
      exact List.nodup_cons.2 ⟨fun q => h (by simpa using (ddup_mem x xs).1 q), ddup_nodup xs⟩
def ssort (xs : List Str) : List Str := isort leS (ddup xs)
theorem isort_perm {α : Type} (le : α → α → Bool) : ∀ xs, (isort le xs).Perm xs
  | [] => .nil
  | x :: xs => by
    have ins : ∀ ys, (insB le x ys).Perm (x :: ys) := by
      intro ys
      induction ys with
      | nil => exact .refl _
      | cons y ys ih =>
        unfold insB
        split
        · exact .refl _
        · exact (List.Perm.cons y ih).trans (List.Perm.swap x y ys)
    exact (ins _).trans ((isort_perm le xs).cons x)
theorem ssort_one {xs ns : List Str} (hn : ns.Nodup) (hm : ∀ k, k ∈ ns ↔ k ∈ xs) : ns.mergeSort leS = ssort xs := by
  have pm : ns.Perm (ddup xs) := (List.perm_ext_iff_of_nodup hn (ddup_nodup xs)).2 fun k => (hm k).trans (ddup_mem k xs).symm
  refine List.Perm.eq_of_pairwise (le := fun a b => leS a b = true) (fun a b _ _ h1 h2 => leS_anti h1 h2) (W.sort_pairwise leS_total ns) (isort_sorted leS_total _) ?_
  exact (List.mergeSort_perm ns leS).trans (pm.trans (isort_perm leS _).symm)
def rSetS (K : Frag) (P : Program) (w : World) : List V → Hp → VK → Prop := fun vs H Q => ∃ a xs, vs = [V.ref a] ∧ (SqL K H a (xs.map V.str) ∨ SqT K H a (xs.map V.str)) ∧ xs.length < 1000 ∧ ∀ p, H p = none → Q (.ref p) (upd H p (SetSO P w p xs))
def rSortS (P : Program) (w : World) : List V → Hp → VK → Prop := fun vs H Q => ∃ a xs, vs = [V.ref a] ∧ H a = some (SetSO P w a xs) ∧ xs.length < 1000 ∧ ∀ p, H p = none → Q (.ref p) (upd H p (.lst ((ssort xs).map V.str)))
section
variable {X : Cx}
theorem scan1000 {n : Nat} (h : n < 1000) : n + 1 < scanBound := by unfold scanBound; omega
theorem cr_setS (hc : X.calm = true) : CallR X (.type "set") (rSetS X.K X.prog X.w) := by
  intro pins s σ H vs us Q I r h
  obtain ⟨a, xs, rfl, hs, hl, q⟩ := h
  rw [Vals.ref1 r]
  rcases hs with hs | hs
  · obtain ⟨its, rv, pl, _⟩ := I.list hs
    refine call_setS_list (P := X.prog) (w := X.w) xs (I.ok.hd hc) pl.isList (by simpa using rv.strs) (scan1000 hl) fun h' tk S k => ?_
    exact ⟨.ref _, upd H s.heap.objs.size (SetSO X.prog X.w s.heap.objs.size xs), I.laid (t' := tk) k (Nat.le_refl _) (setSO_new S), rfl, q _ (I.hok.fresh (Nat.le_refl _))⟩
  · obtain ⟨its, rv, ⟨o, ho, hcl, n, hd⟩, _⟩ := I.tuple hs
    refine call_setS_tuple (P := X.prog) (w := X.w) (items := its.toArray) xs (I.ok.hd hc) ⟨o, ho, hcl, n, hd⟩ (by simpa using rv.strs) (scan1000 hl) fun h' tk S k => ?_
    exact ⟨.ref _, upd H s.heap.objs.size (SetSO X.prog X.w s.heap.objs.size xs), I.laid (t' := tk) k (Nat.le_refl _) (setSO_new S), rfl, q _ (I.hok.fresh (Nat.le_refl _))⟩
theorem vals_strs : ∀ {us : List Value} {ks : List Str}, W.EachIs (fun v k => ∃ tk, v = Value.str k tk) us ks → Vals (ks.map V.str) us
  | _, _, .nil => .nil
  | _, _, .cons h t => .cons h (vals_strs t)
theorem cr_sortS (hc : X.calm = true) (hu : X.A.units + 70 < cLine) : CallR X (.builtin "sorted") (rSortS X.prog X.w) := by
  intro pins s σ H vs us Q I r h
  obtain ⟨a, xs, rfl, ha, hl, q⟩ := h
  have R : SetS X.prog X.w s.heap a xs := (I.hok a _ ha).1
  rw [Vals.ref1 r]
  refine sorted_setS R (I.ok.hd hc) hu fun s' p out c ns k g o hp hg hi hn hm => ?_
  have hi' : W.EachIs (fun v k => ∃ tk, v = Value.str k tk) out (ssort xs) := by rw [← ssort_one hn hm]; exact hi
  have hlen : ((ssort xs).map V.str).length ≤ sizeLine := by
    rw [List.length_map, ← ssort_one hn hm, (List.mergeSort_perm _ _).length_eq]
    have q1 := ((List.perm_ext_iff_of_nodup hn (ddup_nodup xs)).2 fun k => (hm k).trans (ddup_mem k xs).symm).length_eq
    have q2 : ∀ xs : List Str, (ddup xs).length ≤ xs.length := by
      intro xs
      induction xs with
      | nil => exact Nat.le_refl _
      | cons x xs ih => unfold ddup; split <;> simp <;> omega
    have := q2 xs
    rw [sizeLine_eq]; omega
  have hn0 : H p = none := I.hok.fresh hp
  have J : Inv X pins σ (upd H p (.lst ((ssort xs).map V.str))) { s with heap := s'.heap, gens := s'.gens, drawn := s'.drawn, toks := s'.toks } :=
    I.call (ch := []) (Un.laid k hp hn0) (I.hok.laid k hp ⟨hlen, out, c, vals_strs hi', hg⟩) (by rw [g]; exact I.bare) (fun _ z => nomatch z)
  have e : s' = { s with heap := s'.heap, gens := s'.gens, drawn := s'.drawn, toks := s'.toks } := by
    cases s'
    cases s
    cases o
    rfl
  rw [e]
  exact ⟨.ref p, _, J, rfl, q p hn0⟩
end
/-- the texts of a list or tuple -/
def dstrs : List D → Option (List Str)
  | [] => some []
  | .str x :: ds => (dstrs ds).map fun xs => x :: xs
  | _ :: _ => none
theorem dstrs_rep {K : Frag} {F : Hp} : ∀ {ds : List D} {vs : List V} {xs : List Str}, Reps K F vs ds → dstrs ds = some xs → vs = xs.map V.str
  | _, _, _, .nil, h => by cases h; rfl
  | .str x :: ds, _, xs, .cons h r, h' => by
    rw [dstrs] at h'
    cases h2 : dstrs ds with
    | none => rw [h2] at h'; cases h'
    | some ys =>
      rw [h2] at h'; cases h'
      cases h
      rw [dstrs_rep r h2]; rfl
  | .non :: ds, _, xs, .cons h r, h' => by cases h'
  | .bl _ :: ds, _, xs, .cons h r, h' => by cases h'
  | .int _ :: ds, _, xs, .cons h r, h' => by cases h'
  | .tup _ :: ds, _, xs, .cons h r, h' => by cases h'
  | .lst _ :: ds, _, xs, .cons h r, h' => by cases h'
  | .scr _ :: ds, _, xs, .cons h r, h' => by cases h'
  | .dic _ :: ds, _, xs, .cons h r, h' => by cases h'
  | .obj _ _ :: ds, _, xs, .cons h r, h' => by cases h'
  | .ins _ _ :: ds, _, xs, .cons h r, h' => by cases h'
def seqLT : D → Option (List D)
  | .lst xs => some xs
  | .scr xs => some xs
  | .tup xs => some xs
  | _ => none
theorem seqLT_rep {K : Frag} {F H : Hp} {v : V} {d : D} {xs : List D} (e : Ex F H) (r : Rep K F v d) (h : seqLT d = some xs) : ∃ a vs, v = .ref a ∧ (SqL K H a vs ∨ SqT K H a vs) ∧ Reps K F vs xs := by
  cases r with
  | lst h' r' => cases h; exact ⟨_, _, rfl, .inl (.inl (.inl (e _ _ h'))), r'⟩
  | scr h' r' => cases h; exact ⟨_, _, rfl, .inl (ex_l e h'), r'⟩
  | tup h' r' => cases h; exact ⟨_, _, rfl, .inr (ex_t e h'), r'⟩
  | _ => cases h
def dSset (d : D) : Option D := (seqLT d).bind fun ds => (dstrs ds).bind fun xs => if xs.length < 1000 then some (.lst ((ssort xs).map .str)) else none
theorem reps_strs {K : Frag} {F : Hp} : ∀ xs : List Str, Reps K F (xs.map V.str) (xs.map D.str)
  | [] => .nil
  | x :: xs => .cons (.str x) (reps_strs xs)
def vsset (f : Env → Rs D) : Env → Rs D := fun δ => bind (f δ) fun x => opt (dSset x)
theorem jp_sset {X : Cx} {e : Expr} {p p2 pos pos2 : Pos} {f : Env → Rs D} (hu : X.A.units + 70 < cLine) (hm1 : X.mg "sorted" = none) (hm2 : X.mg "set" = none) (he : JP X e f) (hc : X.calm = true := by rfl) (hg1 : Gl X "sorted" := by rfl) (hg2 : Gl X "set" := by rfl)
    (s1 : starEach [.Call (.Name "set" p2) [e] [] pos2] X.env = (false, eval (.Call (.Name "set" p2) [e] [] pos2) X.env) :: starEach [] X.env := by rfl)
    (s2 : starEach [e] X.env = (false, eval e X.env) :: starEach [] X.env := by rfl) : JP X (.Call (.Name "sorted" p) [.Call (.Name "set" p2) [e] [] pos2] [] pos) (vsset f) := ⟨fun {σ F H δ W Q o} rp tk hg hP => by
  refine we_of (pe_callB (cr_sortS hc hu) hg1 hm1 rfl pa_wa (by decide) (by decide) s1 rfl) (wa_of (pa_cons pe_we pa_nil s1) ?_)
  refine we_of (pe_callTy (cr_setS hc) hg2 hm2 rfl pa_wa (by decide) (by decide) s2 rfl) (wa_of (pa_cons pe_we pa_nil s2) ?_)
  refine jp_bind he rp tk hg hP fun x v F1 H1 h1 g1 rx r1 P1 => ?_
  obtain ⟨z, hz, rfl⟩ := opt_some h1
  unfold dSset at hz
  cases q1 : seqLT x with
  | none => rw [q1] at hz; cases hz
  | some ds =>
    cases q2 : dstrs ds with
    | none => rw [q1, Option.bind_some, q2] at hz; cases hz
    | some xs =>
      rw [q1, Option.bind_some, q2, Option.bind_some] at hz
      split at hz
      · rename_i hl
        cases hz
        obtain ⟨a, vs, rfl, hs, rs⟩ := seqLT_rep r1.ex rx q1
        have hv := dstrs_rep rs q2
        subst hv
        refine ⟨a, xs, rfl, hs, hl, fun p hp => ⟨p, xs, rfl, upd_same, hl, fun p' hp' => ?_⟩⟩
        exact P1 _ _ _ ((Grow.aside r1.ex hp).trans (.new (Grow.aside r1.ex hp).ex hp')) (.lst upd_same (reps_strs _))
      · cases hz⟩
end PD
end
section
namespace PD
open PySem L2
/-! ### a slot's own container held fast for good -/
section
variable {K : Frag} {own : List Nat} {P : Pm} {F0 H0 F : Hp} {σ : L2.St} {H : Hp} {δ : Env}
/-- the box is there -/
def bxIn (own : List Nat) (δ : Env) : Bool := !own.contains 0 || (match δ[(0 : Nat)]? with
  | some (some _) => true
  | _ => false)
theorem RS.frz1 [PmOk P] {i : Nat} (r : RS K own P F0 H0 F σ H δ) (hb : bxIn own δ = true) (hz : i ≠ 0) : ∃ F', Ex F F' ∧ RS K (own.filter (· != i)) P F0 H0 F' σ H δ := by
  obtain ⟨fp, h1, h2, h3⟩ := r.own
  by_cases hi : i ∈ own ∧ ∃ d, δ[i]? = some (some d)
  · obtain ⟨hi, d, hd⟩ := hi
    obtain ⟨v, hv, o⟩ := h1 i d hi hd
    have key : ∀ p ob, fp i = [p] → H p = some ob → Rep K (upd F p ob) v d → ∃ F', Ex F F' ∧ RS K (own.filter (· != i)) P F0 H0 F' σ H δ := by
      intro p ob hfp hH rep
      have hpi : p ∈ fp i := by rw [hfp]; exact List.mem_singleton.2 rfl
      obtain ⟨a1, a2, a3⟩ := h2 i p hpi
      have hpar : H0 p = none := by
        rcases a3 with a3 | a3
        · exact a3
        · exfalso
          obtain ⟨b1, b2⟩ := r.par p (PmOk.ok p a3)
          unfold bxIn at hb
          rw [show own.contains 0 = true by simpa using b1] at hb
          simp only [Bool.not_true, Bool.false_or] at hb
          split at hb
          · rename_i d0 hd0
            obtain ⟨v0, hv0, o0⟩ := h1 0 d0 b1 hd0
            rw [b2] at hv0; cases hv0
            have : p ∈ fp 0 := by
              cases hf0 : fp 0 with
              | nil => rw [hf0] at o0; cases o0
              | cons x xs => rw [hf0] at o0; cases o0 <;> exact List.mem_singleton.2 rfl
            exact h3 i 0 p hz hpi this
          · cases hb
      refine ⟨upd F p ob, Ex.new a1, ?_⟩
      exact {
        ff := r.ff.trans (Ex.new a1)
        fh := fun a q e => by
          by_cases x : a = p
          · subst x; rw [upd_same] at e; cases e; exact hH
          · rw [upd_ne x] at e; exact r.fh a q e
        hh := r.hh
        dm := r.dm
        nw := fun a e => (upd_ne_none e).elim (r.nw a) fun x => .inr (by rw [x]; exact hpar)
        ln := r.ln
        par := fun a h => ⟨List.mem_filter.2 ⟨(r.par a h).1, by simp; exact fun q => hz q.symm⟩, (r.par a h).2⟩
        val := fun j dj hj e => by
          by_cases q : j = i
          · subst q
            rw [hd] at e; cases e
            exact ⟨v, hv, rep⟩
          · have hj' : j ∉ own := fun z => hj (List.mem_filter.2 ⟨z, by simpa using q⟩)
            obtain ⟨w, hw, rw'⟩ := r.val j dj hj' e
            exact ⟨w, hw, rw'.mono (Ex.new a1)⟩
        own := by
          refine ⟨fun j => if j = i then [] else fp j, fun j dj hj e => ?_, fun j a ha => ?_, fun j k a hjk ha hk => ?_⟩
          · obtain ⟨z1, z2⟩ := List.mem_filter.1 hj
            have q : j ≠ i := by simpa using z2
            dsimp only
            rw [if_neg q]
            obtain ⟨w, hw, ow⟩ := h1 j dj z1 e
            exact ⟨w, hw, ow.keep (Ex.new a1) fun a _ o e => e⟩
          · dsimp only at ha
            by_cases q : j = i
            · rw [if_pos q] at ha; cases ha
            · rw [if_neg q] at ha
              obtain ⟨b1, b2, b3⟩ := h2 j a ha
              exact ⟨by rw [upd_ne (fun x : a = p => h3 i j p (fun z => q z.symm) hpi (x ▸ ha))]; exact b1, b2, b3⟩
          · dsimp only at ha
            by_cases q : j = i
            · rw [if_pos q] at ha; cases ha
            · rw [if_neg q] at ha
              dsimp only at hk
              by_cases q2 : k = i
              · rw [if_pos q2] at hk; cases hk
              · rw [if_neg q2] at hk
                exact h3 j k a hjk ha hk }
    have hfp : ∃ p, fp i = [p] := by
      cases hfp : fp i with
      | nil => rw [hfp] at o; cases o
      | cons a as => rw [hfp] at o; cases o <;> exact ⟨a, rfl⟩
    obtain ⟨p, hfp⟩ := hfp
    have a1 := (h2 i p (by rw [hfp]; exact List.mem_singleton.2 rfl)).1
    rw [hfp] at o
    cases o with
    | lst h rr => exact key p _ hfp h (.lst upd_same (rr.mono (Ex.new a1)))
    | dic h rr => exact key p _ hfp h (.dic upd_same (rr.mono (Ex.new a1)))
  · refine ⟨F, Ex.refl _, ?_⟩
    exact {
      ff := r.ff, fh := r.fh, hh := r.hh, dm := r.dm, nw := r.nw, ln := r.ln
      par := fun a h => ⟨List.mem_filter.2 ⟨(r.par a h).1, by simp; exact fun q => hz q.symm⟩, (r.par a h).2⟩
      val := fun j dj hj e => by
        by_cases q : j = i
        · subst q
          exact r.val j dj (fun z => hi ⟨z, dj, e⟩) e
        · exact r.val j dj (fun z => hj (List.mem_filter.2 ⟨z, by simpa using q⟩)) e
      own := ⟨fp, fun j dj hj e => h1 j dj (List.mem_filter.1 hj).1 e, h2, h3⟩ }
end
def sfrz (own : List Nat) (k : Env → RO) : Env → RO := fun δ => if bxIn own δ = true then k δ else none
section
variable {X : Cx} {own : List Nat}
/-- the end of a def's body -/
structure JB (X : Cx) (own : List Nat) (st : List Stmt) (g : Env → RO) : Prop where
  run : ∀ {P F0 H0 σ F H δ W o D} [PmOk P], RSf X ⟨own, P, F0, H0⟩ F σ H δ → Takes X W → g δ = some o → (∀ own' : List Nat, (∀ a, P.bx a → 0 ∈ own') → PostS X ⟨own', P, F0, H0⟩ F W o D) → WSs X st D σ H
theorem jb_of {st : List Stmt} {g : Env → RO} (h : JSs X own st g) : JB X own st g := ⟨fun {P F0 H0 σ F H δ W o D} _ r tk hg hP => h.run r tk hg (hP own fun a ha => (r.par a ha).1)⟩
theorem jb_cons {st : Stmt} {rest : List Stmt} {g k : Env → RO} (h : JS X own st g) (hr : JB X own rest k) : JB X own (st :: rest) (sseq g k) := ⟨fun {P F0 H0 σ F H δ W o D} _ r tk hg hP => by
  refine wss_of (pss_cons ps_ws pss_wss) ?_
  show WS X st { D with nx := WSs X rest D } σ H
  have hb : ∀ a, P.bx a → 0 ∈ own := fun a ha => (r.par a ha).1
  unfold sseq at hg
  cases e : g δ with
  | none => rw [e] at hg; cases hg
  | some y => rcases y with x | ⟨o1, δ1⟩
              · rw [e] at hg; cases hg; exact h.run r tk e (hP own hb)
              · cases o1 with
                | nx => rw [e] at hg; exact h.run r tk e fun σ' F' H' r1 e1 => hr.run r1 tk hg fun own' h' => (hP own' h').later e1
                | rt d => rw [e] at hg; cases hg; exact h.run r tk e (hP own hb)
                | bk => rw [e] at hg; cases hg; exact h.run r tk e (hP own hb)
                | ct => rw [e] at hg; cases hg; exact h.run r tk e (hP own hb)⟩
theorem jb_frz (i : Nat) {own' : List Nat} {st : List Stmt} {k : Env → RO} (h : JB X own' st k) (ho : own.filter (· != i) = own' := by rfl) (hz : i ≠ 0 := by decide) : JB X own st (sfrz own k) := ⟨fun {P F0 H0 σ F H δ W o D} _ r tk hg hP => by
  subst ho
  unfold sfrz at hg
  split at hg
  · rename_i hb
    obtain ⟨F', e, r'⟩ := RS.frz1 r hb hz
    exact h.run r' tk hg fun own' h' => (hP own' h').later e
  · cases hg⟩
theorem jb_if {q : Expr} {a b : List Stmt} {pos : Pos} {t : Env → RE Bool} {f g : Env → RO} (hq : JTE X own q t) (ha : JB X own a f) (hb : JB X own b g) : JB X own [.If q a b pos] (sif t f g) := ⟨fun {P F0 H0 σ F H δ W o D} _ r tk hg hP => by
  have h0 : ∀ a, P.bx a → 0 ∈ own := fun a ha => (r.par a ha).1
  refine wss_of (pss_one (ps_if pt_wt pss_wss pss_wss)) ?_
  show WT X q σ H fun k H1 => if k = true then WSs X a D σ H1 else WSs X b D σ H1
  unfold sif at hg
  cases e : t δ with
  | none => rw [e] at hg; cases hg
  | some y => cases y with
    | error x => rw [e] at hg; cases hg; exact hq.run r tk e fun c d F' H' r1 e1 rx => hP own h0 c d σ F' H' r1 e1 rx
    | ok x =>
      rw [e] at hg
      obtain ⟨x, δ1⟩ := x
      refine hq.run r tk e fun v F1 H1 r1 e1 rx => ?_
      cases rx
      dsimp only [bindE] at hg
      cases x with
      | true => rw [if_pos rfl] at *; exact ha.run r1 tk hg fun own' h' => (hP own' h').later e1
      | false => rw [if_neg Bool.false_ne_true] at *; exact hb.run r1 tk hg fun own' h' => (hP own' h').later e1⟩
end
section
variable {P : Program} {w : World} {K : Frag} {mg : Str → Option Value} {base : Heap}
theorem RS.any {own : List Nat} {F0 H0 F : Hp} {σ : L2.St} {H : Hp} {δ : Env} (r : RS K own Pm.no F0 H0 F σ H δ) : Grow F0 H0 F H := ⟨r.ff, r.fh, fun a o h => r.hh a o (fun h => h.elim) h, r.nw⟩
theorem bd_okB {qual : Str} {body : List Stmt} {scope : Scope} {f : Addr} {N ps : List Str} {own : List Nat} {g : Env → RO} (hon : own.all (fun i => decide (ps.length ≤ i)) = true)
    (hps : decide (ps.length ≤ N.length) = true)
    {cdv : Value} {A : Around} {outer : List PySem.Env} {s : Shared} {H : Hp} {E : XK} {vs : List V} {Q : VK} (hb : JB (cxOf (L2.CX P w) P w K mg base N qual scope f cdv A outer s H E) own body g) (h : spP K (den ps.length N.length g) vs H Q E) :
    ∃ t, PSs (cxOf (L2.CX P w) P w K mg base N qual scope f cdv A outer s H E) body t ∧ t { nx := fun _ H' => Q .non H', rt := Q } (L2.start N vs) H := by
  obtain ⟨F', ds, o, e, r, h1, hP⟩ := h
  unfold den at h1
  by_cases hl : ds.length = ps.length
  · rw [if_pos hl] at h1
    have hl' : ps.length ≤ N.length := of_decide_eq_true hps
    have hlv : vs.length = ps.length := by rw [Rep.len r, hl]
    refine ⟨_, pss_wss, ?_⟩
    have tk : Takes (cxOf (L2.CX P w) P w K mg base N qual scope f cdv A outer s H E) (fun cls d _ H => E cls d H) := takes_of rfl rfl rfl rfl
    have R0 : RSf (cxOf (L2.CX P w) P w K mg base N qual scope f cdv A outer s H E) ⟨own, Pm.no, F', H⟩ F' (L2.start N vs) H (ds.map some ++ List.replicate (N.length - ps.length) none) := {
      ff := Ex.refl _
      fh := e
      hh := fun _ _ _ h => h
      dm := fun _ h => h
      nw := fun _ h => .inl h
      ln := by unfold L2.start; simp [hl, hlv]
      par := fun _ h => h.elim
      val := fun i d _ h => by
        unfold L2.start
        exact Reps.some_get r h
      own := ⟨fun _ => [], And.intro (fun (i : Nat) (d : D) hi (h : (List.map some ds ++ List.replicate (N.length - ps.length) (none : Option D))[i]? = some (some d)) => by
        have := of_decide_eq_true (List.all_eq_true.1 hon i hi)
        rw [List.getElem?_append_right (by rw [List.length_map, hl]; exact this), List.getElem?_replicate] at h
        split at h <;> cases h) (And.intro (fun i a h => absurd h (by simp)) (fun i j a _ h => absurd h (by simp)))⟩ }
    cases e2 : g (ds.map some ++ List.replicate (N.length - ps.length) none) with
    | none => rw [e2] at h1; cases h1
    | some y =>
      rw [e2] at h1
      refine hb.run R0 tk e2 fun own' _ => ?_
      rcases y with ⟨x, δ'⟩ | ⟨o1, δ'⟩
      · cases h1
        exact fun cls dd σ' F1 H1 r1 e1 rx => hP cls dd F1 H1 r1.any rx
      · cases o1 with
        | rt d => cases h1; exact fun v σ' F1 H1 r1 e1 rx => hP v F1 H1 r1.any rx
        | nx => cases h1; exact fun σ' F1 H1 r1 e1 => hP .non F1 H1 r1.any .non
        | bk => cases h1
        | ct => cases h1
  · rw [if_neg hl] at h1; cases h1
theorem fn_okB {x qual : Str} {params : Arguments} {body : List Stmt} {scope : Scope} {f : Addr} {fd : FuncData} {dvs : List V} {kws : List (Str × V)} {N ps : List Str} {k : Nat} {own : List Nat} {g : Env → RO} (F : FunD K x qual params body scope dvs kws f fd) (S : FnScope N ps scope) (hon : own.all (fun i => decide (ps.length ≤ i)) = true)
    (hps : decide (ps.length ≤ N.length) = true)
    (hb : ∀ (cdv : Value) (A : Around) (outer : List PySem.Env) (s : Shared) (H : Hp) (E : XK), Room k (A.deeper (PyProof.Rows.envOfC qual scope s.heap.objs.size f cdv)) → JB (cxOf (L2.CX P w) P w K mg base N qual scope f cdv A outer s H E) own body g) :
    FnOk P w K mg base (L2.CX P w) (k + 1) f fd ps (spP K (den ps.length N.length g)) := by
  refine FunD.ok F S (fun vs H Q E h => ?_) (fun cdv A outer s H vs Q E hr h => bd_okB hon hps (hb cdv A outer s H E hr) h)
  obtain ⟨F', ds, o, e, r, h1, _⟩ := h
  unfold den at h1
  by_cases hl : ds.length = ps.length
  · rw [Rep.len r, hl]
  · rw [if_neg hl] at h1; cases h1
theorem bdB_okB {qual : Str} {body : List Stmt} {scope : Scope} {f : Addr} {N ps : List Str} {own : List Nat} {g : Env → RO} (hon : own.all (fun i => decide (i = 0 ∨ ps.length ≤ i)) = true) (h0 : own.contains 0 = true)
    (hps : decide (ps.length ≤ N.length) = true)
    {cdv : Value} {A : Around} {outer : List PySem.Env} {s : Shared} {H : Hp} {E : XK} {vs : List V} {Q : VK} (hb : JB (cxOf (L2.CX P w) P w K mg base N qual scope f cdv A outer s H E) own body g) (h : spB K (denB ps.length N.length g) vs H Q E) :
    ∃ t, PSs (cxOf (L2.CX P w) P w K mg base N qual scope f cdv A outer s H E) body t ∧ t { nx := fun _ H' => Q .non H', rt := Q } (L2.start N vs) H := by
  obtain ⟨F', p, ws, bs, B, ds, d, B', rfl, e, hF, hH, rb, rd, h1, hP⟩ := h
  unfold denB at h1
  by_cases hl : ds.length + 1 = ps.length
  · rw [if_pos hl] at h1
    have hl' : ps.length ≤ N.length := of_decide_eq_true hps
    have hlv : ws.length = ds.length := Rep.len rd
    have h0' : 0 ∈ own := by simpa using h0
    refine ⟨_, pss_wss, ?_⟩
    have tk : Takes (cxOf (L2.CX P w) P w K mg base N qual scope f cdv A outer s H E) (fun cls d _ H => E cls d H) := takes_of rfl rfl rfl rfl
    have R0 : RSf (cxOf (L2.CX P w) P w K mg base N qual scope f cdv A outer s H E) ⟨own, ⟨fun a => a = p, fun a => a = p⟩, F', H⟩ F' (L2.start N (.ref p :: ws)) H (some (.lst B) :: (ds.map some ++ List.replicate (N.length - ps.length) none)) := {
      ff := Ex.refl _
      fh := e
      hh := fun _ _ _ h => h
      dm := fun _ h => h
      nw := fun _ h => .inl h
      ln := by unfold L2.start; simp [hlv]; omega
      par := fun a h => ⟨h0', by rw [show a = p from h]; rfl⟩
      val := fun i d hi h => by
        cases i with
        | zero => exact absurd h0' hi
        | succ i =>
          unfold L2.start
          rw [List.getElem?_cons_succ] at h
          rw [List.map_cons, List.cons_append, List.getElem?_cons_succ]
          exact Reps.some_get rd h
      own := ⟨fun i => if i = 0 then [p] else [], And.intro (fun (i : Nat) (d : D) hi (h : (some (D.lst B) :: (List.map some ds ++ List.replicate (N.length - ps.length) (none : Option D)))[i]? = some (some d)) => by
        cases i with
        | zero => cases h; exact ⟨.ref p, rfl, .lst hH rb⟩
        | succ i =>
          have := of_decide_eq_true (List.all_eq_true.1 hon _ hi)
          rw [List.getElem?_cons_succ, List.getElem?_append_right (by rw [List.length_map]; omega), List.getElem?_replicate] at h
          split at h <;> cases h) (And.intro (fun i a h => by
            dsimp only at h
            by_cases q : i = 0
            · rw [if_pos q] at h; cases List.mem_singleton.1 h; exact ⟨hF, by rw [hH]; simp, .inr rfl⟩
            · rw [if_neg q] at h; cases h) (fun i j a hij h h2 => by
            dsimp only at h h2
            by_cases q : i = 0
            · rw [if_neg (fun z => hij (q.trans z.symm))] at h2; cases h2
            · rw [if_neg q] at h; cases h))⟩ }
    have fin : ∀ (own' : List Nat) (_ : 0 ∈ own') (v : V) (σ' : L2.St) (F1 H1 : Hp) (δ' : Env), RSf (cxOf (L2.CX P w) P w K mg base N qual scope f cdv A outer s H E) ⟨own', ⟨fun a => a = p, fun a => a = p⟩, F', H⟩ F1 σ' H1 δ' → δ'[0]? = some (some (.lst B')) → Rep K F1 v d → Q v H1 := fun own' ho' v σ' F1 H1 δ' r1 hB rv => by
      obtain ⟨p', bs', hp', hH', rb', hF1⟩ := r1.lst ho' hB
      have := (r1.par p rfl).2
      rw [this] at hp'; cases hp'
      exact hP v F1 H1 bs' ⟨r1.ff, r1.fh, fun a o hne h => r1.hh a o hne h, r1.nw, hF1⟩ hH' rb' rv
    cases e2 : g (some (.lst B) :: (ds.map some ++ List.replicate (N.length - ps.length) none)) with
    | none => rw [e2] at h1; cases h1
    | some y =>
      rw [e2] at h1
      refine hb.run R0 tk e2 fun own' ho' => ?_
      rcases y with ⟨x, δ'⟩ | ⟨o1, δ'⟩
      · cases h1
      · cases o1 with
        | rt d1 => obtain ⟨rfl, hB⟩ := bxOf_some h1; exact fun v σ' F1 H1 r1 e1 rx => fin own' (ho' p rfl) v σ' F1 H1 δ' r1 hB rx
        | nx => obtain ⟨rfl, hB⟩ := bxOf_some h1; exact fun σ' F1 H1 r1 e1 => fin own' (ho' p rfl) .non σ' F1 H1 δ' r1 hB .non
        | bk => cases h1
        | ct => cases h1
  · rw [if_neg hl] at h1; cases h1
theorem fnB_okB {x qual : Str} {params : Arguments} {body : List Stmt} {scope : Scope} {f : Addr} {fd : FuncData} {dvs : List V} {kws : List (Str × V)} {N ps : List Str} {k : Nat} {own : List Nat} {g : Env → RO} (F : FunD K x qual params body scope dvs kws f fd) (S : FnScope N ps scope) (hon : own.all (fun i => decide (i = 0 ∨ ps.length ≤ i)) = true) (h0 : own.contains 0 = true)
    (hps : decide (ps.length ≤ N.length) = true)
    (hb : ∀ (cdv : Value) (A : Around) (outer : List PySem.Env) (s : Shared) (H : Hp) (E : XK), Room k (A.deeper (PyProof.Rows.envOfC qual scope s.heap.objs.size f cdv)) → JB (cxOf (L2.CX P w) P w K mg base N qual scope f cdv A outer s H E) own body g) :
    FnOk P w K mg base (L2.CX P w) (k + 1) f fd ps (spB K (denB ps.length N.length g)) := by
  refine FunD.ok F S (fun vs H Q E h => ?_) (fun cdv A outer s H vs Q E hr h => bdB_okB hon h0 hps (hb cdv A outer s H E hr) h)
  obtain ⟨F', p, ws, bs, B, ds, d, B', rfl, e, hF, hH, rb, rd, h1, _⟩ := h
  unfold denB at h1
  by_cases hl : ds.length + 1 = ps.length
  · rw [List.length_cons, Rep.len rd, hl]
  · rw [if_neg hl] at h1; cases h1
end
end PD
end
section
namespace PD
open PySem L2
/-! ### several values, some of them new and to be owned -/
def Held (X : Cx) : Fr → List Bool → List D → List V → Hp → L2.St → Hp → Env → Prop
  | f, [], ds, vs, F, σ, H, δ => ds = [] ∧ vs = [] ∧ RSf X f F σ H δ
  | f, false :: bs, ds, vs, F, σ, H, δ => ∃ d es v ws, ds = d :: es ∧ vs = v :: ws ∧ Rep X.K F v d ∧ Held X f bs es ws F σ H δ
  | f, true :: bs, ds, vs, F, σ, H, δ => ∃ d es Dd ob ws P' F1 H1, ds = d :: es ∧ vs = .ref Dd :: ws ∧ OwnO X.K F ob d ∧ Chn f.P f.F0 f.H0 P' F1 H1 ∧ H1 Dd = some ob ∧ ¬ P' Dd ∧ F1 Dd = none ∧ f.H0 Dd = none ∧ Held X ⟨f.own, P', F1, H1⟩ bs es ws F σ H δ
def PostX (X : Cx) (f : Fr) (bs : List Bool) (F : Hp) (σ : L2.St) (W : WX) (o : Except (XD × Env) (List D × Env)) (Q : List V → Hp → Prop) : Prop := match o with
  | .ok (ds, δ') => ∀ vs F' H', Held X f bs ds vs F' σ H' δ' → Ex F F' → Q vs H'
  | .error (x, δ') => ∀ cls dd F' H', RSf X f F' σ H' δ' → Ex F F' → RepX X.K F' cls dd x → W cls dd σ H'
structure JX (X : Cx) (own : List Nat) (bs : List Bool) (es : List Expr) (g : Env → RE (List D)) : Prop where
  run : ∀ {P F0 H0 σ F H δ W Q o}, RSf X ⟨own, P, F0, H0⟩ F σ H δ → Takes X W → g δ = some o → PostX X ⟨own, P, F0, H0⟩ bs F σ W o Q → WA X es σ H Q
section
variable {X : Cx} {own : List Nat} {e a b : Expr} {es : List Expr} {pos : Pos}
theorem jx_nil : JX X own [] [] enil := ⟨fun {P F0 H0 σ F H δ W Q o} r tk hg hP => by cases hg; exact wa_of pa_nil (hP [] F H ⟨rfl, rfl, r⟩ (Ex.refl _))⟩
theorem bindE_some {α β : Type} {x : RE α} {k : α → Env → RE β} {o : Except (XD × Env) (β × Env)} (h : bindE x k = some o) : (∃ y, x = some (.error y) ∧ o = .error y) ∨ ∃ a δ, x = some (.ok (a, δ)) ∧ k a δ = some o := by
  cases x with
  | none => cases h
  | some y => cases y with
    | error y => cases h; exact .inl ⟨y, rfl, rfl⟩
    | ok y => obtain ⟨a, δ⟩ := y; exact .inr ⟨a, δ, rfl, h⟩
theorem jx_cons {bs : List Bool} {f : Env → RE D} {k : Env → RE (List D)} (ha : JE X own e f) (hr : JX X own bs es k) (hs : starEach (e :: es) X.env = (false, eval e X.env) :: starEach es X.env := by rfl) : JX X own (false :: bs) (e :: es) (econs f k) := ⟨fun {P F0 H0 σ F H δ W Q o} r tk hg hP => by
  refine wa_of (pa_cons pe_we pa_wa hs) ?_
  rcases bindE_some hg with ⟨y, h1, rfl⟩ | ⟨d, δ1, h1, hg⟩
  · exact ha.run r tk h1 hP
  · refine ha.run r tk h1 fun v F1 H1 r1 e1 rx => ?_
    rcases bindE_some hg with ⟨y, h2, rfl⟩ | ⟨ds, δ2, h2, hg⟩
    · exact hr.run r1 tk h2 fun c dd F' H' r2 e2 rx => hP c dd F' H' r2 (e1.trans e2) rx
    · cases hg
      exact hr.run r1 tk h2 fun vs F2 H2 hd e2 => hP (v :: vs) F2 H2 ⟨d, ds, v, vs, rfl, rfl, rx.mono e2, hd⟩ (e1.trans e2)⟩
theorem jx_new {bs : List Bool} {f : Env → RE D} {k : Env → RE (List D)} (ha : JN X own e f) (hr : JX X own bs es k) (hs : starEach (e :: es) X.env = (false, eval e X.env) :: starEach es X.env := by rfl) : JX X own (true :: bs) (e :: es) (econs f k) := ⟨fun {P F0 H0 σ F H δ W Q o} r tk hg hP => by
  refine wa_of (pa_cons pe_we pa_wa hs) ?_
  rcases bindE_some hg with ⟨y, h1, rfl⟩ | ⟨d, δ1, h1, hg⟩
  · exact ha.run r tk h1 hP
  · refine ha.run r tk h1 fun Dd ob F1 H1 l e1 rx => ?_
    obtain ⟨⟨P', Fb, Hb, r1, c, e, n, nf⟩, nh⟩ := l
    rcases bindE_some hg with ⟨y, h2, rfl⟩ | ⟨ds, δ2, h2, hg⟩
    · exact hr.run (P := P') (F0 := Fb) (H0 := Hb) r1 tk h2 fun cc dd F' H' r2 e2 rx => hP cc dd F' H' (RS.back r2 c) (e1.trans e2) rx
    · cases hg
      exact hr.run (P := P') (F0 := Fb) (H0 := Hb) r1 tk h2 fun vs F2 H2 hd e2 => hP (.ref Dd :: vs) F2 H2 ⟨d, ds, Dd, ob, vs, P', Fb, Hb, rfl, rfl, rx.mono e2, c, e, n, nf, nh, hd⟩ (e1.trans e2)⟩
/-- slots for them -/
def slotOk (own : List Nat) : List Bool → List Nat → Bool
  | [], [] => true
  | b :: bs, i :: is => (if b = true then own.contains i && i != 0 else !own.contains i) && !is.contains i && slotOk own bs is
  | _, _ => false
def setV : List Nat → List V → L2.St → L2.St
  | i :: is, v :: vs, σ => (setV is vs σ).set i (some v)
  | _, _, σ => σ
def setD : List Nat → List D → Env → Env
  | i :: is, d :: ds, δ => (setD is ds δ).set i (some d)
  | _, _, δ => δ
theorem Held.sets {K : Frag} : ∀ (bs : List Bool) (is : List Nat) {f : Fr} {ds : List D} {vs : List V} {F : Hp} {σ : L2.St} {H : Hp} {δ : Env}, slotOk f.own bs is = true → Held X f bs ds vs F σ H δ → RSf X f F (setV is vs σ) H (setD is ds δ)
  | [], [], f, ds, vs, F, σ, H, δ, _, h => by obtain ⟨rfl, rfl, r⟩ := h; exact r
  | [], _ :: _, _, _, _, _, _, _, _, h, _ => by cases h
  | _ :: _, [], _, _, _, _, _, _, _, h, _ => by cases h
  | false :: bs, i :: is, f, ds, vs, F, σ, H, δ, hs, h => by
    obtain ⟨d, es, v, ws, rfl, rfl, rv, hd⟩ := h
    simp only [slotOk, Bool.and_eq_true] at hs
    have hi : i ∉ f.own := by simpa using hs.1.1
    exact RS.set (Held.sets (K := K) bs is hs.2 hd) hi rv
  | true :: bs, i :: is, f, ds, vs, F, σ, H, δ, hs, h => by
    obtain ⟨d, es, Dd, ob, ws, P', F1, H1, rfl, rfl, ho, c, e, n, nf, nh, hd⟩ := h
    simp only [slotOk, Bool.and_eq_true, if_true] at hs
    have r := Held.sets (K := K) (f := ⟨f.own, P', F1, H1⟩) bs is hs.2 hd
    have l : LS X.K f.own f.P f.F0 f.H0 Dd ob F (setV is ws σ) H (setD is es δ) := ⟨⟨P', F1, H1, r, c, e, n, nf⟩, nh⟩
    exact l.keepOwn ho (by simpa using hs.1.1.1) (by simpa using hs.1.1.2)
theorem js_par2X (i j : Nat) {bs : List Bool} {x y : Str} {px py pt : Pos} {kt k2 pt2} {f : Env → RE (List D)} (hc : X.calm = true) (hN : X.N.Nodup) (ha : JX X own bs [a, b] f) (hi : X.N[i]? = some x := by rfl) (hj : X.N[j]? = some y := by rfl) (hij : i ≠ j := by decide)
    (hx : X.env.scope.names.lookup x = some .local := by rfl) (hy : X.env.scope.names.lookup y = some .local := by rfl) (hb : slotOk own bs [i, j] = true := by decide)
    (hw : swappedStores [.Tuple [.Name x px, .Name y py] kt pt] (.Tuple [a, b] k2 pt2) X.env = pure (some [x, y]) := by rfl)
    (hs : swapsWithSole [.Tuple [.Name x px, .Name y py] kt pt] (.Tuple [a, b] k2 pt2) pos.line X.env = pure false := by rfl) :
    JS X own (.Assign [.Tuple [.Name x px, .Name y py] kt pt] (.Tuple [a, b] k2 pt2) pos) (spar2 i j f) := ⟨fun {P F0 H0 σ F H δ W o D} _ r tk hg hP => by
  refine ws_of (ps_par hc hN hi hj hij hx hy pa_wa hw hs) ?_
  rcases bindE_some hg with ⟨y, h1, rfl⟩ | ⟨ds, δ1, h1, hg⟩
  · exact ha.run r tk h1 fun c dd F' H' r1 e1 rx => hP c dd σ F' H' r1 e1 rx
  · refine ha.run r tk h1 fun vs F1 H1 hd e1 => ?_
    rcases ds with _ | ⟨d1, _ | ⟨d2, _ | ⟨d3, ds⟩⟩⟩ <;> (try (cases hg; done))
    cases hg
    have R := Held.sets (K := X.K) bs [i, j] hb hd
    have : ∃ v w, vs = [v, w] := by
      rcases bs with _ | ⟨b1, _ | ⟨b2, _ | ⟨b3, bs⟩⟩⟩ <;> (try (simp [slotOk] at hb; done))
      cases b1 <;> cases b2 <;> simp only [Held] at hd
      · obtain ⟨_, _, v, ws, _, rfl, _, _, _, w, us, _, rfl, _, _, rfl, _⟩ := hd; exact ⟨v, w, rfl⟩
      · obtain ⟨_, _, v, ws, _, rfl, _, _, _, p, ob, us, _, _, _, _, rfl, _, _, _, _, _, _, _, rfl, _⟩ := hd; exact ⟨v, .ref p, rfl⟩
      · obtain ⟨_, _, p, ob, ws, _, _, _, _, rfl, _, _, _, _, _, _, _, _, w, us, _, rfl, _, _, rfl, _⟩ := hd; exact ⟨.ref p, w, rfl⟩
      · obtain ⟨_, _, p, ob, ws, _, _, _, _, rfl, _, _, _, _, _, _, _, _, p2, ob2, us, _, _, _, _, rfl, _, _, _, _, _, _, _, rfl, _⟩ := hd; exact ⟨.ref p, .ref p2, rfl⟩
    obtain ⟨v, w, rfl⟩ := this
    refine ⟨v, w, rfl, hP _ F1 H1 ?_ e1⟩
    have R' : RSf X ⟨own, P, F0, H0⟩ F1 ((σ.set j (some w)).set i (some v)) H1 ((δ1.set j (some d2)).set i (some d1)) := R
    rwa [List.set_comm _ _ (fun q => hij q.symm), List.set_comm _ _ (fun q => hij q.symm)] at R'⟩
end
end PD
end
section
namespace PD
open PySem L2
theorem Held.len {X : Cx} : ∀ (bs : List Bool) {f : Fr} {ds : List D} {vs : List V} {F : Hp} {σ : L2.St} {H : Hp} {δ : Env}, Held X f bs ds vs F σ H δ → vs.length = bs.length
  | [], _, _, _, _, _, _, _, h => by obtain ⟨_, rfl, _⟩ := h; rfl
  | false :: bs, _, _, _, _, _, _, _, h => by obtain ⟨_, _, _, _, _, rfl, _, h⟩ := h; simp [Held.len bs h]
  | true :: bs, _, _, _, _, _, _, _, h => by obtain ⟨_, _, _, _, _, _, _, _, _, rfl, _, _, _, _, _, _, h⟩ := h; simp [Held.len bs h]
section
variable {X : Cx} {own : List Nat} {e a b c : Expr} {es : List Expr} {pos : Pos}
theorem js_par3X (i j l : Nat) {bs : List Bool} {x y z : Str} {px py pz pt : Pos} {kt k2 pt2} {f : Env → RE (List D)} (hc : X.calm = true) (hN : X.N.Nodup) (ha : JX X own bs [a, b, c] f) (hi : X.N[i]? = some x := by rfl) (hj : X.N[j]? = some y := by rfl) (hl : X.N[l]? = some z := by rfl) (hij : i ≠ j := by decide) (hil : i ≠ l := by decide) (hjl : j ≠ l := by decide)
    (hx : X.env.scope.names.lookup x = some .local := by rfl) (hy : X.env.scope.names.lookup y = some .local := by rfl) (hz : X.env.scope.names.lookup z = some .local := by rfl) (hb : slotOk own bs [i, j, l] = true := by decide) (hbl : bs.length = 3 := by rfl)
    (hw : swappedStores [.Tuple [.Name x px, .Name y py, .Name z pz] kt pt] (.Tuple [a, b, c] k2 pt2) X.env = pure (some [x, y, z]) := by rfl)
    (hs : swapsWithSole [.Tuple [.Name x px, .Name y py, .Name z pz] kt pt] (.Tuple [a, b, c] k2 pt2) pos.line X.env = pure false := by rfl) :
    JS X own (.Assign [.Tuple [.Name x px, .Name y py, .Name z pz] kt pt] (.Tuple [a, b, c] k2 pt2) pos) (spar3 i j l f) := ⟨fun {P F0 H0 σ F H δ W o D} _ r tk hg hP => by
  refine ws_of (ps_par3 hc hN hi hj hl hij hil hjl hx hy hz pa_wa hw hs) ?_
  rcases bindE_some hg with ⟨y, h1, rfl⟩ | ⟨ds, δ1, h1, hg⟩
  · exact ha.run r tk h1 fun c dd F' H' r1 e1 rx => hP c dd σ F' H' r1 e1 rx
  · refine ha.run r tk h1 fun vs F1 H1 hd e1 => ?_
    rcases ds with _ | ⟨d1, _ | ⟨d2, _ | ⟨d3, _ | ⟨d4, ds⟩⟩⟩⟩ <;> (try (cases hg; done))
    cases hg
    have R := Held.sets (K := X.K) bs [i, j, l] hb hd
    have hlen := Held.len bs hd
    rw [hbl] at hlen
    rcases vs with _ | ⟨u, _ | ⟨v, _ | ⟨w, _ | ⟨v4, vs⟩⟩⟩⟩ <;> (try (simp at hlen; done))
    refine ⟨u, v, w, rfl, hP _ F1 H1 ?_ e1⟩
    have R' : RSf X ⟨own, P, F0, H0⟩ F1 (((σ.set l (some w)).set j (some v)).set i (some u)) H1 (((δ1.set l (some d3)).set j (some d2)).set i (some d1)) := R
    have e1 : ∀ {α : Type} (s : List (Option α)) (u v w : Option α), ((s.set l w).set j v).set i u = ((s.set i u).set j v).set l w := fun s u v w => by
      rw [List.set_comm _ _ (fun q => hij q.symm), List.set_comm (l := s) _ _ (fun q => hil q.symm), List.set_comm _ _ (fun q => hjl q.symm)]
    rwa [e1, e1] at R'⟩
/-! ### what makes a new container -/
def CallN (K : Frag) (r : List V → Hp → VK → Prop) (g : List D → Option D) : Prop := ∀ {F H : Hp} {vs : List V} {xs : List D} {z : D}, Ex F H → Reps K F vs xs → g xs = some z → ∀ Q : VK, (∀ p ob, H p = none → OwnO K F ob z → Q (.ref p) (upd H p ob)) → r vs H Q
theorem n_list {K : Frag} : CallN K (rList0 K) (one dList) := fun {F H vs xs z} e r h Q q => by
  obtain ⟨x, e0, h0⟩ := one_some h; subst e0; clear h; have h := h0; clear h0
  obtain ⟨w, rfl, rr⟩ := reps1 r
  cases rr with
  | tup h1 r1 => cases h; exact .inl ⟨_, _, rfl, .inr (ex_t e h1), fun p hp => q _ _ hp (.lst r1)⟩
  | lst h1 r1 => cases h; exact .inl ⟨_, _, rfl, .inl (SqL.of (e _ _ h1)), fun p hp => q _ _ hp (.lst r1)⟩
  | scr h1 r1 => cases h; exact .inl ⟨_, _, rfl, .inl (ex_l e h1), fun p hp => q _ _ hp (.lst r1)⟩
  | dic h1 r1 => cases h; exact .inr ⟨_, _, rfl, .of (e _ _ h1), fun p hp => q _ _ hp (.lst r1.keys)⟩
  | _ => cases h
theorem n_sorted {K : Frag} : CallN K (rSortedX K) (one dSorted) := fun {F H vs xs z} e r h Q q => by
  obtain ⟨x, rfl, h⟩ := one_some h
  obtain ⟨w, rfl, rx⟩ := reps1 r
  replace h : ((seqL x).bind fun xs => (sortD xs).map .lst) = some z := h
  cases h1 : seqL x with
  | none => rw [h1] at h; cases h
  | some ds =>
    rw [h1, Option.bind_some] at h
    obtain ⟨a, ws, rfl, hs, rs⟩ := seqL_rep e rx h1
    unfold sortD at h
    cases h2 : toPys ds with
    | none => rw [h2] at h; cases h
    | some ps =>
      rw [h2, Option.bind_some] at h
      split at h
      · rename_i h3
        cases h
        refine ⟨a, ws, ps, rfl, hs, dps_of e rs h2, h3, fun p hp => ?_⟩
        have hlen : ws.length = ds.length := Rep.len rs
        have hps := toPys_map h2
        have ez : ws.zip ps = (ws.zip ds).map fun z => (z.1, pyOf z.2) := by
          rw [hps, List.zip_map_right]; rfl
        have e1 : (ws.zip ps).mergeSort (W.dataLe false Prod.snd) = ((ws.zip ds).mergeSort (W.dataLe false fun z => pyOf z.2)).map fun z => (z.1, pyOf z.2) := by
          rw [ez]; exact (W.sort_maps (r := W.dataLe false fun z : V × D => pyOf z.2) (s := W.dataLe false Prod.snd) (fun z : V × D => (z.1, pyOf z.2)) (fun a _ b _ => rfl)).symm
        have e2 : isort leD ds = ((ws.zip ds).mergeSort (W.dataLe false fun z => pyOf z.2)).map Prod.snd := by
          rw [isort_eq leD_total, W.sort_maps (r := W.dataLe false fun z : V × D => pyOf z.2) (s := leD) Prod.snd (fun a _ b _ => rfl), List.map_snd_zip (by omega)]
        have e3 : ((ws.zip ps).mergeSort (W.dataLe false Prod.snd)).map Prod.fst = ((ws.zip ds).mergeSort (W.dataLe false fun z => pyOf z.2)).map Prod.fst := by
          rw [e1, List.map_map]; rfl
        rw [e3]
        refine q p _ hp (.lst ?_)
        rw [e2]
        exact reps_of_zip fun z hz => reps_zip rs z ((List.mergeSort_perm _ _).mem_iff.1 hz)
      · cases h
def ecallG (g : List D → Option D) (f : Env → RE (List D)) : Env → RE D := fun δ => bindE (f δ) fun xs δ' => (g xs).map fun z => .ok (z, δ')
theorem ecallG_some {g : List D → Option D} {xs : List D} {δ' : Env} {o : Except (XD × Env) (D × Env)} (h : ((g xs).map fun z => (.ok (z, δ') : Except (XD × Env) (D × Env))) = some o) : ∃ z, g xs = some z ∧ o = .ok (z, δ') := by
  cases e : g xs with
  | none => rw [e] at h; cases h
  | some z => rw [e] at h; cases h; exact ⟨z, rfl, rfl⟩
section
variable {id : String} {x : Str} {p : Pos} {r : List V → Hp → VK → Prop} {g : List D → Option D} {f : Env → RE (List D)}
theorem jn_bi (hc : CallR X (.builtin id) r) (hd : CallN X.K r g) (hm : X.mg x = none) (hv : bootBuiltins x = some (.builtin id)) (ha : JAE X own (e :: es) f) (hg : Gl X x := by rfl)
    (hn : x ≠ "__name__" := by decide) (hdb : (x == ("__debug__" : Str)) = false := by decide) (he : starEach (e :: es) X.env = (false, eval e X.env) :: starEach es X.env := by rfl) (hpl : (backTo pos (starEach es X.env)).any (·.1) = false := by rfl) :
    JN X own (.Call (.Name x p) (e :: es) [] pos) (ecallG g f) := ⟨fun {P F0 H0 σ F H δ W Q o} rr tk hg' hP =>
  we_of (pe_callB hc hg hm hv pa_wa hn hdb he hpl) (sn_bind (w := WA X (e :: es)) ha rr tk hg' hP fun xs vs δ1 F1 H1 h1 e1 rx r1 P1 => by
    obtain ⟨z, hz, rfl⟩ := ecallG_some h1
    exact hd r1.fh rx hz _ fun p ob hp ho => P1 p ob F1 _ (.start r1 hp) (Ex.refl _) ho)⟩
theorem jn_ty {T : String} (hc : CallR X (.type T) r) (hd : CallN X.K r g) (hm : X.mg x = none) (hv : bootBuiltins x = some (.type T)) (ha : JAE X own (e :: es) f) (hg : Gl X x := by rfl)
    (hn : x ≠ "__name__" := by decide) (hdb : (x == ("__debug__" : Str)) = false := by decide) (he : starEach (e :: es) X.env = (false, eval e X.env) :: starEach es X.env := by rfl) (hpl : (backTo pos (starEach es X.env)).any (·.1) = false := by rfl) :
    JN X own (.Call (.Name x p) (e :: es) [] pos) (ecallG g f) := ⟨fun {P F0 H0 σ F H δ W Q o} rr tk hg' hP =>
  we_of (pe_callTy hc hg hm hv pa_wa hn hdb he hpl) (sn_bind (w := WA X (e :: es)) ha rr tk hg' hP fun xs vs δ1 F1 H1 h1 e1 rx r1 P1 => by
    obtain ⟨z, hz, rfl⟩ := ecallG_some h1
    exact hd r1.fh rx hz _ fun p ob hp ho => P1 p ob F1 _ (.start r1 hp) (Ex.refl _) ho)⟩
theorem je_bi (hc : CallR X (.builtin id) r) (hd : CallD X.K r g) (hm : X.mg x = none) (hv : bootBuiltins x = some (.builtin id)) (ha : JAE X own (e :: es) f) (hg : Gl X x := by rfl)
    (hn : x ≠ "__name__" := by decide) (hdb : (x == ("__debug__" : Str)) = false := by decide) (he : starEach (e :: es) X.env = (false, eval e X.env) :: starEach es X.env := by rfl) (hpl : (backTo pos (starEach es X.env)).any (·.1) = false := by rfl) :
    JE X own (.Call (.Name x p) (e :: es) [] pos) (ecallG g f) := ⟨fun {P F0 H0 σ F H δ W Q o} rr tk hg' hP =>
  we_of (pe_callB hc hg hm hv pa_wa hn hdb he hpl) (js_bind (w := WA X (e :: es)) ha rr tk hg' hP fun xs vs δ1 F1 H1 h1 e1 rx r1 P1 => by
    obtain ⟨z, hz, rfl⟩ := ecallG_some h1
    exact hd r1.fh rx hz _ fun v F' H' g rv => P1 v F' H' (r1.grow g) g.ff rv)⟩
theorem je_ty {T : String} (hc : CallR X (.type T) r) (hd : CallD X.K r g) (hm : X.mg x = none) (hv : bootBuiltins x = some (.type T)) (ha : JAE X own (e :: es) f) (hg : Gl X x := by rfl)
    (hn : x ≠ "__name__" := by decide) (hdb : (x == ("__debug__" : Str)) = false := by decide) (he : starEach (e :: es) X.env = (false, eval e X.env) :: starEach es X.env := by rfl) (hpl : (backTo pos (starEach es X.env)).any (·.1) = false := by rfl) :
    JE X own (.Call (.Name x p) (e :: es) [] pos) (ecallG g f) := ⟨fun {P F0 H0 σ F H δ W Q o} rr tk hg' hP =>
  we_of (pe_callTy hc hg hm hv pa_wa hn hdb he hpl) (js_bind (w := WA X (e :: es)) ha rr tk hg' hP fun xs vs δ1 F1 H1 h1 e1 rx r1 P1 => by
    obtain ⟨z, hz, rfl⟩ := ecallG_some h1
    exact hd r1.fh rx hz _ fun v F' H' g rv => P1 v F' H' (r1.grow g) g.ff rv)⟩
end
/-- own + e, own a slot's list: a new list -/
def eaddO (i : Nat) (f : Env → RE D) : Env → RE D := fun δ => match δ[i]? with
  | some (some (.lst _)) => bindE (f δ) fun d δ' => (match δ'[i]? with
    | some (some (.lst ds)) => (match d with
      | .lst es => if ds.length + es.length ≤ sizeLine then some (.ok (.lst (ds ++ es), δ')) else none
      | _ => none)
    | _ => none)
  | _ => none
theorem jn_addO (i : Nat) {x : Str} {p1 : Pos} {f : Env → RE D} (h : JE X own e f) (hi : X.N[i]? = some x := by rfl) (hv : Vis X.env.scope x := by first | exact Or.inl rfl | exact Or.inr (Or.inl rfl) | exact Or.inr (Or.inr rfl)) (ho : i ∈ own := by decide)
    (hd : (x == ("__debug__" : Str)) = false := by decide) (hcd : (x == ("__classdict__" : Str)) = false := by decide) : JN X own (.BinOp (.Name x p1) .Add e pos) (eaddO i f) := ⟨fun {P F0 H0 σ F H δ W Q o} r tk hg hP => by
  obtain ⟨ds0, h0, hg⟩ := own_at hg
  obtain ⟨p, vs0, hp, hH0, rv0, hF0⟩ := r.lst ho h0
  refine we_of (pe_op op_cat (pe_var hi hv hd hcd) pe_we) ⟨_, hp, ?_⟩
  refine sn_bind (w := WE X e) h r tk hg hP fun d v δ1 F1 H1 h1 e1 rx r1 P1 => ?_
  obtain ⟨ds, h2, h3⟩ := own_at h1
  clear h1
  obtain ⟨p', vs, hp', hH, rv, hF⟩ := r1.lst ho h2
  rw [hp] at hp'; cases hp'
  cases rx with
  | lst hq rq =>
    dsimp only at h3
    split at h3
    · rename_i hl
      cases h3
      exact ⟨p, _, vs, _, rfl, rfl, hH, r1.fh _ _ hq, by rw [Rep.len rv, Rep.len rq]; exact hl, fun p2 hp2 => P1 p2 _ F1 _ (.start r1 hp2) (Ex.refl _) (.lst (rv.app rq))⟩
    · cases h3
  | _ => cases h3⟩
/-- a + b of lists held fast: a new list -/
def dCat : D → D → Option D
  | .lst i, .lst j => if i.length + j.length ≤ sizeLine then some (.lst (i ++ j)) else none
  | _, _ => none
theorem jn_cat {fa fb : Env → RE D} (ha : JE X own a fa) (hb : JE X own b fb) : JN X own (.BinOp a .Add b pos) (eop2 dCat fa fb) := ⟨fun {P F0 H0 σ F H δ W Q o} r tk hg hP =>
  we_of (pe_op op_cat pe_we pe_we) (sn_bind (w := WE X a) ha r tk hg hP fun x vx δ1 F1 H1 h1 e1 rx r1 P1 => sn_bind (w := WE X b) hb r1 tk h1 P1 fun y vy δ2 F2 H2 h2 e2 ry r2 P2 => by
    simp only [Option.map_eq_some_iff] at h2
    obtain ⟨z, hz, rfl⟩ := h2
    cases rx with
    | lst hp rp => cases ry with
      | lst hq rq =>
        simp only [dCat] at hz
        split at hz
        · rename_i hl
          cases hz
          exact ⟨_, _, _, _, rfl, rfl, r2.fh _ _ (e2 _ _ hp), r2.fh _ _ hq, by rw [Rep.len rp, Rep.len rq]; exact hl, fun p hp2 => P2 p _ F2 _ (.start r2 hp2) (Ex.refl _) (.lst ((rp.mono e2).app rq))⟩
        · cases hz
      | _ => cases hz
    | _ => cases hz)⟩
/-- a or b, both new -/
def enor (f g : Env → RE D) : Env → RE D := fun δ => bindE (f δ) fun x δ' => match x with
  | .lst [] => g δ'
  | .lst (y :: ys) => some (.ok (.lst (y :: ys), δ'))
  | _ => none
theorem jn_or {f g : Env → RE D} (ha : JN X own a f) (hb : JN X own b g) : JN X own (.BoolOp .Or [a, b] pos) (enor f g) := ⟨fun {P F0 H0 σ F H δ W Q o} r tk hg hP => by
  refine we_of (pe_orT pe_we (pe_one pe_we)) ?_
  rcases bindE_some hg with ⟨y, h1, rfl⟩ | ⟨d, δ1, h1, hg⟩
  · exact ha.run r tk h1 hP
  · refine ha.run r tk h1 fun Dd ob F1 H1 l e1 rx => ?_
    cases rx with
    | dic _ => cases hg
    | @lst vs ds rr =>
      refine ⟨!vs.isEmpty, .inl ⟨_, SqL.of l.at, rfl⟩, ?_⟩
      cases rr with
      | nil =>
        rw [if_neg (by simp)]
        exact hb.run l.rs tk hg (hP.later e1)
      | cons h1' r1' =>
        rw [if_pos (by simp)]
        cases hg
        exact hP Dd _ F1 H1 l e1 (.lst (.cons h1' r1'))⟩
/-- own[k] = e -/
def sixset (i : Nat) (fk f : Env → RE D) : Env → RO := fun δ => bindE (f δ) fun d δ1 => (match δ1[i]? with
  | some (some (.lst _)) => bindE (fk δ1) fun k δ2 => (match δ2[i]? with
    | some (some (.lst ds)) => (match k with
      | .int n => (match ixN ds.length n with
        | some j => some (.ok (.nx, δ2.set i (some (.lst (ds.set j d)))))
        | none => none)
      | _ => none)
    | _ => none)
  | _ => none)
theorem Reps.set {K : Frag} {F : Hp} {v : V} {d : D} : ∀ {vs : List V} {ds : List D} (n : Nat), Reps K F vs ds → Rep K F v d → Reps K F (vs.set n v) (ds.set n d)
  | _, _, _, .nil, _ => .nil
  | _, _, 0, .cons _ r, h => .cons h r
  | _, _, n + 1, .cons h0 r, h => .cons h0 (Reps.set n r h)
theorem js_ixset (i : Nat) {x : Str} {k : Expr} {p1 p2 : Pos} {fk f : Env → RE D} (h : JE X own e f) (hk : JE X own k fk) (hi : X.N[i]? = some x := by rfl) (hv : Vis X.env.scope x := by first | exact Or.inl rfl | exact Or.inr (Or.inl rfl) | exact Or.inr (Or.inr rfl)) (ho : i ∈ own := by decide)
    (hd : (x == ("__debug__" : Str)) = false := by decide) (hcd : (x == ("__classdict__" : Str)) = false := by decide)
    (hgs : ∀ v, assign (.Subscript (.Name x p1) k p2) X.env v = (do
      let ov ← holding [v] (eval (.Name x p1) X.env)
      let iv ← holding [v, ov] (eval k X.env)
      standAt p2
      holding [v, ov, iv] (setItem ov iv v)
      release [v, ov, iv] []) := by intro _; rfl)
    (hs : swapsWithSole [.Subscript (.Name x p1) k p2] e pos.line X.env = pure false := by rfl) (hw : swappedStores [.Subscript (.Name x p1) k p2] e X.env = pure none := by rfl) (h1 : (assignEach [.Subscript (.Name x p1) k p2] X.env).map (·.2) = [assign (.Subscript (.Name x p1) k p2) X.env] := by rfl) :
    JS X own (.Assign [.Subscript (.Name x p1) k p2] e pos) (sixset i fk f) := ⟨fun {P F0 H0 σ F H δ W o D} _ r tk hg hP => by
  refine ws_of (ps_asg pe_we (pg_sub (pe_var hi hv hd hcd) pe_we set_list hgs) hs hw h1) ?_
  refine se_bind (w := WE X e) h r tk hg hP fun d v δ1 F1 H1 h1 e1 rx r1 P1 => ?_
  obtain ⟨ds0, h0, hg1⟩ := own_at h1
  obtain ⟨p, vs0, hp, hH0, rv0, hF0⟩ := r1.lst ho h0
  refine ⟨_, hp, ?_⟩
  refine se_bind (w := WE X k) hk r1 tk hg1 P1 fun kd kv δ2 F2 H2 h2 e2 rk r2 P2 => ?_
  obtain ⟨ds, h3, h4⟩ := own_at h2
  clear h2
  obtain ⟨p', vs, hp', hH, rv, hF⟩ := r2.lst ho h3
  rw [hp] at hp'; cases hp'
  cases rk with
  | int n =>
    dsimp only at h4
    split at h4
    · rename_i j hj
      cases h4
      exact ⟨p, vs, n, j, rfl, rfl, hH, by rw [Rep.len rv]; exact hj, P2 _ F2 _ (r2.put ho h3 hp (rv.set j (rx.mono e2))) (Ex.refl _)⟩
    · cases h4
  | _ => cases h4⟩
end
end PD
end
section
namespace PD
open PySem L2
/-! ### tests with effects -/
section
variable {X : Cx} {own : List Nat} {a b e : Expr} {rest : List Expr} {pos : Pos}
abbrev JWE (X : Cx) (own : List Nat) (e : Expr) (g : Env → RE Bool) : Prop := JS0 X own (WW X e) relT g
theorem jte_w {g : Env → RE Bool} (h : JWE X own e g) : JTE X own e g := ⟨fun {P F0 H0 σ F H δ W Q o} r tk hg hP => fun pins s I => h.run r tk hg hP _ pins s I⟩
def etand (t u : Env → RE Bool) : Env → RE Bool := fun δ => bindE (t δ) fun b δ' => if b = true then u δ' else some (.ok (false, δ'))
def etor (t u : Env → RE Bool) : Env → RE Bool := fun δ => bindE (t δ) fun b δ' => if b = true then some (.ok (true, δ')) else u δ'
def etnot (t : Env → RE Bool) : Env → RE Bool := fun δ => bindE (t δ) fun b δ' => some (.ok (!b, δ'))
theorem jte_not {t : Env → RE Bool} (ha : JTE X own a t) : JTE X own (.UnaryOp .Not a pos) (etnot t) := ⟨fun {P F0 H0 σ F H δ W Q o} r tk hg hP =>
  wt_of (pt_not pt_wt) (js_bind (w := WT X a) ha r tk hg hP fun x v δ1 F1 H1 h1 e1 rx r1 P1 => by cases rx; exact P1.fin h1 _ F1 H1 r1 (Ex.refl _) rfl)⟩
theorem jwe_and1 {t : Env → RE Bool} (ha : JTE X own a t) : JWE X own (.BoolOp .And [a] pos) t := ⟨fun r tk hg hP => ww_of (pw_and1 pt_wt) (ha.run r tk hg hP)⟩
theorem jwe_or1 {t : Env → RE Bool} (ha : JTE X own a t) : JWE X own (.BoolOp .Or [a] pos) t := ⟨fun r tk hg hP => ww_of (pw_or1 pt_wt) (ha.run r tk hg hP)⟩
theorem jwe_and {t u : Env → RE Bool} (ha : JTE X own a t) (hb : JWE X own (.BoolOp .And (b :: rest) pos) u) : JWE X own (.BoolOp .And (a :: b :: rest) pos) (etand t u) := ⟨fun {P F0 H0 σ F H δ W Q o} r tk hg hP =>
  ww_of (pw_and pt_wt pw_ww) (js_bind (w := WT X a) ha r tk hg hP fun x v δ1 F1 H1 h1 e1 rx r1 P1 => by
    cases rx
    cases x with
    | true => rw [if_pos rfl] at *; exact hb.run r1 tk h1 P1
    | false => rw [if_neg Bool.false_ne_true] at *; exact P1.fin h1 _ F1 H1 r1 (Ex.refl _) rfl)⟩
theorem jwe_or {t u : Env → RE Bool} (ha : JTE X own a t) (hb : JWE X own (.BoolOp .Or (b :: rest) pos) u) : JWE X own (.BoolOp .Or (a :: b :: rest) pos) (etor t u) := ⟨fun {P F0 H0 σ F H δ W Q o} r tk hg hP =>
  ww_of (pw_or pt_wt pw_ww) (js_bind (w := WT X a) ha r tk hg hP fun x v δ1 F1 H1 h1 e1 rx r1 P1 => by
    cases rx
    cases x with
    | false => rw [if_neg Bool.false_ne_true] at *; exact hb.run r1 tk h1 P1
    | true => rw [if_pos rfl] at *; exact P1.fin h1 _ F1 H1 r1 (Ex.refl _) rfl)⟩
/-- a value as a test -/
def etr (g : Env → RE D) : Env → RE Bool := fun δ => bindE (g δ) fun x δ' => (truth x).map fun b => .ok (b, δ')
theorem jte_truth {g : Env → RE D} (ha : JE X own a g) (he : ∀ whole, isTrue a X.env whole = (do let v ← whole; standAt a.pos; holding [v] (truthy v)) := by intro _; rfl) : JTE X own a (etr g) := ⟨fun {P F0 H0 σ F H δ W Q o} r tk hg hP =>
  wt_of (pt_truth pe_we he) (js_bind (w := WE X a) ha r tk hg hP fun x v δ1 F1 H1 h1 e1 rx r1 P1 => by
    simp only [Option.map_eq_some_iff] at h1
    obtain ⟨k, hk, rfl⟩ := h1
    exact ⟨k, tru_of r1.fh rx hk, P1 k F1 H1 r1 (Ex.refl _) rfl⟩)⟩
theorem je_cmp {op : CmpOp} {rr : R2} {g : D → D → Option D} {fa fb : Env → RE D} (ho : OpR X (compareOp op) rr) (hr : OpD X.K rr g) (ha : JE X own a fa) (hb : JE X own b fb) (hm : behindInMarks op b = false := by first | exact nomark _ | with_unfolding_all rfl) : JE X own (.Compare a [op] [b] pos) (eop2 g fa fb) := ⟨fun {P F0 H0 σ F H δ W Q o} r tk hg hP =>
  we_of (pe_cmpR ho pe_we pe_we hm) (js_bind (w := WE X a) ha r tk hg hP fun x vx δ1 F1 H1 h1 e1 rx r1 P1 => js_bind (w := WE X b) hb r1 tk h1 P1 fun y vy δ2 F2 H2 h2 e2 ry r2 P2 => by
    simp only [Option.map_eq_some_iff] at h2
    obtain ⟨z, hz, rfl⟩ := h2
    exact hr r2.fh (rx.mono e2) ry hz _ fun v F' H' g rv => P2 v F' H' (r2.grow g) g.ff rv)⟩
end
/-! ### comprehensions that make own lists; two clauses -/
section
variable {X : Cx} {own : List Nat} {elt tg iter : Expr} {ifs : List Expr} {scope : Scope} {ow : List (Str × Nat)} {pos : Pos} {f : Env → RE (List D)} {g : D → Env → Option Env} {is : List Nat} {t : Env → RE Bool} {e : Env → RE D}
theorem jn_lc (hc : X.calm = true) (hN : X.N.Nodup) (hi : JI X own tg iter f) (ok : BlkOk X.N X.env.scope scope ow)
    (hg : ∀ (s : Shared) (Hb : Hp) (C : Addr) (cl : List (Str × Addr)) (fp : List Addr), JG (X.blk s Hb scope (compEnvC scope cl C X.env) fp) own tg is g)
    (ht : ∀ (s : Shared) (Hb : Hp) (C : Addr) (cl : List (Str × Addr)) (fp : List Addr), JTs (X.blk s Hb scope (compEnvC scope cl C X.env) fp) own ifs t)
    (he : ∀ (s : Shared) (Hb : Hp) (C : Addr) (cl : List (Str × Addr)) (fp : List Addr), JE (X.blk s Hb scope (compEnvC scope cl C X.env) fp) own elt e)
    (hvs : (ow.map (·.2)).all (fun i => !own.contains i) = true := by decide) (his : is.all (fun i => (ow.map (·.2)).contains i) = true := by decide) (hs : ∀ x, foldedSetIterable iter X.env x = pure x := by intro _; rfl) :
    JN X own (.ListComp elt [⟨tg, iter, ifs, 0⟩] scope pos) (ecomp (ow.map (·.2)) f g t e) := ⟨fun {P F0 H0 σ F H δ W Q o} r tk hh hP => by
  refine we_of (pe_lc (g := bG X scope tg) (tt := bT X scope ifs) (te := bE X scope elt) hc hN pi_wi ok (fun s Hb C cl fp => ⟨fun pins s' σ' H' v u Q' I rv h => (h s Hb C cl fp) pins s' u I rv⟩) (fun s Hb C cl fp => ⟨fun pins s' σ' H' Q' I h => (h s Hb C cl fp) pins s' I⟩) (fun s Hb C cl fp => ⟨fun pins s' σ' H' Q' I h => (h s Hb C cl fp) pins s' I⟩) hs) ?_
  unfold ecomp at hh
  rw [← bindE_assoc] at hh
  cases e0 : bindE (f δ) (fun ds δ' => scomp (ow.map (·.2)) g t e ds [] (wipeD (ow.map (·.2)) δ')) with
  | none => rw [e0] at hh; cases hh
  | some o1 =>
    rw [e0] at hh
    refine lc_read (ow := ow) hi hg ht he hvs his r tk e0 (fun x δ' q => ?_) (fun ds δ' q Dd vs F' H' l x rv => ?_)
    · subst q; cases hh; exact hP
    · subst q; cases hh
      exact hP _ _ _ _ l x (.lst rv)⟩
/-- name = [..], the name's own -/
theorem js_setLcN (i : Nat) {y : Str} {py spos : Pos} (hc : X.calm = true) (hN : X.N.Nodup) (hi : JI X own tg iter f) (ok : BlkOk X.N X.env.scope scope ow)
    (hg : ∀ (s : Shared) (Hb : Hp) (C : Addr) (cl : List (Str × Addr)) (fp : List Addr), JG (X.blk s Hb scope (compEnvC scope cl C X.env) fp) own tg is g)
    (ht : ∀ (s : Shared) (Hb : Hp) (C : Addr) (cl : List (Str × Addr)) (fp : List Addr), JTs (X.blk s Hb scope (compEnvC scope cl C X.env) fp) own ifs t)
    (he : ∀ (s : Shared) (Hb : Hp) (C : Addr) (cl : List (Str × Addr)) (fp : List Addr), JE (X.blk s Hb scope (compEnvC scope cl C X.env) fp) own elt e)
    (hy : X.N[i]? = some y := by rfl) (hyl : X.env.scope.names.lookup y = some .local := by rfl) (ho : i ∈ own := by decide) (hz : i ≠ 0 := by decide)
    (hsw : swapsWith (.ListComp elt [⟨tg, iter, ifs, 0⟩] scope pos) (some (.Name y py)) spos.line X.env = pure true := by exact sw_true rfl rfl rfl (by decide +kernel))
    (hvs : (ow.map (·.2)).all (fun i => !own.contains i) = true := by decide) (his : is.all (fun i => (ow.map (·.2)).contains i) = true := by decide) (hs : ∀ x, foldedSetIterable iter X.env x = pure x := by intro _; rfl) :
    JS X own (.Assign [.Name y py] (.ListComp elt [⟨tg, iter, ifs, 0⟩] scope pos) spos) (sset i (ecomp (ow.map (·.2)) f g t e)) := ⟨fun {P F0 H0 σ F H δ W o D} _ r tk hh hP => by
  refine ws_of (ps_setLc (g := bG X scope tg) (tt := bT X scope ifs) (te := bE X scope elt) hc hN hy hyl hsw pi_wi ok (fun s Hb C cl fp => ⟨fun pins s' σ' H' v u Q' I rv h => (h s Hb C cl fp) pins s' u I rv⟩) (fun s Hb C cl fp => ⟨fun pins s' σ' H' Q' I h => (h s Hb C cl fp) pins s' I⟩) (fun s Hb C cl fp => ⟨fun pins s' σ' H' Q' I h => (h s Hb C cl fp) pins s' I⟩) hs) ?_
  unfold sset ecomp at hh
  rw [← bindE_assoc, bindE_assoc] at hh
  cases e0 : bindE (f δ) (fun ds δ' => scomp (ow.map (·.2)) g t e ds [] (wipeD (ow.map (·.2)) δ')) with
  | none => rw [e0] at hh; cases hh
  | some o1 =>
    rw [e0] at hh
    refine lc_read (ow := ow) hi hg ht he hvs his r tk e0 (fun x δ' q => ?_) (fun ds δ' q Dd vs F' H' l x rv => ?_)
    · subst q; cases hh; exact fun cls dd F' H' r1 e1 rx => hP cls dd σ F' H' r1 e1 rx
    · subst q; cases hh
      exact hP _ _ _ (l.keepOwn (.lst rv) ho hz) x⟩
theorem wipe_wipe {σ : L2.St} {vs vs1 : List Nat} (h : ∀ i, i ∈ vs1 → i ∈ vs) : wipe (wipe σ vs1) vs = wipe σ vs := by
  apply List.ext_getElem?
  intro j
  rw [wipe_get, wipe_get, wipe_get]
  by_cases hj : j ∈ vs
  · rw [if_pos hj, if_pos hj]
    split
    · cases σ[j]? <;> rfl
    · rfl
  · rw [if_neg hj, if_neg hj, if_neg (fun q => hj (h j q))]
/-- one clause's loop, from any start -/
theorem sc_loop {P : Pm} {F0 H0 F1 : Hp} {σ2 : L2.St} {H4 : Hp} {δ4 : Env} {vs1 : List Nat} {J : It} {Dd : Addr} {es acc0 ys : List D} {us0 : List V} {δ5 : Env} {Nx : Hp → Prop}
    (hg : ∀ (s : Shared) (Hb : Hp) (C : Addr) (cl : List (Str × Addr)) (fp : List Addr), JG (X.blk s Hb scope (compEnvC scope cl C X.env) fp) own tg is g)
    (ht : ∀ (s : Shared) (Hb : Hp) (C : Addr) (cl : List (Str × Addr)) (fp : List Addr), JTs (X.blk s Hb scope (compEnvC scope cl C X.env) fp) own ifs t)
    (he : ∀ (s : Shared) (Hb : Hp) (C : Addr) (cl : List (Str × Addr)) (fp : List Addr), JE (X.blk s Hb scope (compEnvC scope cl C X.env) fp) own elt e)
    (hv : ∀ i, i ∈ vs1 → i ∉ own) (hi' : ∀ i, i ∈ is → i ∈ vs1) (src : Src X.K F1 es J)
    (l0 : LS X.K own P F0 H0 Dd (.lst us0) F1 (wipe σ2 vs1) H4 δ4) (ra0 : Reps X.K F1 us0 acc0) (hh : scomp vs1 g t e es acc0 δ4 = some (.ok (ys, δ5)))
    (hN : ∀ us F' H', LS X.K own P F0 H0 Dd (.lst us) F' (wipe σ2 vs1) H' δ5 → Ex F1 F' → Reps X.K F' us ys → Nx H') :
    ∃ W1 : Nat → Nat → Hp → Prop, (∃ m, W1 0 m H4) ∧ ∀ j k H, W1 j k H →
      (J.stop j H ∧ Nx H) ∨ (J.go j H ∧ ∃ Nx1 : Hp → Prop, (∀ H', Nx1 H' → ∃ k', k' < k ∧ W1 (j + 1) k' H') ∧ ∀ x H', J.yld j H x H' → bG X scope tg x (wipe σ2 vs1) H' fun σ3 H5 => wipe σ3 vs1 = wipe σ2 vs1 ∧ bT X scope ifs σ3 H5 fun b H6 =>
        if b = true then bE X scope elt σ3 H6 fun y H7 => ∃ acc, H7 Dd = some (.lst acc) ∧ acc.length < sizeLine ∧ Nx1 (upd H7 Dd (.lst (acc ++ [y]))) else Nx1 H6) := by
  refine ⟨fun i m Hc => ∃ F' δ' acc vs, LS X.K own P F0 H0 Dd (.lst vs) F' (wipe σ2 vs1) Hc δ' ∧ Ex F1 F' ∧ Reps X.K F' vs acc ∧ i + m = es.length ∧ scomp vs1 g t e (es.drop i) acc δ' = some (.ok (ys, δ5)), ⟨es.length, F1, _, _, _, l0, Ex.refl _, ra0, Nat.zero_add _, hh⟩, ?_⟩
  rintro i m H2 ⟨F2, δ2, acc, vs, l2, e2, ra, hm, h2⟩
  cases hd : es[i]? with
  | none =>
    have hl : es.length ≤ i := List.getElem?_eq_none_iff.1 hd
    rw [List.drop_of_length_le hl] at h2
    cases h2
    exact .inl ⟨src.stop e2 l2.rs.fh hl, hN vs F2 H2 l2 e2 ra⟩
  | some d =>
    have hl : i < es.length := (List.getElem?_eq_some_iff.1 hd).1
    have hd' : es[i] = d := (List.getElem?_eq_some_iff.1 hd).2
    rw [List.drop_eq_getElem_cons hl, hd'] at h2
    obtain ⟨⟨P', Fb, Hb, rr, cc, ee, nn, nf⟩, nh⟩ := l2
    obtain ⟨g1, g2⟩ := src.go e2 rr.fh hd
    refine .inr ⟨g1, fun Hc => ∃ F' δ' acc vs, LS X.K own P F0 H0 Dd (.lst vs) F' (wipe σ2 vs1) Hc δ' ∧ Ex F1 F' ∧ Reps X.K F' vs acc ∧ (i + 1) + (m - 1) = es.length ∧ scomp vs1 g t e (es.drop (i + 1)) acc δ' = some (.ok (ys, δ5)), fun H' h => ⟨m - 1, by omega, h⟩, fun x H' hy => ?_⟩
    obtain ⟨F3, g3, rx⟩ := g2 x H' hy
    simp only [scomp] at h2
    cases e4 : g d δ2 with
    | none => rw [e4] at h2; cases h2
    | some δ4 =>
      rw [e4] at h2
      simp only [] at h2
      intro s0 Hb0 C0 cl0 fp0
      have ww : wipe (wipe σ2 vs1) vs1 = wipe σ2 vs1 := wipe_wipe fun _ h => h
      refine (hg s0 Hb0 C0 cl0 fp0).run (P := P') (F0 := Fb) (H0 := Hb) (rr.grow g3) rx e4 fun σ4 F4 H4 r4 x4 w4 => ⟨(w4 _ hi').trans ww, fun s1 Hb1 C1 cl1 fp1 => ?_⟩
      have hw := (w4 _ hi').trans ww
      cases e5 : t δ4 with
      | none => rw [e5] at h2; cases h2
      | some z =>
        rw [e5] at h2
        rcases z with ⟨x5, δ5⟩ | ⟨b5, δ5⟩
        · cases h2
        · refine (ht s1 Hb1 C1 cl1 fp1).run (W := fun _ _ _ _ => False) (P := P') (F0 := Fb) (H0 := Hb) r4 (takes_false fun _ _ _ _ h => h) e5 fun v5 F5 H5 r5 x5 rb => ?_
          cases rb
          have ex5 : Ex F2 F5 := (g3.ff.trans x4).trans x5
          cases b5 with
          | false =>
            rw [if_neg Bool.false_ne_true]
            dsimp only at h2
            refine ⟨F5, _, acc, vs, ⟨⟨P', Fb, Hb, ?_, cc, ee, nn, nf⟩, nh⟩, e2.trans ex5, ra.mono ex5, by omega, h2⟩
            have := r5.wipe hv
            rw [hw] at this
            exact this
          | true =>
            rw [if_pos rfl]
            dsimp only at h2
            intro s2 Hb2 C2 cl2 fp2
            cases e6 : e δ5 with
            | none => rw [e6] at h2; cases h2
            | some z =>
              rw [e6] at h2
              rcases z with ⟨x6, δ6⟩ | ⟨y6, δ6⟩
              · cases h2
              · dsimp only at h2
                refine (he s2 Hb2 C2 cl2 fp2).run (W := fun _ _ _ _ => False) (P := P') (F0 := Fb) (H0 := Hb) r5 (takes_false fun _ _ _ _ h => h) e6 fun v6 F6 H6 r6 x6 ry => ?_
                split at h2
                · rename_i hsz
                  have ex6 : Ex F2 F6 := ex5.trans x6
                  have r7 := r6.wipe hv
                  rw [hw] at r7
                  have l7 : LS X.K own P F0 H0 Dd (.lst vs) F6 (wipe σ2 vs1) H6 (wipeD vs1 δ6) := ⟨⟨P', Fb, Hb, r7, cc, ee, nn, nf⟩, nh⟩
                  refine ⟨vs, l7.at, by rw [Rep.len ra]; exact hsz, F6, _, acc ++ [y6], vs ++ [v6], l7.app, e2.trans ex6, (ra.mono ex6).app (.cons ry .nil), by omega, h2⟩
                · cases h2
end
end PD
end
section
namespace PD
open PySem L2
section
variable {X : Cx} {own : List Nat} {elt tg iter tg1 iter1 : Expr} {ifs ifs1 : List Expr} {scope : Scope} {ow : List (Str × Nat)} {vs1 : List Nat} {pos : Pos} {f f1 : Env → RE (List D)} {g g1 : D → Env → Option Env} {is is1 : List Nat} {t t1 : Env → RE Bool} {e : Env → RE D}
def scomp2 (vs vs1 : List Nat) (g : D → Env → Option Env) (t : Env → RE Bool) (f1 : Env → RE (List D)) (g1 : D → Env → Option Env) (t1 : Env → RE Bool) (e : Env → RE D) : List D → List D → Env → RE (List D)
  | [], acc, δ => some (.ok (acc, δ))
  | d :: ds, acc, δ => match g d δ with
    | none => none
    | some δ1 => match t δ1 with
      | some (.ok (true, δ2)) => (match f1 δ2 with
        | some (.ok (es, δ3)) => (match scomp vs1 g1 t1 e es acc (wipeD vs1 δ3) with
          | some (.ok (acc', δ4)) => scomp2 vs vs1 g t f1 g1 t1 e ds acc' (wipeD vs δ4)
          | _ => none)
        | _ => none)
      | some (.ok (false, δ2)) => scomp2 vs vs1 g t f1 g1 t1 e ds acc (wipeD vs δ2)
      | _ => none
abbrev bI (X : Cx) (scope : Scope) (tg iter : Expr) : TI := fun σ H R => ∀ (s : Shared) (Hb : Hp) (C : Addr) (cl : List (Str × Addr)) (fp : List Addr), WI (X.blk s Hb scope (compEnvC scope cl C X.env) fp) tg iter σ H R
theorem lc2_read {σ : L2.St} {P : Pm} {F0 H0 F H : Hp} {δ : Env} {W : WX} {o : Except (XD × Env) (List D × Env)} {Q : VK} (hi : JI X own tg iter f)
    (hg : ∀ (s : Shared) (Hb : Hp) (C : Addr) (cl : List (Str × Addr)) (fp : List Addr), JG (X.blk s Hb scope (compEnvC scope cl C X.env) fp) own tg is g)
    (ht : ∀ (s : Shared) (Hb : Hp) (C : Addr) (cl : List (Str × Addr)) (fp : List Addr), JTs (X.blk s Hb scope (compEnvC scope cl C X.env) fp) own ifs t)
    (hi1 : ∀ (s : Shared) (Hb : Hp) (C : Addr) (cl : List (Str × Addr)) (fp : List Addr), JI (X.blk s Hb scope (compEnvC scope cl C X.env) fp) own tg1 iter1 f1)
    (hg1 : ∀ (s : Shared) (Hb : Hp) (C : Addr) (cl : List (Str × Addr)) (fp : List Addr), JG (X.blk s Hb scope (compEnvC scope cl C X.env) fp) own tg1 is1 g1)
    (ht1 : ∀ (s : Shared) (Hb : Hp) (C : Addr) (cl : List (Str × Addr)) (fp : List Addr), JTs (X.blk s Hb scope (compEnvC scope cl C X.env) fp) own ifs1 t1)
    (he : ∀ (s : Shared) (Hb : Hp) (C : Addr) (cl : List (Str × Addr)) (fp : List Addr), JE (X.blk s Hb scope (compEnvC scope cl C X.env) fp) own elt e)
    (hvs : (ow.map (·.2)).all (fun i => !own.contains i) = true) (his : is.all (fun i => (ow.map (·.2)).contains i) = true) (hvs1 : ∀ i, i ∈ vs1 → i ∈ ow.map (·.2)) (his1 : is1.all (fun i => vs1.contains i) = true)
    (r : RSf X ⟨own, P, F0, H0⟩ F σ H δ) (tk : Takes X W) (hh : bindE (f δ) (fun ds δ' => scomp2 (ow.map (·.2)) vs1 g t f1 g1 t1 e ds [] (wipeD (ow.map (·.2)) δ')) = some o)
    (hx : ∀ x δ', o = .error (x, δ') → ∀ cls dd F' H', RSf X ⟨own, P, F0, H0⟩ F' σ H' δ' → Ex F F' → RepX X.K F' cls dd x → W cls dd σ H')
    (hP : ∀ ds δ', o = .ok (ds, δ') → ∀ Dd vs F' H', LS X.K own P F0 H0 Dd (.lst vs) F' σ H' δ' → Ex F F' → Reps X.K F' vs ds → Q (.ref Dd) H') :
    tLc2 (WI X tg iter) (bG X scope tg) (bT X scope ifs) (bI X scope tg1 iter1) (bG X scope tg1) (bT X scope ifs1) (bE X scope elt) (ow.map (·.2)) vs1 σ H Q := by
  have hv : ∀ i, i ∈ ow.map (·.2) → i ∉ own := fun i hi hc => by
    have := List.all_eq_true.1 hvs i hi
    simp at this
    exact this hc
  have hi' : ∀ i, i ∈ is → i ∈ ow.map (·.2) := fun i h => by
    have := List.all_eq_true.1 his i h
    simpa using this
  have hi1' : ∀ i, i ∈ is1 → i ∈ vs1 := fun i h => by
    have := List.all_eq_true.1 his1 i h
    simpa using this
  cases e0 : f δ with
  | none => rw [e0] at hh; cases hh
  | some y =>
    rw [e0] at hh
    rcases y with ⟨x, δ1⟩ | ⟨ds, δ1⟩
    · cases hh; exact hi.run r tk e0 (hx x δ1 rfl)
    · simp only [bindE] at hh
      refine hi.run r tk e0 fun J F1 H1 r1 e1 src => fun Dd hD => ?_
      refine ⟨fun i m Hc => ∃ F' δ' acc vs, LS X.K own P F0 H0 Dd (.lst vs) F' (wipe σ (ow.map (·.2))) Hc δ' ∧ Ex F1 F' ∧ Reps X.K F' vs acc ∧ i + m = ds.length ∧ scomp2 (ow.map (·.2)) vs1 g t f1 g1 t1 e (ds.drop i) acc δ' = some o, ⟨ds.length, F1, _, [], [], .start (r1.wipe hv) hD, Ex.refl _, .nil, Nat.zero_add _, hh⟩, ?_⟩
      rintro i m H2 ⟨F2, δ2, acc, vs, l2, e2, ra, hm, h2⟩
      cases hd : ds[i]? with
      | none =>
        have hl : ds.length ≤ i := List.getElem?_eq_none_iff.1 hd
        rw [List.drop_of_length_le hl] at h2
        cases h2
        obtain ⟨⟨P', Fb, Hb, rr, cc, ee, nn, nf⟩, nh⟩ := l2
        exact .inl ⟨src.stop e2 rr.fh hl, hP acc δ2 rfl Dd vs F2 H2 ⟨⟨P', Fb, Hb, rr.unwipe, cc, ee, nn, nf⟩, nh⟩ (e1.trans e2) ra⟩
      | some d =>
        have hl : i < ds.length := (List.getElem?_eq_some_iff.1 hd).1
        have hd' : ds[i] = d := (List.getElem?_eq_some_iff.1 hd).2
        rw [List.drop_eq_getElem_cons hl, hd'] at h2
        obtain ⟨⟨P', Fb, Hb, rr, cc, ee, nn, nf⟩, nh⟩ := l2
        obtain ⟨g1', g2⟩ := src.go e2 rr.fh hd
        refine .inr ⟨g1', fun Hc => ∃ F' δ' acc vs, LS X.K own P F0 H0 Dd (.lst vs) F' (wipe σ (ow.map (·.2))) Hc δ' ∧ Ex F1 F' ∧ Reps X.K F' vs acc ∧ (i + 1) + (m - 1) = ds.length ∧ scomp2 (ow.map (·.2)) vs1 g t f1 g1 t1 e (ds.drop (i + 1)) acc δ' = some o, fun H' h => ⟨m - 1, by omega, h⟩, fun x H' hy => ?_⟩
        obtain ⟨F3, g3, rx⟩ := g2 x H' hy
        simp only [scomp2] at h2
        cases e4 : g d δ2 with
        | none => rw [e4] at h2; cases h2
        | some δ4 =>
          rw [e4] at h2
          simp only [] at h2
          intro s0 Hb0 C0 cl0 fp0
          have ww : wipe (wipe σ (ow.map (·.2))) (ow.map (·.2)) = wipe σ (ow.map (·.2)) := wipe_wipe fun _ h => h
          refine (hg s0 Hb0 C0 cl0 fp0).run (P := P') (F0 := Fb) (H0 := Hb) (rr.grow g3) rx e4 fun σ4 F4 H4 r4 x4 w4 => ⟨(w4 _ hi').trans ww, fun s1 Hb1 C1 cl1 fp1 => ?_⟩
          have hw := (w4 _ hi').trans ww
          cases e5 : t δ4 with
          | none => rw [e5] at h2; cases h2
          | some z =>
            rw [e5] at h2
            rcases z with ⟨x5, δ5⟩ | ⟨b5, δ5⟩
            · cases h2
            · refine (ht s1 Hb1 C1 cl1 fp1).run (W := fun _ _ _ _ => False) (P := P') (F0 := Fb) (H0 := Hb) r4 (takes_false fun _ _ _ _ h => h) e5 fun v5 F5 H5 r5 x5 rb => ?_
              cases rb
              have ex5 : Ex F2 F5 := (g3.ff.trans x4).trans x5
              cases b5 with
              | false =>
                rw [if_neg Bool.false_ne_true]
                dsimp only at h2
                refine ⟨F5, _, acc, vs, ⟨⟨P', Fb, Hb, ?_, cc, ee, nn, nf⟩, nh⟩, e2.trans ex5, ra.mono ex5, by omega, h2⟩
                have := r5.wipe hv
                rw [hw] at this
                exact this
              | true =>
                rw [if_pos rfl]
                dsimp only at h2
                intro s2 Hb2 C2 cl2 fp2
                cases e6 : f1 δ5 with
                | none => rw [e6] at h2; cases h2
                | some z =>
                  rw [e6] at h2
                  rcases z with ⟨x6, δ6⟩ | ⟨es, δ6⟩
                  · cases h2
                  · dsimp only at h2
                    refine (hi1 s2 Hb2 C2 cl2 fp2).run (W := fun _ _ _ _ => False) (P := P') (F0 := Fb) (H0 := Hb) r5 (takes_false fun _ _ _ _ h => h) e6 fun J1 F6 H6 r6 x6 src1 => ?_
                    cases e7 : scomp vs1 g1 t1 e es acc (wipeD vs1 δ6) with
                    | none => rw [e7] at h2; cases h2
                    | some z =>
                      rw [e7] at h2
                      rcases z with ⟨x7, δ7⟩ | ⟨acc', δ7⟩
                      · cases h2
                      · dsimp only at h2
                        have ex6 : Ex F2 F6 := ex5.trans x6
                        have r6w := r6.wipe (vs := vs1) fun i hi => hv i (hvs1 i hi)
                        have l6 : LS X.K own P F0 H0 Dd (.lst vs) F6 (wipe σ4 vs1) H6 (wipeD vs1 δ6) := ⟨⟨P', Fb, Hb, r6w, cc, ee, nn, nf⟩, nh⟩
                        refine sc_loop hg1 ht1 he (fun i hi => hv i (hvs1 i hi)) hi1' src1 l6 (ra.mono ex6) e7 fun us F8 H8 l8 e8 ru => ?_
                        obtain ⟨⟨P8, Fb8, Hb8, rr8, cc8, ee8, nn8, nf8⟩, nh8⟩ := l8
                        refine ⟨F8, _, acc', us, ⟨⟨P8, Fb8, Hb8, ?_, cc8, ee8, nn8, nf8⟩, nh8⟩, e2.trans (ex6.trans e8), ru, by omega, h2⟩
                        have := rr8.wipe hv
                        rw [wipe_wipe hvs1, hw] at this
                        exact this
def ecomp2 (vs vs1 : List Nat) (f : Env → RE (List D)) (g : D → Env → Option Env) (t : Env → RE Bool) (f1 : Env → RE (List D)) (g1 : D → Env → Option Env) (t1 : Env → RE Bool) (e : Env → RE D) : Env → RE D := fun δ => bindE (f δ) fun ds δ' => bindE (scomp2 vs vs1 g t f1 g1 t1 e ds [] (wipeD vs δ')) fun ys δ2 => some (.ok (.lst ys, δ2))
theorem jn_lc2 (vs1 : List Nat) (hc : X.calm = true) (hN : X.N.Nodup) (hi : JI X own tg iter f) (ok : BlkOk X.N X.env.scope scope ow)
    (hg : ∀ (s : Shared) (Hb : Hp) (C : Addr) (cl : List (Str × Addr)) (fp : List Addr), JG (X.blk s Hb scope (compEnvC scope cl C X.env) fp) own tg is g)
    (ht : ∀ (s : Shared) (Hb : Hp) (C : Addr) (cl : List (Str × Addr)) (fp : List Addr), JTs (X.blk s Hb scope (compEnvC scope cl C X.env) fp) own ifs t)
    (hi1 : ∀ (s : Shared) (Hb : Hp) (C : Addr) (cl : List (Str × Addr)) (fp : List Addr), JI (X.blk s Hb scope (compEnvC scope cl C X.env) fp) own tg1 iter1 f1)
    (hg1 : ∀ (s : Shared) (Hb : Hp) (C : Addr) (cl : List (Str × Addr)) (fp : List Addr), JG (X.blk s Hb scope (compEnvC scope cl C X.env) fp) own tg1 is1 g1)
    (ht1 : ∀ (s : Shared) (Hb : Hp) (C : Addr) (cl : List (Str × Addr)) (fp : List Addr), JTs (X.blk s Hb scope (compEnvC scope cl C X.env) fp) own ifs1 t1)
    (he : ∀ (s : Shared) (Hb : Hp) (C : Addr) (cl : List (Str × Addr)) (fp : List Addr), JE (X.blk s Hb scope (compEnvC scope cl C X.env) fp) own elt e)
    (hvs : (ow.map (·.2)).all (fun i => !own.contains i) = true := by decide) (his : is.all (fun i => (ow.map (·.2)).contains i) = true := by decide) (hvs1 : vs1.all (fun i => (ow.map (·.2)).contains i) = true := by decide) (his1 : is1.all (fun i => vs1.contains i) = true := by decide)
    (hs : ∀ x, foldedSetIterable iter X.env x = pure x := by intro _; rfl) (hs1 : ∀ env x, foldedSetIterable iter1 env x = pure x := by intro _ _; rfl) :
    JN X own (.ListComp elt [⟨tg, iter, ifs, 0⟩, ⟨tg1, iter1, ifs1, 0⟩] scope pos) (ecomp2 (ow.map (·.2)) vs1 f g t f1 g1 t1 e) := ⟨fun {P F0 H0 σ F H δ W Q o} r tk hh hP => by
  have hv1 : ∀ i ∈ vs1, i ∈ ow.map (·.2) := fun i hi => by simpa using List.all_eq_true.1 hvs1 i hi
  refine we_of (pe_lc2 (vs1 := vs1) (g := bG X scope tg) (tt := bT X scope ifs) (wi1 := bI X scope tg1 iter1) (g1 := bG X scope tg1) (tt1 := bT X scope ifs1) (te := bE X scope elt) hc hN pi_wi ok hv1 (fun s Hb C cl fp => ⟨fun pins s' σ' H' v u Q' I rv h => (h s Hb C cl fp) pins s' u I rv⟩) (fun s Hb C cl fp => ⟨fun pins s' σ' H' Q' I h => (h s Hb C cl fp) pins s' I⟩)
    (fun s Hb C cl fp => ⟨fun pins s' σ' H' Q' I h => (h s Hb C cl fp) pins s' I⟩) (fun s Hb C cl fp => ⟨fun pins s' σ' H' v u Q' I rv h => (h s Hb C cl fp) pins s' u I rv⟩) (fun s Hb C cl fp => ⟨fun pins s' σ' H' Q' I h => (h s Hb C cl fp) pins s' I⟩) (fun s Hb C cl fp => ⟨fun pins s' σ' H' Q' I h => (h s Hb C cl fp) pins s' I⟩) hs hs1) ?_
  unfold ecomp2 at hh
  rw [← bindE_assoc] at hh
  cases e0 : bindE (f δ) (fun ds δ' => scomp2 (ow.map (·.2)) vs1 g t f1 g1 t1 e ds [] (wipeD (ow.map (·.2)) δ')) with
  | none => rw [e0] at hh; cases hh
  | some o1 =>
    rw [e0] at hh
    refine lc2_read (ow := ow) hi hg ht hi1 hg1 ht1 he hvs his hv1 his1 r tk e0 (fun x δ' q => ?_) (fun ds δ' q Dd vs F' H' l x rv => ?_)
    · subst q; cases hh; exact hP
    · subst q; cases hh
      exact hP _ _ _ _ l x (.lst rv)⟩
end
end PD
end
section
namespace PD
open PySem PySem.Spec PyProof.Rows L2 HT
/-! ### t[::-1], t a tuple -/
section
variable {prog : Program} {w : World} {A : Around} {E : Value → Shared → Prop} {s : Shared}
theorem adjust_rev (n : Nat) : Builtin.Slice.sliceAdjust none none (-1) (n : Int) = ((n : Int) - 1, -1) := rfl
theorem places_rev (n : Nat) : Builtin.Slice.slicePlaces ((n : Int) - 1) (-1) (-1) = n := by
  unfold Builtin.Slice.slicePlaces
  rw [if_neg (by decide)]
  by_cases h : (n : Int) - 1 > -1
  · rw [if_pos h]
    have : ((n : Int) - 1 - -1 - 1) / (- -1) + 1 = n := by
      rw [show (- -1 : Int) = 1 by decide, Int.ediv_one]; omega
    rw [this, Int.toNat_natCast]
  · rw [if_neg h]; omega
theorem pick_rev (xs : Array Value) : ((List.range xs.size).filterMap fun (m : Nat) => xs[(((xs.size : Int) - 1) + (m : Int) * (-1)).toNat]?).toArray = xs.toList.reverse.toArray := by
  have e : (fun (m : Nat) => xs[(((xs.size : Int) - 1) + (m : Int) * (-1)).toNat]?) = (fun k : Nat => xs[k]?) ∘ fun m : Nat => (((xs.size : Int) - 1) + (m : Int) * (-1)).toNat := rfl
  rw [e, ← List.filterMap_map]
  have e2 : (List.range xs.size).map (fun m : Nat => (((xs.size : Int) - 1) + (m : Int) * (-1)).toNat) = (List.range xs.size).map (fun k => xs.size - 1 - k) := by
    apply List.map_congr_left
    intro k hk
    have := List.mem_range.1 hk
    omega
  rw [e2, W.krv_range, List.filterMap_reverse, W.krv_all]
theorem getItem_tuple_rev {t sl : Addr} {items : Array Value} {vl vu vs : Value} {Q : Value → Shared → Prop} (ht : PyProof.Rows.IsTup s.heap t items) (hs : s.heap.IsSliceOf sl vl vu vs) (pl : IsPart vl none) (pu : IsPart vu none) (ps : IsPart vs (some (-1)))
    (h : Q (.ref s.heap.objs.size) { s with heap := s.heap.push { cls := .type "tuple", data := .seq items.toList.reverse.toArray } })
    (hsz : items.size ≤ sizeLine) : wpAny (model prog w) A (getItem (.ref t) (.ref sl)) Q E s := by
  have htake : sizeOk (.seq items.toList.reverse.toArray) := by
    show items.toList.reverse.toArray.size ≤ sizeLine
    rw [List.size_toArray, List.length_reverse, Array.length_toList]
    exact hsz
  obtain ⟨os, hos, hcs, hds⟩ := id hs
  have hTs : s.TypeIs (.ref sl) "slice" := ⟨os, hos, hcs⟩
  unfold getItem
  try with_reducible refine wpAny_holding ?_
  first | refine wpAny_bind (wpAny_pure ?_) | skip
  refine wpAny_bind (wpAny_sequenceKey ht.typeIs (by decide) ?_)
  refine wpAny_bind (wpAny_callSpecial?_slot (name := Str.ofString "__getitem__") ht.typeIs PyProof.Rows.slot_tuple_getitem
    (wpAny_call_entry PyProof.Rows.slot_tuple_getitem ht.typeIs entry_tuple_getitem ?_ (args_tuple_getitem _ _)))
  show wpAny _ _ (Builtin.Tuple.tupleItemsOf (.ref t) >>= _) _ _ s
  refine wpAny_bind (tupleItemsOf_ ht ?_)
  refine wpAny_bind (wpAny_typeOf hTs ?_)
  rw [if_pos (by decide)]
  refine wpAny_bind ?_
  unfold Builtin.Slice.sliceApplied Builtin.Slice.sliceFields
  refine wpAny_bind (wpAny_bind (wpAny_field hos hds (x := vl) rfl (wpAny_bind (wpAny_field hos hds (x := vu) rfl (wpAny_bind (wpAny_field hos hds (x := vs) rfl (wpAny_pure ?_)))))))
  refine wpAny_bind (slicePart_ ps ?_)
  show wpAny _ _ (if ((-1 : Int) == 0) = true then _ else _) _ _ s
  rw [if_neg (by decide)]
  refine wpAny_bind (slicePart_ pl (wpAny_bind (slicePart_ pu (wpAny_bind (wpAny_pure ?_)))))
  show wpAny _ _ (match Builtin.Slice.sliceAdjust none none (-1) (items.size : Int) with | (lo, hi) => pure (lo, (-1 : Int), Builtin.Slice.slicePlaces lo hi (-1))) _ _ s
  rw [adjust_rev]
  show wpAny _ _ (pure (((items.size : Int) - 1), (-1 : Int), Builtin.Slice.slicePlaces ((items.size : Int) - 1) (-1) (-1))) _ _ s
  rw [places_rev]
  refine wpAny_pure ?_
  have hno : ¬ (((((items.size : Int) - 1) == 0) && (-1 : Int) == 1 && items.size == items.size) = true) := by simp
  show wpAny _ _ (if (((items.size : Int) - 1) == 0 && (-1 : Int) == 1 && items.size == items.size) = true then _ else _) _ _ s
  rw [if_neg hno, pick_rev]
  first
    | exact wpAny_bind (m := Builtin.Tuple.tupleExact _) (wpAny_newObj_type (wpAny_pure ⟨_, rfl, wpAny_pure h⟩) htake)
    | exact wpAny_bind (m := Builtin.Tuple.tupleExact _) (wpAny_newObj_type (wpAny_bind (wpAny_pure (wpAny_pure ⟨_, rfl, wpAny_pure h⟩))) htake)
    | exact wpAny_bind (wpAny_bind (m := Builtin.Tuple.tupleExact _) (wpAny_newObj_type (wpAny_pure (wpAny_pure ⟨_, rfl, wpAny_pure h⟩)) htake))
    | exact wpAny_bind (wpAny_bind (m := Builtin.Tuple.tupleExact _) (wpAny_newObj_type (wpAny_pure ⟨_, rfl, wpAny_pure h⟩) htake))
end
end PD
end
section
namespace PD
open PySem L2
/-! ### e[::-1] -/
def dRev : D → Option D
  | .tup xs => some (.tup xs.reverse)
  | .lst xs => some (.lst xs.reverse)
  | .scr xs => some (.lst xs.reverse)
  | _ => none
theorem Reps.rev {K : Frag} {F : Hp} : ∀ {vs : List V} {ds : List D}, Reps K F vs ds → Reps K F vs.reverse ds.reverse
  | _, _, .nil => .nil
  | _, _, .cons h r => by
    rw [List.reverse_cons, List.reverse_cons]
    exact (Reps.rev r).app (.cons h .nil)
section
variable {X : Cx}
open PyProof.Rows PySem.Spec HT in
theorem pe_revT {e : Expr} {te : TE} {k : Nat} {p1 p2 p3 pos : Pos} (he : PE X e te) : PE X (.Subscript e (.Slice none none (some (.UnaryOp .USub (.Constant (.int 1) k p1) p2)) p3) pos) (fun σ H Q => te σ H fun x H1 => ∃ a xs, x = .ref a ∧ SqT X.K H1 a xs ∧ ∀ p, H1 p = none → Q (.ref p) (upd H1 p (.tup xs.reverse))) := by
  refine ⟨fun pins s σ H Q I h => ?_⟩
  refine Subscript_ (thn (he.run pins s σ H _ I h) fun v s1 ⟨x, H1, I1, r1, q1⟩ => ?_)
  obtain ⟨a, xs, ex, hx, q⟩ := q1
  subst ex
  cases r1
  have hst : PO X (some (.UnaryOp .USub (.Constant (.int 1) k p1) p2)) (tPart (tUn (rU fun i => .int (-i)) (tC (.int 1)))) := po_some (pe_un un_neg pe_int)
  refine wpAny_Slice (thn (po_none.run pins s1 σ H1 (fun o H2 => o = none ∧ H2 = H1) I1 ⟨rfl, rfl⟩) fun vl s2 ⟨l, H2, I2, pl, el, e2⟩ => ?_)
  subst el e2
  refine thn (po_none.run pins s2 σ H2 (fun o H3 => o = none ∧ H3 = H2) I2 ⟨rfl, rfl⟩) fun vu s3 ⟨u, H3, I3, pu, eu, e3⟩ => ?_
  subst eu e3
  refine thn (hst.run pins s3 σ H3 (fun o H4 => o = some (-1) ∧ H4 = H3) I3 ⟨1, rfl, -1, rfl, rfl, rfl⟩) fun vs s4 ⟨o, H4, I4, ps, eo, e4⟩ => ?_
  subst eo e4
  have I5 : Inv X pins σ H4 { s4 with heap := s4.heap.push { cls := .type "slice", data := .fields #[vl, vu, vs] } } := I4.kept (t' := s4.toks) fun b ob q => Heap.get?_push_of_some _ q
  obtain ⟨its, r, ht, hz⟩ := I5.tuple hx
  have hlen := r.length
  show wpAny (model X.prog X.w) X.A (subscriptTail e (.Slice none none (some (.UnaryOp .USub (.Constant (.int 1) k p1) p2)) p3) (.ref a) (.ref s4.heap.objs.size)) (EP X pins σ Q) X.xe { s4 with heap := s4.heap.push { cls := .type "slice", data := .fields #[vl, vu, vs] } }
  refine tail_any (ops := [.ref a, .ref s4.heap.objs.size]) ht.typeIs (PyProof.Rows.slot_tuple_getitem.lookup) ?_ (by with_unfolding_all rfl)
  refine getItem_tuple_rev ht (Heap.IsSliceOf.new _ vl vu vs) pl pu ps ?_ (by rw [List.size_toArray]; omega)
  refine ⟨.ref _, _, I5.laid (t' := s4.toks) (o := .tup xs.reverse) (fun b ob q => Heap.get?_push_of_some _ q) (Nat.le_refl _) ?_, rfl, q _ (I5.hok.fresh (Nat.le_refl _))⟩
  exact ⟨by rw [List.length_reverse]; exact hz, its.reverse, r.reverse, IsTup.new (s4.heap.push { cls := .type "slice", data := .fields #[vl, vu, vs] }) _⟩
def vrev (f : Env → Rs D) : Env → Rs D := fun δ => bind (f δ) fun x => opt (dRev x)
theorem jp_rev {e : Expr} {k : Nat} {p1 p2 p3 pos : Pos} {f : Env → Rs D} (he : JP X e f) : JP X (.Subscript e (.Slice none none (some (.UnaryOp .USub (.Constant (.int 1) k p1) p2)) p3) pos) (vrev f) := ⟨fun {σ F H δ W Q o} rp tk hg hP => by
  unfold vrev at hg
  cases e0 : f δ with
  | none => rw [e0] at hg; cases hg
  | some y => cases y with
    | error x => rw [e0] at hg; cases hg; exact we_of (pe_revT pe_we) (he.run rp tk e0 hP)
    | ok x =>
      rw [e0] at hg
      obtain ⟨z, hz, rfl⟩ := opt_some hg
      cases x <;> (try (cases hz; done))
      · cases hz
        refine we_of (pe_revT pe_we) (he.run rp tk e0 fun v F1 H1 g1 rx => ?_)
        cases rx with
        | tup h1 r1 => exact ⟨_, _, rfl, ex_t g1.fh h1, fun p hp => hP _ _ _ (g1.trans (.new g1.fh hp)) (.tup (SqT.of upd_same) (r1.rev.mono (Ex.new (none_back g1.fh hp))))⟩
      · cases hz
        refine we_of (pe_revL pe_we) (he.run rp tk e0 fun v F1 H1 g1 rx => ?_)
        cases rx with
        | lst h1 r1 => exact ⟨_, _, rfl, SqL.of (g1.fh _ _ h1), fun p hp => hP _ _ _ (g1.trans (.new g1.fh hp)) (.lst upd_same (r1.rev.mono (Ex.new (none_back g1.fh hp))))⟩
      · cases hz
        refine we_of (pe_revL pe_we) (he.run rp tk e0 fun v F1 H1 g1 rx => ?_)
        cases rx with
        | scr h1 r1 => exact ⟨_, _, rfl, ex_l g1.fh h1, fun p hp => hP _ _ _ (g1.trans (.new g1.fh hp)) (.lst upd_same (r1.rev.mono (Ex.new (none_back g1.fh hp))))⟩⟩
/-! ### repr of data -/
mutual
theorem toPy_nodict : ∀ {d : D} {p : PyData}, toPy d = some p → p.hasDict = false
  | .non, _, h => by cases h; simp [PyData.hasDict]
  | .bl _, _, h => by cases h; simp [PyData.hasDict]
  | .int _, _, h => by cases h; simp [PyData.hasDict]
  | .str _, _, h => by cases h; simp [PyData.hasDict]
  | .tup xs, p, h => by
    rw [toPy] at h
    cases h1 : toPys xs with
    | none => rw [h1] at h; cases h
    | some ps => rw [h1] at h; cases h; rw [PyData.hasDict]; exact toPys_nodict h1
  | .lst xs, p, h => by
    rw [toPy] at h
    cases h1 : toPys xs with
    | none => rw [h1] at h; cases h
    | some ps => rw [h1] at h; cases h; rw [PyData.hasDict]; exact toPys_nodict h1
  | .scr xs, p, h => by
    rw [toPy] at h
    cases h1 : toPys xs with
    | none => rw [h1] at h; cases h
    | some ps => rw [h1] at h; cases h; rw [PyData.hasDict]; exact toPys_nodict h1
  | .dic _, _, h => by cases h
  | .obj _ _, _, h => by cases h
  | .ins _ _, _, h => by cases h
theorem toPys_nodict : ∀ {ds : List D} {ps : List PyData}, toPys ds = some ps → PyData.hasDictAll ps = false
  | [], _, h => by cases h; simp [PyData.hasDictAll]
  | d :: ds, ps, h => by
    rw [toPys] at h
    cases h1 : toPy d with
    | none => rw [h1] at h; cases h
    | some p =>
      cases h2 : toPys ds with
      | none => rw [h1, h2] at h; cases h
      | some qs =>
        rw [h1, h2] at h; cases h
        rw [PyData.hasDictAll, toPy_nodict h1, toPys_nodict h2]; rfl
end
def rRepr (K : Frag) : List V → Hp → VK → Prop := fun vs H Q => ∃ x p, vs = [x] ∧ Dp K H x p ∧ p.hasDict = false ∧ p.showable = true ∧ p.shown.length ≤ sizeLine ∧ p.depth ≤ 64 ∧ Q (.str p.shown) H
theorem cr_repr (hg : X.A.guards = some []) (hu : X.A.units + 70 < cLine) : CallR X (.builtin "repr") (rRepr X.K) := by
  intro pins s σ H vs us Q I r h
  obtain ⟨x, p, rfl, dp, nd, sh, hz, hd, q⟩ := h
  obtain ⟨u, rfl, ru⟩ := vals1 r
  cases dp with
  | non =>
    cases (show u = Value.none from ru)
    exact P.repr_of_none ⟨.str _, H, I.tok _, ⟨_, rfl⟩, by simpa [PyData.shown] using q⟩
  | bl b =>
    cases (show u = Value.bool b from ru)
    exact P.repr_of_bool ⟨.str _, H, I.tok _, ⟨_, rfl⟩, by simpa [PyData.shown] using q⟩
  | int i =>
    obtain ⟨t, rfl⟩ := ru
    exact P.repr_of_int (by simpa [PyData.showable] using sh) ⟨.str _, H, I.tok _, ⟨_, rfl⟩, by simpa [PyData.shown] using q⟩
  | str y =>
    obtain ⟨t, rfl⟩ := ru
    exact P.repr_of_str ⟨.str _, H, I.tok _, ⟨_, rfl⟩, by simpa [PyData.shown] using q⟩ (by simpa [PyData.shown] using hz)
  | @lst a xs ds hs hx =>
    cases (show u = Value.ref a from ru)
    obtain ⟨as, ra⟩ := Dp.reads I _ _ (.ref a) (Dp.lst hs hx) rfl
    exact repr_of_reads' ra sh (fun h => by rw [nd] at h; cases h) hg (by omega) (fun _ _ e => e) (fun h' u tk hk => ⟨.str _, H, I.kept hk, ⟨_, rfl⟩, q⟩) hz
  | @tup a xs ds hs hx =>
    cases (show u = Value.ref a from ru)
    obtain ⟨as, ra⟩ := Dp.reads I _ _ (.ref a) (Dp.tup hs hx) rfl
    exact repr_of_reads' ra sh (fun h => by rw [nd] at h; cases h) hg (by omega) (fun _ _ e => e) (fun h' u tk hk => ⟨.str _, H, I.kept hk, ⟨_, rfl⟩, q⟩) hz
def dRepr (d : D) : Option D := (toPy d).bind fun p => if p.showable && decide (p.shown.length ≤ sizeLine) && decide (p.depth ≤ 64) then some (.str p.shown) else none
theorem d_repr {K : Frag} : CallD K (rRepr K) (one dRepr) := fun {F H vs xs z} e r h Q q => by
  obtain ⟨x, rfl, h⟩ := one_some h
  obtain ⟨w, rfl, rx⟩ := reps1 r
  replace h : ((toPy x).bind fun p => if p.showable && decide (p.shown.length ≤ sizeLine) && decide (p.depth ≤ 64) then some (.str p.shown) else none) = some z := h
  cases h1 : toPy x with
  | none => rw [h1] at h; cases h
  | some p =>
    rw [h1, Option.bind_some] at h
    split at h
    · rename_i hc
      simp only [Bool.and_eq_true, decide_eq_true_eq] at hc
      cases h
      exact ⟨w, p, rfl, dp_of e rx h1, toPy_nodict h1, hc.1.1, hc.1.2, hc.2, q _ _ _ (.refl e) (.str _)⟩
    · cases h
end
end PD
end
section
namespace PD
open PySem L2
theorem hu70 {k : Nat} {A : Around} (hr : Room k A) : A.units + 70 < cLine := by have := hr.un; omega
/-! ### a def that gives a new container -/
def PostR (X : Cx) (f : Fr) (F : Hp) (W : WX) (o : Except (XD × Env) (D × Env)) (D : Ends) : Prop := match o with
  | .ok (d, δ') => ∀ Dd ob σ' F' H', LS X.K f.own f.P f.F0 f.H0 Dd ob F' σ' H' δ' → Ex F F' → OwnO X.K F' ob d → D.rt (.ref Dd) H'
  | .error (x, δ') => ∀ cls dd σ' F' H', RSf X f F' σ' H' δ' → Ex F F' → RepX X.K F' cls dd x → W cls dd σ' H'
structure JR (X : Cx) (own : List Nat) (st : List Stmt) (g : Env → RE D) : Prop where
  run : ∀ {P F0 H0 σ F H δ W o D} [PmOk P], RSf X ⟨own, P, F0, H0⟩ F σ H δ → Takes X W → g δ = some o → PostR X ⟨own, P, F0, H0⟩ F W o D → WSs X st D σ H
def rseq (a : Env → RO) (b : Env → RE D) : Env → RE D := fun δ => match a δ with
  | some (.ok (.nx, δ')) => b δ'
  | some (.error e) => some (.error e)
  | _ => none
section
variable {X : Cx} {own : List Nat} {e a : Expr} {es : List Expr} {pos : Pos}
theorem PostR.later {f : Fr} {F F1 : Hp} {W : WX} {o : Except (XD × Env) (D × Env)} {D : Ends} (e : Ex F F1) (p : PostR X f F W o D) : PostR X f F1 W o D := by
  rcases o with x | ⟨d, δ'⟩
  · exact fun c d σ F' H' r g' rv => p c d σ F' H' r (e.trans g') rv
  · exact fun Dd ob σ F' H' r g' rv => p Dd ob σ F' H' r (e.trans g') rv
theorem jr_ret {g : Env → RE D} (h : JN X own e g) : JR X own [.Return (some e) pos] g := ⟨fun {P F0 H0 σ F H δ W o D} _ r tk hg hP => by
  refine wss_of (pss_one (ps_ret pe_we)) ?_
  rcases o with ⟨x, δ1⟩ | ⟨d, δ1⟩
  · exact h.run r tk hg fun c d F' H' r1 e1 rx => hP c d σ F' H' r1 e1 rx
  · exact h.run r tk hg fun Dd ob F' H' l ex ro => hP Dd ob σ F' H' l ex ro⟩
theorem jr_cons {st : Stmt} {rest : List Stmt} {g : Env → RO} {k : Env → RE D} (h : JS X own st g) (hr : JR X own rest k) : JR X own (st :: rest) (rseq g k) := ⟨fun {P F0 H0 σ F H δ W o D} _ r tk hg hP => by
  refine wss_of (pss_cons ps_ws pss_wss) ?_
  show WS X st { D with nx := WSs X rest D } σ H
  unfold rseq at hg
  cases e : g δ with
  | none => rw [e] at hg; cases hg
  | some y => rcases y with x | ⟨o1, δ1⟩
              · rw [e] at hg; cases hg; exact h.run r tk e hP
              · cases o1 with
                | nx => rw [e] at hg; exact h.run r tk e fun σ' F' H' r1 e1 => hr.run r1 tk hg (hP.later e1)
                | rt d => rw [e] at hg; cases hg
                | bk => rw [e] at hg; cases hg
                | ct => rw [e] at hg; cases hg⟩
end
/-- heaps that grow by a new container p -/
structure GrowN (p : Addr) (F H F' H' : Hp) : Prop where
  g : Grow F H F' H'
  new : H p = none
  np : F' p = none
def spN (K : Frag) (m : List D → Rs D) : Sp := fun vs H Q E => ∃ F ds o, Ex F H ∧ Reps K F vs ds ∧ m ds = some o ∧ (match o with
  | .ok d => ∀ p ob F' H', GrowN p F H F' H' → H' p = some ob → OwnO K F' ob d → Q (.ref p) H'
  | .error x => ∀ cls dd F' H', Grow F H F' H' → RepX K F' cls dd x → E cls dd H')
structure FnN (P : Program) (w : World) (K : Frag) (mg : Str → Option Value) (base : Heap) (k : Nat) (x : Str) (m : List D → Rs D) : Prop where
  at_ : ∃ f fd ps, FnOk P w K mg base (L2.CX P w) k f fd ps (spN K m) ∧ mg x = some (.ref f) ∧ PySem.W.keepIn K (.ref f) = true ∧ Binds K fd ps []
def denN (n N : Nat) (body : Env → RE D) (ds : List D) : Rs D := if ds.length = n then (match body (ds.map some ++ List.replicate (N - n) none) with
  | none => none
  | some (.ok (d, _)) => ok d
  | some (.error (x, _)) => some (.error x)) else none
section
variable {P : Program} {w : World} {K : Frag} {mg : Str → Option Value} {base : Heap}
theorem fnN_ok {x qual : Str} {params : Arguments} {body : List Stmt} {scope : Scope} {f : Addr} {fd : FuncData} {dvs : List V} {kws : List (Str × V)} {N ps : List Str} {k : Nat} {own : List Nat} {g : Env → RE D} (F : FunD K x qual params body scope dvs kws f fd) (S : FnScope N ps scope) (hon : own.all (fun i => decide (ps.length ≤ i)) = true)
    (hps : decide (ps.length ≤ N.length) = true)
    (hb : ∀ (cdv : Value) (A : Around) (outer : List PySem.Env) (s : Shared) (H : Hp) (E : XK), Room k (A.deeper (PyProof.Rows.envOfC qual scope s.heap.objs.size f cdv)) → JR (cxOf (L2.CX P w) P w K mg base N qual scope f cdv A outer s H E) own body g) :
    FnOk P w K mg base (L2.CX P w) (k + 1) f fd ps (spN K (denN ps.length N.length g)) := by
  refine FunD.ok F S (fun vs H Q E h => ?_) (fun cdv A outer s H vs Q E hr h => ?_)
  · obtain ⟨F', ds, o, e, r, h1, _⟩ := h
    unfold denN at h1
    by_cases hl : ds.length = ps.length
    · rw [Rep.len r, hl]
    · rw [if_neg hl] at h1; cases h1
  · obtain ⟨F', ds, o, e, r, h1, hP⟩ := h
    unfold denN at h1
    by_cases hl : ds.length = ps.length
    · rw [if_pos hl] at h1
      have hl' : ps.length ≤ N.length := of_decide_eq_true hps
      have hlv : vs.length = ps.length := by rw [Rep.len r, hl]
      refine ⟨_, pss_wss, ?_⟩
      have tk : Takes (cxOf (L2.CX P w) P w K mg base N qual scope f cdv A outer s H E) (fun cls d _ H => E cls d H) := takes_of rfl rfl rfl rfl
      have R0 : RSf (cxOf (L2.CX P w) P w K mg base N qual scope f cdv A outer s H E) ⟨own, Pm.no, F', H⟩ F' (L2.start N vs) H (ds.map some ++ List.replicate (N.length - ps.length) none) := {
        ff := Ex.refl _
        fh := e
        hh := fun _ _ _ h => h
        dm := fun _ h => h
        nw := fun _ h => .inl h
        ln := by unfold L2.start; simp [hl, hlv]
        par := fun _ h => h.elim
        val := fun i d _ h => by
          unfold L2.start
          exact Reps.some_get r h
        own := ⟨fun _ => [], And.intro (fun (i : Nat) (d : D) hi (h : (List.map some ds ++ List.replicate (N.length - ps.length) (none : Option D))[i]? = some (some d)) => by
          have := of_decide_eq_true (List.all_eq_true.1 hon i hi)
          rw [List.getElem?_append_right (by rw [List.length_map, hl]; exact this), List.getElem?_replicate] at h
          split at h <;> cases h) (And.intro (fun i a h => absurd h (by simp)) (fun i j a _ h => absurd h (by simp)))⟩ }
      cases e2 : g (ds.map some ++ List.replicate (N.length - ps.length) none) with
      | none => rw [e2] at h1; cases h1
      | some y =>
        rw [e2] at h1
        refine (hb cdv A outer s H E hr).run R0 tk e2 ?_
        rcases y with ⟨x, δ'⟩ | ⟨d, δ'⟩
        · cases h1
          exact fun cls dd σ' F1 H1 r1 e1 rx => hP cls dd F1 H1 r1.any rx
        · cases h1
          exact fun Dd ob σ' F1 H1 l e1 ro => hP Dd ob F1 H1 ⟨l.rs.any, l.h0, l.nF⟩ l.at ro
    · rw [if_neg hl] at h1; cases h1
end
/-- its result, of no one yet -/
theorem RS.growN {K : Frag} {own : List Nat} {P : Pm} {F0 H0 F F' H' : Hp} {σ : L2.St} {H : Hp} {δ : Env} {p : Addr} {ob : HO} (r : RS K own P F0 H0 F σ H δ) (g : GrowN p F H F' H') (hp : H' p = some ob) : LS K own P F0 H0 p ob F' σ H' δ := by
  have R := r.grow g.g
  have h0 : H0 p = none := by
    cases e : H0 p with
    | none => rfl
    | some o => exact absurd g.new (r.dm p (by rw [e]; simp))
  obtain ⟨fp, h1, h2, h3⟩ := r.own
  have nD : ∀ i, p ∉ fp i := fun i hi => (h2 i p hi).2.1 g.new
  obtain ⟨fp', k1, k2, k3⟩ := R.own
  refine ⟨⟨⟨fun a => ∃ i, a ∈ fp i, P.bx⟩, F', H', ?_, ?_, hp, fun ⟨i, hi⟩ => nD i hi, g.np⟩, h0⟩
  · exact {
      ff := Ex.refl _
      fh := R.fh
      hh := fun _ _ _ h => h
      dm := fun _ h => h
      nw := fun _ h => .inl h
      ln := R.ln
      par := R.par
      val := R.val
      own := ⟨fp, fun i d hi hd => by
        obtain ⟨v, hv, o⟩ := h1 i d hi hd
        exact ⟨v, hv, o.keep g.g.ff fun a ha q e => g.g.hh a q e⟩, fun i a ha => ⟨by
          have a1 := (h2 i a ha).1
          have a2 := (h2 i a ha).2.1
          cases e : F' a with
          | none => rfl
          | some o => exact ((g.g.nw a (by rw [e]; simp)).elim (fun h => absurd a1 h) fun h => absurd h a2), by
          have a2 := (h2 i a ha).2.1
          cases e : H a with
          | none => exact absurd e a2
          | some o => rw [g.g.hh a o e]; simp, .inr ⟨i, ha⟩⟩, h3⟩ }
  · exact { ff := R.ff, hh := R.hh, dm := R.dm, nw := R.nw, pp := fun a ⟨i, hi⟩ => (h2 i a hi).2.2, bx := fun _ h => h }
/-- .. changed by a call, of no one after it -/
theorem LS.changed {K : Frag} {own : List Nat} {P : Pm} {F0 H0 F F' H' : Hp} {σ : L2.St} {H : Hp} {δ : Env} {Dd : Addr} {ob : HO} (l2 : LS K own P F0 H0 Dd ob F σ H δ) (g : GrowB Dd F H F' H') : RS K own P F0 H0 F' σ H' δ := by
  have R := l2.rs
  obtain ⟨⟨P', Fb, Hb, r2, c, e, n, nf⟩, nh⟩ := l2
  obtain ⟨fp, h1, h2, h3⟩ := r2.own
  have nD : ∀ i, Dd ∉ fp i := fun i hi => (h2 i Dd hi).2.2.elim (fun q => by rw [e] at q; cases q) n
  have ne : ∀ i a, a ∈ fp i → a ≠ Dd := fun i a ha q => nD i (q ▸ ha)
  exact {
    ff := R.ff.trans g.ff
    fh := g.fh
    hh := fun a o hp h => g.hh a o (fun q => by rw [q, nh] at h; cases h) (R.hh a o hp h)
    dm := fun a h => by
      have hne : a ≠ Dd := fun q => h (by rw [q]; exact nh)
      cases q : H a with
      | none => exact absurd q (R.dm a h)
      | some o => rw [g.hh a o hne q]; simp
    nw := fun a h => (g.nw a h).elim (R.nw a) fun z => .inr (by
      cases e0 : H0 a with
      | none => rfl
      | some o => exact absurd z (R.dm a (by rw [e0]; simp)))
    ln := R.ln
    par := R.par
    val := fun i d hi h => let ⟨v, a, b⟩ := R.val i d hi h; ⟨v, a, b.mono g.ff⟩
    own := by
      refine ⟨fp, fun i d hi hd => ?_, fun i a ha => ?_, h3⟩
      · obtain ⟨v, hv, o⟩ := h1 i d hi hd
        exact ⟨v, hv, o.keep g.ff fun a ha q e => g.hh a q (ne i a ha) e⟩
      · obtain ⟨a1, a2, a3⟩ := h2 i a ha
        refine ⟨?_, ?_, a3.elim (fun q => .inl (by
          cases e0 : H0 a with
          | none => rfl
          | some o => exact absurd q (c.dm a (by rw [e0]; simp)))) (c.pp a)⟩
        · cases q : F' a with
          | none => rfl
          | some o => exact ((g.nw a (by rw [q]; simp)).elim (fun h => absurd a1 h) fun h => absurd h a2)
        · cases q : H a with
          | none => exact absurd q a2
          | some o => rw [g.hh a o (ne i a ha) q]; simp }
section
variable {X : Cx} {own : List Nat} {e a : Expr} {es : List Expr} {pos : Pos}
theorem jn_call {k : Nat} {x : Str} {p : Pos} {m : List D → Rs D} {f : Env → RE (List D)} (hf : FnN X.prog X.w X.K X.mg X.base k x m) (hr : Room k X.A) (ha : JAE X own (e :: es) f) (hg : Gl X x := by rfl)
    (hdb : (x == ("__debug__" : Str)) = false := by decide) (he : starEach (e :: es) X.env = (false, eval e X.env) :: starEach es X.env := by rfl) (hpl : (backTo pos (starEach es X.env)).any (·.1) = false := by rfl) :
    JN X own (.Call (.Name x p) (e :: es) [] pos) (ecall m f) := ⟨fun {P F0 H0 σ F H δ W Q o} r tk hg' hP => by
  obtain ⟨fa, fd, ps, F, hm, hk, hb⟩ := hf.at_
  refine we_of (pe_callS F hr hg hm hk hb (fun σ => passAt tk σ) pa_wa hdb he hpl) (sn_bind (w := WA X (e :: es)) ha r tk hg' hP fun xs vs δ1 F1 H1 h1 e1 rx r1 P1 => ?_)
  cases em : m xs with
  | none => rw [em] at h1; cases h1
  | some y =>
    rw [em] at h1
    cases y with
    | ok d => cases h1; exact ⟨F1, xs, _, r1.fh, rx, em, fun p ob F' H' g hp ho => P1 p ob F' H' (r1.growN g hp) g.g.ff ho⟩
    | error z => cases h1; exact ⟨F1, xs, _, r1.fh, rx, em, fun c dd F' H' g rv => P1 c dd F' H' (r1.grow g) g.ff rv⟩⟩
/-- f(new, ..), f a def that changes its first argument -/
def ecallBN (m : List D → List D → Option (D × List D)) (fa : Env → RE D) (f : Env → RE (List D)) : Env → RE D := fun δ => bindE (fa δ) fun d δ1 => bindE (f δ1) fun ds δ2 => (match d with
  | .lst B => (m B ds).map fun q => .ok (q.1, δ2)
  | _ => none)
theorem je_callBN {k : Nat} {x : Str} {p : Pos} {m : List D → List D → Option (D × List D)} {fa : Env → RE D} {f : Env → RE (List D)} (hf : FnB X.prog X.w X.K X.mg X.base k x m) (hr : Room k X.A) (hn : JN X own a fa) (ha : JAE X own es f) (hg : Gl X x := by rfl)
    (hdb : (x == ("__debug__" : Str)) = false := by decide) (he : starEach (a :: es) X.env = (false, eval a X.env) :: starEach es X.env := by rfl) (hpl : (backTo pos (starEach es X.env)).any (·.1) = false := by rfl) :
    JE X own (.Call (.Name x p) (a :: es) [] pos) (ecallBN m fa f) := ⟨fun {P F0 H0 σ F H δ W Q o} r tk hg' hP => by
  obtain ⟨fa', fd, ps, Fo, hm, hk, hb⟩ := hf.at_
  refine we_of (pe_callS Fo hr hg hm hk hb (fun σ => passAt tk σ) (pa_cons pe_we pa_wa he) hdb he hpl) ?_
  rcases bindE_some hg' with ⟨y, h1, rfl⟩ | ⟨d, δ1, h1, hg'⟩
  · exact hn.run r tk h1 hP
  · refine hn.run r tk h1 fun Dd ob F1 H1 l e1 ro => ?_
    obtain ⟨⟨P', Fb, Hb, r1, c, e, n, nf⟩, nh⟩ := l
    rcases bindE_some hg' with ⟨y, h2, rfl⟩ | ⟨ds, δ2, h2, hg'⟩
    · exact ha.run (P := P') (F0 := Fb) (H0 := Hb) r1 tk h2 fun cc dd F' H' r2 e2 rx => hP cc dd F' H' (RS.back r2 c) (e1.trans e2) rx
    · refine ha.run (P := P') (F0 := Fb) (H0 := Hb) r1 tk h2 fun vs F2 H2 r2 e2 rx => ?_
      have l2 : LS X.K own P F0 H0 Dd ob F2 σ H2 δ2 := ⟨⟨P', Fb, Hb, r2, c, e, n, nf⟩, nh⟩
      cases ro with
      | dic _ => cases hg'
      | @lst ws B rr =>
        dsimp only at hg'
        simp only [Option.map_eq_some_iff] at hg'
        obtain ⟨⟨d, B'⟩, hm', rfl⟩ := hg'
        refine ⟨F2, Dd, vs, ws, B, ds, d, B', rfl, l2.rs.fh, l2.nF, l2.at, rr.mono e2, rx, hm', fun v F' H' bs' g hH' rb rd => hP v F' H' (l2.changed g) (e1.trans (e2.trans g.ff)) rd⟩⟩
end
end PD
end
section
namespace PD
open PySem L2
section
variable {X : Cx}
/-! ### f() -/
theorem pe_call00 {CX : CXT} {k : Nat} {f : Addr} {fd : FuncData} {ps : List Str} {sp : Sp} {E : St → XK} {x : Str} {p pos : Pos} (F : FnOk X.prog X.w X.K X.mg X.base CX k f fd ps sp) (hr : Room k X.A) (hg : Gl X x) (hm : X.mg x = some (.ref f)) (hk : PySem.W.keepIn X.K (.ref f) = true) (hb : Binds X.K fd ps []) (hx : ∀ σ, PassesAt CX X σ (E σ))
    (hdb : (x == ("__debug__" : Str)) = false := by decide) : PE X (.Call (.Name x p) [] [] pos) (tCallS sp E tNil) := by
  refine ⟨fun pins s σ H Q I h => ?_⟩
  refine wpAny_Call_Name_kw (ld_glob I hg hm ?_ hdb)
  exact PySem.W.callWith_K0 I.kIn hk (run_fnS F hr hb (hx σ) I .nil h)
def vcall0 (m : List D → Rs D) : Env → Rs D := fun _ => m []
theorem jp_call0 {k : Nat} {x : Str} {p pos : Pos} {m : List D → Rs D} (hf : Fn X.prog X.w X.K X.mg X.base k x m) (hr : Room k X.A) (hg : Gl X x := by rfl) (hdb : (x == ("__debug__" : Str)) = false := by decide) :
    JP X (.Call (.Name x p) [] [] pos) (vcall0 m) := ⟨fun {σ F H δ W Q o} rp tk hg' hP => by
  obtain ⟨f, fd, ps, Fo, hm, hk, hb⟩ := hf.at_
  exact we_of (pe_call00 Fo hr hg hm hk hb (fun σ => passAt tk σ) hdb) ⟨F, [], _, rp.ex, .nil, hg', post_call hP⟩⟩
/-! ### f(k = v, ..) -/
def pick {α : Type} (ix : List Nat) (zs : List α) : List α := ix.filterMap (zs[·]?)
theorem Vals.get? : ∀ {vs : List V} {us : List Value}, Vals vs us → ∀ (i : Nat), (vs[i]? = none ∧ us[i]? = none) ∨ ∃ v u, vs[i]? = some v ∧ us[i]? = some u ∧ RelV v u
  | _, _, .nil, i => .inl ⟨by simp, by simp⟩
  | _, _, .cons h _, 0 => .inr ⟨_, _, rfl, rfl, h⟩
  | _, _, .cons _ t, i + 1 => by rw [List.getElem?_cons_succ, List.getElem?_cons_succ]; exact Vals.get? t i
theorem vals_pick {vs : List V} {us : List Value} (r : Vals vs us) : ∀ ix : List Nat, Vals (pick ix vs) (pick ix us)
  | [] => .nil
  | i :: ix => by
    unfold pick
    rw [List.filterMap_cons, List.filterMap_cons]
    rcases Vals.get? r i with ⟨h1, h2⟩ | ⟨v, u, h1, h2, h3⟩
    · rw [h1, h2]; exact vals_pick r ix
    · rw [h1, h2]; exact .cons h3 (vals_pick r ix)
theorem reps_get? {K : Frag} {F : Hp} : ∀ {vs : List V} {ds : List D}, Reps K F vs ds → ∀ (i : Nat), (vs[i]? = none ∧ ds[i]? = none) ∨ ∃ v d, vs[i]? = some v ∧ ds[i]? = some d ∧ Rep K F v d
  | _, _, .nil, i => .inl ⟨by simp, by simp⟩
  | _, _, .cons h _, 0 => .inr ⟨_, _, rfl, rfl, h⟩
  | _, _, .cons _ t, i + 1 => by rw [List.getElem?_cons_succ, List.getElem?_cons_succ]; exact reps_get? t i
theorem reps_pick {K : Frag} {F : Hp} {vs : List V} {ds : List D} (r : Reps K F vs ds) : ∀ ix : List Nat, Reps K F (pick ix vs) (pick ix ds)
  | [] => .nil
  | i :: ix => by
    unfold pick
    rw [List.filterMap_cons, List.filterMap_cons]
    rcases reps_get? r i with ⟨h1, h2⟩ | ⟨v, u, h1, h2, h3⟩
    · rw [h1, h2]; exact reps_pick r ix
    · rw [h1, h2]; exact .cons h3 (reps_pick r ix)
/-- a def called by keywords alone; ix: where each parameter's value stands among them -/
structure FnK (P : Program) (w : World) (K : Frag) (mg : Str → Option Value) (base : Heap) (k : Nat) (x : Str) (m : List D → Rs D) (ks : List Str) (ix : List Nat) : Prop where
  at_ : ∃ f fd ps, FnOk P w K mg base (L2.CX P w) k f fd ps (spP K m) ∧ mg x = some (.ref f) ∧ PySem.W.keepIn K (.ref f) = true ∧ KBn K fd ps 0 ks (fun us ws => pick ix ws) (fun vs zs => pick ix zs)
theorem kbn_of {K : Frag} {x qual : Str} {params : Arguments} {body : List Stmt} {scope : Scope} {kws : List (Str × V)} {f : Addr} {fd : FuncData} {ps : List Str} {ks : List Str} {ix : List Nat} (F : FunD K x qual params body scope [] kws f fd)
    (h : ∀ (kV doc pm : Value) (an : Option Addr) (cdv ct : Value) (ws : List Value), ws.length = ks.length → bindArgs (PySem.W.fnOf x qual params body scope .none kV doc pm an cdv ct) ⟨[], ks.zip ws⟩ = pure (ps.zip (pick ix ws))) : KBn K fd ps 0 ks (fun _ ws => pick ix ws) (fun _ zs => pick ix zs) := by
  obtain ⟨oc, od, dV, kV, doc, pm, an, cdv, ct, osl, rfl, lk, hcd, hD, hK⟩ := F.ex
  rcases hD with ⟨_, rfl⟩ | ⟨e, _⟩
  · refine ⟨fun s us ws _ l1 l2 => ?_, fun _ r => vals_pick r ix⟩
    cases us with
    | nil => exact BindsTo.of_eq (h kV doc pm an cdv ct ws l2)
    | cons _ _ => cases l1
  · exact absurd rfl e
theorem run_fnNS {CX : CXT} {k n : Nat} {f : Addr} {fd : FuncData} {ps ks : List Str} {sp : Sp} {E : XK} {g : List Value → List Value → List Value} {gV : List V → List V → List V} {pins : List (Addr × Obj)} {σ : St} {H : Hp} {s : Shared} {Q : VK} {us ws : List Value} {vs zs : List V} (F : FnOk X.prog X.w X.K X.mg X.base CX k f fd ps sp) (hr : Room k X.A) (hb : KBn X.K fd ps n ks g gV) (hx : PassesAt CX X σ E)
    (I : Inv X pins σ H s) (r : Vals vs us) (rz : Vals zs ws) (l1 : vs.length = n) (l2 : zs.length = ks.length) (h : sp (gV vs zs) H Q E) : wpAny (model X.prog X.w) X.A (call (.ref f) us (ks.zip ws)) (EP X pins σ Q) X.xe s := by
  have r2 := hb.rel r rz
  refine wpAny_call (codeAny_mono (F.run X.A X.stack s H ⟨us, ks.zip ws⟩ (g us ws) (gV vs zs) Q E hr I.env0 (hb.to s us ws I.kIn (r.length.symm.trans l1) (rz.length.symm.trans l2)) r2 h) fun r s' hq => ?_)
  cases r with
  | error e => exact hx pins H s e s' I hq
  | ok fl =>
    cases fl with
    | ret u => exact I.after hq
    | next => exact False.elim hq
    | brk => exact False.elim hq
    | cont => exact False.elim hq
def WK (X : Cx) (kws : List Keyword) (σ : L2.St) (H : Hp) (Q : List V → Hp → Prop) : Prop := ∀ pos pins s, Inv X pins σ H s → wpAny (model X.prog X.w) X.A (evalAll ((backToKw pos (keywordEach kws X.env)).map (·.2))) (AP X pins σ Q) X.xe s
theorem pk_wk {kws : List Keyword} : PK X kws (WK X kws) := ⟨fun pos pins s _ _ _ I h => h pos pins s I⟩
theorem wk_of {kws : List Keyword} {t : TA} {σ : L2.St} {H : Hp} {Q : List V → Hp → Prop} (h : PK X kws t) (q : t σ H Q) : WK X kws σ H Q := fun pos pins s I => h.run pos pins s σ H Q I q
abbrev JK (X : Cx) (kws : List Keyword) (g : Env → Rs (List D)) : Prop := J X (WK X kws) (Reps X.K) g
theorem jk_nil : JK X [] anil := ⟨fun rp tk hg hP => wk_of pk_nil (hP.fin hg _ _ _ (.refl rp.ex) .nil)⟩
theorem jk_cons {nm : Option Str} {e : Expr} {kpos : Pos} {kws : List Keyword} {f : Env → Rs D} {r : Env → Rs (List D)} (ha : JP X e f) (hr : JK X kws r) : JK X (⟨nm, e, kpos⟩ :: kws) (acons f r) := ⟨fun rp tk hg hP =>
  wk_of (pk_cons pe_we pk_wk) (jp_bind ha rp tk hg hP fun x vx F1 H1 h1 g1 rx r1 P1 => j_bind (w := WK X kws) hr r1 tk h1 P1 fun xs vxs F2 H2 h2 g2 rxs r2 P2 => P2.fin h2 _ F2 H2 (.refl r2.ex) (.cons (rx.mono g2.ff) rxs))⟩
def vcallK (m : List D → Rs D) (n : Nat) (ix : List Nat) (a : Env → Rs (List D)) : Env → Rs D := fun δ => bind (a δ) fun xs => if xs.length = n then m (pick ix xs) else none
theorem jp_callK {k : Nat} {x : Str} {p pos : Pos} {m : List D → Rs D} {ks : List Str} {ix : List Nat} {kws : List Keyword} {a : Env → Rs (List D)} (hf : FnK X.prog X.w X.K X.mg X.base k x m ks ix) (hr : Room k X.A) (ha : JK X kws a) (hg : Gl X x := by rfl)
    (hall : (backToKw pos (keywordEach kws X.env)).all (·.1.isSome) = true := by rfl) (hks : (backToKw pos (keywordEach kws X.env)).filterMap (·.1) = ks := by rfl) (hdb : (x == ("__debug__" : Str)) = false := by decide)
    (hpl : ((backTo pos (starEach [] X.env)).any (·.1) || (backToKw pos (keywordEach kws X.env)).any (·.1.isNone)) = false := by rfl) : JP X (.Call (.Name x p) [] kws pos) (vcallK m ks.length ix a) := ⟨fun {σ F H δ W Q o} rp tk hg' hP => by
  obtain ⟨f, fd, ps, Fo, hm, hk, hb⟩ := hf.at_
  intro pins s I
  refine wpAny_Call_Name_kw (ld_glob I hg hm ?_ hdb)
  refine PySem.W.callWith_KW0 (h₀ := X.base) I.ok.mod.kin hk hall ?_ hpl
  have hw : WK X kws σ H (fun zs H2 => zs.length = ks.length ∧ spP X.K m (pick ix zs) H2 Q (L2.WE W σ)) := j_bind (w := WK X kws) ha rp tk hg' hP fun xs vs F1 H1 h1 g1 rx r1 P1 => by
    split at h1
    · rename_i hl
      exact ⟨by rw [Rep.len rx]; exact hl, F1, _, _, r1.ex, reps_pick rx ix, h1, post_call P1⟩
    · cases h1
  refine thn (hw pos pins s I) fun ws s2 ⟨zs, H2, I2, rz, l2, q2⟩ => ⟨I2.kIn, ?_⟩
  rw [hks]
  exact run_fnNS (us := []) (vs := []) Fo hr hb (passAt tk σ) I2 .nil rz rfl l2 q2⟩
end
end PD
end
section
namespace PD
open PySem L2
/-- the items of a list, tuple or text -/
def itemsA : D → Option (List D)
  | .lst xs => some xs
  | .scr xs => some xs
  | .tup xs => some xs
  | .str x => some (signs x)
  | _ => none
def iany (f : Env → RE D) : Env → RE (List D) := fun δ => bindE (f δ) fun d δ' => (itemsA d).map fun xs => .ok (xs, δ')
theorem ji_any {X : Cx} {own : List Nat} {tg e : Expr} {f : Env → RE D} (h : JE X own e f) : JI X own tg e (iany f) := ⟨fun {P F0 H0 σ F H δ W o R} r tk hg hP => by
  unfold iany at hg
  cases e0 : f δ with
  | none => rw [e0] at hg; cases hg
  | some y =>
    rw [e0] at hg
    rcases y with ⟨x, δ1⟩ | ⟨d, δ1⟩
    · cases hg; exact wi_of (pi_list pe_we) (h.run r tk e0 hP)
    · simp only [bindE, Option.map_eq_some_iff] at hg
      obtain ⟨xs, hx, rfl⟩ := hg
      cases d <;> (try (cases hx; done))
      case str => cases hx; exact wi_of (pi_str pe_we) (h.run r tk e0 fun v F1 H1 r1 e1 rx => by cases rx; exact ⟨_, rfl, hP _ F1 H1 r1 e1 src_str⟩)
      case tup => cases hx; exact wi_of (pi_tup pe_we) (h.run r tk e0 fun v F1 H1 r1 e1 rx => by cases rx with | tup h1 r2 => exact ⟨_, rfl, ⟨_, ex_t r1.fh h1⟩, hP _ F1 H1 r1 e1 (src_tup h1 r2)⟩)
      case lst => cases hx; exact wi_of (pi_list pe_we) (h.run r tk e0 fun v F1 H1 r1 e1 rx => by cases rx with | lst h1 r2 => exact ⟨_, rfl, ⟨_, SqL.of (r1.fh _ _ h1)⟩, hP _ F1 H1 r1 e1 (src_list (SqL.of h1) r2)⟩)
      case scr => cases hx; exact wi_of (pi_list pe_we) (h.run r tk e0 fun v F1 H1 r1 e1 rx => by cases rx with | scr h1 r2 => exact ⟨_, rfl, ⟨_, ex_l r1.fh h1⟩, hP _ F1 H1 r1 e1 (src_list h1 r2)⟩)⟩
theorem hu64b {k : Nat} {A : Around} (hr : Room k A) : A.units + 64 < cLine := by have := hr.un; omega
theorem fnB_none {P : Program} {w : World} {K : Frag} {mg : Str → Option Value} {base : Heap} {x qual : Str} {params : Arguments} {body : List Stmt} {scope : Scope} {f : Addr} {fd : FuncData} {dvs : List V} {kws : List (Str × V)} {N ps : List Str} {k : Nat} (F : FunD K x qual params body scope dvs kws f fd) (S : FnScope N ps scope) :
    FnOk P w K mg base (L2.CX P w) (k + 1) f fd ps (spB K fun _ _ => none) := by
  refine FunD.ok F S (fun vs H Q E h => ?_) (fun cdv A outer s H vs Q E hr h => ?_)
  · obtain ⟨_, _, _, _, _, _, _, _, _, _, _, _, _, _, h, _⟩ := h; cases h
  · obtain ⟨_, _, _, _, _, _, _, _, _, _, _, _, _, _, h, _⟩ := h; cases h
end PD
end
section
set_option maxHeartbeats 2000000
namespace PD
open PySem PySem.Spec PyProof.Rows L2
/-! ### defs that are promised where nothing is being shown (repr) -/
structure FnOkG (P : Program) (w : World) (K : Frag) (mg : Str → Option Value) (base : Heap) (CX : CXT) (k : Nat) (f : Addr) (fd : FuncData) (ps : List Str) (sp : Sp) : Prop where
  len : ∀ vs H Q E, sp vs H Q E → vs.length = ps.length
  run : ∀ (A : Around) (outer : List PySem.Env) (s : Shared) (H : Hp) (args : Args) (us : List Value) (vs : List V) (Q : VK) (E : XK), Room k A → A.guards = some [] → Env0 P w K mg base A outer s H → BindsTo s fd args (ps.zip us) → Vals vs us → sp vs H Q E →
    codeAny (model P w) A (.call (.ref f) args) (CR CX outer P w H s Q E) s
section
variable {P : Program} {w : World} {K : Frag} {mg : Str → Option Value} {base : Heap}
theorem FunD.okG {CX : CXT} {x qual : Str} {params : Arguments} {body : List Stmt} {scope : Scope} {dvs : List V} {kws : List (Str × V)} {f : Addr} {fd : FuncData} {N ps : List Str} {k : Nat} {sp : Sp} (F : FunD K x qual params body scope dvs kws f fd) (S : FnScope N ps scope) (len : ∀ vs H Q E, sp vs H Q E → vs.length = ps.length)
    (hbody : ∀ (cdv : Value) (A : Around) (outer : List PySem.Env) (s : Shared) (H : Hp) (vs : List V) (Q : VK) (E : XK), Room k (A.deeper (envOfC qual scope s.heap.objs.size f cdv)) → A.guards = some [] → sp vs H Q E →
      ∃ t, PSs (cxOf CX P w K mg base N qual scope f cdv A outer s H E) body t ∧ t { nx := fun _ H' => Q .non H', rt := Q } (start N vs) H) : FnOkG P w K mg base CX (k + 1) f fd ps sp := by
  obtain ⟨oc, od, dV, kV, doc, pm, an, cdv, ct, osl, rfl, lk, hcd, _, _⟩ := F.ex
  refine ⟨len, fun A outer s H args us vs Q E hr hgu e0 hb r hsp => ?_⟩
  have hl := len _ _ _ _ hsp
  have KX : K.In s.heap := e0.mod.kin.keeps fun b o e => (e0.bs b o e).1
  have lim : s.heap.NoLimit := e0.mod.nolimit.keeps fun b o e => (e0.bs b o e).1
  refine codeAny_call_function hr.depth (KX _ _ lk) rfl S.co S.gen rfl (PySem.W.codeRec_of KX hcd) (hb _ _ _ _ ?_)
  refine wpAny_newFunctionEnv_cells S.kind (fun ⟨n, v⟩ hy => (S.par n (List.of_mem_zip hy).1).imp id fun q => ⟨q, PySem.W.cellsFrom_some _ _ _ (.inl q)⟩) fun env he s1 x => ?_
  subst he
  refine ⟨lim.keeps x.toInCall.keep, codeAny_func ?_⟩
  obtain ⟨t, ht, hq⟩ := hbody cdv A outer s H vs Q E (hr.deeper _) hgu hsp
  have I : Inv (cxOf CX P w K mg base N qual scope f cdv A outer s H E) [] (start N vs) H s1 := inv_start S hr.hd e0 hl r x
  refine wpAny_mono (ht.run [] s1 (start N vs) H _ I hq) (fun fl s' hs => ?_) fun e s' hs => hs
  cases fl with
  | ret u =>
    obtain ⟨v, σ', H', J, rv, q⟩ := hs
    exact ⟨v, H', J.os, J.bare, J.base, J.hok, rv, q⟩
  | next =>
    obtain ⟨σ', H', J, q⟩ := hs
    exact ⟨.non, H', J.os, J.bare, J.base, J.hok, rfl, q⟩
  | brk =>
    obtain ⟨_, _, _, q⟩ := hs
    exact q.elim
  | cont =>
    obtain ⟨_, _, _, q⟩ := hs
    exact q.elim
/-- the law's call -/
theorem law_callG {mb : Str → Option Value} {CX : CXT} {k : Nat} {fa a : Addr} {fd : FuncData} {x : Str} {sp : Sp} {s₁ : Shared} {vs : List Value} {ns : List Int}
    (KX : K.In s₁.heap) (hns : s₁.heap.Ns mainGlobals mg) (hb : s₁.heap.Ns builtinsNs mb) (hbb : ∀ x : Str, x ≠ "__name__" → mb x = bootBuiltins x) (hlim : s₁.heap.NoLimit) (hg : s₁.gens = #[])
    (ha : s₁.heap.get? a = some { cls := .type "list", data := .seq vs.toArray }) (hi : IntsAre vs ns) (hl : ns.length ≤ sizeLine) (hr : Room k callerA)
    (F : ∀ base : Heap, K.In base → base.Ns mainGlobals mg → FnOkG P w K mg base CX k fa fd [x] sp) (hbind : ∀ (s : Shared) (u : Value), BindsTo s fd ⟨[u], []⟩ [(x, u)])
    (hsp : ∀ H : Hp, Only H → SqL K H a (ns.map V.int) → sp [.ref a] H (fun v _ => v = .bl true) fun _ _ _ => False)
    (hCX : ∀ H e s', CX [] H s₁ (fun _ _ _ => False) e s' → False) :
    codeAny (model P w) callerA (.call (.ref fa) ⟨[.ref a], []⟩) (fun r s' => r = .ok (.ret (.bool true)) ∧ OldK s₁.heap s'.heap ∧ s'.os = s₁.os ∧ AllBare s'.gens) s₁ := by
  -- whatever of the heap is told: the script, frozen, or nothing
  have core : ∀ H : Hp, Only H → SqL K H a (ns.map V.int) → HOk P w H s₁.heap → (∀ b, H b ≠ none → b = a ∧ K.lookup a = none) →
      codeAny (model P w) callerA (.call (.ref fa) ⟨[.ref a], []⟩) (fun r s' => r = .ok (.ret (.bool true)) ∧ OldK s₁.heap s'.heap ∧ s'.os = s₁.os ∧ AllBare s'.gens) s₁ := fun H hO hS hok hA => by
    have nsK : ∀ {b : Addr} {m : Str → Option Value}, s₁.heap.Ns b m → (hidT s₁.heap H).Ns b m := fun {b m} ⟨o, es, ep, e, d, r⟩ => ⟨o, es, ep, hidT_get e (by
      cases q : H b with
      | none => rfl
      | some u =>
        obtain ⟨rfl, _⟩ := hA b (by rw [q]; simp)
        rw [ha] at e; cases e; cases d), d, r⟩
    have hKb : K.In (hidT s₁.heap H) := fun b o e => hidT_get (KX b o e) (by
      cases q : H b with
      | none => rfl
      | some u =>
        obtain ⟨rfl, z⟩ := hA b (by rw [q]; simp)
        rw [z] at e; cases e)
    have hM : Mod K mg (hidT s₁.heap H) := ⟨hKb, nsK hns, ⟨mb, nsK hb, hbb⟩, let ⟨mc, h1, h2⟩ := hlim; ⟨mc, nsK h1, h2⟩⟩
    have e0 : Env0 P w K mg (hidT s₁.heap H) callerA [] s₁ H := ⟨rfl, hM, fun b o e => of_hidT e, Nat.le_of_eq (hidT_size _ _), trivial, fun b hb => absurd (show b ∈ ([] : List Addr) from hb) (by simp), hok, .of_eq hg⟩
    refine codeAny_mono ((F _ hKb (nsK hns)).run callerA [] s₁ H ⟨[.ref a], []⟩ [.ref a] [.ref a] _ _ hr rfl e0 (hbind s₁ (.ref a)) (.cons rfl .nil) (hsp H hO hS)) fun r s' h => ?_
    cases r with
    | error e => exact (hCX H e s' h).elim
    | ok fl =>
      cases fl with
      | next => exact h.elim
      | brk => exact h.elim
      | cont => exact h.elim
      | ret u =>
        obtain ⟨v, H', os, bare, un, hok', r', q⟩ := h
        cases (show v = .bl true from q)
        cases (show u = Value.bool true from r')
        refine ⟨rfl, OldK.of_keep fun b o e => ?_, os, bare⟩
        cases q : H b with
        | none => exact un.keep b o e q (by intro z; exact absurd (show b ∈ ([] : List Addr) from z) (by simp)) (by simp)
        | some u =>
          rcases hO b with z | ⟨ob, xs, z⟩
          · rw [q] at z; cases z
          · obtain ⟨e1, _⟩ := hok b _ z
            obtain ⟨e2, _⟩ := hok' b _ (un.frzs b ob _ z)
            rw [e] at e1; cases e1
            exact e2
  have rv := vals_ints hi
  have lenV := hi.length
  cases hk : K.lookup a with
  | some o =>
    have e := KX a o hk
    rw [ha] at e
    cases e
    exact core (fun _ => none) (fun _ => .inl rfl) (.inr ⟨_, vs.toArray, _, hk, rfl, rfl, rfl, by rw [List.size_toArray, lenV]; exact hl, by simpa using rv⟩) (fun b u z => nomatch (show (none : Option HO) = some u from z)) fun b z => absurd rfl z
  | none =>
    have at_ : ∀ b, (if b = a then some (HO.frz { cls := .type "list", data := .seq vs.toArray } (.lst (ns.map V.int))) else none) ≠ none → b = a := fun b z => by
      by_cases hb : b = a
      · exact hb
      · exact absurd (if_neg hb) z
    refine core (fun b => if b = a then some (.frz { cls := .type "list", data := .seq vs.toArray } (.lst (ns.map V.int))) else none) (fun b => ?_) (.inl (.inr ⟨_, if_pos rfl⟩)) (fun b u z => ?_) fun b z => ⟨at_ b z, hk⟩
    · by_cases hb : b = a
      · exact .inr ⟨_, _, if_pos hb⟩
      · exact .inl (if_neg hb)
    · cases at_ b (by rw [show (if b = a then some (HO.frz { cls := .type "list", data := .seq vs.toArray } (.lst (ns.map V.int))) else none) = some u from z]; simp)
      cases (if_pos rfl).symm.trans z
      exact ⟨ha, by rw [List.length_map]; exact hl, vs, _, rv, ha⟩
end
theorem walk_ofG {l : PySem.W.OpenLaw} {n k : Nat} {q : Program} {loose : List Str} {XP : (Str → Option Value) → Heap → Prop} {YP : World → Heap → Prop} {d : DefRec} {CX : World → CXT} {x : Str}
    (hn : l.most = some n) (hn2 : n ≤ sizeLine) (hdf : d.params.defaults = []) (hr : Room k callerA)
    (F : ∀ (w : World) (mg : Str → Option Value) (fa : Addr) (h : Heap), YP w h → h.Ns mainGlobals mg → mg d.name = some (.ref fa) →
      ∃ (K : PySem.W.Frag) (fd : FuncData) (sp : Sp), K.In h ∧ (∀ (s : Shared) (u : Value), BindsTo s fd ⟨[u], []⟩ [(x, u)]) ∧
        (∀ (H : Hp) (a : Addr) (ns : List Int), ns.length ≤ n → Only H → SqL K H a (ns.map V.int) → sp [.ref a] H (fun v _ => v = .bl true) fun _ _ _ => False) ∧
        ∀ base : Heap, K.In base → base.Ns mainGlobals mg → FnOkG l.prog w K mg base (CX w) k fa fd [x] sp)
    (hCX : ∀ (w : World) (H : Hp) (s : Shared) (e : Value) (s' : Shared), CX w [] H s (fun _ _ _ => False) e s' → False) :
    PySem.W.WalkO q loose XP YP l.row.toRowW d [] (fun f vs => PySem.call f vs) := by
  refine Att.attach_call hn hdf fun w s₀ s₁ mg mb fa o pm cd doc a vs ns G Y ho hd hcd hmg hobj hints hlen hg => ?_
  obtain ⟨K, fd, sp, KX, hb, hsp, hF⟩ := F w mg fa _ Y G.T.g hmg
  exact law_callG KX G.T.g G.T.b G.T.builtins G.T.nolimit hg hobj hints (Nat.le_trans hlen hn2) hr hF hb (fun H hO hS => hsp H a ns hlen hO hS) fun H e s' => hCX w H s₁ e s'
end PD
end
section
set_option maxHeartbeats 2000000
namespace PD
open PySem PySem.Spec PyProof.Rows L2
section
variable {P : Program} {w : World} {K : Frag} {mg : Str → Option Value} {base : Heap}
theorem fn_okG {x qual : Str} {params : Arguments} {body : List Stmt} {scope : Scope} {f : Addr} {fd : FuncData} {dvs : List V} {kws : List (Str × V)} {N ps : List Str} {k : Nat} {own : List Nat} {g : Env → RO} (F : FunD K x qual params body scope dvs kws f fd) (S : FnScope N ps scope) (hon : own.all (fun i => decide (ps.length ≤ i)) = true)
    (hps : decide (ps.length ≤ N.length) = true)
    (hb : ∀ (cdv : Value) (A : Around) (outer : List PySem.Env) (s : Shared) (H : Hp) (E : XK), Room k (A.deeper (envOfC qual scope s.heap.objs.size f cdv)) → (A.deeper (envOfC qual scope s.heap.objs.size f cdv)).guards = some [] → JB (cxOf (L2.CX P w) P w K mg base N qual scope f cdv A outer s H E) own body g) :
    FnOkG P w K mg base (L2.CX P w) (k + 1) f fd ps (spP K (den ps.length N.length g)) := by
  refine FunD.okG F S (fun vs H Q E h => ?_) (fun cdv A outer s H vs Q E hr hgu h => bd_okB hon hps (hb cdv A outer s H E hr hgu) h)
  obtain ⟨F', ds, o, e, r, h1, _⟩ := h
  unfold den at h1
  by_cases hl : ds.length = ps.length
  · rw [Rep.len r, hl]
  · rw [if_neg hl] at h1; cases h1
theorem fnB_okG {x qual : Str} {params : Arguments} {body : List Stmt} {scope : Scope} {f : Addr} {fd : FuncData} {dvs : List V} {kws : List (Str × V)} {N ps : List Str} {k : Nat} {own : List Nat} {g : Env → RO} (F : FunD K x qual params body scope dvs kws f fd) (S : FnScope N ps scope) (hon : own.all (fun i => decide (i = 0 ∨ ps.length ≤ i)) = true) (h0 : own.contains 0 = true)
    (hps : decide (ps.length ≤ N.length) = true)
    (hb : ∀ (cdv : Value) (A : Around) (outer : List PySem.Env) (s : Shared) (H : Hp) (E : XK), Room k (A.deeper (envOfC qual scope s.heap.objs.size f cdv)) → (A.deeper (envOfC qual scope s.heap.objs.size f cdv)).guards = some [] → JB (cxOf (L2.CX P w) P w K mg base N qual scope f cdv A outer s H E) own body g) :
    FnOkG P w K mg base (L2.CX P w) (k + 1) f fd ps (spB K (denB ps.length N.length g)) := by
  refine FunD.okG F S (fun vs H Q E h => ?_) (fun cdv A outer s H vs Q E hr hgu h => bdB_okB hon h0 hps (hb cdv A outer s H E hr hgu) h)
  obtain ⟨F', p, ws, bs, B, ds, d, B', rfl, e, hF, hH, rb, rd, h1, _⟩ := h
  unfold denB at h1
  by_cases hl : ds.length + 1 = ps.length
  · rw [List.length_cons, Rep.len rd, hl]
  · rw [if_neg hl] at h1; cases h1
end
structure FnBG (P : Program) (w : World) (K : Frag) (mg : Str → Option Value) (base : Heap) (k : Nat) (x : Str) (m : List D → List D → Option (D × List D)) : Prop where
  at_ : ∃ f fd ps, FnOkG P w K mg base (L2.CX P w) k f fd ps (spB K m) ∧ mg x = some (.ref f) ∧ PySem.W.keepIn K (.ref f) = true ∧ Binds K fd ps []
structure FnG (P : Program) (w : World) (K : Frag) (mg : Str → Option Value) (base : Heap) (k : Nat) (x : Str) (m : List D → Rs D) : Prop where
  at_ : ∃ f fd ps, FnOkG P w K mg base (L2.CX P w) k f fd ps (spP K m) ∧ mg x = some (.ref f) ∧ PySem.W.keepIn K (.ref f) = true ∧ Binds K fd ps []
section
variable {X : Cx} {own : List Nat} {e a : Expr} {es : List Expr} {pos : Pos}
theorem pe_callG {CX : CXT} {k : Nat} {f : Addr} {fd : FuncData} {ps : List Str} {sp : Sp} {E : L2.St → XK} {x : Str} {p : Pos} {t : TA} (F : FnOkG X.prog X.w X.K X.mg X.base CX k f fd ps sp) (hgu : X.A.guards = some []) (hr : Room k X.A) (hg : Gl X x) (hm : X.mg x = some (.ref f)) (hk : PySem.W.keepIn X.K (.ref f) = true) (hb : Binds X.K fd ps []) (hx : ∀ σ, PassesAt CX X σ (E σ))
    (ha : PA X (e :: es) t) (hdb : (x == ("__debug__" : Str)) = false := by decide) (he : starEach (e :: es) X.env = (false, eval e X.env) :: starEach es X.env := by rfl) (hpl : (backTo pos (starEach es X.env)).any (·.1) = false := by rfl) :
    PE X (.Call (.Name x p) (e :: es) [] pos) (tCallS sp E t) := by
  refine ⟨fun pins s σ H Q I h => ?_⟩
  refine wpAny_Call_Name_kw (ld_glob I hg hm ?_ hdb)
  refine PySem.W.callWith_K (h₀ := X.base) I.ok.mod.kin hk (thn (ha.run pos pins s σ H _ I h) fun us s1 ⟨vs, H1, I1, r, q⟩ => ⟨I1.kIn, ?_⟩) he hpl
  have hl : us.length = ps.length := by rw [← r.length]; exact F.len _ _ _ _ q
  have b := hb s1 us I1.kIn (by rw [List.append_nil]; exact hl)
  rw [List.append_nil] at b
  refine wpAny_call (codeAny_mono (F.run X.A X.stack s1 H1 ⟨us, []⟩ us vs Q (E σ) hr hgu I1.env0 b r q) fun r s' hq => ?_)
  cases r with
  | error e => exact hx σ pins H1 s1 e s' I1 hq
  | ok fl =>
    cases fl with
    | ret u => exact I1.after hq
    | next => exact False.elim hq
    | brk => exact False.elim hq
    | cont => exact False.elim hq
theorem je_callBNG {k : Nat} {x : Str} {p : Pos} {m : List D → List D → Option (D × List D)} {fa : Env → RE D} {f : Env → RE (List D)} (hf : FnBG X.prog X.w X.K X.mg X.base k x m) (hgu : X.A.guards = some []) (hr : Room k X.A) (hn : JN X own a fa) (ha : JAE X own es f) (hg : Gl X x := by rfl)
    (hdb : (x == ("__debug__" : Str)) = false := by decide) (he : starEach (a :: es) X.env = (false, eval a X.env) :: starEach es X.env := by rfl) (hpl : (backTo pos (starEach es X.env)).any (·.1) = false := by rfl) :
    JE X own (.Call (.Name x p) (a :: es) [] pos) (ecallBN m fa f) := ⟨fun {P F0 H0 σ F H δ W Q o} r tk hg' hP => by
  obtain ⟨fa', fd, ps, Fo, hm, hk, hb⟩ := hf.at_
  refine we_of (pe_callG Fo hgu hr hg hm hk hb (fun σ => passAt tk σ) (pa_cons pe_we pa_wa he) hdb he hpl) ?_
  rcases bindE_some hg' with ⟨y, h1, rfl⟩ | ⟨d, δ1, h1, hg'⟩
  · exact hn.run r tk h1 hP
  · refine hn.run r tk h1 fun Dd ob F1 H1 l e1 ro => ?_
    obtain ⟨⟨P', Fb, Hb, r1, c, e, n, nf⟩, nh⟩ := l
    rcases bindE_some hg' with ⟨y, h2, rfl⟩ | ⟨ds, δ2, h2, hg'⟩
    · exact ha.run (P := P') (F0 := Fb) (H0 := Hb) r1 tk h2 fun cc dd F' H' r2 e2 rx => hP cc dd F' H' (RS.back r2 c) (e1.trans e2) rx
    · refine ha.run (P := P') (F0 := Fb) (H0 := Hb) r1 tk h2 fun vs F2 H2 r2 e2 rx => ?_
      have l2 : LS X.K own P F0 H0 Dd ob F2 σ H2 δ2 := ⟨⟨P', Fb, Hb, r2, c, e, n, nf⟩, nh⟩
      cases ro with
      | dic _ => cases hg'
      | @lst ws B rr =>
        dsimp only at hg'
        simp only [Option.map_eq_some_iff] at hg'
        obtain ⟨⟨d, B'⟩, hm', rfl⟩ := hg'
        exact ⟨F2, Dd, vs, ws, B, ds, d, B', rfl, l2.rs.fh, l2.nF, l2.at, rr.mono e2, rx, hm', fun v F' H' bs' g hH' rb rd => hP v F' H' (l2.changed g) (e1.trans (e2.trans g.ff)) rd⟩⟩
end
/-- the law's promise from its mirror -/
theorem law_sp {K : Frag} {m : List D → Rs D} {H : Hp} {a : Addr} {ns : List Int} (hS : SqL K H a (ns.map V.int)) (h : m [.scr (ns.map D.int)] = some (.ok (.bl true))) : spP K m [.ref a] H (fun v _ => v = .bl true) fun _ _ _ => False := by
  have r : ∀ ns : List Int, Reps K H (ns.map V.int) (ns.map D.int) := fun ns => by
    induction ns with
    | nil => exact .nil
    | cons n ns ih => exact .cons (.int n) ih
  refine ⟨H, [.scr (ns.map D.int)], _, Ex.refl _, .cons (.scr hS (r ns)) .nil, h, fun v F' H' g rv => ?_⟩
  cases rv; rfl
theorem cx_false {P : Program} {w : World} {outer : List PySem.Env} {H : Hp} {s : Shared} {e : Value} {s' : Shared} (h : L2.CX P w outer H s (fun _ _ _ => False) e s') : False := by
  obtain ⟨_, _, _, _, _, _, _, _, _, _, _, _, z⟩ := h
  exact z
end PD
end
section
set_option maxHeartbeats 4000000
namespace Lw
open PySem L2 PD
def top (i : Nat) : Stmt := PySem.Challenge.pw_leastshare_k10_nets_or_none.main.body.getD i (.Pass ⟨0, 0, 0, 0⟩)
def k_LETTERS : D := (.str "abcdefghijklmnopqrstuvwxyz")
def k_MOST_LETTERS : D := (.int 8)
def k_PARTS : D := (.int 5)
structure Txt (K : Frag) (mg : Str → Option Value) : Prop where
  b_abs : mg "abs" = none
  b_all : mg "all" = none
  b_bool : mg "bool" = none
  b_enumerate : mg "enumerate" = none
  b_int : mg "int" = none
  b_isinstance : mg "isinstance" = none
  b_len : mg "len" = none
  b_list : mg "list" = none
  b_max : mg "max" = none
  b_range : mg "range" = none
  b_repr : mg "repr" = none
  b_set : mg "set" = none
  b_sorted : mg "sorted" = none
  b_str : mg "str" = none
  b_tuple : mg "tuple" = none
  b_zip : mg "zip" = none
  k_LETTERS : Kc K mg "LETTERS" k_LETTERS
  k_MOST_LETTERS : Kc K mg "MOST_LETTERS" k_MOST_LETTERS
  k_PARTS : Kc K mg "PARTS" k_PARTS
  f_is_number : ∃ fd, FunD K "is_number" "is_number" (defArgs (top 1)) (defBody (top 1)) (defScope (top 1)) [] [] (He.ga K "is_number") fd
  g_is_number : mg "is_number" = some (.ref (He.ga K "is_number"))
  f_is_name : ∃ fd, FunD K "is_name" "is_name" (defArgs (top 6)) (defBody (top 6)) (defScope (top 6)) [] [] (He.ga K "is_name") fd
  g_is_name : mg "is_name" = some (.ref (He.ga K "is_name"))
  f_is_tuple : ∃ fd, FunD K "is_tuple" "is_tuple" (defArgs (top 7)) (defBody (top 7)) (defScope (top 7)) [] [] (He.ga K "is_tuple") fd
  g_is_tuple : mg "is_tuple" = some (.ref (He.ga K "is_tuple"))
  f_are_ascending : ∃ fd, FunD K "are_ascending" "are_ascending" (defArgs (top 8)) (defBody (top 8)) (defScope (top 8)) [] [] (He.ga K "are_ascending") fd
  g_are_ascending : mg "are_ascending" = some (.ref (He.ga K "are_ascending"))
  f_is_line : ∃ fd, FunD K "is_line" "is_line" (defArgs (top 9)) (defBody (top 9)) (defScope (top 9)) [] [] (He.ga K "is_line") fd
  g_is_line : mg "is_line" = some (.ref (He.ga K "is_line"))
  f_is_flow : ∃ fd, FunD K "is_flow" "is_flow" (defArgs (top 10)) (defBody (top 10)) (defScope (top 10)) [] [] (He.ga K "is_flow") fd
  g_is_flow : mg "is_flow" = some (.ref (He.ga K "is_flow"))
  f_is_net : ∃ fd, FunD K "is_net" "is_net" (defArgs (top 11)) (defBody (top 11)) (defScope (top 11)) [] [] (He.ga K "is_net") fd
  g_is_net : mg "is_net" = some (.ref (He.ga K "is_net"))
  f__law_box : ∃ fd, FunD K "_law_box" "_law_box" (defArgs (top 13)) (defBody (top 13)) (defScope (top 13)) [] [] (He.ga K "_law_box") fd
  g__law_box : mg "_law_box" = some (.ref (He.ga K "_law_box"))
  f__law_take : ∃ fd, FunD K "_law_take" "_law_take" (defArgs (top 14)) (defBody (top 14)) (defScope (top 14)) [] [] (He.ga K "_law_take") fd
  g__law_take : mg "_law_take" = some (.ref (He.ga K "_law_take"))
  f__law_cells : ∃ fd, FunD K "_law_cells" "_law_cells" (defArgs (top 15)) (defBody (top 15)) (defScope (top 15)) [] [] (He.ga K "_law_cells") fd
  g__law_cells : mg "_law_cells" = some (.ref (He.ga K "_law_cells"))
  f__law_of : ∃ fd, FunD K "_law_of" "_law_of" (defArgs (top 16)) (defBody (top 16)) (defScope (top 16)) [] [] (He.ga K "_law_of") fd
  g__law_of : mg "_law_of" = some (.ref (He.ga K "_law_of"))
  f__law_lists : ∃ fd, FunD K "_law_lists" "_law_lists" (defArgs (top 17)) (defBody (top 17)) (defScope (top 17)) [] [] (He.ga K "_law_lists") fd
  g__law_lists : mg "_law_lists" = some (.ref (He.ga K "_law_lists"))
  f__law_same : ∃ fd, FunD K "_law_same" "_law_same" (defArgs (top 18)) (defBody (top 18)) (defScope (top 18)) [] [] (He.ga K "_law_same") fd
  g__law_same : mg "_law_same" = some (.ref (He.ga K "_law_same"))
  f__law_drawn_net : ∃ fd, FunD K "_law_drawn_net" "_law_drawn_net" (defArgs (top 19)) (defBody (top 19)) (defScope (top 19)) [] [] (He.ga K "_law_drawn_net") fd
  g__law_drawn_net : mg "_law_drawn_net" = some (.ref (He.ga K "_law_drawn_net"))
  f__law_bent : ∃ fd, FunD K "_law_bent" "_law_bent" (defArgs (top 20)) (defBody (top 20)) (defScope (top 20)) [] [] (He.ga K "_law_bent") fd
  g__law_bent : mg "_law_bent" = some (.ref (He.ga K "_law_bent"))
  f__law_is_nr : ∃ fd, FunD K "_law_is_nr" "_law_is_nr" (defArgs (top 21)) (defBody (top 21)) (defScope (top 21)) [] [] (He.ga K "_law_is_nr") fd
  g__law_is_nr : mg "_law_is_nr" = some (.ref (He.ga K "_law_is_nr"))
  f__law_is_word : ∃ fd, FunD K "_law_is_word" "_law_is_word" (defArgs (top 22)) (defBody (top 22)) (defScope (top 22)) [] [] (He.ga K "_law_is_word") fd
  g__law_is_word : mg "_law_is_word" = some (.ref (He.ga K "_law_is_word"))
  f__law_is_wire : ∃ fd, FunD K "_law_is_wire" "_law_is_wire" (defArgs (top 23)) (defBody (top 23)) (defScope (top 23)) [] [] (He.ga K "_law_is_wire") fd
  g__law_is_wire : mg "_law_is_wire" = some (.ref (He.ga K "_law_is_wire"))
  f__law_is_row : ∃ fd, FunD K "_law_is_row" "_law_is_row" (defArgs (top 24)) (defBody (top 24)) (defScope (top 24)) [] [] (He.ga K "_law_is_row") fd
  g__law_is_row : mg "_law_is_row" = some (.ref (He.ga K "_law_is_row"))
  f__law_is_whole : ∃ fd, FunD K "_law_is_whole" "_law_is_whole" (defArgs (top 25)) (defBody (top 25)) (defScope (top 25)) [] [] (He.ga K "_law_is_whole") fd
  g__law_is_whole : mg "_law_is_whole" = some (.ref (He.ga K "_law_is_whole"))
  f__law_by_hand : ∃ fd, FunD K "_law_by_hand" "_law_by_hand" (defArgs (top 26)) (defBody (top 26)) (defScope (top 26)) [] [] (He.ga K "_law_by_hand") fd
  g__law_by_hand : mg "_law_by_hand" = some (.ref (He.ga K "_law_by_hand"))
  f__law_right : ∃ fd, FunD K "_law_right" "_law_right" (defArgs (top 27)) (defBody (top 27)) (defScope (top 27)) [] [] (He.ga K "_law_right") fd
  g__law_right : mg "_law_right" = some (.ref (He.ga K "_law_right"))
  f_law : ∃ fd, FunD K "law" "law" (defArgs (top 28)) (defBody (top 28)) (defScope (top 28)) [] [] (He.ga K "law") fd
  g_law : mg "law" = some (.ref (He.ga K "law"))
section
variable {P : Program} {w : World} {K : Frag} {mg : Str → Option Value} {base : Heap}
abbrev s_is_number : Stmt := top 1
theorem sc_is_number : FnScope ["thing"] ["thing"] (defScope s_is_number) := ⟨rfl, rfl, rfl, by decide +kernel, rfl, by decide +kernel, by decide +kernel⟩
def d_is_number : List D → Rs D := den 1 1 (sret (lf [] (vand (visi .int (v 0)) (vnot (visi .bool (v 0))))))
theorem ok_is_number (T : Txt K mg) {fd : FuncData} (F : FunD K "is_number" "is_number" (defArgs s_is_number) (defBody s_is_number) (defScope s_is_number) [] [] (He.ga K "is_number") fd) : FnOk P w K mg base (L2.CX P w) 1 (He.ga K "is_number") fd ["thing"] (spP K d_is_number) := by
  have sc := sc_is_number
  exact fn_okB F sc (own := []) rfl rfl (fun cdv A outer s H E hr => (jb_of (js_one (js_ret (js_lift (jp_and (jp_isi .int T.b_isinstance T.b_int PyProof.Rows.boot_int (jp_v 0)) (jp_one (jp_not (jp_isi .bool T.b_isinstance T.b_bool PyProof.Rows.boot_bool (jp_v 0))))))))))
theorem fn_is_number (T : Txt K mg) : Fn P w K mg base 1 "is_number" d_is_number := by
  obtain ⟨fd, F⟩ := T.f_is_number
  exact ⟨_, fd, ["thing"], ok_is_number T F, T.g_is_number, F.kp, F.bindsN fun _ _ _ _ _ _ us hl => match us, hl with | [_], _ => rfl⟩
abbrev s_is_name : Stmt := top 6
theorem sc_is_name : FnScope ["thing", "letter"] ["thing"] (defScope s_is_name) := ⟨rfl, rfl, rfl, by decide +kernel, rfl, by decide +kernel, by decide +kernel⟩
def d_is_name : List D → Rs D := den 1 2 (sseq (sif (lf [] (tor (fun δ => bind ((tr (visi .str (v 0))) δ) fun b => ok (!b)) (fun δ => bind ((tb (chain dLe dLe (c (.int 1)) (vcallB (one dLen) (acons (v 0) anil)) (c k_MOST_LETTERS))) δ) fun b => ok (!b)))) (sret (lf [] (c (.bl false)))) snext) (sret (lf [] (vcallB (one dAll) (acons (pur (ecomp [1] (iany (lf [] (v 0))) (gn 1) tyes (lf [] (op2 dIn (v 1) (c k_LETTERS))))) anil)))))
theorem ok_is_name (T : Txt K mg) {fd : FuncData} (F : FunD K "is_name" "is_name" (defArgs s_is_name) (defBody s_is_name) (defScope s_is_name) [] [] (He.ga K "is_name") fd) : FnOk P w K mg base (L2.CX P w) 1 (He.ga K "is_name") fd ["thing"] (spP K d_is_name) := by
  have sc := sc_is_name
  exact fn_okB F sc (own := []) rfl rfl (fun cdv A outer s H E hr => (jb_cons (js_if (js_lift (jt_w (jw_or (jt_not (jt_truth (jp_isi .str T.b_isinstance T.b_str PyProof.Rows.boot_str (jp_v 0)))) (jw_or1 (jt_not (jt_lele jp_int (jp_callB b_len d_len T.b_len PySem.boot_len (ja_cons (jp_v 0) ja_nil)) (jp_k T.k_MOST_LETTERS))))))) (js_one (js_ret (js_lift jp_bl))) js_nil) (jb_of (js_one (js_ret (js_lift (jp_callB (cr_all rfl) d_all T.b_all PyProof.Rows.boot_all (ja_cons (j_of (je_lc (ow := [("letter", 1)]) rfl sc.nd (ji_any (js_lift (jp_v 0))) (blkOk_by (by kernel_rfl)) (fun _ _ _ _ _ => (jg_n 1 sc.nd)) (fun _ _ _ _ _ => jts_nil) (fun _ _ _ _ _ => (js_lift (jp_c (jc_in hr (jp_v 1) (jp_k T.k_LETTERS))))))) ja_nil))))))))
theorem fn_is_name (T : Txt K mg) : Fn P w K mg base 1 "is_name" d_is_name := by
  obtain ⟨fd, F⟩ := T.f_is_name
  exact ⟨_, fd, ["thing"], ok_is_name T F, T.g_is_name, F.kp, F.bindsN fun _ _ _ _ _ _ us hl => match us, hl with | [_], _ => rfl⟩
abbrev s_is_tuple : Stmt := top 7
theorem sc_is_tuple : FnScope ["thing", "many"] ["thing", "many"] (defScope s_is_tuple) := ⟨rfl, rfl, rfl, by decide +kernel, rfl, by decide +kernel, by decide +kernel⟩
def d_is_tuple : List D → Rs D := den 2 2 (sret (lf [] (vand (visi .tuple (v 0)) (op2 dEq (vcallB (one dLen) (acons (v 0) anil)) (v 1)))))
theorem ok_is_tuple (T : Txt K mg) {fd : FuncData} (F : FunD K "is_tuple" "is_tuple" (defArgs s_is_tuple) (defBody s_is_tuple) (defScope s_is_tuple) [] [] (He.ga K "is_tuple") fd) : FnOk P w K mg base (L2.CX P w) 1 (He.ga K "is_tuple") fd ["thing", "many"] (spP K d_is_tuple) := by
  have sc := sc_is_tuple
  exact fn_okB F sc (own := []) rfl rfl (fun cdv A outer s H E hr => (jb_of (js_one (js_ret (js_lift (jp_and (jp_isi .tuple T.b_isinstance T.b_tuple PyProof.Rows.boot_tuple (jp_v 0)) (jp_one (jp_eq hr (jp_callB b_len d_len T.b_len PySem.boot_len (ja_cons (jp_v 0) ja_nil)) (jp_v 1)))))))))
theorem fn_is_tuple (T : Txt K mg) : Fn P w K mg base 1 "is_tuple" d_is_tuple := by
  obtain ⟨fd, F⟩ := T.f_is_tuple
  exact ⟨_, fd, ["thing", "many"], ok_is_tuple T F, T.g_is_tuple, F.kp, F.bindsN fun _ _ _ _ _ _ us hl => match us, hl with | [_, _], _ => rfl⟩
abbrev s_are_ascending : Stmt := top 8
theorem sc_are_ascending : FnScope ["names"] ["names"] (defScope s_are_ascending) := ⟨rfl, rfl, rfl, by decide +kernel, rfl, by decide +kernel, by decide +kernel⟩
def d_are_ascending : List D → Rs D := den 1 1 (sret (lf [] (op2 dEq (vcallB (one dList) (acons (v 0) anil)) (vsset (v 0)))))
theorem ok_are_ascending (T : Txt K mg) {fd : FuncData} (F : FunD K "are_ascending" "are_ascending" (defArgs s_are_ascending) (defBody s_are_ascending) (defScope s_are_ascending) [] [] (He.ga K "are_ascending") fd) : FnOk P w K mg base (L2.CX P w) 1 (He.ga K "are_ascending") fd ["names"] (spP K d_are_ascending) := by
  have sc := sc_are_ascending
  exact fn_okB F sc (own := []) rfl rfl (fun cdv A outer s H E hr => (jb_of (js_one (js_ret (js_lift (jp_eq hr (jp_callTy (b_list rfl) d_list T.b_list PyProof.Rows.boot_list (ja_cons (jp_v 0) ja_nil)) (jp_sset (hu70 hr) T.b_sorted T.b_set (jp_v 0))))))))
theorem fn_are_ascending (T : Txt K mg) : Fn P w K mg base 1 "are_ascending" d_are_ascending := by
  obtain ⟨fd, F⟩ := T.f_are_ascending
  exact ⟨_, fd, ["names"], ok_are_ascending T F, T.g_are_ascending, F.kp, F.bindsN fun _ _ _ _ _ _ us hl => match us, hl with | [_], _ => rfl⟩
abbrev s_is_line : Stmt := top 9
theorem sc_is_line : FnScope ["thing"] ["thing"] (defScope s_is_line) := ⟨rfl, rfl, rfl, by decide +kernel, rfl, by decide +kernel, by decide +kernel⟩
def d_is_line : List D → Rs D := den 1 1 (sret (lf [] (vand (vcall d_is_tuple (acons (v 0) (acons (c (.int 2)) anil))) (vand (vcall d_is_name (acons (op2 dIx (v 0) (c (.int 0))) anil)) (vand (vcall d_is_number (acons (op2 dIx (v 0) (c (.int 1))) anil)) (op2 dGe (op2 dIx (v 0) (c (.int 1))) (c (.int 1))))))))
theorem ok_is_line (T : Txt K mg) {fd : FuncData} (F : FunD K "is_line" "is_line" (defArgs s_is_line) (defBody s_is_line) (defScope s_is_line) [] [] (He.ga K "is_line") fd) : FnOk P w K mg base (L2.CX P w) 2 (He.ga K "is_line") fd ["thing"] (spP K d_is_line) := by
  have sc := sc_is_line
  exact fn_okB F sc (own := []) rfl rfl (fun cdv A outer s H E hr => (jb_of (js_one (js_ret (js_lift (jp_and (jp_call (fn_is_tuple T) (hr.mono (by omega)) (ja_cons (jp_v 0) (ja_cons jp_int ja_nil))) (jp_and (jp_call (fn_is_name T) (hr.mono (by omega)) (ja_cons (jp_ix hr (jp_v 0) jp_int) ja_nil)) (jp_and (jp_call (fn_is_number T) (hr.mono (by omega)) (ja_cons (jp_ix hr (jp_v 0) jp_int) ja_nil)) (jp_one (jp_ge (jp_ix hr (jp_v 0) jp_int) jp_int))))))))))
theorem fn_is_line (T : Txt K mg) : Fn P w K mg base 2 "is_line" d_is_line := by
  obtain ⟨fd, F⟩ := T.f_is_line
  exact ⟨_, fd, ["thing"], ok_is_line T F, T.g_is_line, F.kp, F.bindsN fun _ _ _ _ _ _ us hl => match us, hl with | [_], _ => rfl⟩
abbrev s_is_flow : Stmt := top 10
theorem sc_is_flow : FnScope ["thing", "weight", "bottom", "top", "name"] ["thing"] (defScope s_is_flow) := ⟨rfl, rfl, rfl, by decide +kernel, rfl, by decide +kernel, by decide +kernel⟩
def d_is_flow : List D → Rs D := den 1 5 (sseq (sif (lf [] (tor (fun δ => bind ((tr (vcall d_is_tuple (acons (v 0) (acons (c k_PARTS) anil)))) δ) fun b => ok (!b)) (tor (fun δ => bind ((tr (vcall d_is_name (acons (op2 dIx (v 0) (c (.int 0))) anil))) δ) fun b => ok (!b)) (tor (fun δ => bind ((tr (visi .tuple (op2 dIx (v 0) (c (.int 1))))) δ) fun b => ok (!b)) (tb (op2 dEq (vcallB (one dLen) (acons (op2 dIx (v 0) (c (.int 1))) anil)) (c (.int 0)))))))) (sret (lf [] (c (.bl false)))) snext) (sseq (sif (lf [] (tor (fun δ => bind ((tr (vcallB (one dAll) (acons (pur (ecomp [4] (iany (lf [] (op2 dIx (v 0) (c (.int 1))))) (gn 4) tyes (lf [] (vcall d_is_name (acons (v 4) anil))))) anil))) δ) fun b => ok (!b)) (fun δ => bind ((tr (vcall d_are_ascending (acons (op2 dIx (v 0) (c (.int 1))) anil))) δ) fun b => ok (!b)))) (sret (lf [] (c (.bl false)))) snext) (sseq (sasg (gt (gscons (gn 1) (gscons (gn 2) (gscons (gn 3) gsnil)))) (lf [] (vsl (v 0) (osome (c (.int 2))) onone))) (sseq (sif (lf [] (tor (fun δ => bind ((tr (vcall d_is_number (acons (v 1) anil))) δ) fun b => ok (!b)) (tor (fun δ => bind ((tr (vcall d_is_number (acons (v 2) anil))) δ) fun b => ok (!b)) (tor (tb (op2 dLt (v 1) (c (.int 1)))) (tb (op2 dLt (v 2) (c (.int 0)))))))) (sret (lf [] (c (.bl false)))) snext) (sret (lf [] (vor (vis (v 3)) (vand (vcall d_is_number (acons (v 3) anil)) (op2 dGe (v 3) (vcallB (two dMax2) (acons (c (.int 1)) (acons (v 2) anil))))))))))))
theorem ok_is_flow (T : Txt K mg) {fd : FuncData} (F : FunD K "is_flow" "is_flow" (defArgs s_is_flow) (defBody s_is_flow) (defScope s_is_flow) [] [] (He.ga K "is_flow") fd) : FnOk P w K mg base (L2.CX P w) 2 (He.ga K "is_flow") fd ["thing"] (spP K d_is_flow) := by
  have sc := sc_is_flow
  exact fn_okB F sc (own := []) rfl rfl (fun cdv A outer s H E hr => (jb_cons (js_if (js_lift (jt_w (jw_or (jt_not (jt_truth (jp_call (fn_is_tuple T) (hr.mono (by omega)) (ja_cons (jp_v 0) (ja_cons (jp_k T.k_PARTS) ja_nil))))) (jw_or (jt_not (jt_truth (jp_call (fn_is_name T) (hr.mono (by omega)) (ja_cons (jp_ix hr (jp_v 0) jp_int) ja_nil)))) (jw_or (jt_not (jt_truth (jp_isi .tuple T.b_isinstance T.b_tuple PyProof.Rows.boot_tuple (jp_ix hr (jp_v 0) jp_int)))) (jw_or1 (jt_eq hr (jp_callB b_len d_len T.b_len PySem.boot_len (ja_cons (jp_ix hr (jp_v 0) jp_int) ja_nil)) jp_int))))))) (js_one (js_ret (js_lift jp_bl))) js_nil) (jb_cons (js_if (js_lift (jt_w (jw_or (jt_not (jt_truth (jp_callB (cr_all rfl) d_all T.b_all PyProof.Rows.boot_all (ja_cons (j_of (je_lc (ow := [("name", 4)]) rfl sc.nd (ji_any (js_lift (jp_ix hr (jp_v 0) jp_int))) (blkOk_by (by kernel_rfl)) (fun _ _ _ _ _ => (jg_n 4 sc.nd)) (fun _ _ _ _ _ => jts_nil) (fun _ _ _ _ _ => (js_lift (jp_call (fn_is_name T) (hr.mono (by omega)) (ja_cons (jp_v 4) ja_nil)))))) ja_nil)))) (jw_or1 (jt_not (jt_truth (jp_call (fn_are_ascending T) (hr.mono (by omega)) (ja_cons (jp_ix hr (jp_v 0) jp_int) ja_nil)))))))) (js_one (js_ret (js_lift jp_bl))) js_nil) (jb_cons (js_asg (jg_t rfl (jgs_cons (jg_n 1 sc.nd) (jgs_cons (jg_n 2 sc.nd) (jgs_cons (jg_n 3 sc.nd) jgs_nil))) (gl_cons (gl_cons (gl_cons gl_nil)))) (js_lift (jp_sl (jp_v 0) (jo_some jp_int) jo_none))) (jb_cons (js_if (js_lift (jt_w (jw_or (jt_not (jt_truth (jp_call (fn_is_number T) (hr.mono (by omega)) (ja_cons (jp_v 1) ja_nil)))) (jw_or (jt_not (jt_truth (jp_call (fn_is_number T) (hr.mono (by omega)) (ja_cons (jp_v 2) ja_nil)))) (jw_or (jt_lt (jp_v 1) jp_int) (jw_or1 (jt_lt (jp_v 2) jp_int))))))) (js_one (js_ret (js_lift jp_bl))) js_nil) (jb_of (js_one (js_ret (js_lift (jp_or (jp_is (jp_v 3)) (jp_one (jp_and (jp_call (fn_is_number T) (hr.mono (by omega)) (ja_cons (jp_v 3) ja_nil)) (jp_one (jp_ge (jp_v 3) (jp_callB (call_max2 rfl) d_max2 T.b_max PyProof.Rows.boot_max (ja_cons jp_int (ja_cons (jp_v 2) ja_nil)))))))))))))))))
theorem fn_is_flow (T : Txt K mg) : Fn P w K mg base 2 "is_flow" d_is_flow := by
  obtain ⟨fd, F⟩ := T.f_is_flow
  exact ⟨_, fd, ["thing"], ok_is_flow T F, T.g_is_flow, F.kp, F.bindsN fun _ _ _ _ _ _ us hl => match us, hl with | [_], _ => rfl⟩
abbrev s_is_net : Stmt := top 11
theorem sc_is_net : FnScope ["thing", "lines", "names", "row", "name", "part"] ["thing"] (defScope s_is_net) := ⟨rfl, rfl, rfl, by decide +kernel, rfl, by decide +kernel, by decide +kernel⟩
def d_is_net : List D → Rs D := den 1 6 (sseq (sif (lf [] (tor (fun δ => bind ((tr (vcall d_is_tuple (acons (v 0) (acons (c (.int 2)) anil)))) δ) fun b => ok (!b)) (fun δ => bind ((tr (vcallB (one dAll) (acons (pur (ecomp [5] (iany (lf [] (v 0))) (gn 5) tyes (lf [] (vand (visi .tuple (v 5)) (op2 dGt (vcallB (one dLen) (acons (v 5) anil)) (c (.int 0))))))) anil))) δ) fun b => ok (!b)))) (sret (lf [] (c (.bl false)))) snext) (sseq (sif (lf [] (tor (fun δ => bind ((tr (vcallB (one dAll) (acons (pur (ecomp [3] (iany (lf [] (op2 dIx (v 0) (c (.int 0))))) (gn 3) tyes (lf [] (vcall d_is_line (acons (v 3) anil))))) anil))) δ) fun b => ok (!b)) (fun δ => bind ((tr (vcallB (one dAll) (acons (pur (ecomp [3] (iany (lf [] (op2 dIx (v 0) (c (.int 1))))) (gn 3) tyes (lf [] (vcall d_is_flow (acons (v 3) anil))))) anil))) δ) fun b => ok (!b)))) (sret (lf [] (c (.bl false)))) snext) (sseq (sasg (gt (gscons (gn 1) (gscons (gn 2) gsnil))) (lf [] (vtup (acons (pur (ecomp [3] (iany (lf [] (op2 dIx (v 0) (c (.int 0))))) (gn 3) tyes (lf [] (op2 dIx (v 3) (c (.int 0)))))) (acons (pur (ecomp [3] (iany (lf [] (op2 dIx (v 0) (c (.int 1))))) (gn 3) tyes (lf [] (op2 dIx (v 3) (c (.int 0)))))) anil))))) (sseq (sif (lf [] (tor (fun δ => bind ((tr (vcall d_are_ascending (acons (v 1) anil))) δ) fun b => ok (!b)) (fun δ => bind ((tr (vcall d_are_ascending (acons (v 2) anil))) δ) fun b => ok (!b)))) (sret (lf [] (c (.bl false)))) snext) (sret (lf [] (vcallB (one dAll) (acons (pur (ecomp2 [3, 4] [4] (iany (lf [] (op2 dIx (v 0) (c (.int 1))))) (gn 3) tyes (iany (lf [] (op2 dIx (v 3) (c (.int 1))))) (gn 4) tyes (lf [] (op2 dIn (v 4) (v 1))))) anil))))))))
theorem ok_is_net (T : Txt K mg) {fd : FuncData} (F : FunD K "is_net" "is_net" (defArgs s_is_net) (defBody s_is_net) (defScope s_is_net) [] [] (He.ga K "is_net") fd) : FnOk P w K mg base (L2.CX P w) 3 (He.ga K "is_net") fd ["thing"] (spP K d_is_net) := by
  have sc := sc_is_net
  exact fn_okB F sc (own := []) rfl rfl (fun cdv A outer s H E hr => (jb_cons (js_if (js_lift (jt_w (jw_or (jt_not (jt_truth (jp_call (fn_is_tuple T) (hr.mono (by omega)) (ja_cons (jp_v 0) (ja_cons jp_int ja_nil))))) (jw_or1 (jt_not (jt_truth (jp_callB (cr_all rfl) d_all T.b_all PyProof.Rows.boot_all (ja_cons (j_of (je_lc (ow := [("part", 5)]) rfl sc.nd (ji_any (js_lift (jp_v 0))) (blkOk_by (by kernel_rfl)) (fun _ _ _ _ _ => (jg_n 5 sc.nd)) (fun _ _ _ _ _ => jts_nil) (fun _ _ _ _ _ => (js_lift (jp_and (jp_isi .tuple T.b_isinstance T.b_tuple PyProof.Rows.boot_tuple (jp_v 5)) (jp_one (jp_gt (jp_callB b_len d_len T.b_len PySem.boot_len (ja_cons (jp_v 5) ja_nil)) jp_int))))))) ja_nil)))))))) (js_one (js_ret (js_lift jp_bl))) js_nil) (jb_cons (js_if (js_lift (jt_w (jw_or (jt_not (jt_truth (jp_callB (cr_all rfl) d_all T.b_all PyProof.Rows.boot_all (ja_cons (j_of (je_lc (ow := [("row", 3)]) rfl sc.nd (ji_any (js_lift (jp_ix hr (jp_v 0) jp_int))) (blkOk_by (by kernel_rfl)) (fun _ _ _ _ _ => (jg_n 3 sc.nd)) (fun _ _ _ _ _ => jts_nil) (fun _ _ _ _ _ => (js_lift (jp_call (fn_is_line T) (hr.mono (by omega)) (ja_cons (jp_v 3) ja_nil)))))) ja_nil)))) (jw_or1 (jt_not (jt_truth (jp_callB (cr_all rfl) d_all T.b_all PyProof.Rows.boot_all (ja_cons (j_of (je_lc (ow := [("row", 3)]) rfl sc.nd (ji_any (js_lift (jp_ix hr (jp_v 0) jp_int))) (blkOk_by (by kernel_rfl)) (fun _ _ _ _ _ => (jg_n 3 sc.nd)) (fun _ _ _ _ _ => jts_nil) (fun _ _ _ _ _ => (js_lift (jp_call (fn_is_flow T) (hr.mono (by omega)) (ja_cons (jp_v 3) ja_nil)))))) ja_nil)))))))) (js_one (js_ret (js_lift jp_bl))) js_nil) (jb_cons (js_asg (jg_t rfl (jgs_cons (jg_n 1 sc.nd) (jgs_cons (jg_n 2 sc.nd) jgs_nil)) (gl_cons (gl_cons gl_nil))) (js_lift (jp_tup (ja_cons (j_of (je_lc (ow := [("row", 3)]) rfl sc.nd (ji_any (js_lift (jp_ix hr (jp_v 0) jp_int))) (blkOk_by (by kernel_rfl)) (fun _ _ _ _ _ => (jg_n 3 sc.nd)) (fun _ _ _ _ _ => jts_nil) (fun _ _ _ _ _ => (js_lift (jp_ix hr (jp_v 3) jp_int))))) (ja_cons (j_of (je_lc (ow := [("row", 3)]) rfl sc.nd (ji_any (js_lift (jp_ix hr (jp_v 0) jp_int))) (blkOk_by (by kernel_rfl)) (fun _ _ _ _ _ => (jg_n 3 sc.nd)) (fun _ _ _ _ _ => jts_nil) (fun _ _ _ _ _ => (js_lift (jp_ix hr (jp_v 3) jp_int))))) ja_nil))))) (jb_cons (js_if (js_lift (jt_w (jw_or (jt_not (jt_truth (jp_call (fn_are_ascending T) (hr.mono (by omega)) (ja_cons (jp_v 1) ja_nil)))) (jw_or1 (jt_not (jt_truth (jp_call (fn_are_ascending T) (hr.mono (by omega)) (ja_cons (jp_v 2) ja_nil)))))))) (js_one (js_ret (js_lift jp_bl))) js_nil) (jb_of (js_one (js_ret (js_lift (jp_callB (cr_all rfl) d_all T.b_all PyProof.Rows.boot_all (ja_cons (j_of (je_n (jn_lc2 (ow := [("row", 3), ("name", 4)]) [4] rfl sc.nd (ji_any (js_lift (jp_ix hr (jp_v 0) jp_int))) (blkOk_by (by kernel_rfl)) (fun _ _ _ _ _ => (jg_n 3 sc.nd)) (fun _ _ _ _ _ => jts_nil) (fun _ _ _ _ _ => (ji_any (js_lift (jp_ix hr (jp_v 3) jp_int)))) (fun _ _ _ _ _ => (jg_n 4 sc.nd)) (fun _ _ _ _ _ => jts_nil) (fun _ _ _ _ _ => (js_lift (jp_c (jc_in hr (jp_v 4) (jp_v 1)))))))) ja_nil)))))))))))
theorem fn_is_net (T : Txt K mg) : Fn P w K mg base 3 "is_net" d_is_net := by
  obtain ⟨fd, F⟩ := T.f_is_net
  exact ⟨_, fd, ["thing"], ok_is_net T F, T.g_is_net, F.kp, F.bindsN fun _ _ _ _ _ _ us hl => match us, hl with | [_], _ => rfl⟩
abbrev s__law_box : Stmt := top 13
theorem sc__law_box : FnScope ["_law_script", "_law_k", "_law_cell"] ["_law_script", "_law_k"] (defScope s__law_box) := ⟨rfl, rfl, rfl, by decide +kernel, rfl, by decide +kernel, by decide +kernel⟩
def d__law_box : List D → Rs D := denN 2 3 (rseq (sset 2 (lf [] (vif (tb (op2 dLt (v 1) (vcallB (one dLen) (acons (v 0) anil)))) (op2 dIx (v 0) (v 1)) (c (.int 0))))) (elst (lf [] (acons (op2 dMul (vcallB (one dAbs) (acons (v 2) anil)) (vcallB (one dInt) (acons (op2 dGe (vcallB (one dAbs) (acons (v 2) anil)) (op2 dPow (c (.int 10)) (c (.int 18)))) anil))) (acons (op2 dAdd (op2 dAdd (op2 dMod (vcallB (one dInt) (acons (v 2) anil)) (c (.int 2305843009213693951))) (op2 dMul (c (.int 39373)) (v 1))) (c (.int 131))) (acons (c (.int 0)) anil))))))
theorem ok__law_box (T : Txt K mg) {fd : FuncData} (F : FunD K "_law_box" "_law_box" (defArgs s__law_box) (defBody s__law_box) (defScope s__law_box) [] [] (He.ga K "_law_box") fd) : FnOk P w K mg base (L2.CX P w) 1 (He.ga K "_law_box") fd ["_law_script", "_law_k"] (spN K d__law_box) := by
  have sc := sc__law_box
  exact fnN_ok F sc (own := []) rfl rfl (fun cdv A outer s H E hr => (jr_cons (js_set 2 sc.nd (js_lift (jp_if (jt_lt (jp_v 1) (jp_callB b_len d_len T.b_len PySem.boot_len (ja_cons (jp_v 0) ja_nil))) (jp_ix hr (jp_v 0) (jp_v 1)) jp_int))) (jr_ret (jn_lst (js_lift (ja_cons (jp_mul (jp_callB call_abs d_abs T.b_abs PyProof.Rows.boot_abs (ja_cons (jp_v 2) ja_nil)) (jp_callTy b_int d_int T.b_int PyProof.Rows.boot_int (ja_cons (jp_ge (jp_callB call_abs d_abs T.b_abs PyProof.Rows.boot_abs (ja_cons (jp_v 2) ja_nil)) (jp_pow jp_int jp_int)) ja_nil))) (ja_cons (jp_add (jp_add (jp_mod (jp_callTy b_int d_int T.b_int PyProof.Rows.boot_int (ja_cons (jp_v 2) ja_nil)) jp_int) (jp_mul jp_int (jp_v 1))) jp_int) (ja_cons jp_int ja_nil))))))))
theorem fn__law_box (T : Txt K mg) : FnN P w K mg base 1 "_law_box" d__law_box := by
  obtain ⟨fd, F⟩ := T.f__law_box
  exact ⟨_, fd, ["_law_script", "_law_k"], ok__law_box T F, T.g__law_box, F.kp, F.bindsN fun _ _ _ _ _ _ us hl => match us, hl with | [_, _], _ => rfl⟩
abbrev s__law_take : Stmt := top 14
theorem sc__law_take : FnScope ["_law_box_here", "_law_below", "_law_drawn", "_law_once", "_law_far", "_law_twice"] ["_law_box_here", "_law_below"] (defScope s__law_take) := ⟨rfl, rfl, rfl, by decide +kernel, rfl, by decide +kernel, by decide +kernel⟩
def d__law_take : List D → List D → Option (D × List D) := denB 2 6 (sseq (sif (lfT (tb (op2 dGt (op2 dIx (v 0) (c (.int 0))) (c (.int 0))))) (sseq (sset 2 (lfo (op2 dMod (vcallB (one dInt) (acons (op2 dIx (v 0) (c (.int 0))) anil)) (v 1)))) (sseq (sixset 0 (lf [0] (c (.int 0))) (lfo (op2 dFdiv (op2 dIx (v 0) (c (.int 0))) (v 1)))) (sret (lf [0] (v 2))))) snext) (sseq (sixset 0 (lf [0] (c (.int 2))) (lfo (op2 dAdd (op2 dIx (v 0) (c (.int 2))) (c (.int 1))))) (sseq (sset 3 (lfo (op2 dMod (vcallB (one dInt) (acons (op2 dMul (op2 dAdd (op2 dIx (v 0) (c (.int 1))) (op2 dMul (c (.int 48271)) (op2 dIx (v 0) (c (.int 2))))) (op2 dAdd (c (.int 39373)) (op2 dIx (v 0) (c (.int 2))))) anil)) (c (.int 2147483647))))) (sseq (sset 4 (lf [0] (op2 dAdd (op2 dMod (vcallB (one dInt) (acons (v 3) anil)) (c (.int 40009))) (c (.int 7))))) (sseq (sset 5 (lfo (op2 dMod (vcallB (one dInt) (acons (op2 dMul (op2 dAdd (op2 dAdd (v 3) (op2 dIx (v 0) (c (.int 2)))) (op2 dFdiv (op2 dIx (v 0) (c (.int 1))) (c (.int 1000003)))) (v 4)) anil)) (c (.int 2147483629))))) (sret (lf [0] (op2 dMod (vcallB (one dInt) (acons (op2 dFdiv (op2 dMod (vcallB (one dInt) (acons (op2 dAdd (op2 dMul (v 5) (c (.int 48271))) (v 3)) anil)) (c (.int 2147483587))) (c (.int 64))) anil)) (v 1)))))))))
theorem ok__law_take (T : Txt K mg) {fd : FuncData} (F : FunD K "_law_take" "_law_take" (defArgs s__law_take) (defBody s__law_take) (defScope s__law_take) [] [] (He.ga K "_law_take") fd) : FnOk P w K mg base (L2.CX P w) 1 (He.ga K "_law_take") fd ["_law_box_here", "_law_below"] (spB K d__law_take) := by
  have sc := sc__law_take
  exact fnB_okB F sc (own := [0]) rfl rfl rfl (fun cdv A outer s H E hr => (jb_cons (js_if (jte_o (jt_gt (jp_ix hr (jp_v 0) jp_int) jp_int)) (js_cons (js_set 2 sc.nd (je_o (jp_mod (jp_callTy b_int d_int T.b_int PyProof.Rows.boot_int (ja_cons (jp_ix hr (jp_v 0) jp_int) ja_nil)) (jp_v 1)))) (js_cons (js_ixset 0 (je_o (jp_fdiv (jp_ix hr (jp_v 0) jp_int) (jp_v 1))) (js_lift jp_int)) (js_one (js_ret (js_lift (jp_v 2)))))) js_nil) (jb_cons (js_ixset 0 (je_o (jp_add (jp_ix hr (jp_v 0) jp_int) jp_int)) (js_lift jp_int)) (jb_cons (js_set 3 sc.nd (je_o (jp_mod (jp_callTy b_int d_int T.b_int PyProof.Rows.boot_int (ja_cons (jp_mul (jp_add (jp_ix hr (jp_v 0) jp_int) (jp_mul jp_int (jp_ix hr (jp_v 0) jp_int))) (jp_add jp_int (jp_ix hr (jp_v 0) jp_int))) ja_nil)) jp_int))) (jb_cons (js_set 4 sc.nd (js_lift (jp_add (jp_mod (jp_callTy b_int d_int T.b_int PyProof.Rows.boot_int (ja_cons (jp_v 3) ja_nil)) jp_int) jp_int))) (jb_cons (js_set 5 sc.nd (je_o (jp_mod (jp_callTy b_int d_int T.b_int PyProof.Rows.boot_int (ja_cons (jp_mul (jp_add (jp_add (jp_v 3) (jp_ix hr (jp_v 0) jp_int)) (jp_fdiv (jp_ix hr (jp_v 0) jp_int) jp_int)) (jp_v 4)) ja_nil)) jp_int))) (jb_of (js_one (js_ret (js_lift (jp_mod (jp_callTy b_int d_int T.b_int PyProof.Rows.boot_int (ja_cons (jp_fdiv (jp_mod (jp_callTy b_int d_int T.b_int PyProof.Rows.boot_int (ja_cons (jp_add (jp_mul (jp_v 5) jp_int) (jp_v 3)) ja_nil)) jp_int) jp_int) ja_nil)) (jp_v 1))))))))))))
theorem fn__law_take (T : Txt K mg) : FnB P w K mg base 1 "_law_take" d__law_take := by
  obtain ⟨fd, F⟩ := T.f__law_take
  exact ⟨_, fd, ["_law_box_here", "_law_below"], ok__law_take T F, T.g__law_take, F.kp, F.bindsN fun _ _ _ _ _ _ us hl => match us, hl with | [_, _], _ => rfl⟩
abbrev s__law_cells : Stmt := top 15
theorem sc__law_cells : FnScope ["_law_script", "_law_most", "_law_cells_here", "_law_k", "_law_cell", "_law_at_so"] ["_law_script", "_law_most"] (defScope s__law_cells) := ⟨rfl, rfl, rfl, by decide +kernel, rfl, by decide +kernel, by decide +kernel⟩
def d__law_cells : List D → Rs D := den 2 6 (sseq (sset 2 (enor (ecallG (one dList) (lf [2] (acons (vsl (v 0) onone (osome (v 1))) anil))) (elst (lf [2] (acons (c (.int 0)) anil))))) (sseq (sforI (ienum (lf [2] (vsl (v 0) (osome (v 1)) (osome (c (.int 63)))))) (gt (gscons (gn 3) (gscons (gn 4) gsnil))) (sseq (sset 5 (lf [2] (op2 dMod (vcallB (one dInt) (acons (v 3) anil)) (v 1)))) (sixset 2 (lf [2] (v 5)) (lfo (op2 dAdd (op2 dIx (v 2) (v 5)) (op2 dMul (v 4) (op2 dAdd (v 3) (c (.int 2))))))))) (sfrz [2] (sret (lf [] (v 2))))))
theorem ok__law_cells (T : Txt K mg) {fd : FuncData} (F : FunD K "_law_cells" "_law_cells" (defArgs s__law_cells) (defBody s__law_cells) (defScope s__law_cells) [] [] (He.ga K "_law_cells") fd) : FnOk P w K mg base (L2.CX P w) 1 (He.ga K "_law_cells") fd ["_law_script", "_law_most"] (spP K d__law_cells) := by
  have sc := sc__law_cells
  exact fn_okB F sc (own := [2]) rfl rfl (fun cdv A outer s H E hr => (jb_cons (js_setN 2 sc.nd (jn_or (jn_ty (b_list rfl) n_list T.b_list PyProof.Rows.boot_list (js_lift (ja_cons (jp_sl (jp_v 0) jo_none (jo_some (jp_v 1))) ja_nil))) (jn_lst (js_lift (ja_cons jp_int ja_nil))))) (jb_cons (js_for (passes_of rfl) rfl (ji_enum T.b_enumerate (js_lift (jp_sl (jp_v 0) (jo_some (jp_v 1)) (jo_some jp_int)))) (jg_t rfl (jgs_cons (jg_n 3 sc.nd) (jgs_cons (jg_n 4 sc.nd) jgs_nil)) (gl_cons (gl_cons gl_nil))) (js_cons (js_set 5 sc.nd (js_lift (jp_mod (jp_callTy b_int d_int T.b_int PyProof.Rows.boot_int (ja_cons (jp_v 3) ja_nil)) (jp_v 1)))) (js_one (js_ixset 2 (je_o (jp_add (jp_ix hr (jp_v 2) (jp_v 5)) (jp_mul (jp_v 4) (jp_add (jp_v 3) jp_int)))) (js_lift (jp_v 5)))))) (jb_frz (own := [2]) 2 (jb_of (js_one (js_ret (js_lift (jp_v 2)))))))))
theorem fn__law_cells (T : Txt K mg) : Fn P w K mg base 1 "_law_cells" d__law_cells := by
  obtain ⟨fd, F⟩ := T.f__law_cells
  exact ⟨_, fd, ["_law_script", "_law_most"], ok__law_cells T F, T.g__law_cells, F.kp, F.bindsN fun _ _ _ _ _ _ us hl => match us, hl with | [_, _], _ => rfl⟩
abbrev s__law_of : Stmt := top 16
theorem sc__law_of : FnScope ["_law_box_here", "_law_some"] ["_law_box_here", "_law_some"] (defScope s__law_of) := ⟨rfl, rfl, rfl, by decide +kernel, rfl, by decide +kernel, by decide +kernel⟩
def d__law_of : List D → List D → Option (D × List D) := denB 2 2 (sret (eop2 dIx (lf [0] (v 1)) (ecallB d__law_take 0 (lf [0] (acons (vcallB (one dLen) (acons (v 1) anil)) anil)))))
theorem ok__law_of (T : Txt K mg) {fd : FuncData} (F : FunD K "_law_of" "_law_of" (defArgs s__law_of) (defBody s__law_of) (defScope s__law_of) [] [] (He.ga K "_law_of") fd) : FnOk P w K mg base (L2.CX P w) 2 (He.ga K "_law_of") fd ["_law_box_here", "_law_some"] (spB K d__law_of) := by
  have sc := sc__law_of
  exact fnB_okB F sc (own := [0]) rfl rfl rfl (fun cdv A outer s H E hr => (jb_of (js_one (js_ret (je_ix hr (js_lift (jp_v 1)) (je_callB 0 (fn__law_take T) (hr.mono (by omega)) (js_lift (ja_cons (jp_callB b_len d_len T.b_len PySem.boot_len (ja_cons (jp_v 1) ja_nil)) ja_nil))))))))
theorem fn__law_of (T : Txt K mg) : FnB P w K mg base 2 "_law_of" d__law_of := by
  obtain ⟨fd, F⟩ := T.f__law_of
  exact ⟨_, fd, ["_law_box_here", "_law_some"], ok__law_of T F, T.g__law_of, F.kp, F.bindsN fun _ _ _ _ _ _ us hl => match us, hl with | [_, _], _ => rfl⟩
abbrev s__law_lists : Stmt := top 17
theorem sc__law_lists : FnScope ["_law_matter", "_law_bit"] ["_law_matter"] (defScope s__law_lists) := ⟨rfl, rfl, rfl, by decide +kernel, rfl, by decide +kernel, by decide +kernel⟩
def d__law_lists : Nat → List D → Rs D
  | 0 => fun _ => none
  | n + 1 => den 1 2 (sret (lf [] (vif (tr (visi2 .list .tuple (v 0))) (pur (ecomp [1] (iany (lf [] (v 0))) (gn 1) tyes (lf [] (vcall (d__law_lists n) (acons (v 1) anil))))) (v 0))))
theorem ok__law_lists (T : Txt K mg) {fd : FuncData} (F : FunD K "_law_lists" "_law_lists" (defArgs s__law_lists) (defBody s__law_lists) (defScope s__law_lists) [] [] (He.ga K "_law_lists") fd) : ∀ n, FnOk P w K mg base (L2.CX P w) (1 + n) (He.ga K "_law_lists") fd ["_law_matter"] (spP K (d__law_lists n))
  | 0 => fn_none F sc__law_lists
  | n + 1 => by
    have sc := sc__law_lists
    have ih : Fn P w K mg base (1 + n) "_law_lists" (d__law_lists n) := ⟨_, fd, ["_law_matter"], ok__law_lists T F n, T.g__law_lists, F.kp, F.bindsN fun _ _ _ _ _ _ us hl => match us, hl with | [_], _ => rfl⟩
    exact fn_okB (k := 1 + n) F sc (own := []) rfl rfl (fun cdv A outer s H E hr => (jb_of (js_one (js_ret (js_lift (jp_if (jt_truth (jp_isi2 .list .tuple T.b_isinstance T.b_list PyProof.Rows.boot_list T.b_tuple PyProof.Rows.boot_tuple (jp_v 0))) (j_of (je_lc (ow := [("_law_bit", 1)]) rfl sc.nd (ji_any (js_lift (jp_v 0))) (blkOk_by (by kernel_rfl)) (fun _ _ _ _ _ => (jg_n 1 sc.nd)) (fun _ _ _ _ _ => jts_nil) (fun _ _ _ _ _ => (js_lift (jp_call ih (hr.mono (by omega)) (ja_cons (jp_v 1) ja_nil)))))) (jp_v 0)))))))
theorem fn__law_lists (T : Txt K mg) (n : Nat) : Fn P w K mg base (1 + n) "_law_lists" (d__law_lists n) := by
  obtain ⟨fd, F⟩ := T.f__law_lists
  exact ⟨_, fd, ["_law_matter"], ok__law_lists T F n, T.g__law_lists, F.kp, F.bindsN fun _ _ _ _ _ _ us hl => match us, hl with | [_], _ => rfl⟩
abbrev s__law_same : Stmt := top 18
theorem sc__law_same : FnScope ["_law_found", "_law_due", "_law_mine", "_law_its"] ["_law_found", "_law_due"] (defScope s__law_same) := ⟨rfl, rfl, rfl, by decide +kernel, rfl, by decide +kernel, by decide +kernel⟩
def d__law_same : Nat → List D → Rs D
  | 0 => fun _ => none
  | n + 1 => den 2 4 (sseq (sif (lf [] (tr (visi2 .list .tuple (v 1)))) (sseq (sif (lf [] (tor (tb (op2 dNe (visi .list (v 0)) (visi .list (v 1)))) (tb (op2 dNe (visi .tuple (v 0)) (visi .tuple (v 1)))))) (sret (lf [] (c (.bl false)))) snext) (sret (lf [] (vand (op2 dEq (vcallB (one dLen) (acons (v 0) anil)) (vcallB (one dLen) (acons (v 1) anil))) (vcallB (one dAll) (acons (pur (ecomp [2, 3] (izip (lf [] (acons (v 0) (acons (v 1) anil)))) (gt (gscons (gn 2) (gscons (gn 3) gsnil))) tyes (lf [] (vcall (d__law_same n) (acons (v 2) (acons (v 3) anil)))))) anil)))))) snext) (sseq (sif (lf [] (tor (fun δ => bind ((v 1) δ) fun x => ok (isNon x)) (tr (visi2 .bool .str (v 1))))) (sret (lf [] (vand (op2 dEq (v 0) (v 1)) (vand (op2 dEq (visi .bool (v 0)) (visi .bool (v 1))) (op2 dEq (vis (v 0)) (vis (v 1))))))) snext) (sret (lf [] (vand (visi .int (v 0)) (vand (vnot (visi .bool (v 0))) (op2 dEq (v 0) (v 1))))))))
theorem ok__law_same (T : Txt K mg) {fd : FuncData} (F : FunD K "_law_same" "_law_same" (defArgs s__law_same) (defBody s__law_same) (defScope s__law_same) [] [] (He.ga K "_law_same") fd) : ∀ n, FnOk P w K mg base (L2.CX P w) (1 + n) (He.ga K "_law_same") fd ["_law_found", "_law_due"] (spP K (d__law_same n))
  | 0 => fn_none F sc__law_same
  | n + 1 => by
    have sc := sc__law_same
    have ih : Fn P w K mg base (1 + n) "_law_same" (d__law_same n) := ⟨_, fd, ["_law_found", "_law_due"], ok__law_same T F n, T.g__law_same, F.kp, F.bindsN fun _ _ _ _ _ _ us hl => match us, hl with | [_, _], _ => rfl⟩
    exact fn_okB (k := 1 + n) F sc (own := []) rfl rfl (fun cdv A outer s H E hr => (jb_cons (js_if (js_lift (jt_truth (jp_isi2 .list .tuple T.b_isinstance T.b_list PyProof.Rows.boot_list T.b_tuple PyProof.Rows.boot_tuple (jp_v 1)))) (js_cons (js_if (js_lift (jt_w (jw_or (jt_ne hr (jp_isi .list T.b_isinstance T.b_list PyProof.Rows.boot_list (jp_v 0)) (jp_isi .list T.b_isinstance T.b_list PyProof.Rows.boot_list (jp_v 1))) (jw_or1 (jt_ne hr (jp_isi .tuple T.b_isinstance T.b_tuple PyProof.Rows.boot_tuple (jp_v 0)) (jp_isi .tuple T.b_isinstance T.b_tuple PyProof.Rows.boot_tuple (jp_v 1))))))) (js_one (js_ret (js_lift jp_bl))) js_nil) (js_one (js_ret (js_lift (jp_and (jp_eq hr (jp_callB b_len d_len T.b_len PySem.boot_len (ja_cons (jp_v 0) ja_nil)) (jp_callB b_len d_len T.b_len PySem.boot_len (ja_cons (jp_v 1) ja_nil))) (jp_one (jp_callB (cr_all rfl) d_all T.b_all PyProof.Rows.boot_all (ja_cons (j_of (je_lc (ow := [("_law_mine", 2), ("_law_its", 3)]) rfl sc.nd (ji_zip T.b_zip (js_lift (ja_cons (jp_v 0) (ja_cons (jp_v 1) ja_nil)))) (blkOk_by (by kernel_rfl)) (fun _ _ _ _ _ => (jg_t rfl (jgs_cons (jg_n 2 sc.nd) (jgs_cons (jg_n 3 sc.nd) jgs_nil)) (gl_cons (gl_cons gl_nil)))) (fun _ _ _ _ _ => jts_nil) (fun _ _ _ _ _ => (js_lift (jp_call ih (hr.mono (by omega)) (ja_cons (jp_v 2) (ja_cons (jp_v 3) ja_nil))))))) ja_nil)))))))) js_nil) (jb_cons (js_if (js_lift (jt_w (jw_or (jt_is (jp_v 1)) (jw_or1 (jt_truth (jp_isi2 .bool .str T.b_isinstance T.b_bool PyProof.Rows.boot_bool T.b_str PyProof.Rows.boot_str (jp_v 1))))))) (js_one (js_ret (js_lift (jp_and (jp_eq hr (jp_v 0) (jp_v 1)) (jp_and (jp_eq hr (jp_isi .bool T.b_isinstance T.b_bool PyProof.Rows.boot_bool (jp_v 0)) (jp_isi .bool T.b_isinstance T.b_bool PyProof.Rows.boot_bool (jp_v 1))) (jp_one (jp_eq hr (jp_is (jp_v 0)) (jp_is (jp_v 1))))))))) js_nil) (jb_of (js_one (js_ret (js_lift (jp_and (jp_isi .int T.b_isinstance T.b_int PyProof.Rows.boot_int (jp_v 0)) (jp_and (jp_not (jp_isi .bool T.b_isinstance T.b_bool PyProof.Rows.boot_bool (jp_v 0))) (jp_one (jp_eq hr (jp_v 0) (jp_v 1))))))))))))
theorem fn__law_same (T : Txt K mg) (n : Nat) : Fn P w K mg base (1 + n) "_law_same" (d__law_same n) := by
  obtain ⟨fd, F⟩ := T.f__law_same
  exact ⟨_, fd, ["_law_found", "_law_due"], ok__law_same T F n, T.g__law_same, F.kp, F.bindsN fun _ _ _ _ _ _ us hl => match us, hl with | [_, _], _ => rfl⟩
abbrev s__law_drawn_net : Stmt := top 19
theorem sc__law_drawn_net : FnScope ["_law_box_here", "_law_wires", "_law_many", "_law_kind", "_law_left", "_law_found", "_law_turn", "_law_labels", "_law_rows", "_law_own", "_law_weight", "_law_bottom", "_law_top", "_law_line_so"] ["_law_box_here", "_law_wires", "_law_many", "_law_kind"] (defScope s__law_drawn_net) := ⟨rfl, rfl, rfl, by decide +kernel, rfl, by decide +kernel, by decide +kernel⟩
def d__law_drawn_net : List D → List D → Option (D × List D) := denB 4 14 (sseq (spar2 4 5 (econs (elst (lf [0, 4, 5, 7, 8] (acons (c (.str "a")) (acons (c (.str "b")) (acons (c (.str "c")) (acons (c (.str "d")) (acons (c (.str "ab")) (acons (c (.str "k")) anil)))))))) (econs (elst (lf [0, 4, 5, 7, 8] anil)) enil))) (sseq (sforI (irng1 (lf [0, 4, 5, 7, 8] (v 1))) (gn 6) (sapp 5 (etup (econs (epop 4 (ecallB d__law_take 0 (econs (lfo (vcallB (one dLen) (acons (v 4) anil))) enil))) (econs (eop2 dAdd (lf [0, 4, 5, 7, 8] (c (.int 1))) (ecallB d__law_take 0 (lf [0, 4, 5, 7, 8] (acons (c (.int 12)) anil)))) enil))))) (sfrz [0, 4, 5, 7, 8] (sfrz [0, 5, 7, 8] (sseq (spar3 5 7 8 (econs (lf [0, 7, 8] (vcallB (one dSorted) (acons (v 5) anil))) (econs (elst (lf [0, 7, 8] (acons (c (.str "p")) (acons (c (.str "q")) (acons (c (.str "r")) (acons (c (.str "s")) (acons (c (.str "t")) (acons (c (.str "u")) (acons (c (.str "ab")) (acons (c (.str "z")) (acons (c (.str "x")) anil))))))))))) (econs (elst (lf [0, 7, 8] anil)) enil)))) (sseq (sforI (irng1 (lf [0, 7, 8] (v 2))) (gn 6) (sseq (sset 9 (ecomp [13] (iany (lf [0, 7, 8] (v 5))) (gn 13) (etb (eop2 dEq (ecallB d__law_take 0 (lf [0, 7, 8] (acons (c (.int 2)) anil))) (lf [0, 7, 8] (c (.int 0))))) (lf [0, 7, 8] (op2 dIx (v 13) (c (.int 0)))))) (sseq (sset 9 (eif (lf [0, 7, 8] (tb (op2 dNe (v 9) (vlst anil)))) (lf [0, 7, 8] (v 9)) (elst (econs (eop2 dIx (eop2 dIx (lf [0, 7, 8] (v 5)) (ecallB d__law_take 0 (lf [0, 7, 8] (acons (v 1) anil)))) (lf [0, 7, 8] (c (.int 0)))) enil)))) (sseq (sset 10 (eif (lf [0, 7, 8] (tb (op2 dGt (v 3) (c (.int 0))))) (eop2 dAdd (lf [0, 7, 8] (c (.int 1))) (ecallB d__law_take 0 (lf [0, 7, 8] (acons (c (.int 3)) anil)))) (lf [0, 7, 8] (c (.int 1))))) (sseq (sasg (gt (gscons (gn 11) (gscons (gn 12) gsnil))) (lf [0, 7, 8] (vtup (acons (c (.int 0)) (acons (c .non) anil))))) (sseq (sif (lf [0, 7, 8] (tb (op2 dGt (v 3) (c (.int 1))))) (sseq (sset 11 (ecallB d__law_of 0 (lf [0, 7, 8] (acons (vlst (acons (c (.int 0)) (acons (c (.int 0)) (acons (c (.int 0)) (acons (c (.int 1)) (acons (c (.int 2)) anil)))))) anil)))) (sset 12 (ecallB d__law_of 0 (lf [0, 7, 8] (acons (vlst (acons (c .non) (acons (c .non) (acons (vcallB (two dMax2) (acons (c (.int 1)) (acons (v 11) anil))) (acons (op2 dAdd (v 11) (c (.int 1))) (acons (op2 dAdd (v 11) (c (.int 3))) anil)))))) anil))))) snext) (sapp 8 (etup (econs (epop 7 (ecallB d__law_take 0 (econs (lfo (vcallB (one dLen) (acons (v 7) anil))) enil))) (econs (lf [0, 7, 8] (vcallB (one dTuple) (acons (v 9) anil))) (econs (lf [0, 7, 8] (v 10)) (econs (lf [0, 7, 8] (v 11)) (econs (lf [0, 7, 8] (v 12)) enil))))))))))))) (sfrz [0, 7, 8] (sfrz [0, 8] (sret (lf [0] (vtup (acons (vcallB (one dTuple) (acons (v 5) anil)) (acons (vcallB (one dTuple) (acons (vcallB (one dSorted) (acons (v 8) anil)) anil)) anil)))))))))))))
theorem ok__law_drawn_net (T : Txt K mg) {fd : FuncData} (F : FunD K "_law_drawn_net" "_law_drawn_net" (defArgs s__law_drawn_net) (defBody s__law_drawn_net) (defScope s__law_drawn_net) [] [] (He.ga K "_law_drawn_net") fd) : FnOk P w K mg base (L2.CX P w) 3 (He.ga K "_law_drawn_net") fd ["_law_box_here", "_law_wires", "_law_many", "_law_kind"] (spB K d__law_drawn_net) := by
  have sc := sc__law_drawn_net
  exact fnB_okB F sc (own := [0, 4, 5, 7, 8]) rfl rfl rfl (fun cdv A outer s H E hr => (jb_cons (js_par2X 4 5 rfl sc.nd (jx_new (jn_lst (js_lift (ja_cons jp_str (ja_cons jp_str (ja_cons jp_str (ja_cons jp_str (ja_cons jp_str (ja_cons jp_str ja_nil)))))))) (jx_new (jn_lst (js_lift ja_nil)) jx_nil))) (jb_cons (js_for (passes_of rfl) rfl (ji_rng1 T.b_range (js_lift (jp_v 1))) (jg_n 6 sc.nd) (js_one (js_app 5 (je_tup (jae_cons (je_pop 4 (je_callB 0 (fn__law_take T) (hr.mono (by omega)) (jae_cons (je_o (jp_callB b_len d_len T.b_len PySem.boot_len (ja_cons (jp_v 4) ja_nil))) jae_nil))) (jae_cons (je_op o_add d_add (js_lift jp_int) (je_callB 0 (fn__law_take T) (hr.mono (by omega)) (js_lift (ja_cons jp_int ja_nil)))) jae_nil)))))) (jb_frz (own := [0, 4, 5, 7, 8]) 4 (jb_frz (own := [0, 5, 7, 8]) 5 (jb_cons (js_par3X 5 7 8 rfl sc.nd (jx_cons (js_lift (jp_callB (cr_sortedX (hu70 hr)) d_sorted T.b_sorted rfl (ja_cons (jp_v 5) ja_nil))) (jx_new (jn_lst (js_lift (ja_cons jp_str (ja_cons jp_str (ja_cons jp_str (ja_cons jp_str (ja_cons jp_str (ja_cons jp_str (ja_cons jp_str (ja_cons jp_str (ja_cons jp_str ja_nil))))))))))) (jx_new (jn_lst (js_lift ja_nil)) jx_nil)))) (jb_cons (js_for (passes_of rfl) rfl (ji_rng1 T.b_range (js_lift (jp_v 2))) (jg_n 6 sc.nd) (js_cons (js_setLc (ow := [("_law_line_so", 13)]) 9 rfl sc.nd (ji_any (js_lift (jp_v 5))) (blkOk_by (by kernel_rfl)) (fun _ _ _ _ _ => (jg_n 13 sc.nd)) (fun _ _ _ _ _ => (jts_one (jte_cmp (op_eqD (hu64b hr)) d_eq (je_callB 0 (fn__law_take T) (hr.mono (by omega)) (js_lift (ja_cons jp_int ja_nil))) (js_lift jp_int)))) (fun _ _ _ _ _ => (js_lift (jp_ix hr (jp_v 13) jp_int)))) (js_cons (js_set 9 sc.nd (je_if (js_lift (jt_ne hr (jp_v 9) (jp_lst ja_nil))) (js_lift (jp_v 9)) (je_lst (jae_cons (je_ix hr (je_ix hr (js_lift (jp_v 5)) (je_callB 0 (fn__law_take T) (hr.mono (by omega)) (js_lift (ja_cons (jp_v 1) ja_nil)))) (js_lift jp_int)) jae_nil)))) (js_cons (js_set 10 sc.nd (je_if (js_lift (jt_gt (jp_v 3) jp_int)) (je_op o_add d_add (js_lift jp_int) (je_callB 0 (fn__law_take T) (hr.mono (by omega)) (js_lift (ja_cons jp_int ja_nil)))) (js_lift jp_int))) (js_cons (js_asg (jg_t rfl (jgs_cons (jg_n 11 sc.nd) (jgs_cons (jg_n 12 sc.nd) jgs_nil)) (gl_cons (gl_cons gl_nil))) (js_lift (jp_tup (ja_cons jp_int (ja_cons jp_non ja_nil))))) (js_cons (js_if (js_lift (jt_gt (jp_v 3) jp_int)) (js_cons (js_set 11 sc.nd (je_callB 0 (fn__law_of T) (hr.mono (by omega)) (js_lift (ja_cons (jp_lst (ja_cons jp_int (ja_cons jp_int (ja_cons jp_int (ja_cons jp_int (ja_cons jp_int ja_nil)))))) ja_nil)))) (js_one (js_set 12 sc.nd (je_callB 0 (fn__law_of T) (hr.mono (by omega)) (js_lift (ja_cons (jp_lst (ja_cons jp_non (ja_cons jp_non (ja_cons (jp_callB (call_max2 rfl) d_max2 T.b_max PyProof.Rows.boot_max (ja_cons jp_int (ja_cons (jp_v 11) ja_nil))) (ja_cons (jp_add (jp_v 11) jp_int) (ja_cons (jp_add (jp_v 11) jp_int) ja_nil)))))) ja_nil)))))) js_nil) (js_one (js_app 8 (je_tup (jae_cons (je_pop 7 (je_callB 0 (fn__law_take T) (hr.mono (by omega)) (jae_cons (je_o (jp_callB b_len d_len T.b_len PySem.boot_len (ja_cons (jp_v 7) ja_nil))) jae_nil))) (jae_cons (js_lift (jp_callTy call_tuple_of d_tuple T.b_tuple PyProof.Rows.boot_tuple (ja_cons (jp_v 9) ja_nil))) (jae_cons (js_lift (jp_v 10)) (jae_cons (js_lift (jp_v 11)) (jae_cons (js_lift (jp_v 12)) jae_nil)))))))))))))) (jb_frz (own := [0, 7, 8]) 7 (jb_frz (own := [0, 8]) 8 (jb_of (js_one (js_ret (js_lift (jp_tup (ja_cons (jp_callTy call_tuple_of d_tuple T.b_tuple PyProof.Rows.boot_tuple (ja_cons (jp_v 5) ja_nil)) (ja_cons (jp_callTy call_tuple_of d_tuple T.b_tuple PyProof.Rows.boot_tuple (ja_cons (jp_callB (cr_sortedX (hu70 hr)) d_sorted T.b_sorted rfl (ja_cons (jp_v 8) ja_nil)) ja_nil)) ja_nil))))))))))))))))
theorem fn__law_drawn_net (T : Txt K mg) : FnB P w K mg base 3 "_law_drawn_net" d__law_drawn_net := by
  obtain ⟨fd, F⟩ := T.f__law_drawn_net
  exact ⟨_, fd, ["_law_box_here", "_law_wires", "_law_many", "_law_kind"], ok__law_drawn_net T F, T.g__law_drawn_net, F.kp, F.bindsN fun _ _ _ _ _ _ us hl => match us, hl with | [_, _, _, _], _ => rfl⟩
abbrev s__law_bent : Stmt := top 20
theorem sc__law_bent : FnScope ["_law_box_here", "_law_part", "_law_more", "_law_k", "_law_some"] ["_law_box_here", "_law_part", "_law_more"] (defScope s__law_bent) := ⟨rfl, rfl, rfl, by decide +kernel, rfl, by decide +kernel, by decide +kernel⟩
def d__law_bent : Nat → List D → List D → Option (D × List D)
  | 0 => fun _ _ => none
  | n + 1 => denB 3 5 (sseq (sif (etand (lf [0] (tr (visi .tuple (v 1)))) (etand (lf [0] (tb (op2 dNe (v 1) (vtup anil)))) (etb (eop2 dGt (ecallB d__law_take 0 (lf [0] (acons (c (.int 5)) anil))) (lf [0] (c (.int 0))))))) (sseq (sset 3 (ecallB d__law_take 0 (lf [0] (acons (vcallB (one dLen) (acons (v 1) anil)) anil)))) (sret (eop2 dAdd (eop2 dAdd (lf [0] (vsl (v 1) onone (osome (v 3)))) (etup (econs (ecallB (d__law_bent n) 0 (lf [0] (acons (op2 dIx (v 1) (v 3)) (acons (v 2) anil)))) enil))) (lf [0] (vsl (v 1) (osome (op2 dAdd (v 3) (c (.int 1)))) onone))))) snext) (sseq (sset 4 (lf [0] (op2 dAdd (vlst (acons (c (.int 0)) (acons (c (.int 1)) (acons (vneg (c (.int 1))) (acons (c (.int 7)) (acons (c .non) (acons (c (.bl true)) (acons (c (.bl false)) (acons (c (.str "")) (acons (c (.str "a")) (acons (c (.str "zzzzzzzz")) (acons (c (.str "zzzzzzzzz")) (acons (c (.str "A")) (acons (c (.str "b1")) (acons (c (.str "a\n")) (acons (vtup anil) (acons (vlst anil) (acons (vtup (acons (c (.str "a")) anil)) anil)))))))))))))))))) (v 2)))) (sseq (sif (lf [0] (tr (visi .tuple (v 1)))) (sset 4 (lf [0] (op2 dAdd (v 4) (vlst (acons (vcallB (one dList) (acons (v 1) anil)) (acons (vsl (v 1) onone (osome (vneg (c (.int 1))))) (acons (op2 dAdd (v 1) (vsl (v 1) (osome (vneg (c (.int 1)))) onone)) (acons (vrev (v 1)) (acons (vtup (acons (v 1) anil)) anil))))))))) snext) (sret (ecallB d__law_of 0 (lf [0] (acons (v 4) anil)))))))
theorem ok__law_bent (T : Txt K mg) {fd : FuncData} (F : FunD K "_law_bent" "_law_bent" (defArgs s__law_bent) (defBody s__law_bent) (defScope s__law_bent) [] [] (He.ga K "_law_bent") fd) : ∀ n, FnOk P w K mg base (L2.CX P w) (3 + n) (He.ga K "_law_bent") fd ["_law_box_here", "_law_part", "_law_more"] (spB K (d__law_bent n))
  | 0 => fnB_none F sc__law_bent
  | n + 1 => by
    have sc := sc__law_bent
    have ih : FnB P w K mg base (3 + n) "_law_bent" (d__law_bent n) := ⟨_, fd, ["_law_box_here", "_law_part", "_law_more"], ok__law_bent T F n, T.g__law_bent, F.kp, F.bindsN fun _ _ _ _ _ _ us hl => match us, hl with | [_, _, _], _ => rfl⟩
    exact fnB_okB (k := 3 + n) F sc (own := [0]) rfl rfl rfl (fun cdv A outer s H E hr => (jb_cons (js_if (jte_w (jwe_and (js_lift (jt_truth (jp_isi .tuple T.b_isinstance T.b_tuple PyProof.Rows.boot_tuple (jp_v 1)))) (jwe_and (js_lift (jt_ne hr (jp_v 1) (jp_tup ja_nil))) (jwe_and1 (jte_cmp o_gt d_cmp (je_callB 0 (fn__law_take T) (hr.mono (by omega)) (js_lift (ja_cons jp_int ja_nil))) (js_lift jp_int)))))) (js_cons (js_set 3 sc.nd (je_callB 0 (fn__law_take T) (hr.mono (by omega)) (js_lift (ja_cons (jp_callB b_len d_len T.b_len PySem.boot_len (ja_cons (jp_v 1) ja_nil)) ja_nil)))) (js_one (js_ret (je_op o_add d_add (je_op o_add d_add (js_lift (jp_sl (jp_v 1) jo_none (jo_some (jp_v 3)))) (je_tup (jae_cons (je_callB 0 ih (hr.mono (by omega)) (js_lift (ja_cons (jp_ix hr (jp_v 1) (jp_v 3)) (ja_cons (jp_v 2) ja_nil)))) jae_nil))) (js_lift (jp_sl (jp_v 1) (jo_some (jp_add (jp_v 3) jp_int)) jo_none)))))) js_nil) (jb_cons (js_set 4 sc.nd (js_lift (jp_add (jp_lst (ja_cons jp_int (ja_cons jp_int (ja_cons (jp_neg jp_int) (ja_cons jp_int (ja_cons jp_non (ja_cons jp_bl (ja_cons jp_bl (ja_cons jp_str (ja_cons jp_str (ja_cons jp_str (ja_cons jp_str (ja_cons jp_str (ja_cons jp_str (ja_cons jp_str (ja_cons (jp_tup ja_nil) (ja_cons (jp_lst ja_nil) (ja_cons (jp_tup (ja_cons jp_str ja_nil)) ja_nil)))))))))))))))))) (jp_v 2)))) (jb_cons (js_if (js_lift (jt_truth (jp_isi .tuple T.b_isinstance T.b_tuple PyProof.Rows.boot_tuple (jp_v 1)))) (js_one (js_set 4 sc.nd (js_lift (jp_add (jp_v 4) (jp_lst (ja_cons (jp_callTy (b_list rfl) d_list T.b_list PyProof.Rows.boot_list (ja_cons (jp_v 1) ja_nil)) (ja_cons (jp_sl (jp_v 1) jo_none (jo_some (jp_neg jp_int))) (ja_cons (jp_add (jp_v 1) (jp_sl (jp_v 1) (jo_some (jp_neg jp_int)) jo_none)) (ja_cons (jp_rev (jp_v 1)) (ja_cons (jp_tup (ja_cons (jp_v 1) ja_nil)) ja_nil)))))))))) js_nil) (jb_of (js_one (js_ret (je_callB 0 (fn__law_of T) (hr.mono (by omega)) (js_lift (ja_cons (jp_v 4) ja_nil))))))))))
theorem fn__law_bent (T : Txt K mg) (n : Nat) : FnB P w K mg base (3 + n) "_law_bent" (d__law_bent n) := by
  obtain ⟨fd, F⟩ := T.f__law_bent
  exact ⟨_, fd, ["_law_box_here", "_law_part", "_law_more"], ok__law_bent T F n, T.g__law_bent, F.kp, F.bindsN fun _ _ _ _ _ _ us hl => match us, hl with | [_, _, _], _ => rfl⟩
abbrev s__law_is_nr : Stmt := top 21
theorem sc__law_is_nr : FnScope ["_law_matter", "_law_bottom"] ["_law_matter", "_law_bottom"] (defScope s__law_is_nr) := ⟨rfl, rfl, rfl, by decide +kernel, rfl, by decide +kernel, by decide +kernel⟩
def d__law_is_nr : List D → Rs D := den 2 2 (sret (lf [] (vand (visi .int (v 0)) (vand (vnot (visi .bool (v 0))) (op2 dGe (v 0) (v 1))))))
theorem ok__law_is_nr (T : Txt K mg) {fd : FuncData} (F : FunD K "_law_is_nr" "_law_is_nr" (defArgs s__law_is_nr) (defBody s__law_is_nr) (defScope s__law_is_nr) [] [] (He.ga K "_law_is_nr") fd) : FnOk P w K mg base (L2.CX P w) 1 (He.ga K "_law_is_nr") fd ["_law_matter", "_law_bottom"] (spP K d__law_is_nr) := by
  have sc := sc__law_is_nr
  exact fn_okB F sc (own := []) rfl rfl (fun cdv A outer s H E hr => (jb_of (js_one (js_ret (js_lift (jp_and (jp_isi .int T.b_isinstance T.b_int PyProof.Rows.boot_int (jp_v 0)) (jp_and (jp_not (jp_isi .bool T.b_isinstance T.b_bool PyProof.Rows.boot_bool (jp_v 0))) (jp_one (jp_ge (jp_v 0) (jp_v 1))))))))))
theorem fn__law_is_nr (T : Txt K mg) : Fn P w K mg base 1 "_law_is_nr" d__law_is_nr := by
  obtain ⟨fd, F⟩ := T.f__law_is_nr
  exact ⟨_, fd, ["_law_matter", "_law_bottom"], ok__law_is_nr T F, T.g__law_is_nr, F.kp, F.bindsN fun _ _ _ _ _ _ us hl => match us, hl with | [_, _], _ => rfl⟩
abbrev s__law_is_word : Stmt := top 22
theorem sc__law_is_word : FnScope ["_law_matter", "_law_sign"] ["_law_matter"] (defScope s__law_is_word) := ⟨rfl, rfl, rfl, by decide +kernel, rfl, by decide +kernel, by decide +kernel⟩
def d__law_is_word : List D → Rs D := den 1 2 (sseq (sif (lf [] (tor (fun δ => bind ((tr (visi .str (v 0))) δ) fun b => ok (!b)) (tor (tb (op2 dLt (vcallB (one dLen) (acons (v 0) anil)) (c (.int 1)))) (tb (op2 dGt (vcallB (one dLen) (acons (v 0) anil)) (c (.int 8))))))) (sret (lf [] (c (.bl false)))) snext) (sret (lf [] (vcallB (one dAll) (acons (pur (ecomp [1] (iany (lf [] (v 0))) (gn 1) tyes (lf [] (op2 dIn (v 1) (c (.str "abcdefghijklmnopqrstuvwxyz")))))) anil)))))
theorem ok__law_is_word (T : Txt K mg) {fd : FuncData} (F : FunD K "_law_is_word" "_law_is_word" (defArgs s__law_is_word) (defBody s__law_is_word) (defScope s__law_is_word) [] [] (He.ga K "_law_is_word") fd) : FnOk P w K mg base (L2.CX P w) 1 (He.ga K "_law_is_word") fd ["_law_matter"] (spP K d__law_is_word) := by
  have sc := sc__law_is_word
  exact fn_okB F sc (own := []) rfl rfl (fun cdv A outer s H E hr => (jb_cons (js_if (js_lift (jt_w (jw_or (jt_not (jt_truth (jp_isi .str T.b_isinstance T.b_str PyProof.Rows.boot_str (jp_v 0)))) (jw_or (jt_lt (jp_callB b_len d_len T.b_len PySem.boot_len (ja_cons (jp_v 0) ja_nil)) jp_int) (jw_or1 (jt_gt (jp_callB b_len d_len T.b_len PySem.boot_len (ja_cons (jp_v 0) ja_nil)) jp_int)))))) (js_one (js_ret (js_lift jp_bl))) js_nil) (jb_of (js_one (js_ret (js_lift (jp_callB (cr_all rfl) d_all T.b_all PyProof.Rows.boot_all (ja_cons (j_of (je_lc (ow := [("_law_sign", 1)]) rfl sc.nd (ji_any (js_lift (jp_v 0))) (blkOk_by (by kernel_rfl)) (fun _ _ _ _ _ => (jg_n 1 sc.nd)) (fun _ _ _ _ _ => jts_nil) (fun _ _ _ _ _ => (js_lift (jp_c (jc_in hr (jp_v 1) jp_str)))))) ja_nil))))))))
theorem fn__law_is_word (T : Txt K mg) : Fn P w K mg base 1 "_law_is_word" d__law_is_word := by
  obtain ⟨fd, F⟩ := T.f__law_is_word
  exact ⟨_, fd, ["_law_matter"], ok__law_is_word T F, T.g__law_is_word, F.kp, F.bindsN fun _ _ _ _ _ _ us hl => match us, hl with | [_], _ => rfl⟩
abbrev s__law_is_wire : Stmt := top 23
theorem sc__law_is_wire : FnScope ["_law_matter"] ["_law_matter"] (defScope s__law_is_wire) := ⟨rfl, rfl, rfl, by decide +kernel, rfl, by decide +kernel, by decide +kernel⟩
def d__law_is_wire : List D → Rs D := den 1 1 (sret (lf [] (vand (visi .tuple (v 0)) (vand (op2 dEq (vcallB (one dLen) (acons (v 0) anil)) (c (.int 2))) (vand (vcall d__law_is_word (acons (op2 dIx (v 0) (c (.int 0))) anil)) (vcall d__law_is_nr (acons (op2 dIx (v 0) (c (.int 1))) (acons (c (.int 1)) anil))))))))
theorem ok__law_is_wire (T : Txt K mg) {fd : FuncData} (F : FunD K "_law_is_wire" "_law_is_wire" (defArgs s__law_is_wire) (defBody s__law_is_wire) (defScope s__law_is_wire) [] [] (He.ga K "_law_is_wire") fd) : FnOk P w K mg base (L2.CX P w) 2 (He.ga K "_law_is_wire") fd ["_law_matter"] (spP K d__law_is_wire) := by
  have sc := sc__law_is_wire
  exact fn_okB F sc (own := []) rfl rfl (fun cdv A outer s H E hr => (jb_of (js_one (js_ret (js_lift (jp_and (jp_isi .tuple T.b_isinstance T.b_tuple PyProof.Rows.boot_tuple (jp_v 0)) (jp_and (jp_eq hr (jp_callB b_len d_len T.b_len PySem.boot_len (ja_cons (jp_v 0) ja_nil)) jp_int) (jp_and (jp_call (fn__law_is_word T) (hr.mono (by omega)) (ja_cons (jp_ix hr (jp_v 0) jp_int) ja_nil)) (jp_one (jp_call (fn__law_is_nr T) (hr.mono (by omega)) (ja_cons (jp_ix hr (jp_v 0) jp_int) (ja_cons jp_int ja_nil))))))))))))
theorem fn__law_is_wire (T : Txt K mg) : Fn P w K mg base 2 "_law_is_wire" d__law_is_wire := by
  obtain ⟨fd, F⟩ := T.f__law_is_wire
  exact ⟨_, fd, ["_law_matter"], ok__law_is_wire T F, T.g__law_is_wire, F.kp, F.bindsN fun _ _ _ _ _ _ us hl => match us, hl with | [_], _ => rfl⟩
abbrev s__law_is_row : Stmt := top 24
theorem sc__law_is_row : FnScope ["_law_matter", "_law_labels", "_law_bit"] ["_law_matter", "_law_labels"] (defScope s__law_is_row) := ⟨rfl, rfl, rfl, by decide +kernel, rfl, by decide +kernel, by decide +kernel⟩
def d__law_is_row : List D → Rs D := den 2 3 (sseq (sif (lf [] (tor (fun δ => bind ((tr (visi .tuple (v 0))) δ) fun b => ok (!b)) (tor (tb (op2 dNe (vcallB (one dLen) (acons (v 0) anil)) (c (.int 5)))) (fun δ => bind ((tr (vcall d__law_is_word (acons (op2 dIx (v 0) (c (.int 0))) anil))) δ) fun b => ok (!b))))) (sret (lf [] (c (.bl false)))) snext) (sseq (sif (lf [] (tor (fun δ => bind ((tr (visi .tuple (op2 dIx (v 0) (c (.int 1))))) δ) fun b => ok (!b)) (tor (tb (op2 dEq (op2 dIx (v 0) (c (.int 1))) (vtup anil))) (fun δ => bind ((tr (vcallB (one dAll) (acons (pur (ecomp [2] (iany (lf [] (op2 dIx (v 0) (c (.int 1))))) (gn 2) tyes (lf [] (vcall d__law_is_word (acons (v 2) anil))))) anil))) δ) fun b => ok (!b))))) (sret (lf [] (c (.bl false)))) snext) (sseq (sif (lf [] (tor (tb (op2 dNe (vcallB (one dList) (acons (op2 dIx (v 0) (c (.int 1))) anil)) (vsset (op2 dIx (v 0) (c (.int 1)))))) (tb (op2 dNe (pur (ecomp [2] (iany (lf [] (op2 dIx (v 0) (c (.int 1))))) (gn 2) (lf [] (tb (op2 dNotIn (v 2) (v 1)))) (lf [] (v 2)))) (vlst anil))))) (sret (lf [] (c (.bl false)))) snext) (sseq (sif (lf [] (tor (fun δ => bind ((tr (vcall d__law_is_nr (acons (op2 dIx (v 0) (c (.int 2))) (acons (c (.int 1)) anil)))) δ) fun b => ok (!b)) (fun δ => bind ((tr (vcall d__law_is_nr (acons (op2 dIx (v 0) (c (.int 3))) (acons (c (.int 0)) anil)))) δ) fun b => ok (!b)))) (sret (lf [] (c (.bl false)))) snext) (sret (lf [] (vor (vis (op2 dIx (v 0) (c (.int 4)))) (vand (vcall d__law_is_nr (acons (op2 dIx (v 0) (c (.int 4))) (acons (c (.int 1)) anil))) (op2 dGe (op2 dIx (v 0) (c (.int 4))) (op2 dIx (v 0) (c (.int 3))))))))))))
theorem ok__law_is_row (T : Txt K mg) {fd : FuncData} (F : FunD K "_law_is_row" "_law_is_row" (defArgs s__law_is_row) (defBody s__law_is_row) (defScope s__law_is_row) [] [] (He.ga K "_law_is_row") fd) : FnOk P w K mg base (L2.CX P w) 2 (He.ga K "_law_is_row") fd ["_law_matter", "_law_labels"] (spP K d__law_is_row) := by
  have sc := sc__law_is_row
  exact fn_okB F sc (own := []) rfl rfl (fun cdv A outer s H E hr => (jb_cons (js_if (js_lift (jt_w (jw_or (jt_not (jt_truth (jp_isi .tuple T.b_isinstance T.b_tuple PyProof.Rows.boot_tuple (jp_v 0)))) (jw_or (jt_ne hr (jp_callB b_len d_len T.b_len PySem.boot_len (ja_cons (jp_v 0) ja_nil)) jp_int) (jw_or1 (jt_not (jt_truth (jp_call (fn__law_is_word T) (hr.mono (by omega)) (ja_cons (jp_ix hr (jp_v 0) jp_int) ja_nil))))))))) (js_one (js_ret (js_lift jp_bl))) js_nil) (jb_cons (js_if (js_lift (jt_w (jw_or (jt_not (jt_truth (jp_isi .tuple T.b_isinstance T.b_tuple PyProof.Rows.boot_tuple (jp_ix hr (jp_v 0) jp_int)))) (jw_or (jt_eq hr (jp_ix hr (jp_v 0) jp_int) (jp_tup ja_nil)) (jw_or1 (jt_not (jt_truth (jp_callB (cr_all rfl) d_all T.b_all PyProof.Rows.boot_all (ja_cons (j_of (je_lc (ow := [("_law_bit", 2)]) rfl sc.nd (ji_any (js_lift (jp_ix hr (jp_v 0) jp_int))) (blkOk_by (by kernel_rfl)) (fun _ _ _ _ _ => (jg_n 2 sc.nd)) (fun _ _ _ _ _ => jts_nil) (fun _ _ _ _ _ => (js_lift (jp_call (fn__law_is_word T) (hr.mono (by omega)) (ja_cons (jp_v 2) ja_nil)))))) ja_nil))))))))) (js_one (js_ret (js_lift jp_bl))) js_nil) (jb_cons (js_if (js_lift (jt_w (jw_or (jt_ne hr (jp_callTy (b_list rfl) d_list T.b_list PyProof.Rows.boot_list (ja_cons (jp_ix hr (jp_v 0) jp_int) ja_nil)) (jp_sset (hu70 hr) T.b_sorted T.b_set (jp_ix hr (jp_v 0) jp_int))) (jw_or1 (jt_ne hr (j_of (je_lc (ow := [("_law_bit", 2)]) rfl sc.nd (ji_any (js_lift (jp_ix hr (jp_v 0) jp_int))) (blkOk_by (by kernel_rfl)) (fun _ _ _ _ _ => (jg_n 2 sc.nd)) (fun _ _ _ _ _ => (jts_one (js_lift (jt_c (jc_nin hr (jp_v 2) (jp_v 1)))))) (fun _ _ _ _ _ => (js_lift (jp_v 2))))) (jp_lst ja_nil)))))) (js_one (js_ret (js_lift jp_bl))) js_nil) (jb_cons (js_if (js_lift (jt_w (jw_or (jt_not (jt_truth (jp_call (fn__law_is_nr T) (hr.mono (by omega)) (ja_cons (jp_ix hr (jp_v 0) jp_int) (ja_cons jp_int ja_nil))))) (jw_or1 (jt_not (jt_truth (jp_call (fn__law_is_nr T) (hr.mono (by omega)) (ja_cons (jp_ix hr (jp_v 0) jp_int) (ja_cons jp_int ja_nil))))))))) (js_one (js_ret (js_lift jp_bl))) js_nil) (jb_of (js_one (js_ret (js_lift (jp_or (jp_is (jp_ix hr (jp_v 0) jp_int)) (jp_one (jp_and (jp_call (fn__law_is_nr T) (hr.mono (by omega)) (ja_cons (jp_ix hr (jp_v 0) jp_int) (ja_cons jp_int ja_nil))) (jp_one (jp_ge (jp_ix hr (jp_v 0) jp_int) (jp_ix hr (jp_v 0) jp_int)))))))))))))))
theorem fn__law_is_row (T : Txt K mg) : Fn P w K mg base 2 "_law_is_row" d__law_is_row := by
  obtain ⟨fd, F⟩ := T.f__law_is_row
  exact ⟨_, fd, ["_law_matter", "_law_labels"], ok__law_is_row T F, T.g__law_is_row, F.kp, F.bindsN fun _ _ _ _ _ _ us hl => match us, hl with | [_, _], _ => rfl⟩
abbrev s__law_is_whole : Stmt := top 25
theorem sc__law_is_whole : FnScope ["_law_matter", "_law_labels", "_law_names", "_law_bit", "_law_row"] ["_law_matter"] (defScope s__law_is_whole) := ⟨rfl, rfl, rfl, by decide +kernel, rfl, by decide +kernel, by decide +kernel⟩
def d__law_is_whole : List D → Rs D := den 1 5 (sseq (sif (lf [] (tor (fun δ => bind ((tr (visi .tuple (v 0))) δ) fun b => ok (!b)) (tb (op2 dNe (vcallB (one dLen) (acons (v 0) anil)) (c (.int 2)))))) (sret (lf [] (c (.bl false)))) snext) (sseq (sif (lf [] (tor (fun δ => bind ((tr (visi .tuple (op2 dIx (v 0) (c (.int 0))))) δ) fun b => ok (!b)) (tor (fun δ => bind ((tr (visi .tuple (op2 dIx (v 0) (c (.int 1))))) δ) fun b => ok (!b)) (tb (op2 dIn (vtup anil) (v 0)))))) (sret (lf [] (c (.bl false)))) snext) (sseq (sif (lf [] (fun δ => bind ((tr (vcallB (one dAll) (acons (pur (ecomp [3] (iany (lf [] (op2 dIx (v 0) (c (.int 0))))) (gn 3) tyes (lf [] (vcall d__law_is_wire (acons (v 3) anil))))) anil))) δ) fun b => ok (!b))) (sret (lf [] (c (.bl false)))) snext) (sseq (sset 1 (lf [] (pur (ecomp [3] (iany (lf [] (op2 dIx (v 0) (c (.int 0))))) (gn 3) tyes (lf [] (op2 dIx (v 3) (c (.int 0)))))))) (sseq (sif (lf [] (tor (tb (op2 dNe (v 1) (vsset (v 1)))) (fun δ => bind ((tr (vcallB (one dAll) (acons (pur (ecomp [4] (iany (lf [] (op2 dIx (v 0) (c (.int 1))))) (gn 4) tyes (lf [] (vcall d__law_is_row (acons (v 4) (acons (v 1) anil)))))) anil))) δ) fun b => ok (!b)))) (sret (lf [] (c (.bl false)))) snext) (sseq (sset 2 (ecomp [4] (iany (lf [] (op2 dIx (v 0) (c (.int 1))))) (gn 4) tyes (lf [] (op2 dIx (v 4) (c (.int 0)))))) (sret (lf [] (op2 dEq (v 2) (vsset (v 2)))))))))))
theorem ok__law_is_whole (T : Txt K mg) {fd : FuncData} (F : FunD K "_law_is_whole" "_law_is_whole" (defArgs s__law_is_whole) (defBody s__law_is_whole) (defScope s__law_is_whole) [] [] (He.ga K "_law_is_whole") fd) : FnOk P w K mg base (L2.CX P w) 3 (He.ga K "_law_is_whole") fd ["_law_matter"] (spP K d__law_is_whole) := by
  have sc := sc__law_is_whole
  exact fn_okB F sc (own := []) rfl rfl (fun cdv A outer s H E hr => (jb_cons (js_if (js_lift (jt_w (jw_or (jt_not (jt_truth (jp_isi .tuple T.b_isinstance T.b_tuple PyProof.Rows.boot_tuple (jp_v 0)))) (jw_or1 (jt_ne hr (jp_callB b_len d_len T.b_len PySem.boot_len (ja_cons (jp_v 0) ja_nil)) jp_int))))) (js_one (js_ret (js_lift jp_bl))) js_nil) (jb_cons (js_if (js_lift (jt_w (jw_or (jt_not (jt_truth (jp_isi .tuple T.b_isinstance T.b_tuple PyProof.Rows.boot_tuple (jp_ix hr (jp_v 0) jp_int)))) (jw_or (jt_not (jt_truth (jp_isi .tuple T.b_isinstance T.b_tuple PyProof.Rows.boot_tuple (jp_ix hr (jp_v 0) jp_int)))) (jw_or1 (jt_c (jc_in hr (jp_tup ja_nil) (jp_v 0)))))))) (js_one (js_ret (js_lift jp_bl))) js_nil) (jb_cons (js_if (js_lift (jt_not (jt_truth (jp_callB (cr_all rfl) d_all T.b_all PyProof.Rows.boot_all (ja_cons (j_of (je_lc (ow := [("_law_bit", 3)]) rfl sc.nd (ji_any (js_lift (jp_ix hr (jp_v 0) jp_int))) (blkOk_by (by kernel_rfl)) (fun _ _ _ _ _ => (jg_n 3 sc.nd)) (fun _ _ _ _ _ => jts_nil) (fun _ _ _ _ _ => (js_lift (jp_call (fn__law_is_wire T) (hr.mono (by omega)) (ja_cons (jp_v 3) ja_nil)))))) ja_nil))))) (js_one (js_ret (js_lift jp_bl))) js_nil) (jb_cons (js_set 1 sc.nd (js_lift (j_of (je_lc (ow := [("_law_bit", 3)]) rfl sc.nd (ji_any (js_lift (jp_ix hr (jp_v 0) jp_int))) (blkOk_by (by kernel_rfl)) (fun _ _ _ _ _ => (jg_n 3 sc.nd)) (fun _ _ _ _ _ => jts_nil) (fun _ _ _ _ _ => (js_lift (jp_ix hr (jp_v 3) jp_int))))))) (jb_cons (js_if (js_lift (jt_w (jw_or (jt_ne hr (jp_v 1) (jp_sset (hu70 hr) T.b_sorted T.b_set (jp_v 1))) (jw_or1 (jt_not (jt_truth (jp_callB (cr_all rfl) d_all T.b_all PyProof.Rows.boot_all (ja_cons (j_of (je_lc (ow := [("_law_row", 4)]) rfl sc.nd (ji_any (js_lift (jp_ix hr (jp_v 0) jp_int))) (blkOk_by (by kernel_rfl)) (fun _ _ _ _ _ => (jg_n 4 sc.nd)) (fun _ _ _ _ _ => jts_nil) (fun _ _ _ _ _ => (js_lift (jp_call (fn__law_is_row T) (hr.mono (by omega)) (ja_cons (jp_v 4) (ja_cons (jp_v 1) ja_nil))))))) ja_nil)))))))) (js_one (js_ret (js_lift jp_bl))) js_nil) (jb_cons (js_setLc (ow := [("_law_row", 4)]) 2 rfl sc.nd (ji_any (js_lift (jp_ix hr (jp_v 0) jp_int))) (blkOk_by (by kernel_rfl)) (fun _ _ _ _ _ => (jg_n 4 sc.nd)) (fun _ _ _ _ _ => jts_nil) (fun _ _ _ _ _ => (js_lift (jp_ix hr (jp_v 4) jp_int)))) (jb_of (js_one (js_ret (js_lift (jp_eq hr (jp_v 2) (jp_sset (hu70 hr) T.b_sorted T.b_set (jp_v 2))))))))))))))
theorem fn__law_is_whole (T : Txt K mg) : Fn P w K mg base 3 "_law_is_whole" d__law_is_whole := by
  obtain ⟨fd, F⟩ := T.f__law_is_whole
  exact ⟨_, fd, ["_law_matter"], ok__law_is_whole T F, T.g__law_is_whole, F.kp, F.bindsN fun _ _ _ _ _ _ us hl => match us, hl with | [_], _ => rfl⟩
abbrev s__law_by_hand : Stmt := top 26
theorem sc__law_by_hand : FnScope ["_dummy", "_law_wires", "_law_x", "_law_some", "_law_rows", "_law_great", "_law_lone", "_law_many", "_law_sign", "_law_row", "_law_wire"] [] (defScope s__law_by_hand) := ⟨rfl, rfl, rfl, by decide +kernel, rfl, by decide +kernel, by decide +kernel⟩
def d__law_by_hand : List D → Rs D := den 0 11 (sseq (sasg (gt (gscons (gn 1) (gscons (gn 2) gsnil))) (lf [4] (vtup (acons (vtup (acons (vtup (acons (c (.str "a")) (acons (c (.int 1)) anil))) (acons (vtup (acons (c (.str "b")) (acons (c (.int 2)) anil))) anil))) (acons (vtup (acons (c (.str "x")) (acons (vtup (acons (c (.str "a")) (acons (c (.str "b")) anil))) (acons (c (.int 1)) (acons (c (.int 0)) (acons (c .non) anil)))))) anil))))) (sseq (sset 3 (lf [4] (vlst (acons (vtup (acons (v 1) (acons (vtup (acons (v 2) anil)) anil))) (acons (vtup (acons (vrev (v 1)) (acons (vtup (acons (v 2) anil)) anil))) (acons (vtup (acons (v 1) (acons (vtup (acons (v 2) (acons (v 2) anil))) anil))) (acons (vtup (acons (v 1) (acons (vtup (acons (v 2) (acons (vtup (acons (c (.str "y")) (acons (vtup (acons (c (.str "c")) anil)) (acons (c (.int 1)) (acons (c (.int 0)) (acons (c .non) anil)))))) anil))) anil))) anil))))))) (sseq (sset 4 (elst (lf [4] (acons (vtup (acons (c (.str "x")) (acons (vtup (acons (c (.str "b")) (acons (c (.str "a")) anil))) (acons (c (.int 1)) (acons (c (.int 0)) (acons (c .non) anil)))))) (acons (vtup (acons (c (.str "x")) (acons (vtup (acons (c (.str "a")) (acons (c (.str "a")) anil))) (acons (c (.int 1)) (acons (c (.int 0)) (acons (c .non) anil)))))) (acons (vtup (acons (c (.str "x")) (acons (vtup anil) (acons (c (.int 1)) (acons (c (.int 0)) (acons (c .non) anil)))))) (acons (vsl (v 2) onone (osome (c (.int 4)))) (acons (op2 dAdd (v 2) (vtup (acons (c .non) anil))) anil)))))))) (sseq (sset 4 (eaddO 4 (lf [4] (vlst (acons (vtup (acons (c (.str "x")) (acons (vtup (acons (c (.str "a")) anil)) (acons (c (.int 0)) (acons (c (.int 0)) (acons (c .non) anil)))))) (acons (vtup (acons (c (.str "x")) (acons (vtup (acons (c (.str "a")) anil)) (acons (c (.int 1)) (acons (vneg (c (.int 1))) (acons (c .non) anil)))))) (acons (vtup (acons (c (.str "x")) (acons (vtup (acons (c (.str "a")) anil)) (acons (c (.int 1)) (acons (c (.int 0)) (acons (c (.int 0)) anil)))))) anil))))))) (sseq (sset 4 (eaddO 4 (lf [4] (vlst (acons (vtup (acons (c (.str "x")) (acons (c (.str "a")) (acons (c (.int 1)) (acons (c (.int 0)) (acons (c .non) anil)))))) (acons (vtup (acons (c (.str "x")) (acons (vtup (acons (c (.str "a")) (acons (c (.int 1)) anil))) (acons (c (.int 1)) (acons (c (.int 0)) (acons (c .non) anil)))))) (acons (vtup (acons (c (.str "x")) (acons (vtup (acons (c (.int 1)) (acons (c (.str "a")) anil))) (acons (c (.int 1)) (acons (c (.int 0)) (acons (c .non) anil)))))) anil))))))) (sseq (sset 4 (eaddO 4 (lf [4] (vlst (acons (vtup (acons (c (.str "x")) (acons (vtup (acons (c .non) anil)) (acons (c (.int 1)) (acons (c (.int 0)) (acons (c .non) anil)))))) (acons (vtup (acons (c (.str "x")) (acons (vtup (acons (c (.str "a")) (acons (vtup (acons (c (.str "b")) anil)) anil))) (acons (c (.int 1)) (acons (c (.int 0)) (acons (c .non) anil)))))) (acons (vtup (acons (c (.str "x")) (acons (vtup (acons (c (.str "a")) anil)) (acons (c (.int 1)) (acons (c (.str "b")) (acons (c (.int 3)) anil)))))) anil))))))) (sseq (sset 4 (eaddO 4 (lf [4] (vlst (acons (vtup (acons (c (.str "x")) (acons (vtup (acons (c (.str "a")) anil)) (acons (c (.int 1)) (acons (c (.int 0)) (acons (c (.str "c")) anil)))))) (acons (vtup (acons (c (.str "x")) (acons (vtup (acons (c (.str "a")) anil)) (acons (c (.int 1)) (acons (c .non) (acons (c .non) anil)))))) (acons (vtup (acons (c (.str "x")) (acons (vtup (acons (c (.str "a")) anil)) (acons (c (.int 1)) (acons (vtup (acons (c (.int 1)) anil)) (acons (c (.int 3)) anil)))))) anil))))))) (sseq (sset 4 (eaddO 4 (lf [4] (vlst (acons (vtup (acons (c (.str "aB")) (acons (vtup (acons (c (.str "a")) anil)) (acons (c (.int 1)) (acons (c (.int 0)) (acons (c .non) anil)))))) (acons (vtup (acons (c (.str "X")) (acons (vtup (acons (c (.str "a")) anil)) (acons (c (.int 1)) (acons (c (.int 0)) (acons (c .non) anil)))))) (acons (vtup (acons (c (.str "x y")) (acons (vtup (acons (c (.str "a")) anil)) (acons (c (.int 1)) (acons (c (.int 0)) (acons (c .non) anil)))))) anil))))))) (sseq (sset 4 (eaddO 4 (lf [4] (vlst (acons (vtup (acons (c (.str "x")) (acons (vtup (acons (c (.str "a")) anil)) (acons (c (.int 1)) (acons (c (.int 0)) (acons (vtup (acons (c (.int 5)) (acons (c (.int 1)) anil))) anil)))))) (acons (vtup (acons (c (.str "x")) (acons (vtup (acons (c (.str "a")) anil)) (acons (c .non) (acons (c (.int 0)) (acons (c .non) anil)))))) (acons (vtup (acons (c (.str "x")) (acons (vtup (acons (c (.str "a")) anil)) (acons (vtup (acons (c (.int 1)) (acons (c (.int 1)) anil))) (acons (c (.int 0)) (acons (c .non) anil)))))) anil))))))) (sseq (sset 4 (eaddO 4 (lf [4] (vlst (acons (vtup (acons (c (.str "x")) (acons (vtup (acons (c (.str "a")) anil)) (acons (c (.int 1)) (acons (c (.int 3)) (acons (c (.int 2)) anil)))))) (acons (vtup (acons (c (.str "x")) (acons (vtup (acons (c (.str "a")) anil)) (acons (c (.int 1)) (acons (c (.int 3)) (acons (c (.int 3)) anil)))))) (acons (vtup (acons (c (.str "x")) (acons (vtup (acons (c (.str "a")) anil)) (acons (c (.bl true)) (acons (c (.int 0)) (acons (c .non) anil)))))) (acons (vlst (acons (c (.str "x")) anil)) (acons (c (.str "x")) (acons (c .non) anil)))))))))) (sseq (sset 4 (eaddO 4 (lf [4] (vlst (acons (vtup (acons (c (.str "x")) (acons (vtup (acons (c (.str "a")) anil)) (acons (c (.int 1)) (acons (c (.bl false)) (acons (c .non) anil)))))) (acons (vtup (acons (c (.str "x")) (acons (vtup (acons (c (.str "a")) anil)) (acons (c (.int 1)) (acons (c (.int 0)) (acons (c (.bl true)) anil)))))) (acons (vtup (acons (c (.str "x")) (acons (vlst (acons (c (.str "a")) anil)) (acons (c (.int 1)) (acons (c (.int 0)) (acons (c .non) anil)))))) anil))))))) (sseq (sapp 4 (lf [4] (op2 dAdd (vtup (acons (vtup (acons (c (.str "x")) anil)) anil)) (vsl (v 2) (osome (c (.int 1))) onone)))) (sfrz [4] (sseq (sset 3 (lf [] (op2 dAdd (op2 dAdd (v 3) (pur (ecomp [9] (iany (lf [] (v 4))) (gn 9) tyes (lf [] (vtup (acons (v 1) (acons (vtup (acons (v 9) anil)) anil))))))) (vlst (acons (vtup (acons (v 1) (acons (vtup (acons (vtup (acons (c (.str "y")) (acons (vtup (acons (c (.str "a")) anil)) (acons (c (.int 1)) (acons (c (.int 0)) (acons (c .non) anil)))))) (acons (v 2) anil))) anil))) (acons (vtup (acons (v 1) (acons (vlst (acons (v 2) anil)) anil))) anil)))))) (sseq (sset 3 (lf [] (op2 dAdd (v 3) (vlst (acons (vtup (acons (vtup (acons (vtup (acons (c (.str "a")) (acons (c (.int 0)) anil))) (acons (vtup (acons (c (.str "b")) (acons (c (.int 2)) anil))) anil))) (acons (vtup (acons (v 2) anil)) anil))) (acons (vtup (acons (vtup (acons (vtup (acons (c (.str "a")) (acons (c (.bl true)) anil))) (acons (vtup (acons (c (.str "b")) (acons (c (.int 2)) anil))) anil))) (acons (vtup (acons (v 2) anil)) anil))) (acons (vtup (acons (vtup (acons (vlst (acons (c (.str "a")) (acons (c (.int 1)) anil))) (acons (vtup (acons (c (.str "b")) (acons (c (.int 2)) anil))) anil))) (acons (vtup (acons (v 2) anil)) anil))) anil))))))) (sseq (sset 5 (lf [] (vtup (acons (c (.str "zzzzzzzz")) (acons (vtup (acons (c (.str "a")) (acons (c (.str "zzzzzzzz")) anil))) (acons (op2 dPow (c (.int 10)) (c (.int 9))) (acons (op2 dPow (c (.int 10)) (c (.int 9))) (acons (op2 dPow (c (.int 10)) (c (.int 9))) anil)))))))) (sseq (sset 6 (lf [] (op2 dAdd (op2 dAdd (vsl (v 2) onone (osome (c (.int 1)))) (vtup (acons (vtup (acons (c (.str "a")) anil)) anil))) (vsl (v 2) (osome (c (.int 2))) onone)))) (sseq (sset 3 (lf [] (op2 dAdd (v 3) (vlst (acons (vtup (acons (vtup (acons (vtup (acons (c (.str "a")) (acons (op2 dPow (c (.int 10)) (c (.int 12))) anil))) (acons (vtup (acons (c (.str "zzzzzzzz")) (acons (c (.int 1)) anil))) anil))) (acons (vtup (acons (v 5) anil)) anil))) (acons (vtup (acons (vtup (acons (vtup (acons (c (.str "a")) (acons (c (.int 1)) anil))) (acons (vtup (acons (c (.str "a")) (acons (c (.int 1)) anil))) anil))) (acons (vtup (acons (v 2) anil)) anil))) anil)))))) (sseq (sset 3 (lf [] (op2 dAdd (v 3) (vlst (acons (vtup (acons (vtup (acons (vtup (acons (c (.str "a")) (acons (c (.int 1)) anil))) (acons (vtup (acons (c (.str "a")) (acons (c (.int 2)) anil))) anil))) (acons (vtup (acons (v 6) anil)) anil))) (acons (vtup (acons (vtup (acons (vtup (acons (c (.str "a")) (acons (c (.int 1)) anil))) (acons (vtup (acons (c (.str "a")) (acons (c (.int 1)) anil))) anil))) (acons (vtup (acons (v 6) anil)) anil))) anil)))))) (sseq (sset 3 (lf [] (op2 dAdd (v 3) (vlst (acons (vtup (acons (v 1) (acons (vtup (acons (v 2) (acons (op2 dAdd (vsl (v 2) onone (osome (c (.int 2)))) (vtup (acons (c (.int 2)) (acons (c (.int 0)) (acons (c .non) anil))))) anil))) anil))) (acons (vtup (acons (v 1) (acons (vtup (acons (v 2) (acons (op2 dAdd (op2 dAdd (vsl (v 2) onone (osome (c (.int 1)))) (vtup (acons (vtup (acons (c (.str "b")) anil)) anil))) (vsl (v 2) (osome (c (.int 2))) onone)) anil))) anil))) anil)))))) (sseq (sset 3 (lf [] (op2 dAdd (v 3) (vlst (acons (vtup (acons (v 1) (acons (vtup anil) anil))) (acons (vtup (acons (vtup anil) (acons (vtup (acons (v 2) anil)) anil))) anil)))))) (sseq (sset 3 (lf [] (op2 dAdd (v 3) (vlst (acons (vtup (acons (v 1) anil)) (acons (vtup (acons (v 1) (acons (vtup (acons (v 2) anil)) (acons (vtup anil) anil)))) (acons (vlst (acons (v 1) (acons (vtup (acons (v 2) anil)) anil))) (acons (vtup (acons (v 1) (acons (v 2) anil))) (acons (vtup (acons (vtup (acons (vtup (acons (c (.str "a")) (acons (vtup (acons (c (.int 1)) (acons (c (.int 1)) anil))) anil))) (acons (vtup (acons (c (.str "b")) (acons (c (.int 1)) anil))) anil))) (acons (vtup (acons (v 2) anil)) anil))) anil))))))))) (sseq (sset 7 (lf [] (vcallB (one dTuple) (acons (pur (ecomp [8] (iany (lf [] (c (.str "bcdefg")))) (gn 8) tyes (lf [] (vtup (acons (op2 dAdd (c (.str "ab")) (v 8)) (acons (c (.int 7)) anil)))))) anil)))) (sseq (sset 4 (lf [] (vcallB (one dTuple) (acons (pur (ecomp [8] (iany (lf [] (c (.str "abcdefghi")))) (gn 8) tyes (lf [] (vtup (acons (op2 dAdd (c (.str "f")) (v 8)) (acons (vcallB (one dTuple) (acons (pur (ecomp [10] (iany (lf [] (v 7))) (gn 10) tyes (lf [] (op2 dIx (v 10) (c (.int 0)))))) anil)) (acons (c (.int 10)) (acons (c (.int 2000)) (acons (c .non) anil))))))))) anil)))) (sseq (sset 3 (lf [] (op2 dAdd (v 3) (vlst (acons (vtup (acons (v 7) (acons (v 4) anil))) (acons (vtup (acons (v 7) (acons (op2 dAdd (v 4) (vsl (v 4) (osome (vneg (c (.int 1)))) onone)) anil))) (acons (vtup (acons (vtup (acons (vtup (acons (c (.str "aB")) (acons (c (.int 1)) anil))) anil)) (acons (vtup (acons (vtup (acons (c (.str "x")) (acons (vtup (acons (c (.str "aB")) anil)) (acons (c (.int 1)) (acons (c (.int 0)) (acons (c .non) anil)))))) anil)) anil))) anil))))))) (sret (lf [] (op2 dAdd (v 3) (vlst (acons (c .non) (acons (c (.int 0)) (acons (c (.bl true)) (acons (c (.str "a")) (acons (vtup anil) (acons (vlst anil) (acons (vtup (acons (vtup anil) (acons (vtup anil) anil))) (acons (vtup (acons (c .non) (acons (c .non) anil))) anil)))))))))))))))))))))))))))))))))))))
theorem ok__law_by_hand (T : Txt K mg) {fd : FuncData} (F : FunD K "_law_by_hand" "_law_by_hand" (defArgs s__law_by_hand) (defBody s__law_by_hand) (defScope s__law_by_hand) [] [] (He.ga K "_law_by_hand") fd) : FnOk P w K mg base (L2.CX P w) 1 (He.ga K "_law_by_hand") fd [] (spP K d__law_by_hand) := by
  have sc := sc__law_by_hand
  exact fn_okB F sc (own := [4]) rfl rfl (fun cdv A outer s H E hr => (jb_cons (js_asg (jg_t rfl (jgs_cons (jg_n 1 sc.nd) (jgs_cons (jg_n 2 sc.nd) jgs_nil)) (gl_cons (gl_cons gl_nil))) (js_lift (jp_tup (ja_cons (jp_tup (ja_cons (jp_tup (ja_cons jp_str (ja_cons jp_int ja_nil))) (ja_cons (jp_tup (ja_cons jp_str (ja_cons jp_int ja_nil))) ja_nil))) (ja_cons (jp_tup (ja_cons jp_str (ja_cons (jp_tup (ja_cons jp_str (ja_cons jp_str ja_nil))) (ja_cons jp_int (ja_cons jp_int (ja_cons jp_non ja_nil)))))) ja_nil))))) (jb_cons (js_set 3 sc.nd (js_lift (jp_lst (ja_cons (jp_tup (ja_cons (jp_v 1) (ja_cons (jp_tup (ja_cons (jp_v 2) ja_nil)) ja_nil))) (ja_cons (jp_tup (ja_cons (jp_rev (jp_v 1)) (ja_cons (jp_tup (ja_cons (jp_v 2) ja_nil)) ja_nil))) (ja_cons (jp_tup (ja_cons (jp_v 1) (ja_cons (jp_tup (ja_cons (jp_v 2) (ja_cons (jp_v 2) ja_nil))) ja_nil))) (ja_cons (jp_tup (ja_cons (jp_v 1) (ja_cons (jp_tup (ja_cons (jp_v 2) (ja_cons (jp_tup (ja_cons jp_str (ja_cons (jp_tup (ja_cons jp_str ja_nil)) (ja_cons jp_int (ja_cons jp_int (ja_cons jp_non ja_nil)))))) ja_nil))) ja_nil))) ja_nil))))))) (jb_cons (js_setN 4 sc.nd (jn_lst (js_lift (ja_cons (jp_tup (ja_cons jp_str (ja_cons (jp_tup (ja_cons jp_str (ja_cons jp_str ja_nil))) (ja_cons jp_int (ja_cons jp_int (ja_cons jp_non ja_nil)))))) (ja_cons (jp_tup (ja_cons jp_str (ja_cons (jp_tup (ja_cons jp_str (ja_cons jp_str ja_nil))) (ja_cons jp_int (ja_cons jp_int (ja_cons jp_non ja_nil)))))) (ja_cons (jp_tup (ja_cons jp_str (ja_cons (jp_tup ja_nil) (ja_cons jp_int (ja_cons jp_int (ja_cons jp_non ja_nil)))))) (ja_cons (jp_sl (jp_v 2) jo_none (jo_some jp_int)) (ja_cons (jp_add (jp_v 2) (jp_tup (ja_cons jp_non ja_nil))) ja_nil)))))))) (jb_cons (js_setN 4 sc.nd (jn_addO 4 (js_lift (jp_lst (ja_cons (jp_tup (ja_cons jp_str (ja_cons (jp_tup (ja_cons jp_str ja_nil)) (ja_cons jp_int (ja_cons jp_int (ja_cons jp_non ja_nil)))))) (ja_cons (jp_tup (ja_cons jp_str (ja_cons (jp_tup (ja_cons jp_str ja_nil)) (ja_cons jp_int (ja_cons (jp_neg jp_int) (ja_cons jp_non ja_nil)))))) (ja_cons (jp_tup (ja_cons jp_str (ja_cons (jp_tup (ja_cons jp_str ja_nil)) (ja_cons jp_int (ja_cons jp_int (ja_cons jp_int ja_nil)))))) ja_nil))))))) (jb_cons (js_setN 4 sc.nd (jn_addO 4 (js_lift (jp_lst (ja_cons (jp_tup (ja_cons jp_str (ja_cons jp_str (ja_cons jp_int (ja_cons jp_int (ja_cons jp_non ja_nil)))))) (ja_cons (jp_tup (ja_cons jp_str (ja_cons (jp_tup (ja_cons jp_str (ja_cons jp_int ja_nil))) (ja_cons jp_int (ja_cons jp_int (ja_cons jp_non ja_nil)))))) (ja_cons (jp_tup (ja_cons jp_str (ja_cons (jp_tup (ja_cons jp_int (ja_cons jp_str ja_nil))) (ja_cons jp_int (ja_cons jp_int (ja_cons jp_non ja_nil)))))) ja_nil))))))) (jb_cons (js_setN 4 sc.nd (jn_addO 4 (js_lift (jp_lst (ja_cons (jp_tup (ja_cons jp_str (ja_cons (jp_tup (ja_cons jp_non ja_nil)) (ja_cons jp_int (ja_cons jp_int (ja_cons jp_non ja_nil)))))) (ja_cons (jp_tup (ja_cons jp_str (ja_cons (jp_tup (ja_cons jp_str (ja_cons (jp_tup (ja_cons jp_str ja_nil)) ja_nil))) (ja_cons jp_int (ja_cons jp_int (ja_cons jp_non ja_nil)))))) (ja_cons (jp_tup (ja_cons jp_str (ja_cons (jp_tup (ja_cons jp_str ja_nil)) (ja_cons jp_int (ja_cons jp_str (ja_cons jp_int ja_nil)))))) ja_nil))))))) (jb_cons (js_setN 4 sc.nd (jn_addO 4 (js_lift (jp_lst (ja_cons (jp_tup (ja_cons jp_str (ja_cons (jp_tup (ja_cons jp_str ja_nil)) (ja_cons jp_int (ja_cons jp_int (ja_cons jp_str ja_nil)))))) (ja_cons (jp_tup (ja_cons jp_str (ja_cons (jp_tup (ja_cons jp_str ja_nil)) (ja_cons jp_int (ja_cons jp_non (ja_cons jp_non ja_nil)))))) (ja_cons (jp_tup (ja_cons jp_str (ja_cons (jp_tup (ja_cons jp_str ja_nil)) (ja_cons jp_int (ja_cons (jp_tup (ja_cons jp_int ja_nil)) (ja_cons jp_int ja_nil)))))) ja_nil))))))) (jb_cons (js_setN 4 sc.nd (jn_addO 4 (js_lift (jp_lst (ja_cons (jp_tup (ja_cons jp_str (ja_cons (jp_tup (ja_cons jp_str ja_nil)) (ja_cons jp_int (ja_cons jp_int (ja_cons jp_non ja_nil)))))) (ja_cons (jp_tup (ja_cons jp_str (ja_cons (jp_tup (ja_cons jp_str ja_nil)) (ja_cons jp_int (ja_cons jp_int (ja_cons jp_non ja_nil)))))) (ja_cons (jp_tup (ja_cons jp_str (ja_cons (jp_tup (ja_cons jp_str ja_nil)) (ja_cons jp_int (ja_cons jp_int (ja_cons jp_non ja_nil)))))) ja_nil))))))) (jb_cons (js_setN 4 sc.nd (jn_addO 4 (js_lift (jp_lst (ja_cons (jp_tup (ja_cons jp_str (ja_cons (jp_tup (ja_cons jp_str ja_nil)) (ja_cons jp_int (ja_cons jp_int (ja_cons (jp_tup (ja_cons jp_int (ja_cons jp_int ja_nil))) ja_nil)))))) (ja_cons (jp_tup (ja_cons jp_str (ja_cons (jp_tup (ja_cons jp_str ja_nil)) (ja_cons jp_non (ja_cons jp_int (ja_cons jp_non ja_nil)))))) (ja_cons (jp_tup (ja_cons jp_str (ja_cons (jp_tup (ja_cons jp_str ja_nil)) (ja_cons (jp_tup (ja_cons jp_int (ja_cons jp_int ja_nil))) (ja_cons jp_int (ja_cons jp_non ja_nil)))))) ja_nil))))))) (jb_cons (js_setN 4 sc.nd (jn_addO 4 (js_lift (jp_lst (ja_cons (jp_tup (ja_cons jp_str (ja_cons (jp_tup (ja_cons jp_str ja_nil)) (ja_cons jp_int (ja_cons jp_int (ja_cons jp_int ja_nil)))))) (ja_cons (jp_tup (ja_cons jp_str (ja_cons (jp_tup (ja_cons jp_str ja_nil)) (ja_cons jp_int (ja_cons jp_int (ja_cons jp_int ja_nil)))))) (ja_cons (jp_tup (ja_cons jp_str (ja_cons (jp_tup (ja_cons jp_str ja_nil)) (ja_cons jp_bl (ja_cons jp_int (ja_cons jp_non ja_nil)))))) (ja_cons (jp_lst (ja_cons jp_str ja_nil)) (ja_cons jp_str (ja_cons jp_non ja_nil)))))))))) (jb_cons (js_setN 4 sc.nd (jn_addO 4 (js_lift (jp_lst (ja_cons (jp_tup (ja_cons jp_str (ja_cons (jp_tup (ja_cons jp_str ja_nil)) (ja_cons jp_int (ja_cons jp_bl (ja_cons jp_non ja_nil)))))) (ja_cons (jp_tup (ja_cons jp_str (ja_cons (jp_tup (ja_cons jp_str ja_nil)) (ja_cons jp_int (ja_cons jp_int (ja_cons jp_bl ja_nil)))))) (ja_cons (jp_tup (ja_cons jp_str (ja_cons (jp_lst (ja_cons jp_str ja_nil)) (ja_cons jp_int (ja_cons jp_int (ja_cons jp_non ja_nil)))))) ja_nil))))))) (jb_cons (js_app 4 (js_lift (jp_add (jp_tup (ja_cons (jp_tup (ja_cons jp_str ja_nil)) ja_nil)) (jp_sl (jp_v 2) (jo_some jp_int) jo_none)))) (jb_frz (own := [4]) 4 (jb_cons (js_set 3 sc.nd (js_lift (jp_add (jp_add (jp_v 3) (j_of (je_lc (ow := [("_law_row", 9)]) rfl sc.nd (ji_any (js_lift (jp_v 4))) (blkOk_by (by kernel_rfl)) (fun _ _ _ _ _ => (jg_n 9 sc.nd)) (fun _ _ _ _ _ => jts_nil) (fun _ _ _ _ _ => (js_lift (jp_tup (ja_cons (jp_v 1) (ja_cons (jp_tup (ja_cons (jp_v 9) ja_nil)) ja_nil)))))))) (jp_lst (ja_cons (jp_tup (ja_cons (jp_v 1) (ja_cons (jp_tup (ja_cons (jp_tup (ja_cons jp_str (ja_cons (jp_tup (ja_cons jp_str ja_nil)) (ja_cons jp_int (ja_cons jp_int (ja_cons jp_non ja_nil)))))) (ja_cons (jp_v 2) ja_nil))) ja_nil))) (ja_cons (jp_tup (ja_cons (jp_v 1) (ja_cons (jp_lst (ja_cons (jp_v 2) ja_nil)) ja_nil))) ja_nil)))))) (jb_cons (js_set 3 sc.nd (js_lift (jp_add (jp_v 3) (jp_lst (ja_cons (jp_tup (ja_cons (jp_tup (ja_cons (jp_tup (ja_cons jp_str (ja_cons jp_int ja_nil))) (ja_cons (jp_tup (ja_cons jp_str (ja_cons jp_int ja_nil))) ja_nil))) (ja_cons (jp_tup (ja_cons (jp_v 2) ja_nil)) ja_nil))) (ja_cons (jp_tup (ja_cons (jp_tup (ja_cons (jp_tup (ja_cons jp_str (ja_cons jp_bl ja_nil))) (ja_cons (jp_tup (ja_cons jp_str (ja_cons jp_int ja_nil))) ja_nil))) (ja_cons (jp_tup (ja_cons (jp_v 2) ja_nil)) ja_nil))) (ja_cons (jp_tup (ja_cons (jp_tup (ja_cons (jp_lst (ja_cons jp_str (ja_cons jp_int ja_nil))) (ja_cons (jp_tup (ja_cons jp_str (ja_cons jp_int ja_nil))) ja_nil))) (ja_cons (jp_tup (ja_cons (jp_v 2) ja_nil)) ja_nil))) ja_nil))))))) (jb_cons (js_set 5 sc.nd (js_lift (jp_tup (ja_cons jp_str (ja_cons (jp_tup (ja_cons jp_str (ja_cons jp_str ja_nil))) (ja_cons (jp_pow jp_int jp_int) (ja_cons (jp_pow jp_int jp_int) (ja_cons (jp_pow jp_int jp_int) ja_nil)))))))) (jb_cons (js_set 6 sc.nd (js_lift (jp_add (jp_add (jp_sl (jp_v 2) jo_none (jo_some jp_int)) (jp_tup (ja_cons (jp_tup (ja_cons jp_str ja_nil)) ja_nil))) (jp_sl (jp_v 2) (jo_some jp_int) jo_none)))) (jb_cons (js_set 3 sc.nd (js_lift (jp_add (jp_v 3) (jp_lst (ja_cons (jp_tup (ja_cons (jp_tup (ja_cons (jp_tup (ja_cons jp_str (ja_cons (jp_pow jp_int jp_int) ja_nil))) (ja_cons (jp_tup (ja_cons jp_str (ja_cons jp_int ja_nil))) ja_nil))) (ja_cons (jp_tup (ja_cons (jp_v 5) ja_nil)) ja_nil))) (ja_cons (jp_tup (ja_cons (jp_tup (ja_cons (jp_tup (ja_cons jp_str (ja_cons jp_int ja_nil))) (ja_cons (jp_tup (ja_cons jp_str (ja_cons jp_int ja_nil))) ja_nil))) (ja_cons (jp_tup (ja_cons (jp_v 2) ja_nil)) ja_nil))) ja_nil)))))) (jb_cons (js_set 3 sc.nd (js_lift (jp_add (jp_v 3) (jp_lst (ja_cons (jp_tup (ja_cons (jp_tup (ja_cons (jp_tup (ja_cons jp_str (ja_cons jp_int ja_nil))) (ja_cons (jp_tup (ja_cons jp_str (ja_cons jp_int ja_nil))) ja_nil))) (ja_cons (jp_tup (ja_cons (jp_v 6) ja_nil)) ja_nil))) (ja_cons (jp_tup (ja_cons (jp_tup (ja_cons (jp_tup (ja_cons jp_str (ja_cons jp_int ja_nil))) (ja_cons (jp_tup (ja_cons jp_str (ja_cons jp_int ja_nil))) ja_nil))) (ja_cons (jp_tup (ja_cons (jp_v 6) ja_nil)) ja_nil))) ja_nil)))))) (jb_cons (js_set 3 sc.nd (js_lift (jp_add (jp_v 3) (jp_lst (ja_cons (jp_tup (ja_cons (jp_v 1) (ja_cons (jp_tup (ja_cons (jp_v 2) (ja_cons (jp_add (jp_sl (jp_v 2) jo_none (jo_some jp_int)) (jp_tup (ja_cons jp_int (ja_cons jp_int (ja_cons jp_non ja_nil))))) ja_nil))) ja_nil))) (ja_cons (jp_tup (ja_cons (jp_v 1) (ja_cons (jp_tup (ja_cons (jp_v 2) (ja_cons (jp_add (jp_add (jp_sl (jp_v 2) jo_none (jo_some jp_int)) (jp_tup (ja_cons (jp_tup (ja_cons jp_str ja_nil)) ja_nil))) (jp_sl (jp_v 2) (jo_some jp_int) jo_none)) ja_nil))) ja_nil))) ja_nil)))))) (jb_cons (js_set 3 sc.nd (js_lift (jp_add (jp_v 3) (jp_lst (ja_cons (jp_tup (ja_cons (jp_v 1) (ja_cons (jp_tup ja_nil) ja_nil))) (ja_cons (jp_tup (ja_cons (jp_tup ja_nil) (ja_cons (jp_tup (ja_cons (jp_v 2) ja_nil)) ja_nil))) ja_nil)))))) (jb_cons (js_set 3 sc.nd (js_lift (jp_add (jp_v 3) (jp_lst (ja_cons (jp_tup (ja_cons (jp_v 1) ja_nil)) (ja_cons (jp_tup (ja_cons (jp_v 1) (ja_cons (jp_tup (ja_cons (jp_v 2) ja_nil)) (ja_cons (jp_tup ja_nil) ja_nil)))) (ja_cons (jp_lst (ja_cons (jp_v 1) (ja_cons (jp_tup (ja_cons (jp_v 2) ja_nil)) ja_nil))) (ja_cons (jp_tup (ja_cons (jp_v 1) (ja_cons (jp_v 2) ja_nil))) (ja_cons (jp_tup (ja_cons (jp_tup (ja_cons (jp_tup (ja_cons jp_str (ja_cons (jp_tup (ja_cons jp_int (ja_cons jp_int ja_nil))) ja_nil))) (ja_cons (jp_tup (ja_cons jp_str (ja_cons jp_int ja_nil))) ja_nil))) (ja_cons (jp_tup (ja_cons (jp_v 2) ja_nil)) ja_nil))) ja_nil))))))))) (jb_cons (js_set 7 sc.nd (js_lift (jp_callTy call_tuple_of d_tuple T.b_tuple PyProof.Rows.boot_tuple (ja_cons (j_of (je_lc (ow := [("_law_sign", 8)]) rfl sc.nd (ji_any (js_lift jp_str)) (blkOk_by (by kernel_rfl)) (fun _ _ _ _ _ => (jg_n 8 sc.nd)) (fun _ _ _ _ _ => jts_nil) (fun _ _ _ _ _ => (js_lift (jp_tup (ja_cons (jp_add jp_str (jp_v 8)) (ja_cons jp_int ja_nil))))))) ja_nil)))) (jb_cons (js_set 4 sc.nd (js_lift (jp_callTy call_tuple_of d_tuple T.b_tuple PyProof.Rows.boot_tuple (ja_cons (j_of (je_lc (ow := [("_law_sign", 8)]) rfl sc.nd (ji_any (js_lift jp_str)) (blkOk_by (by kernel_rfl)) (fun _ _ _ _ _ => (jg_n 8 sc.nd)) (fun _ _ _ _ _ => jts_nil) (fun _ _ _ _ _ => (js_lift (jp_tup (ja_cons (jp_add jp_str (jp_v 8)) (ja_cons (jp_callTy call_tuple_of d_tuple T.b_tuple PyProof.Rows.boot_tuple (ja_cons (j_of (je_lc (ow := [("_law_wire", 10)]) rfl sc.nd (ji_any (js_lift (jp_v 7))) (blkOk_by (by kernel_rfl)) (fun _ _ _ _ _ => (jg_n 10 sc.nd)) (fun _ _ _ _ _ => jts_nil) (fun _ _ _ _ _ => (js_lift (jp_ix hr (jp_v 10) jp_int))))) ja_nil)) (ja_cons jp_int (ja_cons jp_int (ja_cons jp_non ja_nil)))))))))) ja_nil)))) (jb_cons (js_set 3 sc.nd (js_lift (jp_add (jp_v 3) (jp_lst (ja_cons (jp_tup (ja_cons (jp_v 7) (ja_cons (jp_v 4) ja_nil))) (ja_cons (jp_tup (ja_cons (jp_v 7) (ja_cons (jp_add (jp_v 4) (jp_sl (jp_v 4) (jo_some (jp_neg jp_int)) jo_none)) ja_nil))) (ja_cons (jp_tup (ja_cons (jp_tup (ja_cons (jp_tup (ja_cons jp_str (ja_cons jp_int ja_nil))) ja_nil)) (ja_cons (jp_tup (ja_cons (jp_tup (ja_cons jp_str (ja_cons (jp_tup (ja_cons jp_str ja_nil)) (ja_cons jp_int (ja_cons jp_int (ja_cons jp_non ja_nil)))))) ja_nil)) ja_nil))) ja_nil))))))) (jb_of (js_one (js_ret (js_lift (jp_add (jp_v 3) (jp_lst (ja_cons jp_non (ja_cons jp_int (ja_cons jp_bl (ja_cons jp_str (ja_cons (jp_tup ja_nil) (ja_cons (jp_lst ja_nil) (ja_cons (jp_tup (ja_cons (jp_tup ja_nil) (ja_cons (jp_tup ja_nil) ja_nil))) (ja_cons (jp_tup (ja_cons jp_non (ja_cons jp_non ja_nil))) ja_nil))))))))))))))))))))))))))))))))))))))))
theorem fn__law_by_hand (T : Txt K mg) : Fn P w K mg base 1 "_law_by_hand" d__law_by_hand := by
  obtain ⟨fd, F⟩ := T.f__law_by_hand
  exact ⟨_, fd, [], ok__law_by_hand T F, T.g__law_by_hand, F.kp, F.bindsN fun _ _ _ _ _ _ us hl => match us, hl with | [], _ => rfl⟩
theorem fnk_is_net_0 (T : Txt K mg) : FnK P w K mg base 3 "is_net" d_is_net ["thing"] [0] := by
  obtain ⟨fd, F⟩ := T.f_is_net
  exact ⟨_, fd, ["thing"], ok_is_net T F, T.g_is_net, F.kp, kbn_of F fun _ _ _ _ _ _ ws hl => match ws, hl with | [_], _ => rfl⟩
abbrev s__law_right : Stmt := top 27
theorem sc__law_right : FnScope ["_law_box_here", "_law_deep", "_law_turn", "_law_some", "_law_wires", "_law_whole_so", "_law_part", "_law_more", "_law_again", "_law_was", "_law_due"] ["_law_box_here"] (defScope s__law_right) := ⟨rfl, rfl, rfl, by decide +kernel, rfl, by decide +kernel, by decide +kernel⟩
def d__law_right : List D → List D → Option (D × List D) := denB 1 11 (sseq (sset 1 (lf [0, 3] (c (.int 7)))) (sseq (sforI (irng1 (lf [0, 3] (c (.int 12)))) (gn 2) (sset 1 (lf [0, 3] (vtup (acons (v 1) anil))))) (sseq (sset 3 (eop2 dCat (lf [0, 3] (vcall0 d__law_by_hand)) (lf [0, 3] (vlst (acons (v 1) anil))))) (sseq (sforI (irng1 (lf [0, 3] (c (.int 5)))) (gn 2) (sseq (sset 4 (eop2 dAdd (lf [0, 3] (c (.int 1))) (ecallB d__law_take 0 (lf [0, 3] (acons (c (.int 5)) anil))))) (sseq (sset 5 (ecallB d__law_drawn_net 0 (econs (lf [0, 3] (v 4)) (econs (eop2 dAdd (lf [0, 3] (c (.int 1))) (ecallB d__law_take 0 (lf [0, 3] (acons (c (.int 8)) anil)))) (econs (lf [0, 3] (c (.int 2))) enil))))) (sseq (sset 3 (eaddO 3 (lf [0, 3] (vlst (acons (v 5) (acons (vcall (d__law_lists 30) (acons (v 5) anil)) (acons (vrev (v 5)) (acons (vtup (acons (op2 dIx (v 5) (c (.int 0))) (acons (vrev (op2 dIx (v 5) (c (.int 1)))) anil))) anil)))))))) (sseq (spar2 6 7 (lf [0, 3] (acons (v 5) (acons (vlst (acons (vtup (acons (c (.str "a")) (acons (c (.int 3)) anil))) (acons (vsl (op2 dIx (v 5) (c (.int 1))) onone (osome (c (.int 1)))) (acons (vtup (acons (c (.str "p")) (acons (vtup (acons (c (.str "a")) anil)) (acons (c (.int 1)) (acons (c (.int 0)) (acons (c .non) anil)))))) anil)))) anil)))) (sforI (irng1 (lf [0, 3] (c (.int 3)))) (gn 8) (sseq (sset 6 (ecallB (d__law_bent 30) 0 (lf [0, 3] (acons (v 6) (acons (v 7) anil))))) (sapp 3 (lf [0, 3] (v 6)))))))))) (sfrz [0, 3] (sseq (sforI (iany (lf [0] (v 3))) (gn 6) (sseq (spar2 9 10 (lf [0] (acons (vcallB (one dRepr) (acons (v 6) anil)) (acons (vcall d__law_is_whole (acons (v 6) anil)) anil)))) (sif (lf [0] (tor (fun δ => bind ((tr (vcall (d__law_same 30) (acons (vlst (acons (vcall d_is_net (acons (v 6) anil)) (acons (vcallK d_is_net 1 [0] (acons (v 6) anil)) anil))) (acons (vlst (acons (v 10) (acons (v 10) anil))) anil)))) δ) fun b => ok (!b)) (tb (op2 dNe (vcallB (one dRepr) (acons (v 6) anil)) (v 9))))) (sret (lf [0] (c (.bl false)))) snext))) (sret (lf [0] (c (.bl true))))))))))
theorem ok__law_right (T : Txt K mg) {fd : FuncData} (F : FunD K "_law_right" "_law_right" (defArgs s__law_right) (defBody s__law_right) (defScope s__law_right) [] [] (He.ga K "_law_right") fd) : FnOkG P w K mg base (L2.CX P w) 34 (He.ga K "_law_right") fd ["_law_box_here"] (spB K d__law_right) := by
  have sc := sc__law_right
  exact fnB_okG F sc (own := [0, 3]) rfl rfl rfl (fun cdv A outer s H E hr hgu => (jb_cons (js_set 1 sc.nd (js_lift jp_int)) (jb_cons (js_for (passes_of rfl) rfl (ji_rng1 T.b_range (js_lift jp_int)) (jg_n 2 sc.nd) (js_one (js_set 1 sc.nd (js_lift (jp_tup (ja_cons (jp_v 1) ja_nil)))))) (jb_cons (js_setN 3 sc.nd (jn_cat (js_lift (jp_call0 (fn__law_by_hand T) (hr.mono (by omega)))) (js_lift (jp_lst (ja_cons (jp_v 1) ja_nil))))) (jb_cons (js_for (passes_of rfl) rfl (ji_rng1 T.b_range (js_lift jp_int)) (jg_n 2 sc.nd) (js_cons (js_set 4 sc.nd (je_op o_add d_add (js_lift jp_int) (je_callB 0 (fn__law_take T) (hr.mono (by omega)) (js_lift (ja_cons jp_int ja_nil))))) (js_cons (js_set 5 sc.nd (je_callB 0 (fn__law_drawn_net T) (hr.mono (by omega)) (jae_cons (js_lift (jp_v 4)) (jae_cons (je_op o_add d_add (js_lift jp_int) (je_callB 0 (fn__law_take T) (hr.mono (by omega)) (js_lift (ja_cons jp_int ja_nil)))) (jae_cons (js_lift jp_int) jae_nil))))) (js_cons (js_setN 3 sc.nd (jn_addO 3 (js_lift (jp_lst (ja_cons (jp_v 5) (ja_cons (jp_call (fn__law_lists T 30) (hr.mono (by omega)) (ja_cons (jp_v 5) ja_nil)) (ja_cons (jp_rev (jp_v 5)) (ja_cons (jp_tup (ja_cons (jp_ix hr (jp_v 5) jp_int) (ja_cons (jp_rev (jp_ix hr (jp_v 5) jp_int)) ja_nil))) ja_nil)))))))) (js_cons (js_par2 6 7 rfl sc.nd (js_lift (ja_cons (jp_v 5) (ja_cons (jp_lst (ja_cons (jp_tup (ja_cons jp_str (ja_cons jp_int ja_nil))) (ja_cons (jp_sl (jp_ix hr (jp_v 5) jp_int) jo_none (jo_some jp_int)) (ja_cons (jp_tup (ja_cons jp_str (ja_cons (jp_tup (ja_cons jp_str ja_nil)) (ja_cons jp_int (ja_cons jp_int (ja_cons jp_non ja_nil)))))) ja_nil)))) ja_nil)))) (js_one (js_for (passes_of rfl) rfl (ji_rng1 T.b_range (js_lift jp_int)) (jg_n 8 sc.nd) (js_cons (js_set 6 sc.nd (je_callB 0 (fn__law_bent T 30) (hr.mono (by omega)) (js_lift (ja_cons (jp_v 6) (ja_cons (jp_v 7) ja_nil))))) (js_one (js_app 3 (js_lift (jp_v 6)))))))))))) (jb_frz (own := [0, 3]) 3 (jb_cons (js_for (passes_of rfl) rfl (ji_any (js_lift (jp_v 3))) (jg_n 6 sc.nd) (js_cons (js_par2 9 10 rfl sc.nd (js_lift (ja_cons (jp_callB (cr_repr hgu (hu70 hr)) d_repr T.b_repr rfl (ja_cons (jp_v 6) ja_nil)) (ja_cons (jp_call (fn__law_is_whole T) (hr.mono (by omega)) (ja_cons (jp_v 6) ja_nil)) ja_nil)))) (js_one (js_if (js_lift (jt_w (jw_or (jt_not (jt_truth (jp_call (fn__law_same T 30) (hr.mono (by omega)) (ja_cons (jp_lst (ja_cons (jp_call (fn_is_net T) (hr.mono (by omega)) (ja_cons (jp_v 6) ja_nil)) (ja_cons (jp_callK (fnk_is_net_0 T) (hr.mono (by omega)) (jk_cons (jp_v 6) jk_nil)) ja_nil))) (ja_cons (jp_lst (ja_cons (jp_v 10) (ja_cons (jp_v 10) ja_nil))) ja_nil))))) (jw_or1 (jt_ne hr (jp_callB (cr_repr hgu (hu70 hr)) d_repr T.b_repr rfl (ja_cons (jp_v 6) ja_nil)) (jp_v 9)))))) (js_one (js_ret (js_lift jp_bl))) js_nil)))) (jb_of (js_one (js_ret (js_lift jp_bl)))))))))))
theorem fn__law_right (T : Txt K mg) : FnBG P w K mg base 34 "_law_right" d__law_right := by
  obtain ⟨fd, F⟩ := T.f__law_right
  exact ⟨_, fd, ["_law_box_here"], ok__law_right T F, T.g__law_right, F.kp, F.bindsN fun _ _ _ _ _ _ us hl => match us, hl with | [_], _ => rfl⟩
abbrev s_law : Stmt := top 28
theorem sc_law : FnScope ["_law_script", "_law_cells_here", "_law_k"] ["_law_script"] (defScope s_law) := ⟨rfl, rfl, rfl, by decide +kernel, rfl, by decide +kernel, by decide +kernel⟩
def d_law : List D → Rs D := den 1 3 (sseq (sset 1 (lf [] (vcall d__law_cells (acons (v 0) (acons (c (.int 3)) anil))))) (sret (ecallG (one dAll) (econs (ecomp [2] (irng1 (lf [] (vcallB (one dLen) (acons (v 1) anil)))) (gn 2) tyes (ecallBN d__law_right (ecall d__law_box (lf [] (acons (v 1) (acons (v 2) anil)))) (lf [] anil))) enil))))
theorem ok_law (T : Txt K mg) {fd : FuncData} (F : FunD K "law" "law" (defArgs s_law) (defBody s_law) (defScope s_law) [] [] (He.ga K "law") fd) : FnOkG P w K mg base (L2.CX P w) 35 (He.ga K "law") fd ["_law_script"] (spP K d_law) := by
  have sc := sc_law
  exact fn_okG F sc (own := []) rfl rfl (fun cdv A outer s H E hr hgu => (jb_cons (js_set 1 sc.nd (js_lift (jp_call (fn__law_cells T) (hr.mono (by omega)) (ja_cons (jp_v 0) (ja_cons jp_int ja_nil))))) (jb_of (js_one (js_ret (je_bi (cr_all rfl) d_all T.b_all PyProof.Rows.boot_all (jae_cons (je_lc (ow := [("_law_k", 2)]) rfl sc.nd (ji_rng1 T.b_range (js_lift (jp_callB b_len d_len T.b_len PySem.boot_len (ja_cons (jp_v 1) ja_nil)))) (blkOk_by (by kernel_rfl)) (fun _ _ _ _ _ => (jg_n 2 sc.nd)) (fun _ _ _ _ _ => jts_nil) (fun _ _ _ _ _ => (je_callBNG (fn__law_right T) hgu (hr.mono (by omega)) (jn_call (fn__law_box T) (hr.mono (by omega)) (js_lift (ja_cons (jp_v 1) (ja_cons (jp_v 2) ja_nil)))) (js_lift ja_nil)))) jae_nil)))))))
theorem fn_law (T : Txt K mg) : FnG P w K mg base 35 "law" d_law := by
  obtain ⟨fd, F⟩ := T.f_law
  exact ⟨_, fd, ["_law_script"], ok_law T F, T.g_law, F.kp, F.bindsN fun _ _ _ _ _ _ us hl => match us, hl with | [_], _ => rfl⟩
end
end Lw
end
section
set_option maxHeartbeats 0
namespace Lw
open PySem L2 PD
/-! ### the head -/
def fn : List He.DefD := [⟨("is_number", none), "is_number", "is_number", defArgs s_is_number, defBody s_is_number, defScope s_is_number, [], []⟩, ⟨("is_name", none), "is_name", "is_name", defArgs s_is_name, defBody s_is_name, defScope s_is_name, [], []⟩, ⟨("is_tuple", none), "is_tuple", "is_tuple", defArgs s_is_tuple, defBody s_is_tuple, defScope s_is_tuple, [], []⟩, ⟨("are_ascending", none), "are_ascending", "are_ascending", defArgs s_are_ascending, defBody s_are_ascending, defScope s_are_ascending, [], []⟩, ⟨("is_line", none), "is_line", "is_line", defArgs s_is_line, defBody s_is_line, defScope s_is_line, [], []⟩, ⟨("is_flow", none), "is_flow", "is_flow", defArgs s_is_flow, defBody s_is_flow, defScope s_is_flow, [], []⟩, ⟨("is_net", none), "is_net", "is_net", defArgs s_is_net, defBody s_is_net, defScope s_is_net, [], []⟩, ⟨("_law_box", none), "_law_box", "_law_box", defArgs s__law_box, defBody s__law_box, defScope s__law_box, [], []⟩, ⟨("_law_take", none), "_law_take", "_law_take", defArgs s__law_take, defBody s__law_take, defScope s__law_take, [], []⟩, ⟨("_law_cells", none), "_law_cells", "_law_cells", defArgs s__law_cells, defBody s__law_cells, defScope s__law_cells, [], []⟩, ⟨("_law_of", none), "_law_of", "_law_of", defArgs s__law_of, defBody s__law_of, defScope s__law_of, [], []⟩, ⟨("_law_lists", none), "_law_lists", "_law_lists", defArgs s__law_lists, defBody s__law_lists, defScope s__law_lists, [], []⟩, ⟨("_law_same", none), "_law_same", "_law_same", defArgs s__law_same, defBody s__law_same, defScope s__law_same, [], []⟩, ⟨("_law_drawn_net", none), "_law_drawn_net", "_law_drawn_net", defArgs s__law_drawn_net, defBody s__law_drawn_net, defScope s__law_drawn_net, [], []⟩, ⟨("_law_bent", none), "_law_bent", "_law_bent", defArgs s__law_bent, defBody s__law_bent, defScope s__law_bent, [], []⟩, ⟨("_law_is_nr", none), "_law_is_nr", "_law_is_nr", defArgs s__law_is_nr, defBody s__law_is_nr, defScope s__law_is_nr, [], []⟩, ⟨("_law_is_word", none), "_law_is_word", "_law_is_word", defArgs s__law_is_word, defBody s__law_is_word, defScope s__law_is_word, [], []⟩, ⟨("_law_is_wire", none), "_law_is_wire", "_law_is_wire", defArgs s__law_is_wire, defBody s__law_is_wire, defScope s__law_is_wire, [], []⟩, ⟨("_law_is_row", none), "_law_is_row", "_law_is_row", defArgs s__law_is_row, defBody s__law_is_row, defScope s__law_is_row, [], []⟩, ⟨("_law_is_whole", none), "_law_is_whole", "_law_is_whole", defArgs s__law_is_whole, defBody s__law_is_whole, defScope s__law_is_whole, [], []⟩, ⟨("_law_by_hand", none), "_law_by_hand", "_law_by_hand", defArgs s__law_by_hand, defBody s__law_by_hand, defScope s__law_by_hand, [], []⟩, ⟨("_law_right", none), "_law_right", "_law_right", defArgs s__law_right, defBody s__law_right, defScope s__law_right, [], []⟩, ⟨("law", none), "law", "law", defArgs s_law, defBody s_law, defScope s_law, [], []⟩]
def fa : List He.Fa := [.glo "is_number", .glo "is_name", .glo "is_tuple", .glo "are_ascending", .glo "is_line", .glo "is_flow", .glo "is_net", .glo "_law_box", .glo "_law_take", .glo "_law_cells", .glo "_law_of", .glo "_law_lists", .glo "_law_same", .glo "_law_drawn_net", .glo "_law_bent", .glo "_law_is_nr", .glo "_law_is_word", .glo "_law_is_wire", .glo "_law_is_row", .glo "_law_is_whole", .glo "_law_by_hand", .glo "_law_right", .glo "law", .free "abs", .free "all", .free "bool", .free "enumerate", .free "int", .free "isinstance", .free "len", .free "list", .free "max", .free "range", .free "repr", .free "set", .free "sorted", .free "str", .free "tuple", .free "zip", .str "LETTERS" "abcdefghijklmnopqrstuvwxyz", .int "MOST_LETTERS" 8, .int "PARTS" 5]
abbrev R : PySem.W.OpenRow := PySem.W.OpenLaw.row PySem.Challenge.rw_leastshare_k10_nets_or_none
abbrev hk : PySem.W.Hook := He.hookD 4 fa fn
def ob (s : PySem.W.SharedT) : He.AlD := He.obsDG 4 fa fn (HandSHeadRun.getT s)
theorem ob_eq (s : PySem.W.SharedT) : ob s = hk.obs s.abs := He.obsDG_eq (HandSHeadRun.getT_eq s)
theorem run (w : World) : HandSHeadRun.RunEq R (PySem.W.view R.prog [28]) hk ob 1000 ["is_number", "is_name", "is_tuple", "are_ascending", "is_line", "is_flow", "is_net", "_law_box", "_law_take", "_law_cells", "_law_of", "_law_lists", "_law_same", "_law_drawn_net", "_law_bent", "_law_is_nr", "_law_is_word", "_law_is_wire", "_law_is_row", "_law_is_whole", "_law_by_hand", "_law_right", "LETTERS", "MOST_LETTERS", "PARTS"] w := by
  intro os
  kernel_rfl
theorem txt {K : Frag} {h : Heap} {mg : Str → Option Value} (X : K.In h) (G : h.Ns mainGlobals mg) (c : He.SaysD fa fn K) : Txt K mg where
  b_abs := He.free_ok X G (c.fact 23 (f := .free "abs") rfl)
  b_all := He.free_ok X G (c.fact 24 (f := .free "all") rfl)
  b_bool := He.free_ok X G (c.fact 25 (f := .free "bool") rfl)
  b_enumerate := He.free_ok X G (c.fact 26 (f := .free "enumerate") rfl)
  b_int := He.free_ok X G (c.fact 27 (f := .free "int") rfl)
  b_isinstance := He.free_ok X G (c.fact 28 (f := .free "isinstance") rfl)
  b_len := He.free_ok X G (c.fact 29 (f := .free "len") rfl)
  b_list := He.free_ok X G (c.fact 30 (f := .free "list") rfl)
  b_max := He.free_ok X G (c.fact 31 (f := .free "max") rfl)
  b_range := He.free_ok X G (c.fact 32 (f := .free "range") rfl)
  b_repr := He.free_ok X G (c.fact 33 (f := .free "repr") rfl)
  b_set := He.free_ok X G (c.fact 34 (f := .free "set") rfl)
  b_sorted := He.free_ok X G (c.fact 35 (f := .free "sorted") rfl)
  b_str := He.free_ok X G (c.fact 36 (f := .free "str") rfl)
  b_tuple := He.free_ok X G (c.fact 37 (f := .free "tuple") rfl)
  b_zip := He.free_ok X G (c.fact 38 (f := .free "zip") rfl)
  k_LETTERS := let ⟨t, e⟩ := He.str_ok X G (c.fact 39 (f := .str "LETTERS" "abcdefghijklmnopqrstuvwxyz") rfl); ⟨_, .str "abcdefghijklmnopqrstuvwxyz", e, ⟨t, rfl⟩, fun _ => .str _⟩
  k_MOST_LETTERS := let ⟨t, e⟩ := He.int_ok X G (c.fact 40 (f := .int "MOST_LETTERS" 8) rfl); ⟨_, .int 8, e, ⟨t, rfl⟩, fun _ => .int _⟩
  k_PARTS := let ⟨t, e⟩ := He.int_ok X G (c.fact 41 (f := .int "PARTS" 5) rfl); ⟨_, .int 5, e, ⟨t, rfl⟩, fun _ => .int _⟩
  f_is_number := c.def_ 0 (d := ⟨("is_number", none), "is_number", "is_number", defArgs s_is_number, defBody s_is_number, defScope s_is_number, [], []⟩) rfl
  g_is_number := He.glo_ok X G (c.fact 0 (f := .glo "is_number") rfl)
  f_is_name := c.def_ 1 (d := ⟨("is_name", none), "is_name", "is_name", defArgs s_is_name, defBody s_is_name, defScope s_is_name, [], []⟩) rfl
  g_is_name := He.glo_ok X G (c.fact 1 (f := .glo "is_name") rfl)
  f_is_tuple := c.def_ 2 (d := ⟨("is_tuple", none), "is_tuple", "is_tuple", defArgs s_is_tuple, defBody s_is_tuple, defScope s_is_tuple, [], []⟩) rfl
  g_is_tuple := He.glo_ok X G (c.fact 2 (f := .glo "is_tuple") rfl)
  f_are_ascending := c.def_ 3 (d := ⟨("are_ascending", none), "are_ascending", "are_ascending", defArgs s_are_ascending, defBody s_are_ascending, defScope s_are_ascending, [], []⟩) rfl
  g_are_ascending := He.glo_ok X G (c.fact 3 (f := .glo "are_ascending") rfl)
  f_is_line := c.def_ 4 (d := ⟨("is_line", none), "is_line", "is_line", defArgs s_is_line, defBody s_is_line, defScope s_is_line, [], []⟩) rfl
  g_is_line := He.glo_ok X G (c.fact 4 (f := .glo "is_line") rfl)
  f_is_flow := c.def_ 5 (d := ⟨("is_flow", none), "is_flow", "is_flow", defArgs s_is_flow, defBody s_is_flow, defScope s_is_flow, [], []⟩) rfl
  g_is_flow := He.glo_ok X G (c.fact 5 (f := .glo "is_flow") rfl)
  f_is_net := c.def_ 6 (d := ⟨("is_net", none), "is_net", "is_net", defArgs s_is_net, defBody s_is_net, defScope s_is_net, [], []⟩) rfl
  g_is_net := He.glo_ok X G (c.fact 6 (f := .glo "is_net") rfl)
  f__law_box := c.def_ 7 (d := ⟨("_law_box", none), "_law_box", "_law_box", defArgs s__law_box, defBody s__law_box, defScope s__law_box, [], []⟩) rfl
  g__law_box := He.glo_ok X G (c.fact 7 (f := .glo "_law_box") rfl)
  f__law_take := c.def_ 8 (d := ⟨("_law_take", none), "_law_take", "_law_take", defArgs s__law_take, defBody s__law_take, defScope s__law_take, [], []⟩) rfl
  g__law_take := He.glo_ok X G (c.fact 8 (f := .glo "_law_take") rfl)
  f__law_cells := c.def_ 9 (d := ⟨("_law_cells", none), "_law_cells", "_law_cells", defArgs s__law_cells, defBody s__law_cells, defScope s__law_cells, [], []⟩) rfl
  g__law_cells := He.glo_ok X G (c.fact 9 (f := .glo "_law_cells") rfl)
  f__law_of := c.def_ 10 (d := ⟨("_law_of", none), "_law_of", "_law_of", defArgs s__law_of, defBody s__law_of, defScope s__law_of, [], []⟩) rfl
  g__law_of := He.glo_ok X G (c.fact 10 (f := .glo "_law_of") rfl)
  f__law_lists := c.def_ 11 (d := ⟨("_law_lists", none), "_law_lists", "_law_lists", defArgs s__law_lists, defBody s__law_lists, defScope s__law_lists, [], []⟩) rfl
  g__law_lists := He.glo_ok X G (c.fact 11 (f := .glo "_law_lists") rfl)
  f__law_same := c.def_ 12 (d := ⟨("_law_same", none), "_law_same", "_law_same", defArgs s__law_same, defBody s__law_same, defScope s__law_same, [], []⟩) rfl
  g__law_same := He.glo_ok X G (c.fact 12 (f := .glo "_law_same") rfl)
  f__law_drawn_net := c.def_ 13 (d := ⟨("_law_drawn_net", none), "_law_drawn_net", "_law_drawn_net", defArgs s__law_drawn_net, defBody s__law_drawn_net, defScope s__law_drawn_net, [], []⟩) rfl
  g__law_drawn_net := He.glo_ok X G (c.fact 13 (f := .glo "_law_drawn_net") rfl)
  f__law_bent := c.def_ 14 (d := ⟨("_law_bent", none), "_law_bent", "_law_bent", defArgs s__law_bent, defBody s__law_bent, defScope s__law_bent, [], []⟩) rfl
  g__law_bent := He.glo_ok X G (c.fact 14 (f := .glo "_law_bent") rfl)
  f__law_is_nr := c.def_ 15 (d := ⟨("_law_is_nr", none), "_law_is_nr", "_law_is_nr", defArgs s__law_is_nr, defBody s__law_is_nr, defScope s__law_is_nr, [], []⟩) rfl
  g__law_is_nr := He.glo_ok X G (c.fact 15 (f := .glo "_law_is_nr") rfl)
  f__law_is_word := c.def_ 16 (d := ⟨("_law_is_word", none), "_law_is_word", "_law_is_word", defArgs s__law_is_word, defBody s__law_is_word, defScope s__law_is_word, [], []⟩) rfl
  g__law_is_word := He.glo_ok X G (c.fact 16 (f := .glo "_law_is_word") rfl)
  f__law_is_wire := c.def_ 17 (d := ⟨("_law_is_wire", none), "_law_is_wire", "_law_is_wire", defArgs s__law_is_wire, defBody s__law_is_wire, defScope s__law_is_wire, [], []⟩) rfl
  g__law_is_wire := He.glo_ok X G (c.fact 17 (f := .glo "_law_is_wire") rfl)
  f__law_is_row := c.def_ 18 (d := ⟨("_law_is_row", none), "_law_is_row", "_law_is_row", defArgs s__law_is_row, defBody s__law_is_row, defScope s__law_is_row, [], []⟩) rfl
  g__law_is_row := He.glo_ok X G (c.fact 18 (f := .glo "_law_is_row") rfl)
  f__law_is_whole := c.def_ 19 (d := ⟨("_law_is_whole", none), "_law_is_whole", "_law_is_whole", defArgs s__law_is_whole, defBody s__law_is_whole, defScope s__law_is_whole, [], []⟩) rfl
  g__law_is_whole := He.glo_ok X G (c.fact 19 (f := .glo "_law_is_whole") rfl)
  f__law_by_hand := c.def_ 20 (d := ⟨("_law_by_hand", none), "_law_by_hand", "_law_by_hand", defArgs s__law_by_hand, defBody s__law_by_hand, defScope s__law_by_hand, [], []⟩) rfl
  g__law_by_hand := He.glo_ok X G (c.fact 20 (f := .glo "_law_by_hand") rfl)
  f__law_right := c.def_ 21 (d := ⟨("_law_right", none), "_law_right", "_law_right", defArgs s__law_right, defBody s__law_right, defScope s__law_right, [], []⟩) rfl
  g__law_right := He.glo_ok X G (c.fact 21 (f := .glo "_law_right") rfl)
  f_law := c.def_ 22 (d := ⟨("law", none), "law", "law", defArgs s_law, defBody s_law, defScope s_law, [], []⟩) rfl
  g_law := He.glo_ok X G (c.fact 22 (f := .glo "law") rfl)
theorem law_holds (main : ∀ ns : List Int, ns.length ≤ 63 → d_law [.scr (ns.map D.int)] = some (.ok (.bl true))) : PySem.Challenge.rw_leastshare_k10_nets_or_none.Holds := by
  w_on; o_law
  refine HandSHeadRun.head_any (r := PySem.W.OpenLaw.row PySem.Challenge.rw_leastshare_k10_nets_or_none) (q := PySem.W.view (PySem.W.OpenLaw.row PySem.Challenge.rw_leastshare_k10_nets_or_none).prog [28]) (H := hk) (ob := ob) (M := 1000) (loose := ["is_number", "is_name", "is_tuple", "are_ascending", "is_line", "is_flow", "is_net", "_law_box", "_law_take", "_law_cells", "_law_of", "_law_lists", "_law_same", "_law_drawn_net", "_law_bent", "_law_is_nr", "_law_is_word", "_law_is_wire", "_law_is_row", "_law_is_whole", "_law_by_hand", "_law_right", "LETTERS", "MOST_LETTERS", "PARTS"]) (d := HandSHeadRun.topDef (PySem.W.OpenLaw.row PySem.Challenge.rw_leastshare_k10_nets_or_none).prog 28) (kwd := []) ob_eq
    (by kernel_rfl) (fun s => by kernel_rfl) run (by kernel_rfl) (by kernel_rfl) (by kernel_rfl) (by rfl) (by first | assumption | decide +kernel) (by decide +kernel) ⟨rfl, rfl, rfl, rfl, rfl, by decide +kernel⟩ ?hw ?hc
  case hw => w_witness2
  case hc =>
    refine PD.walk_ofG (l := PySem.Challenge.rw_leastshare_k10_nets_or_none) (n := 63) (k := 35) (x := "_law_script") (CX := fun w => L2.CX (PySem.Challenge.rw_leastshare_k10_nets_or_none).prog w) rfl (by decide) (by kernel_rfl) ⟨rfl, by decide, by decide⟩ ?F (fun w H s e s' z => cx_false z)
    intro w mg fa' h Y G hmg0
    obtain ⟨K, KX, c⟩ := Y
    have hmg : mg ("law" : PySem.Str) = some (.ref fa') := by
      have e : (HandSHeadRun.topDef (PySem.W.OpenLaw.row PySem.Challenge.rw_leastshare_k10_nets_or_none).prog 28).name = ("law" : PySem.Str) := by kernel_rfl
      rw [← e]
      exact hmg0
    have T := txt KX G c
    obtain ⟨fd, F⟩ := T.f_law
    cases hmg.symm.trans T.g_law
    have b := FunD.bindsA (ps := ["_law_script"]) F fun _ _ _ _ _ _ us hl => match us, hl with | [_], _ => rfl
    exact ⟨K, fd, spP K d_law, KX, fun s v => b s [v] rfl, fun H a ns hl _ hS => law_sp hS (main ns hl), fun base _ _ => ok_law T F⟩
end Lw
end
section
namespace PD
open PySem L2
/-! ### plain reasoning about mirrors: what is told, and how -/
/-- a Prop, by whose type simp sees that Q is not to be looked into -/
abbrev PropOf {β : Type} (_ : β → Prop) : Type := Prop
abbrev PropOf2 {β : Type} (_ : β → Env → Prop) : Type := Prop
def okR {α : Type} (o : Rs α) (Q : α → Prop) : PropOf Q := ∃ a, o = some (.ok a) ∧ Q a
def okE {α : Type} (o : RE α) (Q : α → Env → Prop) : PropOf2 Q := ∃ a δ, o = some (.ok (a, δ)) ∧ Q a δ
def okO {α : Type} (o : Option α) (Q : α → Prop) : PropOf Q := ∃ a, o = some a ∧ Q a
theorem okO.mono {α : Type} {o : Option α} {Q R : α → Prop} (h : okO o Q) (k : ∀ a, Q a → R a) : okO o R := let ⟨a, e, q⟩ := h; ⟨a, e, k a q⟩
theorem okR.mono {α : Type} {o : Rs α} {Q R : α → Prop} (h : okR o Q) (k : ∀ a, Q a → R a) : okR o R := let ⟨a, e, q⟩ := h; ⟨a, e, k a q⟩
theorem okE.mono {α : Type} {o : RE α} {Q R : α → Env → Prop} (h : okE o Q) (k : ∀ a δ, Q a δ → R a δ) : okE o R := let ⟨a, δ, e, q⟩ := h; ⟨a, δ, e, k a δ q⟩
@[simp] theorem okR_some {α : Type} {a : α} {Q : α → Prop} : okR (some (.ok a)) Q = Q a := by
  apply propext; constructor
  · rintro ⟨b, e, q⟩; cases e; exact q
  · exact fun q => ⟨a, rfl, q⟩
@[simp] theorem okR_ok {α : Type} {a : α} {Q : α → Prop} : okR (ok a) Q = Q a := okR_some
@[simp] theorem okR_bind {α β : Type} {x : Rs α} {f : α → Rs β} {Q : β → Prop} : okR (bind x f) Q = okR x fun a => okR (f a) Q := by
  apply propext
  cases x with
  | none => constructor <;> (rintro ⟨_, e, _⟩; cases e)
  | some y => cases y with
    | error e => constructor <;> (rintro ⟨_, e, _⟩; cases e)
    | ok a => rw [okR_some]; exact Iff.rfl
@[simp] theorem okR_opt {α : Type} {x : Option α} {Q : α → Prop} : okR (opt x) Q = okO x Q := by
  apply propext
  cases x with
  | none => constructor <;> (rintro ⟨_, e, _⟩; cases e)
  | some y => constructor
              · rintro ⟨_, e, q⟩; cases e; exact ⟨_, rfl, q⟩
              · rintro ⟨_, e, q⟩; cases e; exact ⟨_, rfl, q⟩
@[simp] theorem okR_ite {α : Type} {p : Prop} [Decidable p] {x y : Rs α} {Q : α → Prop} : okR (if p then x else y) Q = if p then okR x Q else okR y Q := by split <;> rfl
@[simp] theorem okO_some {α : Type} {x : α} {Q : α → Prop} : okO (some x) Q = Q x := by
  apply propext; constructor
  · rintro ⟨b, e, q⟩; cases e; exact q
  · exact fun q => ⟨x, rfl, q⟩
@[simp] theorem okE_some {α : Type} {a : α} {δ : Env} {Q : α → Env → Prop} : okE (some (.ok (a, δ))) Q = Q a δ := by
  apply propext; constructor
  · rintro ⟨b, _, e, q⟩; cases e; exact q
  · exact fun q => ⟨a, δ, rfl, q⟩
@[simp] theorem okE_bind {α β : Type} {x : RE α} {f : α → Env → RE β} {Q : β → Env → Prop} : okE (bindE x f) Q = okE x fun a δ => okE (f a δ) Q := by
  apply propext
  cases x with
  | none => constructor <;> (rintro ⟨_, _, e, _⟩; cases e)
  | some y => cases y with
    | error e => constructor <;> (rintro ⟨_, _, e, _⟩; cases e)
    | ok a => obtain ⟨a, δ⟩ := a; rw [okE_some]; exact Iff.rfl
@[simp] theorem okE_ite {α : Type} {p : Prop} [Decidable p] {x y : RE α} {Q : α → Env → Prop} : okE (if p then x else y) Q = if p then okE x Q else okE y Q := by split <;> rfl
@[simp] theorem okE_map {α : Type} {x : Option D} {δ : Env} {g : D → α} {Q : α → Env → Prop} : okE (x.map fun z => .ok (g z, δ)) Q = okO x fun z => Q (g z) δ := by
  apply propext
  cases x with
  | none => constructor
            · rintro ⟨_, _, e, _⟩; cases e
            · rintro ⟨_, e, _⟩; cases e
  | some y => constructor
              · rintro ⟨_, _, e, q⟩; cases e; exact ⟨_, rfl, q⟩
              · rintro ⟨_, e, q⟩; cases e; exact ⟨_, _, rfl, q⟩
@[simp] theorem okE_lf {α : Type} {own : List Nat} {g : Env → Rs α} {δ : Env} {Q : α → Env → Prop} : okE (lf own g δ) Q = okR (g (mask own δ)) fun d => Q d δ := by
  apply propext
  unfold lf
  cases g (mask own δ) with
  | none => constructor <;> (first | (rintro ⟨_, _, e, _⟩; cases e) | (rintro ⟨_, e, _⟩; cases e))
  | some y => cases y with
    | error e => constructor <;> (first | (rintro ⟨_, _, e, _⟩; cases e) | (rintro ⟨_, e, _⟩; cases e))
    | ok a => simp only [okR_some, okE_some]
@[simp] theorem okE_lfo {g : Env → Rs D} {δ : Env} {Q : D → Env → Prop} : okE (lfo g δ) Q = okR (g δ) fun d => flat d = true ∧ Q d δ := by
  apply propext
  unfold lfo
  cases g δ with
  | none => constructor <;> (first | (rintro ⟨_, _, e, _⟩; cases e) | (rintro ⟨_, e, _⟩; cases e))
  | some y => cases y with
    | error e => constructor <;> (first | (rintro ⟨_, _, e, _⟩; cases e) | (rintro ⟨_, e, _⟩; cases e))
    | ok a =>
      simp only [okR_some]
      cases h : flat a with
      | true => simp [okE_some]
      | false => simp; rintro ⟨_, _, e, _⟩; cases e
@[simp] theorem okE_lfT {g : Env → Rs Bool} {δ : Env} {Q : Bool → Env → Prop} : okE (lfT g δ) Q = okR (g δ) fun d => Q d δ := by
  apply propext
  unfold lfT
  cases g δ with
  | none => constructor <;> (first | (rintro ⟨_, _, e, _⟩; cases e) | (rintro ⟨_, e, _⟩; cases e))
  | some y => cases y with
    | error e => constructor <;> (first | (rintro ⟨_, _, e, _⟩; cases e) | (rintro ⟨_, e, _⟩; cases e))
    | ok a => simp only [okR_some, okE_some]
@[simp] theorem okR_pur {α : Type} {f : Env → RE α} {δ : Env} {Q : α → Prop} : okR (pur f δ) Q = okE (f δ) fun a _ => Q a := by
  apply propext
  unfold pur
  cases f δ with
  | none => constructor <;> (first | (rintro ⟨_, _, e, _⟩; cases e) | (rintro ⟨_, e, _⟩; cases e))
  | some y => cases y with
    | error e => constructor <;> (first | (rintro ⟨_, _, e, _⟩; cases e) | (rintro ⟨_, e, _⟩; cases e))
    | ok a => obtain ⟨a, δ1⟩ := a; simp only [okR_some, okE_some]
@[simp] theorem okE_ecall {m : List D → Rs D} {a : Env → RE (List D)} {δ : Env} {Q : D → Env → Prop} : okE (ecall m a δ) Q = okE (a δ) fun xs δ' => okR (m xs) fun d => Q d δ' := by
  unfold ecall
  rw [okE_bind]
  congr; funext xs δ'
  apply propext
  cases m xs with
  | none => constructor <;> (first | (rintro ⟨_, _, e, _⟩; cases e) | (rintro ⟨_, e, _⟩; cases e))
  | some y => cases y with
    | error e => constructor <;> (first | (rintro ⟨_, _, e, _⟩; cases e) | (rintro ⟨_, e, _⟩; cases e))
    | ok a => simp only [okR_some, okE_some]
/-! ### statements -/
theorem okS_seq {a b : Env → RO} {δ : Env} {Q : Out → Env → Prop} (h : okE (a δ) fun o δ' => match o with | .nx => okE (b δ') Q | o => Q o δ') : okE (sseq a b δ) Q := by
  obtain ⟨o, δ', e, q⟩ := h
  unfold sseq
  cases o with
  | nx => rw [e]; exact q
  | rt d => rw [e]; exact ⟨_, _, rfl, q⟩
  | bk => rw [e]; exact ⟨_, _, rfl, q⟩
  | ct => rw [e]; exact ⟨_, _, rfl, q⟩
@[simp] theorem okS_seqE {a b : Env → RO} {δ : Env} {Q : Out → Env → Prop} : okE (sseq a b δ) Q = okE (a δ) fun o δ' => match o with | .nx => okE (b δ') Q | .rt d => Q (.rt d) δ' | .bk => Q .bk δ' | .ct => Q .ct δ' := by
  apply propext; constructor
  · rintro ⟨o, δ', e, q⟩
    unfold sseq at e
    cases h : a δ with
    | none => rw [h] at e; cases e
    | some y => rcases y with x | ⟨o1, δ1⟩
                · rw [h] at e; cases e
                · rw [h] at e
                  cases o1 with
                  | nx => exact ⟨_, _, rfl, _, _, e, q⟩
                  | rt d => cases e; exact ⟨_, _, rfl, q⟩
                  | bk => cases e; exact ⟨_, _, rfl, q⟩
                  | ct => cases e; exact ⟨_, _, rfl, q⟩
  · intro h
    refine okS_seq (h.mono fun o δ' q => ?_)
    cases o <;> exact q
@[simp] theorem okS_set {i : Nat} {f : Env → RE D} {δ : Env} {Q : Out → Env → Prop} : okE (sset i f δ) Q = okE (f δ) fun d δ' => Q .nx (δ'.set i (some d)) := by
  unfold sset; rw [okE_bind]; congr; funext d δ'; rw [okE_some]
@[simp] theorem okS_ret {f : Env → RE D} {δ : Env} {Q : Out → Env → Prop} : okE (sret f δ) Q = okE (f δ) fun d δ' => Q (.rt d) δ' := by
  unfold sret; rw [okE_bind]; congr; funext d δ'; rw [okE_some]
@[simp] theorem okS_drop {f : Env → RE D} {δ : Env} {Q : Out → Env → Prop} : okE (sdrop f δ) Q = okE (f δ) fun _ δ' => Q .nx δ' := by
  unfold sdrop; rw [okE_bind]; congr; funext d δ'; rw [okE_some]
@[simp] theorem okS_next {δ : Env} {Q : Out → Env → Prop} : okE (snext δ) Q = Q .nx δ := okE_some
@[simp] theorem okS_if {t : Env → RE Bool} {a b : Env → RO} {δ : Env} {Q : Out → Env → Prop} : okE (sif t a b δ) Q = okE (t δ) fun k δ' => if k = true then okE (a δ') Q else okE (b δ') Q := by
  unfold sif; rw [okE_bind]; congr; funext d δ'; rw [okE_ite]
theorem okS_frz {own : List Nat} {k : Env → RO} {δ : Env} {Q : Out → Env → Prop} (h : bxIn own δ = true) : okE (sfrz own k δ) Q = okE (k δ) Q := by
  unfold sfrz; rw [if_pos h]
/-- a loop by its invariant; the body may end the def -/
theorem okS_for {g : D → Env → Option Env} {b : Env → RO} {Q : Out → Env → Prop} (I : Nat → Env → Prop) : ∀ {ds : List D} {n : Nat} {δ : Env}, I n δ →
    (∀ i d δ, ds[i]? = some d → I (n + i) δ → ∃ δ1, g d δ = some δ1 ∧ okE (b δ1) fun o δ2 => match o with | .nx => I (n + i + 1) δ2 | .ct => I (n + i + 1) δ2 | .rt d => Q (.rt d) δ2 | .bk => Q .nx δ2) →
    (∀ δ, I (n + ds.length) δ → Q .nx δ) → okE (sfor g b ds δ) Q
  | [], n, δ, h0, _, hq => ⟨_, _, rfl, hq δ h0⟩
  | d :: ds, n, δ, h0, hs, hq => by
    obtain ⟨δ1, e1, o, δ2, e2, q⟩ := hs 0 d δ rfl h0
    have go : I (n + 1) δ2 → okE (sfor g b ds δ2) Q := fun h => okS_for I h (fun i d δ hi hI => by
      have := hs (i + 1) d δ hi (by rw [← Nat.add_assoc, Nat.add_right_comm]; exact hI)
      rw [← Nat.add_assoc, Nat.add_right_comm n i 1] at this; exact this) (fun δ hI => hq δ (by rw [List.length_cons, Nat.add_comm ds.length, ← Nat.add_assoc]; exact hI))
    unfold sfor; rw [e1]; simp only []; rw [e2]
    cases o with
    | nx => exact go q
    | ct => exact go q
    | rt d => exact ⟨_, _, rfl, q⟩
    | bk => exact ⟨_, _, rfl, q⟩
@[simp] theorem okS_forI {f : Env → RE (List D)} {g : D → Env → Option Env} {b : Env → RO} {δ : Env} {Q : Out → Env → Prop} : okE (sforI f g b δ) Q = okE (f δ) fun ds δ' => okE (sfor g b ds δ') Q := by
  unfold sforI; rw [okE_bind]
/-- a comprehension by its invariant -/
theorem okE_scomp {vs : List Nat} {g : D → Env → Option Env} {t : Env → RE Bool} {e : Env → RE D} (I : Nat → List D → Env → Prop) : ∀ {ds acc : List D} {n : Nat} {δ : Env}, I n acc δ →
    (∀ i d acc δ, ds[i]? = some d → I (n + i) acc δ → ∃ δ1, g d δ = some δ1 ∧ okE (t δ1) fun k δ2 => if k = true then okE (e δ2) (fun y δ3 => acc.length < sizeLine ∧ I (n + i + 1) (acc ++ [y]) (wipeD vs δ3)) else I (n + i + 1) acc (wipeD vs δ2)) →
    okE (scomp vs g t e ds acc δ) (I (n + ds.length))
  | [], acc, n, δ, h0, _ => ⟨_, _, rfl, h0⟩
  | d :: ds, acc, n, δ, h0, hs => by
    obtain ⟨δ1, e1, k, δ2, e2, q⟩ := hs 0 d acc δ rfl h0
    have go : ∀ {acc δ2}, I (n + 1) acc δ2 → okE (scomp vs g t e ds acc δ2) (I (n + (d :: ds).length)) := fun {acc δ2} h => by
      have := okE_scomp (vs := vs) (g := g) (t := t) (e := e) I (ds := ds) h (fun i d acc δ hi hI => by
        have := hs (i + 1) d acc δ hi (by rw [← Nat.add_assoc, Nat.add_right_comm]; exact hI)
        rw [← Nat.add_assoc, Nat.add_right_comm n i 1] at this; exact this)
      rw [List.length_cons, Nat.add_comm ds.length, ← Nat.add_assoc]; exact this
    unfold scomp; rw [e1]; simp only []; rw [e2]
    cases k with
    | false => exact go q
    | true =>
      obtain ⟨y, δ3, e3, hl, q⟩ := q
      simp only []; rw [e3]; simp only []; rw [if_pos hl]
      exact go q
@[simp] theorem okE_ecomp {vs : List Nat} {f : Env → RE (List D)} {g : D → Env → Option Env} {t : Env → RE Bool} {e : Env → RE D} {δ : Env} {Q : D → Env → Prop} : okE (ecomp vs f g t e δ) Q = okE (f δ) fun ds δ' => okE (scomp vs g t e ds [] (wipeD vs δ')) fun ys δ2 => Q (.lst ys) δ2 := by
  unfold ecomp; rw [okE_bind]; congr; funext ds δ'; rw [okE_bind]; congr; funext ys δ2; rw [okE_some]
/-- .. of items that change nothing -/
theorem scomp_map {vs : List Nat} {g : D → Env → Option Env} {t : Env → RE Bool} {e : Env → RE D} {T : D → Bool} {F : D → D} {δ : Env} : ∀ {ds acc : List D}, (∀ d ∈ ds, ∃ δ1, g d δ = some δ1 ∧ wipeD vs δ1 = δ ∧ t δ1 = some (.ok (T d, δ1)) ∧ (T d = true → e δ1 = some (.ok (F d, δ1)))) → acc.length + ds.length ≤ sizeLine →
    scomp vs g t e ds acc δ = some (.ok (acc ++ (ds.filter T).map F, δ))
  | [], acc, _, _ => by simp [scomp]
  | d :: ds, acc, h, hl => by
    rw [List.length_cons] at hl
    obtain ⟨δ1, e1, ew, et, ee⟩ := h d List.mem_cons_self
    unfold scomp; rw [e1]; simp only []; rw [et]
    cases ht : T d with
    | false =>
      simp only []
      rw [ew, scomp_map (fun x hx => h x (List.mem_cons_of_mem _ hx)) (by omega), List.filter_cons_of_neg (by rw [ht]; exact Bool.false_ne_true)]
    | true =>
      simp only []
      rw [ee ht]; simp only []
      rw [if_pos (by omega), ew, scomp_map (fun x hx => h x (List.mem_cons_of_mem _ hx)) (by rw [List.length_append, List.length_singleton]; omega), List.filter_cons_of_pos ht]
      simp
end PD
end
section
namespace PD
open PySem L2
/-! ### evaluation of mirrors by simp -/
@[simp] theorem okR_v {i : Nat} {δ : Env} {Q : D → Prop} : okR (v i δ) Q = okO (δ[i]?.join) fun d => Q d := okR_opt
@[simp] theorem okR_c {d : D} {δ : Env} {Q : D → Prop} : okR (c d δ) Q = Q d := okR_ok
@[simp] theorem okR_op2 {g : D → D → Option D} {a b : Env → Rs D} {δ : Env} {Q : D → Prop} : okR (op2 g a b δ) Q = okR (a δ) fun x => okR (b δ) fun y => okO (g x y) fun z => Q z := by
  unfold op2; rw [okR_bind]; congr; funext x; rw [okR_bind]; congr; funext y; rw [okR_opt]
@[simp] theorem okR_tr {g : Env → Rs D} {δ : Env} {Q : Bool → Prop} : okR (tr g δ) Q = okR (g δ) fun x => okO (truth x) fun b => Q b := by
  unfold tr; rw [okR_bind]; congr; funext x; rw [okR_opt]
@[simp] theorem okR_tb {g : Env → Rs D} {δ : Env} {Q : Bool → Prop} : okR (tb g δ) Q = okR (g δ) fun x => okO (asB x) fun b => Q b := by
  unfold tb; rw [okR_bind]; congr; funext x; rw [okR_opt]
@[simp] theorem okR_tand {t u : Env → Rs Bool} {δ : Env} {Q : Bool → Prop} : okR (tand t u δ) Q = okR (t δ) fun b => if b = true then okR (u δ) Q else Q false := by
  unfold tand; rw [okR_bind]; congr; funext b; rw [okR_ite, okR_ok]
@[simp] theorem okR_tor {t u : Env → Rs Bool} {δ : Env} {Q : Bool → Prop} : okR (tor t u δ) Q = okR (t δ) fun b => if b = true then Q true else okR (u δ) Q := by
  unfold tor; rw [okR_bind]; congr; funext b; rw [okR_ite, okR_ok]
@[simp] theorem okR_vand {a b : Env → Rs D} {δ : Env} {Q : D → Prop} : okR (vand a b δ) Q = okR (a δ) fun x => okO (truth x) fun k => if k = true then okR (b δ) Q else Q x := by
  unfold vand; rw [okR_bind]; congr; funext x; rw [okR_bind, okR_opt]; congr; funext k; rw [okR_ite, okR_ok]
@[simp] theorem okR_vor {a b : Env → Rs D} {δ : Env} {Q : D → Prop} : okR (vor a b δ) Q = okR (a δ) fun x => okO (truth x) fun k => if k = true then Q x else okR (b δ) Q := by
  unfold vor; rw [okR_bind]; congr; funext x; rw [okR_bind, okR_opt]; congr; funext k; rw [okR_ite, okR_ok]
@[simp] theorem okR_vnot {a : Env → Rs D} {δ : Env} {Q : D → Prop} : okR (vnot a δ) Q = okR (a δ) fun x => okO (truth x) fun k => Q (.bl (!k)) := by
  unfold vnot; rw [okR_bind]; congr; funext x; rw [okR_bind, okR_opt]; congr; funext k; rw [okR_ok]
@[simp] theorem okR_vif {t : Env → Rs Bool} {a b : Env → Rs D} {δ : Env} {Q : D → Prop} : okR (vif t a b δ) Q = okR (t δ) fun k => if k = true then okR (a δ) Q else okR (b δ) Q := by
  unfold vif; rw [okR_bind]; congr; funext b; rw [okR_ite]
@[simp] theorem okR_vis {a : Env → Rs D} {δ : Env} {Q : D → Prop} : okR (vis a δ) Q = okR (a δ) fun x => Q (.bl (isNon x)) := by
  unfold vis; rw [okR_bind]; congr; funext x; rw [okR_ok]
@[simp] theorem okR_vnis {a : Env → Rs D} {δ : Env} {Q : D → Prop} : okR (vnis a δ) Q = okR (a δ) fun x => Q (.bl (!isNon x)) := by
  unfold vnis; rw [okR_bind]; congr; funext x; rw [okR_ok]
@[simp] theorem okR_vneg {a : Env → Rs D} {δ : Env} {Q : D → Prop} : okR (vneg a δ) Q = okR (a δ) fun x => okO (dNeg x) fun z => Q z := by
  unfold vneg; rw [okR_bind]; congr; funext x; rw [okR_opt]
@[simp] theorem okR_vrev {a : Env → Rs D} {δ : Env} {Q : D → Prop} : okR (vrev a δ) Q = okR (a δ) fun x => okO (dRev x) fun z => Q z := by
  unfold vrev; rw [okR_bind]; congr; funext x; rw [okR_opt]
@[simp] theorem okR_vsset {a : Env → Rs D} {δ : Env} {Q : D → Prop} : okR (vsset a δ) Q = okR (a δ) fun x => okO (dSset x) fun z => Q z := by
  unfold vsset; rw [okR_bind]; congr; funext x; rw [okR_opt]
@[simp] theorem okR_visi {t : Ty} {a : Env → Rs D} {δ : Env} {Q : D → Prop} : okR (visi t a δ) Q = okR (a δ) fun x => okO (isA t x) fun b => Q (.bl b) := by
  unfold visi; rw [okR_bind]; congr; funext x; rw [okR_opt]; apply propext; cases isA t x <;> simp [okO]
@[simp] theorem okR_visi2 {t u : Ty} {a : Env → Rs D} {δ : Env} {Q : D → Prop} : okR (visi2 t u a δ) Q = okR (a δ) fun x => okO (isA2 t u x) fun b => Q (.bl b) := by
  unfold visi2; rw [okR_bind]; congr; funext x; rw [okR_opt]; apply propext; cases isA2 t u x <;> simp [okO]
@[simp] theorem okR_anil {δ : Env} {Q : List D → Prop} : okR (anil δ) Q = Q [] := okR_ok
@[simp] theorem okR_acons {a : Env → Rs D} {r : Env → Rs (List D)} {δ : Env} {Q : List D → Prop} : okR (acons a r δ) Q = okR (a δ) fun x => okR (r δ) fun xs => Q (x :: xs) := by
  unfold acons; rw [okR_bind]; congr; funext x; rw [okR_bind]; congr; funext xs; rw [okR_ok]
@[simp] theorem okR_vtup {a : Env → Rs (List D)} {δ : Env} {Q : D → Prop} : okR (vtup a δ) Q = okR (a δ) fun xs => xs.length ≤ sizeLine ∧ Q (.tup xs) := by
  unfold vtup; rw [okR_bind]; congr; funext xs; rw [okR_ite, okR_ok]; apply propext
  split
  · simp [*]
  · rename_i hn; constructor
    · rintro ⟨_, e, _⟩; cases e
    · exact fun h => absurd h.1 hn
@[simp] theorem okR_vlst {a : Env → Rs (List D)} {δ : Env} {Q : D → Prop} : okR (vlst a δ) Q = okR (a δ) fun xs => xs.length ≤ sizeLine ∧ Q (.lst xs) := by
  unfold vlst; rw [okR_bind]; congr; funext xs; rw [okR_ite, okR_ok]; apply propext
  split
  · simp [*]
  · rename_i hn; constructor
    · rintro ⟨_, e, _⟩; cases e
    · exact fun h => absurd h.1 hn
@[simp] theorem okR_vcall {m : List D → Rs D} {a : Env → Rs (List D)} {δ : Env} {Q : D → Prop} : okR (vcall m a δ) Q = okR (a δ) fun xs => okR (m xs) Q := okR_bind
@[simp] theorem okR_vcallB {g : List D → Option D} {a : Env → Rs (List D)} {δ : Env} {Q : D → Prop} : okR (vcallB g a δ) Q = okR (a δ) fun xs => okO (g xs) fun z => Q z := by
  unfold vcallB; rw [okR_bind]; congr; funext x; rw [okR_opt]
@[simp] theorem okR_vcallK {m : List D → Rs D} {n : Nat} {ix : List Nat} {a : Env → Rs (List D)} {δ : Env} {Q : D → Prop} : okR (vcallK m n ix a δ) Q = okR (a δ) fun xs => xs.length = n ∧ okR (m (pick ix xs)) Q := by
  unfold vcallK; rw [okR_bind]; congr; funext xs; rw [okR_ite]; apply propext
  split
  · simp [*]
  · rename_i hn; constructor
    · rintro ⟨_, e, _⟩; cases e
    · exact fun h => absurd h.1 hn
@[simp] theorem okR_chain {g h : D → D → Option D} {a b e : Env → Rs D} {δ : Env} {Q : D → Prop} : okR (chain g h a b e δ) Q = okR (a δ) fun x => okR (b δ) fun y => okO (g x y) fun z => okO (asB z) fun k => if k = true then okR (e δ) (fun w => okO (h y w) fun u => Q u) else Q (.bl false) := by
  unfold chain; rw [okR_bind]; congr; funext x; rw [okR_bind]; congr; funext y; rw [okR_bind, okR_opt]; congr; funext z; rw [okR_bind, okR_opt]
  congr; funext k; rw [okR_ite, okR_ok, okR_bind]; congr; funext w; rw [okR_opt]
@[simp] theorem okR_onone {δ : Env} {Q : Option Int → Prop} : okR (onone δ) Q = Q none := okR_ok
@[simp] theorem okR_osome {a : Env → Rs D} {δ : Env} {Q : Option Int → Prop} : okR (osome a δ) Q = okR (a δ) fun x => okO (asI x) fun z => Q z := by
  unfold osome; rw [okR_bind]; congr; funext x; rw [okR_opt]
@[simp] theorem okR_vsl {a : Env → Rs D} {lo hi : Env → Rs (Option Int)} {δ : Env} {Q : D → Prop} : okR (vsl a lo hi δ) Q = okR (a δ) fun x => okR (lo δ) fun l => okR (hi δ) fun h => okO (dSl x l h) fun z => Q z := by
  unfold vsl; rw [okR_bind]; congr; funext x; rw [okR_bind]; congr; funext l; rw [okR_bind]; congr; funext h; rw [okR_opt]
@[simp] theorem okE_enil {δ : Env} {Q : List D → Env → Prop} : okE (enil δ) Q = Q [] δ := okE_some
@[simp] theorem okE_econs {a : Env → RE D} {r : Env → RE (List D)} {δ : Env} {Q : List D → Env → Prop} : okE (econs a r δ) Q = okE (a δ) fun x δ1 => okE (r δ1) fun xs δ2 => Q (x :: xs) δ2 := by
  unfold econs; rw [okE_bind]; congr; funext x δ1; rw [okE_bind]; congr; funext xs δ2; rw [okE_some]
@[simp] theorem okE_etup {a : Env → RE (List D)} {δ : Env} {Q : D → Env → Prop} : okE (etup a δ) Q = okE (a δ) fun xs δ' => xs.length ≤ sizeLine ∧ Q (.tup xs) δ' := by
  unfold etup; rw [okE_bind]; congr; funext xs δ'; rw [okE_ite, okE_some]; apply propext
  split
  · simp [*]
  · rename_i hn; constructor
    · rintro ⟨_, _, e, _⟩; cases e
    · exact fun h => absurd h.1 hn
@[simp] theorem okE_elst {a : Env → RE (List D)} {δ : Env} {Q : D → Env → Prop} : okE (elst a δ) Q = okE (a δ) fun xs δ' => xs.length ≤ sizeLine ∧ Q (.lst xs) δ' := by
  unfold elst; rw [okE_bind]; congr; funext xs δ'; rw [okE_ite, okE_some]; apply propext
  split
  · simp [*]
  · rename_i hn; constructor
    · rintro ⟨_, _, e, _⟩; cases e
    · exact fun h => absurd h.1 hn
@[simp] theorem okE_eop2 {g : D → D → Option D} {a b : Env → RE D} {δ : Env} {Q : D → Env → Prop} : okE (eop2 g a b δ) Q = okE (a δ) fun x δ1 => okE (b δ1) fun y δ2 => okO (g x y) fun z => Q z δ2 := by
  unfold eop2; rw [okE_bind]; congr; funext x δ1; rw [okE_bind]; congr; funext y δ2; exact okE_map
@[simp] theorem okE_etb {g : Env → RE D} {δ : Env} {Q : Bool → Env → Prop} : okE (etb g δ) Q = okE (g δ) fun x δ' => okO (asB x) fun b => Q b δ' := by
  unfold etb; rw [okE_bind]; congr; funext x δ'; apply propext
  cases asB x with
  | none => constructor
            · rintro ⟨_, _, e, _⟩; cases e
            · rintro ⟨_, e, _⟩; cases e
  | some y => constructor
              · rintro ⟨_, _, e, q⟩; cases e; exact ⟨_, rfl, q⟩
              · rintro ⟨_, e, q⟩; cases e; exact ⟨_, _, rfl, q⟩
@[simp] theorem okE_etr {g : Env → RE D} {δ : Env} {Q : Bool → Env → Prop} : okE (etr g δ) Q = okE (g δ) fun x δ' => okO (truth x) fun b => Q b δ' := by
  unfold etr; rw [okE_bind]; congr; funext x δ'; apply propext
  cases truth x with
  | none => constructor
            · rintro ⟨_, _, e, _⟩; cases e
            · rintro ⟨_, e, _⟩; cases e
  | some y => constructor
              · rintro ⟨_, _, e, q⟩; cases e; exact ⟨_, rfl, q⟩
              · rintro ⟨_, e, q⟩; cases e; exact ⟨_, _, rfl, q⟩
@[simp] theorem okE_eif {t : Env → RE Bool} {a b : Env → RE D} {δ : Env} {Q : D → Env → Prop} : okE (eif t a b δ) Q = okE (t δ) fun k δ' => if k = true then okE (a δ') Q else okE (b δ') Q := by
  unfold eif; rw [okE_bind]; congr; funext k δ'; rw [okE_ite]
@[simp] theorem okE_etand {t u : Env → RE Bool} {δ : Env} {Q : Bool → Env → Prop} : okE (etand t u δ) Q = okE (t δ) fun k δ' => if k = true then okE (u δ') Q else Q false δ' := by
  unfold etand; rw [okE_bind]; congr; funext k δ'; rw [okE_ite, okE_some]
@[simp] theorem okE_etor {t u : Env → RE Bool} {δ : Env} {Q : Bool → Env → Prop} : okE (etor t u δ) Q = okE (t δ) fun k δ' => if k = true then Q true δ' else okE (u δ') Q := by
  unfold etor; rw [okE_bind]; congr; funext k δ'; rw [okE_ite, okE_some]
@[simp] theorem okE_etnot {t : Env → RE Bool} {δ : Env} {Q : Bool → Env → Prop} : okE (etnot t δ) Q = okE (t δ) fun k δ' => Q (!k) δ' := by
  unfold etnot; rw [okE_bind]; congr; funext k δ'; rw [okE_some]
@[simp] theorem okE_tyes {δ : Env} {Q : Bool → Env → Prop} : okE (tyes δ) Q = Q true δ := okE_some
@[simp] theorem okE_ecallG {g : List D → Option D} {f : Env → RE (List D)} {δ : Env} {Q : D → Env → Prop} : okE (ecallG g f δ) Q = okE (f δ) fun xs δ' => okO (g xs) fun z => Q z δ' := by
  unfold ecallG; rw [okE_bind]; congr; funext xs δ'; exact okE_map
@[simp] theorem okE_iany {f : Env → RE D} {δ : Env} {Q : List D → Env → Prop} : okE (iany f δ) Q = okE (f δ) fun d δ' => okO (itemsA d) fun xs => Q xs δ' := by
  unfold iany; rw [okE_bind]; congr; funext x δ'; apply propext
  cases itemsA x with
  | none => constructor
            · rintro ⟨_, _, e, _⟩; cases e
            · rintro ⟨_, e, _⟩; cases e
  | some y => constructor
              · rintro ⟨_, _, e, q⟩; cases e; exact ⟨_, rfl, q⟩
              · rintro ⟨_, e, q⟩; cases e; exact ⟨_, _, rfl, q⟩
theorem okE_irng1 {f : Env → RE D} {δ : Env} {Q : List D → Env → Prop} (h : okE (f δ) fun d δ' => ∃ n : Int, d = .int n ∧ -(2 ^ 62) ≤ n ∧ n < 2 ^ 62 ∧ Q (rng 0 n) δ') : okE (irng1 f δ) Q := by
  unfold irng1; rw [okE_bind]
  refine h.mono fun d δ' ⟨n, e, h1, h2, q⟩ => ?_
  subst e
  simp only []
  rw [if_pos ⟨h1, h2⟩]; exact ⟨_, _, rfl, q⟩
theorem okS_par2 {i j : Nat} {f : Env → RE (List D)} {δ : Env} {Q : Out → Env → Prop} (h : okE (f δ) fun ds δ' => ∃ a b, ds = [a, b] ∧ Q .nx ((δ'.set i (some a)).set j (some b))) : okE (spar2 i j f δ) Q := by
  unfold spar2; rw [okE_bind]
  exact h.mono fun ds δ' ⟨a, b, e, q⟩ => by subst e; exact ⟨_, _, rfl, q⟩
theorem okS_par3 {i j l : Nat} {f : Env → RE (List D)} {δ : Env} {Q : Out → Env → Prop} (h : okE (f δ) fun ds δ' => ∃ a b e, ds = [a, b, e] ∧ Q .nx (((δ'.set i (some a)).set j (some b)).set l (some e))) : okE (spar3 i j l f δ) Q := by
  unfold spar3; rw [okE_bind]
  exact h.mono fun ds δ' ⟨a, b, e, h, q⟩ => by subst h; exact ⟨_, _, rfl, q⟩
@[simp] theorem okS_asg {g : D → Env → Option Env} {f : Env → RE D} {δ : Env} {Q : Out → Env → Prop} : okE (sasg g f δ) Q = okE (f δ) fun d δ' => okO (g d δ') fun δ2 => Q .nx δ2 := by
  unfold sasg; rw [okE_bind]; congr; funext d δ'; apply propext
  cases g d δ' with
  | none => constructor
            · rintro ⟨_, _, e, _⟩; cases e
            · rintro ⟨_, e, _⟩; cases e
  | some y => constructor
              · rintro ⟨_, _, e, q⟩; cases e; exact ⟨_, rfl, q⟩
              · rintro ⟨_, e, q⟩; cases e; exact ⟨_, _, rfl, q⟩
theorem okS_app {i : Nat} {f : Env → RE D} {δ : Env} {Q : Out → Env → Prop} {d0 : List D} (h0 : δ[i]? = some (some (.lst d0))) (h : okE (f δ) fun d δ' => ∃ ds, δ'[i]? = some (some (.lst ds)) ∧ ds.length < sizeLine ∧ Q .nx (δ'.set i (some (.lst (ds ++ [d]))))) : okE (sapp i f δ) Q := by
  unfold sapp; rw [h0]; simp only []; rw [okE_bind]
  exact h.mono fun d δ' ⟨ds, e, hl, q⟩ => by rw [e]; simp only []; rw [if_pos hl]; exact ⟨_, _, rfl, q⟩
theorem okE_pop {i : Nat} {f : Env → RE D} {δ : Env} {Q : D → Env → Prop} {d0 : List D} (h0 : δ[i]? = some (some (.lst d0))) (h : okE (f δ) fun d δ' => ∃ ds n y, δ'[i]? = some (some (.lst ds)) ∧ d = .int n ∧ 0 ≤ n ∧ n < 2 ^ 63 ∧ ds[n.toNat]? = some y ∧ Q y (δ'.set i (some (.lst (ds.eraseIdx n.toNat))))) : okE (epop i f δ) Q := by
  unfold epop; rw [h0]; simp only []; rw [okE_bind]
  exact h.mono fun d δ' ⟨ds, n, y, e, ed, h1, h2, h3, q⟩ => by rw [e, ed]; simp only []; rw [if_pos ⟨h1, h2⟩, h3]; exact ⟨_, _, rfl, q⟩
theorem okE_addO {i : Nat} {f : Env → RE D} {δ : Env} {Q : D → Env → Prop} {d0 : List D} (h0 : δ[i]? = some (some (.lst d0))) (h : okE (f δ) fun d δ' => ∃ ds es, δ'[i]? = some (some (.lst ds)) ∧ d = .lst es ∧ ds.length + es.length ≤ sizeLine ∧ Q (.lst (ds ++ es)) δ') : okE (eaddO i f δ) Q := by
  unfold eaddO; rw [h0]; simp only []; rw [okE_bind]
  exact h.mono fun d δ' ⟨ds, es, e, ed, hl, q⟩ => by rw [e, ed]; simp only []; rw [if_pos hl]; exact ⟨_, _, rfl, q⟩
theorem okE_callB {m : List D → List D → Option (D × List D)} {i : Nat} {a : Env → RE (List D)} {δ : Env} {Q : D → Env → Prop} {b0 : List D} (h0 : δ[i]? = some (some (.lst b0))) (h : okE (a δ) fun ds δ' => ∃ B r B', δ'[i]? = some (some (.lst B)) ∧ m B ds = some (r, B') ∧ Q r (δ'.set i (some (.lst B')))) : okE (ecallB m i a δ) Q := by
  unfold ecallB; rw [h0]; simp only []; rw [okE_bind]
  exact h.mono fun d δ' ⟨B, r, B', e, em, q⟩ => by rw [e]; simp only []; rw [em]; exact ⟨_, _, rfl, q⟩
theorem okE_callBN {m : List D → List D → Option (D × List D)} {fa : Env → RE D} {f : Env → RE (List D)} {δ : Env} {Q : D → Env → Prop} (h : okE (fa δ) fun d δ1 => okE (f δ1) fun ds δ2 => ∃ B r B', d = .lst B ∧ m B ds = some (r, B') ∧ Q r δ2) : okE (ecallBN m fa f δ) Q := by
  unfold ecallBN; rw [okE_bind]
  refine h.mono fun d δ1 h => ?_
  rw [okE_bind]
  exact h.mono fun ds δ2 ⟨B, r, B', ed, em, q⟩ => by subst ed; simp only []; rw [em]; exact ⟨_, _, rfl, q⟩
theorem okE_enor {f g : Env → RE D} {δ : Env} {Q : D → Env → Prop} (h : okE (f δ) fun d δ' => ∃ xs, d = .lst xs ∧ if xs = [] then okE (g δ') Q else Q (.lst xs) δ') : okE (enor f g δ) Q := by
  unfold enor; rw [okE_bind]
  exact h.mono fun d δ' ⟨xs, e, q⟩ => by
    subst e
    cases xs with
    | nil => simpa using q
    | cons x xs => simp only []; rw [okE_some]; simpa using q
theorem okS_ixset {i : Nat} {fk f : Env → RE D} {δ : Env} {Q : Out → Env → Prop} (h : okE (f δ) fun d δ1 => (∃ d0, δ1[i]? = some (some (.lst d0))) ∧ okE (fk δ1) fun k δ2 => ∃ ds n j, δ2[i]? = some (some (.lst ds)) ∧ k = .int n ∧ ixN ds.length n = some j ∧ Q .nx (δ2.set i (some (.lst (ds.set j d))))) : okE (sixset i fk f δ) Q := by
  unfold sixset; rw [okE_bind]
  refine h.mono fun d δ1 ⟨⟨d0, e0⟩, h⟩ => ?_
  rw [e0]; simp only []; rw [okE_bind]
  exact h.mono fun k δ2 ⟨ds, n, j, e, ek, ej, q⟩ => by rw [e, ek]; simp only []; rw [ej]; exact ⟨_, _, rfl, q⟩
/-! a def -/
theorem den_ok {n N : Nat} {body : Env → RO} {ds : List D} {Q : D → Prop} (hl : ds.length = n) (h : okE (body (ds.map some ++ List.replicate (N - n) none)) fun o _ => match o with | .rt d => Q d | .nx => Q .non | _ => False) : okR (den n N body ds) Q := by
  unfold den; rw [if_pos hl]
  obtain ⟨o, δ, e, q⟩ := h
  rw [e]
  cases o with
  | rt d => exact ⟨_, rfl, q⟩
  | nx => exact ⟨_, rfl, q⟩
  | bk => exact q.elim
  | ct => exact q.elim
theorem denB_ok {n N : Nat} {body : Env → RO} {B ds : List D} {Q : D → List D → Prop} (hl : ds.length + 1 = n) (h : okE (body (some (.lst B) :: (ds.map some ++ List.replicate (N - n) none))) fun o δ => match o with | .rt d => ∃ B', δ[(0 : Nat)]? = some (some (.lst B')) ∧ Q d B' | .nx => ∃ B', δ[(0 : Nat)]? = some (some (.lst B')) ∧ Q .non B' | _ => False) : ∃ d B', denB n N body B ds = some (d, B') ∧ Q d B' := by
  unfold denB; rw [if_pos hl]
  obtain ⟨o, δ, e, q⟩ := h
  rw [e]
  cases o with
  | rt d => obtain ⟨B', e, q⟩ := q; exact ⟨d, B', by simp only [bxOf]; rw [e], q⟩
  | nx => obtain ⟨B', e, q⟩ := q; exact ⟨.non, B', by simp only [bxOf]; rw [e], q⟩
  | bk => exact q.elim
  | ct => exact q.elim
theorem denN_ok {n N : Nat} {body : Env → RE D} {ds : List D} {Q : D → Prop} (hl : ds.length = n) (h : okE (body (ds.map some ++ List.replicate (N - n) none)) fun d _ => Q d) : okR (denN n N body ds) Q := by
  unfold denN; rw [if_pos hl]
  obtain ⟨o, δ, e, q⟩ := h
  rw [e]; exact ⟨_, rfl, q⟩
theorem okE_rseq {a : Env → RO} {b : Env → RE D} {δ : Env} {Q : D → Env → Prop} (h : okE (a δ) fun o δ' => match o with | .nx => okE (b δ') Q | _ => False) : okE (rseq a b δ) Q := by
  unfold rseq
  obtain ⟨o, δ', e, q⟩ := h
  rw [e]
  cases o with
  | nx => exact q
  | rt d => exact q.elim
  | bk => exact q.elim
  | ct => exact q.elim
end PD
end
section
set_option maxHeartbeats 1000000
namespace PD
open PySem L2
@[simp] theorem dAdd_int {a b : Int} : dAdd (.int a) (.int b) = some (.int (a + b)) := rfl
@[simp] theorem dSub_int {a b : Int} : dSub (.int a) (.int b) = some (.int (a - b)) := rfl
@[simp] theorem dInt_int {a : Int} : dInt (.int a) = some (.int a) := rfl
@[simp] theorem dInt_bl {b : Bool} : dInt (.bl b) = some (.int (if b then 1 else 0)) := rfl
@[simp] theorem dAbs_int {a : Int} : dAbs (.int a) = some (.int (if a < 0 then -a else a)) := rfl
@[simp] theorem dNeg_int {a : Int} : dNeg (.int a) = some (.int (-a)) := rfl
@[simp] theorem dMax2_int {a b : Int} : dMax2 (.int a) (.int b) = some (.int (if b > a then b else a)) := rfl
@[simp] theorem dMin2_int {a b : Int} : dMin2 (.int a) (.int b) = some (.int (if b < a then b else a)) := rfl
@[simp] theorem dCmp_int {fi : Int → Int → Bool} {fs : List Nat → List Nat → Bool} {a b : Int} : dCmp fi fs (.int a) (.int b) = some (.bl (fi a b)) := rfl
@[simp] theorem one_one {g : D → Option D} {x : D} : one g [x] = g x := rfl
@[simp] theorem two_two {g : D → D → Option D} {x y : D} : two g [x, y] = g x y := rfl
@[simp] theorem asB_bl {b : Bool} : asB (.bl b) = some b := rfl
@[simp] theorem truth_bl {b : Bool} : truth (.bl b) = some b := rfl
@[simp] theorem dLen_tup {xs : List D} : dLen (.tup xs) = some (.int xs.length) := rfl
@[simp] theorem dLen_lst {xs : List D} : dLen (.lst xs) = some (.int xs.length) := rfl
@[simp] theorem dLen_scr {xs : List D} : dLen (.scr xs) = some (.int xs.length) := rfl
@[simp] theorem dList_tup {xs : List D} : dList (.tup xs) = some (.lst xs) := rfl
@[simp] theorem dList_lst {xs : List D} : dList (.lst xs) = some (.lst xs) := rfl
@[simp] theorem dTuple_tup {xs : List D} : dTuple (.tup xs) = some (.tup xs) := rfl
@[simp] theorem dTuple_lst {xs : List D} : dTuple (.lst xs) = some (.tup xs) := rfl
@[simp] theorem itemsA_lst {xs : List D} : itemsA (.lst xs) = some xs := rfl
@[simp] theorem itemsA_tup {xs : List D} : itemsA (.tup xs) = some xs := rfl
@[simp] theorem asI_int {i : Int} : asI (.int i) = some (some i) := rfl
@[simp] theorem dIx_lst {xs : List D} {i : Int} : dIx (.lst xs) (.int i) = atI xs i := rfl
@[simp] theorem dIx_tup {xs : List D} {i : Int} : dIx (.tup xs) (.int i) = atI xs i := rfl
@[simp] theorem dIx_scr {xs : List D} {i : Int} : dIx (.scr xs) (.int i) = atI xs i := rfl
@[simp] theorem atI_nat {xs : List D} {i : Nat} : atI xs (i : Int) = xs[i]? := by
  simp only [atI, ixN]
  by_cases h : i < xs.length
  · simp [h]
  · simp [h]
theorem ixN_lt {n : Nat} {i : Int} (h : 0 ≤ i) (h2 : i < n) : ixN n i = some i.toNat := by simp [ixN, h, h2]
theorem ixN_nat {n i : Nat} : ixN n (i : Int) = if i < n then some i else none := by
  simp only [ixN]
  rw [if_pos (Int.natCast_nonneg i)]
  simp
@[simp] theorem atI_0 {xs : List D} : atI xs 0 = xs[0]? := atI_nat (i := 0)
@[simp] theorem ixN_0 {n : Nat} : ixN n 0 = if 0 < n then some 0 else none := ixN_nat (i := 0)
@[simp] theorem atI_1 {xs : List D} : atI xs 1 = xs[1]? := atI_nat (i := 1)
@[simp] theorem ixN_1 {n : Nat} : ixN n 1 = if 1 < n then some 1 else none := ixN_nat (i := 1)
@[simp] theorem atI_2 {xs : List D} : atI xs 2 = xs[2]? := atI_nat (i := 2)
@[simp] theorem ixN_2 {n : Nat} : ixN n 2 = if 2 < n then some 2 else none := ixN_nat (i := 2)
@[simp] theorem atI_3 {xs : List D} : atI xs 3 = xs[3]? := atI_nat (i := 3)
@[simp] theorem ixN_3 {n : Nat} : ixN n 3 = if 3 < n then some 3 else none := ixN_nat (i := 3)
@[simp] theorem atI_4 {xs : List D} : atI xs 4 = xs[4]? := atI_nat (i := 4)
@[simp] theorem ixN_4 {n : Nat} : ixN n 4 = if 4 < n then some 4 else none := ixN_nat (i := 4)
@[simp] theorem atI_5 {xs : List D} : atI xs 5 = xs[5]? := atI_nat (i := 5)
@[simp] theorem ixN_5 {n : Nat} : ixN n 5 = if 5 < n then some 5 else none := ixN_nat (i := 5)
@[simp] theorem atI_6 {xs : List D} : atI xs 6 = xs[6]? := atI_nat (i := 6)
@[simp] theorem ixN_6 {n : Nat} : ixN n 6 = if 6 < n then some 6 else none := ixN_nat (i := 6)
@[simp] theorem atI_7 {xs : List D} : atI xs 7 = xs[7]? := atI_nat (i := 7)
@[simp] theorem ixN_7 {n : Nat} : ixN n 7 = if 7 < n then some 7 else none := ixN_nat (i := 7)
@[simp] theorem atI_8 {xs : List D} : atI xs 8 = xs[8]? := atI_nat (i := 8)
@[simp] theorem ixN_8 {n : Nat} : ixN n 8 = if 8 < n then some 8 else none := ixN_nat (i := 8)
@[simp] theorem flat_int {i : Int} : flat (.int i) = true := rfl
@[simp] theorem flat_str {i : Str} : flat (.str i) = true := rfl
@[simp] theorem flat_bl {i : Bool} : flat (.bl i) = true := rfl
@[simp] theorem flat_non : flat .non = true := rfl
@[simp] theorem mask_nil {δ : Env} : mask [] δ = δ := rfl
@[simp] theorem mask_cons {i : Nat} {own : List Nat} {δ : Env} : mask (i :: own) δ = mask own (δ.set i none) := rfl
@[simp] theorem wipeD_nil {δ : Env} : wipeD [] δ = δ := rfl
@[simp] theorem wipeD_cons {i : Nat} {own : List Nat} {δ : Env} : wipeD (i :: own) δ = wipeD own (δ.set i none) := rfl
@[simp] theorem len_le0 : (0 : Nat) ≤ sizeLine := Nat.zero_le _
@[simp] theorem gn_eq {i : Nat} {d : D} {δ : Env} : gn i d δ = some (δ.set i (some d)) := rfl
@[simp] theorem gt_tup {h : List D → Env → Option Env} {ds : List D} {δ : Env} : gt h (.tup ds) δ = h ds δ := rfl
@[simp] theorem gscons_eq {h : D → Env → Option Env} {r : List D → Env → Option Env} {d : D} {ds : List D} {δ : Env} : gscons h r (d :: ds) δ = (h d δ).bind fun δ' => r ds δ' := rfl
@[simp] theorem gsnil_eq {δ : Env} : gsnil [] δ = some δ := rfl
@[simp] theorem dAll_lst {xs : List D} : dAll (.lst xs) = (dbools xs).map fun is => .bl (is.all id) := rfl
theorem log2_lt {i : Int} {k : Nat} (h : i.natAbs < 2 ^ k) (hk : 0 < k) : i.natAbs.log2 < k := by
  by_cases h0 : i.natAbs = 0
  · rw [h0]; simpa using hk
  · exact (Nat.log2_lt h0).2 h
theorem mulW {i j : Int} (h : i.natAbs < 2 ^ 200) (h2 : j.natAbs < 2 ^ 200) : CMulW i j := by
  have a := log2_lt h (by omega)
  have b := log2_lt h2 (by omega)
  unfold CMulW; omega
theorem dMul_ok {i j : Int} (h : i.natAbs < 2 ^ 200) (h2 : j.natAbs < 2 ^ 200) : dMul (.int i) (.int j) = some (.int (i * j)) := by
  simp only [dMul]; rw [if_pos (mulW h h2)]
theorem dMul_r {i j : Int} (h : -(2 ^ 64) < j) (h2 : j < 2 ^ 64) : dMul (.int i) (.int j) = some (.int (i * j)) := by
  simp only [dMul]
  split
  · rfl
  · rw [if_pos (show CMul i j from Or.inr ⟨h, h2⟩)]
theorem dFdiv_ok {i j : Int} (h : 0 < j) (h2 : j < 2 ^ 200) : dFdiv (.int i) (.int j) = some (.int (i.fdiv j)) := by
  simp only [dFdiv]; rw [if_pos]
  exact ⟨by omega, by have := log2_lt (i := j) (k := 200) (by omega) (by omega); omega⟩
theorem dMod_ok {i j : Int} (h : 0 < j) : dMod (.int i) (.int j) = some (.int (i.fmod j)) := by
  simp only [dMod]; rw [if_pos (by omega)]
theorem fmod_bd {i j : Int} (h : 0 < j) : 0 ≤ i.fmod j ∧ i.fmod j < j := ⟨Int.fmod_nonneg_of_pos i h, Int.fmod_lt_of_pos i h⟩
theorem sz {n : Nat} (h : n ≤ 16777216) : n ≤ sizeLine := by rw [PySem.sizeLine_eq]; exact h
/-! ### what changes lists, by simp -/
def lstAt (δ : Env) (i : Nat) : Option (List D) := match δ[i]? with
  | some (some (.lst ds)) => some ds
  | _ => none
@[simp] theorem lstAt_zero {ds : List D} {δ : Env} : lstAt (some (.lst ds) :: δ) 0 = some ds := rfl
@[simp] theorem lstAt_succ {x : Option D} {δ : Env} {i : Nat} : lstAt (x :: δ) (i + 1) = lstAt δ i := rfl
theorem lstAt_some {δ : Env} {i : Nat} {ds : List D} (h : lstAt δ i = some ds) : δ[i]? = some (some (.lst ds)) := by
  unfold lstAt at h
  split at h
  · rename_i e; cases h; exact e
  · cases h
theorem lstAt_of {δ : Env} {i : Nat} {ds : List D} (h : δ[i]? = some (some (.lst ds))) : lstAt δ i = some ds := by
  unfold lstAt; rw [h]
def asInt : D → Option Int
  | .int i => some i
  | _ => none
@[simp] theorem asInt_int {i : Int} : asInt (.int i) = some i := rfl
theorem asInt_some {d : D} {i : Int} (h : asInt d = some i) : d = .int i := by cases d <;> simp_all [asInt]
def asLst : D → Option (List D)
  | .lst i => some i
  | _ => none
@[simp] theorem asLst_lst {i : List D} : asLst (.lst i) = some i := rfl
theorem asLst_some {d : D} {i : List D} (h : asLst d = some i) : d = .lst i := by cases d <;> simp_all [asLst]
theorem ok_app {i : Nat} {f : Env → RE D} {δ : Env} {Q : Out → Env → Prop} (h : okO (lstAt δ i) fun _ => okE (f δ) fun d δ' => okO (lstAt δ' i) fun ds => ds.length < sizeLine ∧ Q .nx (δ'.set i (some (.lst (ds ++ [d]))))) : okE (sapp i f δ) Q := by
  obtain ⟨d0, e0, h⟩ := h
  exact okS_app (lstAt_some e0) (h.mono fun d δ' ⟨ds, e, q⟩ => ⟨ds, lstAt_some e, q⟩)
theorem ok_pop {i : Nat} {f : Env → RE D} {δ : Env} {Q : D → Env → Prop} (h : okO (lstAt δ i) fun _ => okE (f δ) fun d δ' => okO (lstAt δ' i) fun ds => okO (asInt d) fun n => 0 ≤ n ∧ n < 2 ^ 63 ∧ okO (ds[n.toNat]?) fun y => Q y (δ'.set i (some (.lst (ds.eraseIdx n.toNat))))) : okE (epop i f δ) Q := by
  obtain ⟨d0, e0, h⟩ := h
  exact okE_pop (lstAt_some e0) (h.mono fun d δ' ⟨ds, e, n, en, h1, h2, y, h3, q⟩ => ⟨ds, n, y, lstAt_some e, asInt_some en, h1, h2, h3, q⟩)
theorem ok_addO {i : Nat} {f : Env → RE D} {δ : Env} {Q : D → Env → Prop} (h : okO (lstAt δ i) fun _ => okE (f δ) fun d δ' => okO (lstAt δ' i) fun ds => okO (asLst d) fun es => ds.length + es.length ≤ sizeLine ∧ Q (.lst (ds ++ es)) δ') : okE (eaddO i f δ) Q := by
  obtain ⟨d0, e0, h⟩ := h
  exact okE_addO (lstAt_some e0) (h.mono fun d δ' ⟨ds, e, es, en, h1, q⟩ => ⟨ds, es, lstAt_some e, asLst_some en, h1, q⟩)
theorem ok_callB {m : List D → List D → Option (D × List D)} {i : Nat} {a : Env → RE (List D)} {δ : Env} {Q : D → Env → Prop} (h : okO (lstAt δ i) fun _ => okE (a δ) fun ds δ' => okO (lstAt δ' i) fun B => okO (m B ds) fun q => Q q.1 (δ'.set i (some (.lst q.2)))) : okE (ecallB m i a δ) Q := by
  obtain ⟨d0, e0, h⟩ := h
  exact okE_callB (lstAt_some e0) (h.mono fun d δ' ⟨B, e, ⟨r, B'⟩, em, q⟩ => ⟨B, r, B', lstAt_some e, em, q⟩)
theorem ok_callBN {m : List D → List D → Option (D × List D)} {fa : Env → RE D} {f : Env → RE (List D)} {δ : Env} {Q : D → Env → Prop} (h : okE (fa δ) fun d δ1 => okE (f δ1) fun ds δ2 => okO (asLst d) fun B => okO (m B ds) fun q => Q q.1 δ2) : okE (ecallBN m fa f δ) Q :=
  okE_callBN (h.mono fun d δ1 h => h.mono fun ds δ2 ⟨B, e, ⟨r, B'⟩, em, q⟩ => ⟨B, r, B', asLst_some e, em, q⟩)
theorem ok_ixset {i : Nat} {fk f : Env → RE D} {δ : Env} {Q : Out → Env → Prop} (h : okE (f δ) fun d δ1 => okO (lstAt δ1 i) fun _ => okE (fk δ1) fun k δ2 => okO (lstAt δ2 i) fun ds => okO (asInt k) fun n => okO (ixN ds.length n) fun j => Q .nx (δ2.set i (some (.lst (ds.set j d))))) : okE (sixset i fk f δ) Q :=
  okS_ixset (h.mono fun d δ1 ⟨d0, e0, h⟩ => ⟨⟨d0, lstAt_some e0⟩, h.mono fun k δ2 ⟨ds, e, n, en, j, ej, q⟩ => ⟨ds, n, j, lstAt_some e, asInt_some en, ej, q⟩⟩)
theorem ok_par2 {i j : Nat} {f : Env → RE (List D)} {δ : Env} {Q : Out → Env → Prop} : okE (spar2 i j f δ) Q = okE (f δ) fun ds δ' => okO (ds[0]?) fun a => okO (ds[1]?) fun b => ds.length = 2 ∧ Q .nx ((δ'.set i (some a)).set j (some b)) := by
  apply propext; constructor
  · rintro ⟨o, δ', e, q⟩
    unfold spar2 at e
    rw [show f δ = f δ from rfl] at e
    cases h : f δ with
    | none => rw [h] at e; cases e
    | some y => rcases y with x | ⟨ds, δ1⟩
                · rw [h] at e; cases e
                · rw [h] at e
                  simp only [bindE] at e
                  split at e
                  · cases e; exact ⟨_, _, rfl, _, rfl, _, rfl, rfl, q⟩
                  · cases e
  · intro h
    refine okS_par2 (h.mono fun ds δ' ⟨a, ea, b, eb, hl, q⟩ => ?_)
    match ds, hl with
    | [x, y], _ => cases ea; cases eb; exact ⟨_, _, rfl, q⟩
end PD
end
section
set_option maxHeartbeats 1000000
namespace PD
open PySem L2
@[simp] theorem okE_callBE {m : List D → List D → Option (D × List D)} {i : Nat} {a : Env → RE (List D)} {δ : Env} {Q : D → Env → Prop} : okE (ecallB m i a δ) Q = okO (lstAt δ i) fun _ => okE (a δ) fun ds δ' => okO (lstAt δ' i) fun B => okO (m B ds) fun q => Q q.1 (δ'.set i (some (.lst q.2))) := by
  apply propext; refine ⟨?_, ok_callB⟩
  rintro ⟨r, δ2, e, q⟩
  unfold ecallB at e
  split at e
  · rename_i d0 h0
    refine ⟨d0, lstAt_of h0, ?_⟩
    cases h : a δ with
    | none => rw [h] at e; cases e
    | some y => rcases y with x | ⟨ds, δ1⟩
                · rw [h] at e; cases e
                · rw [h] at e; simp only [bindE] at e
                  split at e
                  · rename_i B hB
                    cases hm : m B ds with
                    | none => rw [hm] at e; cases e
                    | some z => rw [hm] at e; cases e; exact ⟨ds, δ1, rfl, B, lstAt_of hB, z, hm, q⟩
                  · cases e
  · cases e
@[simp] theorem okE_callBNE {m : List D → List D → Option (D × List D)} {fa : Env → RE D} {f : Env → RE (List D)} {δ : Env} {Q : D → Env → Prop} : okE (ecallBN m fa f δ) Q = okE (fa δ) fun d δ1 => okE (f δ1) fun ds δ2 => okO (asLst d) fun B => okO (m B ds) fun q => Q q.1 δ2 := by
  unfold ecallBN; rw [okE_bind]; congr; funext d δ1; rw [okE_bind]; congr; funext ds δ2
  apply propext; constructor
  · rintro ⟨r, δ3, e, q⟩
    split at e
    · rename_i B
      cases hm : m B ds with
      | none => rw [hm] at e; cases e
      | some z => rw [hm] at e; cases e; exact ⟨B, rfl, z, hm, q⟩
    · cases e
  · rintro ⟨B, e, z, hm, q⟩
    cases asLst_some e
    simp only []; rw [hm]; exact ⟨_, _, rfl, q⟩
@[simp] theorem okE_popE {i : Nat} {f : Env → RE D} {δ : Env} {Q : D → Env → Prop} : okE (epop i f δ) Q = okO (lstAt δ i) fun _ => okE (f δ) fun d δ' => okO (lstAt δ' i) fun ds => okO (asInt d) fun n => 0 ≤ n ∧ n < 2 ^ 63 ∧ okO (ds[n.toNat]?) fun y => Q y (δ'.set i (some (.lst (ds.eraseIdx n.toNat)))) := by
  apply propext; refine ⟨?_, ok_pop⟩
  rintro ⟨r, δ2, e, q⟩
  unfold epop at e
  split at e
  · rename_i d0 h0
    refine ⟨d0, lstAt_of h0, ?_⟩
    cases h : f δ with
    | none => rw [h] at e; cases e
    | some y => rcases y with x | ⟨d, δ1⟩
                · rw [h] at e; cases e
                · rw [h] at e; simp only [bindE] at e
                  split at e
                  · rename_i ds hB
                    split at e
                    · rename_i k
                      split at e
                      · rename_i hk
                        split at e
                        · rename_i hy
                          cases e; exact ⟨_, δ1, rfl, ds, lstAt_of hB, k, rfl, hk.1, hk.2, _, hy, q⟩
                        · cases e
                      · cases e
                    · cases e
                  · cases e
  · cases e
@[simp] theorem okS_appE {i : Nat} {f : Env → RE D} {δ : Env} {Q : Out → Env → Prop} : okE (sapp i f δ) Q = okO (lstAt δ i) fun _ => okE (f δ) fun d δ' => okO (lstAt δ' i) fun ds => ds.length < sizeLine ∧ Q .nx (δ'.set i (some (.lst (ds ++ [d])))) := by
  apply propext; refine ⟨?_, ok_app⟩
  rintro ⟨r, δ2, e, q⟩
  unfold sapp at e
  split at e
  · rename_i d0 h0
    refine ⟨d0, lstAt_of h0, ?_⟩
    cases h : f δ with
    | none => rw [h] at e; cases e
    | some y => rcases y with x | ⟨d, δ1⟩
                · rw [h] at e; cases e
                · rw [h] at e; simp only [bindE] at e
                  split at e
                  · rename_i ds hB
                    split at e
                    · rename_i hk; cases e; exact ⟨_, δ1, rfl, ds, lstAt_of hB, hk, q⟩
                    · cases e
                  · cases e
  · cases e
@[simp] theorem okE_addOE {i : Nat} {f : Env → RE D} {δ : Env} {Q : D → Env → Prop} : okE (eaddO i f δ) Q = okO (lstAt δ i) fun _ => okE (f δ) fun d δ' => okO (lstAt δ' i) fun ds => okO (asLst d) fun es => ds.length + es.length ≤ sizeLine ∧ Q (.lst (ds ++ es)) δ' := by
  apply propext; refine ⟨?_, ok_addO⟩
  rintro ⟨r, δ2, e, q⟩
  unfold eaddO at e
  split at e
  · rename_i d0 h0
    refine ⟨d0, lstAt_of h0, ?_⟩
    cases h : f δ with
    | none => rw [h] at e; cases e
    | some y => rcases y with x | ⟨d, δ1⟩
                · rw [h] at e; cases e
                · rw [h] at e; simp only [bindE] at e
                  split at e
                  · rename_i ds hB
                    split at e
                    · rename_i es
                      split at e
                      · rename_i hk; cases e; exact ⟨_, _, rfl, ds, lstAt_of hB, es, rfl, hk, q⟩
                      · cases e
                    · cases e
                  · cases e
  · cases e
@[simp] theorem okS_ixsetE {i : Nat} {fk f : Env → RE D} {δ : Env} {Q : Out → Env → Prop} : okE (sixset i fk f δ) Q = okE (f δ) fun d δ1 => okO (lstAt δ1 i) fun _ => okE (fk δ1) fun k δ2 => okO (lstAt δ2 i) fun ds => okO (asInt k) fun n => okO (ixN ds.length n) fun j => Q .nx (δ2.set i (some (.lst (ds.set j d)))) := by
  apply propext; refine ⟨?_, ok_ixset⟩
  rintro ⟨r, δ2, e, q⟩
  unfold sixset at e
  cases h : f δ with
  | none => rw [h] at e; cases e
  | some y =>
    rcases y with x | ⟨d, δ1⟩
    · rw [h] at e; cases e
    · rw [h] at e; simp only [bindE] at e
      split at e
      · rename_i d0 h0
        refine ⟨d, δ1, rfl, d0, lstAt_of h0, ?_⟩
        cases h1 : fk δ1 with
        | none => rw [h1] at e; cases e
        | some y =>
          rcases y with x | ⟨k, δ3⟩
          · rw [h1] at e; cases e
          · rw [h1] at e; simp only [] at e
            split at e
            · rename_i ds hB
              split at e
              · rename_i n
                split at e
                · rename_i j hj; cases e; exact ⟨_, _, rfl, ds, lstAt_of hB, n, rfl, j, hj, q⟩
                · cases e
              · cases e
            · cases e
      · cases e
@[simp] theorem okS_par2E {i j : Nat} {f : Env → RE (List D)} {δ : Env} {Q : Out → Env → Prop} : okE (spar2 i j f δ) Q = okE (f δ) fun ds δ' => okO (ds[0]?) fun a => okO (ds[1]?) fun b => ds.length = 2 ∧ Q .nx ((δ'.set i (some a)).set j (some b)) := ok_par2
@[simp] theorem okS_par3E {i j l : Nat} {f : Env → RE (List D)} {δ : Env} {Q : Out → Env → Prop} : okE (spar3 i j l f δ) Q = okE (f δ) fun ds δ' => okO (ds[0]?) fun a => okO (ds[1]?) fun b => okO (ds[2]?) fun e => ds.length = 3 ∧ Q .nx (((δ'.set i (some a)).set j (some b)).set l (some e)) := by
  apply propext; constructor
  · rintro ⟨o, δ', e, q⟩
    unfold spar3 at e
    cases h : f δ with
    | none => rw [h] at e; cases e
    | some y => rcases y with x | ⟨ds, δ1⟩
                · rw [h] at e; cases e
                · rw [h] at e
                  simp only [bindE] at e
                  split at e
                  · cases e; exact ⟨_, _, rfl, _, rfl, _, rfl, _, rfl, rfl, q⟩
                  · cases e
  · intro h
    refine okS_par3 (h.mono fun ds δ' ⟨a, ea, b, eb, x, ex, hl, q⟩ => ?_)
    match ds, hl with
    | [x, y, z], _ => cases ea; cases eb; cases ex; exact ⟨_, _, _, rfl, q⟩
@[simp] theorem okE_irng1E {f : Env → RE D} {δ : Env} {Q : List D → Env → Prop} : okE (irng1 f δ) Q = okE (f δ) fun d δ' => okO (asInt d) fun n => (-(2 ^ 62) ≤ n ∧ n < 2 ^ 62) ∧ Q (rng 0 n) δ' := by
  apply propext; constructor
  · rintro ⟨o, δ', e, q⟩
    unfold irng1 at e
    cases h : f δ with
    | none => rw [h] at e; cases e
    | some y => rcases y with x | ⟨ds, δ1⟩
                · rw [h] at e; cases e
                · rw [h] at e
                  simp only [bindE] at e
                  split at e
                  · split at e
                    · rename_i hc; cases e; exact ⟨_, _, rfl, _, rfl, hc, q⟩
                    · cases e
                  · cases e
  · intro h
    exact okE_irng1 (h.mono fun d δ' ⟨n, e, hc, q⟩ => ⟨n, asInt_some e, hc.1, hc.2, q⟩)
@[simp] theorem okE_enorE {f g : Env → RE D} {δ : Env} {Q : D → Env → Prop} : okE (enor f g δ) Q = okE (f δ) fun d δ' => okO (asLst d) fun xs => if xs = [] then okE (g δ') Q else Q (.lst xs) δ' := by
  unfold enor; rw [okE_bind]; congr; funext d δ'
  apply propext; constructor
  · intro h
    split at h
    · exact ⟨_, rfl, by simpa using h⟩
    · rw [okE_some] at h; exact ⟨_, rfl, by simpa using h⟩
    · obtain ⟨_, _, e, _⟩ := h; cases e
  · rintro ⟨xs, e, h⟩
    cases asLst_some e
    cases xs with
    | nil => simpa using h
    | cons x xs => simp only []; rw [okE_some]; simpa using h
@[simp] theorem okE_ienumE {f : Env → RE D} {δ : Env} {Q : List D → Env → Prop} : okE (ienum f δ) Q = okE (f δ) fun d δ' => okO (seqL d) fun xs => Q (enumD 0 xs) δ' := by
  unfold ienum; rw [okE_bind]; congr; funext d δ'
  apply propext; constructor
  · intro h
    split at h
    · rw [okE_some] at h; exact ⟨_, rfl, h⟩
    · rw [okE_some] at h; exact ⟨_, rfl, h⟩
    · obtain ⟨_, _, e, _⟩ := h; cases e
  · rintro ⟨xs, e, h⟩
    cases d <;> first | (cases e; exact ⟨_, _, rfl, h⟩) | cases e
@[simp] theorem seqL_lst {xs : List D} : seqL (.lst xs) = some xs := rfl
@[simp] theorem seqL_scr {xs : List D} : seqL (.scr xs) = some xs := rfl
theorem sfrz_ok {own : List Nat} {k : Env → RO} {δ : Env} {Q : Out → Env → Prop} : okE (sfrz own k δ) Q = (bxIn own δ = true ∧ okE (k δ) Q) := by
  unfold sfrz
  by_cases h : bxIn own δ = true
  · rw [if_pos h]; simp [h]
  · rw [if_neg h]; apply propext; constructor
    · rintro ⟨_, _, e, _⟩; cases e
    · exact fun h2 => absurd h2.1 h
@[simp] theorem okS_frzE {own : List Nat} {k : Env → RO} {δ : Env} {Q : Out → Env → Prop} : okE (sfrz own k δ) Q = (bxIn own δ = true ∧ okE (k δ) Q) := sfrz_ok
@[simp] theorem bxIn_some {own : List Nat} {x : D} {δ : Env} : bxIn own (some x :: δ) = true := by simp [bxIn]
end PD
end
section
set_option maxHeartbeats 1000000
set_option exponentiation.threshold 3000
namespace PD
open PySem L2
/-! ### plain data -/
mutual
def pl : D → Bool
  | .non => true
  | .bl _ => true
  | .int i => decide (i.natAbs < 2 ^ 1900)
  | .str x => decide (x.length ≤ 1000) && PyData.strOk x
  | .tup xs => pls xs
  | .lst xs => pls xs
  | _ => false
def pls : List D → Bool
  | [] => true
  | x :: xs => pl x && pls xs
end
mutual
def wt : D → Nat
  | .non => 10
  | .bl _ => 10
  | .int _ => 600
  | .str x => 10 * x.length + 10
  | .tup xs => wts xs + 10
  | .lst xs => wts xs + 10
  | _ => 0
def wts : List D → Nat
  | [] => 0
  | x :: xs => wt x + 2 + wts xs
end
mutual
def dpt : D → Nat
  | .tup xs => dpts xs + 1
  | .lst xs => dpts xs + 1
  | _ => 0
def dpts : List D → Nat
  | [] => 0
  | x :: xs => max (dpt x) (dpts xs)
end
theorem textFrom_le : ∀ (ts : List Str) (k : Nat) (acc : Str), (PySem.textFrom k acc ts).length ≤ acc.length + PySem.piled ts
  | [], k, acc => by simp [PySem.textFrom]
  | t :: ts, k, acc => by
    rw [PySem.textFrom, PySem.piled_cons]
    have := textFrom_le ts (k + 1) (acc ++ (if k > 0 then ", " else "" : String) ++ t)
    have e : (acc ++ (if k > 0 then ", " else "" : String) ++ t).length = acc.length + (if k > 0 then 2 else 0) + t.length := by
      rw [strLen_append, strLen_append]
      split <;> rfl
    rw [e] at this
    have h2 : (if k > 0 then 2 else 0) ≤ 2 := by split <;> omega
    omega
theorem listText_le (ts : List Str) : (PySem.listText ts).length ≤ PySem.piled ts + 2 := by
  unfold PySem.listText
  rw [strLen_append]
  have := textFrom_le ts 0 "["
  have e1 : (("[" : String) : Str).length = 1 := rfl
  have e2 : (("]" : String) : Str).length = 1 := rfl
  omega
theorem tupleText_le (ts : List Str) : (PySem.tupleText ts).length ≤ PySem.piled ts + 3 := by
  unfold PySem.tupleText
  rw [strLen_append, strLen_append]
  have e1 : (("(" : String) : Str).length = 1 := rfl
  have e2 : ((if ts.length == 1 then ",)" else ")" : String) : Str).length ≤ 2 := by split <;> decide
  cases ts with
  | nil =>
    have : (Str.join ", " []).length = 0 := rfl
    omega
  | cons t ts =>
    have := PySem.join_length_add (t :: ts) (by simp)
    omega
theorem int_len {i : Int} (h : i.natAbs < 2 ^ 1900) : ((toString i : String) : Str).length ≤ 600 := by
  have e : ∀ s : String, (Str.ofString s).length = s.length := fun s => by
    rw [Str.ofString_eq_toList]; show (s.toList.map Char.toNat).toArray.size = _; rw [List.size_toArray, List.length_map, String.length_toList]
  show (Str.ofString (toString i)).length ≤ 600
  rw [e, Int.toString_eq_repr, Int.repr_eq_if]
  have h2 : (2 : Nat) ^ 1900 ≤ 10 ^ 599 := by decide +kernel
  have k : ∀ n : Nat, n < 2 ^ 1900 → n.repr.length ≤ 599 := fun n hn => (Nat.length_repr_le_iff (by decide)).2 (Nat.lt_of_lt_of_le hn h2)
  split
  · have := k i.toNat (by have : i.toNat = i.natAbs := by omega
                          rw [this]; exact h)
    omega
  · have := k (-i).toNat (by have : (-i).toNat = i.natAbs := by omega
                             rw [this]; exact h)
    rw [String.length_append]
    have : "-".length = 1 := rfl
    omega
mutual
theorem pl_py : ∀ {d : D}, pl d = true → ∃ p, toPy d = some p ∧ p.canLay0 = true ∧ p.showable = true ∧ p.depth = dpt d ∧ p.shown.length ≤ wt d
  | .non, _ => ⟨_, rfl, rfl, rfl, rfl, by decide⟩
  | .bl b, _ => ⟨_, rfl, rfl, rfl, rfl, by cases b <;> decide⟩
  | .int i, h => by
    have h1 : i.natAbs < 2 ^ 1900 := by simpa [pl] using h
    refine ⟨.int i, rfl, by simp [PyData.canLay0], ?_, by simp [PyData.depth, dpt], ?_⟩
    · simp only [PyData.showable, decide_eq_true_eq]
      exact Nat.lt_of_lt_of_le (log2_lt h1 (by decide)) (by decide)
    · rw [PyData.shown]; exact int_len h1
  | .str x, h => by
    simp only [pl, Bool.and_eq_true, decide_eq_true_eq] at h
    refine ⟨.str x, rfl, by simp [PyData.canLay0, h.2], by simp [PyData.showable], by simp [PyData.depth, dpt], ?_⟩
    rw [PyData.shown, wt]
    have := PySem.StrLaws.reprText_len x (fun c hc => by
      have h2 := h.2
      unfold PyData.strOk at h2
      have := (Array.all_eq_true'.1 h2) c (by simpa using hc)
      simp at this
      omega)
    omega
  | .tup xs, h => by
    obtain ⟨ps, h1, h2, h3, h4, h5⟩ := pls_py (xs := xs) (by simpa [pl] using h)
    refine ⟨.tuple ps, by simp [toPy, h1], by simpa [PyData.canLay0] using h2, by simpa [PyData.showable] using h3, by simp [PyData.depth, dpt, h4], ?_⟩
    rw [PyData.shown, wt]
    have := tupleText_le (PyData.shownAll ps)
    omega
  | .lst xs, h => by
    obtain ⟨ps, h1, h2, h3, h4, h5⟩ := pls_py (xs := xs) (by simpa [pl] using h)
    refine ⟨.list ps, by simp [toPy, h1], by simpa [PyData.canLay0] using h2, by simpa [PyData.showable] using h3, by simp [PyData.depth, dpt, h4], ?_⟩
    rw [PyData.shown, wt]
    have := listText_le (PyData.shownAll ps)
    omega
  | .scr _, h => by cases h
  | .dic _, h => by cases h
  | .obj _ _, h => by cases h
  | .ins _ _, h => by cases h
theorem pls_py : ∀ {xs : List D}, pls xs = true → ∃ ps, toPys xs = some ps ∧ PyData.canLayAll0 ps = true ∧ PyData.showableAll ps = true ∧ PyData.depthAll ps = dpts xs ∧ PySem.piled (PyData.shownAll ps) ≤ wts xs
  | [], _ => ⟨[], rfl, rfl, rfl, rfl, by simp [PyData.shownAll, PySem.piled]⟩
  | x :: xs, h => by
    simp only [pls, Bool.and_eq_true] at h
    obtain ⟨p, a1, a2, a3, a4, a5⟩ := pl_py h.1
    obtain ⟨ps, h1, h2, h3, h4, h5⟩ := pls_py h.2
    refine ⟨p :: ps, by simp [toPys, a1, h1], by simp [PyData.canLayAll0, a2, h2], by simp [PyData.showableAll, a3, h3], by simp [PyData.depthAll, dpts, a4, h4], ?_⟩
    rw [PyData.shownAll, PySem.piled_cons, wts]
    omega
end
/-! what can be asked of plain data -/
theorem shaped_of {d : D} (h : pl d = true) (h2 : dpt d ≤ 64) : ∃ p, toPy d = some p ∧ SeqAt.shaped p = true := by
  obtain ⟨p, h1, h3, _, h4, _⟩ := pl_py h
  exact ⟨p, h1, by simp [SeqAt.shaped, h3, h4, h2]⟩
theorem dRepr_ok {d : D} (h : pl d = true) (h2 : dpt d ≤ 64) (h3 : wt d ≤ 16000000) : ∃ s, dRepr d = some (.str s) := by
  obtain ⟨p, a1, a2, a3, a4, a5⟩ := pl_py h
  refine ⟨p.shown, ?_⟩
  unfold dRepr
  rw [a1, Option.bind_some, if_pos]
  have : p.shown.length ≤ sizeLine := sz (by omega)
  simp [a3, a4, h2, this]
theorem eqD_ok {x y : D} (hx : pl x = true) (hx2 : dpt x ≤ 64) (hy : pl y = true) (hy2 : dpt y ≤ 64) : ∃ p q, toPy x = some p ∧ toPy y = some q ∧ eqD x y = some (PyData.eqv p q) := by
  obtain ⟨p, h1, h2⟩ := shaped_of hx hx2
  obtain ⟨q, k1, k2⟩ := shaped_of hy hy2
  exact ⟨p, q, h1, k1, by simp [eqD, h1, k1, h2, k2]⟩
@[simp] theorem dEq_int {a b : Int} : dEq (.int a) (.int b) = some (.bl (a == b)) := by
  simp [dEq, eqD, toPy, SeqAt.shaped, PyData.canLay0, PyData.depth, PyData.eqv]
@[simp] theorem dNe_int {a b : Int} : dNe (.int a) (.int b) = some (.bl (a != b)) := by
  simp [dNe, eqD, toPy, SeqAt.shaped, PyData.canLay0, PyData.depth, PyData.eqv, bne]
@[simp] theorem dEq_bl {a b : Bool} : dEq (.bl a) (.bl b) = some (.bl (a == b)) := by
  simp [dEq, eqD, toPy, SeqAt.shaped, PyData.canLay0, PyData.depth, PyData.eqv]
@[simp] theorem dNe_bl {a b : Bool} : dNe (.bl a) (.bl b) = some (.bl (a != b)) := by
  simp [dNe, eqD, toPy, SeqAt.shaped, PyData.canLay0, PyData.depth, PyData.eqv, bne]
theorem eqD_str {a b : Str} (ha : PyData.strOk a = true) (hb : PyData.strOk b = true) : eqD (.str a) (.str b) = some (a == b) := by
  simp [eqD, toPy, SeqAt.shaped, PyData.canLay0, PyData.depth, PyData.eqv, ha, hb]
theorem pls_mem : ∀ {xs : List D}, pls xs = true ↔ ∀ x ∈ xs, pl x = true
  | [] => by simp [pls]
  | x :: xs => by simp [pls, pls_mem (xs := xs)]
theorem dpts_le : ∀ {xs : List D} {n : Nat}, dpts xs ≤ n ↔ ∀ x ∈ xs, dpt x ≤ n
  | [], n => by simp [dpts]
  | x :: xs, n => by simp [dpts, Nat.max_le, dpts_le (xs := xs)]
theorem wts_append : ∀ {xs ys : List D}, wts (xs ++ ys) = wts xs + wts ys
  | [], ys => by simp [wts]
  | x :: xs, ys => by simp [wts, wts_append (xs := xs)]; omega
theorem wts_mem : ∀ {xs : List D} {x : D}, x ∈ xs → wt x + 2 ≤ wts xs
  | [], _, h => by simp at h
  | x :: xs, y, h => by
    rcases List.mem_cons.1 h with rfl | h
    · simp [wts]
    · have := wts_mem h; simp [wts]; omega
theorem wts_le : ∀ {xs : List D} {k : Nat}, (∀ x ∈ xs, wt x + 2 ≤ k) → wts xs ≤ k * xs.length
  | [], _, _ => by simp [wts]
  | x :: xs, k, h => by
    have := wts_le (xs := xs) fun y hy => h y (List.mem_cons_of_mem _ hy)
    have := h x List.mem_cons_self
    simp [wts, Nat.mul_succ]; omega
theorem eq_of_okR {α : Type} {o : Rs α} {a : α} (h : okR o fun d => d = a) : o = some (.ok a) := by
  obtain ⟨d, e, rfl⟩ := h; exact e
/-- a comprehension whose parts change nothing -/
theorem okE_comp {vs : List Nat} {g : D → Env → Option Env} {t : Env → RE Bool} {e : Env → RE D} {δ : Env} {ds acc : List D} {Q : List D → Env → Prop} (T : D → Bool) (F : D → D) (h : ∀ d ∈ ds, okO (g d δ) fun δ1 => wipeD vs δ1 = δ ∧ okE (t δ1) fun k δ2 => k = T d ∧ δ2 = δ1 ∧ (k = true → okE (e δ1) fun y δ3 => y = F d ∧ δ3 = δ1)) (hl : acc.length + ds.length ≤ sizeLine) (q : Q (acc ++ (ds.filter T).map F) δ) : okE (scomp vs g t e ds acc δ) Q := by
  rw [scomp_map (T := T) (F := F) (fun d hd => ?_) hl]
  · rw [okE_some]; exact q
  · obtain ⟨δ1, e1, ew, k, δ2, e2, rfl, rfl, h3⟩ := h d hd
    refine ⟨_, e1, ew, e2, fun hT => ?_⟩
    obtain ⟨y, δ3, e3, rfl, rfl⟩ := h3 hT
    exact e3
theorem filter_true {α : Type} : ∀ {xs : List α}, xs.filter (fun _ => true) = xs
  | [] => rfl
  | x :: xs => by simp
theorem okE_compM {vs : List Nat} {g : D → Env → Option Env} {e : Env → RE D} {δ : Env} {ds acc : List D} {Q : List D → Env → Prop} (F : D → D) (h : ∀ d ∈ ds, okO (g d δ) fun δ1 => wipeD vs δ1 = δ ∧ okE (e δ1) fun y δ3 => y = F d ∧ δ3 = δ1) (hl : acc.length + ds.length ≤ sizeLine) (q : Q (acc ++ ds.map F) δ) : okE (scomp vs g tyes e ds acc δ) Q := by
  refine okE_comp (fun _ => true) F (fun d hd => ?_) hl (by rw [filter_true]; exact q)
  exact (h d hd).mono fun δ1 ⟨hw, he⟩ => ⟨hw, by simp; exact he⟩
@[simp] theorem dbools_map {α : Type} {f : α → Bool} : ∀ {xs : List α}, dbools (xs.map fun x => .bl (f x)) = some (xs.map f)
  | [] => rfl
  | x :: xs => by simp [dbools, dbools_map (xs := xs)]
@[simp] theorem dints_map {α : Type} {f : α → Int} : ∀ {xs : List α}, dints (xs.map fun x => .int (f x)) = some (xs.map f)
  | [] => rfl
  | x :: xs => by simp [dints, dints_map (xs := xs)]
@[simp] theorem dstrs_map {α : Type} {f : α → Str} : ∀ {xs : List α}, dstrs (xs.map fun x => .str (f x)) = some (xs.map f)
  | [] => rfl
  | x :: xs => by simp [dstrs, dstrs_map (xs := xs)]
end PD
end
section
set_option maxHeartbeats 1000000
namespace PD
open PySem L2
/-! ### texts of plain data are texts -/
theorem strOk_iff {x : Str} : PyData.strOk x = true ↔ ∀ e ∈ x.cps.toList, e < 1114112 := by
  unfold PyData.strOk
  rw [Array.all_eq_true']
  simp
theorem strOk_app {a b : Str} (ha : PyData.strOk a = true) (hb : PyData.strOk b = true) : PyData.strOk (a ++ b) = true := by
  rw [strOk_iff] at *
  intro e he
  have : (a ++ b).cps = a.cps ++ b.cps := rfl
  rw [this, Array.toList_append] at he
  rcases List.mem_append.1 he with h | h
  · exact ha e h
  · exact hb e h
theorem char_lt (c : Char) : c.toNat < 1114112 := by
  have := c.valid
  rcases this with h | h
  · have h2 : c.toNat = c.val.toNat := rfl
    omega
  · have h2 : c.toNat = c.val.toNat := rfl
    omega
theorem strOk_of (s : String) : PyData.strOk (Str.ofString s) = true := by
  rw [strOk_iff, Str.ofString_eq_toList]
  intro e he
  simp at he
  obtain ⟨c, _, rfl⟩ := he
  exact char_lt c
theorem reprChar_ok {q e : Nat} (hq : q < 1114112) (he : e < 1114112) : ∀ x ∈ Builtin.Str.reprChar q e, x < 1114112 := by
  have hex : ∀ w, ∀ x ∈ List.replicate (w - ((Nat.toDigits 16 e).map Char.toNat).length) 48 ++ (Nat.toDigits 16 e).map Char.toNat, x < 1114112 := by
    intro w x hx
    rcases List.mem_append.1 hx with h | h
    · rw [(List.mem_replicate.1 h).2]; decide
    · obtain ⟨c, _, rfl⟩ := List.mem_map.1 h
      exact char_lt c
  unfold Builtin.Str.reprChar
  dsimp only
  repeat' split
  all_goals intro x hx
  all_goals first | (rcases List.mem_append.1 hx with hx | hx; (simp at hx; omega); exact hex _ x hx) | (simp at hx; omega)
theorem fold_ok {q : Nat} (hq : q < 1114112) : ∀ (l : List Nat) (acc : Array Nat), (∀ e ∈ acc.toList, e < 1114112) → (∀ e ∈ l, e < 1114112) → ∀ e ∈ (l.foldl (fun out c => out ++ (Builtin.Str.reprChar q c).toArray) acc).toList, e < 1114112
  | [], acc, ha, _ => ha
  | x :: l, acc, ha, hl => by
    rw [List.foldl_cons]
    refine fold_ok hq l _ ?_ fun e he => hl e (List.mem_cons_of_mem _ he)
    intro e he
    rw [Array.toList_append] at he
    rcases List.mem_append.1 he with h | h
    · exact ha e h
    · exact reprChar_ok hq (hl x List.mem_cons_self) e (by simpa using h)
theorem reprText_ok {x : Str} (h : PyData.strOk x = true) : PyData.strOk (PySem.reprText x) = true := by
  rw [strOk_iff] at *
  have hq : PySem.reprQuote x < 1114112 := by unfold PySem.reprQuote; split <;> decide
  intro e he
  unfold PySem.reprText at he
  simp only [Array.toList_push] at he
  rcases List.mem_append.1 he with h1 | h1
  · rw [← Array.foldl_toList] at h1
    exact fold_ok hq _ _ (by simpa using hq) h e h1
  · rw [List.mem_singleton.1 h1]; exact hq
theorem textFrom_ok : ∀ (ts : List Str) (k : Nat) (acc : Str), PyData.strOk acc = true → (∀ t ∈ ts, PyData.strOk t = true) → PyData.strOk (PySem.textFrom k acc ts) = true
  | [], _, _, h, _ => h
  | t :: ts, k, acc, h, ht => by
    rw [PySem.textFrom]
    exact textFrom_ok ts _ _ (strOk_app (strOk_app h (strOk_of _)) (ht t List.mem_cons_self)) fun u hu => ht u (List.mem_cons_of_mem _ hu)
theorem join_ok {sep : Str} (hs : PyData.strOk sep = true) : ∀ (ts : List Str), (∀ t ∈ ts, PyData.strOk t = true) → PyData.strOk (Str.join sep ts) = true
  | [], _ => by rw [strOk_iff]; simp [Str.join, Str.empty]
  | [t], h => h t List.mem_cons_self
  | t :: u :: ts, h => by
    rw [Str.join]
    · exact strOk_app (strOk_app (h t List.mem_cons_self) hs) (join_ok hs (u :: ts) fun x hx => h x (List.mem_cons_of_mem _ hx))
    · simp
mutual
theorem shown_ok : ∀ {p : PyData}, p.canLay0 = true → PyData.strOk p.shown = true
  | .none, _ => by rw [PyData.shown]; exact strOk_of _
  | .bool b, _ => by rw [PyData.shown]; split <;> exact strOk_of _
  | .int i, _ => by rw [PyData.shown]; exact strOk_of _
  | .str x, h => by rw [PyData.shown]; exact reprText_ok (by simpa [PyData.canLay0] using h)
  | .list xs, h => by
    rw [PyData.shown, PySem.listText]
    exact strOk_app (textFrom_ok _ _ _ (strOk_of _) (showns_ok (by simpa [PyData.canLay0] using h))) (strOk_of _)
  | .tuple xs, h => by
    rw [PyData.shown, PySem.tupleText]
    exact strOk_app (strOk_app (strOk_of _) (join_ok (strOk_of _) _ (showns_ok (by simpa [PyData.canLay0] using h)))) (strOk_of _)
  | .dict _, h => by simp [PyData.canLay0] at h
theorem showns_ok : ∀ {ps : List PyData}, PyData.canLayAll0 ps = true → ∀ t ∈ PyData.shownAll ps, PyData.strOk t = true
  | [], _, t, h => by simp [PyData.shownAll] at h
  | p :: ps, h, t, ht => by
    simp only [PyData.canLayAll0, Bool.and_eq_true] at h
    rw [PyData.shownAll] at ht
    rcases List.mem_cons.1 ht with rfl | ht
    · exact shown_ok h.1
    · exact showns_ok h.2 t ht
end
theorem dRepr_same {d : D} (h : pl d = true) (h2 : dpt d ≤ 64) (h3 : wt d ≤ 16000000) : ∃ s, dRepr d = some (.str s) ∧ dNe (.str s) (.str s) = some (.bl false) := by
  obtain ⟨p, a1, a2, a3, a4, a5⟩ := pl_py h
  refine ⟨p.shown, ?_, ?_⟩
  · unfold dRepr
    rw [a1, Option.bind_some, if_pos]
    have : p.shown.length ≤ sizeLine := sz (by omega)
    simp [a3, a4, h2, this]
  · rw [dNe, eqD_str (shown_ok a2) (shown_ok a2)]; simp
end PD
end
section
set_option maxHeartbeats 1000000
namespace Lw
open PySem L2 PD
/-! ### the law's draws -/
structure Box (n : Nat) (B : List D) : Prop where
  is : ∃ a b e : Int, B = [.int a, .int b, .int e] ∧ 0 ≤ b ∧ b < 2 ^ 62 ∧ 0 ≤ e ∧ e ≤ n
theorem Box.mono {n m : Nat} {B : List D} (h : Box n B) (k : n ≤ m) : Box m B := by
  obtain ⟨a, b, e, r, h1, h2, h3, h4⟩ := h
  exact ⟨a, b, e, r, h1, h2, h3, by omega⟩
theorem take_ok {n : Nat} {B : List D} {m : Int} (hB : Box n B) (hn : n < 2 ^ 40) (hm : 0 < m) (hm2 : m < 2 ^ 60) : ∃ r B', d__law_take B [.int m] = some (r, B') ∧ ∃ i : Int, r = .int i ∧ 0 ≤ i ∧ i < m ∧ Box (n + 1) B' := by
  obtain ⟨a, b, e, rfl, h1, h2, h3, h4⟩ := hB
  refine denB_ok rfl ?_
  by_cases ha : 0 < a
  · simp [ha, dMod_ok hm, dFdiv_ok hm (show m < 2 ^ 200 by omega)]
    exact ⟨(fmod_bd hm).1, (fmod_bd hm).2, ⟨_, _, _, rfl, h1, h2, h3, by omega⟩⟩
  · simp [ha]
    rw [dMul_r (by omega) (by omega)]; simp
    rw [dMul_r (by omega) (by omega)]; simp
    rw [dMod_ok (by decide)]; simp
    rw [dMod_ok (by decide)]; simp
    rw [dFdiv_ok (by decide) (by decide)]; simp
    generalize hx : ((b + 48271 * (e + 1)) * (39373 + (e + 1))).fmod 2147483647 = x
    have hb := fmod_bd (i := x) (j := 40009) (by decide)
    rw [dMul_r (by omega) (by omega)]; simp
    rw [dMod_ok (by decide)]; simp
    rw [dMul_r (by omega) (by omega)]; simp
    rw [dMod_ok (by decide)]; simp
    rw [dFdiv_ok (by decide) (by decide)]; simp
    rw [dMod_ok hm]; simp
    exact ⟨(fmod_bd hm).1, (fmod_bd hm).2, ⟨_, _, _, rfl, h1, h2, by omega, by omega⟩⟩
/-- one draw in a def -/
theorem okO_take {n : Nat} {B : List D} {m : Int} {Q : D × List D → Prop} (hB : Box n B) (hn : n < 2 ^ 40) (hm : 0 < m) (hm2 : m < 2 ^ 60) (q : ∀ (i : Int) B', 0 ≤ i → i < m → Box (n + 1) B' → Q (.int i, B')) : okO (d__law_take B [.int m]) Q := by
  obtain ⟨r, B', e, i, rfl, h1, h2, h3⟩ := take_ok hB hn hm hm2
  rw [e, okO_some]; exact q i B' h1 h2 h3
theorem okO_of {n : Nat} {B : List D} {xs : List D} {Q : D × List D → Prop} (hB : Box n B) (hn : n < 2 ^ 40) (h0 : xs ≠ []) (hl : xs.length < 2 ^ 60) (q : ∀ d B', d ∈ xs → Box (n + 1) B' → Q (d, B')) : okO (d__law_of B [.lst xs]) Q := by
  have h : ∃ d B', d__law_of B [.lst xs] = some (d, B') ∧ (d ∈ xs ∧ Box (n + 1) B') := by
    refine denB_ok rfl ?_
    simp
    have h1 : 0 < xs.length := List.length_pos_iff.2 h0
    refine okO_take hB hn (by omega) (by omega) fun i B' h1 h2 h3 => ?_
    obtain ⟨k, rfl⟩ := Int.eq_ofNat_of_zero_le h1
    have hk : k < xs.length := by omega
    simp [hk]
    exact h3
  obtain ⟨d, B', e, h1, h2⟩ := h
  rw [e, okO_some]; exact q d B' h1 h2
end Lw
end
section
set_option maxHeartbeats 1000000
namespace Lw
open PySem L2 PD
theorem enumD_get : ∀ {xs : List D} {k i : Nat} {d : D}, (enumD k xs)[i]? = some d → ∃ x, xs[i]? = some x ∧ d = .tup [.int ((k + i : Nat) : Int), x]
  | x :: xs, k, 0, d, h => by cases h; exact ⟨x, rfl, rfl⟩
  | x :: xs, k, i + 1, d, h => by
    obtain ⟨y, h1, rfl⟩ := enumD_get (xs := xs) (k := k + 1) (i := i) h
    exact ⟨y, h1, by rw [show k + 1 + i = k + (i + 1) by omega]⟩
theorem cut_take {xs : List D} {k : Nat} : cutD xs none (some (k : Int)) = xs.take k := by
  unfold cutD
  rw [HT.sIx_nat, HT.sIx_none, Nat.sub_zero, List.drop_zero]
  by_cases h : k ≤ xs.length
  · rw [Nat.min_eq_left h]
  · rw [Nat.min_eq_right (by omega), List.take_of_length_le (Nat.le_refl _), List.take_of_length_le (by omega)]
theorem cut_drop {xs : List D} {k j : Nat} : ∃ ys, cutD xs (some (k : Int)) (some (j : Int)) = ys ∧ ys.length ≤ xs.length - k ∧ ∀ y ∈ ys, y ∈ xs := by
  refine ⟨_, rfl, ?_, ?_⟩
  · unfold cutD
    rw [HT.sIx_nat, HT.sIx_nat]
    simp; omega
  · unfold cutD
    intro y hy
    exact List.mem_of_mem_drop (List.mem_of_mem_take hy)
theorem cells_loop {S : D} {k : Nat} {is : List Int} {ys : List D} (hy : ∀ y ∈ ys, ∃ i : Int, y = .int i) (hl : ys.length ≤ 63) (hk : 0 < k) (h : ys = [] ∨ is.length = k) {Q : Out → PD.Env → Prop} {a b e : Option D}
    (q : ∀ (is' : List Int) a b e, is'.length = is.length → Q .nx [some S, some (.int k), some (.lst (is'.map .int)), a, b, e]) :
    okE (sfor (gt (gscons (gn 3) (gscons (gn 4) gsnil)))
                    (sseq (sset 5 (lf [2] (op2 dMod (vcallB (one dInt) (acons (v 3) anil)) (v 1))))
                      (sixset 2 (lf [2] (v 5))
                        (lfo (op2 dAdd (op2 dIx (v 2) (v 5)) (op2 dMul (v 4) (op2 dAdd (v 3) (c (D.int 2))))))))
                    (enumD 0 ys) [some S, some (D.int k), some (.lst (is.map .int)), a, b, e]) Q := by
  refine okS_for (fun _ δ => ∃ (is' : List Int) (a b e : Option D), δ = [some S, some (.int k), some (.lst (is'.map .int)), a, b, e] ∧ is'.length = is.length) (n := 0) ⟨is, a, b, e, rfl, rfl⟩ ?_ ?_
  · rintro i d δ hi ⟨is', a, b, e, rfl, hl'⟩
    obtain ⟨x, hx, rfl⟩ := enumD_get hi
    obtain ⟨x, rfl⟩ := hy x (List.mem_of_getElem? hx)
    have hi2 : i < ys.length := by
      rcases Nat.lt_or_ge i ys.length with h | h
      · exact h
      · rw [List.getElem?_eq_none h] at hx; cases hx
    have hk2 : is'.length = k := by
      rcases h with h | h
      · subst h; simp at hi2
      · omega
    refine ⟨_, rfl, ?_⟩
    simp
    rw [dMod_ok (by omega)]; simp
    have hm := fmod_bd (i := (i : Int)) (j := k) (by omega)
    obtain ⟨j, hj⟩ := Int.eq_ofNat_of_zero_le hm.1
    rw [hj] at hm ⊢
    have hjk : j < is'.length := by omega
    simp [hjk]
    rw [dMul_r (by omega) (by omega)]; simp
    rw [ixN_lt (by omega) (by omega)]; simp
    exact ⟨is'.set j (is'[j] + x * (i + 2)), by simp, by simp [hl']⟩
  · rintro δ ⟨is', a, b, e, rfl, hl'⟩
    exact q is' a b e hl'
theorem cells_ok {ns : List Int} (hl : ns.length ≤ 63) {k : Nat} (hk : 0 < k) : okR (d__law_cells [.scr (ns.map D.int), .int k]) fun d => ∃ is : List Int, d = .lst (is.map D.int) ∧ 0 < is.length ∧ is.length ≤ k := by
  refine den_ok rfl ?_
  obtain ⟨ys, hy, hy1, hy2⟩ := cut_drop (xs := ns.map D.int) (k := k) (j := 63)
  have hs : dSl (.scr (ns.map D.int)) (some (k : Int)) (some 63) = some (.lst ys) := by rw [← hy]; rfl
  have hy3 : ∀ y ∈ ys, ∃ i : Int, y = .int i := fun y h => by
    obtain ⟨i, _, e⟩ := List.mem_map.1 (hy2 y h)
    exact ⟨i, e.symm⟩
  rw [List.length_map] at hy1
  simp [hs, show dSl (.scr (ns.map D.int)) none (some (k : Int)) = some (.lst ((ns.take k).map D.int)) by rw [List.map_take, ← cut_take]; rfl]
  split
  · rename_i h0
    refine ⟨sz (by omega), ?_⟩
    have hn : ns = [] := by
      rcases h0 with h | h
      · omega
      · exact h
    have : ys = [] := by apply List.length_eq_zero_iff.1; subst hn; simpa using hy1
    exact cells_loop (is := [0]) hy3 (by omega) hk (.inl this) fun is' a b e h => by simp [bxIn]; exact ⟨is', rfl, by simp at h; omega, by simp at h; omega⟩
  · rename_i h0
    have h1 : 0 < ns.length := by
      apply List.length_pos_iff.2
      intro h; exact h0 (.inr h)
    rw [← List.map_take]
    refine cells_loop (is := ns.take k) hy3 (by omega) hk ?_ fun is' a b e h => by simp [bxIn]; exact ⟨is', rfl, by simp at h; omega, by simp at h; omega⟩
    by_cases h : ns.length ≤ k
    · exact .inl (List.length_eq_zero_iff.1 (by omega))
    · exact .inr (by simp; omega)
theorem box_ok {is : List Int} {k : Nat} (hk : k < is.length) (hk2 : is.length ≤ 9) : okR (d__law_box [.lst (is.map D.int), .int k]) fun d => ∃ B, d = .lst B ∧ Box 0 B := by
  refine denN_ok rfl (okE_rseq ?_)
  simp [hk]
  rw [show dPow (.int 10) (.int 18) = some (.int (10 ^ 18)) from rfl]; simp
  rw [dMul_r (by split <;> omega) (by split <;> omega)]; simp
  rw [dMod_ok (by decide)]; simp
  rw [dMul_r (by omega) (by omega)]; simp
  have hm := fmod_bd (i := is[k]) (j := 2305843009213693951) (by decide)
  exact ⟨sz (by omega), ⟨_, _, _, rfl, by omega, by omega, by omega, by omega⟩⟩
theorem lt_of_get {α : Type} {xs : List α} {i : Nat} {d : α} (h : xs[i]? = some d) : i < xs.length := by
  rcases Nat.lt_or_ge i xs.length with h1 | h1
  · exact h1
  · rw [List.getElem?_eq_none h1] at h; cases h
theorem all_true : ∀ {a : List D}, (∀ d ∈ a, d = .bl true) → (dbools a).map (fun is => D.bl (is.all id)) = some (.bl true)
  | [], _ => rfl
  | x :: a, h => by
    cases h x List.mem_cons_self
    have := all_true (a := a) fun d hd => h d (List.mem_cons_of_mem _ hd)
    rw [dbools]
    cases h2 : dbools a with
    | none => rw [h2] at this; cases this
    | some bs => rw [h2] at this; simpa using this
/-- the law, by its draws -/
theorem law_ok (H : ∀ B, Box 0 B → ∃ B', d__law_right B [] = some (.bl true, B')) {ns : List Int} (hl : ns.length ≤ 63) : d_law [.scr (ns.map D.int)] = some (.ok (.bl true)) := by
  have h : okR (d_law [.scr (ns.map D.int)]) fun d => d = .bl true := by
    refine den_ok rfl ?_
    simp
    obtain ⟨d, e, is, rfl, h1, h2⟩ := cells_ok hl (k := 3) (by decide)
    rw [show d__law_cells [.scr (ns.map D.int), .int 3] = _ from e]; simp
    refine ⟨by omega, ?_⟩
    have hr : ∀ d ∈ rng 0 (is.length : Int), ∃ k : Nat, k < is.length ∧ d = .int k := by
      intro d hd
      unfold rng at hd
      obtain ⟨i, hi, rfl⟩ := List.mem_map.1 hd
      exact ⟨i, by simpa using List.mem_range.1 hi, by simp⟩
    refine okE.mono (okE_scomp (fun i acc δ => (∀ d ∈ acc, d = .bl true) ∧ acc.length ≤ i ∧ δ = [some (.scr (ns.map D.int)), some (.lst (is.map .int)), none]) (n := 0) ⟨by simp, by simp, rfl⟩ ?_) ?_
    · rintro i d acc δ hi ⟨ha, hb, rfl⟩
      obtain ⟨k, hk, rfl⟩ := hr d (List.mem_of_getElem? hi)
      refine ⟨_, rfl, ?_⟩
      simp
      obtain ⟨d, e, B, rfl, hB⟩ := box_ok hk (by omega)
      rw [e]; simp
      obtain ⟨B', e⟩ := H B hB
      rw [e]; simp
      have hi2 := lt_of_get hi
      rw [show (rng 0 (is.length : Int)).length = is.length by simp [rng]] at hi2
      refine ⟨by rw [PySem.sizeLine_eq]; omega, fun d h => h.elim (ha d) id, by omega⟩
    · rintro a δ ⟨ha, _, _⟩
      simp
      rw [all_true ha]; simp
  obtain ⟨d, e, rfl⟩ := h
  exact e
end Lw
end
section
set_option maxHeartbeats 1000000
namespace Lw
open PySem L2 PD
/-! ### what is a net -/
abbrev abc : Str := "abcdefghijklmnopqrstuvwxyz"
def letter (e : Nat) : Bool := decide (e ∈ abc.cps.toList)
def nameB : D → Bool
  | .str x => decide (1 ≤ x.length) && decide (x.length ≤ 8) && x.cps.toList.all letter
  | _ => false
def numB : D → Bool
  | .int _ => true
  | _ => false
def geB (n : Int) : D → Bool
  | .int i => decide (n ≤ i)
  | _ => false
theorem is_number_eq {x : D} (h : pl x = true) : d_is_number [x] = some (.ok (.bl (numB x))) := by
  cases x <;> first | rfl | cases h
theorem is_nr_eq {x : D} {n : Int} (h : pl x = true) : d__law_is_nr [x, .int n] = some (.ok (.bl (geB n x))) := by
  cases x <;> first | rfl | cases h
def tupB (n : Int) : D → Bool
  | .tup xs => ((xs.length : Int) == n)
  | _ => false
theorem is_tuple_eq {x : D} {n : Int} (h : pl x = true) : d_is_tuple [x, .int n] = some (.ok (.bl (tupB n x))) := by
  cases x <;> first | rfl | cases h
theorem len_str {x : Str} (h : pl (.str x) = true) : x.length ≤ sizeLine ∧ x.length ≤ 1000 ∧ PyData.strOk x = true := by
  simp only [pl, Bool.and_eq_true, decide_eq_true_eq] at h
  exact ⟨sz (by omega), h.1, h.2⟩
theorem in_abc {e : Nat} {z : Str} : inD (.str ⟨#[e]⟩) (.str z) = some (decide (e ∈ z.cps.toList)) := by
  simp [inD]
theorem signs_comp {x : Str} (hx : x.length ≤ sizeLine) {i : Nat} {δ : PD.Env} {Q : List D → PD.Env → Prop} (hw : δ.set i none = δ) {e : PD.Env → RE D} (he : ∀ s : Str, s.length = 1 → okE (e (δ.set i (some (.str s)))) fun y δ' => y = .bl (decide (s.cps.getD 0 0 ∈ abc.cps.toList)) ∧ δ' = δ.set i (some (.str s)))
    (q : Q ((x.cps.toList.map fun e => .bl (letter e))) δ) : okE (scomp [i] (gn i) tyes e (signs x) [] δ) Q := by
  refine okE_compM (fun d => match d with | .str s => .bl (decide (s.cps.getD 0 0 ∈ abc.cps.toList)) | d => d) (fun d hd => ?_) ?_ ?_
  · obtain ⟨k, _, rfl⟩ := List.mem_map.1 hd
    simp
    exact ⟨hw, by simpa using he ⟨#[k]⟩ rfl⟩
  · simp [signs]; exact hx
  · simp only [signs, List.map_map, List.nil_append]
    exact q
theorem is_name_eq {x : D} (h : pl x = true) : d_is_name [x] = some (.ok (.bl (nameB x))) := by
  cases x <;> first | rfl | cases h | skip
  case str x =>
    have hx := (len_str h).1
    apply eq_of_okR
    refine den_ok rfl ?_
    simp [isA, dLen, hx, k_MOST_LETTERS, dLe, itemsA]
    split
    · split
      · simp [nameB]; omega
      · refine signs_comp hx rfl (fun s hs => ?_) ?_
        · simp [k_LETTERS, dIn, inD, show s.cps.size = 1 from hs]
        · simp [nameB]
          rename_i h1 h2
          have h1 : 1 ≤ x.length := by omega
          have h2 : x.length ≤ 8 := by omega
          simp [h1, h2]
    · simp [nameB]; omega
theorem is_word_eq {x : D} (h : pl x = true) : d__law_is_word [x] = some (.ok (.bl (nameB x))) := by
  cases x <;> first | rfl | cases h | skip
  case str x =>
    have hx := (len_str h).1
    apply eq_of_okR
    refine den_ok rfl ?_
    simp [isA, dLen, hx, dLt, dGt, itemsA]
    split
    · simp [nameB]; omega
    · split
      · simp [nameB]; omega
      · refine signs_comp hx rfl (fun s hs => ?_) ?_
        · simp [dIn, inD, show s.cps.size = 1 from hs]
        · simp [nameB]
          rename_i h1 h2
          have h1 : 1 ≤ x.length := by omega
          have h2 : x.length ≤ 8 := by omega
          simp [h1, h2]
def lineB : D → Bool
  | .tup [a, b] => nameB a && geB 1 b
  | _ => false
theorem pl_tup2 {a b : D} (h : pl (.tup [a, b]) = true) : pl a = true ∧ pl b = true := by simpa [pl, pls] using h
theorem is_line_eq {x : D} (h : pl x = true) : d_is_line [x] = some (.ok (.bl (lineB x))) := by
  apply eq_of_okR
  refine den_ok rfl ?_
  simp [is_tuple_eq h]
  cases x <;> first | rfl | cases h | skip
  case tup xs =>
    match xs, h with
    | [a, b], h =>
      obtain ⟨ha, hb⟩ := pl_tup2 h
      simp [tupB, is_name_eq ha, is_number_eq hb, lineB]
      cases hn : nameB a
      · simp
      · simp
        cases b <;> first | rfl | cases hb | skip
        case int i => simp [numB, geB, dGe]
    | [], h => simp [tupB, lineB]
    | [_], h => simp [tupB, lineB]
    | _ :: _ :: _ :: xs, h => simp [tupB, lineB]; omega
theorem is_wire_eq {x : D} (h : pl x = true) : d__law_is_wire [x] = some (.ok (.bl (lineB x))) := by
  cases x <;> first | rfl | cases h | skip
  case tup xs =>
    apply eq_of_okR
    refine den_ok rfl ?_
    match xs, h with
    | [a, b], h =>
      obtain ⟨ha, hb⟩ := pl_tup2 h
      simp [isA, is_word_eq ha, is_nr_eq hb, lineB]
      cases hn : nameB a <;> simp [is_nr_eq hb]
    | [], h => simp [isA, lineB]
    | [_], h => simp [isA, lineB]
    | _ :: _ :: _ :: xs, h => simp [isA, lineB]; omega
/-! names in order -/
def asStr : D → Str
  | .str x => x
  | _ => ""
def ascB (xs : List D) : Bool := xs.map asStr == ssort (xs.map asStr)
theorem names_str {xs : List D} (h : ∀ x ∈ xs, nameB x = true) : xs = (xs.map asStr).map D.str := by
  induction xs with
  | nil => rfl
  | cons x xs ih =>
    have h1 := h x List.mem_cons_self
    cases x <;> first | (simp [nameB] at h1; done) | skip
    simp [asStr]
    have := ih fun y hy => h y (List.mem_cons_of_mem _ hy)
    simpa using this
end Lw
end
section
set_option maxHeartbeats 1000000
namespace PD
open PySem L2
mutual
def wid : D → Nat
  | .tup xs => max xs.length (wids xs)
  | .lst xs => max xs.length (wids xs)
  | _ => 0
def wids : List D → Nat
  | [] => 0
  | x :: xs => max (wid x) (wids xs)
end
theorem wids_le : ∀ {xs : List D} {n : Nat}, wids xs ≤ n ↔ ∀ x ∈ xs, wid x ≤ n
  | [], n => by simp [wids]
  | x :: xs, n => by simp [wids, Nat.max_le, wids_le (xs := xs)]
theorem mem_insB {α : Type} {le : α → α → Bool} {x y : α} : ∀ {xs : List α}, y ∈ insB le x xs ↔ y = x ∨ y ∈ xs
  | [] => by simp [insB]
  | z :: xs => by
    rw [insB]
    split
    · simp
    · simp [mem_insB (xs := xs)]
      constructor
      · rintro (h | h | h) <;> simp [h]
      · rintro (h | h | h) <;> simp [h]
theorem mem_isort {α : Type} {le : α → α → Bool} {y : α} : ∀ {xs : List α}, y ∈ isort le xs ↔ y ∈ xs
  | [] => by simp [isort]
  | x :: xs => by rw [isort, mem_insB, mem_isort]; simp
theorem len_insB {α : Type} {le : α → α → Bool} {x : α} : ∀ {xs : List α}, (insB le x xs).length = xs.length + 1
  | [] => by simp [insB]
  | z :: xs => by
    rw [insB]
    split
    · simp
    · simp [len_insB (xs := xs)]
theorem len_isort {α : Type} {le : α → α → Bool} : ∀ {xs : List α}, (isort le xs).length = xs.length
  | [] => by simp [isort]
  | x :: xs => by rw [isort, len_insB, len_isort]; simp
theorem mem_ddup {y : Str} : ∀ {xs : List Str}, y ∈ ddup xs ↔ y ∈ xs
  | [] => by simp [ddup]
  | x :: xs => by
    rw [ddup]
    split
    · rename_i h
      rw [mem_ddup]
      constructor
      · exact fun h => List.mem_cons_of_mem _ h
      · intro h1
        rcases List.mem_cons.1 h1 with rfl | h1
        · simpa using h
        · exact h1
    · simp [mem_ddup (xs := xs)]
theorem mem_ssort {y : Str} {xs : List Str} : y ∈ ssort xs ↔ y ∈ xs := by unfold ssort; rw [mem_isort, mem_ddup]
theorem toPys_strs : ∀ {xs : List Str}, toPys (xs.map D.str) = some (xs.map PyData.str)
  | [] => rfl
  | x :: xs => by simp [toPys, toPy, toPys_strs (xs := xs)]
theorem eqv_strs : ∀ {xs ys : List Str}, PyData.eqvAll (xs.map PyData.str) (ys.map PyData.str) = (xs == ys)
  | [], [] => rfl
  | [], _ :: _ => by simp [PyData.eqvAll]
  | _ :: _, [] => by simp [PyData.eqvAll]
  | x :: xs, y :: ys => by simp [PyData.eqvAll, PyData.eqv, eqv_strs (xs := xs) (ys := ys)]
theorem lay_strs : ∀ {xs : List Str}, (∀ x ∈ xs, PyData.strOk x = true) → PyData.canLayAll0 (xs.map PyData.str) = true
  | [], _ => rfl
  | x :: xs, h => by simp [PyData.canLayAll0, PyData.canLay0, h x List.mem_cons_self, lay_strs fun y hy => h y (List.mem_cons_of_mem _ hy)]
theorem dep_strs : ∀ {xs : List Str}, PyData.depthAll (xs.map PyData.str) = 0
  | [] => rfl
  | x :: xs => by simp [PyData.depthAll, PyData.depth, dep_strs (xs := xs)]
theorem eqD_strs {xs ys : List Str} (hx : ∀ x ∈ xs, PyData.strOk x = true) (hy : ∀ x ∈ ys, PyData.strOk x = true) : eqD (.lst (xs.map D.str)) (.lst (ys.map D.str)) = some (xs == ys) := by
  simp [eqD, toPy, toPys_strs, SeqAt.shaped, PyData.canLay0, PyData.depth, lay_strs hx, lay_strs hy, dep_strs, PyData.eqv, eqv_strs]
theorem any_eqv {x : Str} : ∀ {ys : List Str}, (ys.map PyData.str).any (fun z => PyData.eqv z (.str x)) = ys.contains x
  | [] => rfl
  | y :: ys => by
    rw [List.map_cons, List.any_cons, any_eqv, List.contains_cons, PyData.eqv]
    congr 1
    rw [Bool.eq_iff_iff, beq_iff_eq, beq_iff_eq]
    exact ⟨Eq.symm, Eq.symm⟩
theorem inD_strs {x : Str} {ys : List Str} (hx : PyData.strOk x = true) (hy : ∀ x ∈ ys, PyData.strOk x = true) : inD (.str x) (.lst (ys.map D.str)) = some (ys.contains x) := by
  simp only [inD, toPy, toPys_strs, Option.bind_some, any_eqv]
  rw [if_pos]
  simp [SeqAt.shaped, PyData.canLay0, PyData.depth, lay_strs hy, dep_strs, hx]
end PD
namespace Lw
open PySem L2 PD
theorem name_ok {x : Str} (h : nameB (.str x) = true) : PyData.strOk x = true ∧ x.length ≤ 8 := by
  simp only [nameB, Bool.and_eq_true, decide_eq_true_eq, List.all_eq_true] at h
  refine ⟨?_, h.1.2⟩
  unfold PyData.strOk
  rw [Array.all_eq_true']
  intro c hc
  have h1 := h.2 c (by simpa using hc)
  unfold letter at h1
  have h2 : ∀ e ∈ abc.cps.toList, e < 1114112 := by decide
  simpa using h2 c (by simpa using h1)
theorem names_ok {xs : List D} (h : ∀ x ∈ xs, nameB x = true) : ∀ x ∈ xs.map asStr, PyData.strOk x = true := by
  intro s hs
  obtain ⟨d, hd, rfl⟩ := List.mem_map.1 hs
  have := h d hd
  cases d <;> first | (simp [nameB] at this; done) | skip
  exact (name_ok this).1
theorem asc_eq {xs : List D} (h : ∀ x ∈ xs, nameB x = true) (hl : xs.length < 1000) : dSset (.lst xs) = some (.lst ((ssort (xs.map asStr)).map D.str)) ∧ dSset (.tup xs) = some (.lst ((ssort (xs.map asStr)).map D.str)) ∧ dEq (.lst xs) (.lst ((ssort (xs.map asStr)).map D.str)) = some (.bl (ascB xs)) := by
  have e := names_str h
  have h1 := names_ok h
  have e2 : dstrs xs = some (xs.map asStr) := by
    have := dstrs_map (xs := xs.map asStr) (f := id)
    rw [show (xs.map asStr).map (fun x => D.str (id x)) = xs from e.symm] at this
    simpa using this
  refine ⟨by simp [dSset, seqLT, e2, hl], by simp [dSset, seqLT, e2, hl], ?_⟩
  have := eqD_strs h1 (ys := ssort (xs.map asStr)) fun x hx => h1 x (mem_ssort.1 hx)
  rw [← e] at this
  simp [dEq, this, ascB]
theorem are_asc_t {xs : List D} (h : ∀ x ∈ xs, nameB x = true) (hl : xs.length < 1000) : d_are_ascending [.tup xs] = some (.ok (.bl (ascB xs))) := by
  obtain ⟨e1, e2, e3⟩ := asc_eq h hl
  apply eq_of_okR
  refine den_ok rfl ?_
  simp [e2, e3]
theorem are_asc_l {xs : List D} (h : ∀ x ∈ xs, nameB x = true) (hl : xs.length < 1000) : d_are_ascending [.lst xs] = some (.ok (.bl (ascB xs))) := by
  obtain ⟨e1, e2, e3⟩ := asc_eq h hl
  apply eq_of_okR
  refine den_ok rfl ?_
  simp [e1, e3]
end Lw
end
section
set_option maxHeartbeats 2000000
namespace Lw
open PySem L2 PD
def topB : D → D → Bool
  | _, .non => true
  | .int i, .int j => decide (1 ≤ j) && decide (i ≤ j)
  | _, _ => false
def flowB : D → Bool
  | .tup [n, .tup ls, w, b, t] => nameB n && (!ls.isEmpty && (ls.all nameB && (ascB ls && (geB 1 w && (geB 0 b && topB b t)))))
  | _ => false
/-- a comprehension that asks each item -/
theorem okE_all {vs : List Nat} {g : D → PD.Env → Option PD.Env} {e : PD.Env → RE D} {δ : PD.Env} {ds : List D} {Q : List D → PD.Env → Prop} (f : D → Bool) (hl : ds.length ≤ 1000) (h : ∀ d ∈ ds, okO (g d δ) fun δ1 => wipeD vs δ1 = δ ∧ okE (e δ1) fun y δ3 => y = .bl (f d) ∧ δ3 = δ1) (q : Q (ds.map fun d => .bl (f d)) δ) : okE (scomp vs g tyes e ds [] δ) Q :=
  okE_compM (fun d => .bl (f d)) h (by simp; exact sz (by omega)) (by simpa using q)
theorem wid_tup {xs : List D} {n : Nat} (h : wid (.tup xs) ≤ n) : xs.length ≤ n ∧ ∀ x ∈ xs, wid x ≤ n := by
  simp only [wid, Nat.max_le] at h
  exact ⟨h.1, wids_le.1 h.2⟩
theorem pl_tup {xs : List D} (h : pl (.tup xs) = true) : ∀ x ∈ xs, pl x = true := pls_mem.1 (by simpa [pl] using h)
theorem is_flow_eq {x : D} (h : pl x = true) (hw : wid x ≤ 900) : d_is_flow [x] = some (.ok (.bl (flowB x))) := by
  cases x <;> first | rfl | cases h | skip
  case tup xs =>
    by_cases h5 : xs.length = 5
    · match xs, h5 with
      | [n, l, w, b, t], h5' =>
        have hp : pl n = true ∧ pl l = true ∧ pl w = true ∧ pl b = true ∧ pl t = true := by simpa [pl, pls] using h
        obtain ⟨hn, hl, hpw, hb, ht⟩ := hp
        have hwl := (wid_tup hw).2 l (by simp)
        apply eq_of_okR
        refine den_ok rfl ?_
        generalize hF : flowB (.tup [n, l, w, b, t]) = F
        simp [is_tuple_eq h, k_PARTS, tupB, is_name_eq hn]
        cases hnb : nameB n
        · simp; rw [← hF]; cases l <;> simp [flowB, hnb]
        · cases l <;> first | (simp [isA]; rw [← hF]; simp [flowB]; done) | (cases hl; done) | skip
          rename_i ls
          simp [isA]
          have hwl2 := wid_tup hwl
          by_cases h0 : ls = []
          · simp [h0]; rw [← hF]; simp [flowB, h0]
          · simp [h0]
            refine okE_all nameB (by omega) (fun d hd => ?_) ?_
            · simp [is_name_eq (pl_tup hl d hd)]
            · simp
              by_cases ha : ∀ x ∈ ls, nameB x = true
              · rw [if_neg (by simpa using ha), are_asc_t ha (by omega)]
                simp
                cases hs : ascB ls
                · simp; rw [← hF]; simp [flowB, hs]
                · simp [dSl, cutD, HT.sIx, is_number_eq hpw, is_number_eq hb]
                  cases w <;> first | (cases hpw; done) | (simp [numB]; rw [← hF]; simp [flowB, geB]; done) | skip
                  rename_i i
                  cases b <;> first | (cases hb; done) | (simp [numB]; rw [← hF]; simp [flowB, geB]; done) | skip
                  rename_i j
                  simp [numB, dLt]
                  by_cases hi : i < 1
                  · simp [hi]; rw [← hF]; simp [flowB, geB]; omega
                  · by_cases hj : j < 0
                    · simp [hi, hj]; rw [← hF]; simp [flowB, geB]; omega
                    · have hi2 : 1 ≤ i := by omega
                      have hj2 : 0 ≤ j := by omega
                      have h01 : ls.isEmpty = false := by simpa using h0
                      have ha1 : ls.all nameB = true := by simpa using ha
                      have hF2 : topB (.int j) t = F := by rw [← hF]; simp [flowB, geB, hnb, h01, ha1, hs, hi2, hj2]
                      simp [hi, hj, is_number_eq ht]
                      cases t <;> first | (cases ht; done) | (simp [PD.isNon, numB, topB] at *; first | exact hF2 | rfl | (rw [hF2]); done) | skip
                      rename_i k
                      simp [PD.isNon, numB, dGe]
                      rw [← hF2]; simp [topB]
                      rw [Bool.eq_iff_iff]; simp
                      split <;> omega
              · rw [if_pos (by simpa using ha), ← hF]; simp [flowB, ha]
    · have hf : flowB (.tup xs) = false := by
        match xs, h5 with
        | [], _ => rfl
        | [_], _ => rfl
        | [_, _], _ => simp [flowB]
        | [_, _, _], _ => simp [flowB]
        | [_, _, _, _], _ => simp [flowB]
        | [_, _, _, _, _], h => exact absurd rfl h
        | _ :: _ :: _ :: _ :: _ :: _ :: xs, _ => simp [flowB]
      rw [hf]
      apply eq_of_okR
      refine den_ok rfl ?_
      have : tupB 5 (.tup xs) = false := by simp [tupB]; omega
      simp [is_tuple_eq h, k_PARTS, this]
/-! the law's own look -/
def linesOf : D → List D
  | .tup [_, .tup ls, _, _, _] => ls
  | _ => []
def rowB (labs : List Str) (x : D) : Bool := flowB x && (linesOf x).all fun l => labs.contains (asStr l)
theorem eq_unit {xs : List D} (h : pl (.tup xs) = true) (h2 : dpt (.tup xs) ≤ 64) : dEq (.tup xs) (.tup []) = some (.bl xs.isEmpty) := by
  obtain ⟨p, q, h1, h3, h4⟩ := eqD_ok h h2 (y := .tup []) rfl (by decide)
  cases h3
  obtain ⟨ps, h5, _⟩ := pls_py (xs := xs) (by simpa [pl] using h)
  simp [toPy, h5] at h1
  subst h1
  rw [dEq, h4]
  cases xs with
  | nil => simp [toPys] at h5; subst h5; rfl
  | cons x xs =>
    simp [toPys] at h5
    cases ps with
    | nil => rw [Option.bind_eq_some_iff] at h5; obtain ⟨_, _, h5⟩ := h5; simp at h5
    | cons p ps => rfl
theorem eq_unitL {xs : List D} (h : pl (.lst xs) = true) (h2 : dpt (.lst xs) ≤ 64) : eqD (.lst xs) (.lst []) = some xs.isEmpty := by
  obtain ⟨p, q, h1, h3, h4⟩ := eqD_ok h h2 (y := .lst []) rfl (by decide)
  cases h3
  obtain ⟨ps, h5, _⟩ := pls_py (xs := xs) (by simpa [pl] using h)
  simp [toPy, h5] at h1
  subst h1
  rw [h4]
  cases xs with
  | nil => simp [toPys] at h5; subst h5; rfl
  | cons x xs =>
    simp [toPys] at h5
    cases ps with
    | nil => rw [Option.bind_eq_some_iff] at h5; obtain ⟨_, _, h5⟩ := h5; simp at h5
    | cons p ps => rfl
theorem asStr_name {d : D} (h : nameB d = true) : d = .str (asStr d) ∧ PyData.strOk (asStr d) = true := by
  cases d <;> first | (simp [nameB] at h; done) | skip
  exact ⟨rfl, (name_ok h).1⟩
theorem is_row_eq {x : D} {labs : List Str} (h : pl x = true) (hw : wid x ≤ 900) (hd : dpt x ≤ 60) (hlab : ∀ s ∈ labs, PyData.strOk s = true) : d__law_is_row [x, .lst (labs.map D.str)] = some (.ok (.bl (rowB labs x))) := by
  cases x <;> first | rfl | cases h | skip
  case tup xs =>
    by_cases h5 : xs.length = 5
    · match xs, h5 with
      | [n, l, w, b, t], h5' =>
        have hp : pl n = true ∧ pl l = true ∧ pl w = true ∧ pl b = true ∧ pl t = true := by simpa [pl, pls] using h
        obtain ⟨hn, hl, hpw, hb, ht⟩ := hp
        have hwl := (wid_tup hw).2 l (by simp)
        have hdl : dpt l ≤ 60 := by
          simp only [dpt] at hd
          exact dpts_le.1 (Nat.le_of_succ_le hd) l (by simp)
        apply eq_of_okR
        refine den_ok rfl ?_
        generalize hF : rowB labs (.tup [n, l, w, b, t]) = F
        simp [isA, is_word_eq hn]
        cases hnb : nameB n
        · simp; rw [← hF]; cases l <;> simp [rowB, flowB, hnb]
        · cases l <;> first | (simp [isA]; rw [← hF]; simp [rowB, flowB]; done) | (cases hl; done) | skip
          rename_i ls
          simp [isA, eq_unit hl (by omega)]
          have hwl2 := wid_tup hwl
          by_cases h0 : ls = []
          · simp [h0]; rw [← hF]; simp [rowB, flowB, h0]
          · have h01 : ls.isEmpty = false := by simpa using h0
            simp [h0]
            refine okE_all nameB (by omega) (fun d hd => ?_) ?_
            · simp [is_word_eq (pl_tup hl d hd)]
            · simp
              by_cases ha : ∀ x ∈ ls, nameB x = true
              · rw [if_neg (by simpa using ha)]
                have ha1 : ls.all nameB = true := by simpa using ha
                obtain ⟨e1, e2, e3⟩ := asc_eq ha (by omega)
                have e4 : dNe (.lst ls) (.lst ((ssort (ls.map asStr)).map D.str)) = some (.bl (!ascB ls)) := by
                  rw [dEq] at e3; rw [dNe]
                  cases hq : eqD (.lst ls) (.lst ((ssort (ls.map asStr)).map D.str)) with
                  | none => rw [hq] at e3; cases e3
                  | some q => rw [hq] at e3; cases e3; rfl
                simp [e2, e4]
                cases hs : ascB ls
                · simp; rw [← hF]; simp [rowB, flowB, hs]
                · simp
                  refine okE_comp (fun d => !labs.contains (asStr d)) id (fun d hd => ?_) (by simp; exact sz (by omega)) ?_
                  · obtain ⟨e5, e6⟩ := asStr_name (ha d hd)
                    generalize asStr d = s at e5 e6
                    subst e5
                    simp [dNotIn, inD_strs e6 hlab, asStr]
                  · have hy : pl (.lst (ls.filter fun d => !labs.contains (asStr d))) = true := by
                      simp only [pl]
                      exact pls_mem.2 fun x hx => pl_tup hl x (List.mem_filter.1 hx).1
                    have hy2 : dpt (.lst (ls.filter fun d => !labs.contains (asStr d))) ≤ 64 := by
                      simp only [dpt] at hdl ⊢
                      have : dpts (ls.filter fun d => !labs.contains (asStr d)) ≤ 60 := dpts_le.2 fun x hx => dpts_le.1 (Nat.le_of_succ_le hdl) x (List.mem_filter.1 hx).1
                      exact Nat.succ_le_succ (Nat.le_trans this (by omega))
                    simp only [List.nil_append, List.map_id_fun', id_eq, List.map_id]
                    have e9 : dNe (.lst (ls.filter fun d => !labs.contains (asStr d))) (.lst []) = some (.bl (!(ls.filter fun d => !labs.contains (asStr d)).isEmpty)) := by rw [dNe, eq_unitL hy hy2]; rfl
                    have e10 : (ls.filter fun d => !labs.contains (asStr d)).isEmpty = ls.all (fun l => labs.contains (asStr l)) := by
                      rw [Bool.eq_iff_iff]; simp [List.filter_eq_nil_iff]
                    rw [e10] at e9
                    generalize (ls.filter fun d => !labs.contains (asStr d)) = ys at e9 ⊢
                    simp only [okE_lf, mask_nil, okR_tb, okR_op2, okR_vlst, okR_anil, okR_v, okR_c, okR_tor, okO_some, List.length_nil, len_le0, true_and, e9, asB_bl]
                    simp [e9]
                    have hr : rowB labs (.tup [n, .tup ls, w, b, t]) = (geB 1 w && (geB 0 b && topB b t) && ls.all fun l => labs.contains (asStr l)) := by
                      simp [rowB, flowB, linesOf, hnb, h01, ha1, hs]
                    rw [hr] at hF
                    by_cases hc : ls.all (fun l => labs.contains (asStr l)) = true
                    · rw [hc, Bool.and_true] at hF
                      rw [if_neg (by simpa using hc)]
                      rw [is_nr_eq hpw]; simp
                      cases hg : geB 1 w
                      · simp; rw [← hF, hg]; rfl
                      · simp
                        rw [is_nr_eq hb]; simp
                        cases hg2 : geB 0 b
                        · simp; rw [← hF, hg2]; simp
                        · simp
                          rw [hg, hg2, Bool.true_and, Bool.true_and] at hF
                          cases b <;> first | (simp [geB] at hg2; done) | skip
                          rename_i j
                          rw [is_nr_eq ht]; simp
                          cases t <;> first | (cases ht; done) | (simp [PD.isNon, topB, geB] at *; first | exact hF | (rw [hF]); done) | skip
                          rename_i k
                          simp [PD.isNon, geB, dGe]
                          rw [← hF]; simp [topB]
                          by_cases hk : 1 ≤ k <;> simp [hk]
                    · rw [if_pos (by simpa using hc)]
                      rw [← hF]
                      simp only [Bool.not_eq_true] at hc
                      rw [hc]; simp
              · rw [if_pos (by simpa using ha), ← hF]; simp [rowB, flowB, ha]
    · have hf : rowB labs (.tup xs) = false := by
        have : flowB (.tup xs) = false := by
          match xs, h5 with
          | [], _ => rfl
          | [_], _ => rfl
          | [_, _], _ => simp [flowB]
          | [_, _, _], _ => simp [flowB]
          | [_, _, _, _], _ => simp [flowB]
          | [_, _, _, _, _], h => exact absurd rfl h
          | _ :: _ :: _ :: _ :: _ :: _ :: xs, _ => simp [flowB]
        simp [rowB, this]
      rw [hf]
      apply eq_of_okR
      refine den_ok rfl ?_
      have h6 : ((xs.length : Int) != 5) = true := by simp; omega
      simp [isA, h6]
end Lw
end
section
set_option maxHeartbeats 2000000
namespace PD
open PySem L2
theorem okE_scomp2 {vs vs1 : List Nat} {g : D → Env → Option Env} {t : Env → RE Bool} {f1 : Env → RE (List D)} {g1 : D → Env → Option Env} {t1 : Env → RE Bool} {e : Env → RE D} (I : Nat → List D → Env → Prop) : ∀ {ds acc : List D} {n : Nat} {δ : Env}, I n acc δ →
    (∀ i d acc δ, ds[i]? = some d → I (n + i) acc δ → ∃ δ1, g d δ = some δ1 ∧ okE (t δ1) fun k δ2 => if k = true then okE (f1 δ2) (fun es δ3 => okE (scomp vs1 g1 t1 e es acc (wipeD vs1 δ3)) fun acc' δ4 => I (n + i + 1) acc' (wipeD vs δ4)) else I (n + i + 1) acc (wipeD vs δ2)) →
    okE (scomp2 vs vs1 g t f1 g1 t1 e ds acc δ) (I (n + ds.length))
  | [], acc, n, δ, h0, _ => ⟨_, _, rfl, h0⟩
  | d :: ds, acc, n, δ, h0, hs => by
    obtain ⟨δ1, e1, k, δ2, e2, q⟩ := hs 0 d acc δ rfl h0
    have go : ∀ {acc δ2}, I (n + 1) acc δ2 → okE (scomp2 vs vs1 g t f1 g1 t1 e ds acc δ2) (I (n + (d :: ds).length)) := fun {acc δ2} h => by
      have := okE_scomp2 (vs := vs) (vs1 := vs1) (g := g) (t := t) (f1 := f1) (g1 := g1) (t1 := t1) (e := e) I (ds := ds) h (fun i d acc δ hi hI => by
        have := hs (i + 1) d acc δ hi (by rw [← Nat.add_assoc, Nat.add_right_comm]; exact hI)
        rw [← Nat.add_assoc, Nat.add_right_comm n i 1] at this; exact this)
      rw [List.length_cons, Nat.add_comm ds.length, ← Nat.add_assoc]; exact this
    unfold scomp2; rw [e1]; simp only []; rw [e2]
    cases k with
    | false => exact go q
    | true =>
      obtain ⟨es, δ3, e3, acc', δ4, e4, q⟩ := q
      simp only []; rw [e3]; simp only []; rw [e4]
      exact go q
@[simp] theorem okE_ecomp2 {vs vs1 : List Nat} {f : Env → RE (List D)} {g : D → Env → Option Env} {t : Env → RE Bool} {f1 : Env → RE (List D)} {g1 : D → Env → Option Env} {t1 : Env → RE Bool} {e : Env → RE D} {δ : Env} {Q : D → Env → Prop} : okE (ecomp2 vs vs1 f g t f1 g1 t1 e δ) Q = okE (f δ) fun ds δ' => okE (scomp2 vs vs1 g t f1 g1 t1 e ds [] (wipeD vs δ')) fun ys δ2 => Q (.lst ys) δ2 := by
  unfold ecomp2; rw [okE_bind]; congr; funext ds δ'; rw [okE_bind]; congr; funext ys δ2; rw [okE_some]
@[simp] theorem dbools_nil : dbools [] = some [] := rfl
@[simp] theorem dbools_cons {b : Bool} {r : List D} : dbools (.bl b :: r) = (dbools r).map fun is => b :: is := rfl
end PD
namespace Lw
open PySem L2 PD
def fst : D → D
  | .tup (x :: _) => x
  | d => d
def tupNE : D → Bool
  | .tup xs => !xs.isEmpty
  | _ => false
def netB : D → Bool
  | .tup [.tup ls, .tup fs] => !ls.isEmpty && (!fs.isEmpty && (ls.all lineB && (fs.all flowB && (ascB (ls.map fst) && (ascB (fs.map fst) && fs.all fun f => (linesOf f).all fun l => ((ls.map fst).map asStr).contains (asStr l))))))
  | _ => false
theorem line_shape {d : D} (h : lineB d = true) : ∃ a b, d = .tup [a, b] ∧ nameB a = true := by
  unfold lineB at h
  split at h
  · rw [Bool.and_eq_true] at h; exact ⟨_, _, rfl, h.1⟩
  · cases h
theorem flow_shape {d : D} (h : flowB d = true) : ∃ n ls w b t, d = .tup [n, .tup ls, w, b, t] ∧ nameB n = true ∧ ls.all nameB = true := by
  unfold flowB at h
  split at h
  · simp only [Bool.and_eq_true] at h; exact ⟨_, _, _, _, _, rfl, h.1, h.2.2.1⟩
  · cases h
theorem is_net_eq {x : D} (h : pl x = true) (hw : wid x ≤ 900) (hd : dpt x ≤ 60) : d_is_net [x] = some (.ok (.bl (netB x))) := by
  cases x <;> first | rfl | cases h | skip
  case tup xs =>
    by_cases h2 : xs.length = 2
    · match xs, h2 with
      | [a, b], h2' =>
        obtain ⟨ha, hb⟩ := pl_tup2 h
        apply eq_of_okR
        refine den_ok rfl ?_
        generalize hF : netB (.tup [a, b]) = F
        simp [is_tuple_eq h, tupB]
        refine okE_all tupNE (by simp) (fun d hd => ?_) ?_
        · simp at hd
          rcases hd with rfl | rfl
          · cases d <;> first | (cases ha; done) | (simp [isA, tupNE]; done) | skip
            rename_i xs; simp [isA, tupNE, dGt]; cases xs <;> simp
          · cases d <;> first | (cases hb; done) | (simp [isA, tupNE]; done) | skip
            rename_i xs; simp [isA, tupNE, dGt]; cases xs <;> simp
        · simp
          cases a <;> first | (simp [tupNE]; rw [← hF]; simp [netB]; done) | (cases ha; done) | skip
          rename_i ls
          cases b <;> first | (simp [tupNE]; rw [← hF]; simp [netB]; done) | (cases hb; done) | skip
          rename_i fs
          have hwl := wid_tup ((wid_tup hw).2 (.tup ls) (by simp))
          have hwf := wid_tup ((wid_tup hw).2 (.tup fs) (by simp))
          simp [tupNE]
          by_cases hl0 : ls = []
          · simp [hl0]; rw [← hF]; simp [netB, hl0]
          by_cases hf0 : fs = []
          · simp [hf0]; rw [← hF]; simp [netB, hf0]
          simp [hl0, hf0]
          refine okE_all lineB (by omega) (fun d hd => ?_) ?_
          · simp [is_line_eq (pl_tup ha d hd)]
          simp
          by_cases hl1 : ∀ x ∈ ls, lineB x = true
          case neg => rw [if_pos (by simpa using hl1), ← hF]; simp [netB]; intro _ _ h; exact absurd h hl1
          rw [if_neg (by simpa using hl1)]
          refine okE_all flowB (by omega) (fun d hd => ?_) ?_
          · simp [is_flow_eq (pl_tup hb d hd) (hwf.2 d hd)]
          simp
          by_cases hf1 : ∀ x ∈ fs, flowB x = true
          case neg => rw [if_pos (by simpa using hf1), ← hF]; simp [netB]; intro _ _ _ h; exact absurd h hf1
          rw [if_neg (by simpa using hf1)]
          have hnl : ∀ x ∈ ls.map fst, nameB x = true := by
            intro x hx
            obtain ⟨d, hd, rfl⟩ := List.mem_map.1 hx
            obtain ⟨p, q, rfl, hn⟩ := line_shape (hl1 d hd)
            exact hn
          have hnf : ∀ x ∈ fs.map fst, nameB x = true := by
            intro x hx
            obtain ⟨d, hd, rfl⟩ := List.mem_map.1 hx
            obtain ⟨_, _, _, _, _, rfl, hn, _⟩ := flow_shape (hf1 d hd)
            exact hn
          refine okE_compM fst (fun d hd => ?_) (by simp; exact sz (by omega)) ?_
          · obtain ⟨p, q, rfl, hn⟩ := line_shape (hl1 d hd)
            simp [fst]
          simp
          refine okE_compM fst (fun d hd => ?_) (by simp; exact sz (by omega)) ?_
          · obtain ⟨_, _, _, _, _, rfl, hn, _⟩ := flow_shape (hf1 d hd)
            simp [fst]
          simp
          refine ⟨sz (by omega), ?_⟩
          rw [are_asc_l hnl (by simp; omega)]; simp
          have hl2 : ls.all lineB = true := by simpa using hl1
          have hf2 : fs.all flowB = true := by simpa using hf1
          have hl3 : ls.isEmpty = false := by simpa using hl0
          have hf3 : fs.isEmpty = false := by simpa using hf0
          have hN : (ascB (ls.map fst) && (ascB (fs.map fst) && fs.all fun f => (linesOf f).all fun l => ((ls.map fst).map asStr).contains (asStr l))) = F := by
            rw [← hF]; simp only [netB, hl2, hf2, hl3, hf3, Bool.not_false, Bool.true_and]
          cases hs : ascB (ls.map fst)
          · rw [hs] at hN; simp; rw [← hN]; rfl
          rw [hs, Bool.true_and] at hN
          simp
          rw [are_asc_l hnf (by simp; omega)]; simp
          cases hs2 : ascB (fs.map fst)
          · rw [hs2] at hN; simp; rw [← hN]; rfl
          rw [hs2, Bool.true_and] at hN
          simp
          have hlab := names_ok hnl
          have hls := names_str hnl
          generalize (ls.map fst).map asStr = labs at hN hlab hls
          refine okE.mono (okE_scomp2 (fun i acc δ => acc = (fs.take i).flatMap (fun f => (linesOf f).map fun l => .bl (labs.contains (asStr l))) ∧ acc.length ≤ 900 * i ∧ δ = [some (D.tup [D.tup ls, D.tup fs]), some (D.lst (ls.map fst)), some (D.lst (fs.map fst)), none, none, none]) (n := 0) ⟨by simp, by simp, rfl⟩ ?_) ?_
          · rintro i d acc δ hi ⟨ha1, ha2, rfl⟩
            have hd := List.mem_of_getElem? hi
            have hi2 := lt_of_get hi
            obtain ⟨n, es, w, b, t, rfl, hn, hes⟩ := flow_shape (hf1 d hd)
            have hwe := wid_tup ((wid_tup (hwf.2 _ hd)).2 (.tup es) (by simp))
            rw [Nat.zero_add] at ha1 ha2
            refine ⟨_, rfl, ?_⟩
            simp
            refine okE_compM (fun l => .bl (labs.contains (asStr l))) (fun l hl => ?_) ?_ ?_
            · obtain ⟨e5, e6⟩ := asStr_name (List.all_eq_true.1 hes l hl)
              generalize asStr l = s at e5 e6
              subst e5
              simp only [gn_eq, okO_some]
              refine ⟨rfl, ?_⟩
              simp [hls, dIn, inD_strs e6 hlab, asStr]
            · have : acc.length + es.length ≤ 16777216 := by
                have : 900 * i ≤ 900 * 900 := Nat.mul_le_mul_left _ (by omega)
                omega
              exact sz this
            · refine ⟨?_, ?_, by simp⟩
              · rw [ha1, Nat.zero_add, List.take_add_one, hi]
                simp [linesOf]
              · simp; omega
          · rintro a δ ⟨ha1, _, _⟩
            rw [Nat.zero_add, List.take_length] at ha1
            subst ha1
            simp only [okR_anil, one_one, dAll_lst]
            rw [← List.map_flatMap (f := fun l => D.bl (labs.contains (asStr l))) (g := linesOf), dbools_map]
            simp
            rw [← hN]; simp
    · have hf : netB (.tup xs) = false := by
        match xs, h2 with
        | [], _ => rfl
        | [_], _ => simp [netB]
        | [_, _], h => exact absurd rfl h
        | _ :: _ :: _ :: xs, _ => simp [netB]
      rw [hf]
      apply eq_of_okR
      refine den_ok rfl ?_
      have : tupB 2 (.tup xs) = false := by simp [tupB]; omega
      simp [is_tuple_eq h, this]
end Lw
end
section
set_option maxHeartbeats 2000000
namespace Lw
open PySem L2 PD
theorem in_unit {a b : D} (h : pl (.tup [a, b]) = true) (h2 : dpt (.tup [a, b]) ≤ 64) : ∃ k, inD (.tup []) (.tup [a, b]) = some k ∧ (∀ ls fs, a = .tup ls → b = .tup fs → k = (ls.isEmpty || fs.isEmpty)) := by
  obtain ⟨p, h1, h3⟩ := shaped_of h h2
  obtain ⟨ha, hb⟩ := pl_tup2 h
  obtain ⟨pa, a1, _⟩ := pl_py ha
  obtain ⟨pb, b1, _⟩ := pl_py hb
  have e : toPys [a, b] = some [pa, pb] := by simp [toPys, a1, b1]
  have ep : p = .tuple [pa, pb] := by simp [toPy, e] at h1; exact h1.symm
  subst ep
  have hs : SeqAt.shaped (.tuple []) = true := by decide
  refine ⟨_, by simp only [inD, toPy, toPys, Option.map_some, Option.bind_some, a1, b1]; rw [if_pos (by rw [hs, h3]; rfl)], ?_⟩
  have hx : ∀ (xs : List D) (d : D) (q : PyData), d = .tup xs → toPy d = some q → PyData.eqv q (.tuple []) = xs.isEmpty := by
    rintro xs d q rfl hq
    rw [toPy] at hq
    cases xs with
    | nil => simp [toPys] at hq; subst hq; rfl
    | cons x xs =>
      cases hps : toPys (x :: xs) with
      | none => rw [hps] at hq; cases hq
      | some ps =>
        rw [hps] at hq; cases hq
        cases ps with
        | nil => simp only [toPys, Option.bind_eq_some_iff] at hps; obtain ⟨_, _, h5⟩ := hps; simp at h5
        | cons p ps => rfl
  intro ls fs h4 h5
  simp [hx ls a pa h4 a1, hx fs b pb h5 b1]
theorem is_whole_eq {x : D} (h : pl x = true) (hw : wid x ≤ 900) (hd : dpt x ≤ 60) : d__law_is_whole [x] = some (.ok (.bl (netB x))) := by
  cases x <;> first | rfl | cases h | skip
  case tup xs =>
    by_cases h2 : xs.length = 2
    · match xs, h2 with
      | [a, b], h2' =>
        obtain ⟨ha, hb⟩ := pl_tup2 h
        apply eq_of_okR
        refine den_ok rfl ?_
        generalize hF : netB (.tup [a, b]) = F
        obtain ⟨k, hk, hk2⟩ := in_unit h (by omega)
        simp [isA, dIn, hk]
        cases a <;> first | (simp [isA]; rw [← hF]; simp [netB]; done) | (cases ha; done) | skip
        rename_i ls
        cases b <;> first | (simp [isA]; rw [← hF]; simp [netB]; done) | (cases hb; done) | skip
        rename_i fs
        have hwl := wid_tup ((wid_tup hw).2 (.tup ls) (by simp))
        have hwf := wid_tup ((wid_tup hw).2 (.tup fs) (by simp))
        cases hk2 _ _ rfl rfl
        simp [isA, dIn, hk]
        by_cases hl0 : ls = []
        · simp [hl0]; rw [← hF]; simp [netB, hl0]
        by_cases hf0 : fs = []
        · simp [hf0]; rw [← hF]; simp [netB, hf0]
        simp [hl0, hf0]
        refine okE_all lineB (by omega) (fun d hd => ?_) ?_
        · simp [is_wire_eq (pl_tup ha d hd)]
        simp
        by_cases hl1 : ∀ x ∈ ls, lineB x = true
        case neg => rw [if_pos (by simpa using hl1), ← hF]; simp [netB]; intro _ _ h; exact absurd h hl1
        rw [if_neg (by simpa using hl1)]
        have hnl : ∀ x ∈ ls.map fst, nameB x = true := by
          intro x hx
          obtain ⟨d, hd, rfl⟩ := List.mem_map.1 hx
          obtain ⟨p, q, rfl, hn⟩ := line_shape (hl1 d hd)
          exact hn
        refine okE_compM fst (fun d hd => ?_) (by simp; exact sz (by omega)) ?_
        · obtain ⟨p, q, rfl, hn⟩ := line_shape (hl1 d hd)
          simp [fst]
        simp only [List.nil_append]
        have hl2 : ls.all lineB = true := by simpa using hl1
        have hl3 : ls.isEmpty = false := by simpa using hl0
        have hf3 : fs.isEmpty = false := by simpa using hf0
        have hN : (fs.all flowB && (ascB (ls.map fst) && (ascB (fs.map fst) && fs.all fun f => (linesOf f).all fun l => ((ls.map fst).map asStr).contains (asStr l)))) = F := by
          rw [← hF]; simp only [netB, hl2, hl3, hf3, Bool.not_false, Bool.true_and]
        have hlen : (ls.map fst).length < 1000 := by simp; omega
        generalize ls.map fst = nms at hnl hN hlen ⊢
        obtain ⟨e1, e2, e3⟩ := asc_eq hnl hlen
        have hne : ∀ {xs ys : D} {q : Bool}, dEq xs ys = some (.bl q) → dNe xs ys = some (.bl (!q)) := by
          intro xs ys q h
          rw [dEq] at h; rw [dNe]
          cases hq : eqD xs ys with
          | none => rw [hq] at h; cases h
          | some q => rw [hq] at h; cases h; rfl
        simp [e1, hne e3]
        cases hs : ascB nms
        · rw [hs] at hN; simp; rw [← hN]; simp
        rw [hs, Bool.true_and] at hN
        simp
        have hlab := names_ok hnl
        have hls := names_str hnl
        generalize nms.map asStr = labs at hN hlab hls
        subst hls
        refine okE_all (rowB labs) (by omega) (fun d hd' => ?_) ?_
        · have hdd : dpt d ≤ 60 := by
            simp only [dpt] at hd
            have h7 := dpts_le.1 (Nat.le_of_succ_le hd) (.tup fs) (by simp)
            simp only [dpt] at h7
            exact dpts_le.1 (Nat.le_of_succ_le h7) d hd'
          simp [is_row_eq (pl_tup hb d hd') (hwf.2 d hd') hdd hlab]
        simp
        have hrr : ∀ {fs : List D}, fs.all (rowB labs) = (fs.all flowB && fs.all fun f => (linesOf f).all fun l => labs.contains (asStr l)) := by
          intro fs
          induction fs with
          | nil => rfl
          | cons f fs ih =>
            rw [List.all_cons, List.all_cons, List.all_cons, ih, rowB]
            cases flowB f <;> cases (linesOf f).all fun l => labs.contains (asStr l) <;> cases fs.all flowB <;> simp
        by_cases hr : ∀ x ∈ fs, rowB labs x = true
        case neg =>
          rw [if_pos (by simpa using hr), ← hN]
          have h1 : fs.all (rowB labs) = false := by
            rw [Bool.eq_false_iff]; simpa using hr
          rw [hrr] at h1
          cases h8 : fs.all flowB
          · rfl
          · rw [h8, Bool.true_and] at h1; rw [h1]; simp
        rw [if_neg (by simpa using hr)]
        have h1 : fs.all (rowB labs) = true := by simpa using hr
        rw [hrr, Bool.and_eq_true] at h1
        rw [h1.1, h1.2, Bool.true_and, Bool.and_true] at hN
        have hf1 : ∀ x ∈ fs, flowB x = true := by simpa using h1.1
        have hnf : ∀ x ∈ fs.map fst, nameB x = true := by
          intro x hx
          obtain ⟨d, hd, rfl⟩ := List.mem_map.1 hx
          obtain ⟨_, _, _, _, _, rfl, hn, _⟩ := flow_shape (hf1 d hd)
          exact hn
        refine okE_compM fst (fun d hd => ?_) (by simp; exact sz (by omega)) ?_
        · obtain ⟨_, _, _, _, _, rfl, hn, _⟩ := flow_shape (hf1 d hd)
          simp [fst]
        simp only [List.nil_append]
        have hlen : (fs.map fst).length < 1000 := by simp; omega
        generalize fs.map fst = nms at hnf hN hlen ⊢
        obtain ⟨e1, e2, e3⟩ := asc_eq hnf hlen
        simp [e1, e3, hN]
    · have hf : netB (.tup xs) = false := by
        match xs, h2 with
        | [], _ => rfl
        | [_], _ => simp [netB]
        | [_, _], h => exact absurd rfl h
        | _ :: _ :: _ :: xs, _ => simp [netB]
      rw [hf]
      apply eq_of_okR
      refine den_ok rfl ?_
      have h6 : ((xs.length : Int) != 2) = true := by simp; omega
      simp [isA, h6]
end Lw
end
section
set_option maxHeartbeats 2000000
namespace PD
open PySem L2
theorem alike_strs : ∀ {xs ys : List Str}, W.alikeAll (xs.map PyData.str) (ys.map PyData.str) = true
  | [], _ => by cases ‹List Str› <;> simp [W.alikeAll]
  | _ :: _, [] => by simp [W.alikeAll]
  | x :: xs, y :: ys => by simp [W.alikeAll, W.alike, alike_strs (xs := xs) (ys := ys)]
/-- one statement, what follows unseen -/
theorem okS_step {a b : Env → RO} {δ : Env} {Q : Out → Env → Prop} (h : ∀ K : Out → Env → Prop, (∀ δ', okE (b δ') Q → K .nx δ') → (∀ d δ', Q (.rt d) δ' → K (.rt d) δ') → okE (a δ) K) : okE (sseq a b δ) Q :=
  okS_seq (h _ (fun _ h => h) (fun _ _ h => h))
theorem okE_cut {α : Type} {o : RE α} {Q : α → Env → Prop} (h : ∀ K : α → Env → Prop, (∀ a δ, Q a δ → K a δ) → okE o K) : okE o Q := h Q fun _ _ h => h
theorem erase_perm {α : Type} : ∀ {xs : List α} {i : Nat} (h : i < xs.length), (xs[i] :: xs.eraseIdx i).Perm xs
  | x :: xs, 0, _ => .refl _
  | x :: xs, i + 1, h => by
    have := erase_perm (xs := xs) (i := i) (by simpa using h)
    simp only [List.getElem_cons_succ, List.eraseIdx_cons_succ]
    exact (List.Perm.swap _ _ _).trans (this.cons x)
theorem map_eraseIdx {α β : Type} {f : α → β} : ∀ (xs : List α) (i : Nat), (xs.eraseIdx i).map f = (xs.map f).eraseIdx i
  | [], _ => rfl
  | _ :: _, 0 => rfl
  | x :: xs, i + 1 => by simp [map_eraseIdx xs i]
theorem nodup_inj {α β : Type} {f : α → β} : ∀ {xs : List α} {x y : α}, (xs.map f).Nodup → x ∈ xs → y ∈ xs → f x = f y → x = y
  | [], _, _, _, h, _, _ => by simp at h
  | z :: xs, x, y, hn, hx, hy, e => by
    rw [List.map_cons, List.nodup_cons] at hn
    rcases List.mem_cons.1 hx with rfl | hx
    · rcases List.mem_cons.1 hy with rfl | hy
      · rfl
      · exact absurd (List.mem_map.2 ⟨y, hy, e.symm⟩) hn.1
    · rcases List.mem_cons.1 hy with h | hy
      · rw [h] at e; exact absurd (List.mem_map.2 ⟨x, hx, e⟩) hn.1
      · exact nodup_inj hn.2 hx hy e
end PD
namespace Lw
open PySem L2 PD
def nm6 : List Str := ["a", "b", "c", "d", "ab", "k"]
def nm9 : List Str := ["p", "q", "r", "s", "t", "u", "ab", "z", "x"]
theorem nm6_ok : ∀ s ∈ nm6, PyData.strOk s = true := by decide +kernel
theorem nm9_ok : ∀ s ∈ nm9, PyData.strOk s = true := by decide +kernel
def LineD (d : D) : Prop := ∃ s c, d = .tup [.str s, .int c] ∧ s ∈ nm6 ∧ 1 ≤ c ∧ c ≤ 12
theorem toPys_len : ∀ {xs : List D} {ps : List PyData}, toPys xs = some ps → ps.length = xs.length
  | [], _, h => by cases h; rfl
  | x :: xs, ps, h => by
    simp only [toPys, Option.bind_eq_some_iff, Option.map_eq_some_iff] at h
    obtain ⟨p, _, qs, h2, rfl⟩ := h
    simp [toPys_len h2]
theorem toPys_mem : ∀ {xs : List D} {ps : List PyData} {p : PyData}, toPys xs = some ps → p ∈ ps → ∃ x ∈ xs, toPy x = some p
  | [], _, _, h, hp => by cases h; simp at hp
  | x :: xs, ps, p, h, hp => by
    simp only [toPys, Option.bind_eq_some_iff, Option.map_eq_some_iff] at h
    obtain ⟨q, h1, qs, h2, rfl⟩ := h
    rcases List.mem_cons.1 hp with rfl | hp
    · exact ⟨x, by simp, h1⟩
    · obtain ⟨y, hy, e⟩ := toPys_mem h2 hp
      exact ⟨y, List.mem_cons_of_mem _ hy, e⟩
theorem toPys_some : ∀ {xs : List D}, (∀ x ∈ xs, ∃ p, toPy x = some p) → ∃ ps, toPys xs = some ps
  | [], _ => ⟨[], rfl⟩
  | x :: xs, h => by
    obtain ⟨p, e⟩ := h x (by simp)
    obtain ⟨ps, e2⟩ := toPys_some (xs := xs) fun y hy => h y (List.mem_cons_of_mem _ hy)
    exact ⟨p :: ps, by simp [toPys, e, e2]⟩
theorem sorted_lines {F : List D} (h : ∀ f ∈ F, LineD f) : dSorted (.lst F) = some (.lst (isort leD F)) := by
  obtain ⟨ps, e⟩ := toPys_some (xs := F) fun x hx => by
    obtain ⟨s, c, rfl, _⟩ := h x hx
    exact ⟨_, rfl⟩
  have hp : ∀ p ∈ ps, ∃ s c, p = .tuple [.str s, .int c] := fun p hp => by
    obtain ⟨x, hx, e1⟩ := toPys_mem e hp
    obtain ⟨s, c, rfl, _⟩ := h x hx
    exact ⟨s, c, by simpa [toPy, toPys] using e1.symm⟩
  have hs : sortOk ps = true := by
    unfold sortOk
    rw [Bool.and_eq_true, Bool.or_eq_true]
    refine ⟨List.all_eq_true.2 fun p hpp => ?_, .inl (Bool.and_eq_true_iff.2 ⟨List.all_eq_true.2 fun p hpp => ?_, List.all_eq_true.2 fun p hpp => List.all_eq_true.2 fun q hqq => ?_⟩)⟩
    · obtain ⟨s, c, rfl⟩ := hp p hpp; simp [PyData.depth, PyData.depthAll, nodict, nodicts]
    · obtain ⟨s, c, rfl⟩ := hp p hpp; rfl
    · obtain ⟨s, c, rfl⟩ := hp p hpp
      obtain ⟨s', c', rfl⟩ := hp q hqq
      simp [itemsOf, lexOk, W.alike]
  simp [dSorted, sortD, e, hs]
def RowD (d : D) : Prop := ∃ (s : Str) (ls : List Str) (w b : Int) (t : D), d = .tup [.str s, .tup (ls.map D.str), .int w, .int b, t] ∧ s ∈ nm9 ∧ ls ≠ [] ∧ ls.length ≤ 6 ∧ (∀ l ∈ ls, l ∈ nm6) ∧ 1 ≤ w ∧ w ≤ 3 ∧ 0 ≤ b ∧ b ≤ 2 ∧ (t = .non ∨ ∃ i : Int, t = .int i ∧ 1 ≤ i ∧ b ≤ i ∧ i ≤ 5)
def rowN : D → Str
  | .tup (.str s :: _) => s
  | _ => ""
theorem sorted_rows {F : List D} (h : ∀ f ∈ F, RowD f) (hn : (F.map rowN).Nodup) : dSorted (.lst F) = some (.lst (isort leD F)) := by
  obtain ⟨ps, e⟩ := toPys_some (xs := F) fun x hx => by
    obtain ⟨s, ls, w, b, t, rfl, _, _, _, _, _, _, _, _, ht⟩ := h x hx
    rcases ht with rfl | ⟨i, rfl, _⟩ <;> exact ⟨_, by simp [toPy, toPys, toPys_strs]; rfl⟩
  have hp : ∀ p ∈ ps, ∃ x ∈ F, ∃ (s : Str) (ls : List Str) (w b : Int) (t : PyData), p = .tuple [.str s, .tuple (ls.map PyData.str), .int w, .int b, t] ∧ rowN x = s ∧ toPy x = some p ∧ W.alike t t = true ∧ nodict t = true ∧ t.depth = 0 := fun p hp => by
    obtain ⟨x, hx, e1⟩ := toPys_mem e hp
    refine ⟨x, hx, ?_⟩
    obtain ⟨s, ls, w, b, t, rfl, _, _, _, _, _, _, _, _, ht⟩ := h x hx
    rcases ht with rfl | ⟨i, rfl, _⟩ <;> (simp [toPy, toPys, toPys_strs] at e1; subst e1; refine ⟨s, ls, w, b, _, rfl, rfl, ?_, ?_, ?_, ?_⟩)
    all_goals first | (simp [toPy, toPys, toPys_strs]; done) | (simp [W.alike]; done) | (simp [nodict]; done) | (simp [PyData.depth]; done)
  have nds : ∀ ls : List Str, nodicts (ls.map PyData.str) = true := by
    intro ls
    induction ls with
    | nil => rfl
    | cons x ls ih => simp [nodicts, nodict, ih]
  have hs : sortOk ps = true := by
    unfold sortOk
    rw [Bool.and_eq_true, Bool.or_eq_true]
    refine ⟨List.all_eq_true.2 fun p hpp => ?_, .inl (Bool.and_eq_true_iff.2 ⟨List.all_eq_true.2 fun p hpp => ?_, List.all_eq_true.2 fun p hpp => List.all_eq_true.2 fun q hqq => ?_⟩)⟩
    · obtain ⟨x, hx, s, ls, w, b, t, rfl, _, _, _, h1, h2⟩ := hp p hpp; simp [PyData.depth, PyData.depthAll, nodict, nodicts, nds, dep_strs, h1, h2]
    · obtain ⟨x, hx, s, ls, w, b, t, rfl, _⟩ := hp p hpp; rfl
    · obtain ⟨x, hx, s, ls, w, b, t, hpe, hx2, hx3, ha, _⟩ := hp p hpp
      obtain ⟨y, hy, s', ls', w', b', t', hqe, hy2, hy3, ha', _⟩ := hp q hqq
      by_cases hss : s = s'
      · have hxy : x = y := by
          exact nodup_inj hn hx hy (by rw [hx2, hy2, hss])
        subst hxy
        rw [hx3] at hy3
        cases hy3
        rw [hpe]
        simp [itemsOf, lexOk, W.alike, alike_strs, ha]
      · rw [hpe, hqe]
        simp [itemsOf, lexOk, W.alike, PyData.eqv, hss]
  simp [dSorted, sortD, e, hs]
theorem drawn_ok {n : Nat} {B : List D} {w m k : Nat} (hB : Box n B) (hn : n < 2 ^ 30) (hw : 1 ≤ w) (hw2 : w ≤ 6) (hm : m ≤ 9) : ∃ d B', d__law_drawn_net B [.int w, .int m, .int k] = some (d, B') ∧ ∃ S R, d = .tup [.tup S, .tup R] ∧ S.length = w ∧ R.length = m ∧ (∀ f ∈ S, LineD f) ∧ (∀ f ∈ R, RowD f) ∧ Box (n + 1000) B' := by
  refine denB_ok rfl ?_
  simp
  refine ⟨sz (by omega), by omega, ?_⟩
  refine okS_for (fun i δ => ∃ (L : List Str) (F : List D) (B : List D) (x : Option D), δ = [some (.lst B), some (.int w), some (.int m), some (.int k), some (.lst (L.map D.str)), some (.lst F), x, none, none, none, none, none, none, none] ∧ i ≤ w ∧ L.length = 6 - i ∧ F.length = i ∧ Box (n + 2 * i) B ∧ (∀ s ∈ L, s ∈ nm6) ∧ ∀ f ∈ F, LineD f) (n := 0) ⟨nm6, [], B, none, rfl, by omega, rfl, rfl, hB, fun _ h => h, by simp⟩ ?_ ?_
  · rintro i d δ hi ⟨L, F, B, x, rfl, h1, h2, h3, h4, h5, h6⟩
    rw [Nat.zero_add] at *
    have hi2 := lt_of_get hi
    rw [show (rng 0 (w : Int)).length = w by simp [rng]] at hi2
    refine ⟨_, rfl, ?_⟩
    simp [flat]
    refine okO_take h4 (by omega) (by omega) (by omega) fun j B1 j0 j1 hB1 => ?_
    obtain ⟨j, rfl⟩ := Int.eq_ofNat_of_zero_le j0
    have hj : j < L.length := by omega
    simp [hj]
    refine ⟨by omega, okO_take hB1 (by omega) (by omega) (by omega) fun e B2 e0 e1 hB2 => ?_⟩
    simp
    refine ⟨sz (by omega), Nat.lt_of_lt_of_le (show F.length < 100 by omega) (sz (by omega)), L.eraseIdx j, F ++ [.tup [.str L[j], .int (1 + e)]], B2, ⟨rfl, ?_, rfl⟩, by omega, ?_, by simp [h3], ?_, ?_, ?_⟩
    · exact (map_eraseIdx _ _).symm
    · rw [List.length_eraseIdx_of_lt hj]; omega
    · exact hB2.mono (by omega)
    · exact fun s hs => h5 s (List.mem_of_mem_eraseIdx hs)
    · intro f hf
      rcases List.mem_append.1 hf with hf | hf
      · exact h6 f hf
      · rw [List.mem_singleton.1 hf]
        exact ⟨L[j], 1 + e, rfl, h5 _ (List.getElem_mem _), by omega, by omega⟩
  · rintro δ ⟨L, F, B, x, rfl, h1, h2, h3, h4, h5, h6⟩
    simp [sorted_lines h6]
    have hS : ∀ f ∈ isort leD F, LineD f := fun f hf => h6 f (mem_isort.1 hf)
    have hSl : (isort leD F).length = w := by
      rw [len_isort, h3]; simp [rng]
    generalize isort leD F = S at hS hSl
    refine ⟨sz (by omega), by omega, ?_⟩
    refine okS_for (fun i δ => ∃ (L' : List Str) (R : List D) (B : List D) (x9 x10 x11 x12 x6 : Option D), δ = [some (.lst B), some (.int w), some (.int m), some (.int k), some (.lst (L.map D.str)), some (.lst S), x6, some (.lst (L'.map D.str)), some (.lst R), x9, x10, x11, x12, none] ∧ i ≤ m ∧ L'.length = 9 - i ∧ R.length = i ∧ Box (n + 100 + 20 * i) B ∧ (∀ s ∈ L', s ∈ nm9) ∧ (∀ f ∈ R, RowD f) ∧ (R.map rowN ++ L').Nodup) (n := 0) ⟨nm9, [], B, none, none, none, none, x, rfl, by omega, rfl, rfl, h4.mono (by omega), fun _ h => h, by simp, by decide⟩ ?_ ?_
    · rintro i d δ hi ⟨L', R, B, x9, x10, x11, x12, x6, rfl, g1, g2, g3, g4, g5, g6, g7⟩
      rw [Nat.zero_add] at *
      have hi2 := lt_of_get hi
      rw [show (rng 0 (m : Int)).length = m by simp [rng]] at hi2
      refine ⟨_, rfl, ?_⟩
      refine okS_step fun K hK _ => ?_
      simp
      refine okE.mono (okE_scomp (fun j acc δ => ∃ B, δ = [some (.lst B), some (.int w), some (.int m), some (.int k), some (.lst (L.map D.str)), some (.lst S), some d, some (.lst (L'.map D.str)), some (.lst R), x9, x10, x11, x12, none] ∧ Box (n + 100 + 20 * i + j) B ∧ acc.length ≤ j ∧ ∃ ss : List Str, acc = ss.map D.str ∧ ∀ s ∈ ss, s ∈ nm6) (n := 0) ⟨B, rfl, g4, by simp, [], rfl, by simp⟩ ?_) ?_
      · rintro j f acc δ hj ⟨B, rfl, k1, k2, ss, rfl, k3⟩
        rw [Nat.zero_add] at *
        have hj2 := lt_of_get hj
        obtain ⟨s, e, rfl, hs, _⟩ := hS f (List.mem_of_getElem? hj)
        refine ⟨_, rfl, ?_⟩
        simp
        refine okO_take k1 (by omega) (by omega) (by omega) fun r B1 r0 r1 hB1 => ?_
        simp
        split
        · simp at k2
          refine ⟨Nat.lt_of_lt_of_le (show ss.length < 100 by omega) (sz (by omega)), hB1.mono (by omega), by omega, ss ++ [s], by simp, ?_⟩
          intro s' hs'
          rcases List.mem_append.1 hs' with h | h
          · exact k3 s' h
          · rw [List.mem_singleton.1 h]; exact hs
        · simp at k2
          exact ⟨hB1.mono (by omega), by omega, ss, rfl, k3⟩
      · rintro acc δ ⟨B, rfl, k1, k2, ss, rfl, k3⟩
        rw [Nat.zero_add, hSl] at k1 k2
        simp
        refine hK _ ?_
        clear hK
        refine okS_step fun K hK _ => ?_
        suffices hs : ∀ (ss : List Str) (B : List D), ss ≠ [] → ss.length ≤ 6 → (∀ s ∈ ss, s ∈ nm6) → Box (n + 100 + 20 * i + 10) B → K .nx [some (.lst B), some (.int w), some (.int m), some (.int k), some (.lst (L.map D.str)), some (.lst S), some d, some (.lst (L'.map D.str)), some (.lst R), some (.lst (ss.map D.str)), x10, x11, x12, none] by
          simp
          have e : dNe (.lst (ss.map D.str)) (.lst []) = some (.bl (!ss.isEmpty)) := by
            have := eqD_strs (xs := ss) (ys := []) (fun s hs => nm6_ok s (k3 s hs)) (by simp)
            rw [dNe, show (D.lst []) = .lst (List.map D.str []) from rfl, this]
            cases ss <;> rfl
          rw [e]; simp
          simp at k2
          by_cases h0 : ss = []
          · simp [h0]
            refine okO_take k1 (by omega) (by omega) (by omega) fun r B1 r0 r1 hB1 => ?_
            obtain ⟨r, rfl⟩ := Int.eq_ofNat_of_zero_le r0
            have hr : r < S.length := by omega
            obtain ⟨s, c, hs1, hs2, _⟩ := hS S[r] (List.getElem_mem hr)
            simp [hr, hs1]
            exact ⟨sz (by omega), hs [s] B1 (by simp) (by simp) (by simpa using hs2) (hB1.mono (by omega))⟩
          · simp [h0]
            exact hs ss B h0 (by omega) k3 (k1.mono (by omega))
        clear k1 k2 k3
        intro ss B k0 k2 k3 k1
        refine hK _ ?_
        clear hK
        refine okS_step fun K hK _ => ?_
        suffices hs : ∀ (W : Int) (B : List D), 1 ≤ W → W ≤ 3 → Box (n + 100 + 20 * i + 11) B → K .nx [some (.lst B), some (.int w), some (.int m), some (.int k), some (.lst (L.map D.str)), some (.lst S), some d, some (.lst (L'.map D.str)), some (.lst R), some (.lst (ss.map D.str)), some (.int W), x11, x12, none] by
          simp
          split
          · refine okO_take k1 (by omega) (by omega) (by omega) fun r B1 r0 r1 hB1 => ?_
            simp
            exact hs (1 + r) B1 (by omega) (by omega) (hB1.mono (by omega))
          · exact hs 1 B (by omega) (by omega) (k1.mono (by omega))
        clear k1
        intro W B W1 W2 k1
        refine hK _ ?_
        clear hK
        refine okS_step fun K hK _ => ?_
        simp
        refine ⟨sz (by omega), hK _ ?_⟩
        clear hK
        refine okS_step fun K hK _ => ?_
        suffices hs : ∀ (b : Int) (t : D) (B : List D), 0 ≤ b → b ≤ 2 → (t = .non ∨ ∃ i : Int, t = .int i ∧ 1 ≤ i ∧ b ≤ i ∧ i ≤ 5) → Box (n + 100 + 20 * i + 13) B → K .nx [some (.lst B), some (.int w), some (.int m), some (.int k), some (.lst (L.map D.str)), some (.lst S), some d, some (.lst (L'.map D.str)), some (.lst R), some (.lst (ss.map D.str)), some (.int W), some (.int b), some t, none] by
          simp
          split
          · refine ⟨sz (by omega), okO_of k1 (by omega) (by simp) (by simp) fun b B1 hb hB1 => ?_⟩
            have hb2 : ∃ b' : Int, b = .int b' ∧ 0 ≤ b' ∧ b' ≤ 2 := by
              simp at hb
              rcases hb with rfl | rfl | rfl
              · exact ⟨0, rfl, by omega, by omega⟩
              · exact ⟨1, rfl, by omega, by omega⟩
              · exact ⟨2, rfl, by omega, by omega⟩
            obtain ⟨b, rfl, hb0, hb1⟩ := hb2
            simp
            refine ⟨sz (by omega), okO_of hB1 (by omega) (by simp) (by simp) fun t B2 ht hB2 => ?_⟩
            simp
            refine hs b t B2 hb0 hb1 ?_ (hB2.mono (by omega))
            simp at ht
            rcases ht with rfl | rfl | rfl | rfl
            · exact .inl rfl
            · refine .inr ⟨_, rfl, ?_⟩
              split <;> omega
            · exact .inr ⟨_, rfl, by omega, by omega, by omega⟩
            · exact .inr ⟨_, rfl, by omega, by omega, by omega⟩
          · exact hs 0 .non B (by omega) (by omega) (.inl rfl) (k1.mono (by omega))
        clear k1
        intro b t B b0 b1 ht k1
        refine hK _ ?_
        clear hK
        refine okE_cut fun K hK => ?_
        simp [flat]
        refine okO_take k1 (by omega) (by omega) (by omega) fun r B1 r0 r1 hB1 => ?_
        obtain ⟨r, rfl⟩ := Int.eq_ofNat_of_zero_le r0
        have hr : r < L'.length := by omega
        simp [hr]
        refine ⟨by omega, sz (by omega), Nat.lt_of_lt_of_le (show R.length < 100 by omega) (sz (by omega)), hK _ _ ?_⟩
        clear hK
        refine ⟨L'.eraseIdx r, _, B1, _, _, _, _, _, by rw [map_eraseIdx], by omega, ?_, by simp [g3], hB1.mono (by omega), fun s hs => g5 s (List.mem_of_mem_eraseIdx hs), ?_, ?_⟩
        · rw [List.length_eraseIdx_of_lt hr]; omega
        · intro f hf
          rcases List.mem_append.1 hf with hf | hf
          · exact g6 f hf
          · rw [List.mem_singleton.1 hf]
            exact ⟨L'[r], ss, W, b, t, rfl, g5 _ (List.getElem_mem hr), k0, k2, k3, W1, W2, b0, b1, ht⟩
        · have hp := erase_perm hr
          rw [List.map_append, List.append_assoc]
          exact (List.Perm.append_left _ hp).nodup_iff.2 g7
    · rintro δ ⟨L', R, B, x9, x10, x11, x12, x6, rfl, g1, g2, g3, g4, g5, g6, g7⟩
      rw [List.nodup_append] at g7
      simp [sorted_rows g6 g7.1]
      simp [rng] at g4 g3
      exact ⟨sz (by omega), S, isort leD R, ⟨rfl, rfl⟩, hSl, by rw [len_isort, g3], hS, fun f hf => g6 f (mem_isort.1 hf), g4.mono (by omega)⟩
end Lw
end
section
set_option maxHeartbeats 2000000
namespace Lw
open PySem L2 PD
/-! ### things that can be looked at -/
structure Gd (n k w : Nat) (d : D) : Prop where
  pl : pl d = true
  dp : dpt d ≤ n
  wt : wt d ≤ k
  wd : wid d ≤ w
def gdB (n k w : Nat) (d : D) : Bool := PD.pl d && decide (dpt d ≤ n) && decide (PD.wt d ≤ k) && decide (wid d ≤ w)
theorem gd_of {n k w : Nat} {d : D} (h : gdB n k w d = true) : Gd n k w d := by
  simp only [gdB, Bool.and_eq_true, decide_eq_true_eq] at h
  exact ⟨h.1.1.1, h.1.1.2, h.1.2, h.2⟩
theorem Gd.mono {n k w n' k' w' : Nat} {d : D} (h : Gd n k w d) (h1 : n ≤ n') (h2 : k ≤ k') (h3 : w ≤ w') : Gd n' k' w' d := ⟨h.pl, Nat.le_trans h.dp h1, Nat.le_trans h.wt h2, Nat.le_trans h.wd h3⟩
def handOk : Bool := match d__law_by_hand [] with
  | some (.ok (.lst xs)) => xs.all (gdB 10 60000 50) && decide (xs.length ≤ 200)
  | _ => false
theorem hand_ok : handOk = true := by decide +kernel
theorem hand_eq : ∃ xs, d__law_by_hand [] = some (.ok (.lst xs)) ∧ (∀ x ∈ xs, Gd 10 60000 50 x) ∧ xs.length ≤ 200 := by
  have h := hand_ok
  unfold handOk at h
  split at h
  · rename_i xs e
    rw [Bool.and_eq_true] at h
    exact ⟨xs, e, fun x hx => gd_of (List.all_eq_true.1 h.1 x hx), of_decide_eq_true h.2⟩
  · cases h
mutual
def toL : D → D
  | .tup xs => .lst (toLs xs)
  | .lst xs => .lst (toLs xs)
  | d => d
def toLs : List D → List D
  | [] => []
  | x :: xs => toL x :: toLs xs
end
mutual
theorem toL_all : ∀ (d : D), PD.pl (toL d) = PD.pl d ∧ dpt (toL d) = dpt d ∧ PD.wt (toL d) = PD.wt d ∧ wid (toL d) = wid d
  | .non => ⟨rfl, rfl, rfl, rfl⟩
  | .bl _ => ⟨rfl, rfl, rfl, rfl⟩
  | .int _ => ⟨rfl, rfl, rfl, rfl⟩
  | .str _ => ⟨rfl, rfl, rfl, rfl⟩
  | .tup xs => by
    obtain ⟨h1, h2, h3, h4, h5⟩ := toLs_all xs
    simp [toL, PD.pl, dpt, PD.wt, wid, h1, h2, h3, h4, h5]
  | .lst xs => by
    obtain ⟨h1, h2, h3, h4, h5⟩ := toLs_all xs
    simp [toL, PD.pl, dpt, PD.wt, wid, h1, h2, h3, h4, h5]
  | .scr _ => ⟨rfl, rfl, rfl, rfl⟩
  | .dic _ => ⟨rfl, rfl, rfl, rfl⟩
  | .obj _ _ => ⟨rfl, rfl, rfl, rfl⟩
  | .ins _ _ => ⟨rfl, rfl, rfl, rfl⟩
theorem toLs_all : ∀ (xs : List D), pls (toLs xs) = pls xs ∧ dpts (toLs xs) = dpts xs ∧ wts (toLs xs) = wts xs ∧ wids (toLs xs) = wids xs ∧ (toLs xs).length = xs.length
  | [] => ⟨rfl, rfl, rfl, rfl, rfl⟩
  | x :: xs => by
    obtain ⟨h1, h2, h3, h4⟩ := toL_all x
    obtain ⟨k1, k2, k3, k4, k5⟩ := toLs_all xs
    simp [toLs, pls, dpts, wts, wids, h1, h2, h3, h4, k1, k2, k3, k4, k5]
end
theorem toLs_map : ∀ {xs : List D}, toLs xs = xs.map toL
  | [] => rfl
  | x :: xs => by simp [toLs, toLs_map (xs := xs)]
theorem lists_eq : ∀ (f : Nat) {x : D}, dpt x < f → PD.pl x = true → wid x ≤ 900 → d__law_lists f [x] = some (.ok (toL x))
  | 0, _, h, _, _ => by omega
  | f + 1, x, h, hp, hw => by
    apply eq_of_okR
    unfold d__law_lists
    refine den_ok rfl ?_
    cases x <;> first | (cases hp; done) | (simp [isA2, isA, toL]; done) | skip
    case tup xs =>
      simp [isA2, isA, toL, toLs_map]
      refine okE_compM toL (fun d hd => ?_) ?_ (by simp [toLs_map])
      · have h1 := (wid_tup hw).2 d hd
        have h2 : dpt d < f := by
          simp only [dpt] at h
          have := dpts_le.1 (Nat.le_refl (dpts xs)) d hd
          omega
        simp [lists_eq f h2 (pl_tup hp d hd) h1]
      · simp; exact sz (by have := (wid_tup hw).1; omega)
    case lst xs =>
      simp [isA2, isA, toL, toLs_map]
      have hw' : xs.length ≤ 900 ∧ ∀ x ∈ xs, wid x ≤ 900 := by
        simp only [wid, Nat.max_le] at hw
        exact ⟨hw.1, wids_le.1 hw.2⟩
      refine okE_compM toL (fun d hd => ?_) ?_ (by simp [toLs_map])
      · have h1 := hw'.2 d hd
        have h2 : dpt d < f := by
          simp only [dpt] at h
          have := dpts_le.1 (Nat.le_refl (dpts xs)) d hd
          omega
        have h3 : PD.pl d = true := pls_mem.1 (by simpa [PD.pl] using hp) d hd
        simp [lists_eq f h2 h3 h1]
      · simp; exact sz (by omega)
/-! parts of a tuple -/
theorem cut_sub {xs : List D} {lo hi : Option Int} : ∃ a b, cutD xs lo hi = (xs.drop a).take b := ⟨_, _, rfl⟩
theorem wts_drop {xs : List D} (a : Nat) : wts (xs.drop a) ≤ wts xs := by
  have := wts_append (xs := xs.take a) (ys := xs.drop a)
  rw [List.take_append_drop] at this
  omega
theorem wts_take {xs : List D} (a : Nat) : wts (xs.take a) ≤ wts xs := by
  have := wts_append (xs := xs.take a) (ys := xs.drop a)
  rw [List.take_append_drop] at this
  omega
theorem cut_facts {xs : List D} {lo hi : Option Int} : (∀ y ∈ cutD xs lo hi, y ∈ xs) ∧ wts (cutD xs lo hi) ≤ wts xs ∧ (cutD xs lo hi).length ≤ xs.length := by
  obtain ⟨a, b, e⟩ := cut_sub (xs := xs) (lo := lo) (hi := hi)
  rw [e]
  refine ⟨fun y hy => List.mem_of_mem_drop (List.mem_of_mem_take hy), Nat.le_trans (wts_take b) (wts_drop a), by simp; omega⟩
theorem tup_facts {xs ys : List D} {p q : Nat} (hp : ∀ y ∈ ys, PD.pl y = true ∧ dpt y ≤ p ∧ wid y ≤ q) (hl : ys.length ≤ q) : PD.pl (.tup ys) = true ∧ dpt (.tup ys) ≤ p + 1 ∧ wid (.tup ys) ≤ q := by
  refine ⟨?_, ?_, ?_⟩
  · simp only [PD.pl]; exact pls_mem.2 fun y hy => (hp y hy).1
  · simp only [dpt]; exact Nat.succ_le_succ (dpts_le.2 fun y hy => (hp y hy).2.1)
  · simp only [wid]; exact Nat.max_le.2 ⟨hl, wids_le.2 fun y hy => (hp y hy).2.2⟩
end Lw
end
section
set_option maxHeartbeats 2000000
namespace Lw
open PySem L2 PD
structure Bt (p d : D) : Prop where
  pl : PD.pl d = true
  dp : dpt d ≤ dpt p + 11
  wt : PD.wt d ≤ 2 * PD.wt p + 60000
  wd : wid d ≤ wid p + 60
theorem mem_tup {xs : List D} : ∀ x ∈ xs, dpt x ≤ dpts xs ∧ wid x ≤ wids xs := fun x hx => ⟨dpts_le.1 (Nat.le_refl _) x hx, wids_le.1 (Nat.le_refl _) x hx⟩
theorem bt_small {p d : D} (h : gdB 10 10000 50 d = true) : Bt p d := by
  obtain ⟨h1, h2, h3, h4⟩ := gd_of h
  exact ⟨h1, by omega, by omega, by omega⟩
theorem wts_rev : ∀ {xs : List D}, wts xs.reverse = wts xs
  | [] => rfl
  | x :: xs => by rw [List.reverse_cons, wts_append, wts_rev (xs := xs)]; simp [wts]; omega
theorem cut_drop1 {xs : List D} {k : Nat} : cutD xs (some ((k : Int) + 1)) none = xs.drop (k + 1) := by
  unfold cutD
  rw [show ((k : Int) + 1) = ((k + 1 : Nat) : Int) by omega, HT.sIx_nat, HT.sIx_none]
  by_cases h : k + 1 ≤ xs.length
  · rw [Nat.min_eq_left h, List.take_of_length_le (by simp)]
  · rw [Nat.min_eq_right (by omega), List.drop_of_length_le (Nat.le_refl _), List.drop_of_length_le (by omega)]; simp
theorem bent_ok : ∀ (f : Nat) {p : D} {more : List D} {N : Nat} {B : List D}, dpt p < f → PD.pl p = true → dpt p ≤ 50 → wid p ≤ 800 → PD.wt p ≤ 4000000 → (∀ x ∈ more, Gd 10 60000 60 x) → more.length ≤ 10 → Box N B → N + 2 * f < 2 ^ 35 → ∃ d B', d__law_bent f B [p, .lst more] = some (d, B') ∧ Bt p d ∧ Box (N + 2 * f + 2) B'
  | 0, _, _, _, _, h, _, _, _, _, _, _, _, _ => by omega
  | f + 1, p, more, N, B, h, hp, hd, hw, hwt, hm, hml, hB, hN => by
    unfold d__law_bent
    refine denB_ok rfl ?_
    have leaf : ∀ (B : List D) (N' : Nat), Box N' B → N' ≤ N + 1 → okE ((sseq (sset 4 (lf [0] (op2 dAdd (vlst (acons (c (.int 0)) (acons (c (.int 1)) (acons (vneg (c (.int 1))) (acons (c (.int 7)) (acons (c .non) (acons (c (.bl true)) (acons (c (.bl false)) (acons (c (.str "")) (acons (c (.str "a")) (acons (c (.str "zzzzzzzz")) (acons (c (.str "zzzzzzzzz")) (acons (c (.str "A")) (acons (c (.str "b1")) (acons (c (.str "a\n")) (acons (vtup anil) (acons (vlst anil) (acons (vtup (acons (c (.str "a")) anil)) anil)))))))))))))))))) (v 2)))) (sseq (sif (lf [0] (tr (visi .tuple (v 1)))) (sset 4 (lf [0] (op2 dAdd (v 4) (vlst (acons (vcallB (one dList) (acons (v 1) anil)) (acons (vsl (v 1) onone (osome (vneg (c (.int 1))))) (acons (op2 dAdd (v 1) (vsl (v 1) (osome (vneg (c (.int 1)))) onone)) (acons (vrev (v 1)) (acons (vtup (acons (v 1) anil)) anil))))))))) snext) (sret (ecallB d__law_of 0 (lf [0] (acons (v 4) anil))))))
        [some (.lst B), some p, some (.lst more), none, none]) fun o δ => match o with | .rt d => ∃ B', δ[(0 : Nat)]? = some (some (.lst B')) ∧ Bt p d ∧ Box (N + 2 * (f + 1) + 2) B' | .nx => ∃ B', δ[(0 : Nat)]? = some (some (.lst B')) ∧ Bt p .non ∧ Box (N + 2 * (f + 1) + 2) B' | _ => False := by
      intro B N' hB hN'
      refine okS_step fun K hK hR0 => ?_
      simp
      have hc : ([D.int 0, .int 1, .int (-1), .int 7, .non, .bl true, .bl false, .str "", .str "a", .str "zzzzzzzz", .str "zzzzzzzzz", .str "A", .str "b1", .str "a\n", .tup [], .lst [], .tup [.str "a"]].all (gdB 10 10000 50)) = true := by decide +kernel
      have hCl0 : [D.int 0, .int 1, .int (-1), .int 7, .non, .bl true, .bl false, .str "", .str "a", .str "zzzzzzzz", .str "zzzzzzzzz", .str "A", .str "b1", .str "a\n", .tup [], .lst [], .tup [.str "a"]].length ≤ 100 := by simp
      have hne0 : [D.int 0, .int 1, .int (-1), .int 7, .non, .bl true, .bl false, .str "", .str "a", .str "zzzzzzzz", .str "zzzzzzzzz", .str "A", .str "b1", .str "a\n", .tup [], .lst [], .tup [.str "a"]] ++ more ≠ [] := by simp
      generalize [D.int 0, .int 1, .int (-1), .int 7, .non, .bl true, .bl false, .str "", .str "a", .str "zzzzzzzz", .str "zzzzzzzzz", .str "A", .str "b1", .str "a\n", .tup [], .lst [], .tup [.str "a"]] = C at hc hCl0 hne0 ⊢
      refine ⟨sz (by omega), sz (by omega), ?_⟩
      have hCl : C.length ≤ 100 := hCl0
      have hmore : ∀ x ∈ C ++ more, Bt p x := by
        intro x hx
        rcases List.mem_append.1 hx with hx | hx
        · exact bt_small (List.all_eq_true.1 hc x hx)
        · obtain ⟨h1, h2, h3, h4⟩ := hm x hx
          exact ⟨h1, by omega, by omega, by omega⟩
      rw [dAdd, if_pos (sz (by omega))]
      simp
      refine hK _ ?_
      clear hK hR0
      have hl2 : (C ++ more).length ≤ 110 := by simp; omega
      have hne : C ++ more ≠ [] := hne0
      generalize C ++ more = M at hmore hl2 hne ⊢
      refine okS_step fun K hK hR0 => ?_
      suffices hs : ∀ M : List D, (∀ x ∈ M, Bt p x) → M.length ≤ 120 → M ≠ [] → K .nx [some (.lst B), some p, some (.lst more), none, some (.lst M)] by
        cases p <;> first | (cases hp; done) | (simp [isA]; exact hs M hmore (by omega) hne) | skip
        case tup xs =>
          have hx := wid_tup hw
          obtain ⟨c1, c2, c3⟩ := cut_facts (xs := xs) (lo := some (-1)) (hi := none)
          obtain ⟨d1, d2, d3⟩ := cut_facts (xs := xs) (lo := none) (hi := some (-1))
          have c4 : (cutD xs (some (-1)) none).length ≤ 1 := by
            unfold cutD; simp [HT.sIx]; omega
          simp [isA, dSl]
          rw [dAdd, if_pos (sz (by omega))]
          simp [dRev]
          refine ⟨sz (by omega), sz (by omega), ?_⟩
          rw [dAdd, if_pos (sz (by simp; omega))]
          simp
          have mp : ∀ y ∈ xs, PD.pl y = true ∧ dpt y ≤ dpts xs ∧ wid y ≤ max (xs.length + 1) (wids xs) := fun y hy => ⟨pl_tup hp y hy, (mem_tup y hy).1, Nat.le_trans (mem_tup y hy).2 (Nat.le_max_right _ _)⟩
          have hwid : wid (.tup xs) = max xs.length (wids xs) := by simp only [wid]
          have hdpt : dpt (.tup xs) = dpts xs + 1 := by simp only [dpt]
          have hwtt : PD.wt (.tup xs) = wts xs + 10 := by simp only [PD.wt]
          have hmx : max (xs.length + 1) (wids xs) ≤ wid (.tup xs) + 60 := by rw [hwid]; omega
          have one : ∀ ys : List D, (∀ y ∈ ys, y ∈ xs) → ys.length ≤ xs.length + 1 → wts ys ≤ 2 * wts xs → Bt (.tup xs) (.tup ys) := by
            intro ys h1 h2 h3
            obtain ⟨f1, f2, f3⟩ := tup_facts (xs := xs) (ys := ys) (fun y hy => mp y (h1 y hy)) (by omega)
            refine ⟨f1, by omega, ?_, by omega⟩
            simp only [PD.wt]; omega
          refine hs _ ?_ (by simp; omega) (by simp)
          intro x hxm
          rcases List.mem_append.1 hxm with hxm | hxm
          · exact hmore x hxm
          · simp at hxm
            rcases hxm with rfl | rfl | rfl | rfl | rfl
            · have := one xs (fun _ h => h) (by omega) (by omega)
              refine ⟨?_, ?_, ?_, ?_⟩
              · have := this.pl; simpa only [PD.pl] using this
              · have := this.dp; simpa only [dpt] using this
              · have := this.wt; simpa only [PD.wt] using this
              · have := this.wd; simpa only [wid] using this
            · exact one _ d1 (by omega) (by omega)
            · refine one _ ?_ (by simp; omega) (by rw [wts_append]; omega)
              intro y hy
              rcases List.mem_append.1 hy with hy | hy
              · exact hy
              · exact c1 y hy
            · refine one _ (by simp) (by simp) ?_
              rw [wts_rev]; omega
            · refine ⟨by simpa [PD.pl, pls] using hp, ?_, ?_, ?_⟩
              · simp only [dpt, dpts]; omega
              · simp only [PD.wt, wts]; omega
              · simp only [wid, wids]; simp; omega
      intro M hM hMl hMn
      refine hK _ ?_
      clear hK hR0
      simp
      refine okO_of hB (by omega) hMn (by omega) fun d B' hd hB' => ?_
      simp
      exact ⟨hM d hd, hB'.mono (by omega)⟩
    refine okS_step fun K hK hR => ?_
    cases p <;> first | (cases hp; done) | (simp [isA]; exact hK _ (leaf B N hB (by omega))) | skip
    case tup xs =>
      simp [isA]
      have hx := wid_tup hw
      have e := eq_unit hp (by omega)
      have e2 : dNe (.tup xs) (.tup []) = some (.bl (!xs.isEmpty)) := by
        rw [dEq] at e; rw [dNe]
        cases hq : eqD (.tup xs) (.tup []) with
        | none => rw [hq] at e; cases e
        | some q => rw [hq] at e; cases e; rfl
      rw [e2]; simp
      by_cases h0 : xs = []
      · simp [h0]; subst h0; exact hK _ (leaf B N hB (by omega))
      simp [h0]
      refine okO_take hB (by omega) (by omega) (by omega) fun r B1 r0 r1 hB1 => ?_
      simp [dGt]
      split
      · have hl : 0 < xs.length := List.length_pos_iff.2 h0
        refine okO_take hB1 (by omega) (by omega) (by omega) fun j B2 j0 j1 hB2 => ?_
        obtain ⟨j, rfl⟩ := Int.eq_ofNat_of_zero_le j0
        have hj : j < xs.length := by omega
        simp [dSl, cut_take, hj, cut_drop1]
        have hc := mem_tup xs[j] (List.getElem_mem hj)
        have hwj := wts_mem (List.getElem_mem hj)
        have hdpt : dpt (.tup xs) = dpts xs + 1 := by simp only [dpt]
        have hwid : wid (.tup xs) = max xs.length (wids xs) := by simp only [wid]
        have hwtt : PD.wt (.tup xs) = wts xs + 10 := by simp only [PD.wt]
        obtain ⟨d, B', e3, hd3, hB3⟩ := bent_ok f (p := xs[j]) (more := more) (N := N + 2) (B := B2) (by omega) (pl_tup hp _ (List.getElem_mem hj)) (by omega) (by omega) (by omega) hm hml hB2 (by omega)
        rw [e3]; simp
        refine ⟨sz (by omega), ?_⟩
        have hsplit : wts xs = wts (xs.take j) + (PD.wt xs[j] + 2) + wts (xs.drop (j + 1)) := by
          have h1 := wts_append (xs := xs.take j) (ys := xs.drop j)
          rw [List.take_append_drop, List.drop_eq_getElem_cons hj] at h1
          rw [h1]; simp only [wts]; omega
        rw [dAdd, if_pos (sz (by simp; omega))]
        simp [dSl, cut_drop1]
        rw [dAdd, if_pos (sz (by simp; omega))]
        simp
        refine hR _ _ ⟨B', rfl, ?_, hB3.mono (by omega)⟩
        have hmem : ∀ y ∈ xs.take j ++ d :: xs.drop (j + 1), PD.pl y = true ∧ dpt y ≤ dpts xs + 11 ∧ wid y ≤ wid (.tup xs) + 60 := by
          intro y hy
          rcases List.mem_append.1 hy with hy | hy
          · have hy2 := List.mem_of_mem_take hy
            have := mem_tup y hy2
            exact ⟨pl_tup hp y hy2, by omega, by omega⟩
          · rcases List.mem_cons.1 hy with rfl | hy
            · have h1 := hd3.dp
              have h2 := hd3.wd
              exact ⟨hd3.pl, by omega, by omega⟩
            · have hy2 := List.mem_of_mem_drop hy
              have := mem_tup y hy2
              exact ⟨pl_tup hp y hy2, by omega, by omega⟩
        obtain ⟨f1, f2, f3⟩ := tup_facts (xs := xs) hmem (by simp; omega)
        have h5 := hd3.wt
        refine ⟨f1, by omega, ?_, f3⟩
        simp only [PD.wt]
        rw [wts_append]
        simp only [wts]
        omega
      · exact hK _ (leaf B1 (N + 1) hB1 (by omega))
end Lw
end
section
set_option maxHeartbeats 2000000
namespace Lw
open PySem L2 PD
abbrev Ok (d : D) : Prop := Gd 60 8000000 850 d
theorem line_gd {d : D} (h : LineD d) : Gd 1 1000 5 d := by
  obtain ⟨s, e, rfl, hs, h1, h2⟩ := h
  have h3 : PyData.strOk s = true ∧ s.length ≤ 2 := (by decide +kernel : ∀ s ∈ nm6, PyData.strOk s = true ∧ s.length ≤ 2) s hs
  have h4 : e.natAbs < 2 ^ 1900 := Nat.lt_of_lt_of_le (show e.natAbs < 2 ^ 10 by omega) (Nat.pow_le_pow_right (by omega) (by omega))
  refine ⟨?_, by simp [dpt, dpts], ?_, by simp [wid, wids]⟩
  · simp only [PD.pl, pls, h3.1, Bool.and_true, Bool.and_eq_true, decide_eq_true_eq]
    exact ⟨by omega, h4⟩
  · simp [PD.wt, wts]; omega
theorem pl_int {i : Int} (h : -1000 ≤ i) (h2 : i ≤ 1000) : PD.pl (.int i) = true := by
  simp only [PD.pl, decide_eq_true_eq]
  exact Nat.lt_of_lt_of_le (show i.natAbs < 2 ^ 10 by omega) (Nat.pow_le_pow_right (by omega) (by omega))
theorem row_gd {d : D} (h : RowD d) : Gd 2 4000 7 d := by
  obtain ⟨s, ls, w, b, t, rfl, hs, h0, hl, hls, w1, w2, b1, b2, ht⟩ := h
  have h3 : PyData.strOk s = true ∧ s.length ≤ 2 := (by decide +kernel : ∀ s ∈ nm9, PyData.strOk s = true ∧ s.length ≤ 2) s hs
  have h5 : ∀ l ∈ ls, PyData.strOk l = true ∧ l.length ≤ 2 := fun l hl => (by decide +kernel : ∀ s ∈ nm6, PyData.strOk s = true ∧ s.length ≤ 2) l (hls l hl)
  have hps : ∀ {ls : List Str}, (∀ l ∈ ls, PyData.strOk l = true ∧ l.length ≤ 2) → pls (ls.map D.str) = true ∧ dpts (ls.map D.str) = 0 ∧ wts (ls.map D.str) ≤ 40 * ls.length ∧ wids (ls.map D.str) = 0 := by
    intro ls
    induction ls with
    | nil => intro _; exact ⟨rfl, rfl, by simp [wts], rfl⟩
    | cons l ls ih =>
      intro h
      obtain ⟨i1, i2, i3, i4⟩ := ih fun x hx => h x (List.mem_cons_of_mem _ hx)
      have h1 := h l List.mem_cons_self
      refine ⟨?_, by simp [dpts, dpt, i2], ?_, by simp [wids, wid, i4]⟩
      · simp only [List.map_cons, pls, PD.pl, h1.1, i1, Bool.and_true, decide_eq_true_eq]; omega
      · simp [wts, PD.wt, Nat.mul_succ]; omega
  obtain ⟨i1, i2, i3, i4⟩ := hps h5
  have ht2 : PD.pl t = true ∧ dpt t = 0 ∧ PD.wt t ≤ 600 ∧ wid t = 0 := by
    rcases ht with rfl | ⟨i, rfl, a1, a2, a3⟩
    · exact ⟨rfl, rfl, by simp [PD.wt], rfl⟩
    · exact ⟨pl_int (by omega) (by omega), rfl, by simp [PD.wt], rfl⟩
  refine ⟨?_, ?_, ?_, ?_⟩
  · have e1 : PD.pl (.str s) = true := by simp only [PD.pl, h3.1, Bool.and_true, decide_eq_true_eq]; omega
    have e2 : PD.pl (.tup (ls.map D.str)) = true := by simpa only [PD.pl] using i1
    have e3 : PD.pl (.int w) = true := pl_int (by omega) (by omega)
    have e4 : PD.pl (.int b) = true := pl_int (by omega) (by omega)
    rw [PD.pl]; simp only [pls, e1, e2, e3, e4, ht2.1, Bool.and_true, Bool.and_self]
  · simp [dpt, dpts, i2, ht2.2.1]
  · simp [PD.wt, wts]; omega
  · simp [wid, wids, i4, ht2.2.2.2]; omega
theorem net_gd {S R : List D} (hS : ∀ f ∈ S, LineD f) (hR : ∀ f ∈ R, RowD f) (hl : S.length ≤ 6) (hr : R.length ≤ 9) : Gd 2 6100 9 (.tup S) ∧ Gd 3 37000 9 (.tup R) := by
  have a : ∀ {xs : List D} {n k w : Nat}, (∀ x ∈ xs, Gd n k w x) → xs.length ≤ w → Gd (n + 1) ((k + 2) * xs.length + 10) w (.tup xs) := by
    intro xs n k w h hl
    obtain ⟨f1, f2, f3⟩ := tup_facts (xs := xs) (ys := xs) (fun y hy => ⟨(h y hy).pl, (h y hy).dp, (h y hy).wd⟩) hl
    refine ⟨f1, f2, ?_, f3⟩
    have := wts_le (xs := xs) (k := k + 2) fun x hx => Nat.add_le_add_right (h x hx).wt 2
    rw [PD.wt]; omega
  constructor
  · have := a (xs := S) (n := 1) (k := 1000) (w := 9) (fun x hx => (line_gd (hS x hx)).mono (by omega) (by omega) (by omega)) (by omega)
    refine this.mono (by omega) ?_ (by omega)
    have : (1000 + 2) * S.length ≤ (1000 + 2) * 6 := Nat.mul_le_mul_left _ hl
    omega
  · have := a (xs := R) (n := 2) (k := 4000) (w := 9) (fun x hx => (row_gd (hR x hx)).mono (by omega) (by omega) (by omega)) (by omega)
    refine this.mono (by omega) ?_ (by omega)
    have : (4000 + 2) * R.length ≤ (4000 + 2) * 9 := Nat.mul_le_mul_left _ hr
    omega
theorem same_bl (b : Bool) : d__law_same 30 [.lst [.bl b, .bl b], .lst [.bl b, .bl b]] = some (.ok (.bl true)) := by
  cases b <;> kernel_rfl
theorem right_ok {B : List D} (hB : Box 0 B) : ∃ B', d__law_right B [] = some (.bl true, B') := by
  suffices h : ∃ d B', d__law_right B [] = some (d, B') ∧ d = .bl true by
    obtain ⟨d, B', e, rfl⟩ := h; exact ⟨B', e⟩
  refine denB_ok rfl ?_
  refine okS_step fun K hK hR => ?_
  simp
  refine hK _ ?_
  clear hK hR
  refine okS_step fun K hK hR => ?_
  simp
  refine okS_for (fun i δ => ∃ d x, δ = [some (.lst B), some d, x, none, none, none, none, none, none, none, none] ∧ Gd i (1000 + 20 * i) 1 d) (n := 0) ⟨.int 7, none, rfl, ⟨rfl, by decide, by simp [PD.wt], by decide⟩⟩ ?_ ?_
  · rintro i d δ hi ⟨p, x, rfl, hp⟩
    refine ⟨_, rfl, ?_⟩
    simp
    refine ⟨sz (by omega), ?_, ?_, ?_, ?_⟩
    · simpa [PD.pl, pls] using hp.pl
    · have := hp.dp; simp [dpt, dpts]; omega
    · have := hp.wt; simp [PD.wt, wts]; omega
    · have := hp.wd; simp [wid, wids]; omega
  rintro δ ⟨deep, x, rfl, hp⟩
  have hdeep : Ok deep := hp.mono (by simp [rng]) (by simp [rng]) (by simp)
  refine hK _ ?_
  clear hK hR hp
  refine okS_step fun K hK hR => ?_
  obtain ⟨hs, eh, hh, hhl⟩ := hand_eq
  simp [vcall0, eh]
  refine ⟨sz (by omega), ?_⟩
  rw [dCat, if_pos (sz (by simp; omega))]
  simp
  refine hK _ ?_
  clear hK hR
  have hM : ∀ x ∈ hs ++ [deep], Ok x := by
    intro x hx
    rcases List.mem_append.1 hx with hx | hx
    · exact (hh x hx).mono (by omega) (by omega) (by omega)
    · rw [List.mem_singleton.1 hx]; exact hdeep
  have hMl : (hs ++ [deep]).length ≤ 201 := by simp; omega
  generalize hs ++ [deep] = M0 at hM hMl ⊢
  refine okS_step fun K hK hR => ?_
  simp
  refine okS_for (fun i δ => ∃ B M x2 x4 x5 x6 x7 x8, δ = [some (.lst B), some deep, x2, some (.lst M), x4, x5, x6, x7, x8, none, none] ∧ (∀ x ∈ M, Ok x) ∧ M.length ≤ 201 + 7 * i ∧ Box (2000 * i) B) (n := 0) ⟨B, M0, x, none, none, none, none, none, rfl, hM, hMl, hB⟩ ?_ ?_
  · clear hK hR hM hMl hB
    rintro i d δ hi ⟨B, M, x2, x4, x5, x6, x7, x8, rfl, hM, hMl, hB⟩
    have hi2 := lt_of_get hi
    rw [show (rng 0 (5 : Int)).length = 5 from rfl] at hi2
    rw [Nat.zero_add] at *
    refine ⟨_, rfl, ?_⟩
    refine okS_step fun K hK hR => ?_
    simp
    refine okO_take hB (by omega) (by omega) (by omega) fun w B1 w0 w1 hB1 => ?_
    obtain ⟨w, rfl⟩ := Int.eq_ofNat_of_zero_le w0
    simp
    refine hK _ ?_
    clear hK hR
    refine okS_step fun K hK hR => ?_
    simp
    refine okO_take hB1 (by omega) (by omega) (by omega) fun m B2 m0 m1 hB2 => ?_
    obtain ⟨m, rfl⟩ := Int.eq_ofNat_of_zero_le m0
    simp
    obtain ⟨d, B3, e3, S, R, rfl, hSl, hRl, hS, hR', hB3⟩ := drawn_ok (w := 1 + w) (m := 1 + m) (k := 2) hB2 (by omega) (by omega) (by omega) (by omega)
    rw [show d__law_drawn_net B2 [.int (1 + (w : Int)), .int (1 + (m : Int)), .int 2] = _ by simpa using e3]
    simp
    refine hK _ ?_
    clear hK hR
    obtain ⟨gS, gR⟩ := net_gd hS hR' (by omega) (by omega)
    refine okS_step fun K hK hR => ?_
    simp [dRev]
    have g2 : ∀ {a b : D}, Gd 3 37000 9 a → Gd 3 37000 9 b → Gd 4 80000 9 (.tup [a, b]) := by
      intro a b ha hb
      obtain ⟨f1, f2, f3⟩ := tup_facts (xs := [a, b]) (ys := [a, b]) (p := 3) (q := 9) (fun y hy => by
        simp at hy
        rcases hy with rfl | rfl
        · exact ⟨ha.pl, ha.dp, ha.wd⟩
        · exact ⟨hb.pl, hb.dp, hb.wd⟩) (by simp)
      refine ⟨f1, f2, ?_, f3⟩
      have := ha.wt
      have := hb.wt
      simp only [PD.wt, wts]; omega
    have gS3 : Gd 3 37000 9 (.tup S) := gS.mono (by omega) (by omega) (by omega)
    have gN := g2 gS3 gR
    have gR2 : Gd 3 37000 9 (.tup R.reverse) := (net_gd (S := []) (R := R.reverse) (by simp) (fun f hf => hR' f (by simpa using hf)) (by simp) (by simp; omega)).2
    have gRv := (net_gd (S := []) (R := R.take 1) (by simp) (fun f hf => hR' f (List.mem_of_mem_take hf)) (by simp) (by simp; omega)).2
    generalize hNe : D.tup [D.tup S, D.tup R] = N at gN
    have eL := lists_eq 30 (x := N) (by have := gN.dp; omega) gN.pl (by have := gN.wd; omega)
    rw [eL]; simp [← hNe, dRev]
    refine ⟨sz (by omega), sz (by omega), sz (by omega), hK _ ?_⟩
    clear hK hR
    simp only [hNe]
    have gL : Ok (toL N) := by
      obtain ⟨l1, l2, l3, l4⟩ := toL_all N
      exact ⟨by rw [l1]; exact gN.pl, by rw [l2]; have := gN.dp; omega, by rw [l3]; have := gN.wt; omega, by rw [l4]; have := gN.wd; omega⟩
    have hM2 : ∀ x ∈ M ++ [N, toL N, D.tup [D.tup R, D.tup S], D.tup [D.tup S, D.tup R.reverse]], Ok x := by
      intro x hx
      rcases List.mem_append.1 hx with hx | hx
      · exact hM x hx
      · simp at hx
        rcases hx with rfl | rfl | rfl | rfl
        · exact gN.mono (by omega) (by omega) (by omega)
        · exact gL
        · exact (g2 gR gS3).mono (by omega) (by omega) (by omega)
        · exact (g2 gS3 gR2).mono (by omega) (by omega) (by omega)
    have hM2l : (M ++ [N, toL N, D.tup [D.tup R, D.tup S], D.tup [D.tup S, D.tup R.reverse]]).length ≤ 201 + 7 * i + 4 := by simp; omega
    generalize M ++ [N, toL N, D.tup [D.tup R, D.tup S], D.tup [D.tup S, D.tup R.reverse]] = M2 at hM2 hM2l ⊢
    refine okS_step fun K hK hR => ?_
    subst hNe
    have ec : cutD R none (some 1) = R.take 1 := cut_take (k := 1)
    simp [dSl, ec]
    refine ⟨sz (by omega), sz (by omega), sz (by omega), sz (by omega), hK _ ?_⟩
    clear hK hR
    have hmore : ∀ x ∈ [D.tup [.str "a", .int 3], .tup (R.take 1), .tup [.str "p", .tup [.str "a"], .int 1, .int 0, .non]], Gd 10 60000 60 x := by
      intro x hx
      simp at hx
      rcases hx with rfl | rfl | rfl
      · exact gd_of (by decide +kernel)
      · exact gRv.mono (by omega) (by omega) (by omega)
      · exact gd_of (by decide +kernel)
    have hmorel : [D.tup [.str "a", .int 3], .tup (R.take 1), .tup [.str "p", .tup [.str "a"], .int 1, .int 0, .non]].length ≤ 10 := by simp
    generalize [D.tup [.str "a", .int 3], .tup (R.take 1), .tup [.str "p", .tup [.str "a"], .int 1, .int 0, .non]] = more at hmore hmorel ⊢
    generalize D.tup [D.tup S, D.tup R] = N at gN ⊢
    simp
    refine okS_for (fun j δ => ∃ B M p x8, δ = [some (.lst B), some deep, some d, some (.lst M), some (.int (1 + (w : Int))), some N, some p, some (.lst more), x8, none, none] ∧ (∀ x ∈ M, Ok x) ∧ M.length ≤ 201 + 7 * i + 4 + j ∧ Box (2000 * i + 1002 + 100 * j) B ∧ Gd (4 + 11 * j) (200000 * 2 ^ j * 2 ^ j) (9 + 60 * j) p) (n := 0) ⟨B3, M2, N, x8, rfl, hM2, hM2l, hB3.mono (by omega), gN.mono (by omega) (by omega) (by omega)⟩ ?_ ?_
    · rintro j e δ hj ⟨B, M, p, x8, rfl, hM, hMl, hB, hp⟩
      have hj2 := lt_of_get hj
      rw [show (rng 0 (3 : Int)).length = 3 from rfl] at hj2
      rw [Nat.zero_add] at *
      refine ⟨_, rfl, ?_⟩
      refine okS_step fun K hK hR => ?_
      simp
      have hpw : PD.wt p ≤ 3200000 := by
        have := hp.wt
        have h3 : j = 0 ∨ j = 1 ∨ j = 2 := by omega
        rcases h3 with rfl | rfl | rfl <;> omega
      obtain ⟨q, B', e3, hq, hB'⟩ := bent_ok 30 (p := p) (more := more) (by have := hp.dp; omega) hp.pl (by have := hp.dp; omega) (by have := hp.wd; omega) (by omega) hmore hmorel hB (by omega)
      rw [e3]; simp
      refine hK _ ?_
      clear hK hR
      have hqw : PD.wt q ≤ 200000 * 2 ^ (j + 1) * 2 ^ (j + 1) := by
        have h1 := hq.wt
        have h2 := hp.wt
        have h3 : j = 0 ∨ j = 1 ∨ j = 2 := by omega
        rcases h3 with rfl | rfl | rfl <;> omega
      have gq : Gd (4 + 11 * (j + 1)) (200000 * 2 ^ (j + 1) * 2 ^ (j + 1)) (9 + 60 * (j + 1)) q := ⟨hq.pl, by have := hq.dp; have := hp.dp; omega, hqw, by have := hq.wd; have := hp.wd; omega⟩
      have gqo : Ok q := by
        refine ⟨hq.pl, by have := gq.dp; omega, ?_, by have := gq.wd; omega⟩
        have := hq.wt; omega
      simp
      refine ⟨Nat.lt_of_lt_of_le (show M.length < 1000 by omega) (sz (by omega)), B', M ++ [q], q, ⟨rfl, rfl, rfl⟩, ?_, ?_, hB'.mono (by omega), gq⟩
      · intro x hx
        rcases List.mem_append.1 hx with hx | hx
        · exact hM x hx
        · rw [List.mem_singleton.1 hx]; exact gqo
      · simp; omega
    · rintro δ ⟨B, M, p, x8, rfl, hM, hMl, hB, hp⟩
      rw [show (rng 0 (3 : Int)).length = 3 from rfl] at hMl hB
      first | exact ⟨B, M, ⟨_, _, _, _, _, _, rfl⟩, hM, by omega, hB.mono (by omega)⟩ | exact ⟨B, M, _, _, _, _, _, _, rfl, hM, by omega, hB.mono (by omega)⟩
  · rintro δ ⟨B, M, x2, x4, x5, x6, x7, x8, rfl, hM, hMl, hB⟩
    refine hK _ ?_
    clear hK hR
    simp
    refine okS_for (fun i δ => ∃ x6 x9 x10, δ = [some (.lst B), some deep, x2, some (.lst M), x4, x5, x6, x7, x8, x9, x10]) (n := 0) ⟨x6, none, none, rfl⟩ ?_ ?_
    · rintro i p δ hi ⟨x6, x9, x10, rfl⟩
      have hp := hM p (List.mem_of_getElem? hi)
      refine ⟨_, rfl, ?_⟩
      obtain ⟨s, e1, e2⟩ := dRepr_same hp.pl (by have := hp.dp; omega) (by have := hp.wt; omega)
      have n1 := is_net_eq hp.pl (by have := hp.wd; omega) hp.dp
      have n2 := is_whole_eq hp.pl (by have := hp.wd; omega) hp.dp
      simp [e1, e2, n1, n2, pick, same_bl, sz (show 2 ≤ 16777216 by omega)]
    · rintro δ ⟨x6, x9, x10, rfl⟩
      simp
theorem k_main : ∀ ns : List Int, ns.length ≤ 63 → d_law [.scr (ns.map D.int)] = some (.ok (.bl true)) := fun ns hl => law_ok (fun B hB => right_ok hB) hl
end Lw
end
set_option maxRecDepth 100000 in
set_option maxHeartbeats 8000000 in
theorem PySem.Challenge.cw_leastshare_k10_nets_or_none_holds : PySem.Challenge.rw_leastshare_k10_nets_or_none.Holds := by
  exact Lw.law_holds Lw.k_main
