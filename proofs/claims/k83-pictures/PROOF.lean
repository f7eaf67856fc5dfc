import PyProof.Rows.All
import HandS.ForMost
import HandS.ForExc
import HandS.Deep
import HandS.Wide
import HandS.Flow
import HandS.ExcIs
import KE.GoesEnum
import HandS.TupAny
import HandS.TupMul
import HandS.IsInst
import HandS.DeepEq
import KE.SortData
import HandS.Text
import HandS.Style
import HandS.DictComp
import HandS.More
import KE.OsSort
import HandS.SetFor
import HandS.Strs
import HandS.Conv
import HandS.Dict
import HandS.Star
import HandS.TryMany
import HandS.RaiseMore
import PySem.Challenge.RW_linewitness_k83_orders_and_pictures
set_option Elab.async false
set_option linter.all false
set_option maxRecDepth 100000
set_option autoImplicit false
/-! Dl1: deep data over the hand layer: what a value is (Dv), slots (Sl), results (Rs), the state's likeness (Rep). -/
namespace DL
open PySem PySem.Spec L2
open PyProof.Rows hiding St

abbrev D := PyData

def keyD : Key → D
  | .inl i => .int i
  | .inr s => .str s

mutual
inductive Dv (K : PySem.W.Frag) (F : Hp) : V → D → Prop
  | non : Dv K F .non .none
  | bl (b : Bool) : Dv K F (.bl b) (.bool b)
  | int (i : Int) : Dv K F (.int i) (.int i)
  | str (x : Str) : Dv K F (.str x) (.str x)
  | lst {a : Addr} {xs : List V} {ds : List D} : F a = some (.lst xs) → DvAll K F xs ds → Dv K F (.ref a) (.list ds)
  | scr {a : Addr} {ns : List Int} : SqL K F a (ns.map V.int) → Dv K F (.ref a) (.dict [(.none, .list (ns.map PyData.int))])
  | tup {a : Addr} {xs : List V} {ds : List D} : SqT K F a xs → DvAll K F xs ds → Dv K F (.ref a) (.tuple ds)
  | dct {a : Addr} {kvs : List (Key × V)} {ds : List D} : F a = some (.dK kvs) → DvAll K F (kvs.map (·.2)) ds → Dv K F (.ref a) (.dict ((kvs.map fun p => keyD p.1).zip ds))
  | dctT {a : Addr} {kvs : List (List Key × V)} {ds : List D} : F a = some (.dT kvs) → DvAll K F (kvs.map (·.2)) ds → Dv K F (.ref a) (.dict ((.none, .bool true) :: (kvs.map fun p => PyData.tuple (p.1.map keyD)).zip ds))
inductive DvAll (K : PySem.W.Frag) (F : Hp) : List V → List D → Prop
  | nil : DvAll K F [] []
  | cons {v : V} {vs : List V} {d : D} {ds : List D} : Dv K F v d → DvAll K F vs ds → DvAll K F (v :: vs) (d :: ds)
end

section
variable {K : PySem.W.Frag} {F F' H : Hp}
theorem sqL_mono {a : Addr} {xs : List V} (h : Same F F') (q : SqL K F a xs) : SqL K F' a xs := h.seq q
theorem sqT_mono {a : Addr} {xs : List V} (h : Same F F') (q : SqT K F a xs) : SqT K F' a xs := by
  rcases q with (q | ⟨o, q⟩) | q
  · exact .inl (.inl (h _ _ q))
  · exact .inl (.inr ⟨o, h _ _ q⟩)
  · exact .inr q
mutual
theorem Dv.mono (h : Same F F') : ∀ {v : V} {d : D}, Dv K F v d → Dv K F' v d
  | _, _, .non => .non
  | _, _, .bl b => .bl b
  | _, _, .int i => .int i
  | _, _, .str x => .str x
  | _, _, .lst q a => .lst (h _ _ q) (DvAll.mono h a)
  | _, _, .scr q => .scr (sqL_mono h q)
  | _, _, .tup q a => .tup (sqT_mono h q) (DvAll.mono h a)
  | _, _, .dct q a => .dct (h _ _ q) (DvAll.mono h a)
  | _, _, .dctT q a => .dctT (h _ _ q) (DvAll.mono h a)
theorem DvAll.mono (h : Same F F') : ∀ {vs : List V} {ds : List D}, DvAll K F vs ds → DvAll K F' vs ds
  | _, _, .nil => .nil
  | _, _, .cons a b => .cons (Dv.mono h a) (DvAll.mono h b)
end
theorem DvAll.length : ∀ {vs : List V} {ds : List D}, DvAll K F vs ds → vs.length = ds.length
  | _, _, .nil => rfl
  | _, _, .cons _ b => congrArg (· + 1) (DvAll.length b)
theorem DvAll.get : ∀ {vs : List V} {ds : List D}, DvAll K F vs ds → ∀ {i : Nat} {d : D}, ds[i]? = some d → ∃ v, vs[i]? = some v ∧ Dv K F v d
  | _, _, .nil, i, d, h => by simp at h
  | _, _, .cons a b, 0, d, h => by simp at h; subst h; exact ⟨_, rfl, a⟩
  | _, _, .cons a b, i + 1, d, h => by
    obtain ⟨v, e, q⟩ := DvAll.get b (i := i) (d := d) (by simpa using h)
    exact ⟨v, by simpa using e, q⟩
theorem DvAll.getV : ∀ {vs : List V} {ds : List D}, DvAll K F vs ds → ∀ {i : Nat} {v : V}, vs[i]? = some v → ∃ d, ds[i]? = some d ∧ Dv K F v d
  | _, _, .nil, i, d, h => by simp at h
  | _, _, .cons a b, 0, d, h => by simp at h; subst h; exact ⟨_, rfl, a⟩
  | _, _, .cons a b, i + 1, d, h => by
    obtain ⟨v, e, q⟩ := DvAll.getV b (i := i) (v := d) (by simpa using h)
    exact ⟨v, by simpa using e, q⟩
theorem DvAll.append : ∀ {vs ws : List V} {ds es : List D}, DvAll K F vs ds → DvAll K F ws es → DvAll K F (vs ++ ws) (ds ++ es)
  | _, _, _, _, .nil, h => h
  | _, _, _, _, .cons a b, h => .cons a (DvAll.append b h)
theorem DvAll.take (n : Nat) : ∀ {vs : List V} {ds : List D}, DvAll K F vs ds → DvAll K F (vs.take n) (ds.take n) := by
  induction n with
  | zero => intro vs ds _; exact .nil
  | succ n ih =>
    intro vs ds h
    cases h with
    | nil => exact .nil
    | cons a b => exact .cons a (ih b)
theorem DvAll.drop (n : Nat) : ∀ {vs : List V} {ds : List D}, DvAll K F vs ds → DvAll K F (vs.drop n) (ds.drop n) := by
  induction n with
  | zero => intro vs ds h; exact h
  | succ n ih =>
    intro vs ds h
    cases h with
    | nil => exact .nil
    | cons a b => exact ih b
theorem DvAll.set {v : V} {d : D} (q : Dv K F v d) : ∀ {vs : List V} {ds : List D} (i : Nat), DvAll K F vs ds → DvAll K F (vs.set i v) (ds.set i d)
  | _, _, _, .nil => .nil
  | _, _, 0, .cons a b => .cons q b
  | _, _, i + 1, .cons a b => .cons a (DvAll.set q i b)
theorem DvAll.eraseIdx : ∀ {vs : List V} {ds : List D} (i : Nat), DvAll K F vs ds → DvAll K F (vs.eraseIdx i) (ds.eraseIdx i)
  | _, _, _, .nil => .nil
  | _, _, 0, .cons a b => b
  | _, _, i + 1, .cons a b => .cons a (DvAll.eraseIdx i b)
/-- the script -/
theorem dv_scr {v : V} {ds : List D} (h : Dv K F v (.dict [(.none, .list ds)])) : ∃ (a : Addr) (ns : List Int), v = .ref a ∧ ds = ns.map PyData.int ∧ SqL K F a (ns.map V.int) := by
  generalize e : PyData.dict [(.none, .list ds)] = d at h
  cases h <;> first | (cases e; done) | skip
  · rename_i a ns q
    injection e with e
    injection e with e _
    injection e with _ e
    injection e with e
    exact ⟨a, ns, rfl, e, q⟩
  · rename_i a kvs es q _
    cases kvs with
    | nil => cases e
    | cons p r =>
      cases es with
      | nil => cases e
      | cons d es =>
        injection e with e
        injection e with e _
        injection e with e _
        obtain ⟨k, v⟩ := p
        cases k <;> cases e
theorem DvAll.one {v : V} {d : D} (h : Dv K F v d) : DvAll K F [v] [d] := .cons h .nil
theorem DvAll.ints : ∀ ns : List Int, DvAll K F (ns.map V.int) (ns.map PyData.int)
  | [] => .nil
  | n :: r => .cons (.int n) (DvAll.ints r)
end

/-! ### what stands at a slot; results -/
inductive Sl where
  | un
  | val (d : D)
  | own (fix : Bool) (d : D)
  | ali (j : Nat)
  | xs
abbrev En := List Sl
/-- an expression's result: data, or the owned thing of a slot -/
inductive Rv where
  | d (x : D)
  | s (i : Nat)
/-- a raised error: its class's name, its fields -/
structure Ex where
  cls : Str
  fs : List (Str × D)
inductive Rs (α : Type) where
  | ok (en : En) (a : α)
  | ex (en : En) (x : Ex)
  | no
def Rs.bind {α β : Type} (r : Rs α) (k : En → α → Rs β) : Rs β := match r with
  | .ok en a => k en a
  | .ex en x => .ex en x
  | .no => .no
abbrev Ev := En → Rs Rv
abbrev Tv := En → Rs Bool
abbrev Av := En → Rs (List Rv)
def slD (en : En) (i : Nat) : Option D := match en[i]? with
  | some (.own _ d) => some d
  | _ => none
def res (en : En) : Rv → Option D
  | .d x => some x
  | .s i => slD en i

/-! ### ghosts, likeness -/
structure Gh where
  F0 : Hp
  H0 : Hp
  Ps : List Addr
  Pl : List (Nat × Addr)
  Rw : List (Nat × Addr) := []

/-- an owned thing at p -/
inductive OwnAt (K : PySem.W.Frag) (F H : Hp) (p : Addr) : D → Prop
  | lst {vs : List V} {ds : List D} : H p = some (.lst vs) → DvAll K F vs ds → OwnAt K F H p (.list ds)
  | dct {kvs : List (Key × V)} {ds : List D} : H p = some (.dK kvs) → DvAll K F (kvs.map (·.2)) ds → OwnAt K F H p (.dict ((kvs.map fun p => keyD p.1).zip ds))
  | dctT {kvs : List (List Key × V)} {ds : List D} : H p = some (.dT kvs) → DvAll K F (kvs.map (·.2)) ds → OwnAt K F H p (.dict ((.none, .bool true) :: (kvs.map fun p => PyData.tuple (p.1.map keyD)).zip ds))
theorem OwnAt.ne {K : PySem.W.Frag} {F H : Hp} {p : Addr} {d : D} (h : OwnAt K F H p d) : H p ≠ none := by
  cases h with
  | lst e _ => rw [e]; exact fun z => by cases z
  | dct e _ => rw [e]; exact fun z => by cases z
  | dctT e _ => rw [e]; exact fun z => by cases z
theorem OwnAt.to {K : PySem.W.Frag} {F F' H H' : Hp} {p : Addr} {d : D} (h : OwnAt K F H p d) (e : H' p = H p) (s : Same F F') : OwnAt K F' H' p d := by
  cases h with
  | lst q a => exact .lst (e.trans q) (a.mono s)
  | dct q a => exact .dct (e.trans q) (a.mono s)
  | dctT q a => exact .dctT (e.trans q) (a.mono s)

structure Rep (K : PySem.W.Frag) (g : Gh) (F : Hp) (en : En) (σ : St) (H : Hp) : Prop where
  fz : Same F H
  fr : ∀ a o, g.H0 a = some o → a ∉ g.Ps → H a = some o
  al : ∀ p, p ∈ g.Ps → H p ≠ none
  nw : ∀ a, g.F0 a = none → g.H0 a ≠ none → a ∉ g.Ps → F a = none
  len : en.length = σ.length
  val : ∀ (i : Nat) (d : D), en[i]? = some (.val d) → ∃ v, σ[i]? = some (some v) ∧ Dv K F v d
  own : ∀ (i : Nat) (b : Bool) (d : D), en[i]? = some (.own b d) → ∃ p, σ[i]? = some (some (.ref p)) ∧ OwnAt K F H p d ∧ F p = none ∧ (p ∈ g.Ps ∨ g.H0 p = none)
  ali : ∀ (i j : Nat), en[i]? = some (.ali j) → σ[i]? = σ[j]? ∧ ∃ b d, en[j]? = some (.own b d)
  sep : ∀ (i j : Nat) (b c : Bool) (d e : D), i ≠ j → en[i]? = some (.own b d) → en[j]? = some (.own c e) → σ[i]? ≠ σ[j]?
  pl : ∀ (i : Nat) (p : Addr), (i, p) ∈ g.Pl → σ[i]? = some (some (.ref p)) ∧ ∃ d, en[i]? = some (.own true d)
  rw : ∀ (i : Nat) (a : Addr), (i, a) ∈ g.Rw → σ[i]? = some (some (.ref a)) ∧ en[i]? = some .xs

/-- the heap grows, and what is frozen anew is new -/
structure Ext (F H F' H' : Hp) : Prop where
  same : Same H H'
  le : Same F F'
  sub : Same F' H'
  new : ∀ a, F a = none → H a ≠ none → F' a = none
theorem Ext.refl {F H : Hp} (s : Same F H) : Ext F H F H := ⟨Same.refl _, Same.refl _, s, fun _ h _ => h⟩
theorem Ext.put {F H : Hp} (s : Same F H) {p : Addr} (hp : H p = none) (o : HO) : Ext F H (upd F p o) (upd H p o) := by
  have hF : F p = none := s.free hp
  refine ⟨same_updN hp, same_updN hF, fun a u e => ?_, fun a e1 e2 => ?_⟩
  · by_cases h : a = p
    · subst h; rw [upd_same] at e ⊢; exact e
    · rw [upd_ne h] at e ⊢; exact s _ _ e
  · by_cases h : a = p
    · subst h; exact absurd hp e2
    · rw [upd_ne h]; exact e1
where
  same_updN {H : Hp} {p : Addr} {o : HO} (h : H p = none) : Same H (upd H p o) := fun b x e => by
    rw [upd_ne (ne_of_none e h)]
    exact e
theorem Ext.trans {F H F1 H1 F2 H2 : Hp} (a : Ext F H F1 H1) (b : Ext F1 H1 F2 H2) : Ext F H F2 H2 :=
  ⟨a.same.trans b.same, a.le.trans b.le, b.sub, fun x e1 e2 => b.new x (a.new x e1 e2) (by
    cases q : H x with
    | none => exact absurd q e2
    | some o => rw [a.same _ _ q]; exact fun z => by cases z)⟩

theorem Ext.alive {F H F' H' : Hp} (x : Ext F H F' H') {p : Addr} (h : H p ≠ none) : H' p ≠ none := by
  cases q : H p with
  | none => exact absurd q h
  | some o => rw [x.same _ _ q]; exact fun z => by cases z
section
variable {K : PySem.W.Frag} {g : Gh} {F F' H H' : Hp} {en : En} {σ : St}
theorem Rep.ext (r : Rep K g F en σ H) (x : Ext F H F' H') : Rep K g F' en σ H' := by
  refine ⟨x.sub, fun a o e n => x.same _ _ (r.fr a o e n), fun p hp => x.alive (r.al p hp), fun a e0 e1 n => x.new a (r.nw a e0 e1 n) (by
    cases q : g.H0 a with
    | none => exact absurd q e1
    | some o => rw [r.fr a o q n]; exact fun z => by cases z), r.len, fun i d e => ?_, fun i b d e => ?_, r.ali, r.sep, r.pl, r.rw⟩
  · obtain ⟨v, e1, q⟩ := r.val i d e
    exact ⟨v, e1, q.mono x.le⟩
  · obtain ⟨p, e1, q, n, z⟩ := r.own i b d e
    refine ⟨p, e1, q.to ?_ x.le, x.new p n q.ne, z⟩
    cases h : H p with
    | none => exact absurd h q.ne
    | some o => exact x.same _ _ h
end

/-! ### how a result ends -/
abbrev XW := St → Hp → Hp → En → Ex → Prop
/-- the result's ways, at slots σ: from F on -/
def Fin (K : PySem.W.Frag) (g : Gh) (W : XW) (σ : St) (F : Hp) {α : Type} (r : Rs α) (P : Hp → Hp → En → α → Prop) : Prop := match r with
  | .ok en a => ∀ F' H', Same F F' → Rep K g F' en σ H' → P F' H' en a
  | .ex en x => ∀ F' H', Same F F' → Rep K g F' en σ H' → W σ F' H' en x
  | .no => False
section
variable {K : PySem.W.Frag} {g : Gh} {W : XW} {σ : St} {F F' : Hp} {α β : Type} {P P' : Hp → Hp → En → α → Prop}
theorem Fin.weak {r : Rs α} (s : Same F F') (h : Fin K g W σ F r P) : Fin K g W σ F' r P := by
  cases r with
  | ok en a => exact fun F2 H2 s2 => h F2 H2 (s.trans s2)
  | ex en a => exact fun F2 H2 s2 => h F2 H2 (s.trans s2)
  | no => exact h
theorem Fin.mono {r : Rs α} (h : Fin K g W σ F r P) (q : ∀ F' H' en a, Same F F' → Rep K g F' en σ H' → P F' H' en a → P' F' H' en a) : Fin K g W σ F r P' := by
  cases r with
  | ok en a => exact fun F2 H2 s2 r2 => q F2 H2 en a s2 r2 (h F2 H2 s2 r2)
  | ex en a => exact h
  | no => exact h
/-- in parts -/
theorem Fin.seq {r : Rs α} {k : En → α → Rs β} {P : Hp → Hp → En → β → Prop} (h : Fin K g W σ F (r.bind k) P) : Fin K g W σ F r fun F' _ en a => Fin K g W σ F' (k en a) P := by
  cases r with
  | ok en a => exact fun F2 H2 s2 r2 => Fin.weak s2 h
  | ex en a => exact h
  | no => exact h
end

/-- a value that an expression has -/
def RvOk (K : PySem.W.Frag) (F : Hp) (σ : St) (v : V) : Rv → Prop
  | .d x => Dv K F v x
  | .s i => σ[i]? = some (some v)
theorem RvOk.mono {K : PySem.W.Frag} {F F' : Hp} {σ : St} {v : V} {r : Rv} (s : Same F F') (h : RvOk K F σ v r) : RvOk K F' σ v r := by
  cases r with
  | d x => exact Dv.mono s h
  | s i => exact h
def RvAll (K : PySem.W.Frag) (F : Hp) (σ : St) : List V → List Rv → Prop
  | [], [] => True
  | v :: vs, r :: rs => RvOk K F σ v r ∧ RvAll K F σ vs rs
  | _, _ => False
theorem RvAll.mono {K : PySem.W.Frag} {F F' : Hp} {σ : St} (s : Same F F') : ∀ {vs : List V} {rs : List Rv}, RvAll K F σ vs rs → RvAll K F' σ vs rs
  | [], [], _ => trivial
  | v :: vs, r :: rs, h => ⟨RvOk.mono s h.1, RvAll.mono s h.2⟩

/-! ### the judgements -/
def liftE (K : PySem.W.Frag) (g : Gh) (W : XW) (f : Ev) : TE := fun σ H Q => ∃ F en, Rep K g F en σ H ∧ Fin K g W σ F (f en) fun F' H' _ r => ∀ v, RvOk K F' σ v r → Q v H'
def liftT (K : PySem.W.Frag) (g : Gh) (W : XW) (f : Tv) : TT := fun σ H Q => ∃ F en, Rep K g F en σ H ∧ Fin K g W σ F (f en) fun _ H' _ b => Q b H'
def liftA (K : PySem.W.Frag) (g : Gh) (W : XW) (f : Av) : TA := fun σ H Q => ∃ F en, Rep K g F en σ H ∧ Fin K g W σ F (f en) fun F' H' _ rs => ∀ vs, RvAll K F' σ vs rs → Q vs H'
/-- e means f -/
def DE (X : Cx) (g : Gh) (W : XW) (e : Expr) (f : Ev) : Prop := PE X e (liftE X.K g W f)
def DT (X : Cx) (g : Gh) (W : XW) (e : Expr) (f : Tv) : Prop := PT X e (liftT X.K g W f)
def DA (X : Cx) (g : Gh) (W : XW) (es : List Expr) (f : Av) : Prop := PA X es (liftA X.K g W f)
theorem PE.imp {X : Cx} {e : Expr} {t t' : TE} (h : PE X e t) (i : ∀ σ H Q, t' σ H Q → t σ H Q) : PE X e t' := ⟨fun pins s σ H Q I q => h.run pins s σ H Q I (i σ H Q q)⟩
theorem PT.imp {X : Cx} {e : Expr} {t t' : TT} (h : PT X e t) (i : ∀ σ H Q, t' σ H Q → t σ H Q) : PT X e t' := ⟨fun pins s σ H Q I q => h.run pins s σ H Q I (i σ H Q q)⟩
theorem PA.imp {X : Cx} {es : List Expr} {t t' : TA} (h : PA X es t) (i : ∀ σ H Q, t' σ H Q → t σ H Q) : PA X es t' := ⟨fun pos pins s σ H Q I q => h.run pos pins s σ H Q I (i σ H Q q)⟩
theorem PS.imp {X : Cx} {st : Stmt} {t t' : TS} (h : PS X st t) (i : ∀ D σ H, t' D σ H → t D σ H) : PS X st t' := ⟨fun pins s σ H D I q => h.run pins s σ H D I (i D σ H q)⟩
theorem PSs.imp {X : Cx} {st : List Stmt} {t t' : TS} (h : PSs X st t) (i : ∀ D σ H, t' D σ H → t D σ H) : PSs X st t' := ⟨fun pins s σ H D I q => h.run pins s σ H D I (i D σ H q)⟩
end DL
/-! Dl2: expressions by their parts. -/
namespace DL
open PySem PySem.Spec L2
open PyProof.Rows hiding St

/-! ### views -/
inductive Vw (K : PySem.W.Frag) (F H : Hp) : V → D → Prop
  | fz {v : V} {d : D} : Dv K F v d → Vw K F H v d
  | own {p : Addr} {d : D} : OwnAt K F H p d → F p = none → Vw K F H (.ref p) d
inductive VwAll (K : PySem.W.Frag) (F H : Hp) : List V → List D → Prop
  | nil : VwAll K F H [] []
  | cons {v : V} {vs : List V} {d : D} {ds : List D} : Vw K F H v d → VwAll K F H vs ds → VwAll K F H (v :: vs) (d :: ds)
section
variable {K : PySem.W.Frag} {g : Gh} {W : XW} {σ : St} {F F' H H' : Hp} {en : En}
theorem Rep.view (r : Rep K g F en σ H) {v : V} {x : Rv} {d : D} (h : RvOk K F σ v x) (e : res en x = some d) : Vw K F H v d := by
  cases x with
  | d y =>
    have e' : y = d := Option.some.inj e
    subst e'
    exact .fz h
  | s i =>
    have e' : slD en i = some d := e
    unfold slD at e'
    split at e'
    · rename_i _ d' q
      have := Option.some.inj e'
      subst this
      obtain ⟨p, e1, e2, e3, _⟩ := r.own i _ _ q
      have h' : σ[i]? = some (some v) := h
      rw [h'] at e1
      have := Option.some.inj (Option.some.inj e1)
      subst this
      exact .own e2 e3
    · cases e'
end

def resAll (en : En) : List Rv → Option (List D)
  | [] => some []
  | r :: rs => match res en r, resAll en rs with
    | some d, some ds => some (d :: ds)
    | _, _ => none
theorem Rep.viewAll {K : PySem.W.Frag} {g : Gh} {σ : St} {F H : Hp} {en : En} (r : Rep K g F en σ H) : ∀ {vs : List V} {xs : List Rv} {ds : List D}, RvAll K F σ vs xs → resAll en xs = some ds → VwAll K F H vs ds
  | [], [], ds, _, e => by
    have : [] = ds := Option.some.inj e
    subst this
    exact .nil
  | v :: vs, x :: xs, ds, h, e => by
    unfold resAll at e
    split at e
    · rename_i d1 ds1 e1 e2
      have := Option.some.inj e
      subst this
      exact .cons (r.view h.1 e1) (Rep.viewAll r h.2 e2)
    · cases e

/-! ### meanings -/
def dVar (i : Nat) : Ev := fun en => match en[i]? with
  | some (.val d) => .ok en (.d d)
  | some (.own _ _) => .ok en (.s i)
  | some (.ali j) => .ok en (.s j)
  | _ => .no
def dC (d : D) : Ev := fun en => .ok en (.d d)
def op1 (sem : D → Option D) (en : En) (x : Rv) : Rs Rv := match res en x with
  | some d => (match sem d with
    | some r => .ok en (.d r)
    | none => .no)
  | none => .no
def op2 (sem : D → D → Option D) (en : En) (x y : Rv) : Rs Rv := match res en x with
  | some d => (match res en y with
    | some e => (match sem d e with
      | some r => .ok en (.d r)
      | none => .no)
    | none => .no)
  | none => .no
def opB (sem : D → Option Bool) (en : En) (x : Rv) : Rs Bool := match res en x with
  | some d => (match sem d with
    | some r => .ok en r
    | none => .no)
  | none => .no
def opN (sem : List D → Option D) (en : En) (xs : List Rv) : Rs Rv := match resAll en xs with
  | some ds => (match sem ds with
    | some r => .ok en (.d r)
    | none => .no)
  | none => .no
def dOp (sem : D → D → Option D) (a b : Ev) : Ev := fun en => (a en).bind fun en1 x => (b en1).bind fun en2 y => op2 sem en2 x y
def dUn (sem : D → Option D) (a : Ev) : Ev := fun en => (a en).bind fun en1 x => op1 sem en1 x
def aNil : Av := fun en => .ok en []
def aCons (a : Ev) (b : Av) : Av := fun en => (a en).bind fun en1 x => (b en1).bind fun en2 xs => .ok en2 (x :: xs)
/-- a built-in by values -/
def dCallB (sem : List D → Option D) (a : Av) : Ev := fun en => (a en).bind fun en1 xs => opN sem en1 xs
def toB : D → Option Bool
  | .bool b => some b
  | _ => none
/-- a value that is a bool, as a test -/
def tOf (a : Ev) : Tv := fun en => (a en).bind fun en1 x => opB toB en1 x
def dAnd (a b : Ev) : Ev := fun en => (a en).bind fun en1 x => (opB toB en1 x).bind fun _ k => if k = true then b en1 else .ok en1 (.d (.bool false))
def dOr (a b : Ev) : Ev := fun en => (a en).bind fun en1 x => (opB toB en1 x).bind fun _ k => if k = true then .ok en1 (.d (.bool true)) else b en1
def dNot (a : Ev) : Ev := fun en => (a en).bind fun en1 x => (opB toB en1 x).bind fun _ k => .ok en1 (.d (.bool (!k)))
def dIf (c : Tv) (a b : Ev) : Ev := fun en => (c en).bind fun en1 k => if k = true then a en1 else b en1
def tAndD (a b : Tv) : Tv := fun en => (a en).bind fun en1 k => if k = true then b en1 else .ok en1 false
def tOrD (a b : Tv) : Tv := fun en => (a en).bind fun en1 k => if k = true then .ok en1 true else b en1
def tNotD (a : Tv) : Tv := fun en => (a en).bind fun en1 k => .ok en1 (!k)
/-- a op b op' c, by values -/
def dChain (sem sem' : D → D → Option D) (a b c : Ev) : Ev := fun en => (a en).bind fun en1 x => (b en1).bind fun en2 y => (op2 sem en2 x y).bind fun _ z => (opB toB en2 z).bind fun _ k =>
  if k = true then (c en2).bind fun en3 w => op2 sem' en3 y w else .ok en2 (.d (.bool false))
def freeD (en : En) : List Rv → Option (List D)
  | [] => some []
  | .d x :: rs => match freeD en rs with
    | some ds => some (x :: ds)
    | none => none
  | .s _ :: _ => none
def dTup (a : Av) : Ev := fun en => (a en).bind fun en1 xs => match freeD en1 xs with
  | some ds => if ds.length ≤ sizeLine then .ok en1 (.d (.tuple ds)) else .no
  | none => .no
def dLst (a : Av) : Ev := fun en => (a en).bind fun en1 xs => match freeD en1 xs with
  | some ds => if ds.length ≤ sizeLine then .ok en1 (.d (.list ds)) else .no
  | none => .no

/-! ### what an operator's rule must answer -/
def Give (K : PySem.W.Frag) (F H : Hp) (d : D) (Q : VK) : Prop := ∀ v F' H', Ext F H F' H' → Dv K F' v d → Q v H'
def Sem1 (K : PySem.W.Frag) (r : V → Hp → VK → Prop) (sem : D → Option D) : Prop := ∀ F H v d e Q, Same F H → Vw K F H v d → sem d = some e → Give K F H e Q → r v H Q
def Sem2 (K : PySem.W.Frag) (r : R2) (sem : D → D → Option D) : Prop := ∀ F H v u d e c Q, Same F H → Vw K F H v d → Vw K F H u e → sem d e = some c → Give K F H c Q → r v u H Q
def SemN (K : PySem.W.Frag) (r : List V → Hp → VK → Prop) (sem : List D → Option D) : Prop := ∀ F H vs ds c Q, Same F H → VwAll K F H vs ds → sem ds = some c → Give K F H c Q → r vs H Q

section
variable {X : Cx} {g : Gh} {W : XW} {pos : Pos} {a b c : Expr} {fa fb fc : Ev}
theorem Give.of {K : PySem.W.Frag} {F H : Hp} {d : D} {Q : VK} (s : Same F H) (h : Give K F H d Q) {v : V} (q : Dv K F v d) : Q v H := h v F H (Ext.refl s) q

/-- a value of an operator's rule, given on -/
theorem fin1 {K : PySem.W.Frag} {σ : St} {F1 H1 : Hp} {en1 : En} {rs : Rs Rv} {d : D} {Q : VK} (rp : Rep K g F1 en1 σ H1) (e : rs = .ok en1 (.d d))
    (h : Fin K g W σ F1 rs fun F' H' _ r => ∀ v, RvOk K F' σ v r → Q v H') : Give K F1 H1 d Q := by
  subst e
  intro v F' H' x q
  exact h F' H' x.le (rp.ext x) v q

theorem of_op2 {sem : D → D → Option D} {en : En} {x y : Rv} {P : Prop} (no : op2 sem en x y = .no → P) (ok : ∀ d e c, res en x = some d → res en y = some e → sem d e = some c → op2 sem en x y = .ok en (.d c) → P) : P := by
  unfold op2 at no ok
  cases e1 : res en x with
  | none => rw [e1] at no; exact no rfl
  | some d =>
    cases e2 : res en y with
    | none => rw [e1, e2] at no; exact no rfl
    | some e =>
      cases e3 : sem d e with
      | none => rw [e1, e2] at no; dsimp only at no; rw [e3] at no; exact no rfl
      | some c =>
        refine ok d e c e1 e2 e3 ?_
        rw [e1, e2]; dsimp only; rw [e3]
theorem of_op1 {sem : D → Option D} {en : En} {x : Rv} {P : Prop} (no : op1 sem en x = .no → P) (ok : ∀ d c, res en x = some d → sem d = some c → op1 sem en x = .ok en (.d c) → P) : P := by
  unfold op1 at no ok
  cases e1 : res en x with
  | none => rw [e1] at no; exact no rfl
  | some d =>
    cases e3 : sem d with
    | none => rw [e1] at no; dsimp only at no; rw [e3] at no; exact no rfl
    | some c =>
      refine ok d c e1 e3 ?_
      rw [e1]; dsimp only; rw [e3]
theorem of_opB {sem : D → Option Bool} {en : En} {x : Rv} {P : Prop} (no : opB sem en x = .no → P) (ok : ∀ d c, res en x = some d → sem d = some c → opB sem en x = .ok en c → P) : P := by
  unfold opB at no ok
  cases e1 : res en x with
  | none => rw [e1] at no; exact no rfl
  | some d =>
    cases e3 : sem d with
    | none => rw [e1] at no; dsimp only at no; rw [e3] at no; exact no rfl
    | some c =>
      refine ok d c e1 e3 ?_
      rw [e1]; dsimp only; rw [e3]
theorem of_opN {sem : List D → Option D} {en : En} {x : List Rv} {P : Prop} (no : opN sem en x = .no → P) (ok : ∀ d c, resAll en x = some d → sem d = some c → opN sem en x = .ok en (.d c) → P) : P := by
  unfold opN at no ok
  cases e1 : resAll en x with
  | none => rw [e1] at no; exact no rfl
  | some d =>
    cases e3 : sem d with
    | none => rw [e1] at no; dsimp only at no; rw [e3] at no; exact no rfl
    | some c =>
      refine ok d c e1 e3 ?_
      rw [e1]; dsimp only; rw [e3]
/-- a bool by view -/
theorem view_bl {K : PySem.W.Frag} {F H : Hp} {v : V} {d : D} {k : Bool} (w : Vw K F H v d) (e : toB d = some k) : v = .bl k := by
  cases d <;> first | (cases e; done) | skip
  have : _ = k := Option.some.inj e
  subst this
  cases w with
  | fz h => cases h; rfl
  | own h _ => cases h

theorem de_var {i : Nat} {x : Str} (hN : X.N[i]? = some x) (hv : Vis X.env.scope x) (hd : (x == ("__debug__" : Str)) = false := by decide) (hcd : (x == ("__classdict__" : Str)) = false := by decide) : DE X g W (.Name x pos) (dVar i) := by
  refine PE.imp (pe_var hN hv hd hcd) fun σ H Q h => ?_
  obtain ⟨F, en, rp, f⟩ := h
  unfold dVar at f
  split at f
  · rename_i d q
    obtain ⟨v, e, z⟩ := rp.val i d q
    exact ⟨v, e, f F H (Same.refl _) rp v z⟩
  · rename_i b d q
    obtain ⟨p, e, z⟩ := rp.own i b d q
    exact ⟨.ref p, e, f F H (Same.refl _) rp _ e⟩
  · rename_i j q
    obtain ⟨e, b, d, z⟩ := rp.ali i j q
    obtain ⟨p, e2, _⟩ := rp.own j b d z
    exact ⟨.ref p, e.trans e2, f F H (Same.refl _) rp _ e2⟩
  · exact f.elim
/-- a constant -/
theorem de_con {v : V} {d : D} (h : PE X a (tC v)) (q : ∀ F, Dv X.K F v d) : DE X g W a (dC d) := by
  refine PE.imp h fun σ H Q h => ?_
  obtain ⟨F, en, rp, f⟩ := h
  exact f F H (Same.refl _) rp v (q F)
theorem de_int {i j} : DE X g W (.Constant (.int i) j pos) (dC (.int i)) := de_con pe_int fun _ => .int i
theorem de_bl {b j} : DE X g W (.Constant (.bool b) j pos) (dC (.bool b)) := de_con pe_bl fun _ => .bl b
theorem de_non {j} : DE X g W (.Constant .none j pos) (dC .none) := de_con pe_non fun _ => .non
theorem de_str {x j} : DE X g W (.Constant (.str x) j pos) (dC (.str x)) := de_con pe_str fun _ => .str x

theorem de_op {op : Operator} {r : R2} {sem : D → D → Option D} (ho : OpR X (binaryOp op) r) (hs : Sem2 X.K r sem) (ha : DE X g W a fa) (hb : DE X g W b fb) : DE X g W (.BinOp a op b pos) (dOp sem fa fb) := by
  refine PE.imp (pe_op ho ha hb) fun σ H Q h => ?_
  obtain ⟨F, en, rp, f⟩ := h
  refine ⟨F, en, rp, (Fin.seq f).mono fun F1 H1 en1 x s1 r1 f1 v hv => ⟨F1, en1, r1, (Fin.seq f1).mono fun F2 H2 en2 y s2 r2 f2 u hu => ?_⟩⟩
  refine of_op2 (sem := sem) (en := en2) (x := x) (y := y) (fun e => by rw [e] at f2; exact f2.elim) fun d e c e1 e2 e3 e4 => ?_
  exact hs F2 H2 v u d e c Q r2.fz (r2.view (RvOk.mono s2 hv) e1) (r2.view hu e2) e3 (fin1 r2 e4 f2)
theorem de_un {op : UnaryOp} {r : V → Hp → VK → Prop} {sem : D → Option D} (ho : UnR X (unaryOp op) r) (hs : Sem1 X.K r sem) (ha : DE X g W a fa) : DE X g W (.UnaryOp op a pos) (dUn sem fa) := by
  refine PE.imp (pe_un ho ha) fun σ H Q h => ?_
  obtain ⟨F, en, rp, f⟩ := h
  refine ⟨F, en, rp, (Fin.seq f).mono fun F1 H1 en1 x s1 r1 f1 v hv => ?_⟩
  refine of_op1 (sem := sem) (en := en1) (x := x) (fun e => by rw [e] at f1; exact f1.elim) fun d c e1 e3 e4 => ?_
  exact hs F1 H1 v d c Q r1.fz (r1.view hv e1) e3 (fin1 r1 e4 f1)
theorem de_cmp {op : CmpOp} {r : R2} {sem : D → D → Option D} (ho : OpR X (compareOp op) r) (hs : Sem2 X.K r sem) (ha : DE X g W a fa) (hb : DE X g W b fb)
    (hm : behindInMarks op b = false := by first | exact nobehind _ (by decide) (by decide) | rfl) : DE X g W (.Compare a [op] [b] pos) (dOp sem fa fb) := by
  refine PE.imp (pe_cmpR ho ha hb hm) fun σ H Q h => ?_
  obtain ⟨F, en, rp, f⟩ := h
  refine ⟨F, en, rp, (Fin.seq f).mono fun F1 H1 en1 x s1 r1 f1 v hv => ⟨F1, en1, r1, (Fin.seq f1).mono fun F2 H2 en2 y s2 r2 f2 u hu => ?_⟩⟩
  refine of_op2 (sem := sem) (en := en2) (x := x) (y := y) (fun e => by rw [e] at f2; exact f2.elim) fun d e c e1 e2 e3 e4 => ?_
  exact hs F2 H2 v u d e c Q r2.fz (r2.view (RvOk.mono s2 hv) e1) (r2.view hu e2) e3 (fin1 r2 e4 f2)
theorem dt_cmp {op : CmpOp} {r : R2} {sem : D → D → Option D} (ho : OpR X (compareOp op) r) (hs : Sem2 X.K r sem) (ha : DE X g W a fa) (hb : DE X g W b fb)
    (hm : behindInMarks op b = false := by first | exact nobehind _ (by decide) (by decide) | rfl) : DT X g W (.Compare a [op] [b] pos) (tOf (dOp sem fa fb)) := by
  refine PT.imp (pt_cmpR ho ha hb hm) fun σ H Q h => ?_
  obtain ⟨F, en, rp, f⟩ := h
  have f := Fin.seq f
  refine ⟨F, en, rp, (Fin.seq f).mono fun F1 H1 en1 x s1 r1 f1 v hv => ⟨F1, en1, r1, (Fin.seq f1).mono fun F2 H2 en2 y s2 r2 f2 u hu => ?_⟩⟩
  refine of_op2 (sem := sem) (en := en2) (x := x) (y := y) (fun e => by rw [e] at f2; exact f2.elim) fun d e c e1 e2 e3 e4 => ?_
  rw [e4] at f2
  refine hs F2 H2 v u d e c _ r2.fz (r2.view (RvOk.mono s2 hv) e1) (r2.view hu e2) e3 fun w F3 H3 x3 q3 => ?_
  have f3 : Fin X.K g W σ F3 (opB toB en2 (.d c)) (fun _ H' _ b => Q b H') := f2 F3 H3 x3.le (r2.ext x3)
  refine of_opB (sem := toB) (en := en2) (x := .d c) (fun e => by rw [e] at f3; exact f3.elim) fun d' k' e5 e6 e7 => ?_
  have e5' : c = d' := Option.some.inj e5
  subst e5'
  rw [e7] at f3
  exact ⟨k', view_bl (.fz (H := H3) q3) e6, f3 F3 H3 (Same.refl _) (r2.ext x3)⟩
theorem de_chain {op op' : CmpOp} {r r' : R2} {sem sem' : D → D → Option D} (ho : OpR X (compareOp op) r) (hs : Sem2 X.K r sem) (ho' : OpR X (compareOp op') r') (hs' : Sem2 X.K r' sem') (ha : DE X g W a fa) (hb : DE X g W b fb) (hc : DE X g W c fc)
    (hm : lastMarks [op, op'] [b, c] = false := by with_unfolding_all rfl) : DE X g W (.Compare a [op, op'] [b, c] pos) (dChain sem sem' fa fb fc) := by
  refine PE.imp (pe_chain ho ho' ha hb hc hm) fun σ H Q h => ?_
  obtain ⟨F, en, rp, f⟩ := h
  refine ⟨F, en, rp, (Fin.seq f).mono fun F1 H1 en1 x s1 r1 f1 v hv => ⟨F1, en1, r1, (Fin.seq f1).mono fun F2 H2 en2 y s2 r2 f2 u hu => ?_⟩⟩
  have f2 := Fin.seq f2
  refine of_op2 (sem := sem) (en := en2) (x := x) (y := y) (fun e => by rw [e] at f2; exact f2.elim) fun d e c' e1 e2 e3 e4 => ?_
  rw [e4] at f2
  refine hs F2 H2 v u d e c' _ r2.fz (r2.view (RvOk.mono s2 hv) e1) (r2.view hu e2) e3 fun w F3 H3 x3 q3 => ?_
  have r3 := r2.ext x3
  have f3 := Fin.seq (f2 F3 H3 x3.le r3)
  refine of_opB (sem := toB) (en := en2) (x := .d c') (fun e => by rw [e] at f3; exact f3.elim) fun d' k' e5 e6 e7 => ?_
  have e5' : c' = d' := Option.some.inj e5
  subst e5'
  rw [e7] at f3
  have f4 := f3 F3 H3 (Same.refl _) r3
  refine ⟨k', view_bl (.fz (H := H3) q3) e6, ?_⟩
  cases k' with
  | false => exact f4 F3 H3 (Same.refl _) r3 _ (.bl false)
  | true =>
    rw [if_pos rfl] at f4 ⊢
    refine ⟨F3, en2, r3, (Fin.seq f4).mono fun F5 H5 en5 y5 s5 r5 f5 u5 hu5 => ?_⟩
    refine of_op2 (sem := sem') (en := en5) (x := y) (y := y5) (fun e => by rw [e] at f5; exact f5.elim) fun d e c e1 e2 e3 e4 => ?_
    exact hs' F5 H5 u u5 d e c Q r5.fz (r5.view (RvOk.mono (x3.le.trans s5) hu) e1) (r5.view hu5 e2) e3 (fin1 r5 e4 f5)

/-! ### tests -/
theorem dt_val (ha : DE X g W a fa) (he : ∀ whole, isTrue a X.env whole = (do let v ← whole; standAt a.pos; holding [v] (truthy v)) := by intro _; rfl) : DT X g W a (tOf fa) := by
  refine PT.imp (pt_val ha he) fun σ H Q h => ?_
  obtain ⟨F, en, rp, f⟩ := h
  refine ⟨F, en, rp, (Fin.seq f).mono fun F1 H1 en1 x s1 r1 f1 v hv => ?_⟩
  refine of_opB (sem := toB) (en := en1) (x := x) (fun e => by rw [e] at f1; exact f1.elim) fun d k e1 e2 e3 => ?_
  rw [e3] at f1
  exact ⟨k, view_bl (r1.view hv e1) e2, f1 F1 H1 (Same.refl _) r1⟩
theorem de_and {rest : List Expr} (ha : DE X g W a fa) (hb : DE X g W (.BoolOp .And (b :: rest) pos) fb) : DE X g W (.BoolOp .And (a :: b :: rest) pos) (dAnd fa fb) := by
  refine PE.imp (pe_and ha hb) fun σ H Q h => ?_
  obtain ⟨F, en, rp, f⟩ := h
  refine ⟨F, en, rp, (Fin.seq f).mono fun F1 H1 en1 x s1 r1 f1 v hv => ?_⟩
  have f1 := Fin.seq f1
  refine of_opB (sem := toB) (en := en1) (x := x) (fun e => by rw [e] at f1; exact f1.elim) fun d k e1 e2 e3 => ?_
  rw [e3] at f1
  have f2 := f1 F1 H1 (Same.refl _) r1
  refine ⟨k, view_bl (r1.view hv e1) e2, ?_⟩
  cases k with
  | false => exact f2 F1 H1 (Same.refl _) r1 _ (.bl false)
  | true => exact ⟨F1, en1, r1, f2⟩
theorem de_or {rest : List Expr} (ha : DE X g W a fa) (hb : DE X g W (.BoolOp .Or (b :: rest) pos) fb) : DE X g W (.BoolOp .Or (a :: b :: rest) pos) (dOr fa fb) := by
  refine PE.imp (pe_or ha hb) fun σ H Q h => ?_
  obtain ⟨F, en, rp, f⟩ := h
  refine ⟨F, en, rp, (Fin.seq f).mono fun F1 H1 en1 x s1 r1 f1 v hv => ?_⟩
  have f1 := Fin.seq f1
  refine of_opB (sem := toB) (en := en1) (x := x) (fun e => by rw [e] at f1; exact f1.elim) fun d k e1 e2 e3 => ?_
  rw [e3] at f1
  have f2 := f1 F1 H1 (Same.refl _) r1
  refine ⟨k, view_bl (r1.view hv e1) e2, ?_⟩
  cases k with
  | true => exact f2 F1 H1 (Same.refl _) r1 _ (.bl true)
  | false => exact ⟨F1, en1, r1, f2⟩
theorem de_one {op} (ha : DE X g W a fa) : DE X g W (.BoolOp op [a] pos) fa := pe_one ha
theorem de_not (ha : DE X g W a fa) : DE X g W (.UnaryOp .Not a pos) (dNot fa) := by
  refine PE.imp (pe_not ha) fun σ H Q h => ?_
  obtain ⟨F, en, rp, f⟩ := h
  refine ⟨F, en, rp, (Fin.seq f).mono fun F1 H1 en1 x s1 r1 f1 v hv => ?_⟩
  have f1 := Fin.seq f1
  refine of_opB (sem := toB) (en := en1) (x := x) (fun e => by rw [e] at f1; exact f1.elim) fun d k e1 e2 e3 => ?_
  rw [e3] at f1
  have f2 := f1 F1 H1 (Same.refl _) r1
  exact ⟨k, view_bl (r1.view hv e1) e2, f2 F1 H1 (Same.refl _) r1 _ (.bl _)⟩
variable {ta tb : Tv}
theorem de_if (hc : DT X g W c ta) (ha : DE X g W a fa) (hb : DE X g W b fb) : DE X g W (.IfExp c a b pos) (dIf ta fa fb) := by
  refine PE.imp (pe_ifExp hc ha hb) fun σ H Q h => ?_
  obtain ⟨F, en, rp, f⟩ := h
  refine ⟨F, en, rp, (Fin.seq f).mono fun F1 H1 en1 k s1 r1 f1 => ?_⟩
  cases k with
  | true => exact ⟨F1, en1, r1, f1⟩
  | false => exact ⟨F1, en1, r1, f1⟩
def DW (X : Cx) (g : Gh) (W : XW) (e : Expr) (f : Tv) : Prop := PW X e (liftT X.K g W f)
theorem PW.imp {X : Cx} {e : Expr} {t t' : TT} (h : PW X e t) (i : ∀ σ H Q, t' σ H Q → t σ H Q) : PW X e t' := ⟨fun w pins s σ H Q I q => h.run w pins s σ H Q I (i σ H Q q)⟩
theorem dw_and {rest : List Expr} (ha : DT X g W a ta) (hb : DW X g W (.BoolOp .And (b :: rest) pos) tb) : DW X g W (.BoolOp .And (a :: b :: rest) pos) (tAndD ta tb) := by
  refine PW.imp (pw_and ha hb) fun σ H Q h => ?_
  obtain ⟨F, en, rp, f⟩ := h
  refine ⟨F, en, rp, (Fin.seq f).mono fun F1 H1 en1 k s1 r1 f1 => ?_⟩
  cases k with
  | true => exact ⟨F1, en1, r1, f1⟩
  | false => exact f1 F1 H1 (Same.refl _) r1
theorem dw_or {rest : List Expr} (ha : DT X g W a ta) (hb : DW X g W (.BoolOp .Or (b :: rest) pos) tb) : DW X g W (.BoolOp .Or (a :: b :: rest) pos) (tOrD ta tb) := by
  refine PW.imp (pw_or ha hb) fun σ H Q h => ?_
  obtain ⟨F, en, rp, f⟩ := h
  refine ⟨F, en, rp, (Fin.seq f).mono fun F1 H1 en1 k s1 r1 f1 => ?_⟩
  cases k with
  | false => exact ⟨F1, en1, r1, f1⟩
  | true => exact f1 F1 H1 (Same.refl _) r1
theorem dw_and1 (ha : DT X g W a ta) : DW X g W (.BoolOp .And [a] pos) ta := pw_and1 ha
theorem dw_or1 (ha : DT X g W a ta) : DW X g W (.BoolOp .Or [a] pos) ta := pw_or1 ha
theorem dt_w (h : DW X g W a ta) : DT X g W a ta := PW.pt h
theorem dt_not (ha : DT X g W a ta) : DT X g W (.UnaryOp .Not a pos) (tNotD ta) := by
  refine PT.imp (pt_not ha) fun σ H Q h => ?_
  obtain ⟨F, en, rp, f⟩ := h
  exact ⟨F, en, rp, (Fin.seq f).mono fun F1 H1 en1 k s1 r1 f1 => f1 F1 H1 (Same.refl _) r1⟩

/-! ### argument lists, displays, built-ins -/
variable {es : List Expr} {av : Av}
theorem da_nil : DA X g W [] aNil := PA.imp pa_nil fun σ H Q h => by
  obtain ⟨F, en, rp, f⟩ := h
  exact f F H (Same.refl _) rp [] trivial
theorem da_cons (ha : DE X g W a fa) (hr : DA X g W es av) (hs : starEach (a :: es) X.env = (false, eval a X.env) :: starEach es X.env := by rfl) : DA X g W (a :: es) (aCons fa av) := by
  refine PA.imp (pa_cons ha hr hs) fun σ H Q h => ?_
  obtain ⟨F, en, rp, f⟩ := h
  refine ⟨F, en, rp, (Fin.seq f).mono fun F1 H1 en1 x s1 r1 f1 v hv => ⟨F1, en1, r1, (Fin.seq f1).mono fun F2 H2 en2 xs s2 r2 f2 vs hvs => ?_⟩⟩
  exact f2 F2 H2 (Same.refl _) r2 (v :: vs) ⟨RvOk.mono s2 hv, hvs⟩
theorem free_ok {K : PySem.W.Frag} {F : Hp} {σ : St} {en : En} : ∀ {vs : List V} {xs : List Rv} {ds : List D}, RvAll K F σ vs xs → freeD en xs = some ds → DvAll K F vs ds
  | [], [], ds, _, e => by
    have : [] = ds := Option.some.inj e
    subst this
    exact .nil
  | v :: vs, .d x :: xs, ds, h, e => by
    unfold freeD at e
    split at e
    · rename_i ds1 e1
      have := Option.some.inj e
      subst this
      exact .cons h.1 (free_ok h.2 e1)
    · cases e
  | v :: vs, .s x :: xs, ds, h, e => by cases e
theorem de_tup {x1} (h : DA X g W es av) : DE X g W (.Tuple es x1 pos) (dTup av) := by
  refine PE.imp (pe_tup h) fun σ H Q h => ?_
  obtain ⟨F, en, rp, f⟩ := h
  refine ⟨F, en, rp, (Fin.seq f).mono fun F1 H1 en1 xs s1 r1 f1 vs hvs => ?_⟩
  split at f1
  · rename_i ds e1
    split at f1
    · rename_i hl
      have q := free_ok hvs e1
      refine ⟨by rw [q.length]; exact hl, fun p hp => ?_⟩
      have x := Ext.put r1.fz hp (.tup vs)
      refine f1 _ _ x.le (r1.ext x) _ (.tup (xs := vs) ?_ (q.mono x.le))
      exact .inl (.inl upd_same)
    · exact f1.elim
  · exact f1.elim
theorem de_lst (h : DA X g W es av) : DE X g W (.List es pos) (dLst av) := by
  refine PE.imp (pe_lst h) fun σ H Q h => ?_
  obtain ⟨F, en, rp, f⟩ := h
  refine ⟨F, en, rp, (Fin.seq f).mono fun F1 H1 en1 xs s1 r1 f1 vs hvs => ?_⟩
  split at f1
  · rename_i ds e1
    split at f1
    · rename_i hl
      have q := free_ok hvs e1
      refine ⟨by rw [q.length]; exact hl, fun p hp => ?_⟩
      have x := Ext.put r1.fz hp (.lst vs)
      refine f1 _ _ x.le (r1.ext x) _ (.lst (xs := vs) ?_ (q.mono x.le))
      exact upd_same
    · exact f1.elim
  · exact f1.elim
theorem callN {K : PySem.W.Frag} {r : List V → Hp → VK → Prop} {sem : List D → Option D} (hs : SemN K r sem) {σ : St} {H : Hp} {Q : VK} (h : liftE K g W (dCallB sem av) σ H Q) : tCB r (liftA K g W av) σ H Q := by
  obtain ⟨F, en, rp, f⟩ := h
  refine ⟨F, en, rp, (Fin.seq f).mono fun F1 H1 en1 xs s1 r1 f1 vs hvs => ?_⟩
  refine of_opN (sem := sem) (en := en1) (x := xs) (fun e => by rw [e] at f1; exact f1.elim) fun d c e1 e3 e4 => ?_
  exact hs F1 H1 vs d c Q r1.fz (r1.viewAll hvs e1) e3 (fin1 r1 e4 f1)
theorem de_callB {id : String} {x : Str} {p : Pos} {r : List V → Hp → VK → Prop} {sem : List D → Option D} (hc : CallR X (.builtin id) r) (hs : SemN X.K r sem) (hg : Gl X x) (hm : X.mg x = none) (hv : bootBuiltins x = some (.builtin id)) (ha : DA X g W (a :: es) av)
    (hn : x ≠ "__name__" := by decide) (hdb : (x == ("__debug__" : Str)) = false := by decide) (he : starEach (a :: es) X.env = (false, eval a X.env) :: starEach es X.env := by rfl) (hpl : (backTo pos (starEach es X.env)).any (·.1) = false := by rfl) : DE X g W (.Call (.Name x p) (a :: es) [] pos) (dCallB sem av) :=
  PE.imp (pe_callB hc hg hm hv ha hn hdb he hpl) fun _ _ _ h => callN hs h
theorem de_callTy {T : String} {x : Str} {p : Pos} {r : List V → Hp → VK → Prop} {sem : List D → Option D} (hc : CallR X (.type T) r) (hs : SemN X.K r sem) (hg : Gl X x) (hm : X.mg x = none) (hv : bootBuiltins x = some (.type T)) (ha : DA X g W (a :: es) av)
    (hn : x ≠ "__name__" := by decide) (hdb : (x == ("__debug__" : Str)) = false := by decide) (he : starEach (a :: es) X.env = (false, eval a X.env) :: starEach es X.env := by rfl) (hpl : (backTo pos (starEach es X.env)).any (·.1) = false := by rfl) : DE X g W (.Call (.Name x p) (a :: es) [] pos) (dCallB sem av) :=
  PE.imp (pe_callTy hc hg hm hv ha hn hdb he hpl) fun _ _ _ h => callN hs h
end
end DL
/-! Dl3: stores, fresh things, calls, statements. -/
namespace DL
open PySem PySem.Spec L2
open PyProof.Rows hiding St

section
variable {K : PySem.W.Frag} {g : Gh} {W : XW} {σ : St} {F F' F1 F2 H H' H1 H2 : Hp} {en en1 en2 : En}
/-- p is not an owned thing's address -/
def Apart (en : En) (σ : St) (p : Addr) : Prop := ∀ (i : Nat) (b : Bool) (d : D), en[i]? = some (.own b d) → σ[i]? ≠ some (some (.ref p))
def IsOwn (en : En) (σ : St) (p : Addr) : Prop := ∃ (i : Nat) (b : Bool) (d : D), en[i]? = some (.own b d) ∧ σ[i]? = some (some (.ref p))
/-- the same state over another ghost: g' has the heap as it stands, the owned addresses -/
def Sub (g g' : Gh) (F H : Hp) (en : En) (σ : St) : Prop := g'.F0 = F ∧ g'.H0 = H ∧ (∀ p, p ∈ g'.Ps ↔ IsOwn en σ p) ∧ g'.Pl = g.Pl ∧ g'.Rw = g.Rw
theorem sub_ex (g : Gh) (F H : Hp) (en : En) (σ : St) : ∃ g' : Gh, Sub g g' F H en σ := by
  refine ⟨⟨F, H, (List.range en.length).filterMap fun i => match (en[i]? : Option Sl), (σ[i]? : Option (Option V)) with
    | some (Sl.own _ _), some (some (V.ref p)) => some p
    | _, _ => none, g.Pl, g.Rw⟩, rfl, rfl, fun p => ⟨fun h => ?_, fun h => ?_⟩, rfl, rfl⟩
  · obtain ⟨i, _, e⟩ := List.mem_filterMap.mp h
    split at e
    · rename_i b d q e1 e2
      have := Option.some.inj e
      subst this
      exact ⟨i, _, _, e1, e2⟩
    · cases e
  · obtain ⟨i, b, d, e1, e2⟩ := h
    refine List.mem_filterMap.mpr ⟨i, List.mem_range.mpr (List.getElem?_eq_some_iff.mp e1).1, ?_⟩
    rw [e1, e2]
theorem Rep.notFr (r : Rep K g F en σ H) {p : Addr} (h : H p = none) : p ∈ g.Ps ∨ g.H0 p = none := by
  by_cases h1 : p ∈ g.Ps
  · exact .inl h1
  · refine .inr ?_
    cases q : g.H0 p with
    | none => rfl
    | some o => rw [r.fr p o q h1] at h; cases h
theorem Rep.ownPs (r : Rep K g F en σ H) {p : Addr} (h : IsOwn en σ p) : (p ∈ g.Ps ∨ g.H0 p = none) ∧ F p = none ∧ H p ≠ none := by
  obtain ⟨i, b, d, e1, e2⟩ := h
  obtain ⟨q, e3, q1, q2, q3⟩ := r.own i b d e1
  rw [e2] at e3
  have : V.ref p = V.ref q := Option.some.inj (Option.some.inj e3)
  injection this with this
  subst this
  exact ⟨q3, q2, q1.ne⟩
theorem Rep.narrow {g' : Gh} (r : Rep K g F en σ H) (s : Sub g g' F H en σ) : Rep K g' F en σ H := by
  obtain ⟨s1, s2, s3, s4, s5⟩ := s
  refine ⟨r.fz, fun a o e _ => by rw [s2] at e; exact e, fun p hp => (r.ownPs ((s3 p).mp hp)).2.2, fun a e _ _ => by rw [s1] at e; exact e, r.len, r.val, fun i b d e => ?_, r.ali, r.sep, by rw [s4]; exact r.pl, by rw [s5]; exact r.rw⟩
  obtain ⟨p, e1, q, n, _⟩ := r.own i b d e
  exact ⟨p, e1, q, n, .inl ((s3 p).mpr ⟨i, b, d, e, e1⟩)⟩
/-- back -/
theorem Rep.widen {g' : Gh} {σ' : St} (r : Rep K g F en σ H) (s : Sub g g' F H en σ) (r2 : Rep K g' F2 en2 σ' H2) : Rep K g F2 en2 σ' H2 := by
  obtain ⟨s1, s2, s3, s4, s5⟩ := s
  have nown : ∀ a, a ∉ g.Ps → g.H0 a ≠ none → a ∉ g'.Ps := fun a n e q => by
    rcases (r.ownPs ((s3 a).mp q)).1 with z | z
    · exact n z
    · exact e z
  refine ⟨r2.fz, fun a o e n => r2.fr a o (by rw [s2]; exact r.fr a o e n) (nown a n (by rw [e]; exact fun z => by cases z)), fun p hp => ?_, fun a e0 e1 n => ?_, r2.len, r2.val, fun i b d e => ?_, r2.ali, r2.sep, by rw [← s4]; exact r2.pl, by rw [← s5]; exact r2.rw⟩
  · by_cases z : p ∈ g'.Ps
    · exact r2.al p z
    · cases q : H p with
      | none => exact absurd q (r.al p hp)
      | some o => rw [r2.fr p o (by rw [s2]; exact q) z]; exact fun z => by cases z
  · refine r2.nw a (by rw [s1]; exact r.nw a e0 e1 n) ?_ (nown a n e1)
    rw [s2]
    cases q : g.H0 a with
    | none => exact absurd q e1
    | some o => rw [r.fr a o q n]; exact fun z => by cases z
  · obtain ⟨p, e1, q, n, z⟩ := r2.own i b d e
    refine ⟨p, e1, q, n, ?_⟩
    rcases z with z | z
    · exact (r.ownPs ((s3 p).mp z)).1
    · rw [s2] at z
      exact r.notFr z
/-- a thing that is neither owned nor frozen stays as it is, over the narrower ghost -/
theorem Rep.stays {g' : Gh} {σ' : St} {p : Addr} {o : HO} (s : Sub g g' F H en σ) (r2 : Rep K g' F2 en2 σ' H2) (ho : H p = some o) (hF : F p = none) (ha : ¬ IsOwn en σ p) : H2 p = some o ∧ F2 p = none := by
  obtain ⟨s1, s2, s3, s4, s5⟩ := s
  have n : p ∉ g'.Ps := fun q => ha ((s3 p).mp q)
  exact ⟨r2.fr p o (by rw [s2]; exact ho) n, r2.nw p (by rw [s1]; exact hF) (by rw [s2, ho]; exact fun z => by cases z) n⟩
theorem Rep.staysApart {g' : Gh} {σ' : St} {p : Addr} {o : HO} (s : Sub g g' F H en σ) (r2 : Rep K g' F2 en2 σ' H2) (ho : H p = some o) (ha : ¬ IsOwn en σ p) : ¬ IsOwn en2 σ' p := fun q => by
  obtain ⟨s1, s2, s3, s4, s5⟩ := s
  rcases (r2.ownPs q).1 with z | z
  · exact ha ((s3 p).mp z)
  · rw [s2, ho] at z; cases z

/-! ### stores -/
def noAli (en : En) (i : Nat) : Bool := en.all fun s => match s with
  | .ali j => j != i
  | _ => true
/-- may slot i be overwritten? -/
def canPut (en : En) (i : Nat) : Bool := match en[i]? with
  | some (.own b _) => !b && noAli en i
  | some .xs => false
  | some _ => true
  | none => false
def putS (en : En) (i : Nat) (s : Sl) : Option En := if canPut en i = true then some (en.set i s) else none
theorem noAli_at {i j k : Nat} (h : noAli en i = true) (e : en[k]? = some (.ali j)) : j ≠ i := by
  have q := List.all_eq_true.mp h _ (List.mem_of_getElem? e)
  simpa using q
theorem Rep.lt (r : Rep K g F en σ H) {i : Nat} (h : canPut en i = true) : i < en.length ∧ i < σ.length := by
  unfold canPut at h
  cases q : en[i]? with
  | none => rw [q] at h; cases h
  | some s =>
    have := (List.getElem?_eq_some_iff.mp q).1
    exact ⟨this, by rw [← r.len]; exact this⟩
/-- no alias to slot i -/
theorem Rep.noAli (r : Rep K g F en σ H) {i : Nat} (h : canPut en i = true) {k j : Nat} (e : en[k]? = some (.ali j)) : j ≠ i := by
  intro z
  subst z
  obtain ⟨_, b, d, q⟩ := r.ali k j e
  unfold canPut at h
  rw [q] at h
  exact noAli_at (Bool.and_eq_true_iff.mp h).2 e rfl
/-- slot i gets v, as s -/
theorem Rep.put (r : Rep K g F en σ H) {i : Nat} {s : Sl} {v : V} (h : canPut en i = true)
    (hs : match s with
      | .un => True
      | .xs => False
      | .val d => Dv K F v d
      | .own _ d => ∃ p, v = .ref p ∧ OwnAt K F H p d ∧ F p = none ∧ (p ∈ g.Ps ∨ g.H0 p = none) ∧ ∀ j, j ≠ i → ∀ b e, en[j]? = some (.own b e) → σ[j]? ≠ some (some (.ref p))
      | .ali j => j ≠ i ∧ σ[j]? = some (some v) ∧ ∃ b d, en[j]? = some (.own b d)) : Rep K g F (en.set i s) (σ.set i (some v)) H := by
  obtain ⟨l1, l2⟩ := r.lt h
  have na := fun k j e => r.noAli (k := k) (j := j) h e
  have eq1 : ∀ {k : Nat} {t : Sl}, (en.set i s)[k]? = some t → (k = i ∧ t = s) ∨ (k ≠ i ∧ en[k]? = some t) := fun {k t} e => by
    by_cases hk : k = i
    · subst hk
      rw [List.getElem?_set_self l1] at e
      exact .inl ⟨rfl, (Option.some.inj e).symm⟩
    · rw [List.getElem?_set_ne (Ne.symm hk)] at e
      exact .inr ⟨hk, e⟩
  have at1 : (σ.set i (some v))[i]? = some (some v) := List.getElem?_set_self l2
  have at2 : ∀ {k : Nat}, k ≠ i → (σ.set i (some v))[k]? = σ[k]? := fun {k} hk => List.getElem?_set_ne (Ne.symm hk)
  refine ⟨r.fz, r.fr, r.al, r.nw, by simpa using r.len, fun k d e => ?_, fun k b d e => ?_, fun k j e => ?_, fun k j b c d e' hne e1 e2 => ?_, fun k p hm => ?_, fun k p hm => ?_⟩
  · rcases eq1 e with ⟨rfl, z⟩ | ⟨hk, z⟩
    · subst z
      exact ⟨v, at1, hs⟩
    · rw [at2 hk]; exact r.val k d z
  · rcases eq1 e with ⟨rfl, z⟩ | ⟨hk, z⟩
    · subst z
      obtain ⟨p, rfl, q1, q2, q3, _⟩ := hs
      exact ⟨p, at1, q1, q2, q3⟩
    · rw [at2 hk]; exact r.own k b d z
  · rcases eq1 e with ⟨rfl, z⟩ | ⟨hk, z⟩
    · subst z
      obtain ⟨q1, q2, b, d, q3⟩ := hs
      exact ⟨by rw [at1, at2 q1, q2], b, d, by rw [List.getElem?_set_ne (Ne.symm q1)]; exact q3⟩
    · obtain ⟨z1, b, d, z2⟩ := r.ali k j z
      have hj := na k j z
      exact ⟨by rw [at2 hk, at2 hj]; exact z1, b, d, by rw [List.getElem?_set_ne (Ne.symm hj)]; exact z2⟩
  · rcases eq1 e1 with ⟨rfl, z⟩ | ⟨hk, z⟩
    · rcases eq1 e2 with ⟨rfl, z2⟩ | ⟨hk2, z2⟩
      · exact absurd rfl hne
      · rw [at1, at2 hk2]
        subst z
        obtain ⟨p, rfl, _, _, _, q⟩ := hs
        exact fun w => q j hk2 _ _ z2 w.symm
    · rcases eq1 e2 with ⟨rfl, z2⟩ | ⟨hk2, z2⟩
      · rw [at1, at2 hk]
        subst z2
        obtain ⟨p, rfl, _, _, _, q⟩ := hs
        exact q k hk _ _ z
      · rw [at2 hk, at2 hk2]; exact r.sep k j b c d e' hne z z2
  · obtain ⟨z1, d, z2⟩ := r.pl k p hm
    have hk : k ≠ i := fun w => by
      subst w
      unfold canPut at h
      rw [z2] at h
      cases h
    exact ⟨by rw [at2 hk]; exact z1, d, by rw [List.getElem?_set_ne (Ne.symm hk)]; exact z2⟩
  · obtain ⟨z1, z2⟩ := r.rw k p hm
    have hk : k ≠ i := fun w => by
      subst w
      unfold canPut at h
      rw [z2] at h
      cases h
    exact ⟨by rw [at2 hk]; exact z1, by rw [List.getElem?_set_ne (Ne.symm hk)]; exact z2⟩
theorem Rep.putV (r : Rep K g F en σ H) {i : Nat} {v : V} {d : D} (h : putS en i (.val d) = some en1) (q : Dv K F v d) : Rep K g F en1 (σ.set i (some v)) H := by
  unfold putS at h
  split at h
  · rename_i c
    have := Option.some.inj h
    subst this
    exact r.put c q
  · cases h
/-- the owned thing at slot i is changed -/
theorem Rep.write (r : Rep K g F en σ H) {i : Nat} {b₀ : Bool} {d d' : D} {p : Addr} (e : en[i]? = some (.own b₀ d)) (ep : σ[i]? = some (some (.ref p))) (o : HO) (q : OwnAt K F (upd H p o) p d') : Rep K g F (en.set i (.own b₀ d')) σ (upd H p o) := by
  have li := (List.getElem?_eq_some_iff.mp e).1
  obtain ⟨p', e1, q1, q2, q3⟩ := r.own i b₀ d e
  rw [ep] at e1
  have : V.ref p = V.ref p' := Option.some.inj (Option.some.inj e1)
  injection this with this
  subst this
  have eq1 : ∀ {k : Nat} {t : Sl}, (en.set i (.own b₀ d'))[k]? = some t → (k = i ∧ t = .own b₀ d') ∨ (k ≠ i ∧ en[k]? = some t) := fun {k t} e => by
    by_cases hk : k = i
    · subst hk
      rw [List.getElem?_set_self li] at e
      exact .inl ⟨rfl, (Option.some.inj e).symm⟩
    · rw [List.getElem?_set_ne (Ne.symm hk)] at e
      exact .inr ⟨hk, e⟩
  have hold : ∀ {k : Nat} {b : Bool} {d : D}, (en.set i (.own b₀ d'))[k]? = some (.own b d) → ∃ d0, en[k]? = some (.own b d0) := fun {k b d} e2 => by
    rcases eq1 e2 with ⟨rfl, z⟩ | ⟨hk, z⟩
    · cases z; exact ⟨_, e⟩
    · exact ⟨_, z⟩
  refine ⟨fun a u e => ?_, fun a u e n => ?_, fun q hq => ?_, r.nw, by simpa using r.len, fun k d e => ?_, fun k b d e2 => ?_, fun k j e2 => ?_, fun k j b c d e' hne e1 e2 => ?_, fun k p' hm => ?_, fun k p' hm => ?_⟩
  · have : a ≠ p := fun z => by subst z; rw [q2] at e; cases e
    rw [upd_ne this]; exact r.fz a u e
  · have : a ≠ p := fun z => by
      subst z
      rcases q3 with z | z
      · exact n z
      · rw [z] at e; cases e
    rw [upd_ne this]; exact r.fr a u e n
  · by_cases h : q = p
    · subst h; rw [upd_same]; exact fun z => by cases z
    · rw [upd_ne h]; exact r.al q hq
  · rcases eq1 e with ⟨rfl, z⟩ | ⟨hk, z⟩
    · cases z
    · exact r.val k d z
  · rcases eq1 e2 with ⟨rfl, z⟩ | ⟨hk, z⟩
    · cases z
      exact ⟨p, ep, q, q2, q3⟩
    · obtain ⟨p2, z1, z2, z3, z4⟩ := r.own k b d z
      refine ⟨p2, z1, z2.to ?_ (Same.refl _), z3, z4⟩
      have : p2 ≠ p := fun w => by
        subst w
        exact r.sep k i b _ d _ hk z e (z1.trans ep.symm)
      rw [upd_ne this]
  · rcases eq1 e2 with ⟨rfl, z⟩ | ⟨hk, z⟩
    · cases z
    · obtain ⟨z1, b2, d2, z2⟩ := r.ali k j z
      refine ⟨z1, ?_⟩
      by_cases hj : j = i
      · subst hj
        exact ⟨_, _, List.getElem?_set_self li⟩
      · exact ⟨b2, d2, by rw [List.getElem?_set_ne (Ne.symm hj)]; exact z2⟩
  · obtain ⟨d1, z1⟩ := hold e1
    obtain ⟨d2, z2⟩ := hold e2
    exact r.sep k j b c d1 d2 hne z1 z2
  · obtain ⟨z1, d2, z2⟩ := r.pl k p' hm
    refine ⟨z1, ?_⟩
    by_cases hk : k = i
    · subst hk
      rw [e] at z2
      cases z2
      exact ⟨_, List.getElem?_set_self li⟩
    · exact ⟨d2, by rw [List.getElem?_set_ne (Ne.symm hk)]; exact z2⟩
  · obtain ⟨z1, z2⟩ := r.rw k p' hm
    refine ⟨z1, ?_⟩
    have hk : k ≠ i := fun w => by
      subst w
      rw [e] at z2
      cases z2
    rw [List.getElem?_set_ne (Ne.symm hk)]; exact z2
end

/-! ### fresh things -/
/-- v is a thing of d's, just made, at no slot, not frozen -/
structure New (K : PySem.W.Frag) (g : Gh) (F H : Hp) (en : En) (σ : St) (p : Addr) (d : D) : Prop where
  at_ : OwnAt K F H p d
  nf : F p = none
  nh : g.H0 p = none
  no : ¬ IsOwn en σ p
abbrev Ov := En → Rs D
def liftO (K : PySem.W.Frag) (g : Gh) (W : XW) (f : Ov) : TE := fun σ H Q => ∃ F en, Rep K g F en σ H ∧ Fin K g W σ F (f en) fun F' _ en' d => ∀ p H'', Rep K g F' en' σ H'' → New K g F' H'' en' σ p d → Q (.ref p) H''
def DO (X : Cx) (g : Gh) (W : XW) (e : Expr) (f : Ov) : Prop := PE X e (liftO X.K g W f)
/-- frozen: a value -/
def dFz (f : Ov) : Ev := fun en => (f en).bind fun en1 d => .ok en1 (.d d)
theorem OwnAt.dv {K : PySem.W.Frag} {F H : Hp} {p : Addr} {d : D} (h : OwnAt K F H p d) (hF : F p = none) : ∃ o, H p = some o ∧ Dv K (upd F p o) (.ref p) d := by
  have le : ∀ o, Same F (upd F p o) := fun o => Ext.put.same_updN hF
  cases h with
  | lst e a => exact ⟨_, e, .lst upd_same (a.mono (le _))⟩
  | dct e a => exact ⟨_, e, .dct upd_same (a.mono (le _))⟩
  | dctT e a => exact ⟨_, e, .dctT upd_same (a.mono (le _))⟩
theorem Rep.freeze {K : PySem.W.Frag} {g : Gh} {F H : Hp} {en : En} {σ : St} {p : Addr} {o : HO} (r : Rep K g F en σ H) (ho : H p = some o) (hn : g.H0 p = none) (no : ¬ IsOwn en σ p) (hF : F p = none) : Rep K g (upd F p o) en σ H := by
  have le : Same F (upd F p o) := Ext.put.same_updN hF
  refine ⟨fun a u e => ?_, r.fr, r.al, fun a e0 e1 n => ?_, r.len, fun i d e => ?_, fun i b d e => ?_, r.ali, r.sep, r.pl, r.rw⟩
  · by_cases h : a = p
    · subst h; rw [upd_same] at e; rw [← e]; exact ho
    · rw [upd_ne h] at e; exact r.fz a u e
  · have : a ≠ p := fun z => by subst z; exact e1 hn
    rw [upd_ne this]; exact r.nw a e0 e1 n
  · obtain ⟨v, e1, q⟩ := r.val i d e
    exact ⟨v, e1, q.mono le⟩
  · obtain ⟨q, e1, q1, q2, q3⟩ := r.own i b d e
    have : q ≠ p := fun z => by subst z; exact no ⟨i, b, d, e, e1⟩
    exact ⟨q, e1, q1.to rfl le, by rw [upd_ne this]; exact q2, q3⟩
section
variable {X : Cx} {g : Gh} {W : XW} {pos : Pos} {a b c : Expr} {es : List Expr} {av : Av}
theorem DO.fz {f : Ov} (q : DO X g W a f) : DE X g W a (dFz f) := by
  refine PE.imp q fun σ H Q hw => ?_
  obtain ⟨F, en, rp, f1⟩ := hw
  refine ⟨F, en, rp, (Fin.seq f1).mono fun F1 H1 en1 d s1 r1 f2 p H2 r2 n => ?_⟩
  obtain ⟨o, ho, dv⟩ := n.at_.dv n.nf
  exact f2 _ H2 (Ext.put.same_updN n.nf) (r2.freeze ho n.nh n.no n.nf) _ dv
theorem Rep.fresh {K : PySem.W.Frag} {F H : Hp} {en : En} {σ : St} {p : Addr} {o : HO} {d : D} (r : Rep K g F en σ H) (hp : H p = none) (q : OwnAt K F (upd H p o) p d) : Rep K g F en σ (upd H p o) ∧ New K g F (upd H p o) en σ p d := by
  have hF : F p = none := r.fz.free hp
  have no : ¬ IsOwn en σ p := fun z => (r.ownPs z).2.2 hp
  have h0 : g.H0 p = none := by
    rcases r.notFr hp with z | z
    · exact absurd hp (r.al p z)
    · exact z
  refine ⟨⟨fun a u e => ?_, fun a u e n => ?_, fun q hq => ?_, r.nw, r.len, r.val, fun i b d e => ?_, r.ali, r.sep, r.pl, r.rw⟩, q, hF, h0, no⟩
  · rw [upd_ne (ne_of_none e hF)]; exact r.fz a u e
  · rw [upd_ne (ne_of_none e h0)]; exact r.fr a u e n
  · by_cases h : q = p
    · subst h; rw [upd_same]; exact fun z => by cases z
    · rw [upd_ne h]; exact r.al q hq
  · obtain ⟨p', e1, q1, q2, q3⟩ := r.own i b d e
    refine ⟨p', e1, q1.to ?_ (Same.refl _), q2, q3⟩
    exact upd_ne fun z => by subst z; exact q1.ne hp
end
end DL
/-! Dl4: calls of defs, statements. -/
namespace DL
open PySem PySem.Spec L2
open PyProof.Rows hiding St

/-! ### what a def is worth -/
/-- an argument: data, or an owned thing that the def may change -/
inductive Ar where
  | v (d : D)
  | o (d : D)
/-- what a def hands back: data, or a thing just made -/
inductive Rr where
  | v (d : D)
  | o (d : D)
inductive Rf where
  | ok (r : Rr) (os : List D)
  | ex (x : Ex) (os : List D)
  | no
abbrev Fs := List Ar → Rf
def ArgsOk (K : PySem.W.Frag) (F H : Hp) : List V → List Ar → List Addr → Prop
  | [], [], [] => True
  | v :: vs, .v d :: as, ps => Dv K F v d ∧ ArgsOk K F H vs as ps
  | v :: vs, .o d :: as, p :: ps => v = .ref p ∧ OwnAt K F H p d ∧ F p = none ∧ ArgsOk K F H vs as ps
  | _, _, _ => False
def OutsOk (K : PySem.W.Frag) (F H : Hp) : List Addr → List D → Prop
  | [], [] => True
  | p :: ps, d :: ds => OwnAt K F H p d ∧ F p = none ∧ OutsOk K F H ps ds
  | _, _ => False
structure CallExt (F H : Hp) (ps : List Addr) (F' H' : Hp) : Prop where
  fr : ∀ a o, H a = some o → a ∉ ps → H' a = some o
  le : Same F F'
  sub : Same F' H'
  nw : ∀ a, F a = none → H a ≠ none → a ∉ ps → F' a = none
def ResOk (K : PySem.W.Frag) (H F' H' : Hp) (ps : List Addr) (v : V) : Rr → Prop
  | .v d => Dv K F' v d
  | .o d => ∃ p, v = .ref p ∧ OwnAt K F' H' p d ∧ F' p = none ∧ H p = none
/-- a raised error, seen -/
def ExRep (K : PySem.W.Frag) (mg : Str → Option Value) (F H : Hp) (x : Ex) (cls : Value) (dx : Option Addr) : Prop :=
  mg x.cls = some cls ∧ ((x.fs = [] ∧ dx = none) ∨ ∃ (a : Addr) (vs : List (Str × V)), x.fs ≠ [] ∧ dx = some a ∧ H a = some (.xd vs) ∧ F a = none ∧ vs.map (·.1) = x.fs.map (·.1) ∧ DvAll K F (vs.map (·.2)) (x.fs.map (·.2)))
def spF (K : PySem.W.Frag) (mg : Str → Option Value) (fs : Fs) : Sp := fun vs H Q E => ∃ (F : Hp) (as : List Ar) (ps : List Addr), Same F H ∧ ArgsOk K F H vs as ps ∧ ps.Nodup ∧ match fs as with
  | .ok r os => ∀ v F' H', CallExt F H ps F' H' → OutsOk K F' H' ps os → ResOk K H F' H' ps v r → Q v H'
  | .ex x os => ∀ F' H' cls dx, CallExt F H ps F' H' → OutsOk K F' H' ps os → ExRep K mg F' H' x cls dx → E cls dx H'
  | .no => False
/-- the wish about errors, from the layer's -/
def WH (K : PySem.W.Frag) (mg : Str → Option Value) (Wh : WX) : XW := fun σ F H _ x => ∀ cls dx, ExRep K mg F H x cls dx → Wh cls dx σ H

/-! ### arguments in a call: by value, or slot i by reference -/
inductive Ae where
  | e (f : Ev)
  | io (f : Ev)
inductive Aw where
  | v (d : D)
  | o (i : Nat)
def toAw (en : En) : Bool → Rv → Option Aw
  | false, .d x => some (.v x)
  | true, .s i => some (.o i)
  | _, _ => none
/-- the callee's arguments -/
def argsFor (en : En) : List Bool → List Rv → Option (List Ar × List Nat)
  | [], [] => some ([], [])
  | false :: bs, .d x :: rs => match argsFor en bs rs with
    | some (as, is) => some (.v x :: as, is)
    | none => none
  | true :: bs, .s i :: rs => match slD en i, argsFor en bs rs with
    | some d, some (as, is) => some (.o d :: as, i :: is)
    | _, _ => none
  | _, _ => none
def setOuts (en : En) : List Nat → List D → Option En
  | [], [] => some en
  | i :: is, d :: ds => match en[i]? with
    | some (.own b _) => setOuts (en.set i (.own b d)) is ds
    | _ => none
  | _, _ => none
/-- the call, then k with the result -/
def callR {α : Type} (fs : Fs) (bs : List Bool) (en : En) (rs : List Rv) (k : En → Rr → Rs α) : Rs α := match argsFor en bs rs with
  | some (as, is) => if is.Nodup then (match fs as with
    | .ok r os => (match setOuts en is os with
      | some en' => k en' r
      | none => .no)
    | .ex x os => (match setOuts en is os with
      | some en' => .ex en' x
      | none => .no)
    | .no => .no) else .no
  | none => .no
def dCall (fs : Fs) (bs : List Bool) (a : Av) : Ev := fun en => (a en).bind fun en1 rs => callR fs bs en1 rs fun en2 r => match r with
  | .v d => .ok en2 (.d d)
  | .o d => .no
def oCall (fs : Fs) (bs : List Bool) (a : Av) : Ov := fun en => (a en).bind fun en1 rs => callR fs bs en1 rs fun en2 r => match r with
  | .o d => .ok en2 d
  | .v d => .no

section
variable {K : PySem.W.Frag} {g : Gh} {σ : St} {F F' H H' : Hp} {en : En}
/-- the owned things that are handed in: their addresses -/
def AtAll (en : En) (σ : St) : List Nat → List Addr → Prop
  | [], [] => True
  | i :: is, p :: ps => (∃ b d, en[i]? = some (.own b d)) ∧ σ[i]? = some (some (.ref p)) ∧ AtAll en σ is ps
  | _, _ => False
theorem AtAll.mem : ∀ {is : List Nat} {ps : List Addr}, AtAll en σ is ps → ∀ {p : Addr}, p ∈ ps → ∃ i ∈ is, σ[i]? = some (some (.ref p)) ∧ ∃ b d, en[i]? = some (.own b d)
  | [], [], _, p, h => by cases h
  | i :: is, q :: ps, ⟨h1, h2, h3⟩, p, h => by
    rcases List.mem_cons.mp h with e | h
    · subst e; exact ⟨i, List.mem_cons_self, h2, h1⟩
    · obtain ⟨j, hj, z⟩ := AtAll.mem h3 h
      exact ⟨j, List.mem_cons_of_mem _ hj, z⟩
theorem AtAll.at : ∀ {is : List Nat} {ps : List Addr}, AtAll en σ is ps → ∀ {k : Nat}, k ∈ is → ∃ b d, en[k]? = some (.own b d)
  | [], [], _, k, h => by cases h
  | i :: is, q :: ps, ⟨h1, h2, h3⟩, k, h => by
    rcases List.mem_cons.mp h with e | h
    · subst e; exact h1
    · exact AtAll.at h3 h
theorem AtAll.nodup (r : Rep K g F en σ H) : ∀ {is : List Nat} {ps : List Addr}, AtAll en σ is ps → is.Nodup → ps.Nodup
  | [], [], _, _ => List.nodup_nil
  | i :: is, p :: ps, ⟨⟨b, d, h1⟩, h2, h3⟩, h => by
    obtain ⟨n1, n2⟩ := List.nodup_cons.mp h
    refine List.nodup_cons.mpr ⟨fun hm => ?_, AtAll.nodup r h3 n2⟩
    obtain ⟨j, hj, e, b', d', z⟩ := h3.mem hm
    have ne : i ≠ j := fun z => n1 (z ▸ hj)
    exact r.sep i j b b' d d' ne h1 z (h2.trans e.symm)
theorem argsFor_ok (r : Rep K g F en σ H) : ∀ {bs : List Bool} {rs : List Rv} {vs : List V} {as : List Ar} {is : List Nat}, RvAll K F σ vs rs → argsFor en bs rs = some (as, is) → ∃ ps, ArgsOk K F H vs as ps ∧ AtAll en σ is ps
  | [], [], [], as, is, _, e => by
    cases e
    exact ⟨[], trivial, trivial⟩
  | false :: bs, .d x :: rs, v :: vs, as, is, h, e => by
    unfold argsFor at e
    split at e
    · rename_i as' is' e1
      cases e
      obtain ⟨ps, q1, q2⟩ := argsFor_ok r h.2 e1
      exact ⟨ps, ⟨h.1, q1⟩, q2⟩
    · cases e
  | true :: bs, .s i :: rs, v :: vs, as, is, h, e => by
    unfold argsFor at e
    split at e
    · rename_i d as' is' e0 e1
      cases e
      obtain ⟨ps, q1, q2⟩ := argsFor_ok r h.2 e1
      unfold slD at e0
      split at e0
      · rename_i b d1 z
        have e0' := Option.some.inj e0
        subst e0'
        obtain ⟨p, e2, e3, e4, _⟩ := r.own i b _ z
        have h1 : σ[i]? = some (some v) := h.1
        rw [h1] at e2
        cases e2
        exact ⟨p :: ps, ⟨rfl, e3, e4, q1⟩, ⟨b, _, z⟩, h1, q2⟩
      · cases e0
    · cases e
  | [], _ :: _, _, _, _, _, e => by cases e
  | false :: _, [], _, _, _, _, e => by cases e
  | true :: _, [], _, _, _, _, e => by cases e
  | false :: _, .s _ :: _, _, _, _, _, e => by cases e
  | true :: _, .d _ :: _, _, _, _, _, e => by cases e
  | _, [], _ :: _, _, _, h, _ => h.elim
  | _, _ :: _, [], _, _, h, _ => h.elim
theorem setOuts_at : ∀ {is : List Nat} {ds : List D} {en en' : En}, setOuts en is ds = some en' → en'.length = en.length ∧ (∀ k, k ∉ is → en'[k]? = en[k]?) ∧ ∀ (k : Nat) (b : Bool) (d : D), en[k]? = some (.own b d) → ∃ d', en'[k]? = some (.own b d')
  | [], [], en, en', e => by
    cases e
    exact ⟨rfl, fun _ _ => rfl, fun k b d e => ⟨d, e⟩⟩
  | i :: is, d :: ds, en, en', e => by
    unfold setOuts at e
    split at e
    · rename_i b d0 z
      obtain ⟨h1, h2, h3⟩ := setOuts_at e
      refine ⟨by rw [h1, List.length_set], fun k hk => ?_, fun k b' d' e1 => ?_⟩
      · rw [h2 k fun m => hk (List.mem_cons_of_mem _ m), List.getElem?_set_ne fun m => hk (by rw [m]; exact List.mem_cons_self)]
      · have li := (List.getElem?_eq_some_iff.mp z).1
        by_cases hk : k = i
        · subst hk
          rw [z] at e1; cases e1
          exact h3 k b d (List.getElem?_set_self li)
        · exact h3 k b' d' (by rw [List.getElem?_set_ne (Ne.symm hk)]; exact e1)
    · cases e
  | [], _ :: _, _, _, e => by cases e
  | _ :: _, [], _, _, e => by cases e
theorem setOuts_own : ∀ {is : List Nat} {ps : List Addr} {ds : List D} {en0 en en' : En} {σ : St}, is.Nodup → AtAll en0 σ is ps → OutsOk K F' H' ps ds → setOuts en is ds = some en' → ∀ i ∈ is, ∃ p b d, σ[i]? = some (some (.ref p)) ∧ en'[i]? = some (.own b d) ∧ OwnAt K F' H' p d ∧ F' p = none
  | [], [], [], _, _, _, _, _, _, _, _ => fun i h => by cases h
  | i :: is, p :: ps, d :: ds, en0, en, en', σ, n, ⟨_, a2, a3⟩, ⟨o1, o2, o3⟩, e => by
    unfold setOuts at e
    split at e
    · rename_i b d0 z
      obtain ⟨n1, n2⟩ := List.nodup_cons.mp n
      intro j hj
      rcases List.mem_cons.mp hj with rfl | hj
      · have li := (List.getElem?_eq_some_iff.mp z).1
        have q := (setOuts_at e).2.1 j n1
        rw [List.getElem?_set_self li] at q
        exact ⟨p, b, d, a2, q, o1, o2⟩
      · exact setOuts_own n2 a3 o3 e j hj
    · cases e
  | [], _ :: _, _, _, _, _, _, _, h, _, _ => h.elim
  | _ :: _, [], _, _, _, _, _, _, h, _, _ => h.elim
  | [], [], _ :: _, _, _, _, _, _, _, h, _ => h.elim
  | _ :: _, _ :: _, [], _, _, _, _, _, _, h, _ => h.elim
theorem OutsOk.alive : ∀ {ps : List Addr} {os : List D}, OutsOk K F H ps os → ∀ {p : Addr}, p ∈ ps → H p ≠ none
  | [], [], _, p, h => by cases h
  | q :: ps, d :: os, o, p, h => by
    rcases List.mem_cons.mp h with e | h
    · subst e; exact o.1.ne
    · exact OutsOk.alive o.2.2 h
/-- behind a call -/
theorem Rep.call {is : List Nat} {ps : List Addr} {os : List D} {en' : En} (r : Rep K g F en σ H) (a : AtAll en σ is ps) (n : is.Nodup) (x : CallExt F H ps F' H') (o : OutsOk K F' H' ps os) (e : setOuts en is os = some en') : Rep K g F' en' σ H' := by
  obtain ⟨h1, h2, h3⟩ := setOuts_at e
  have h4 := setOuts_own n a o e
  have psOwn : ∀ {p}, p ∈ ps → IsOwn en σ p := fun hp => by
    obtain ⟨i, _, q, b, d, z⟩ := a.mem hp
    exact ⟨i, b, d, z, q⟩
  have inOwn : ∀ {k : Nat} {b : Bool} {d : D}, en'[k]? = some (.own b d) → ∃ d0, en[k]? = some (.own b d0) := fun {k b d} e1 => by
    by_cases hk : k ∈ is
    · cases q : en[k]? with
      | none =>
        have l1 := (List.getElem?_eq_some_iff.mp e1).1
        rw [h1] at l1
        exact absurd q (by rw [List.getElem?_eq_getElem l1]; exact fun z => by cases z)
      | some s =>
        obtain ⟨p, b', d', _, z, _⟩ := h4 k hk
        have am : ∃ b d, en[k]? = some (.own b d) := by
          exact a.at hk
        obtain ⟨b0, d0, z0⟩ := am
        obtain ⟨d1, z1⟩ := h3 k b0 d0 z0
        rw [e1] at z1
        cases z1
        exact ⟨d0, q ▸ z0⟩
    · rw [h2 k hk] at e1
      exact ⟨d, e1⟩
  have keep : ∀ {k : Nat} {s : Sl}, en'[k]? = some s → (∀ b d, s ≠ .own b d) → en[k]? = some s := fun {k s} e1 ns => by
    by_cases hk : k ∈ is
    · obtain ⟨p, b', d', _, z, _⟩ := h4 k hk
      rw [e1] at z
      cases z
      exact absurd rfl (ns _ _)
    · rw [h2 k hk] at e1
      exact e1
  have H'p : ∀ {p : Addr}, H p ≠ none → H' p ≠ none := fun {p} hp => by
    by_cases hm : p ∈ ps
    · clear h4 e inOwn keep psOwn
      revert hm
      clear a n h1 h2 h3 x
      induction ps generalizing os with
      | nil => intro h; cases h
      | cons q ps ih =>
        intro hm
        cases os with
        | nil => exact o.elim
        | cons d os =>
          rcases List.mem_cons.mp hm with rfl | hm
          · exact o.1.ne
          · exact ih o.2.2 hm
    · cases q : H p with
      | none => exact absurd q hp
      | some u => rw [x.fr p u q hm]; exact fun z => by cases z
  have nps : ∀ {b u}, g.H0 b = some u → b ∉ g.Ps → b ∉ ps := fun {b u} e1 n1 hm => by
    rcases (r.ownPs (psOwn hm)).1 with z | z
    · exact n1 z
    · rw [z] at e1; cases e1
  refine ⟨x.sub, fun b u e1 n1 => x.fr b u (r.fr b u e1 n1) (nps e1 n1), fun p hp => H'p (r.al p hp), fun b e0 e1 n1 => ?_, by rw [h1]; exact r.len, fun k d e1 => ?_, fun k b d e1 => ?_, fun k j e1 => ?_, fun k j b c d d' hne e1 e2 => ?_, fun k p hm => ?_, fun k p hm => ?_⟩
  · cases q : g.H0 b with
    | none => exact absurd q e1
    | some u => exact x.nw b (r.nw b e0 e1 n1) (by rw [r.fr b u q n1]; exact fun z => by cases z) (nps q n1)
  · obtain ⟨v, z, q⟩ := r.val k d (keep e1 fun _ _ z => by cases z)
    exact ⟨v, z, q.mono x.le⟩
  · by_cases hk : k ∈ is
    · obtain ⟨p, b', d', z1, z2, z3, z4⟩ := h4 k hk
      rw [e1] at z2
      cases z2
      obtain ⟨d0, e0⟩ := inOwn e1
      exact ⟨p, z1, z3, z4, (r.ownPs ⟨k, b, d0, e0, z1⟩).1⟩
    · have e1' := e1
      rw [h2 k hk] at e1'
      obtain ⟨p, z1, z2, z3, z4⟩ := r.own k b d e1'
      have np : p ∉ ps := fun hm => by
        obtain ⟨i, hi, q, b', d', z⟩ := a.mem hm
        have ne : k ≠ i := fun w => hk (w ▸ hi)
        exact r.sep k i b b' d d' ne e1' z (z1.trans q.symm)
      refine ⟨p, z1, z2.to ?_ x.le, x.nw p z3 z2.ne np, z4⟩
      cases q : H p with
      | none => exact absurd q z2.ne
      | some u => exact x.fr p u q np
  · obtain ⟨z1, b, d, z2⟩ := r.ali k j (keep e1 fun _ _ z => by cases z)
    obtain ⟨d', z3⟩ := h3 j b d z2
    exact ⟨z1, b, d', z3⟩
  · obtain ⟨d1, z1⟩ := inOwn e1
    obtain ⟨d2, z2⟩ := inOwn e2
    exact r.sep k j b c d1 d2 hne z1 z2
  · obtain ⟨z1, d, z2⟩ := r.pl k p hm
    obtain ⟨d', z3⟩ := h3 k true d z2
    exact ⟨z1, d', z3⟩
  · obtain ⟨z1, z2⟩ := r.rw k p hm
    refine ⟨z1, ?_⟩
    by_cases hk : k ∈ is
    · obtain ⟨b, d, z⟩ := a.at hk
      rw [z2] at z; cases z
    · rw [h2 k hk]; exact z2
end
end DL
/-! Dl5: the call's rules; statements. -/
namespace DL
open PySem PySem.Spec L2
open PyProof.Rows hiding St

/-- the def x, by what it is worth -/
structure Callee (P : Program) (w : World) (K : PySem.W.Frag) (mg : Str → Option Value) (base : Heap) (x : Str) (k : Nat) (fs : Fs) : Prop where
  ex : ∃ (f : Addr) (fd : FuncData) (ps : List Str), mg x = some (.ref f) ∧ FnOk P w K mg base (L2.CX P w) k f fd ps (spF K mg fs) ∧ PySem.W.keepIn K (.ref f) = true ∧ Binds K fd ps []

section
variable {K : PySem.W.Frag} {g : Gh} {W : XW} {σ : St} {F H : Hp} {en : En} {mg : Str → Option Value} {Wh : WX} {fs : Fs} {bs : List Bool}
/-- a call, in the layer's words -/
theorem call_sp {rs : List Rv} {vs : List V} {Q : VK} {kk : En → Rr → Rs Rv} (rp : Rep K g F en σ H) (hv : RvAll K F σ vs rs)
    (f : Fin K g (WH K mg Wh) σ F (callR fs bs en rs kk) fun F' H' _ r => ∀ v, RvOk K F' σ v r → Q v H')
    (hk : ∀ en' r, (∃ d, r = .v d ∧ kk en' r = .ok en' (.d d)) ∨ kk en' r = .no) : spF K mg fs vs H Q (WE Wh σ) := by
  unfold callR at f
  split at f
  · rename_i as is e1
    split at f
    · rename_i nd
      obtain ⟨ps, q1, q2⟩ := argsFor_ok rp hv e1
      refine ⟨F, as, ps, rp.fz, q1, q2.nodup rp nd, ?_⟩
      split at f
      · rename_i r os e2
        intro v F' H' x o ro
        split at f
        · rename_i en' e3
          have r2 := rp.call q2 nd x o e3
          rcases hk en' r with ⟨d, rfl, e4⟩ | e4
          · rw [e4] at f
            exact f F' H' x.le r2 v ro
          · rw [e4] at f; exact f.elim
        · exact f.elim
      · rename_i xx os e2
        intro F' H' cls dx x o er
        split at f
        · rename_i en' e3
          exact f F' H' x.le (rp.call q2 nd x o e3) cls dx er
        · exact f.elim
      · exact f.elim
    · exact f.elim
  · exact f.elim
theorem call_spO {rs : List Rv} {vs : List V} {Q : VK} {kk : En → Rr → Rs D} (rp : Rep K g F en σ H) (hv : RvAll K F σ vs rs)
    (f : Fin K g (WH K mg Wh) σ F (callR fs bs en rs kk) fun F' _ en' d => ∀ p H'', Rep K g F' en' σ H'' → New K g F' H'' en' σ p d → Q (.ref p) H'')
    (hk : ∀ en' r, (∃ d, r = .o d ∧ kk en' r = .ok en' d) ∨ kk en' r = .no) : spF K mg fs vs H Q (WE Wh σ) := by
  unfold callR at f
  split at f
  · rename_i as is e1
    split at f
    · rename_i nd
      obtain ⟨ps, q1, q2⟩ := argsFor_ok rp hv e1
      refine ⟨F, as, ps, rp.fz, q1, q2.nodup rp nd, ?_⟩
      split at f
      · rename_i r os e2
        intro v F' H' x o ro
        split at f
        · rename_i en' e3
          have r2 := rp.call q2 nd x o e3
          rcases hk en' r with ⟨d, rfl, e4⟩ | e4
          · rw [e4] at f
            obtain ⟨p, rfl, z1, z2, z3⟩ := ro
            have g0 : g.H0 p = none := by
              rcases rp.notFr z3 with z | z
              · exact absurd z3 (rp.al p z)
              · exact z
            refine f F' H' x.le r2 p H' r2 ⟨z1, z2, g0, fun w => ?_⟩
            obtain ⟨i, b, d', w1, w2⟩ := w
            have am : ∃ b d, en[i]? = some (.own b d) := by
              by_cases hi : i ∈ is
              · exact q2.at hi
              · rw [(setOuts_at e3).2.1 i hi] at w1
                exact ⟨b, d', w1⟩
            obtain ⟨b0, d0, e0⟩ := am
            exact (rp.ownPs ⟨i, b0, d0, e0, w2⟩).2.2 z3
          · rw [e4] at f; exact f.elim
        · exact f.elim
      · rename_i xx os e2
        intro F' H' cls dx x o er
        split at f
        · rename_i en' e3
          exact f F' H' x.le (rp.call q2 nd x o e3) cls dx er
        · exact f.elim
      · exact f.elim
    · exact f.elim
  · exact f.elim
end

section
variable {X : Cx} {g : Gh} {Wh : WX} {pos : Pos} {a : Expr} {es : List Expr} {av : Av} {fs : Fs} {x : Str} {j k : Nat} {p : Pos}
theorem de_call (bs : List Bool) (C : Callee X.prog X.w X.K X.mg X.base x j fs) (hj : j ≤ k) (hr : Room k X.A) (hg : Gl X x) (tk : Takes X Wh) (ha : DA X g (WH X.K X.mg Wh) (a :: es) av)
    (hdb : (x == ("__debug__" : Str)) = false := by decide) (he : starEach (a :: es) X.env = (false, eval a X.env) :: starEach es X.env := by rfl) (hpl : (backTo pos (starEach es X.env)).any (·.1) = false := by rfl) :
    DE X g (WH X.K X.mg Wh) (.Call (.Name x p) (a :: es) [] pos) (dCall fs bs av) := by
  obtain ⟨f, fd, ps, hm, F, hk, hb⟩ := C.ex
  refine PE.imp (pe_callS F (hr.mono hj) hg hm hk hb (fun σ => passAt tk σ) ha hdb he hpl) fun σ H Q h => ?_
  obtain ⟨F, en, rp, f⟩ := h
  refine ⟨F, en, rp, (Fin.seq f).mono fun F1 H1 en1 rs s1 r1 f1 vs hvs => call_sp r1 hvs f1 fun en' r => ?_⟩
  cases r with
  | v d => exact .inl ⟨d, rfl, rfl⟩
  | o d => exact .inr rfl
theorem do_call (bs : List Bool) (C : Callee X.prog X.w X.K X.mg X.base x j fs) (hj : j ≤ k) (hr : Room k X.A) (hg : Gl X x) (tk : Takes X Wh) (ha : DA X g (WH X.K X.mg Wh) (a :: es) av)
    (hdb : (x == ("__debug__" : Str)) = false := by decide) (he : starEach (a :: es) X.env = (false, eval a X.env) :: starEach es X.env := by rfl) (hpl : (backTo pos (starEach es X.env)).any (·.1) = false := by rfl) :
    DO X g (WH X.K X.mg Wh) (.Call (.Name x p) (a :: es) [] pos) (oCall fs bs av) := by
  obtain ⟨f, fd, ps, hm, F, hk, hb⟩ := C.ex
  refine PE.imp (pe_callS F (hr.mono hj) hg hm hk hb (fun σ => passAt tk σ) ha hdb he hpl) fun σ H Q h => ?_
  obtain ⟨F, en, rp, f⟩ := h
  refine ⟨F, en, rp, (Fin.seq f).mono fun F1 H1 en1 rs s1 r1 f1 vs hvs => call_spO r1 hvs f1 fun en' r => ?_⟩
  cases r with
  | o d => exact .inl ⟨d, rfl, rfl⟩
  | v d => exact .inr rfl
/-- a list display as a fresh thing -/
def oLst (a : Av) : Ov := fun en => (a en).bind fun en1 xs => match freeD en1 xs with
  | some ds => if ds.length ≤ sizeLine then .ok en1 (.list ds) else .no
  | none => .no
theorem do_lst {W : XW} (h : DA X g W es av) : DO X g W (.List es pos) (oLst av) := by
  refine PE.imp (pe_lst h) fun σ H Q h => ?_
  obtain ⟨F, en, rp, f⟩ := h
  refine ⟨F, en, rp, (Fin.seq f).mono fun F1 H1 en1 xs s1 r1 f1 vs hvs => ?_⟩
  split at f1
  · rename_i ds e1
    split at f1
    · rename_i hl
      have q := free_ok hvs e1
      refine ⟨by rw [q.length]; exact hl, fun p hp => ?_⟩
      obtain ⟨r2, n2⟩ := r1.fresh hp (d := .list ds) (.lst upd_same q)
      exact f1 F1 H1 (Same.refl _) r1 p _ r2 n2
    · exact f1.elim
  · exact f1.elim
def oDct : Ov := fun en => .ok en (.dict [])
def oDctT : Ov := fun en => .ok en (.dict [(.none, .bool true)])
theorem do_dctK {W : XW} : DO X g W (.Dict [] [] pos) oDct := by
  refine PE.imp pe_dnewK fun σ H Q h => ?_
  obtain ⟨F, en, rp, f⟩ := h
  intro p hp
  obtain ⟨r2, n2⟩ := rp.fresh hp (d := .dict []) (OwnAt.dct (kvs := []) (ds := []) upd_same .nil)
  exact f F H (Same.refl _) rp p _ r2 n2
theorem do_dctT {W : XW} : DO X g W (.Dict [] [] pos) oDctT := by
  refine PE.imp pe_dnewT fun σ H Q h => ?_
  obtain ⟨F, en, rp, f⟩ := h
  intro p hp
  obtain ⟨r2, n2⟩ := rp.fresh hp (d := .dict [(.none, .bool true)]) (OwnAt.dctT (kvs := []) (ds := []) upd_same .nil)
  exact f F H (Same.refl _) rp p _ r2 n2
end

/-! ### statements -/
inductive Out where
  | nx (en : En)
  | rt (en : En) (r : Rr)
  | bk (en : En)
  | ct (en : En)
  | ex (en : En) (x : Ex)
  | no
abbrev Bd := En → Out
/-- what the def hands back at v -/
def RetOk (K : PySem.W.Frag) (g : Gh) (F H : Hp) (v : V) : Rr → Prop
  | .v d => Dv K F v d
  | .o d => ∃ p, v = .ref p ∧ OwnAt K F H p d ∧ F p = none ∧ g.H0 p = none
def FinS (K : PySem.W.Frag) (g : Gh) (W : XW) (F : Hp) (o : Out) (E : Ends) : Prop := match o with
  | .nx en => ∀ σ F' H', Same F F' → Rep K g F' en σ H' → E.nx σ H'
  | .bk en => ∀ σ F' H', Same F F' → Rep K g F' en σ H' → E.bk σ H'
  | .ct en => ∀ σ F' H', Same F F' → Rep K g F' en σ H' → E.ct σ H'
  | .rt en r => ∀ v σ F' H', Same F F' → Rep K g F' en σ H' → RetOk K g F' H' v r → E.rt v H'
  | .ex en x => ∀ σ F' H', Same F F' → Rep K g F' en σ H' → W σ F' H' en x
  | .no => False
theorem FinS.weak {K : PySem.W.Frag} {g : Gh} {W : XW} {F F' : Hp} {o : Out} {E : Ends} (s : Same F F') (h : FinS K g W F o E) : FinS K g W F' o E := by
  cases o with
  | nx en => exact fun σ F2 H2 s2 => h σ F2 H2 (s.trans s2)
  | bk en => exact fun σ F2 H2 s2 => h σ F2 H2 (s.trans s2)
  | ct en => exact fun σ F2 H2 s2 => h σ F2 H2 (s.trans s2)
  | rt en r => exact fun v σ F2 H2 s2 => h v σ F2 H2 (s.trans s2)
  | ex en x => exact fun σ F2 H2 s2 => h σ F2 H2 (s.trans s2)
  | no => exact h
def liftS (K : PySem.W.Frag) (g : Gh) (W : XW) (b : Bd) : TS := fun E σ H => ∃ F en, Rep K g F en σ H ∧ FinS K g W F (b en) E
def DS (X : Cx) (g : Gh) (W : XW) (st : Stmt) (b : Bd) : Prop := PS X st (liftS X.K g W b)
def DSs (X : Cx) (g : Gh) (W : XW) (st : List Stmt) (b : Bd) : Prop := PSs X st (liftS X.K g W b)
def Out.next (o : Out) (k : En → Out) : Out := match o with
  | .nx en => k en
  | o => o
def Rs.out {α : Type} (r : Rs α) (k : En → α → Out) : Out := match r with
  | .ok en a => k en a
  | .ex en x => .ex en x
  | .no => .no
/-- an expression, then the rest of the statement -/
theorem FinS.of_out {K : PySem.W.Frag} {g : Gh} {W : XW} {σ : St} {F : Hp} {α : Type} {r : Rs α} {k : En → α → Out} {E : Ends} {P : Hp → Hp → En → α → Prop} (h : FinS K g W F (r.out k) E)
    (q : ∀ F' H' en a, Same F F' → Rep K g F' en σ H' → FinS K g W F' (k en a) E → P F' H' en a) : Fin K g W σ F r P := by
  cases r with
  | ok en a => exact fun F' H' s r => q F' H' en a s r (FinS.weak s h)
  | ex en x => exact fun F' H' s r => h σ F' H' s r
  | no => exact h

def bSeq (a b : Bd) : Bd := fun en => (a en).next b
def bNil : Bd := fun en => .nx en
def bExpr (f : Ev) : Bd := fun en => (f en).out fun en1 _ => .nx en1
def bRet (f : Ev) : Bd := fun en => (f en).out fun en1 x => match x with
  | .d d => .rt en1 (.v d)
  | .s _ => .no
def bRetO (f : Ov) : Bd := fun en => (f en).out fun en1 d => .rt en1 (.o d)
def bRetN : Bd := fun en => .rt en (.v .none)
def bIf (c : Tv) (a b : Bd) : Bd := fun en => (c en).out fun en1 k => if k = true then a en1 else b en1
def stV (en : En) (i : Nat) (x : Rv) : Option En := match x with
  | .d d => putS en i (.val d)
  | .s j => if j = i then none else (match en[j]? with
    | some (.own _ _) => putS en i (.ali j)
    | _ => none)
def Opt.out {α : Type} (o : Option α) (k : α → Out) : Out := match o with
  | some a => k a
  | none => .no
def bSet (i : Nat) (f : Ev) : Bd := fun en => (f en).out fun en1 x => Opt.out (stV en1 i x) .nx
def bSetO (i : Nat) (f : Ov) : Bd := fun en => (f en).out fun en1 d => Opt.out (putS en1 i (.own false d)) .nx

section
variable {K : PySem.W.Frag} {g : Gh} {W : XW} {σ : St} {F H : Hp} {en en1 : En}
theorem Rep.stV (r : Rep K g F en σ H) {i : Nat} {x : Rv} {v : V} (h : RvOk K F σ v x) (e : stV en i x = some en1) : Rep K g F en1 (σ.set i (some v)) H := by
  cases x with
  | d d => exact r.putV e h
  | s j =>
    unfold DL.stV at e
    dsimp only at e
    split at e
    · cases e
    · rename_i hj
      split at e
      · rename_i b d z
        unfold putS at e
        split at e
        · rename_i c
          have := Option.some.inj e
          subst this
          exact r.put c ⟨hj, h, b, d, z⟩
        · cases e
      · cases e
theorem Rep.stO (r : Rep K g F en σ H) {i : Nat} {p : Addr} {b : Bool} {d : D} (n : New K g F H en σ p d) (e : putS en i (.own b d) = some en1) : Rep K g F en1 (σ.set i (some (.ref p))) H := by
  unfold putS at e
  split at e
  · rename_i c
    have := Option.some.inj e
    subst this
    refine r.put c ⟨p, rfl, n.at_, n.nf, .inr n.nh, fun j _ b' d' e1 e2 => n.no ⟨j, b', d', e1, e2⟩⟩
  · cases e
end

section
variable {X : Cx} {g : Gh} {W : XW} {pos : Pos} {e c : Expr} {st : Stmt} {rest : List Stmt} {f : Ev} {t : Tv} {b b' : Bd}
theorem ds_nil : DSs X g W [] bNil := PSs.imp pss_nil fun E σ H h => by
  obtain ⟨F, en, rp, f⟩ := h
  exact f σ F H (Same.refl _) rp
theorem ds_cons (h1 : DS X g W st b) (h2 : DSs X g W rest b') : DSs X g W (st :: rest) (bSeq b b') := by
  refine PSs.imp (pss_cons h1 h2) fun E σ H h => ?_
  obtain ⟨F, en, rp, f⟩ := h
  refine ⟨F, en, rp, ?_⟩
  unfold bSeq Out.next at f
  split at f
  · rename_i en1 e1
    rw [e1]
    intro σ' F' H' s r
    exact ⟨F', en1, r, FinS.weak s f⟩
  · rename_i o ne
    cases q : b en with
    | nx en1 => exact absurd q (ne en1)
    | bk en1 => rw [q] at f; exact f
    | ct en1 => rw [q] at f; exact f
    | rt en1 r => rw [q] at f; exact f
    | ex en1 x => rw [q] at f; exact f
    | no => rw [q] at f; exact f
theorem ds_one (h1 : DS X g W st b) : DSs X g W [st] b := pss_one h1
theorem ds_pass : DS X g W (.Pass pos) bNil := PS.imp ps_pass fun E σ H h => by
  obtain ⟨F, en, rp, f⟩ := h
  exact f σ F H (Same.refl _) rp
theorem ds_expr (he : DE X g W e f) (hs : swapsWith e none pos.line X.env = pure false := by rfl) : DS X g W (.Expr e pos) (bExpr f) := by
  refine PS.imp (ps_expr he hs) fun E σ H h => ?_
  obtain ⟨F, en, rp, f⟩ := h
  exact ⟨F, en, rp, FinS.of_out f fun F' H' en' r s rp' k v hv => k σ F' H' (Same.refl _) rp'⟩
theorem ds_ret (he : DE X g W e f) : DS X g W (.Return (some e) pos) (bRet f) := by
  refine PS.imp (ps_ret he) fun E σ H h => ?_
  obtain ⟨F, en, rp, f⟩ := h
  refine ⟨F, en, rp, FinS.of_out f fun F' H' en' r s rp' k v hv => ?_⟩
  cases r with
  | d d => exact k v σ F' H' (Same.refl _) rp' hv
  | s i => exact k.elim
theorem ds_retO {f : Ov} (he : DO X g W e f) : DS X g W (.Return (some e) pos) (bRetO f) := by
  refine PS.imp (ps_ret he) fun E σ H h => ?_
  obtain ⟨F, en, rp, f⟩ := h
  refine ⟨F, en, rp, FinS.of_out f fun F' H' en' d s rp' k p H'' r2 n => ?_⟩
  exact k _ σ F' H'' (Same.refl _) r2 ⟨p, rfl, n.at_, n.nf, n.nh⟩
theorem ds_retN : DS X g W (.Return none pos) bRetN := PS.imp ps_retN fun E σ H h => by
  obtain ⟨F, en, rp, f⟩ := h
  exact f .non σ F H (Same.refl _) rp .non
theorem ds_if {a b : List Stmt} {ba bb : Bd} (hc : DT X g W c t) (ha : DSs X g W a ba) (hb : DSs X g W b bb) : DS X g W (.If c a b pos) (bIf t ba bb) := by
  refine PS.imp (ps_if hc ha hb) fun E σ H h => ?_
  obtain ⟨F, en, rp, f⟩ := h
  refine ⟨F, en, rp, FinS.of_out f fun F' H' en' k s rp' q => ?_⟩
  cases k with
  | true => exact ⟨F', en', rp', q⟩
  | false => exact ⟨F', en', rp', q⟩
theorem ds_set {i : Nat} {x : Str} {pos' : Pos} (hN : X.N.Nodup) (hi : X.N[i]? = some x) (hx : Loc X.env.scope x) (he : DE X g W e f) (hs : swapsWith e (some (.Name x pos')) pos.line X.env = pure false := by rfl) (hf : X.fn x = true ∨ X.env.scope.names.lookup x = some .local := by first | exact .inl rfl | exact .inr rfl | assumption) :
    DS X g W (.Assign [.Name x pos'] e pos) (bSet i f) := by
  refine PS.imp (ps_set hN hi hx he hs hf) fun E σ H h => ?_
  obtain ⟨F, en, rp, f⟩ := h
  refine ⟨F, en, rp, FinS.of_out f fun F' H' en' r s rp' k v hv => ?_⟩
  cases q : stV en' i r with
  | none => rw [q] at k; exact k.elim
  | some en2 =>
    rw [q] at k
    exact k _ F' H' (Same.refl _) (rp'.stV hv q)
theorem ds_setO {i : Nat} {x : Str} {pos' : Pos} {f : Ov} (hN : X.N.Nodup) (hi : X.N[i]? = some x) (hx : Loc X.env.scope x) (he : DO X g W e f) (hs : swapsWith e (some (.Name x pos')) pos.line X.env = pure false := by rfl) (hf : X.fn x = true ∨ X.env.scope.names.lookup x = some .local := by first | exact .inl rfl | exact .inr rfl | assumption) :
    DS X g W (.Assign [.Name x pos'] e pos) (bSetO i f) := by
  refine PS.imp (ps_set hN hi hx he hs hf) fun E σ H h => ?_
  obtain ⟨F, en, rp, f⟩ := h
  refine ⟨F, en, rp, FinS.of_out f fun F' H' en' d s rp' k p H'' r2 n => ?_⟩
  cases q : putS en' i (.own false d) with
  | none => rw [q] at k; exact k.elim
  | some en2 =>
    rw [q] at k
    exact k _ F' H'' (Same.refl _) (r2.stO n q)
end

/-! ### targets, for, while -/
abbrev Tg := D → En → Option En
def tgName (i : Nat) : Tg := fun d en => putS en i (.val d)
abbrev Tgs := List D → En → Option En
def tgNil : Tgs := fun ds en => match ds with
  | [] => some en
  | _ => none
def tgCons (t : Tg) (u : Tgs) : Tgs := fun ds en => match ds with
  | d :: r => (match t d en with
    | some en1 => u r en1
    | none => none)
  | [] => none
def tgTup (u : Tgs) : Tg := fun d en => match d with
  | .tuple ds => u ds en
  | _ => none
/-- only the slots at ts differ -/
def But (ts : List Nat) (σ σ' : St) : Prop := σ'.length = σ.length ∧ ∀ k : Nat, k ∉ ts → σ'[k]? = σ[k]?
theorem But.trans {ts us : List Nat} {σ σ1 σ2 : St} (a : But ts σ σ1) (b : But us σ1 σ2) : But (ts ++ us) σ σ2 := ⟨b.1.trans a.1, fun k hk => (b.2 k fun z => hk (List.mem_append.mpr (.inr z))).trans (a.2 k fun z => hk (List.mem_append.mpr (.inl z)))⟩
def liftG (K : PySem.W.Frag) (g : Gh) (t : Tg) (ts : List Nat) : TG := fun v σ H Q => ∃ F en d en', Rep K g F en σ H ∧ Dv K F v d ∧ t d en = some en' ∧ ∀ σ', Rep K g F en' σ' H → But ts σ σ' → Q σ' H
def liftGs (K : PySem.W.Frag) (g : Gh) (t : Tgs) (ts : List Nat) : TGs := fun vs σ H Q => ∃ F en ds en', Rep K g F en σ H ∧ DvAll K F vs ds ∧ t ds en = some en' ∧ ∀ σ', Rep K g F en' σ' H → But ts σ σ' → Q σ' H
def DG (X : Cx) (g : Gh) (tg : Expr) (t : Tg) (ts : List Nat) : Prop := PG X tg (liftG X.K g t ts)
def DGs (X : Cx) (g : Gh) (tg : List Expr) (t : Tgs) (ts : List Nat) : Prop := PGs X tg (liftGs X.K g t ts)
theorem PG.imp {X : Cx} {e : Expr} {t t' : TG} (h : PG X e t) (i : ∀ v σ H Q, t' v σ H Q → t v σ H Q) : PG X e t' := ⟨fun pins s σ H v u Q I r q => h.run pins s σ H v u Q I r (i v σ H Q q)⟩
theorem PGs.imp {X : Cx} {e : List Expr} {t t' : TGs} (h : PGs X e t) (i : ∀ v σ H Q, t' v σ H Q → t v σ H Q) : PGs X e t' := ⟨fun pins s σ H v u Q I r q => h.run pins s σ H v u Q I r (i v σ H Q q)⟩
section
variable {X : Cx} {g : Gh} {W : XW} {pos : Pos} {e : Expr} {es : List Expr} {t : Tg} {u : Tgs}
theorem dg_name {i : Nat} {x : Str} (hN : X.N.Nodup) (hi : X.N[i]? = some x) (hx : Loc X.env.scope x) (hf : X.fn x = true ∨ X.env.scope.names.lookup x = some .local := by first | exact .inl rfl | exact .inr rfl | assumption) : DG X g (.Name x pos) (tgName i) [i] := by
  refine PG.imp (pg_name hN hi hx hf) fun v σ H Q h => ?_
  obtain ⟨F, en, d, en', rp, q, e, k⟩ := h
  exact k _ (rp.putV e q) ⟨List.length_set, fun j hj => List.getElem?_set_ne fun z => hj (by simp [z])⟩
theorem dgs_nil : DGs X g [] tgNil [] := by
  refine PGs.imp pgs_nil fun v σ H Q h => ?_
  obtain ⟨F, en, ds, en', rp, q, e, k⟩ := h
  cases q with
  | nil =>
    have : en = en' := Option.some.inj e
    subst this
    exact ⟨rfl, k _ rp ⟨rfl, fun _ _ => rfl⟩⟩
  | cons a b => cases e
theorem dgs_cons {ts us : List Nat} (h1 : DG X g e t ts) (h2 : DGs X g es u us) (hs : (assignEach (e :: es) X.env).map (·.2) = assign e X.env :: (assignEach es X.env).map (·.2) := by rfl) : DGs X g (e :: es) (tgCons t u) (ts ++ us) := by
  refine PGs.imp (pgs_cons h1 h2 hs) fun v σ H Q h => ?_
  obtain ⟨F, en, ds, en', rp, q, e, k⟩ := h
  cases q with
  | nil => cases e
  | cons a b =>
    rename_i v vs d ds
    unfold tgCons at e
    dsimp only at e
    cases q1 : t d en with
    | none => rw [q1] at e; cases e
    | some en1 =>
      rw [q1] at e
      exact ⟨v, vs, rfl, F, en, d, en1, rp, a, q1, fun σ' r' b1 => ⟨F, en1, ds, en', r', b, e, fun σ2 r2 b2 => k σ2 r2 (b1.trans b2)⟩⟩
theorem dg_tup {k n : Nat} {ts : List Nat} (hc : X.calm = true) (h : DGs X g es u ts) (hn : (assignEach es X.env).length = n := by rfl) (hst : (assignEach es X.env).findIdx? (·.1) = none := by rfl) (hl : ∀ ds en en', u ds en = some en' → ds.length = n) : DG X g (.Tuple es k pos) (tgTup u) ts := by
  refine PG.imp (pg_tup hc h hn hst) fun v σ H Q h => ?_
  obtain ⟨F, en, d, en', rp, q, e, k⟩ := h
  cases q <;> first | (cases e; done) | skip
  rename_i a xs ds q1 q2
  exact ⟨a, xs, rfl, sqT_mono rp.fz q1, q2.length.trans (hl ds en en' e), F, en, ds, en', rp, q2, e, k⟩
theorem tgNil_len : ∀ ds en en', tgNil ds en = some en' → ds.length = 0 := fun ds en en' e => by
  cases ds with
  | nil => rfl
  | cons a b => cases e
theorem tgCons_len {t : Tg} {u : Tgs} {n : Nat} (h : ∀ ds en en', u ds en = some en' → ds.length = n) : ∀ ds en en', tgCons t u ds en = some en' → ds.length = n + 1 := fun ds en en' e => by
  cases ds with
  | nil => cases e
  | cons a b =>
    unfold tgCons at e
    dsimp only at e
    split at e
    · exact congrArg (· + 1) (h _ _ _ e)
    · cases e
end

/-- what a loop walks: data that stand still -/
def ItOk (K : PySem.W.Frag) (F : Hp) (G : Hp → Hp → Prop) (J : It) (ds : List D) : Prop := ∀ i F1 H1, Same F F1 → Same F1 H1 → G F1 H1 →
  (∀ x, ds[i]? = some x → J.go i H1 ∧ ∀ v H2, J.yld i H1 v H2 → ∃ F2, Ext F1 H1 F2 H2 ∧ Dv K F2 v x) ∧ (ds.length = i → J.stop i H1)
abbrev Iv := En → Rs (List D)
def liftI (K : PySem.W.Frag) (g : Gh) (W : XW) (f : Iv) : TI := fun σ H R => ∃ F en, Rep K g F en σ H ∧ Fin K g W σ F (f en) fun F' H' _ ds => ∀ J, ItOk K F' (fun _ _ => True) J ds → R J H'
def DI (X : Cx) (g : Gh) (W : XW) (tg iter : Expr) (f : Iv) : Prop := PI X tg iter (liftI X.K g W f)
theorem PI.imp {X : Cx} {tg iter : Expr} {t t' : TI} (h : PI X tg iter t) (i : ∀ σ H R, t' σ H R → t σ H R) : PI X tg iter t' := ⟨fun pins s σ H R I q => h.run pins s σ H R I (i σ H R q)⟩
/-- the turns -/
def forL (tg : Tg) (body : Bd) : List D → Bd
  | [], en => .nx en
  | d :: ds, en => match tg d en with
    | none => .no
    | some en1 => (match body en1 with
      | .nx en2 => forL tg body ds en2
      | .ct en2 => forL tg body ds en2
      | .bk en2 => .nx en2
      | o => o)
def bFor (it : Iv) (tg : Tg) (body : Bd) : Bd := fun en => (it en).out fun en1 ds => forL tg body ds en1
theorem ds_for {X : Cx} {g : Gh} {W : XW} {tg iter : Expr} {body : List Stmt} {pos : Pos} {it : Iv} {t : Tg} {ts : List Nat} {b : Bd} (hp : PassesOwn (model X.prog X.w) X.A X.env X.xe) (hc : X.calm = true) (hi : DI X g W tg iter it) (hg : DG X g tg t ts) (hb : DSs X g W body b)
    (hs : ∀ x, foldedSetIterable iter X.env x = pure x := by intro _; rfl) : DS X g W (.For tg iter body [] pos) (bFor it t b) := by
  refine PS.imp (ps_for hp hc hi hg hb hs) fun E σ H h => ?_
  obtain ⟨F, en, rp, f⟩ := h
  refine ⟨F, en, rp, FinS.of_out f fun F1 H1 en1 ds s1 r1 f1 J hJ => ?_⟩
  refine ⟨fun i m σ H => m = ds.length - i ∧ i ≤ ds.length ∧ ∃ F2 en2, Same F1 F2 ∧ Rep X.K g F2 en2 σ H ∧ FinS X.K g W F2 (forL t b (ds.drop i) en2) E, ⟨ds.length, by simp, Nat.zero_le _, F1, en1, Same.refl _, r1, f1⟩, ?_⟩
  rintro i m σ H ⟨rfl, hi, F2, en2, s2, r2, f2⟩
  obtain ⟨j1, j2⟩ := hJ i F2 H s2 r2.fz trivial
  by_cases hlt : i < ds.length
  · have e1 : ds[i]? = some ds[i] := List.getElem?_eq_getElem hlt
    obtain ⟨g1, g2⟩ := j1 _ e1
    have ed : ds.drop i = ds[i] :: ds.drop (i + 1) := List.drop_eq_getElem_cons hlt
    rw [ed] at f2
    unfold forL at f2
    refine .inr ⟨g1, fun σ' H' => ∃ F3 en3, Same F1 F3 ∧ Rep X.K g F3 en3 σ' H' ∧ FinS X.K g W F3 (forL t b (ds.drop (i + 1)) en3) E, fun σ' H' ⟨F3, en3, z1, z2, z3⟩ => ⟨ds.length - (i + 1), by omega, rfl, hlt, F3, en3, z1, z2, z3⟩, fun v H' y => ?_⟩
    obtain ⟨F3, x3, q3⟩ := g2 v H' y
    have r3 := r2.ext x3
    cases e2 : t ds[i] en2 with
    | none => rw [e2] at f2; exact f2.elim
    | some en3 =>
      rw [e2] at f2
      dsimp only at f2
      have f2 := FinS.weak x3.le f2
      refine ⟨F3, en2, ds[i], en3, r3, q3, e2, fun σ' r' _ => ⟨F3, en3, r', ?_⟩⟩
      cases e3 : b en3 with
      | nx en4 =>
        rw [e3] at f2
        exact fun σ4 F4 H4 s4 r4 => ⟨F4, en4, s2.trans (x3.le.trans s4), r4, FinS.weak s4 f2⟩
      | ct en4 =>
        rw [e3] at f2
        exact fun σ4 F4 H4 s4 r4 => ⟨F4, en4, s2.trans (x3.le.trans s4), r4, FinS.weak s4 f2⟩
      | bk en4 => rw [e3] at f2; exact f2
      | rt en4 r => rw [e3] at f2; exact f2
      | ex en4 x => rw [e3] at f2; exact f2
      | no => rw [e3] at f2; exact f2
  · have e1 : i = ds.length := by omega
    rw [List.drop_of_length_le (by omega)] at f2
    exact .inl ⟨j2 (by omega), f2 σ F2 H (Same.refl _) r2⟩
/-- while, at most so many turns -/
def whileN (c : Tv) (body : Bd) : Nat → Bd
  | 0, _ => .no
  | n + 1, en => (c en).out fun en1 k => if k = true then (match body en1 with
      | .nx en2 => whileN c body n en2
      | .ct en2 => whileN c body n en2
      | .bk en2 => .nx en2
      | o => o) else .nx en1
theorem ds_while {X : Cx} {g : Gh} {W : XW} {c : Expr} {body : List Stmt} {pos : Pos} {t : Tv} {b : Bd} (n : Nat) (hp : PassesOwn (model X.prog X.w) X.A X.env X.xe) (hc : DT X g W c t) (hb : DSs X g W body b) : DS X g W (.While c body [] pos) (whileN t b n) := by
  refine PS.imp (ps_while hp hc hb) fun E σ H h => ?_
  obtain ⟨F, en, rp, f⟩ := h
  refine ⟨fun m σ H => ∃ F2 en2, Rep X.K g F2 en2 σ H ∧ FinS X.K g W F2 (whileN t b m en2) E, ⟨n, F, en, rp, f⟩, ?_⟩
  rintro m σ H ⟨F2, en2, r2, f2⟩
  cases m with
  | zero => exact f2.elim
  | succ m =>
    refine ⟨F2, en2, r2, FinS.of_out f2 fun F3 H3 en3 k s3 r3 f3 => ?_⟩
    cases k with
    | false => exact f3 σ F3 H3 (Same.refl _) r3
    | true =>
      rw [if_pos rfl] at f3 ⊢
      refine ⟨fun σ' H' => ∃ F4 en4, Rep X.K g F4 en4 σ' H' ∧ FinS X.K g W F4 (whileN t b m en4) E, fun σ' H' z => ⟨m, Nat.lt_succ_self m, z⟩, F3, en3, r3, ?_⟩
      cases e3 : b en3 with
      | nx en4 =>
        rw [e3] at f3
        exact fun σ4 F4 H4 s4 r4 => ⟨F4, en4, r4, FinS.weak s4 f3⟩
      | ct en4 =>
        rw [e3] at f3
        exact fun σ4 F4 H4 s4 r4 => ⟨F4, en4, r4, FinS.weak s4 f3⟩
      | bk en4 => rw [e3] at f3; exact f3
      | rt en4 r => rw [e3] at f3; exact f3
      | ex en4 x => rw [e3] at f3; exact f3
      | no => rw [e3] at f3; exact f3
end DL
/-! Dl6: a def's worth from its body; raise; try .. except X as e. -/
namespace DL
open PySem PySem.Spec L2
open PyProof.Rows hiding St

def arSl : Ar → Sl
  | .v d => .val d
  | .o d => .own true d
def startEn (n : Nat) (as : List Ar) : En := as.map arSl ++ List.replicate (n - as.length) .un
def outsOf (en : En) : Nat → List Ar → Option (List D)
  | _, [] => some []
  | i, .v _ :: as => outsOf en (i + 1) as
  | i, .o _ :: as => match en[i]? with
    | some (.own true d) => (match outsOf en (i + 1) as with
      | some ds => some (d :: ds)
      | none => none)
    | _ => none
def endFn (as : List Ar) (o : Out) : Rf := match o with
  | .rt en r => (match outsOf en 0 as with
    | some os => .ok r os
    | none => .no)
  | .nx en => (match outsOf en 0 as with
    | some os => .ok (.v .none) os
    | none => .no)
  | .ex en x => (match outsOf en 0 as with
    | some os => .ex x os
    | none => .no)
  | _ => .no
/-- a def of m parameters and n names -/
def runFn (m n : Nat) (b : Bd) : Fs := fun as => if as.length = m then endFn as (b (startEn n as)) else .no

section
variable {K : PySem.W.Frag} {g : Gh} {F H : Hp}
theorem ArgsOk.length : ∀ {vs : List V} {as : List Ar} {ps : List Addr}, ArgsOk K F H vs as ps → vs.length = as.length
  | [], [], [], _ => rfl
  | _ :: vs, .v d :: as, ps, h => congrArg (· + 1) (ArgsOk.length h.2)
  | _ :: vs, .o d :: as, p :: ps, h => congrArg (· + 1) (ArgsOk.length h.2.2.2)
  | [], [], _ :: _, h => h.elim
  | [], .v _ :: _, _, h => h.elim
  | [], .o _ :: _, _, h => by cases h
  | _ :: _, [], _, h => by cases h
  | _ :: _, .o _ :: _, [], h => h.elim
/-- the places of the owned parameters -/
def parL : Nat → List Ar → List Addr → List (Nat × Addr)
  | i, .v _ :: as, ps => parL (i + 1) as ps
  | i, .o _ :: as, p :: ps => (i, p) :: parL (i + 1) as ps
  | _, _, _ => []
/-- the slots of the start, one by one -/
theorem start_at : ∀ {vs : List V} {as : List Ar} {ps : List Addr}, ArgsOk K F H vs as ps → ∀ (k : Nat) (s : Sl), (as.map arSl)[k]? = some s →
    ∃ v, vs[k]? = some v ∧ ((∃ d, s = .val d ∧ Dv K F v d) ∨ ∃ p d, s = .own true d ∧ v = .ref p ∧ p ∈ ps ∧ OwnAt K F H p d ∧ F p = none)
  | [], [], [], _, k, s, e => by simp at e
  | v :: vs, .v d :: as, ps, h, 0, s, e => by
    have : arSl (.v d) = s := by simpa using e
    subst this
    exact ⟨v, rfl, .inl ⟨d, rfl, h.1⟩⟩
  | v :: vs, .v d :: as, ps, h, k + 1, s, e => by
    obtain ⟨u, e1, q⟩ := start_at h.2 k s (by simpa using e)
    exact ⟨u, by simpa using e1, q⟩
  | v :: vs, .o d :: as, p :: ps, h, 0, s, e => by
    have : arSl (.o d) = s := by simpa using e
    subst this
    exact ⟨v, rfl, .inr ⟨p, d, rfl, h.1, List.mem_cons_self, h.2.1, h.2.2.1⟩⟩
  | v :: vs, .o d :: as, p :: ps, h, k + 1, s, e => by
    obtain ⟨u, e1, q⟩ := start_at h.2.2.2 k s (by simpa using e)
    refine ⟨u, by simpa using e1, ?_⟩
    rcases q with q | ⟨p', d', z1, z2, z3, z4⟩
    · exact .inl q
    · exact .inr ⟨p', d', z1, z2, List.mem_cons_of_mem _ z3, z4⟩
  | [], [], _ :: _, h, _, _, _ => h.elim
  | [], .v _ :: _, _, h, _, _, _ => h.elim
  | [], .o _ :: _, _, h, _, _, _ => by cases h
  | _ :: _, [], _, h, _, _, _ => by cases h
  | _ :: _, .o _ :: _, [], h, _, _, _ => h.elim
theorem start_sep : ∀ {vs : List V} {as : List Ar} {ps : List Addr}, ArgsOk K F H vs as ps → ps.Nodup → ∀ (i j : Nat) (b c : Bool) (d e : D), i ≠ j → (as.map arSl)[i]? = some (.own b d) → (as.map arSl)[j]? = some (.own c e) → vs[i]? ≠ vs[j]?
  | [], [], [], _, _, i, j, b, c, d, e, _, h1, _ => by simp at h1
  | v :: vs, .v d :: as, ps, h, n, 0, j, b, c, d', e, _, h1, _ => by simp [arSl] at h1
  | v :: vs, .v d :: as, ps, h, n, i + 1, 0, b, c, d', e, _, _, h2 => by simp [arSl] at h2
  | v :: vs, .v d :: as, ps, h, n, i + 1, j + 1, b, c, d', e, hne, h1, h2 => by
    have := start_sep h.2 n i j b c d' e (by omega) (by simpa using h1) (by simpa using h2)
    simpa using this
  | v :: vs, .o d :: as, p :: ps, h, n, 0, 0, b, c, d', e, hne, _, _ => absurd rfl hne
  | v :: vs, .o d :: as, p :: ps, h, n, 0, j + 1, b, c, d', e, hne, h1, h2 => by
    obtain ⟨n1, n2⟩ := List.nodup_cons.mp n
    obtain ⟨u, e1, q⟩ := start_at h.2.2.2 j _ (by simpa using h2)
    rcases q with ⟨d2, q, _⟩ | ⟨p', d2, q, z2, z3, _⟩
    · cases q
    · have hv := h.1
      subst z2 hv
      simp only [List.getElem?_cons_zero, List.getElem?_cons_succ, e1]
      intro z
      cases z
      exact n1 z3
  | v :: vs, .o d :: as, p :: ps, h, n, i + 1, 0, b, c, d', e, hne, h1, h2 => by
    obtain ⟨n1, n2⟩ := List.nodup_cons.mp n
    obtain ⟨u, e1, q⟩ := start_at h.2.2.2 i _ (by simpa using h1)
    rcases q with ⟨d2, q, _⟩ | ⟨p', d2, q, z2, z3, _⟩
    · cases q
    · have hv := h.1
      subst z2 hv
      simp only [List.getElem?_cons_zero, List.getElem?_cons_succ, e1]
      intro z
      cases z
      exact n1 z3
  | v :: vs, .o d :: as, p :: ps, h, n, i + 1, j + 1, b, c, d', e, hne, h1, h2 => by
    have := start_sep h.2.2.2 (List.nodup_cons.mp n).2 i j b c d' e (by omega) (by simpa using h1) (by simpa using h2)
    simpa using this
  | [], [], _ :: _, h, _, _, _, _, _, _, _, _, _, _ => h.elim
  | [], .v _ :: _, _, h, _, _, _, _, _, _, _, _, _, _ => h.elim
  | [], .o _ :: _, _, h, _, _, _, _, _, _, _, _, _, _ => by cases h
  | _ :: _, [], _, h, _, _, _, _, _, _, _, _, _, _ => by cases h
  | _ :: _, .o _ :: _, [], h, _, _, _, _, _, _, _, _, _, _ => h.elim
theorem parL_at : ∀ {vs : List V} {as : List Ar} {ps : List Addr}, ArgsOk K F H vs as ps → ∀ (m i : Nat) (p : Addr), (i, p) ∈ parL m as ps → m ≤ i ∧ vs[i - m]? = some (.ref p) ∧ ∃ d, (as.map arSl)[i - m]? = some (.own true d)
  | [], [], [], _, m, i, p, h => by cases h
  | v :: vs, .v d :: as, ps, h, m, i, p, hm => by
    obtain ⟨h1, h2, d', h3⟩ := parL_at h.2 (m + 1) i p hm
    have e : i - m = (i - (m + 1)) + 1 := by omega
    rw [e]
    exact ⟨by omega, by simpa using h2, d', by simpa using h3⟩
  | v :: vs, .o d :: as, q :: ps, h, m, i, p, hm => by
    rcases List.mem_cons.mp hm with e | hm
    · cases e
      have hv := h.1
      subst hv
      simp [arSl]
    · obtain ⟨h1, h2, d', h3⟩ := parL_at h.2.2.2 (m + 1) i p hm
      have e : i - m = (i - (m + 1)) + 1 := by omega
      rw [e]
      exact ⟨by omega, by simpa using h2, d', by simpa using h3⟩
  | [], [], _ :: _, h, _, _, _, _ => h.elim
  | [], .v _ :: _, _, h, _, _, _, _ => h.elim
  | [], .o _ :: _, _, h, _, _, _, _ => by cases h
  | _ :: _, [], _, h, _, _, _, _ => by cases h
  | _ :: _, .o _ :: _, [], h, _, _, _, _ => h.elim
theorem args_alive : ∀ {vs : List V} {as : List Ar} {ps : List Addr}, ArgsOk K F H vs as ps → ∀ p ∈ ps, H p ≠ none
  | [], [], [], _, p, h => by cases h
  | v :: vs, .v d :: as, ps, h, p, hm => args_alive h.2 p hm
  | v :: vs, .o d :: as, q :: ps, h, p, hm => by
    rcases List.mem_cons.mp hm with e | hm
    · subst e; exact h.2.1.ne
    · exact args_alive h.2.2.2 p hm
  | [], [], _ :: _, h, _, _ => h.elim
  | [], .v _ :: _, _, h, _, _ => h.elim
  | [], .o _ :: _, _, h, _, _ => by cases h
  | _ :: _, [], _, h, _, _ => by cases h
  | _ :: _, .o _ :: _, [], h, _, _ => h.elim
/-- the start's likeness -/
theorem rep_start {N : List Str} {vs : List V} {as : List Ar} {ps : List Addr} (s : Same F H) (a : ArgsOk K F H vs as ps) (n : ps.Nodup) : Rep K ⟨F, H, ps, parL 0 as ps, []⟩ F (startEn N.length as) (L2.start N vs) H := by
  have len := a.length
  have low : ∀ {k : Nat} {sl : Sl}, (startEn N.length as)[k]? = some sl → sl ≠ .un → (as.map arSl)[k]? = some sl := fun {k sl} e ne => by
    unfold startEn at e
    by_cases hk : k < (as.map arSl).length
    · rw [List.getElem?_append_left hk] at e; exact e
    · rw [List.getElem?_append_right (by omega)] at e
      have := List.mem_of_getElem? e
      exact absurd (List.eq_of_mem_replicate this) ne
  have slot : ∀ {k : Nat} {v : V}, vs[k]? = some v → (L2.start N vs)[k]? = some (some v) := fun {k v} e => by
    unfold L2.start
    have hk := (List.getElem?_eq_some_iff.mp e).1
    rw [List.getElem?_append_left (by simpa using hk), List.getElem?_map, e]
    rfl
  refine ⟨s, fun _ _ e _ => e, args_alive a, fun _ e _ _ => e, by unfold startEn L2.start; simp [len], fun k d e => ?_, fun k b d e => ?_, fun k j e => ?_, fun i j b c d e hne e1 e2 => ?_, fun i p hm => ?_, fun i p hm => by cases hm⟩
  · obtain ⟨v, e1, q⟩ := start_at a k _ (low e fun z => by cases z)
    rcases q with ⟨d', q, dv⟩ | ⟨p, d', q, _⟩
    · cases q; exact ⟨v, slot e1, dv⟩
    · cases q
  · obtain ⟨v, e1, q⟩ := start_at a k _ (low e fun z => by cases z)
    rcases q with ⟨d', q, dv⟩ | ⟨p, d', q, rfl, z1, z2, z3⟩
    · cases q
    · cases q; exact ⟨p, slot e1, z2, z3, .inl z1⟩
  · obtain ⟨v, e1, q⟩ := start_at a k _ (low e fun z => by cases z)
    rcases q with ⟨d', q, dv⟩ | ⟨p, d', q, _⟩ <;> cases q
  · have h1 := low e1 fun z => by cases z
    have h2 := low e2 fun z => by cases z
    obtain ⟨v, x1, _⟩ := start_at a i _ h1
    obtain ⟨u, x2, _⟩ := start_at a j _ h2
    rw [slot x1, slot x2]
    intro z
    exact start_sep a n i j b c d e hne h1 h2 (by rw [x1, x2]; exact Option.some.inj z)
  · obtain ⟨_, h2, d, h3⟩ := parL_at a 0 i p hm
    refine ⟨slot h2, d, ?_⟩
    unfold startEn
    rw [Nat.sub_zero] at h3
    rw [List.getElem?_append_left (List.getElem?_eq_some_iff.mp h3).1]
    exact h3
theorem outs_ok {g : Gh} {en : En} {σ : St} : ∀ {vs : List V} {as : List Ar} {ps : List Addr} {F0 H0 : Hp} {m : Nat} {os : List D}, ArgsOk K F0 H0 vs as ps → (∀ x ∈ parL m as ps, x ∈ g.Pl) → Rep K g F en σ H → outsOf en m as = some os → OutsOk K F H ps os
  | [], [], [], _, _, m, os, _, _, _, e => by
    cases e
    trivial
  | v :: vs, .v d :: as, ps, _, _, m, os, h, hp, r, e => outs_ok h.2 hp r e
  | v :: vs, .o d :: as, p :: ps, _, _, m, os, h, hp, r, e => by
    unfold outsOf at e
    split at e
    · rename_i d' e1
      split at e
      · rename_i ds e2
        cases e
        have hm := hp (m, p) List.mem_cons_self
        obtain ⟨z1, _⟩ := r.pl m p hm
        obtain ⟨q, z2, z3, z4, _⟩ := r.own m true d' e1
        rw [z1] at z2
        cases z2
        exact ⟨z3, z4, outs_ok h.2.2.2 (fun x hx => hp x (List.mem_cons_of_mem _ hx)) r e2⟩
      · cases e
    · cases e
  | [], [], _ :: _, _, _, _, _, h, _, _, _ => h.elim
  | [], .v _ :: _, _, _, _, _, _, h, _, _, _ => h.elim
  | [], .o _ :: _, _, _, _, _, _, h, _, _, _ => by cases h
  | _ :: _, [], _, _, _, _, _, h, _, _, _ => by cases h
  | _ :: _, .o _ :: _, [], _, _, _, _, h, _, _, _ => h.elim
end

/-- what may be changed stands at its slots -/
def Full (g : Gh) : Prop := ∀ p ∈ g.Ps, ∃ i, (i, p) ∈ g.Pl
section
variable {K : PySem.W.Frag}
theorem parL_full : ∀ {as : List Ar} {ps : List Addr} {F H : Hp} {vs : List V} (m : Nat), ArgsOk K F H vs as ps → ∀ p ∈ ps, ∃ i, (i, p) ∈ parL m as ps
  | [], [], _, _, [], _, _, p, h => by cases h
  | .v _ :: as, ps, F, H, v :: vs, m, a, p, h => by
    obtain ⟨i, hi⟩ := parL_full (m + 1) a.2 p h
    exact ⟨i, hi⟩
  | .o _ :: as, q :: ps, F, H, v :: vs, m, a, p, h => by
    rcases List.mem_cons.mp h with rfl | h
    · exact ⟨m, List.mem_cons_self⟩
    · obtain ⟨i, hi⟩ := parL_full (m + 1) a.2.2.2 p h
      exact ⟨i, List.mem_cons_of_mem _ hi⟩
  | [], _ :: _, _, _, [], _, h, _, _ => h.elim
  | .v _ :: _, _, _, _, [], _, h, _, _ => h.elim
  | .o _ :: _, _, _, _, [], _, h, _, _ => by cases h
  | [], _, _, _, _ :: _, _, h, _, _ => by cases h
  | .o _ :: _, [], _, _, _ :: _, _, h, _, _ => h.elim
end
/-- the wish of a def's own way out -/
abbrev WHf (K : PySem.W.Frag) (mg : Str → Option Value) (E : XK) : XW := WH K mg fun cls d _ H => E cls d H
section
variable {P : Program} {w : World} {K : PySem.W.Frag} {mg : Str → Option Value} {base : Heap}
/-- THE RULE for a def: what its body means is what it is worth -/
theorem mkFn {x qual : Str} {st : Stmt} {f : Addr} {fd : FuncData} {N ps : List Str} {k : Nat} {b : Bd} (F : Fun K x qual st f fd) (S : FnScope N ps (defScope st))
    (hb : ∀ (cdv : Value) (A : Around) (outer : List Env) (s : Shared) (H : Hp) (E : XK) (g : Gh), Full g → Room k (A.deeper (envOfC qual (defScope st) s.heap.objs.size f cdv)) →
      DSs (cxOf (L2.CX P w) P w K mg base N qual (defScope st) f cdv A outer s H E) g (WHf K mg E) (defBody st) b) : FnOk P w K mg base (L2.CX P w) (k + 1) f fd ps (spF K mg (runFn ps.length N.length b)) := by
  refine F.okX S (fun vs H Q E h => ?_) (fun cdv A outer s H vs Q E hr h => ?_)
  · obtain ⟨F, as, ps', _, a, _, m⟩ := h
    unfold runFn at m
    by_cases hl : as.length = ps.length
    · rw [a.length, hl]
    · rw [if_neg hl] at m; exact m.elim
  · obtain ⟨F, as, ps', sF, a, nd, m⟩ := h
    refine ⟨_, hb cdv A outer s H E ⟨F, H, ps', parL 0 as ps', []⟩ (fun p hp => parL_full 0 a p hp) hr, F, startEn N.length as, rep_start sF a nd, ?_⟩
    unfold runFn at m
    by_cases hl : as.length = ps.length
    · rw [if_pos hl] at m
      have ext : ∀ {en : En} {σ : St} {F' H' : Hp}, Same F F' → Rep K ⟨F, H, ps', parL 0 as ps', []⟩ F' en σ H' → CallExt F H ps' F' H' := fun s r => ⟨r.fr, s, r.fz, r.nw⟩
      have outs : ∀ {en : En} {σ : St} {F' H' : Hp} {os : List D}, Rep K ⟨F, H, ps', parL 0 as ps', []⟩ F' en σ H' → outsOf en 0 as = some os → OutsOk K F' H' ps' os := fun r e => outs_ok a (fun _ h => h) r e
      cases e1 : b (startEn N.length as) with
      | nx en =>
        rw [e1] at m
        unfold endFn at m
        dsimp only at m
        cases e2 : outsOf en 0 as with
        | none => rw [e2] at m; exact m.elim
        | some os =>
          rw [e2] at m
          exact fun σ' F' H' s r => m .non F' H' (ext s r) (outs r e2) .non
      | rt en rr =>
        rw [e1] at m
        unfold endFn at m
        dsimp only at m
        cases e2 : outsOf en 0 as with
        | none => rw [e2] at m; exact m.elim
        | some os =>
          rw [e2] at m
          refine fun v σ' F' H' s r q => m v F' H' (ext s r) (outs r e2) ?_
          cases rr with
          | v d => exact q
          | o d => exact q
      | ex en x =>
        rw [e1] at m
        unfold endFn at m
        dsimp only at m
        cases e2 : outsOf en 0 as with
        | none => rw [e2] at m; exact m.elim
        | some os =>
          rw [e2] at m
          exact fun σ' F' H' s r cls dx er => m F' H' cls dx (ext s r) (outs r e2) er
      | bk en => rw [e1] at m; exact m.elim
      | ct en => rw [e1] at m; exact m.elim
      | no => rw [e1] at m; exact m.elim
    · rw [if_neg hl] at m; exact m.elim
theorem Callee.mk' {x qual : Str} {st : Stmt} {f : Addr} {fd : FuncData} {ps : List Str} {k : Nat} {fs : Fs} (F : Fun K x qual st f fd) (hm : mg x = some (.ref f)) (h : FnOk P w K mg base (L2.CX P w) k f fd ps (spF K mg fs)) (hb : Binds K fd ps []) : Callee P w K mg base x k fs :=
  ⟨f, fd, ps, hm, h, F.kp, hb⟩
/-- a def's worth, told otherwise -/
theorem Callee.imp {x : Str} {k : Nat} {fs fs' : Fs} (C : Callee P w K mg base x k fs) (h : ∀ as, fs' as = .no ∨ fs as = fs' as) : Callee P w K mg base x k fs' := by
  obtain ⟨f, fd, ps, hm, F, kp, hb⟩ := C.ex
  refine ⟨f, fd, ps, hm, F.imp fun vs H Q E q => ?_, kp, hb⟩
  obtain ⟨F, as, ps', sF, a, nd, m⟩ := q
  refine ⟨F, as, ps', sF, a, nd, ?_⟩
  rcases h as with e | e
  · rw [e] at m; exact m.elim
  · rw [e]; exact m
theorem Callee.mono {x : Str} {j k : Nat} {fs : Fs} (C : Callee P w K mg base x j fs) (h : j ≤ k) : Callee P w K mg base x k fs := by
  obtain ⟨f, fd, ps, hm, F, kp, hb⟩ := C.ex
  exact ⟨f, fd, ps, hm, F.mono h, kp, hb⟩
end

/-! ### raise -/
/-- an own class of errors without own __init__ (or one whose own class above has none) -/
structure OwnX (K : PySem.W.Frag) (mg : Str → Option Value) (x : Str) : Prop where
  ex : ∃ C, mg x = some (.ref C) ∧ PySem.W.excIn K C [.type "ValueError", .type "Exception", .type "BaseException", .type "object"] "ValueError.__new__" = true ∧ PySem.W.keepIn K (.ref C) = true ∧
    PySem.W.subIn K (.ref C) (.type "BaseException") = some true ∧ PySem.W.typeIn K (.ref C) = some (.type "type")
def bRaise (x : Str) : Bd := fun en => .ex en ⟨x, []⟩
theorem ds_raise {X : Cx} {g : Gh} {Wh : WX} {x m : Str} {j : Nat} {p p2 pos pos' : Pos} (hc : X.calm = true) (O : OwnX X.K X.mg x) (tk : Takes X Wh) (hg : Gl X x) (hdb : (x == ("__debug__" : Str)) = false := by decide) :
    DS X g (WH X.K X.mg Wh) (.Raise (some (.Call (.Name x p) [.Constant (.str m) j p2] [] pos')) none pos) (bRaise x) := by
  obtain ⟨C, gC, q, kC, h1, h2⟩ := O.ex
  refine PS.imp (ps_raise hc tk (pmk_own PySem.F.excBase_ValueError q gC kC (raises_own h1 h2) hg hdb)) fun E σ H h => ?_
  obtain ⟨F, en, rp, f⟩ := h
  exact f σ F H (Same.refl _) rp (.ref C) none ⟨gC, .inl ⟨rfl, rfl⟩⟩
end DL
/-! Dit: for i, x in enumerate(a tuple). -/
namespace DL
open PySem PySem.Spec L2
open PyProof.Rows hiding St

/-! ### enumerate(v), of whatever begins -/
set_option maxHeartbeats 1000000 in
theorem meets_enum1 {v : Value} {o : Obj} {Hq : Heap → Prop} (Bg : Begins v o Hq) :
    Meets (Builtin.«enumerate.__new__» ⟨[Value.type "enumerate", v], []⟩) (fun _ R sh => Hq sh.heap ∧
      R (.ok (.ret (.ref (sh.heap.push o).objs.size))) { sh with heap := (sh.heap.push o).push { cls := .type "enumerate", data := .fields #[.none, .bool false, .ref sh.heap.objs.size, rawInt 0, .none, .none] } }) :=
  Meets.of_wp fun prog w A R sh hyp => by
    obtain ⟨hp, gg, dd, tk, os⟩ := sh
    obtain ⟨hq, hyp⟩ := hyp
    have hsub := sub_enumerate
    have qq : ∀ {B : Around} {E : Value → Shared → Prop} {Q : Value → Shared → Prop}, Q (.ref hp.objs.size) ⟨hp.push o, gg, dd, tk, os⟩ → wpAny (model prog w) B (pyIter v) Q E ⟨hp, gg, dd, tk, os⟩ :=
      fun z => Bg.iter prog w _ _ ⟨hp, gg, dd, tk, os⟩ _ hq z
    wp_walk using qq
    refine wpAny_stack_any fun stk => wpAny_pure ?_
    split
    · rename_i cc _ _ _ _ _
      cases (cc == Value.type "enumerate")
      · wp_walk using qq
        exact ⟨_, rfl, hyp⟩
      · wp_walk using qq
        exact ⟨_, rfl, hyp⟩
    · wp_walk using qq
      exact ⟨_, rfl, hyp⟩
section
variable {prog : Program} {w : World} {A : Around} {E : Value → Shared → Prop} {s : Shared}
theorem enum_begins1 {v : Value} {o : Obj} {Hq : Heap → Prop} {Q : Value → Shared → Prop} (Bg : Begins v o Hq) (h1 : Hq s.heap)
    (fin : ∀ h', IsEnum h' (s.heap.objs.size + 1) s.heap.objs.size 0 .none → h'.get? s.heap.objs.size = some o → h'.objs.size = s.heap.objs.size + 2 →
      (∀ c u, s.heap.get? c = some u → h'.get? c = some u) → Q (.ref (s.heap.objs.size + 1)) { s with heap := h' }) :
    wpAny (model prog w) A (call (Value.type "enumerate") [v]) Q E s := by
  refine callType_new F.called_enumerate (by decide) (F.typeCall_enumerate_1 v) (F.newCall_enumerate_1 v) (fun ob => F.args_object_init_2 ob v) F.entry_enumerate_new (meets_enum1 Bg) ⟨h1, ?_⟩
  have zz : (s.heap.push o).objs.size = s.heap.objs.size + 1 := Heap.size_push s.heap o
  show _ ∧ _
  rw [zz]
  have he : IsEnum ((s.heap.push o).push { cls := .type "enumerate", data := .fields #[.none, .bool false, .ref s.heap.objs.size, rawInt 0, .none, .none] }) (s.heap.objs.size + 1) s.heap.objs.size 0 .none := by
    have q := Heap.get?_push_size (s.heap.push o) (o := { cls := .type "enumerate", data := .fields #[.none, .bool false, .ref s.heap.objs.size, rawInt 0, .none, .none] }) rfl
    rw [zz] at q; exact q
  refine ⟨⟨_, he, rfl⟩, fin _ he (Heap.get?_push_of_some _ (Heap.get?_push_size _ Bg.free)) (by rw [Heap.size_push, zz]) fun c u z => Heap.get?_push_of_some _ (Heap.get?_push_of_some _ z)⟩
end

/-! ### over the layer -/
def IteT (K : PySem.W.Frag) (a : Addr) : It :=
  ⟨fun i H => ∃ (xs : List V) (x : V), SqT K H a xs ∧ xs[i]? = some x, fun i H v H' => ∃ T x, v = .ref T ∧ H T = none ∧ H' = upd H T (.tup [.int (i : Nat), x]) ∧ ∀ xs, SqT K H a xs → xs[i]? = some x,
    fun i H => ∃ xs : List V, SqT K H a xs ∧ xs.length = i⟩
theorem turn_enumT {P : Program} {w : World} {K : PySem.W.Frag} {elts : List Expr} {kk : Nat} {tpos : Pos} (a e it : Addr) :
    Turn P w K (.Tuple elts kk tpos) (IteT K a) [e, it] e (fun i h => (∃ old, IsEnum h e it ((i : Nat) : Int) old) ∧ h.IsTupleIter it a i ∧ e ≠ it ∧ a ≠ e ∧ a ≠ it) where
  mem := by simp
  obj := fun i h st b hb => by
    obtain ⟨⟨old, he⟩, ⟨o, ho, hc, hd⟩, _⟩ := st
    have z : b = e ∨ b = it := by simpa using hb
    rcases z with rfl | rfl
    · exact ⟨_, he, fun v q => nomatch q⟩
    · exact ⟨o, ho, fun v q => by rw [hd] at q; cases q⟩
  keep := fun i h h' st k => let ⟨⟨old, he⟩, hi, hne⟩ := st; ⟨⟨old, k e (by simp) _ he⟩, hi.at fun o q => k it (by simp) o q, hne⟩
  item := by
    intro X hP hw hK hc i pins s σ H E I hf st hg
    subst hP hw hK
    obtain ⟨⟨old, he⟩, hit, hne, hae, hai⟩ := st
    obtain ⟨xs, x, hq, hx⟩ := hg
    obtain ⟨its, rv, p, hz⟩ := I.tuple hq
    obtain ⟨u, hu, ru⟩ := rv.get hx
    have pt : s.heap.IsTuple a its.toArray := p
    have lt : i < its.toArray.size := by
      have := (List.getElem?_eq_some_iff.mp hu).1
      simpa using this
    have hel : e < s.heap.objs.size := Heap.lt_size he
    have hil : it < s.heap.objs.size := by obtain ⟨_, q, _⟩ := hit; exact Heap.lt_size q
    refine wpAny_pyNext_enum_itemC (Draws.tuple (A := X.A.in1) (I.ok.hd hc) it a hai its.toArray) he ⟨hit, pt⟩ lt hne (by simp; exact ⟨hne, fun z => hae z.symm⟩) fun y h' tk hP ho hst hT hsz hk => ?_
    have ey : u = y := by
      have q : its.toArray[i]? = some y := hP
      rw [← Array.getElem?_toList] at q
      rw [show its.toArray.toList = its from rfl, hu] at q
      exact Option.some.inj q
    subst ey
    refine ⟨_, rfl, wpAny_letOwnedTupleGo_enum (s := { s with heap := h', toks := tk + 1 }) ho fun h'' he' sb => ?_⟩
    have hT2 : h''.get? s.heap.objs.size = some { cls := .type "tuple", data := .seq #[.int i tk, u] } := (sb.2 _ (Nat.ne_of_gt hel)).trans hT
    have new : ObjOk X.prog X.w (upd H s.heap.objs.size (.tup [.int (i : Nat), x])) h'' s.heap.objs.size (.tup [.int (i : Nat), x]) :=
      ⟨by show 2 ≤ sizeLine; decide, [.int i tk, u], .cons ⟨_, rfl⟩ (.cons ru .nil), ⟨_, hT2, rfl, _, rfl⟩⟩
    have I1 : Inv X pins σ (upd H s.heap.objs.size (.tup [.int (i : Nat), x])) { s with heap := h'', toks := tk + 1 } :=
      I.turnedNew (ch := [e, it]) (fun b ob hb q => (sb.2 b (fun z => hb (by simp [z]))).trans (hk b ob (fun z => hb (by simp [z])) (fun z => hb (by simp [z])) q)) hf (Nat.le_refl _) new
    refine ⟨.ref s.heap.objs.size, _, I1, rfl, ⟨_, x, rfl, I.hok.fresh (Nat.le_refl _), rfl, fun ys hy => by rw [I.tuple_inj hy hq]; exact hx⟩, ⟨⟨u, ?_⟩, hst.1.at fun o q => (sb.2 it (Ne.symm hne)).trans q, hne, hae, hai⟩, fun b hb => ?_⟩
    · rw [show ((i + 1 : Nat) : Int) = (i : Int) + 1 from by omega]
      exact he'
    · have hb' : b < s.heap.objs.size := by
        have z : b = e ∨ b = it := by simpa using hb
        rcases z with rfl | rfl
        · exact hel
        · exact hil
      rw [upd_ne (Nat.ne_of_lt hb')]
      exact (hf b hb).1
  done := by
    intro X hP hw hK hc i pins s σ H E I hf st hg
    subst hP hw hK
    obtain ⟨⟨old, he⟩, hit, hne, hae, hai⟩ := st
    obtain ⟨xs, hq, hx⟩ := hg
    obtain ⟨its, rv, p, hz⟩ := I.tuple hq
    have pt : s.heap.IsTuple a its.toArray := p
    obtain ⟨f0, f1, f2, f3, f4, f5⟩ := hf it (by simp)
    have hl := rv.length
    have hn : its.toArray.size = i := by rw [← hx, hl]; simp
    exact wpAny_pyNext_enum_endD (Draws.tuple (prog := X.prog) (w := X.w) (A := X.A.in1) (I.ok.hd hc) it a hai its.toArray) he (by rw [hn]; exact ⟨hit, pt⟩) fun h' eb => ⟨rfl, I.turned (t' := s.toks) (fun b o hb q => eb b o hb q) f0 f1 f3 f4 f5⟩
  self := fun A i s Q E st h => let ⟨⟨_, he⟩, _⟩ := st; wpAny_pyIter_enum he h
def iEnumT (K : PySem.W.Frag) (ta : TA) : TI := fun σ H R => ta σ H fun vs H1 => ∃ a xs, vs = [.ref a] ∧ SqT K H1 a xs ∧ R (IteT K a) H1
theorem pi_enumT {X : Cx} {e : Expr} {ta : TA} {p pos tpos : Pos} {elts : List Expr} {kk : Nat} (hg : Gl X "enumerate") (hm : X.mg "enumerate" = none) (ha : PA X [e] ta) (hs : starEach [e] X.env = [(false, eval e X.env)] := by rfl) :
    PI X (.Tuple elts kk tpos) (.Call (.Name "enumerate" p) [e] [] pos) (iEnumT X.K ta) := by
  refine ⟨fun pins s σ H R I h => ?_⟩
  refine Call_ (ld_blt I hg hm boot_enumerate (PyProof.Rows.callWith_type1 (thn (ha.run pos pins s σ H _ I h) fun us s1 q0 => ?_) hs rfl))
  obtain ⟨vs, H1, I1, r1, a, xs, rfl, hq, q⟩ := q0
  cases r1 with
  | cons r rr =>
    cases rr
    cases r
    obtain ⟨its, rv, p', hz⟩ := I1.tuple hq
    have pt : s1.heap.IsTuple a its.toArray := p'
    have hal : a < s1.heap.objs.size := by obtain ⟨_, z, _⟩ := pt; exact Heap.lt_size z
    refine enum_begins1 (begins_tuple a its.toArray) pt fun h' he hit hsz hk => wpAny_pyIter_enum he ?_
    have I2 : Inv X pins σ H1 { s1 with heap := h' } := I1.kept (t' := s1.toks) hk
    refine ⟨s1.heap.objs.size + 1, [s1.heap.objs.size + 1, s1.heap.objs.size], _, _, H1, rfl, I2, turn_enumT a (s1.heap.objs.size + 1) s1.heap.objs.size, ⟨⟨.none, he⟩, ⟨_, hit, rfl, rfl⟩, Nat.succ_ne_self _, Nat.ne_of_lt (Nat.lt_succ_of_lt hal), Nat.ne_of_lt hal⟩, fun b hb => ?_, q⟩
    have hle : s1.heap.objs.size ≤ b := by
      have z : b = s1.heap.objs.size + 1 ∨ b = s1.heap.objs.size := by simpa using hb
      rcases z with rfl | rfl
      · exact Nat.le_add_right _ _
      · exact Nat.le_refl _
    exact I1.fpOk hle (I1.hok.fresh hle)
end DL
/-! Dl7: what is walked; list comprehensions. -/
namespace DL
open PySem PySem.Spec L2
open PyProof.Rows hiding St

theorem PI.or {X : Cx} {tg iter : Expr} {t u : TI} (h1 : PI X tg iter t) (h2 : PI X tg iter u) : PI X tg iter (fun σ H R => t σ H R ∨ u σ H R) := ⟨fun pins s σ H R I q => by
  rcases q with q | q
  · exact h1.run pins s σ H R I q
  · exact h2.run pins s σ H R I q⟩

/-! ### iterables -/
def iOf (sem : D → Option (List D)) (f : Ev) : Iv := fun en => (f en).bind fun en1 x => match x with
  | .d d => (match sem d with
    | some ds => .ok en1 ds
    | none => .no)
  | .s _ => .no
def itSeq : D → Option (List D)
  | .list ds => some ds
  | .tuple ds => some ds
  | .dict [(.none, .list ds)] => some ds
  | _ => none
def numbered (k : Nat) : List D → List D
  | [] => []
  | d :: ds => .tuple [.int k, d] :: numbered (k + 1) ds
def itEnum : D → Option (List D)
  | .list ds => some (numbered 0 ds)
  | .tuple ds => some (numbered 0 ds)
  | _ => none
def signs (x : Str) : List D := x.cps.toList.map fun c => .str ⟨#[c]⟩
def itStr : D → Option (List D)
  | .str x => some (signs x)
  | _ => none
theorem numbered_get : ∀ (ds : List D) (k i : Nat), (numbered k ds)[i]? = (ds[i]?).map fun d => .tuple [.int ((k + i : Nat) : Int), d]
  | [], _, _ => by simp [numbered]
  | d :: ds, k, 0 => by simp [numbered]
  | d :: ds, k, i + 1 => by
    have := numbered_get ds (k + 1) i
    simp only [numbered, List.getElem?_cons_succ, this]
    congr 1
    funext d
    rw [show k + 1 + i = k + (i + 1) by omega]
theorem numbered_len : ∀ (ds : List D) (k : Nat), (numbered k ds).length = ds.length
  | [], _ => rfl
  | d :: ds, k => congrArg (· + 1) (numbered_len ds (k + 1))
section
variable {K : PySem.W.Frag} {F : Hp} {a : Addr} {xs : List V} {ds : List D}
theorem it_list (q : SqL K F a xs) (h : DvAll K F xs ds) : ItOk K F (fun _ _ => True) (Itl K a) ds := fun i F1 H1 s1 s2 _ => by
  have q1 := sqL_mono (s1.trans s2) q
  refine ⟨fun x e => ?_, fun e => ⟨xs, q1, by rw [h.length]; omega⟩⟩
  obtain ⟨v, e1, dv⟩ := h.get e
  refine ⟨⟨xs, v, q1, e1⟩, fun w H2 y => ?_⟩
  obtain ⟨rfl, y⟩ := y
  have := (y xs q1).symm.trans e1
  cases this
  exact ⟨F1, Ext.refl s2, dv.mono s1⟩
theorem it_tup (q : SqT K F a xs) (h : DvAll K F xs ds) : ItOk K F (fun _ _ => True) (Itt K a) ds := fun i F1 H1 s1 s2 _ => by
  have q1 := sqT_mono (s1.trans s2) q
  refine ⟨fun x e => ?_, fun e => ⟨xs, q1, by rw [h.length]; omega⟩⟩
  obtain ⟨v, e1, dv⟩ := h.get e
  refine ⟨⟨xs, v, q1, e1⟩, fun w H2 y => ?_⟩
  obtain ⟨rfl, y⟩ := y
  have := (y xs q1).symm.trans e1
  cases this
  exact ⟨F1, Ext.refl s2, dv.mono s1⟩
theorem it_enumL (q : SqL K F a xs) (h : DvAll K F xs ds) : ItOk K F (fun _ _ => True) (Ite K a) (numbered 0 ds) := fun i F1 H1 s1 s2 _ => by
  have q1 := sqL_mono (s1.trans s2) q
  refine ⟨fun x e => ?_, fun e => ⟨xs, q1, by rw [h.length, ← numbered_len ds 0]; omega⟩⟩
  rw [numbered_get] at e
  cases e0 : ds[i]? with
  | none => rw [e0] at e; cases e
  | some d =>
    rw [e0] at e
    cases e
    obtain ⟨v, e1, dv⟩ := h.get e0
    refine ⟨⟨xs, v, q1, e1⟩, fun w H2 y => ?_⟩
    obtain ⟨T, x, rfl, hT, rfl, y⟩ := y
    have := (y xs q1).symm.trans e1
    cases this
    have x := Ext.put s2 hT (.tup [.int (i : Nat), v])
    refine ⟨_, x, .tup (xs := [.int (i : Nat), v]) (.inl (.inl upd_same)) ?_⟩
    rw [Nat.zero_add]
    exact .cons (.int _) (.cons ((dv.mono s1).mono x.le) .nil)
theorem it_enumT (q : SqT K F a xs) (h : DvAll K F xs ds) : ItOk K F (fun _ _ => True) (IteT K a) (numbered 0 ds) := fun i F1 H1 s1 s2 _ => by
  have q1 := sqT_mono (s1.trans s2) q
  refine ⟨fun x e => ?_, fun e => ⟨xs, q1, by rw [h.length, ← numbered_len ds 0]; omega⟩⟩
  rw [numbered_get] at e
  cases e0 : ds[i]? with
  | none => rw [e0] at e; cases e
  | some d =>
    rw [e0] at e
    cases e
    obtain ⟨v, e1, dv⟩ := h.get e0
    refine ⟨⟨xs, v, q1, e1⟩, fun w H2 y => ?_⟩
    obtain ⟨T, x, rfl, hT, rfl, y⟩ := y
    have := (y xs q1).symm.trans e1
    cases this
    have x := Ext.put s2 hT (.tup [.int (i : Nat), v])
    refine ⟨_, x, .tup (xs := [.int (i : Nat), v]) (.inl (.inl upd_same)) ?_⟩
    rw [Nat.zero_add]
    exact .cons (.int _) (.cons ((dv.mono s1).mono x.le) .nil)
theorem it_str (x : Str) : ItOk K F (fun _ _ => True) (Its x) (signs x) := fun i F1 H1 s1 s2 _ => by
  have e0 : (signs x)[i]? = (x.cps[i]?).map fun c => .str ⟨#[c]⟩ := by
    unfold signs
    rw [List.getElem?_map, Array.getElem?_toList]
  have el : (signs x).length = x.cps.size := by simp [signs]
  refine ⟨fun d e => ?_, fun e => ?_⟩
  · rw [e0] at e
    have li : i < x.cps.size := by
      cases q : x.cps[i]? with
      | none => rw [q] at e; cases e
      | some c => exact (Array.getElem?_eq_some_iff.mp q).1
    refine ⟨li, fun w H2 y => ?_⟩
    obtain ⟨rfl, c, e1, rfl⟩ := y
    rw [e1] at e
    cases e
    exact ⟨F1, Ext.refl s2, .str _⟩
  · show x.cps.size ≤ i
    omega
theorem it_range (lo : Int) (n : Nat) : ItOk K F (fun _ _ => True) (Itr lo n) ((List.range n).map fun i => .int (lo + (i : Nat))) := fun i F1 H1 s1 s2 _ => by
  refine ⟨fun d e => ?_, fun e => ?_⟩
  · rw [List.getElem?_map] at e
    by_cases h : i < n
    · rw [List.getElem?_range h] at e
      cases e
      refine ⟨h, fun w H2 y => ?_⟩
      obtain ⟨rfl, rfl⟩ := y
      exact ⟨F1, Ext.refl s2, .int _⟩
    · rw [List.getElem?_eq_none (by simpa using h)] at e
      cases e
  · show n ≤ i
    simp at e; omega
end
section
variable {X : Cx} {g : Gh} {W : XW} {tg e : Expr} {f : Ev} {pos : Pos}
theorem di_seq (h : DE X g W e f) : DI X g W tg e (iOf itSeq f) := by
  refine PI.imp (PI.or (pi_list (tg := tg) h) (pi_tup (tg := tg) h)) fun σ H R hw => ?_
  obtain ⟨F, en, rp, f1⟩ := hw
  unfold iOf at f1
  cases e2 : f en with
  | no => rw [e2] at f1; exact f1.elim
  | ex en1 x => exact .inl ⟨F, en, rp, by rw [e2] at f1 ⊢; exact f1⟩
  | ok en1 x =>
    rw [e2] at f1
    cases x with
    | s i => exact f1.elim
    | d d =>
      have f1 : Fin X.K g W σ F (match itSeq d with
        | some ds => Rs.ok en1 ds
        | none => Rs.no) _ := f1
      cases e3 : itSeq d with
      | none => rw [e3] at f1; exact f1.elim
      | some ds =>
      rw [e3] at f1
      unfold itSeq at e3
      split at e3 <;> (first | (cases e3; done) | (cases e3))
      · refine .inl ⟨F, en, rp, ?_⟩
        rw [e2]
        intro F1 H1 s1 r1 v hv
        cases hv with
        | lst q0 a =>
          have q : SqL X.K F1 _ _ := .inl (.inl q0)
          exact ⟨_, rfl, ⟨_, sqL_mono r1.fz q⟩, f1 F1 H1 s1 r1 _ (it_list q a)⟩
      · refine .inr ⟨F, en, rp, ?_⟩
        rw [e2]
        intro F1 H1 s1 r1 v hv
        cases hv with
        | tup q a => exact ⟨_, rfl, ⟨_, sqT_mono r1.fz q⟩, f1 F1 H1 s1 r1 _ (it_tup q a)⟩
      · refine .inl ⟨F, en, rp, ?_⟩
        rw [e2]
        intro F1 H1 s1 r1 v hv
        obtain ⟨a, ns, rfl, rfl, q⟩ := dv_scr hv
        exact ⟨_, rfl, ⟨_, sqL_mono r1.fz q⟩, f1 F1 H1 s1 r1 _ (it_list q (DvAll.ints ns))⟩
theorem di_str (h : DE X g W e f) : DI X g W tg e (iOf itStr f) := by
  refine PI.imp (pi_str (tg := tg) h) fun σ H R hw => ?_
  obtain ⟨F, en, rp, f1⟩ := hw
  refine ⟨F, en, rp, (Fin.seq f1).mono fun F1 H1 en1 x s1 r1 f2 v hv => ?_⟩
  cases x with
  | s i => exact f2.elim
  | d d =>
    cases d <;> first | exact f2.elim | skip
    rename_i z
    cases hv with
    | str _ => exact ⟨z, rfl, f2 F1 H1 (Same.refl _) r1 _ (it_str z)⟩
/-- enumerate(e) -/
theorem di_enum {p tpos : Pos} {elts : List Expr} {kk : Nat} (hg : Gl X "enumerate") (hm : X.mg "enumerate" = none) (h : DE X g W e f) (hs : starEach [e] X.env = [(false, eval e X.env)] := by rfl) : DI X g W (.Tuple elts kk tpos) (.Call (.Name "enumerate" p) [e] [] pos) (iOf itEnum f) := by
  refine PI.imp (PI.or (pi_enum (tpos := tpos) (elts := elts) (kk := kk) (p := p) (pos := pos) hg hm (pa_cons h pa_nil (by rw [hs]; rfl)) hs) (pi_enumT (tpos := tpos) (elts := elts) (kk := kk) (p := p) (pos := pos) hg hm (pa_cons h pa_nil (by rw [hs]; rfl)) hs)) fun σ H R hw => ?_
  obtain ⟨F, en, rp, f1⟩ := hw
  unfold iOf at f1
  cases e2 : f en with
  | no => rw [e2] at f1; exact f1.elim
  | ex en1 x => exact .inl ⟨F, en, rp, by rw [e2] at f1 ⊢; exact f1⟩
  | ok en1 x =>
    rw [e2] at f1
    cases x with
    | s i => exact f1.elim
    | d d =>
      cases d <;> first | exact f1.elim | skip
      · rename_i ds
        refine .inl ⟨F, en, rp, ?_⟩
        rw [e2]
        intro F1 H1 s1 r1 v hv
        cases hv with
        | lst q0 a =>
          have q : SqL X.K F1 _ _ := .inl (.inl q0)
          exact ⟨_, _, rfl, sqL_mono r1.fz q, f1 F1 H1 s1 r1 _ (it_enumL q a)⟩
      · rename_i ds
        refine .inr ⟨F, en, rp, ?_⟩
        rw [e2]
        intro F1 H1 s1 r1 v hv
        cases hv with
        | tup q a => exact ⟨_, _, rfl, sqT_mono r1.fz q, f1 F1 H1 s1 r1 _ (it_enumT q a)⟩
def small (i : Int) : Bool := decide (-(2 ^ 62) ≤ i) && decide (i < 2 ^ 62)
def iRange1 (a : Av) : Iv := fun en => (a en).bind fun en1 xs => match xs with
  | [.d (.int j)] => if small j = true then .ok en1 ((List.range j.toNat).map fun i => .int (0 + (i : Nat))) else .no
  | _ => .no
def iRange2 (a : Av) : Iv := fun en => (a en).bind fun en1 xs => match xs with
  | [.d (.int i), .d (.int j)] => if small i = true ∧ small j = true then .ok en1 ((List.range (j - i).toNat).map fun k => .int (i + (k : Nat))) else .no
  | _ => .no
theorem small_of {i : Int} (h : small i = true) : -(2 ^ 62) ≤ i ∧ i < 2 ^ 62 := by
  unfold small at h
  obtain ⟨h1, h2⟩ := Bool.and_eq_true_iff.mp h
  exact ⟨of_decide_eq_true h1, of_decide_eq_true h2⟩
theorem rv_int {K : PySem.W.Frag} {F : Hp} {σ : St} {v : V} {i : Int} (h : RvOk K F σ v (.d (.int i))) : v = .int i := by
  cases h; rfl
theorem di_range1 {p : Pos} {av : Av} (hg : Gl X "range") (hm : X.mg "range" = none) (ha : DA X g W [e] av) (hs : starEach [e] X.env = [(false, eval e X.env)] := by rfl) : DI X g W tg (.Call (.Name "range" p) [e] [] pos) (iRange1 av) := by
  refine PI.imp (pi_range1 (tg := tg) hg hm ha hs) fun σ H R hw => ?_
  obtain ⟨F, en, rp, f1⟩ := hw
  refine ⟨F, en, rp, (Fin.seq f1).mono fun F1 H1 en1 xs s1 r1 f2 vs hvs => ?_⟩
  split at f2
  · rename_i j
    split at f2
    · rename_i hj
      match vs, hvs with
      | [v], hvs =>
        have := rv_int hvs.1
        subst this
        exact ⟨j, rfl, (small_of hj).1, (small_of hj).2, f2 F1 H1 (Same.refl _) r1 _ (it_range 0 j.toNat)⟩
    · exact f2.elim
  · exact f2.elim
theorem di_range2 {b : Expr} {p : Pos} {av : Av} (hg : Gl X "range") (hm : X.mg "range" = none) (ha : DA X g W [e, b] av) (hs : starEach [e, b] X.env = [(false, eval e X.env), (false, eval b X.env)] := by rfl) (hs2 : starEach [b] X.env = [(false, eval b X.env)] := by rfl) : DI X g W tg (.Call (.Name "range" p) [e, b] [] pos) (iRange2 av) := by
  refine PI.imp (pi_range2 (tg := tg) hg hm ha hs hs2) fun σ H R hw => ?_
  obtain ⟨F, en, rp, f1⟩ := hw
  refine ⟨F, en, rp, (Fin.seq f1).mono fun F1 H1 en1 xs s1 r1 f2 vs hvs => ?_⟩
  split at f2
  · rename_i i j
    split at f2
    · rename_i hj
      match vs, hvs with
      | [v, u], hvs =>
        have := rv_int hvs.1
        subst this
        have := rv_int hvs.2.1
        subst this
        exact ⟨i, j, rfl, ⟨(small_of hj.1).1, (small_of hj.1).2, (small_of hj.2).1, (small_of hj.2).2⟩, f2 F1 H1 (Same.refl _) r1 _ (it_range i (j - i).toNat)⟩
    · exact f2.elim
  · exact f2.elim
end

/-! ### list comprehensions -/
/-- the block's names are cleared -/
def wipeE (en : En) : List Nat → Option En
  | [] => some en
  | i :: is => match wipeE en is with
    | some e1 => (match e1[i]? with
      | some (.val _) => some (e1.set i .un)
      | some .un => some (e1.set i .un)
      | _ => none)
    | none => none
/-- the slots of en, the owned things' data from en3 -/
def unw : En → En → Option En
  | [], [] => some []
  | s :: en, t :: en3 => match unw en en3 with
    | some r => (match s with
      | .own b _ => (match t with
        | .own c d => if b = c then some (.own b d :: r) else none
        | _ => none)
      | s => some (s :: r))
    | none => none
  | _, _ => none
theorem unw_at : ∀ {en en3 en4 : En}, unw en en3 = some en4 → en4.length = en.length ∧ en3.length = en.length ∧ ∀ (k : Nat) (s : Sl), en4[k]? = some s →
    (∃ b d0 d, en[k]? = some (.own b d0) ∧ en3[k]? = some (.own b d) ∧ s = .own b d) ∨ (en[k]? = some s ∧ ∀ b d, s ≠ .own b d)
  | [], [], en4, e => by
    cases e
    exact ⟨rfl, rfl, fun k s e => by simp at e⟩
  | s :: en, t :: en3, en4, e => by
    unfold unw at e
    split at e
    · rename_i r e1
      obtain ⟨h1, h2, h3⟩ := unw_at e1
      split at e
      · rename_i b d0
        split at e
        · rename_i c d
          split at e
          · rename_i hbc
            subst hbc
            cases e
            refine ⟨by simp [h1], by simp [h2], fun k s' e' => ?_⟩
            cases k with
            | zero =>
              have : Sl.own b d = s' := by simpa using e'
              exact .inl ⟨b, d0, d, rfl, rfl, this.symm⟩
            | succ k => exact h3 k s' (by simpa using e')
          · cases e
        · cases e
      · rename_i ns
        cases e
        refine ⟨by simp [h1], by simp [h2], fun k s' e' => ?_⟩
        cases k with
        | zero =>
          have : s = s' := by simpa using e'
          subst this
          exact .inr ⟨rfl, fun b d z => ns b d z⟩
        | succ k => exact h3 k s' (by simpa using e')
    · cases e
  | [], _ :: _, _, e => by cases e
  | _ :: _, [], _, e => by cases e
theorem wipe_get : ∀ {vs : List Nat} {σ : St} {k : Nat}, k ∉ vs → (wipe σ vs)[k]? = σ[k]?
  | [], _, _, _ => rfl
  | v :: vs, σ, k, h => by
    unfold wipe
    rw [List.getElem?_set_ne fun z => h (by simp [z])]
    exact wipe_get fun z => h (List.mem_cons_of_mem _ z)
theorem wipe_same {vs : List Nat} {σ σ' : St} (b : But vs (wipe σ vs) σ') : wipe σ' vs = wipe σ vs := by
  have key : ∀ {us : List Nat} {σ : St} {k : Nat}, k ∈ us → k < σ.length → (wipe σ us)[k]? = some none := by
    intro us
    induction us with
    | nil => intro σ k h; cases h
    | cons u us ih =>
      intro σ k h hl
      unfold wipe
      by_cases e : k = u
      · subst e
        rw [List.getElem?_set_self (by rw [wipe_length]; exact hl)]
      · rw [List.getElem?_set_ne (Ne.symm e)]
        rcases List.mem_cons.mp h with z | z
        · exact absurd z e
        · exact ih z hl
  refine List.ext_getElem? fun k => ?_
  by_cases hk : k ∈ vs
  · by_cases hl : k < σ.length
    · rw [key hk (by rw [b.1, wipe_length]; exact hl), key hk hl]
    · rw [List.getElem?_eq_none (by rw [wipe_length, b.1, wipe_length]; omega), List.getElem?_eq_none (by rw [wipe_length]; omega)]
  · rw [wipe_get hk, b.2 k hk]
section
variable {K : PySem.W.Frag} {g g' : Gh} {F F2 F3 H H2 H3 : Hp} {en en1 en2 en3 en4 : En} {σ σ3 : St} {vs : List Nat}
theorem wipeE_at : ∀ {vs : List Nat} {en1 : En}, wipeE en vs = some en1 → en1.length = en.length ∧ (∀ k, k ∉ vs → en1[k]? = en[k]?) ∧ (∀ k ∈ vs, en1[k]? = some .un ∧ ∀ s, en[k]? = some s → (s = .un ∨ ∃ d, s = .val d))
  | [], en1, e => by
    cases e
    exact ⟨rfl, fun _ _ => rfl, fun k h => by cases h⟩
  | i :: is, en1, e => by
    unfold wipeE at e
    split at e
    · rename_i e1 q
      obtain ⟨h1, h2, h3⟩ := wipeE_at q
      have fin : ∀ s, e1[i]? = some s → (s = .un ∨ ∃ d, s = .val d) → some (e1.set i .un) = some en1 → en1.length = en.length ∧ (∀ k, k ∉ i :: is → en1[k]? = en[k]?) ∧ (∀ k ∈ i :: is, en1[k]? = some .un ∧ ∀ s, en[k]? = some s → (s = .un ∨ ∃ d, s = .val d)) := by
        intro s es hs e
        cases e
        have li := (List.getElem?_eq_some_iff.mp es).1
        refine ⟨by rw [List.length_set, h1], fun k hk => ?_, fun k hk => ?_⟩
        · rw [List.getElem?_set_ne fun z => hk (by simp [z]), h2 k fun z => hk (List.mem_cons_of_mem _ z)]
        · by_cases hi : k = i
          · subst hi
            refine ⟨List.getElem?_set_self li, fun s' e' => ?_⟩
            by_cases hm : k ∈ is
            · exact (h3 k hm).2 s' e'
            · rw [← h2 k hm, es] at e'
              cases e'
              exact hs
          · have hm : k ∈ is := by
              rcases List.mem_cons.mp hk with z | z
              · exact absurd z hi
              · exact z
            exact ⟨by rw [List.getElem?_set_ne (Ne.symm hi)]; exact (h3 k hm).1, (h3 k hm).2⟩
      split at e
      · rename_i d z
        exact fin _ z (.inr ⟨d, rfl⟩) e
      · rename_i z
        exact fin _ z (.inl rfl) e
      · cases e
    · cases e
/-- into the block: over a ghost of the heap as it stands, the block's names cleared -/
theorem Rep.block (r : Rep K g F en σ H) (s : Sub g g' F H en σ) (hw : wipeE en vs = some en1) (hp : g'.Pl = g.Pl) : Rep K { g' with Pl := [], Rw := [] } F en1 (wipe σ vs) H := by
  obtain ⟨s1, s2, s3, s4, s5⟩ := s
  obtain ⟨h1, h2, h3⟩ := wipeE_at hw
  have out : ∀ {k : Nat} {s : Sl}, en1[k]? = some s → s ≠ .un → k ∉ vs ∧ en[k]? = some s := fun {k s} e ne => by
    by_cases hk : k ∈ vs
    · rw [(h3 k hk).1] at e
      cases e
      exact absurd rfl ne
    · exact ⟨hk, by rw [← h2 k hk]; exact e⟩
  refine ⟨r.fz, fun a o e _ => by rw [s2] at e; exact e, fun p hp => (r.ownPs ((s3 p).mp hp)).2.2, fun a e _ _ => by rw [s1] at e; exact e, by rw [h1, wipe_length]; exact r.len, fun k d e => ?_, fun k b d e => ?_, fun k j e => ?_, fun i j b c d e hne e1 e2 => ?_, (fun _ _ z => by cases z), (fun _ _ z => by cases z)⟩
  · obtain ⟨hk, e'⟩ := out e fun z => by cases z
    rw [wipe_get hk]
    exact r.val k d e'
  · obtain ⟨hk, e'⟩ := out e fun z => by cases z
    rw [wipe_get hk]
    obtain ⟨p, e1, q, n, _⟩ := r.own k b d e'
    exact ⟨p, e1, q, n, .inl ((s3 p).mpr ⟨k, b, d, e', e1⟩)⟩
  · obtain ⟨hk, e'⟩ := out e fun z => by cases z
    obtain ⟨z1, b, d, z2⟩ := r.ali k j e'
    have hj : j ∉ vs := fun hm => by
      rcases (h3 j hm).2 _ z2 with z | ⟨_, z⟩ <;> cases z
    exact ⟨by rw [wipe_get hk, wipe_get hj]; exact z1, b, d, by rw [h2 j hj]; exact z2⟩
  · obtain ⟨hi, q1⟩ := out e1 fun z => by cases z
    obtain ⟨hj, q2⟩ := out e2 fun z => by cases z
    rw [wipe_get hi, wipe_get hj]
    exact r.sep i j b c d e hne q1 q2
theorem wipeE_own (hw : wipeE en vs = some en1) (k : Nat) (b : Bool) (d : D) (e : en[k]? = some (.own b d)) : k ∉ vs := fun hm => by
  rcases ((wipeE_at hw).2.2 k hm).2 _ e with z | ⟨_, z⟩ <;> cases z
/-- out of the block -/
theorem Rep.unblock {g3 : Gh} (r : Rep K g F en σ H) (s : Sub g g' F H en σ) (hw : ∀ (k : Nat) (b : Bool) (d : D), en[k]? = some (.own b d) → k ∉ vs) (hg : g3 = { g' with Pl := [], Rw := [] }) (r3 : Rep K g3 F3 en3 σ3 H3) (hb : wipe σ3 vs = wipe σ vs) (le : Same F F3) (hu : unw en en3 = some en4) : Rep K g F3 en4 σ H3 := by
  subst hg
  obtain ⟨s1, s2, s3, s4, s5⟩ := s
  obtain ⟨u1, u2, u3⟩ := unw_at hu
  have nown : ∀ a, a ∉ g.Ps → g.H0 a ≠ none → a ∉ g'.Ps := fun a n e q => by
    rcases (r.ownPs ((s3 a).mp q)).1 with z | z
    · exact n z
    · exact e z
  have at3 : ∀ {k : Nat}, k ∉ vs → σ3[k]? = σ[k]? := fun {k} hk => by
    have := congrArg (fun x : St => x[k]?) hb
    simpa [wipe_get hk] using this
  have ownOut : ∀ {k : Nat} {b : Bool} {d : D}, en[k]? = some (.own b d) → k ∉ vs := fun {k b d} e => hw k b d e
  refine ⟨r3.fz, fun a o e n => r3.fr a o (by show g'.H0 a = _; rw [s2]; exact r.fr a o e n) (nown a n (by rw [e]; exact fun z => by cases z)), fun p hp => ?_, fun a e0 e1 n => ?_, by rw [u1]; exact r.len, fun k d e => ?_, fun k b d e => ?_, fun k j e => ?_, fun i j b c d e hne e1 e2 => ?_, fun k p hm => ?_, fun k p hm => ?_⟩
  · by_cases z : p ∈ g'.Ps
    · exact r3.al p z
    · cases q : H p with
      | none => exact absurd q (r.al p hp)
      | some o => rw [r3.fr p o (by show g'.H0 p = _; rw [s2]; exact q) z]; exact fun z => by cases z
  · refine r3.nw a (by show g'.F0 a = _; rw [s1]; exact r.nw a e0 e1 n) ?_ (nown a n e1)
    show g'.H0 a ≠ none
    rw [s2]
    cases q : g.H0 a with
    | none => exact absurd q e1
    | some o => rw [r.fr a o q n]; exact fun z => by cases z
  · rcases u3 k _ e with ⟨_, _, _, _, _, z⟩ | ⟨z, _⟩
    · cases z
    · obtain ⟨v, e1, q⟩ := r.val k d z
      exact ⟨v, e1, q.mono le⟩
  · rcases u3 k _ e with ⟨b', d0, d', z1, z2, z⟩ | ⟨_, z⟩
    · cases z
      obtain ⟨p, e1, q1, q2, _⟩ := r3.own k b d z2
      rw [at3 (ownOut z1)] at e1
      exact ⟨p, e1, q1, q2, (r.ownPs ⟨k, b, d0, z1, e1⟩).1⟩
    · exact absurd rfl (z b d)
  · rcases u3 k _ e with ⟨_, _, _, _, _, z⟩ | ⟨z, _⟩
    · cases z
    · obtain ⟨z1, b, d, z2⟩ := r.ali k j z
      refine ⟨z1, ?_⟩
      have lj : j < en4.length := by rw [u1]; exact (List.getElem?_eq_some_iff.mp z2).1
      rcases u3 j _ (List.getElem?_eq_getElem lj) with ⟨b', d0, d', w1, _, w3⟩ | ⟨w1, w2⟩
      · rw [z2] at w1
        cases w1
        exact ⟨b, d', by rw [List.getElem?_eq_getElem lj, w3]⟩
      · rw [z2] at w1
        have := Option.some.inj w1
        exact absurd this.symm (w2 b d)
  · have old : ∀ {k : Nat} {b : Bool} {d : D}, en4[k]? = some (.own b d) → ∃ d0, en[k]? = some (.own b d0) := fun {k b d} e => by
      rcases u3 k _ e with ⟨b', d0, d', z1, _, z⟩ | ⟨_, z⟩
      · cases z; exact ⟨d0, z1⟩
      · exact absurd rfl (z b d)
    obtain ⟨d1, z1⟩ := old e1
    obtain ⟨d2, z2⟩ := old e2
    exact r.sep i j b c d1 d2 hne z1 z2
  · obtain ⟨z1, d, z2⟩ := r.pl k p hm
    refine ⟨z1, ?_⟩
    have lj : k < en4.length := by rw [u1]; exact (List.getElem?_eq_some_iff.mp z2).1
    rcases u3 k _ (List.getElem?_eq_getElem lj) with ⟨b', d0, d', w1, _, w3⟩ | ⟨w1, w2⟩
    · rw [z2] at w1
      cases w1
      exact ⟨d', by rw [List.getElem?_eq_getElem lj, w3]⟩
    · rw [z2] at w1
      have := Option.some.inj w1
      exact absurd this.symm (w2 true d)
  · obtain ⟨z1, z2⟩ := r.rw k p hm
    refine ⟨z1, ?_⟩
    have lj : k < en4.length := by rw [u1]; exact (List.getElem?_eq_some_iff.mp z2).1
    rcases u3 k _ (List.getElem?_eq_getElem lj) with ⟨b', d0, d', w1, _, w3⟩ | ⟨w1, w2⟩
    · rw [z2] at w1
      cases w1
    · rw [z2] at w1
      rw [List.getElem?_eq_getElem lj]
      exact w1.symm
end

/-- the turns of a comprehension -/
def compL (vs : List Nat) (tg : Tg) (tt : Tv) (el : Ev) : List D → En → List D → Rs D
  | [], en, acc => .ok en (.list acc)
  | d :: ds, en, acc => match wipeE en vs with
    | none => .no
    | some en0 => (match tg d en0 with
      | none => .no
      | some en1 => (match tt en1 with
        | .ok en2 false => (match unw en en2 with
          | some en4 => compL vs tg tt el ds en4 acc
          | none => .no)
        | .ok en2 true => (match el en2 with
          | .ok en3 (.d y) => if acc.length < sizeLine then (match unw en en3 with
            | some en4 => compL vs tg tt el ds en4 (acc ++ [y])
            | none => .no) else .no
          | _ => .no)
        | _ => .no))
def oComp (vs : List Nat) (it : Iv) (tg : Tg) (tt : Tv) (el : Ev) : Ov := fun en => (it en).bind fun en1 ds => compL vs tg tt el ds en1 []
def tYesD : Tv := fun en => .ok en true
/-- what may be written besides: neither frozen nor owned nor the caller's -/
theorem Rep.scratch {K : PySem.W.Frag} {g : Gh} {F H : Hp} {en : En} {σ : St} {p : Addr} (o : HO) (r : Rep K g F en σ H) (hF : F p = none) (no : ¬ IsOwn en σ p) (h0 : g.H0 p = none) : Rep K g F en σ (upd H p o) := by
  refine ⟨fun a u e => ?_, fun a u e n => ?_, fun q hq => ?_, r.nw, r.len, r.val, fun i b d e => ?_, r.ali, r.sep, r.pl, r.rw⟩
  · rw [upd_ne (ne_of_none e hF)]; exact r.fz a u e
  · rw [upd_ne (ne_of_none e h0)]; exact r.fr a u e n
  · by_cases h : q = p
    · subst h; rw [upd_same]; exact fun z => by cases z
    · rw [upd_ne h]; exact r.al q hq
  · obtain ⟨p', e1, q1, q2, q3⟩ := r.own i b d e
    refine ⟨p', e1, q1.to (upd_ne fun z => ?_) (Same.refl _), q2, q3⟩
    subst z
    exact no ⟨i, b, d, e, e1⟩
/-- the wish of a block: nothing is raised -/
abbrev W0 (K : PySem.W.Frag) (mg : Str → Option Value) : XW := WH K mg fun _ _ _ _ => False
/-- a clause's tests -/
def DTs (X : Cx) (g : Gh) (W : XW) (ifs : List Expr) (t : Tv) : Prop := PTs X ifs (liftT X.K g W t)
theorem dts_nil {X : Cx} {g : Gh} {W : XW} : DTs X g W [] tYesD := ⟨fun pins s σ H Q I h => by
  obtain ⟨F, en, rp, f⟩ := h
  exact pts_nil.run pins s σ H Q I (f F H (Same.refl _) rp)⟩
theorem dts_one {X : Cx} {g : Gh} {W : XW} {c : Expr} {t : Tv} (h : DT X g W c t) : DTs X g W [c] t := pts_one h
theorem New.list {K : PySem.W.Frag} {g : Gh} {F H : Hp} {en : En} {σ : St} {p : Addr} {vs : List V} {ds : List D} (e : H p = some (.lst vs)) (a : DvAll K F vs ds) (hF : F p = none) (h0 : g.H0 p = none) (no : ¬ IsOwn en σ p) : New K g F H en σ p (.list ds) := ⟨.lst e a, hF, h0, no⟩
section
variable {X : Cx} {g : Gh} {W : XW} {elt tg iter : Expr} {ifs : List Expr} {scope : Scope} {own : List (Str × Nat)} {pos : Pos} {it : Iv} {t : Tg} {ts : List Nat} {tt : Tv} {el : Ev}
/-- the reading of a comprehension -/
theorem comp_tLc (hsub : ∀ i ∈ ts, i ∈ own.map (·.2)) {σ : St} {H : Hp} {Q : VK} (h : liftO X.K g W (oComp (own.map (·.2)) it t tt el) σ H Q) :
    tLc (liftI X.K g W it) (fun v σ H Q => ∃ g', liftG X.K g' t ts v σ H Q) (fun σ H Q => ∃ g', liftT X.K g' (W0 X.K X.mg) tt σ H Q) (fun σ H Q => ∃ g', liftE X.K g' (W0 X.K X.mg) el σ H Q) (own.map (·.2)) σ H Q := by
  obtain ⟨F, en, rp, f⟩ := h
  refine ⟨F, en, rp, (Fin.seq f).mono fun F1 H1 en1 ds s1 r1 f1 J hJ L hL => ?_⟩
  generalize hvs : own.map (·.2) = vs at f1 hsub ⊢
  have z0 := r1.fresh hL (d := .list []) (.lst (vs := []) (ds := []) upd_same .nil)
  refine ⟨fun i m H => m = ds.length - i ∧ i ≤ ds.length ∧ ∃ F2 en2 aV aD, Same F1 F2 ∧ Rep X.K g F2 en2 σ H ∧ H L = some (.lst aV) ∧ DvAll X.K F2 aV aD ∧ F2 L = none ∧ g.H0 L = none ∧ ¬ IsOwn en2 σ L ∧
    Fin X.K g W σ F2 (compL vs t tt el (ds.drop i) en2 aD) (fun F' _ en' d => ∀ p H'', Rep X.K g F' en' σ H'' → New X.K g F' H'' en' σ p d → Q (.ref p) H''),
    ⟨ds.length, by simp, Nat.zero_le _, F1, en1, [], [], Same.refl _, z0.1, upd_same, .nil, z0.2.nf, z0.2.nh, z0.2.no, f1⟩, ?_⟩
  rintro i m H ⟨rfl, hi, F2, en2, aV, aD, s2, r2, eL, aA, nF, n0, nO, f2⟩
  obtain ⟨j1, j2⟩ := hJ i F2 H s2 r2.fz trivial
  by_cases hlt : i < ds.length
  · have e1 : ds[i]? = some ds[i] := List.getElem?_eq_getElem hlt
    obtain ⟨g1, g2⟩ := j1 _ e1
    have ed : ds.drop i = ds[i] :: ds.drop (i + 1) := List.drop_eq_getElem_cons hlt
    rw [ed] at f2
    unfold compL at f2
    refine .inr ⟨g1, fun H' => ∃ F5 en5 aV aD, Same F1 F5 ∧ Rep X.K g F5 en5 σ H' ∧ H' L = some (.lst aV) ∧ DvAll X.K F5 aV aD ∧ F5 L = none ∧ g.H0 L = none ∧ ¬ IsOwn en5 σ L ∧
      Fin X.K g W σ F5 (compL vs t tt el (ds.drop (i + 1)) en5 aD) (fun F' _ en' d => ∀ p H'', Rep X.K g F' en' σ H'' → New X.K g F' H'' en' σ p d → Q (.ref p) H''),
      fun H' z => ⟨ds.length - (i + 1), by omega, rfl, hlt, z⟩, fun v H' y => ?_⟩
    obtain ⟨F3, x3, q3⟩ := g2 v H' y
    have r3 := r2.ext x3
    have eL3 : H' L = some (.lst aV) := x3.same _ _ eL
    have nF3 : F3 L = none := x3.new L nF (by rw [eL]; exact fun z => by cases z)
    cases e2 : wipeE en2 vs with
    | none => rw [e2] at f2; exact f2.elim
    | some en0 =>
      rw [e2] at f2
      dsimp only at f2
      cases e3 : t ds[i] en0 with
      | none => rw [e3] at f2; exact f2.elim
      | some en3 =>
        rw [e3] at f2
        dsimp only at f2
        obtain ⟨g', hs⟩ := sub_ex g F3 H' en2 σ
        have rb := r3.block hs e2 hs.2.2.2.1
        refine ⟨_, F3, en0, ds[i], en3, rb, q3, e3, fun σ' r' b => ?_⟩
        have hw : wipe σ' vs = wipe σ vs := wipe_same ⟨b.1, fun k hk => b.2 k fun z => hk (hsub k z)⟩
        refine ⟨hw, { g' with Pl := [], Rw := [] }, F3, en3, r', ?_⟩
        -- what stands at L stays
        have keep : ∀ {F4 H4 : Hp} {en4 : En} {σ4 : St}, Rep X.K { g' with Pl := [], Rw := [] } F4 en4 σ4 H4 → H4 L = some (.lst aV) ∧ F4 L = none := fun {F4 H4 en4 σ4} r4 => by
          obtain ⟨a1, a2, a3, _⟩ := hs
          have n : L ∉ g'.Ps := fun q => nO ((a3 L).mp q)
          exact ⟨r4.fr L _ (by show g'.H0 L = _; rw [a2]; exact eL3) n, r4.nw L (by show g'.F0 L = _; rw [a1]; exact nF3) (by show g'.H0 L ≠ none; rw [a2, eL3]; exact fun z => by cases z) n⟩
        have notO : ∀ {en4 en5 : En}, unw en2 en4 = some en5 → ¬ IsOwn en5 σ L := fun {en4 en5} hu z => by
          obtain ⟨k, b, d, z1, z2⟩ := z
          rcases (unw_at hu).2.2 k _ z1 with ⟨b', d0, d', w1, _, w⟩ | ⟨_, w⟩
          · exact nO ⟨k, b', d0, w1, z2⟩
          · exact w b d rfl
        cases e4 : tt en3 with
        | no => rw [e4] at f2; exact f2.elim
        | ex en4 x => rw [e4] at f2; exact f2.elim
        | ok en4 k =>
          rw [e4] at f2
          intro F4 H4 s4 r4
          cases k with
          | false =>
            dsimp only at f2
            rw [if_neg Bool.false_ne_true]
            cases e5 : unw en2 en4 with
            | none => rw [e5] at f2; exact f2.elim
            | some en5 =>
              rw [e5] at f2
              obtain ⟨k1, k2⟩ := keep r4
              exact ⟨F4, en5, aV, aD, s2.trans (x3.le.trans s4), r3.unblock hs (wipeE_own e2) rfl r4 hw s4 e5, k1, aA.mono (x3.le.trans s4), k2, n0, notO e5, Fin.weak (x3.le.trans s4) f2⟩
          | true =>
            dsimp only at f2
            rw [if_pos rfl]
            refine ⟨{ g' with Pl := [], Rw := [] }, F4, en4, r4, ?_⟩
            cases e5 : el en4 with
            | no => rw [e5] at f2; exact f2.elim
            | ex en5 x => rw [e5] at f2; exact f2.elim
            | ok en5 rv =>
              rw [e5] at f2
              cases rv with
              | s i => exact f2.elim
              | d y =>
                intro F5 H5 s5 r5 v5 hv5
                dsimp only at f2
                split at f2
                · rename_i hl
                  cases e6 : unw en2 en5 with
                  | none => rw [e6] at f2; exact f2.elim
                  | some en6 =>
                    rw [e6] at f2
                    obtain ⟨k1, k2⟩ := keep r5
                    have le := x3.le.trans (s4.trans s5)
                    have r6 := r3.unblock hs (wipeE_own e2) rfl r5 hw (s4.trans s5) e6
                    refine ⟨aV, k1, by rw [aA.length]; exact hl, F5, en6, aV ++ [v5], aD ++ [y], s2.trans le, r6.scratch _ k2 (notO e6) n0, upd_same, (aA.mono le).append (.one hv5), k2, n0, notO e6, Fin.weak le f2⟩
                · exact f2.elim
  · have e1 : i = ds.length := by omega
    rw [List.drop_of_length_le (by omega)] at f2
    exact .inl ⟨j2 (by omega), f2 F2 H (Same.refl _) r2 L H r2 (.list eL aA nF n0 nO)⟩
theorem do_comp (hc : X.calm = true) (hN : X.N.Nodup) (hi : DI X g W tg iter it) (ok : BlkOk X.N X.env.scope scope own) (hsub : ∀ i ∈ ts, i ∈ own.map (·.2))
    (hg : ∀ (s : Shared) (H : Hp) (C : Addr) (cl : List (Str × Addr)) (fp : List Addr) (g' : Gh), DG (X.blk s H scope (compEnvC scope cl C X.env) fp) g' tg t ts)
    (ht : ∀ (s : Shared) (H : Hp) (C : Addr) (cl : List (Str × Addr)) (fp : List Addr) (g' : Gh), DTs (X.blk s H scope (compEnvC scope cl C X.env) fp) g' (W0 X.K X.mg) ifs tt)
    (he : ∀ (s : Shared) (H : Hp) (C : Addr) (cl : List (Str × Addr)) (fp : List Addr) (g' : Gh), DE (X.blk s H scope (compEnvC scope cl C X.env) fp) g' (W0 X.K X.mg) elt el)
    (hs : ∀ x, foldedSetIterable iter X.env x = pure x := by intro _; rfl) : DO X g W (.ListComp elt [⟨tg, iter, ifs, 0⟩] scope pos) (oComp (own.map (·.2)) it t tt el) := by
  refine PE.imp (pe_lc (g := fun v σ H Q => ∃ g', liftG X.K g' t ts v σ H Q) (tt := fun σ H Q => ∃ g', liftT X.K g' (W0 X.K X.mg) tt σ H Q) (te := fun σ H Q => ∃ g', liftE X.K g' (W0 X.K X.mg) el σ H Q) hc hN hi ok
    (fun s H C cl fp => ⟨fun pins s' σ H v u Q I r ⟨g', q⟩ => (hg s _ C cl fp g').run pins s' σ H v u Q I r q⟩) (fun s H C cl fp => ⟨fun pins s' σ H Q I ⟨g', q⟩ => (ht s _ C cl fp g').run pins s' σ H Q I q⟩)
    (fun s H C cl fp => ⟨fun pins s' σ H Q I ⟨g', q⟩ => (he s _ C cl fp g').run pins s' σ H Q I q⟩) hs) fun σ H Q h => comp_tLc hsub h
/-- y = [..] -/
theorem ds_setC {i : Nat} {y : Str} {py spos : Pos} (hc : X.calm = true) (hN : X.N.Nodup) (hy : X.N[i]? = some y) (hyl : X.env.scope.names.lookup y = some .local) (hsw : swapsWith (.ListComp elt [⟨tg, iter, ifs, 0⟩] scope pos) (some (.Name y py)) spos.line X.env = pure true)
    (hi : DI X g W tg iter it) (ok : BlkOk X.N X.env.scope scope own) (hsub : ∀ i ∈ ts, i ∈ own.map (·.2))
    (hg : ∀ (s : Shared) (H : Hp) (C : Addr) (cl : List (Str × Addr)) (fp : List Addr) (g' : Gh), DG (X.blk s H scope (compEnvC scope cl C X.env) fp) g' tg t ts)
    (ht : ∀ (s : Shared) (H : Hp) (C : Addr) (cl : List (Str × Addr)) (fp : List Addr) (g' : Gh), DTs (X.blk s H scope (compEnvC scope cl C X.env) fp) g' (W0 X.K X.mg) ifs tt)
    (he : ∀ (s : Shared) (H : Hp) (C : Addr) (cl : List (Str × Addr)) (fp : List Addr) (g' : Gh), DE (X.blk s H scope (compEnvC scope cl C X.env) fp) g' (W0 X.K X.mg) elt el)
    (hs : ∀ x, foldedSetIterable iter X.env x = pure x := by intro _; rfl) : DS X g W (.Assign [.Name y py] (.ListComp elt [⟨tg, iter, ifs, 0⟩] scope pos) spos) (bSetO i (oComp (own.map (·.2)) it t tt el)) := by
  refine PS.imp (ps_setLc (g := fun v σ H Q => ∃ g', liftG X.K g' t ts v σ H Q) (tt := fun σ H Q => ∃ g', liftT X.K g' (W0 X.K X.mg) tt σ H Q) (te := fun σ H Q => ∃ g', liftE X.K g' (W0 X.K X.mg) el σ H Q) hc hN hy hyl hsw hi ok
    (fun s H C cl fp => ⟨fun pins s' σ H v u Q I r ⟨g', q⟩ => (hg s _ C cl fp g').run pins s' σ H v u Q I r q⟩) (fun s H C cl fp => ⟨fun pins s' σ H Q I ⟨g', q⟩ => (ht s _ C cl fp g').run pins s' σ H Q I q⟩)
    (fun s H C cl fp => ⟨fun pins s' σ H Q I ⟨g', q⟩ => (he s _ C cl fp g').run pins s' σ H Q I q⟩) hs) fun E σ H h => ?_
  refine comp_tLc (W := W) (g := g) hsub ?_
  obtain ⟨F, en, rp, f⟩ := h
  refine ⟨F, en, rp, FinS.of_out f fun F' H' en' d s rp' k p H'' r2 n => ?_⟩
  cases q : putS en' i (.own false d) with
  | none => rw [q] at k; exact k.elim
  | some en2 =>
    rw [q] at k
    exact k _ F' H'' (Same.refl _) (r2.stO n q)
end
end DL
/-! Dl8: operators by data. -/
namespace DL
open PySem PySem.Spec L2
open PyProof.Rows hiding St

/-! ### what is seen of a value -/
section
variable {K : PySem.W.Frag} {F H : Hp} {v : V} {Q : VK}
theorem vw_non (h : Vw K F H v .none) : v = .non := by
  cases h with
  | fz h => cases h; rfl
  | own h _ => cases h
theorem vw_bl {b : Bool} (h : Vw K F H v (.bool b)) : v = .bl b := by
  cases h with
  | fz h => cases h; rfl
  | own h _ => cases h
theorem vw_int {i : Int} (h : Vw K F H v (.int i)) : v = .int i := by
  cases h with
  | fz h => cases h; rfl
  | own h _ => cases h
theorem vw_str {x : Str} (h : Vw K F H v (.str x)) : v = .str x := by
  cases h with
  | fz h => cases h; rfl
  | own h _ => cases h
theorem vw_lst {ds : List D} (s : Same F H) (h : Vw K F H v (.list ds)) : ∃ (a : Addr) (xs : List V), v = .ref a ∧ H a = some (.lst xs) ∧ DvAll K F xs ds := by
  cases h with
  | fz h =>
    cases h with
    | lst q a => exact ⟨_, _, rfl, s _ _ q, a⟩
  | own h _ =>
    cases h with
    | lst q a => exact ⟨_, _, rfl, q, a⟩
theorem vw_tup {ds : List D} (s : Same F H) (h : Vw K F H v (.tuple ds)) : ∃ (a : Addr) (xs : List V), v = .ref a ∧ SqT K H a xs ∧ DvAll K F xs ds ∧ Dv K F v (.tuple ds) := by
  cases h with
  | fz h =>
    cases h with
    | tup q a => exact ⟨_, _, rfl, sqT_mono s q, a, .tup q a⟩
  | own h _ => cases h
theorem vw_scr {ds : List D} (s : Same F H) (h : Vw K F H v (.dict [(.none, .list ds)])) : ∃ (a : Addr) (ns : List Int), v = .ref a ∧ ds = ns.map PyData.int ∧ SqL K H a (ns.map V.int) := by
  cases h with
  | fz h =>
    obtain ⟨a, ns, e1, e2, q⟩ := dv_scr h
    exact ⟨a, ns, e1, e2, sqL_mono s q⟩
  | own h _ =>
    generalize e : PyData.dict [(.none, .list ds)] = d at h
    cases h <;> first | (cases e; done) | skip
    · rename_i kvs es q _
      cases kvs with
      | nil => cases e
      | cons p r =>
        cases es with
        | nil => cases e
        | cons d es =>
          injection e with e
          injection e with e _
          injection e with e _
          obtain ⟨k, v⟩ := p
          cases k <;> cases e
theorem give_tup {xs : List V} {ds : List D} (s : Same F H) (g : Give K F H (.tuple ds) Q) (a : DvAll K F xs ds) : ∀ p, H p = none → Q (.ref p) (upd H p (.tup xs)) := fun p hp =>
  let x := Ext.put s hp (.tup xs)
  g _ _ _ x (.tup (.inl (.inl upd_same)) (a.mono x.le))
theorem give_lst {xs : List V} {ds : List D} (s : Same F H) (g : Give K F H (.list ds) Q) (a : DvAll K F xs ds) : ∀ p, H p = none → Q (.ref p) (upd H p (.lst xs)) := fun p hp =>
  let x := Ext.put s hp (.lst xs)
  g _ _ _ x (.lst upd_same (a.mono x.le))
end

theorem OpR.or {X : Cx} {f : Value → Value → Sem Value} {r r' : R2} (h : OpR X f r) (h' : OpR X f r') : OpR X f (fun x y H Q => r x y H Q ∨ r' x y H Q) := by
  intro pins s σ H x y v u Q I rx ry q
  rcases q with q | q
  · exact h pins s σ H x y v u Q I rx ry q
  · exact h' pins s σ H x y v u Q I rx ry q
theorem CallR.or {X : Cx} {f : Value} {r r' : List V → Hp → VK → Prop} (h : CallR X f r) (h' : CallR X f r') : CallR X f (fun xs H Q => r xs H Q ∨ r' xs H Q) := by
  intro pins s σ H xs us Q I rx q
  rcases q with q | q
  · exact h pins s σ H xs us Q I rx q
  · exact h' pins s σ H xs us Q I rx q

/-! ### + - * // % ** -/
def szT (ds : List D) : Option D := if ds.length ≤ sizeLine then some (.tuple ds) else none
def szL (ds : List D) : Option D := if ds.length ≤ sizeLine then some (.list ds) else none
def sAdd : D → D → Option D
  | .int i, .int j => some (.int (i + j))
  | .str x, .str y => if x.length + y.length ≤ sizeLine then some (.str (x ++ y)) else none
  | .tuple a, .tuple b => szT (a ++ b)
  | .list a, .list b => szL (a ++ b)
  | _, _ => none
def sSub : D → D → Option D
  | .int i, .int j => some (.int (i - j))
  | _, _ => none
def wideB (i j : Int) : Bool := decide (i.natAbs.log2 + j.natAbs.log2 < 1000000)
def sMul : D → D → Option D
  | .int i, .int j => if wideB i j = true then some (.int (i * j)) else none
  | .list a, .int k => if -(2 ^ 63) ≤ k ∧ k < 2 ^ 63 ∧ a.length * k.toNat ≤ sizeLine then some (.list (List.replicate k.toNat a).flatten) else none
  | .tuple a, .int k => if a ≠ [] ∧ 2 ≤ k ∧ k ≤ 1000 ∧ a.length ≤ 1000 then some (.tuple (List.replicate k.toNat a).flatten) else none
  | _, _ => none
def sFdiv : D → D → Option D
  | .int i, .int j => if 0 < j ∧ j.natAbs.log2 < 9000 then some (.int (i / j)) else none
  | _, _ => none
def sMod : D → D → Option D
  | .int i, .int j => if 0 < j then some (.int (i % j)) else none
  | _, _ => none
def sPow : D → D → Option D
  | .int i, .int j => if 0 ≤ j ∧ j ≤ 1000000 ∧ i.natAbs < 2 ^ 64 then some (.int (i ^ j.toNat)) else none
  | _, _ => none
section
variable {X : Cx}
theorem DvAll.rep {K : PySem.W.Frag} {F : Hp} {vs : List V} {ds : List D} (h : DvAll K F vs ds) : ∀ n : Nat, DvAll K F (List.replicate n vs).flatten (List.replicate n ds).flatten
  | 0 => .nil
  | n + 1 => by
    rw [List.replicate_succ, List.replicate_succ, List.flatten_cons, List.flatten_cons]
    exact h.append (DvAll.rep h n)
def rAddAll (K : PySem.W.Frag) : R2 := fun x y H Q => rI0 (fun i j => .int (i + j)) x y H Q ∨ (∃ i j, x = .str i ∧ y = .str j ∧ i.length + j.length ≤ sizeLine ∧ Q (.str (i ++ j)) H) ∨ rCatA K x y H Q ∨ rCat x y H Q
theorem or_add : OpR X (binaryOp .Add) (rAddAll X.K) := OpR.or op_add (OpR.or op_add_str (OpR.or op_catA op_cat))
theorem se_add {K : PySem.W.Frag} : Sem2 K (rAddAll K) sAdd := by
  intro F H v u d e c Q s hv hu hs g
  unfold sAdd at hs
  split at hs
  · cases hs
    exact .inl ⟨_, _, vw_int hv, vw_int hu, Give.of s g (.int _)⟩
  · split at hs
    · rename_i hl
      cases hs
      exact .inr (.inl ⟨_, _, vw_str hv, vw_str hu, hl, Give.of s g (.str _)⟩)
    · cases hs
  · unfold szT at hs
    split at hs
    · rename_i hl
      cases hs
      obtain ⟨a, xs, rfl, q1, a1, dv1⟩ := vw_tup s hv
      obtain ⟨b, ys, rfl, q2, a2, dv2⟩ := vw_tup s hu
      rw [List.length_append] at hl
      refine .inr (.inr (.inl ⟨a, b, xs, ys, rfl, rfl, q1, q2, by rw [a1.length, a2.length]; exact hl, fun e => ?_, fun _ e => ?_, fun _ _ => give_tup s g (a1.append a2)⟩))
      · subst e
        cases a1
        exact Give.of s g dv2
      · subst e
        cases a2
        rw [List.append_nil] at g
        exact Give.of s g dv1
    · cases hs
  · unfold szL at hs
    split at hs
    · rename_i hl
      cases hs
      obtain ⟨a, xs, rfl, q1, a1⟩ := vw_lst s hv
      obtain ⟨b, ys, rfl, q2, a2⟩ := vw_lst s hu
      rw [List.length_append] at hl
      exact .inr (.inr (.inr ⟨a, b, xs, ys, rfl, rfl, q1, q2, by rw [a1.length, a2.length]; exact hl, give_lst s g (a1.append a2)⟩))
    · cases hs
  · cases hs
theorem or_sub : OpR X (binaryOp .Sub) (rI0 fun i j => .int (i - j)) := op_sub
theorem se_sub {K : PySem.W.Frag} : Sem2 K (rI0 fun i j => .int (i - j)) sSub := by
  intro F H v u d e c Q s hv hu hs g
  unfold sSub at hs
  split at hs
  · cases hs
    exact ⟨_, _, vw_int hv, vw_int hu, Give.of s g (.int _)⟩
  · cases hs
def rMulAll (K : PySem.W.Frag) : R2 := fun x y H Q => rI CMulW (fun i j => .int (i * j)) x y H Q ∨ rRep x y H Q ∨ rRepT K x y H Q
theorem or_mul : OpR X (binaryOp .Mult) (rMulAll X.K) := OpR.or op_mulW (OpR.or op_rep op_repT)
theorem se_mul {K : PySem.W.Frag} : Sem2 K (rMulAll K) sMul := by
  intro F H v u d e c Q s hv hu hs g
  unfold sMul at hs
  split at hs
  · split at hs
    · rename_i hw
      cases hs
      exact .inl ⟨_, _, vw_int hv, vw_int hu, by unfold wideB at hw; have z := of_decide_eq_true hw; exact z, Give.of s g (.int _)⟩
    · cases hs
  · split at hs
    · rename_i hl
      cases hs
      obtain ⟨a, xs, rfl, q1, a1⟩ := vw_lst s hv
      exact .inr (.inl ⟨a, _, xs, rfl, vw_int hu, q1, hl.1, hl.2.1, by rw [a1.length]; exact hl.2.2, give_lst s g (a1.rep _)⟩)
    · cases hs
  · split at hs
    · rename_i hl
      cases hs
      obtain ⟨a, xs, rfl, q1, a1, _⟩ := vw_tup s hv
      exact .inr (.inr ⟨a, _, xs, rfl, vw_int hu, q1, fun z => hl.1 (by subst z; cases a1; rfl), hl.2.1, hl.2.2.1, by rw [a1.length]; exact hl.2.2.2, give_tup s g (a1.rep _)⟩)
    · cases hs
  · cases hs
theorem or_fdiv : OpR X (binaryOp .FloorDiv) (rI CDivW fun i j => .int (i / j)) := op_fdivW
theorem se_fdiv {K : PySem.W.Frag} : Sem2 K (rI CDivW fun i j => .int (i / j)) sFdiv := by
  intro F H v u d e c Q s hv hu hs g
  unfold sFdiv at hs
  split at hs
  · split at hs
    · rename_i hw
      cases hs
      exact ⟨_, _, vw_int hv, vw_int hu, hw, Give.of s g (.int _)⟩
    · cases hs
  · cases hs
theorem or_mod : OpR X (binaryOp .Mod) (rI (fun _ j => 0 < j) fun i j => .int (i % j)) := op_mod
theorem se_mod {K : PySem.W.Frag} : Sem2 K (rI (fun _ j => 0 < j) fun i j => .int (i % j)) sMod := by
  intro F H v u d e c Q s hv hu hs g
  unfold sMod at hs
  split at hs
  · split at hs
    · rename_i hw
      cases hs
      exact ⟨_, _, vw_int hv, vw_int hu, hw, Give.of s g (.int _)⟩
    · cases hs
  · cases hs
theorem or_pow : OpR X (binaryOp .Pow) (rI CPow fun i j => .int (i ^ j.toNat)) := op_pow
theorem se_pow {K : PySem.W.Frag} : Sem2 K (rI CPow fun i j => .int (i ^ j.toNat)) sPow := by
  intro F H v u d e c Q s hv hu hs g
  unfold sPow at hs
  split at hs
  · split at hs
    · rename_i hw
      cases hs
      exact ⟨_, _, vw_int hv, vw_int hu, hw, Give.of s g (.int _)⟩
    · cases hs
  · cases hs
def sNeg : D → Option D
  | .int i => some (.int (-i))
  | _ => none
theorem or_neg : UnR X (unaryOp .USub) (rU fun i => .int (-i)) := un_neg
theorem se_neg {K : PySem.W.Frag} : Sem1 K (rU fun i => .int (-i)) sNeg := by
  intro F H v d e Q s hv hs g
  unfold sNeg at hs
  split at hs
  · cases hs
    exact ⟨_, vw_int hv, Give.of s g (.int _)⟩
  · cases hs

/-! ### comparisons -/
def sCmp (f : Int → Int → Bool) : D → D → Option D
  | .int i, .int j => some (.bool (f i j))
  | _, _ => none
theorem se_cmp {K : PySem.W.Frag} {f : Int → Int → Bool} : Sem2 K (rI0 fun i j => .bl (f i j)) (sCmp f) := by
  intro F H v u d e c Q s hv hu hs g
  unfold sCmp at hs
  split at hs
  · cases hs
    exact ⟨_, _, vw_int hv, vw_int hu, Give.of s g (.bl _)⟩
  · cases hs
abbrev fLt (i j : Int) : Bool := decide (i < j)
abbrev fLe (i j : Int) : Bool := decide (i ≤ j)
abbrev fGt (i j : Int) : Bool := decide (i > j)
abbrev fGe (i j : Int) : Bool := decide (i ≥ j)
theorem or_lt : OpR X (compareOp .Lt) (rI0 fun i j => .bl (fLt i j)) := op_lt
theorem or_le : OpR X (compareOp .LtE) (rI0 fun i j => .bl (fLe i j)) := op_le
theorem or_gt : OpR X (compareOp .Gt) (rI0 fun i j => .bl (fGt i j)) := op_gt
theorem or_ge : OpR X (compareOp .GtE) (rI0 fun i j => .bl (fGe i j)) := op_ge
end

/-! ### == != -/
section
variable {K : PySem.W.Frag} {F H : Hp}
mutual
theorem dv_dp (s : Same F H) : ∀ (d : D) (v : V), d.canLay0 = true → Dv K F v d → Dp K H v d
  | .none, _, _, h => by cases h; exact .non
  | .bool b, _, _, h => by cases h; exact .bl b
  | .int i, _, _, h => by cases h; exact .int i
  | .str x, _, _, h => by cases h; exact .str x
  | .list ds, _, c, h => by
    cases h with
    | lst q a => exact .lst (.inl (.inl (s _ _ q))) (dvAll_dp s ds _ (by simpa [PyData.canLay0] using c) a)
  | .tuple ds, _, c, h => by
    cases h with
    | tup q a => exact .tup (sqT_mono s q) (dvAll_dp s ds _ (by simpa [PyData.canLay0] using c) a)
  | .dict _, _, c, _ => by simp [PyData.canLay0] at c
theorem dvAll_dp (s : Same F H) : ∀ (ds : List D) (vs : List V), PyData.canLayAll0 ds = true → DvAll K F vs ds → DpAll K H vs ds
  | [], _, _, h => by cases h; exact .nil
  | d :: ds, _, c, h => by
    cases h with
    | cons a b =>
      have c' : d.canLay0 = true ∧ PyData.canLayAll0 ds = true := by simpa [PyData.canLayAll0] using c
      exact .cons (dv_dp s d _ c'.1 a) (dvAll_dp s ds _ c'.2 b)
end
theorem vw_dp {v : V} {d : D} (s : Same F H) (c : d.canLay0 = true) (h : Vw K F H v d) : Dp K H v d := by
  cases h with
  | fz h => exact dv_dp s d v c h
  | own h _ =>
    cases h with
    | lst q a => exact .lst (.inl (.inl q)) (dvAll_dp s _ _ (by simpa [PyData.canLay0] using c) a)
    | dct q a => simp [PyData.canLay0] at c
    | dctT q a => simp [PyData.canLay0] at c
end
/-- == as the language tells it; ints and texts of any size, deep data of a form -/
def eqD : D → D → Option Bool
  | .none, .none => some true
  | .int i, .int j => some (i == j)
  | .bool i, .bool j => some (i == j)
  | .str i, .str j => some (i == j)
  | .none, .int _ => some false
  | .int _, .none => some false
  | .none, .str _ => some false
  | .str _, .none => some false
  | .none, .bool _ => some false
  | .bool _, .none => some false
  | .int _, .str _ => some false
  | .str _, .int _ => some false
  | .bool _, .str _ => some false
  | .str _, .bool _ => some false
  | d, e => if SeqAt.shaped d = true ∧ SeqAt.shaped e = true then some (PyData.eqv d e) else none
def sEq (d e : D) : Option D := (eqD d e).map .bool
def sNe (d e : D) : Option D := (eqD d e).map fun b => .bool (!b)
section
variable {X : Cx} {K : PySem.W.Frag}
theorem eq_walk {F H : Hp} {v u : V} {d e : D} {b : Bool} (s : Same F H) (hv : Vw K F H v d) (hu : Vw K F H u e) (hs : eqD d e = some b) :
    (scal v u = true ∧ decide (v = u) = b) ∨ (∃ d e, Dp K H v d ∧ Dp K H u e ∧ SeqAt.shaped d = true ∧ SeqAt.shaped e = true ∧ PyData.eqv d e = b) := by
  unfold eqD at hs
  split at hs
  · cases hs; left; rw [vw_non hv, vw_non hu]; exact ⟨rfl, decide_eq_true rfl⟩
  · cases hs; left; rw [vw_int hv, vw_int hu]; exact ⟨rfl, dec_int⟩
  · cases hs; left; rw [vw_bl hv, vw_bl hu]; exact ⟨rfl, dec_bl⟩
  · cases hs; left; rw [vw_str hv, vw_str hu]; exact ⟨rfl, dec_str⟩
  · cases hs; left; rw [vw_non hv, vw_int hu]; exact ⟨rfl, decide_eq_false fun z => by cases z⟩
  · cases hs; left; rw [vw_int hv, vw_non hu]; exact ⟨rfl, decide_eq_false fun z => by cases z⟩
  · cases hs; left; rw [vw_non hv, vw_str hu]; exact ⟨rfl, decide_eq_false fun z => by cases z⟩
  · cases hs; left; rw [vw_str hv, vw_non hu]; exact ⟨rfl, decide_eq_false fun z => by cases z⟩
  · cases hs; left; rw [vw_non hv, vw_bl hu]; exact ⟨rfl, decide_eq_false fun z => by cases z⟩
  · cases hs; left; rw [vw_bl hv, vw_non hu]; exact ⟨rfl, decide_eq_false fun z => by cases z⟩
  · cases hs; left; rw [vw_int hv, vw_str hu]; exact ⟨rfl, decide_eq_false fun z => by cases z⟩
  · cases hs; left; rw [vw_str hv, vw_int hu]; exact ⟨rfl, decide_eq_false fun z => by cases z⟩
  · cases hs; left; rw [vw_bl hv, vw_str hu]; exact ⟨rfl, decide_eq_false fun z => by cases z⟩
  · cases hs; left; rw [vw_str hv, vw_bl hu]; exact ⟨rfl, decide_eq_false fun z => by cases z⟩
  · split at hs
    · rename_i hc
      cases hs
      exact .inr ⟨d, e, vw_dp s (SeqAt.canLay_of_shaped hc.1) hv, vw_dp s (SeqAt.canLay_of_shaped hc.2) hu, hc.1, hc.2, rfl⟩
    · cases hs
def rEqAll (K : PySem.W.Frag) : R2 := fun x y H Q => rEq x y H Q ∨ rEqD K x y H Q
def rNeAll (K : PySem.W.Frag) : R2 := fun x y H Q => rNe x y H Q ∨ rNeD K x y H Q
theorem or_eq (hu : X.A.units + 64 < cLine) : OpR X (compareOp .Eq) (rEqAll X.K) := OpR.or op_eq (op_eqD hu)
theorem or_ne (hu : X.A.units + 64 < cLine) : OpR X (compareOp .NotEq) (rNeAll X.K) := OpR.or op_ne (op_neD hu)
theorem se_eq : Sem2 K (rEqAll K) sEq := by
  intro F H v u d e c Q s hv hu hs g
  obtain ⟨b, e1, rfl⟩ := Option.map_eq_some_iff.mp hs
  rcases eq_walk s hv hu e1 with ⟨q1, q2⟩ | ⟨d', e', q1, q2, q3, q4, q5⟩
  · exact .inl ⟨q1, q2 ▸ Give.of s g (.bl _)⟩
  · exact .inr ⟨d', e', q1, q2, q3, q4, q5 ▸ Give.of s g (.bl _)⟩
theorem se_ne : Sem2 K (rNeAll K) sNe := by
  intro F H v u d e c Q s hv hu hs g
  obtain ⟨b, e1, rfl⟩ := Option.map_eq_some_iff.mp hs
  rcases eq_walk s hv hu e1 with ⟨q1, q2⟩ | ⟨d', e', q1, q2, q3, q4, q5⟩
  · exact .inl ⟨q1, q2 ▸ Give.of s g (.bl _)⟩
  · exact .inr ⟨d', e', q1, q2, q3, q4, q5 ▸ Give.of s g (.bl _)⟩

/-! ### is None -/
def isNone : D → Bool
  | .none => true
  | _ => false
def sIs : D → D → Option D
  | d, .none => some (.bool (isNone d))
  | _, _ => none
def sIsNot : D → D → Option D
  | d, .none => some (.bool (!isNone d))
  | _, _ => none
theorem vw_isN {F H : Hp} {v : V} {d : D} (h : Vw K F H v d) : decide (v = .non) = isNone d := by
  cases h with
  | fz h => cases h <;> first | rfl | exact decide_eq_false fun z => by cases z
  | own h _ => cases h <;> exact decide_eq_false fun z => by cases z
def rIsN : R2 := fun x y H Q => y = .non ∧ Q (.bl (decide (x = .non))) H
def rNotN : R2 := fun x y H Q => y = .non ∧ Q (.bl (!decide (x = .non))) H
theorem or_is : OpR X (compareOp .Is) rIsN := op_isN
theorem or_isnot : OpR X (compareOp .IsNot) rNotN := op_notN
theorem se_is : Sem2 K rIsN sIs := by
  intro F H v u d e c Q s hv hu hs g
  unfold sIs at hs
  split at hs
  · cases hs
    exact ⟨vw_non hu, vw_isN hv ▸ Give.of s g (.bl _)⟩
  · cases hs
theorem se_isnot : Sem2 K rNotN sIsNot := by
  intro F H v u d e c Q s hv hu hs g
  unfold sIsNot at hs
  split at hs
  · cases hs
    exact ⟨vw_non hu, vw_isN hv ▸ Give.of s g (.bl _)⟩
  · cases hs
end
end DL
/-! Dsort: sorted(..) of a list or tuple of data. -/
namespace DL
open PySem PySem.Spec PySem.W L2
open PyProof.Rows hiding St

/-- the object's items, a list's or a tuple's -/
def HasSeq (h : Heap) (p : Addr) (us : List Value) : Prop := ∃ (o : Obj) (k : Nat) (T : String), h.get? p = some o ∧ o.cls = .type T ∧ (T = "list" ∨ T = "tuple") ∧ o.data = .seq us.toArray k
section
variable {prog : Program} {w : World} {A : Around} {E : Value → Shared → Prop} {s : Shared} {p : Addr} {us : List Value}
/-- the heap behind collect -/
def gath (h : Heap) (us : List Value) : Heap := (h.push (seqObj "list" #[] 0)).update h.objs.size (Obj.mapSeq (· ++ us.toArray))
theorem collect_both {Q : List Value → Shared → Prop} (hp : HasSeq s.heap p us) (hz : us.length ≤ sizeLine) (q : Q us { s with heap := gath s.heap us }) : wpAny (model prog w) A (collect (.ref p)) Q E s := by
  obtain ⟨o, k, T, ho, hc, hT, hd⟩ := hp
  have old : (s.heap.push (seqObj "list" #[] 0)).get? p = some o := Heap.get?_push_of_some _ ho
  have nw : (s.heap.push (seqObj "list" #[] 0)).get? s.heap.objs.size = some (seqObj "list" #[] 0) := Heap.get?_push_size _ rfl
  have sz : ((#[] : Array Value) ++ us.toArray).size ≤ sizeLine + 1 := by rw [Array.size_append, List.size_toArray, List.size_toArray, List.length_nil]; omega
  have isT : (Value.type T == Value.type "list" || Value.type T == Value.type "tuple") = true := by
    rcases hT with rfl | rfl <;> rfl
  unfold collect
  refine wpAny_bind (wpAny_runValue (codeAny_builtin entry_proto_collect' ?_))
  show wpAny _ _ (newList [] >>= fun l => again (.builtin "list.__iadd__" ⟨[l, .ref p], []⟩)) _ _ s
  refine wpAny_bind (wpAny_newList (wpAny_pure ?_))
  refine ⟨Code.quiet_builtin _ (by decide +kernel), ?_⟩
  refine codeAny_builtin entry_list_iadd' ?_
  show wpAny _ _ (Builtin.List.listExtendWith (.ref s.heap.objs.size) (.ref p) (.ref s.heap.objs.size)) _ _ { s with heap := s.heap.push (seqObj "list" #[] 0) }
  unfold Builtin.List.listExtendWith
  refine wpAny_bind (wpAny_typeOf (T := T) ⟨o, old, hc⟩ ?_)
  rw [if_pos (by rw [Bool.or_assoc, isT, Bool.or_true])]
  refine wpAny_bind (listItems_at old hd ?_)
  refine wpAny_bind (listItems_at (xs := #[]) (n := 0) nw rfl ?_)
  rw [if_neg (by simp)]
  refine wpAny_bind (listUpdate_at (xs := #[]) (n := 0) nw rfl ?_ (Nat.zero_le _) sz)
  refine wpAny_pure ?_
  have e : ((#[] : Array Value) ++ us.toArray).toList = us := by simp
  show wpAny (model prog w) A (load s.heap.objs.size >>= fun o => match o.data with
    | .seq xs _ => pure xs.toList
    | _ => unsupported "internal:collect") Q E { s with heap := gath s.heap us }
  refine wpAny_bind (wpAny_load (get?_update_seq nw _) ?_)
  show wpAny _ _ (pure ((#[] : Array Value) ++ us.toArray).toList) Q E { s with heap := gath s.heap us }
  rw [e]
  exact wpAny_pure q
theorem gath_size (h : Heap) (us : List Value) : (gath h us).objs.size = h.objs.size + 1 := by
  unfold gath
  rw [Heap.size_update, size_push']
/-- sorted(p): the items' data, in their order -/
theorem sorted_both {ds : List PyData} {R : Value → PyData → Prop} {Q : Value → Shared → Prop} (hp : HasSeq s.heap p us) (hz : us.length ≤ sizeLine) (e : EachIs R us ds) (er : EachIs (fun v d => ∃ as, Reads s.heap v d as) us ds)
    (hal : AllAlike ds) (hk : Sortable ds) (hu : ∀ d, d ∈ ds → A.units + 2 + d.depth < cLine)
    (q : ∀ out, EachIs R out (ds.mergeSort (dataLe false fun d => d)) → Q (.ref (s.heap.objs.size + 1)) { s with heap := sortedAll s.heap us out.toArray }) : wpAny (model prog w) A (call (.builtin "sorted") [.ref p]) Q E s := by
  have er' : EachIs (fun v d => ∃ as, Reads (sortingHeap (copyHeap s.heap us) (s.heap.objs.size + 1) us) v d as) us ds := er.mono fun _ _ z => z.elim fun as r => ⟨as, PyProof.Rows.Reads.keeps (fun _ _ => sorting_copy_old) r⟩
  have S := SortsAt.data (prog := prog) (w := w) (A := A.in1.in1) (s := { s with heap := sortingHeap (copyHeap s.heap us) (s.heap.objs.size + 1) us }) er' hal hk hu
  have em : ds.map (fun d => d) = ds := List.map_id' ds
  have out := sortVals_data (h' := sortingHeap (copyHeap s.heap us) (s.heap.objs.size + 1) us) (enc := fun d => d) false e er' (by rw [em]; exact hal)
  rw [em] at out
  refine Calls.call_function_entry kind_sorted plain_sorted entry_sorted (args_sorted1 _) ?_
  unfold Builtin.«sorted»
  refine wpAny_bind (m := checkCount "sorted" 1 1 _) (wpAny_pure ?_)
  refine wpAny_bind (collect_both hp hz ?_)
  refine wpAny_bind (wpAny_newList ?_ hz)
  show wpAny _ _ _ _ _ { s with heap := copyHeap s.heap us }
  rw [gath_size]
  refine wpAny_bind (wpAny_holding (wpAny_call_entry slot_list_sort ⟨_, copyHeap_at s.heap us, rfl⟩ entry_list_sort ?_ (args_list_sort _)))
  refine list_sort_vals (s := { s with heap := copyHeap s.heap us }) (copyHeap_at s.heap us) S hz ⟨_, rfl, wpAny_pure ⟨_, rfl, ?_⟩⟩
  exact q _ out
end

/-! ### over the layer -/
/-- sorted(x): R is what is known of the items -/
def rSortD (K : PySem.W.Frag) : List V → Hp → VK → Prop := fun vs H Q => ∃ (a : Addr) (xs : List V) (ds : List D) (R : V → D → Prop), vs = [.ref a] ∧ (SqL K H a xs ∨ SqT K H a xs) ∧ DpAll K H xs ds ∧ EachIs R xs ds ∧ AllAlike ds ∧ Sortable ds ∧ (∀ d ∈ ds, d.depth ≤ 60) ∧
  ∀ ys p, EachIs R ys (ds.mergeSort (dataLe false fun d => d)) → H p = none → Q (.ref p) (upd H p (.lst ys))
theorem vals_each {P : Value → D → Prop} {R : V → D → Prop} : ∀ {xs : List V} {us : List Value} {ds : List D}, Vals xs us → EachIs R xs ds → (∀ x u d, RelV x u → R x d → P u d) → EachIs P us ds
  | _, _, _, .nil, .nil, _ => .nil
  | _, _, _, .cons r t, .cons h k, f => .cons (f _ _ _ r h) (vals_each t k f)
theorem each_vals {R : V → D → Prop} : ∀ {us : List Value} {ds : List D}, EachIs (fun u d => ∃ x, RelV x u ∧ R x d) us ds → ∃ xs, Vals xs us ∧ EachIs R xs ds
  | _, _, .nil => ⟨[], .nil, .nil⟩
  | _, _, .cons ⟨x, r, h⟩ t => by
    obtain ⟨xs, q1, q2⟩ := each_vals t
    exact ⟨x :: xs, .cons r q1, .cons h q2⟩
section
variable {X : Cx}
theorem reads_each {pins : List (Addr × Obj)} {σ : St} {H : Hp} {s : Shared} (I : Inv X pins σ H s) : ∀ {xs : List V} {us : List Value} {ds : List D}, Vals xs us → DpAll X.K H xs ds → EachIs (fun v d => ∃ as, Reads s.heap v d as) us ds
  | _, _, _, .nil, .nil => .nil
  | _, _, _, .cons r t, .cons h k => .cons (Dp.reads I _ _ _ h r) (reads_each I t k)
theorem cr_sortD (hu : X.A.units + 64 < cLine) : CallR X (.builtin "sorted") (rSortD X.K) := by
  intro pins s σ H vs us Q I r h
  obtain ⟨a, xs, ds, R, rfl, hs, hd, hR, hal, hk, hdp, q⟩ := h
  obtain ⟨u, rfl, rx⟩ := vals1 r
  cases rx
  have go : ∀ its : List Value, Vals xs its → HasSeq s.heap a its → xs.length ≤ sizeLine → wpAny (model X.prog X.w) X.A (call (.builtin "sorted") [.ref a]) (EP X pins σ Q) X.xe s := fun its rv hp hz => by
    have hl := rv.length
    refine sorted_both (R := fun v d => ∃ x, RelV x v ∧ R x d) hp (by omega) (vals_each rv hR fun x u d r h => ⟨x, r, h⟩) (reads_each I rv hd) hal hk (fun d hm => by have := hdp d hm; omega) fun out ho => ?_
    obtain ⟨ys, v1, v2⟩ := each_vals ho
    obtain ⟨ep, he⟩ := PyProof.Rows.sortedAll_at s.heap its out.toArray
    have hlen : ys.length ≤ sizeLine := by
      have e1 := v2.length
      rw [List.length_mergeSort] at e1
      have e2 := hR.length
      omega
    exact ⟨.ref _, upd H (s.heap.objs.size + 1) (.lst ys), I.laid (t' := s.toks) (fun _ _ => PyProof.Rows.sortedAll_old) (Nat.le_succ _) ⟨hlen, out, ep, v1, he⟩, rfl, q ys _ v2 (I.hok.fresh (Nat.le_succ _))⟩
  rcases hs with hs | hs
  · obtain ⟨its, rv, pl, hz⟩ := I.list hs
    obtain ⟨o, ho, hc, n, he⟩ := pl.isList
    exact go its rv ⟨o, n, _, ho, hc, .inl rfl, he⟩ (by have := rv.length; simpa using (this ▸ hz))
  · obtain ⟨its, rv, pl, hz⟩ := I.tuple hs
    obtain ⟨o, ho, hc, n, he⟩ := pl
    exact go its rv ⟨o, n, _, ho, hc, .inr rfl, he⟩ (by have := rv.length; simpa using (this ▸ hz))
end
end DL
/-! Dl9: in, subscripts, slices, built-ins by data. -/
namespace DL
open PySem PySem.Spec L2
open PyProof.Rows hiding St

/-! ### in, not in -/
def flatD : D → Bool
  | .none => true
  | .bool _ => true
  | .int _ => true
  | .str _ => true
  | _ => false
def inB : D → D → Option Bool
  | .str x, .str z => match x.cps.toList with
    | [c] => some (decide (c ∈ z.cps.toList))
    | _ => none
  | x, .tuple ds => if flatD x = true ∧ ds.all flatD = true then some (ds.any fun z => PyData.eqv z x) else none
  | x, .list ds => if flatD x = true ∧ ds.all flatD = true then some (ds.any fun z => PyData.eqv z x) else
      if SeqAt.shaped x = true ∧ SeqAt.shaped (.list ds) = true then some (ds.any fun z => PyData.eqv z x) else none
  | _, _ => none
def sIn (x y : D) : Option D := (inB x y).map .bool
def sNotIn (x y : D) : Option D := (inB x y).map fun b => .bool (!b)
section
variable {K : PySem.W.Frag} {F H : Hp}
theorem dv_flat {v : V} {d : D} (h : Dv K F v d) (f : flatD d = true) : flatV v = true := by
  cases h <;> first | rfl | cases f
theorem dv_eqv {u v : V} {d e : D} (h : Dv K F u d) (f : flatD d = true) (k : Dv K F v e) (g : flatD e = true) : eqV u v = PyData.eqv d e := by
  cases h <;> (first | (cases f; done) | skip) <;> cases k <;> first | (cases g; done) | (unfold L2.eqV PyData.eqv; rfl)
theorem vw_flat {v : V} {d : D} (h : Vw K F H v d) (f : flatD d = true) : Dv K F v d := by
  cases h with
  | fz h => exact h
  | own h _ => cases h <;> cases f
theorem all_flat : ∀ {vs : List V} {ds : List D}, DvAll K F vs ds → ds.all flatD = true → vs.all flatV = true
  | _, _, .nil, _ => rfl
  | _, _, .cons a b, f => by
    rw [List.all_cons, Bool.and_eq_true] at f ⊢
    exact ⟨dv_flat a f.1, all_flat b f.2⟩
theorem any_flat {v : V} {d : D} (k : Dv K F v d) (g : flatD d = true) : ∀ {vs : List V} {ds : List D}, DvAll K F vs ds → ds.all flatD = true → inV v vs = ds.any fun z => PyData.eqv z d
  | _, _, .nil, _ => rfl
  | _, _, .cons a b, f => by
    rw [List.all_cons, Bool.and_eq_true] at f
    unfold inV
    rw [List.any_cons, List.any_cons, dv_eqv a f.1 k g]
    exact congrArg _ (any_flat k g b f.2)
theorem in_walk {v u : V} {d e : D} {b : Bool} (s : Same F H) (hv : Vw K F H v d) (hu : Vw K F H u e) (hs : inB d e = some b) :
    (∃ p xs, u = .ref p ∧ (SqL K H p xs ∨ SqT K H p xs) ∧ flatV v = true ∧ xs.all flatV = true ∧ inV v xs = b) ∨ (∃ (c : Nat) (z : Str), v = .str ⟨#[c]⟩ ∧ u = .str z ∧ decide (c ∈ z.cps.toList) = b) ∨
      (∃ d ds, Dp K H v d ∧ Dp K H u (.list ds) ∧ SeqAt.shaped d = true ∧ SeqAt.shaped (.list ds) = true ∧ (ds.any fun z => PyData.eqv z d) = b) := by
  unfold inB at hs
  split at hs
  · rename_i x z
    split at hs
    · rename_i c e
      cases hs
      refine .inr (.inl ⟨c, z, ?_, vw_str hu, rfl⟩)
      rw [vw_str hv]
      obtain ⟨⟨l⟩⟩ := x
      have e' : l = [c] := e
      subst e'
      rfl
    · cases hs
  · split at hs
    · rename_i hc
      cases hs
      obtain ⟨a, xs, rfl, q, al, _⟩ := vw_tup s hu
      have k := vw_flat hv hc.1
      exact .inl ⟨a, xs, rfl, .inr q, dv_flat k hc.1, all_flat al hc.2, any_flat k hc.1 al hc.2⟩
    · cases hs
  · split at hs
    · rename_i hc
      cases hs
      obtain ⟨a, xs, rfl, q, al⟩ := vw_lst s hu
      have k := vw_flat hv hc.1
      exact .inl ⟨a, xs, rfl, .inl (.inl (.inl q)), dv_flat k hc.1, all_flat al hc.2, any_flat k hc.1 al hc.2⟩
    · split at hs
      · rename_i hc
        cases hs
        exact .inr (.inr ⟨_, _, vw_dp s (SeqAt.canLay_of_shaped hc.1) hv, vw_dp s (SeqAt.canLay_of_shaped hc.2) hu, hc.1, hc.2, rfl⟩)
      · cases hs
  · cases hs
def rInSg (f : Bool → Bool) : R2 := fun x y H Q => ∃ (c : Nat) (z : Str), x = .str ⟨#[c]⟩ ∧ y = .str z ∧ Q (.bl (f (decide (c ∈ z.cps.toList)))) H
def rInAll (K : PySem.W.Frag) : R2 := fun x y H Q => rIn K false x y H Q ∨ rInSg (fun b => b) x y H Q ∨ rInD K x y H Q
def rNotInAll (K : PySem.W.Frag) : R2 := fun x y H Q => rIn K true x y H Q ∨ rInSg (fun b => !b) x y H Q ∨ rNotInD K x y H Q
theorem se_in : Sem2 K (rInAll K) sIn := by
  intro F H v u d e c Q s hv hu hs g
  obtain ⟨b, e1, rfl⟩ := Option.map_eq_some_iff.mp hs
  rcases in_walk s hv hu e1 with ⟨p, xs, rfl, q, f1, f2, e2⟩ | ⟨c, z, rfl, rfl, e2⟩ | ⟨d, ds, q1, q2, q3, q4, e2⟩
  · exact .inl ⟨p, xs, rfl, q, f1, f2, by rw [if_neg Bool.false_ne_true, e2]; exact Give.of s g (.bl _)⟩
  · exact .inr (.inl ⟨c, z, rfl, rfl, by rw [e2]; exact Give.of s g (.bl _)⟩)
  · exact .inr (.inr ⟨d, ds, q1, q2, q3, q4, by rw [e2]; exact Give.of s g (.bl _)⟩)
theorem se_notin : Sem2 K (rNotInAll K) sNotIn := by
  intro F H v u d e c Q s hv hu hs g
  obtain ⟨b, e1, rfl⟩ := Option.map_eq_some_iff.mp hs
  rcases in_walk s hv hu e1 with ⟨p, xs, rfl, q, f1, f2, e2⟩ | ⟨c, z, rfl, rfl, e2⟩ | ⟨d, ds, q1, q2, q3, q4, e2⟩
  · exact .inl ⟨p, xs, rfl, q, f1, f2, by rw [if_pos rfl, e2]; exact Give.of s g (.bl _)⟩
  · exact .inr (.inl ⟨c, z, rfl, rfl, by rw [e2]; exact Give.of s g (.bl _)⟩)
  · exact .inr (.inr ⟨d, ds, q1, q2, q3, q4, by rw [e2]; exact Give.of s g (.bl _)⟩)
end
section
variable {X : Cx}
theorem or_in (hu : X.A.units + 65 < cLine) : OpR X (compareOp .In) (rInAll X.K) := OpR.or op_in_seq (OpR.or op_in_sign (op_inD hu))
theorem or_notin (hu : X.A.units + 65 < cLine) : OpR X (compareOp .NotIn) (rNotInAll X.K) := OpR.or op_notIn_seq (OpR.or op_notIn_sign (op_notInD hu))
theorem u64 {k : Nat} {A : Around} (r : Room k A) : A.units + 64 < cLine := r.units
theorem u65 {k : Nat} {A : Around} (r : Room k A) : A.units + 65 < cLine := by have := r.un; omega
end

/-! ### subscripts -/
def sIx : D → D → Option D
  | .list ds, .int i => atI ds i
  | .tuple ds, .int i => atI ds i
  | .str z, .int i => if z.length ≤ sizeLine then (atI z.cps.toList i).map fun c => .str ⟨#[c]⟩ else none
  | .dict [(.none, .list ds)], .int i => atI ds i
  | _, _ => none
theorem at_all {K : PySem.W.Frag} {F : Hp} {vs : List V} {ds : List D} {i : Int} {d : D} (a : DvAll K F vs ds) (e : atI ds i = some d) : ∃ v, atI vs i = some v ∧ Dv K F v d := by
  unfold atI at e ⊢
  rw [a.length]
  cases q : ixN ds.length i with
  | none => rw [q] at e; cases e
  | some j =>
    rw [q] at e
    exact a.get e
theorem se_ix {K : PySem.W.Frag} : Sem2 K (rIx K) sIx := by
  intro F H v u d e c Q s hv hu hs g
  unfold sIx at hs
  split at hs
  · obtain ⟨a, xs, rfl, q, al⟩ := vw_lst s hv
    obtain ⟨x, e1, dv⟩ := at_all al hs
    exact .inl ⟨a, xs, _, x, rfl, vw_int hu, .inl (.inl q), e1, Give.of s g dv⟩
  · obtain ⟨a, xs, rfl, q, al, _⟩ := vw_tup s hv
    obtain ⟨x, e1, dv⟩ := at_all al hs
    exact .inr (.inl ⟨a, xs, _, x, rfl, vw_int hu, q, e1, Give.of s g dv⟩)
  · split at hs
    · rename_i hz
      obtain ⟨x, e1, rfl⟩ := Option.map_eq_some_iff.mp hs
      exact .inr (.inr ⟨_, _, x, vw_str hv, vw_int hu, hz, e1, Give.of s g (.str _)⟩)
    · cases hs
  · obtain ⟨a, ns, rfl, rfl, q⟩ := vw_scr s hv
    obtain ⟨x, e1, dv⟩ := at_all (DvAll.ints (K := K) (F := F) ns) hs
    exact .inl ⟨a, _, _, x, rfl, vw_int hu, q, e1, Give.of s g dv⟩
  · cases hs
section
variable {X : Cx} {g : Gh} {W : XW} {pos p2 : Pos} {a b : Expr} {fa fb : Ev}
theorem de_ix (ha : DE X g W a fa) (hb : DE X g W b fb) (hs : PlainIx b := by exact fun _ _ => rfl) : DE X g W (.Subscript a b pos) (dOp sIx fa fb) := by
  refine PE.imp (pe_ix ix_seq ha hb hs) fun σ H Q h => ?_
  obtain ⟨F, en, rp, f⟩ := h
  refine ⟨F, en, rp, (Fin.seq f).mono fun F1 H1 en1 x s1 r1 f1 v hv => ⟨F1, en1, r1, (Fin.seq f1).mono fun F2 H2 en2 y s2 r2 f2 u hu => ?_⟩⟩
  refine of_op2 (sem := sIx) (en := en2) (x := x) (y := y) (fun e => by rw [e] at f2; exact f2.elim) fun d e c e1 e2 e3 e4 => ?_
  exact se_ix F2 H2 v u d e c Q r2.fz (r2.view (RvOk.mono s2 hv) e1) (r2.view hu e2) e3 (fin1 r2 e4 f2)

/-! ### slices -/
abbrev Pv := En → Rs (Option Int)
def liftP (K : PySem.W.Frag) (g : Gh) (W : XW) (f : Pv) : TO := fun σ H Q => ∃ F en, Rep K g F en σ H ∧ Fin K g W σ F (f en) fun _ H' _ o => Q o H'
def DP (X : Cx) (g : Gh) (W : XW) (e : Option Expr) (f : Pv) : Prop := PO X e (liftP X.K g W f)
def pNo : Pv := fun en => .ok en none
def pIs (f : Ev) : Pv := fun en => (f en).bind fun en1 x => match x with
  | .d (.int i) => .ok en1 (some i)
  | _ => .no
theorem PO.imp {X : Cx} {e : Option Expr} {t t' : TO} (h : PO X e t) (i : ∀ σ H Q, t' σ H Q → t σ H Q) : PO X e t' := ⟨fun pins s σ H Q I q => h.run pins s σ H Q I (i σ H Q q)⟩
theorem dp_no : DP X g W none pNo := PO.imp po_none fun σ H Q h => by
  obtain ⟨F, en, rp, f⟩ := h
  exact f F H (Same.refl _) rp
theorem dp_is (ha : DE X g W a fa) : DP X g W (some a) (pIs fa) := PO.imp (po_some ha) fun σ H Q h => by
  obtain ⟨F, en, rp, f⟩ := h
  refine ⟨F, en, rp, (Fin.seq f).mono fun F1 H1 en1 x s1 r1 f1 v hv => ?_⟩
  split at f1
  · rename_i i
    exact ⟨i, rv_int hv, f1 F1 H1 (Same.refl _) r1⟩
  · exact f1.elim
def cutD (xs : List D) (lo hi : Option Int) : List D := (xs.drop (HT.sIx xs.length 0 lo)).take (HT.sIx xs.length xs.length hi - HT.sIx xs.length 0 lo)
theorem DvAll.cut {K : PySem.W.Frag} {F : Hp} {vs : List V} {ds : List D} (a : DvAll K F vs ds) (lo hi : Option Int) : DvAll K F (cutV vs lo hi) (cutD ds lo hi) := by
  unfold cutV cutD
  rw [a.length]
  exact (a.drop _).take _
def sSl (lo hi : Option Int) : D → Option D
  | .list ds => some (.list (cutD ds lo hi))
  | .tuple ds => some (.tuple (cutD ds lo hi))
  | .str z => if z.length ≤ sizeLine then some (.str (cutS z lo hi)) else none
  | _ => none
def rSlAll (K : PySem.W.Frag) : V → Option Int → Option Int → Hp → VK → Prop := fun x lo hi H Q => rSlL K x lo hi H Q ∨ rSlA K x lo hi H Q ∨ rSlS x lo hi H Q
theorem sl_all : SlR X (rSlAll X.K) := sl_list.or (sl_tupA.or sl_str)
def dSl (f : Ev) (lo hi : Pv) : Ev := fun en => (f en).bind fun en1 x => (lo en1).bind fun en2 l => (hi en2).bind fun en3 h => op1 (sSl l h) en3 x
theorem se_sl {K : PySem.W.Frag} {lo hi : Option Int} : Sem1 K (fun x H Q => rSlAll K x lo hi H Q) (sSl lo hi) := by
  intro F H v d e Q s hv hs g
  unfold sSl at hs
  split at hs
  · cases hs
    obtain ⟨a, xs, rfl, q, al⟩ := vw_lst s hv
    exact .inl ⟨a, xs, rfl, .inl (.inl q), give_lst s g (al.cut lo hi)⟩
  · cases hs
    obtain ⟨a, xs, rfl, q, al, dv⟩ := vw_tup s hv
    refine .inr (.inl ⟨a, xs, rfl, q, fun z => ?_, fun _ => give_tup s g (al.cut lo hi)⟩)
    rename_i ds
    have e : cutD ds lo hi = ds := by
      unfold cutD
      rw [← al.length, z.1, z.2, List.drop_zero, Nat.sub_zero]
      exact List.take_of_length_le (by rw [al.length]; exact Nat.le_refl _)
    rw [e] at g
    exact Give.of s g dv
  · split at hs
    · rename_i hz
      cases hs
      exact .inr (.inr ⟨_, vw_str hv, hz, Give.of s g (.str _)⟩)
    · cases hs
  · cases hs
theorem de_sl {lo hi : Option Expr} {fl fh : Pv} (ha : DE X g W a fa) (hl : DP X g W lo fl) (hh : DP X g W hi fh) : DE X g W (.Subscript a (.Slice lo hi none p2) pos) (dSl fa fl fh) := by
  refine PE.imp (pe_slice sl_all ha hl hh) fun σ H Q h => ?_
  obtain ⟨F, en, rp, f⟩ := h
  refine ⟨F, en, rp, (Fin.seq f).mono fun F1 H1 en1 x s1 r1 f1 v hv => ⟨F1, en1, r1, (Fin.seq f1).mono fun F2 H2 en2 l s2 r2 f2 => ⟨F2, en2, r2, (Fin.seq f2).mono fun F3 H3 en3 h s3 r3 f3 => ?_⟩⟩⟩
  refine of_op1 (sem := sSl l h) (en := en3) (x := x) (fun e => by rw [e] at f3; exact f3.elim) fun d c e1 e3 e4 => ?_
  exact se_sl F3 H3 v d c Q r3.fz (r3.view (RvOk.mono (s2.trans s3) hv) e1) e3 (fin1 r3 e4 f3)
end

/-! ### built-ins -/
def lenD : D → Option Nat
  | .list ds => some ds.length
  | .tuple ds => some ds.length
  | .str z => if z.length ≤ sizeLine then some z.length else none
  | .dict [(.none, .list ds)] => some ds.length
  | _ => none
def sLen : List D → Option D
  | [d] => (lenD d).map fun n => .int (n : Nat)
  | _ => none
section
variable {K : PySem.W.Frag}
theorem vwAll1 {F H : Hp} {vs : List V} {d : D} (h : VwAll K F H vs [d]) : ∃ v, vs = [v] ∧ Vw K F H v d := by
  cases h with
  | cons a b => cases b; exact ⟨_, rfl, a⟩
theorem vwAll2 {F H : Hp} {vs : List V} {d e : D} (h : VwAll K F H vs [d, e]) : ∃ v u, vs = [v, u] ∧ Vw K F H v d ∧ Vw K F H u e := by
  cases h with
  | cons a b =>
    obtain ⟨u, rfl, q⟩ := vwAll1 b
    exact ⟨_, _, rfl, a, q⟩
def rLen1 (K : PySem.W.Frag) : List V → Hp → VK → Prop := fun xs H Q => ∃ x n, xs = [x] ∧ LenV K x H n ∧ Q (.int (n : Nat)) H
theorem se_len : SemN K (rLen1 K) sLen := by
  intro F H vs ds c Q s hv hs g
  unfold sLen at hs
  split at hs
  · rename_i d
    obtain ⟨v, rfl, q⟩ := vwAll1 hv
    obtain ⟨n, e1, rfl⟩ := Option.map_eq_some_iff.mp hs
    refine ⟨v, n, rfl, ?_, Give.of s g (.int _)⟩
    unfold lenD at e1
    split at e1
    · cases e1
      obtain ⟨a, xs, rfl, q1, al⟩ := vw_lst s q
      exact .inl ⟨xs, .inl (.inl q1), al.length.symm⟩
    · cases e1
      obtain ⟨a, xs, rfl, q1, al, _⟩ := vw_tup s q
      exact .inr ⟨xs, q1, al.length.symm⟩
    · split at e1
      · rename_i hz
        cases e1
        rw [vw_str q]
        exact ⟨hz, rfl⟩
      · cases e1
    · cases e1
      obtain ⟨a, ns, rfl, rfl, q1⟩ := vw_scr s q
      exact .inl ⟨_, q1, by simp⟩
    · cases e1
  · cases hs
theorem cr_len {X : Cx} : CallR X (.builtin "len") (rLen1 X.K) := call_len
def sInt : List D → Option D
  | [.int i] => some (.int i)
  | [.bool b] => some (.int (if b then 1 else 0))
  | _ => none
def rInt1 : List V → Hp → VK → Prop := fun xs H Q => (∃ i, xs = [.int i] ∧ Q (.int i) H) ∨ ∃ k, xs = [.bl k] ∧ Q (.int (if k then 1 else 0)) H
theorem cr_int {X : Cx} : CallR X (.type "int") rInt1 := call_int1
theorem se_int : SemN K rInt1 sInt := by
  intro F H vs ds c Q s hv hs g
  unfold sInt at hs
  split at hs
  · cases hs
    obtain ⟨v, rfl, q⟩ := vwAll1 hv
    rw [vw_int q]
    exact .inl ⟨_, rfl, Give.of s g (.int _)⟩
  · cases hs
    obtain ⟨v, rfl, q⟩ := vwAll1 hv
    rw [vw_bl q]
    exact .inr ⟨_, rfl, Give.of s g (.int _)⟩
  · cases hs
def sAbs : List D → Option D
  | [.int i] => some (.int (if i < 0 then -i else i))
  | _ => none
def rAbs1 : List V → Hp → VK → Prop := fun xs H Q => ∃ i, xs = [.int i] ∧ Q (.int (if i < 0 then -i else i)) H
theorem cr_abs {X : Cx} : CallR X (.builtin "abs") rAbs1 := call_abs
theorem se_abs : SemN K rAbs1 sAbs := by
  intro F H vs ds c Q s hv hs g
  unfold sAbs at hs
  split at hs
  · cases hs
    obtain ⟨v, rfl, q⟩ := vwAll1 hv
    rw [vw_int q]
    exact ⟨_, rfl, Give.of s g (.int _)⟩
  · cases hs
/-- the ints of a list of them -/
def intsD : List D → Option (List Int)
  | [] => some []
  | .int i :: ds => (intsD ds).map fun r => i :: r
  | _ :: _ => none
def boolsD : List D → Option (List Bool)
  | [] => some []
  | .bool i :: ds => (boolsD ds).map fun r => i :: r
  | _ :: _ => none
theorem intsD_eq : ∀ {ds : List D} {ns : List Int}, intsD ds = some ns → ds = ns.map PyData.int
  | [], _, e => by cases e; rfl
  | d :: ds, ns, e => by
    cases d <;> first | (cases e; done) | skip
    obtain ⟨r, e1, rfl⟩ := Option.map_eq_some_iff.mp e
    rw [intsD_eq e1]
    rfl
theorem intsD_map : ∀ ns : List Int, intsD (ns.map PyData.int) = some ns
  | [] => rfl
  | n :: r => by
    show (intsD (r.map PyData.int)).map _ = _
    rw [intsD_map r]
    rfl
theorem boolsD_eq : ∀ {ds : List D} {ns : List Bool}, boolsD ds = some ns → ds = ns.map PyData.bool
  | [], _, e => by cases e; rfl
  | d :: ds, ns, e => by
    cases d <;> first | (cases e; done) | skip
    obtain ⟨r, e1, rfl⟩ := Option.map_eq_some_iff.mp e
    rw [boolsD_eq e1]
    rfl
theorem boolsD_map : ∀ ns : List Bool, boolsD (ns.map PyData.bool) = some ns
  | [] => rfl
  | n :: r => by
    show (boolsD (r.map PyData.bool)).map _ = _
    rw [boolsD_map r]
    rfl
theorem vals_ints_of {F : Hp} : ∀ {ns : List Int} {vs : List V}, DvAll K F vs (ns.map PyData.int) → vs = ns.map V.int
  | [], _, h => by cases h; rfl
  | n :: r, _, h => by
    cases h with
    | cons a b => cases a; rw [vals_ints_of b]; rfl
theorem vals_bools_of {F : Hp} : ∀ {ns : List Bool} {vs : List V}, DvAll K F vs (ns.map PyData.bool) → vs = ns.map V.bl
  | [], _, h => by cases h; rfl
  | n :: r, _, h => by
    cases h with
    | cons a b => cases a; rw [vals_bools_of b]; rfl
def maxL : List Int → Int
  | [] => 0
  | n :: r => r.foldl (fun a b => if b > a then b else a) n
def minL : List Int → Int
  | [] => 0
  | n :: r => r.foldl (fun a b => if b < a then b else a) n
theorem maxF : ∀ (r : List Int) (n : Int), (∀ y ∈ n :: r, y ≤ r.foldl (fun a b => if b > a then b else a) n) ∧ r.foldl (fun a b => if b > a then b else a) n ∈ n :: r
  | [], n => by simp
  | m :: r, n => by
    obtain ⟨h1, h2⟩ := maxF r (if m > n then m else n)
    refine ⟨fun y hy => ?_, ?_⟩
    · have h0 := h1 _ List.mem_cons_self
      rcases List.mem_cons.mp hy with rfl | hy
      · refine Int.le_trans ?_ h0
        split <;> omega
      · rcases List.mem_cons.mp hy with rfl | hy
        · refine Int.le_trans ?_ h0
          split <;> omega
        · exact h1 y (List.mem_cons_of_mem _ hy)
    · rcases List.mem_cons.mp h2 with e | h2
      · rw [List.foldl_cons, e]
        split <;> simp
      · exact List.mem_cons_of_mem _ (List.mem_cons_of_mem _ h2)
theorem minF : ∀ (r : List Int) (n : Int), (∀ y ∈ n :: r, r.foldl (fun a b => if b < a then b else a) n ≤ y) ∧ r.foldl (fun a b => if b < a then b else a) n ∈ n :: r
  | [], n => by simp
  | m :: r, n => by
    obtain ⟨h1, h2⟩ := minF r (if m < n then m else n)
    refine ⟨fun y hy => ?_, ?_⟩
    · have h0 := h1 _ List.mem_cons_self
      rcases List.mem_cons.mp hy with rfl | hy
      · refine Int.le_trans h0 ?_
        split <;> omega
      · rcases List.mem_cons.mp hy with rfl | hy
        · refine Int.le_trans h0 ?_
          split <;> omega
        · exact h1 y (List.mem_cons_of_mem _ hy)
    · rcases List.mem_cons.mp h2 with e | h2
      · rw [List.foldl_cons, e]
        split <;> simp
      · exact List.mem_cons_of_mem _ (List.mem_cons_of_mem _ h2)
theorem maxL_ge {ns : List Int} {y : Int} (h : y ∈ ns) : y ≤ maxL ns := by
  cases ns with
  | nil => cases h
  | cons n r => exact (maxF r n).1 y h
theorem maxL_mem {ns : List Int} (h : ns ≠ []) : maxL ns ∈ ns := by
  cases ns with
  | nil => exact absurd rfl h
  | cons n r => exact (maxF r n).2
theorem minL_le {ns : List Int} {y : Int} (h : y ∈ ns) : minL ns ≤ y := by
  cases ns with
  | nil => cases h
  | cons n r => exact (minF r n).1 y h
theorem minL_mem {ns : List Int} (h : ns ≠ []) : minL ns ∈ ns := by
  cases ns with
  | nil => exact absurd rfl h
  | cons n r => exact (minF r n).2
def sMax : List D → Option D
  | [.int i, .int j] => some (.int (if j > i then j else i))
  | [.list ds] => match intsD ds with
    | some ns => if 0 < ns.length then some (.int (maxL ns)) else none
    | none => none
  | _ => none
def sMin : List D → Option D
  | [.int i, .int j] => some (.int (if j < i then j else i))
  | [.list ds] => match intsD ds with
    | some ns => if 0 < ns.length then some (.int (minL ns)) else none
    | none => none
  | _ => none
def rMax2 : List V → Hp → VK → Prop := fun xs H Q => ∃ i j, xs = [.int i, .int j] ∧ Q (.int (if j > i then j else i)) H
def rMin2 : List V → Hp → VK → Prop := fun xs H Q => ∃ i j, xs = [.int i, .int j] ∧ Q (.int (if j < i then j else i)) H
def rMaxAll (K : PySem.W.Frag) : List V → Hp → VK → Prop := fun xs H Q => rMax2 xs H Q ∨ rMax K xs H Q
def rMinAll (K : PySem.W.Frag) : List V → Hp → VK → Prop := fun xs H Q => rMin2 xs H Q ∨ rMin K xs H Q
theorem cr_max' {X : Cx} (hc : X.calm = true) : CallR X (.builtin "max") (rMaxAll X.K) := CallR.or (call_max2 hc) (cr_max hc)
theorem cr_min' {X : Cx} (hc : X.calm = true) : CallR X (.builtin "min") (rMinAll X.K) := CallR.or (call_min2 hc) (cr_min hc)
theorem se_max : SemN K (rMaxAll K) sMax := by
  intro F H vs ds c Q s hv hs g
  unfold sMax at hs
  split at hs
  · cases hs
    obtain ⟨v, u, rfl, q1, q2⟩ := vwAll2 hv
    rw [vw_int q1, vw_int q2]
    exact .inl ⟨_, _, rfl, Give.of s g (.int _)⟩
  · split at hs
    · rename_i ds ns e1
      split at hs
      · rename_i hl
        cases hs
        obtain ⟨v, rfl, q⟩ := vwAll1 hv
        obtain ⟨a, xs, rfl, q1, al⟩ := vw_lst s q
        rw [intsD_eq e1] at al
        have := vals_ints_of al
        subst this
        refine .inr ⟨a, ns, rfl, .inl (.inl q1), hl, fun m hm hy => ?_⟩
        have hne : ns ≠ [] := by
          intro z
          subst z
          simp at hl
        have : m = maxL ns := Int.le_antisymm (maxL_ge hm) (hy _ (maxL_mem hne))
        subst this
        exact Give.of s g (.int _)
      · cases hs
    · cases hs
  · cases hs
theorem se_min : SemN K (rMinAll K) sMin := by
  intro F H vs ds c Q s hv hs g
  unfold sMin at hs
  split at hs
  · cases hs
    obtain ⟨v, u, rfl, q1, q2⟩ := vwAll2 hv
    rw [vw_int q1, vw_int q2]
    exact .inl ⟨_, _, rfl, Give.of s g (.int _)⟩
  · split at hs
    · rename_i ds ns e1
      split at hs
      · rename_i hl
        cases hs
        obtain ⟨v, rfl, q⟩ := vwAll1 hv
        obtain ⟨a, xs, rfl, q1, al⟩ := vw_lst s q
        rw [intsD_eq e1] at al
        have := vals_ints_of al
        subst this
        refine .inr ⟨a, ns, rfl, .inl (.inl q1), hl, fun m hm hy => ?_⟩
        have hne : ns ≠ [] := by
          intro z
          subst z
          simp at hl
        have : m = minL ns := Int.le_antisymm (hy _ (minL_mem hne)) (minL_le hm)
        subst this
        exact Give.of s g (.int _)
      · cases hs
    · cases hs
  · cases hs
def sSum : List D → Option D
  | [.list ds] => (intsD ds).map fun ns => .int ns.sum
  | _ => none
theorem se_sum : SemN K (rSum K) sSum := by
  intro F H vs ds c Q s hv hs g
  unfold sSum at hs
  split at hs
  · obtain ⟨ns, e1, rfl⟩ := Option.map_eq_some_iff.mp hs
    obtain ⟨v, rfl, q⟩ := vwAll1 hv
    obtain ⟨a, xs, rfl, q1, al⟩ := vw_lst s q
    rw [intsD_eq e1] at al
    have := vals_ints_of al
    subst this
    exact ⟨a, ns, rfl, .inl (.inl q1), Give.of s g (.int _)⟩
  · cases hs
def sAll : List D → Option D
  | [.list ds] => (boolsD ds).map fun ns => .bool (ns.all id)
  | _ => none
def sAny : List D → Option D
  | [.list ds] => (boolsD ds).map fun ns => .bool (ns.any id)
  | _ => none
theorem se_all : SemN K (rAll K) sAll := by
  intro F H vs ds c Q s hv hs g
  unfold sAll at hs
  split at hs
  · obtain ⟨ns, e1, rfl⟩ := Option.map_eq_some_iff.mp hs
    obtain ⟨v, rfl, q⟩ := vwAll1 hv
    obtain ⟨a, xs, rfl, q1, al⟩ := vw_lst s q
    rw [boolsD_eq e1] at al
    have := vals_bools_of al
    subst this
    exact ⟨a, ns, rfl, .inl (.inl q1), Give.of s g (.bl _)⟩
  · cases hs
theorem se_any : SemN K (rAny K) sAny := by
  intro F H vs ds c Q s hv hs g
  unfold sAny at hs
  split at hs
  · obtain ⟨ns, e1, rfl⟩ := Option.map_eq_some_iff.mp hs
    obtain ⟨v, rfl, q⟩ := vwAll1 hv
    obtain ⟨a, xs, rfl, q1, al⟩ := vw_lst s q
    rw [boolsD_eq e1] at al
    have := vals_bools_of al
    subst this
    exact ⟨a, ns, rfl, .inl (.inl q1), Give.of s g (.bl _)⟩
  · cases hs
/-- sorted -/
def nonTup : D → Bool
  | .none => false
  | .tuple _ => false
  | _ => true
def fullTup : D → Bool
  | .tuple (_ :: _) => true
  | _ => false
def canSort (ds : List D) : Bool := (ds.all fun d => ds.all fun e => PySem.W.alike d e) && (ds.all fullTup || ds.all nonTup) && PyData.canLayAll0 ds && ds.all fun d => decide (d.depth ≤ 60)
def sortD (ds : List D) : List D := ds.mergeSort (PySem.W.dataLe false fun d => d)
def sSorted : List D → Option D
  | [.list ds] => if canSort ds = true then some (.list (sortD ds)) else none
  | [.tuple ds] => if canSort ds = true then some (.list (sortD ds)) else none
  | _ => none
theorem canSort_of {ds : List D} (h : canSort ds = true) : PySem.W.AllAlike ds ∧ PySem.W.Sortable ds ∧ PyData.canLayAll0 ds = true ∧ ∀ d ∈ ds, d.depth ≤ 60 := by
  unfold canSort at h
  rw [Bool.and_eq_true, Bool.and_eq_true, Bool.and_eq_true] at h
  obtain ⟨⟨⟨h1, h2⟩, h3⟩, h4⟩ := h
  refine ⟨fun d hd e he => List.all_eq_true.mp (List.all_eq_true.mp h1 d hd) e he, ?_, h3, fun d hd => of_decide_eq_true (List.all_eq_true.mp h4 d hd)⟩
  rcases Bool.or_eq_true_iff.mp h2 with h | h
  · refine .inl fun d hd => ?_
    have := List.all_eq_true.mp h d hd
    unfold fullTup at this
    split at this
    · exact ⟨_, _, rfl⟩
    · cases this
  · refine .inr fun d hd => ?_
    have := List.all_eq_true.mp h d hd
    constructor
    · intro z
      subst z
      exact Bool.noConfusion this
    · intro xs z
      subst z
      exact Bool.noConfusion this
theorem dvAll_each {F : Hp} : ∀ {vs : List V} {ds : List D}, DvAll K F vs ds → PySem.W.EachIs (Dv K F) vs ds
  | _, _, .nil => .nil
  | _, _, .cons a b => .cons a (dvAll_each b)
theorem each_dvAll {F : Hp} : ∀ {vs : List V} {ds : List D}, PySem.W.EachIs (Dv K F) vs ds → DvAll K F vs ds
  | _, _, .nil => .nil
  | _, _, .cons a b => .cons a (each_dvAll b)
theorem se_sorted : SemN K (rSortD K) sSorted := by
  intro F H vs ds c Q s hv hs g
  unfold sSorted at hs
  split at hs
  · split at hs
    · rename_i ds hc
      cases hs
      obtain ⟨v, rfl, q⟩ := vwAll1 hv
      obtain ⟨a, xs, rfl, q1, al⟩ := vw_lst s q
      obtain ⟨c1, c2, c3, c4⟩ := canSort_of hc
      exact ⟨a, xs, ds, Dv K F, rfl, .inl (.inl (.inl q1)), dvAll_dp s ds xs c3 al, dvAll_each al, c1, c2, c4, fun ys p ho hp => give_lst s g (each_dvAll ho) p hp⟩
    · cases hs
  · split at hs
    · rename_i ds hc
      cases hs
      obtain ⟨v, rfl, q⟩ := vwAll1 hv
      obtain ⟨a, xs, rfl, q1, al, _⟩ := vw_tup s q
      obtain ⟨c1, c2, c3, c4⟩ := canSort_of hc
      exact ⟨a, xs, ds, Dv K F, rfl, .inr q1, dvAll_dp s ds xs c3 al, dvAll_each al, c1, c2, c4, fun ys p ho hp => give_lst s g (each_dvAll ho) p hp⟩
    · cases hs
  · cases hs
/-- tuple(..), list(..) -/
def sTuple : List D → Option D
  | [.list ds] => some (.tuple ds)
  | [.tuple ds] => some (.tuple ds)
  | _ => none
def sList : List D → Option D
  | [.list ds] => some (.list ds)
  | [.tuple ds] => some (.list ds)
  | _ => none
def rTuple1 (K : PySem.W.Frag) : List V → Hp → VK → Prop := fun xs H Q => ∃ p ys, xs = [.ref p] ∧ ((SqL K H p ys ∧ ∀ l, H l = none → Q (.ref l) (upd H l (.tup ys))) ∨ (SqT K H p ys ∧ Q (.ref p) H))
def rList1 (K : PySem.W.Frag) : List V → Hp → VK → Prop := fun xs H Q => ∃ p ys, xs = [.ref p] ∧ (SqL K H p ys ∨ SqT K H p ys) ∧ ∀ l, H l = none → Q (.ref l) (upd H l (.lst ys))
theorem cr_tuple {X : Cx} : CallR X (.type "tuple") (rTuple1 X.K) := call_tuple_of
theorem cr_list {X : Cx} : CallR X (.type "list") (rList1 X.K) := call_list_of
theorem se_tuple : SemN K (rTuple1 K) sTuple := by
  intro F H vs ds c Q s hv hs g
  unfold sTuple at hs
  split at hs
  · cases hs
    obtain ⟨v, rfl, q⟩ := vwAll1 hv
    obtain ⟨a, xs, rfl, q1, al⟩ := vw_lst s q
    exact ⟨a, xs, rfl, .inl ⟨.inl (.inl q1), give_tup s g al⟩⟩
  · cases hs
    obtain ⟨v, rfl, q⟩ := vwAll1 hv
    obtain ⟨a, xs, rfl, q1, al, dv⟩ := vw_tup s q
    exact ⟨a, xs, rfl, .inr ⟨q1, Give.of s g dv⟩⟩
  · cases hs
theorem se_list : SemN K (rList1 K) sList := by
  intro F H vs ds c Q s hv hs g
  unfold sList at hs
  split at hs
  · cases hs
    obtain ⟨v, rfl, q⟩ := vwAll1 hv
    obtain ⟨a, xs, rfl, q1, al⟩ := vw_lst s q
    exact ⟨a, xs, rfl, .inl (.inl (.inl q1)), give_lst s g al⟩
  · cases hs
    obtain ⟨v, rfl, q⟩ := vwAll1 hv
    obtain ⟨a, xs, rfl, q1, al, dv⟩ := vw_tup s q
    exact ⟨a, xs, rfl, .inr q1, give_lst s g al⟩
  · cases hs
end
end DL
/-! Dl10: isinstance, the module's constants, methods of lists, targets, several targets at once. -/
namespace DL
open PySem PySem.Spec L2
open PyProof.Rows hiding St

/-! ### isinstance -/
def tyD : D → String
  | .none => "NoneType"
  | .bool _ => "bool"
  | .int _ => "int"
  | .str _ => "str"
  | .list _ => "list"
  | .tuple _ => "tuple"
  | .dict _ => "dict"
def notDct : D → Bool
  | .dict _ => false
  | _ => true
theorem vw_ty {K : PySem.W.Frag} {F H : Hp} {v : V} {d : D} (s : Same F H) (h : Vw K F H v d) (n : notDct d = true) : TyX K H v (.type (tyD d)) := by
  have tt : ∀ {a : Addr} {xs : List V}, SqT K H a xs → TyX K H (.ref a) (.type "tuple") := fun {a xs} q => by
    rcases q with (q | ⟨o, q⟩) | ⟨o, its, k, q, c, _⟩
    · exact .base (.tup q)
    · exact .fTuple q
    · exact .kTuple q c
  cases d with
  | none => rw [vw_non h]; exact .base .non
  | bool b => rw [vw_bl h]; exact .base (.bl b)
  | int i => rw [vw_int h]; exact .base (.int i)
  | str x => rw [vw_str h]; exact .base (.str x)
  | list ds =>
    obtain ⟨a, xs, rfl, q, _⟩ := vw_lst s h
    exact .base (.lst q)
  | tuple ds =>
    obtain ⟨a, xs, rfl, q, _⟩ := vw_tup s h
    exact tt q
  | dict kvs => cases n
def isInt : D → Option D
  | .int _ => some (.bool true)
  | .bool _ => some (.bool true)
  | .dict _ => none
  | _ => some (.bool false)
def isBool : D → Option D
  | .bool _ => some (.bool true)
  | .dict _ => none
  | _ => some (.bool false)
def isStr : D → Option D
  | .str _ => some (.bool true)
  | .dict _ => none
  | _ => some (.bool false)
def isTup : D → Option D
  | .tuple _ => some (.bool true)
  | .dict _ => none
  | _ => some (.bool false)
def isLst : D → Option D
  | .list _ => some (.bool true)
  | .dict _ => none
  | _ => some (.bool false)
def Tells (T : String) (f : D → Option D) : Prop := ∀ d e, f d = some e → notDct d = true ∧ ∃ b, e = .bool b ∧ kitB (tyD d) T = some b
theorem tells_int : Tells "int" isInt := fun d e h => by
  cases d <;> cases h <;> exact ⟨rfl, _, rfl, by simp only [tyD]; decide +kernel⟩
theorem tells_bool : Tells "bool" isBool := fun d e h => by
  cases d <;> cases h <;> exact ⟨rfl, _, rfl, by simp only [tyD]; decide +kernel⟩
theorem tells_str : Tells "str" isStr := fun d e h => by
  cases d <;> cases h <;> exact ⟨rfl, _, rfl, by simp only [tyD]; decide +kernel⟩
theorem tells_tup : Tells "tuple" isTup := fun d e h => by
  cases d <;> cases h <;> exact ⟨rfl, _, rfl, by simp only [tyD]; decide +kernel⟩
theorem tells_lst : Tells "list" isLst := fun d e h => by
  cases d <;> cases h <;> exact ⟨rfl, _, rfl, by simp only [tyD]; decide +kernel⟩
section
variable {X : Cx} {g : Gh} {W : XW} {pos : Pos} {a b : Expr} {fa fb : Ev}
theorem de_isi {T : String} {x : Str} {f : D → Option D} {p p2 : Pos} (hT : Tells T f) (hg : Gl X "isinstance") (hm : X.mg "isinstance" = none) (hgT : Gl X x) (hmT : X.mg x = none) (hv : bootBuiltins x = some (.type T)) (ha : DE X g W a fa)
    (hn : x ≠ "__name__" := by decide) (hd : (x == ("__debug__" : Str)) = false := by decide)
    (h1 : starEach [a, .Name x p2] X.env = (false, eval a X.env) :: starEach [.Name x p2] X.env := by rfl) (h2 : starEach [.Name x p2] X.env = (false, eval (.Name x p2) X.env) :: starEach [] X.env := by rfl)
    (hpl : (backTo pos (starEach [.Name x p2] X.env)).any (·.1) = false := by rfl) : DE X g W (.Call (.Name "isinstance" p) [a, .Name x p2] [] pos) (dUn f fa) := by
  refine PE.imp (pe_callB call_isi hg hm PyProof.Rows.boot_isinstance (pa_cons ha (pa_cons (pe_bltn (v := .ty T) hgT hmT hv rfl hn hd) pa_nil h2) h1) (by decide) (by decide) h1 hpl) fun σ H Q h => ?_
  obtain ⟨F, en, rp, f⟩ := h
  refine ⟨F, en, rp, (Fin.seq f).mono fun F1 H1 en1 x s1 r1 f1 v hv => ?_⟩
  refine of_op1 (en := en1) (x := x) (fun e => by rw [e] at f1; exact f1.elim) fun d c e1 e3 e4 => ?_
  obtain ⟨nd, b, rfl, kb⟩ := hT d c e3
  exact ⟨v, .ty T, _, _, b, rfl, .ty T, vw_ty r1.fz (r1.view hv e1) nd, kit_ty kb, (fin1 r1 e4 f1).of r1.fz (.bl b)⟩

/-! ### the module's constants -/
theorem de_glob {x : Str} {v : V} {u : Value} {d : D} (hg : Gl X x) (hm : X.mg x = some u) (r : RelV v u) (q : ∀ F, Dv X.K F v d) (hd : (x == ("__debug__" : Str)) = false := by decide) : DE X g W (.Name x pos) (dC d) :=
  de_con (pe_glob hg hm r hd) q
/-- what stands at a module's name -/
structure Konst (K : PySem.W.Frag) (mg : Str → Option Value) (x : Str) (d : D) : Prop where
  ex : ∃ (v : V) (u : Value), mg x = some u ∧ RelV v u ∧ ∀ F, Dv K F v d
theorem Konst.int {K : PySem.W.Frag} {mg : Str → Option Value} {x : Str} {i : Int} {t : Tok} (h : mg x = some (.int i t)) : Konst K mg x (.int i) := ⟨.int i, _, h, ⟨t, rfl⟩, fun _ => .int i⟩
theorem Konst.str {K : PySem.W.Frag} {mg : Str → Option Value} {x : Str} {i : Str} {t : Tok} (h : mg x = some (.str i t)) : Konst K mg x (.str i) := ⟨.str i, _, h, ⟨t, rfl⟩, fun _ => .str i⟩
theorem de_k {x : Str} {d : D} (k : Konst X.K X.mg x d) (hg : Gl X x) (hd : (x == ("__debug__" : Str)) = false := by decide) : DE X g W (.Name x pos) (dC d) := by
  obtain ⟨v, u, h1, h2, h3⟩ := k.ex
  exact de_glob hg h1 h2 h3 hd
/-- what is never reached -/
def dNo : Ev := fun _ => .no
def bNo : Bd := fun _ => .no
theorem de_no : DE X g W a dNo := ⟨fun pins s σ H Q I h => by
  obtain ⟨F, en, rp, f⟩ := h
  exact f.elim⟩
theorem ds_no {st : Stmt} : DS X g W st bNo := ⟨fun pins s σ H D I h => by
  obtain ⟨F, en, rp, f⟩ := h
  exact f.elim⟩

/-! ### methods of owned lists -/
/-- o.m(args): the owned thing at o is changed -/
def isListD : D → Bool
  | .list _ => true
  | _ => false
def isDictD : D → Bool
  | .dict _ => true
  | _ => false
def ownIs (q : D → Bool) (en : En) (i : Nat) : Bool := match en[i]? with
  | some (.own _ d) => q d
  | _ => false
def mutK (sem : D → List D → Option (D × D)) (i : Nat) (en2 : En) (xs : List Rv) : Rs Rv := match freeD en2 xs with
  | some ds => (match en2[i]? with
    | some (.own b d) => (match sem d ds with
      | some (r, d') => .ok (en2.set i (.own b d')) (.d r)
      | none => .no)
    | _ => .no)
  | none => .no
def dMut (q : D → Bool) (sem : D → List D → Option (D × D)) (o : Ev) (av : Av) : Ev := fun en => (o en).bind fun en1 x => match x with
  | .s i => if ownIs q en1 i = true then (av en1).bind fun en2 xs => mutK sem i en2 xs else .no
  | .d _ => .no
def mAppend : D → List D → Option (D × D)
  | .list ds, [y] => if ds.length < sizeLine then some (.none, .list (ds ++ [y])) else none
  | _, _ => none
def mExtend : D → List D → Option (D × D)
  | .list ds, [.list es] => if ds.length + es.length ≤ sizeLine then some (.none, .list (ds ++ es)) else none
  | _, _ => none
def mPopAt : D → List D → Option (D × D)
  | .list ds, [.int i] => if -(2 ^ 63) ≤ i ∧ i < 2 ^ 63 then (match seqIndex? i ds.length with
    | some k => (match ds[k]? with
      | some y => some (y, .list (ds.eraseIdx k))
      | none => none)
    | none => none) else none
  | _, _ => none
/-- how a method's rule answers -/
def SemM (K : PySem.W.Frag) (r : V → List V → Hp → VK → Prop) (sem : D → List D → Option (D × D)) : Prop := ∀ F H (p : Addr) d vs ds e d' Q, Same F H → OwnAt K F H p d → DvAll K F vs ds → sem d ds = some (e, d') →
  (∀ v o, Dv K F v e → OwnAt K F (upd H p o) p d' → Q v (upd H p o)) → r (.ref p) vs H Q
theorem dvAll1 {K : PySem.W.Frag} {F : Hp} {vs : List V} {d : D} (h : DvAll K F vs [d]) : ∃ v, vs = [v] ∧ Dv K F v d := by
  cases h with
  | cons a b => cases b; exact ⟨_, rfl, a⟩
theorem own_lst {K : PySem.W.Frag} {F H : Hp} {p : Addr} {ds : List D} (h : OwnAt K F H p (.list ds)) : ∃ xs, H p = some (.lst xs) ∧ DvAll K F xs ds := by
  cases h with
  | lst q a => exact ⟨_, q, a⟩
theorem sm_append {K : PySem.W.Frag} : SemM K rAppend mAppend := by
  intro F H p d vs ds e d' Q s ow al hs k
  unfold mAppend at hs
  split at hs
  · split at hs
    · rename_i hl
      cases hs
      obtain ⟨xs, q, a⟩ := own_lst ow
      obtain ⟨v, rfl, dv⟩ := dvAll1 al
      exact ⟨p, xs, v, rfl, rfl, q, by rw [a.length]; exact hl, k _ _ .non (.lst upd_same (a.append (.one dv)))⟩
    · cases hs
  · cases hs
theorem sm_extend {K : PySem.W.Frag} : SemM K rExtend mExtend := by
  intro F H p d vs ds e d' Q s ow al hs k
  unfold mExtend at hs
  split at hs
  · split at hs
    · rename_i hl
      cases hs
      obtain ⟨xs, q, a⟩ := own_lst ow
      obtain ⟨v, rfl, dv⟩ := dvAll1 al
      cases dv with
      | lst q2 a2 => exact ⟨p, _, xs, _, rfl, rfl, q, s _ _ q2, by rw [a.length, a2.length]; exact hl, k _ _ .non (.lst upd_same (a.append a2))⟩
    · cases hs
  · cases hs
theorem DvAll.at {K : PySem.W.Frag} {F : Hp} {vs : List V} {ds : List D} (a : DvAll K F vs ds) {k : Nat} {d : D} (e : ds[k]? = some d) : ∃ v, vs[k]? = some v ∧ Dv K F v d := a.get e
theorem sm_popAt {K : PySem.W.Frag} : SemM K rPopAt mPopAt := by
  intro F H p d vs ds e d' Q s ow al hs k
  unfold mPopAt at hs
  split at hs
  · split at hs
    · rename_i hb
      split at hs
      · rename_i j ej
        split at hs
        · rename_i y ey
          cases hs
          obtain ⟨xs, q, a⟩ := own_lst ow
          obtain ⟨v, rfl, dv⟩ := dvAll1 al
          cases dv
          obtain ⟨x, ex, dx⟩ := a.at ey
          exact ⟨p, xs, _, j, x, rfl, rfl, q, hb.1, hb.2, by rw [a.length]; exact ej, ex, k _ _ dx (.lst upd_same (a.eraseIdx j))⟩
        · cases hs
      · cases hs
    · cases hs
  · cases hs
/-- what a receiver is -/
def IsA (K : PySem.W.Frag) (q : D → Bool) (T : String) : Prop := ∀ F H (p : Addr) d, OwnAt K F H p d → q d = true → tyV K T (.ref p) H
theorem isA_list {K : PySem.W.Frag} : IsA K isListD "list" := fun F H p d ow h => by
  cases ow with
  | lst q _ => exact .inl ⟨rfl, _, .inl (.inl q)⟩
  | dct q _ => cases h
  | dctT q _ => cases h
theorem isA_dict {K : PySem.W.Frag} : IsA K isDictD "dict" := fun F H p d ow h => by
  cases ow with
  | lst q _ => cases h
  | dct q _ => exact .inr (.inr (.inl ⟨rfl, .inl ⟨_, q⟩⟩))
  | dctT q _ => exact .inr (.inr (.inl ⟨rfl, .inr ⟨_, q⟩⟩))
theorem mut_walk {q : D → Bool} {T : String} {r : V → List V → Hp → VK → Prop} {sem : D → List D → Option (D × D)} {av : Av} (hq : IsA X.K q T) (hs : SemM X.K r sem) {σ : St} {H : Hp} {Q : VK} (h : liftE X.K g W (dMut q sem fa av) σ H Q) : tBM X.K T r (liftE X.K g W fa) (liftA X.K g W av) σ H Q := by
  obtain ⟨F, en, rp, f⟩ := h
  refine ⟨F, en, rp, (Fin.seq f).mono fun F1 H1 en1 x s1 r1 f1 v hv => ?_⟩
  cases x with
  | d d => exact f1.elim
  | s i =>
    have e0 : σ[i]? = some (some v) := hv
    dsimp only at f1
    split at f1
    · rename_i hi
      unfold ownIs at hi
      split at hi
      · rename_i b d e1
        obtain ⟨p, e2, ow, _⟩ := r1.own i b d e1
        rw [e0] at e2
        cases e2
        refine ⟨hq F1 H1 p d ow hi, F1, en1, r1, (Fin.seq f1).mono fun F2 H2 en2 xs s2 r2 f2 vs hvs => ?_⟩
        unfold mutK at f2
        split at f2
        · rename_i ds e3
          split at f2
          · rename_i b2 d2 e4
            split at f2
            · rename_i rr d' e5
              obtain ⟨p', e6, ow2, _⟩ := r2.own i b2 d2 e4
              rw [e0] at e6
              cases e6
              exact hs F2 H2 p d2 vs ds rr d' Q r2.fz ow2 (free_ok hvs e3) e5 fun v' o dv ow' => f2 F2 _ (Same.refl _) (r2.write e4 e0 o ow') v' dv
            · exact f2.elim
          · exact f2.elim
        · exact f2.elim
      · cases hi
    · exact f1.elim
/-- o.append(e), o.extend(e), o.pop(e), .. -/
theorem de_mut {q : D → Bool} {T id : String} {r : V → List V → Hp → VK → Prop} {sem : D → List D → Option (D × D)} {name : Str} {apos : Pos} {es : List Expr} {av : Av} (hq : IsA X.K q T) (hs : SemM X.K r sem) (pa : PlainAttrs T) (slot : Slot T name id) (hty : typeOf (.builtin id) = pure (.type "method_descriptor")) (hm : MtR X id r)
    (ho : DE X g W a fa) (ha : DA X g W (b :: es) av) (hbase : attributeBase a name X.env (eval a X.env) = eval a X.env := by rfl)
    (hfew : ((backTo pos (starEach (b :: es) X.env)).all (fun x => !x.1) && (backToKw pos (keywordEach [] X.env)).all (fun x => x.1.isSome)
      && decide ((b :: es).length + ([] : List Keyword).length + (if ([] : List Keyword).isEmpty then 0 else 1) < 30)) = true := by rfl)
    (hline : (apos.endLine == pos.line) = true := by rfl) (h1 : starEach (b :: es) X.env = (false, eval b X.env) :: starEach es X.env := by rfl) (hpl : (backTo pos (starEach es X.env)).any (·.1) = false := by rfl) :
    DE X g W (.Call (.Attribute a name apos) (b :: es) [] pos) (dMut q sem fa av) :=
  PE.imp (pe_bm pa slot hty hm ho ha hbase hfew hline h1 hpl) fun _ _ _ h => mut_walk hq hs h
theorem de_append {apos : Pos} (ho : DE X g W a fa) (hb : DE X g W b fb) (hbase : attributeBase a "append" X.env (eval a X.env) = eval a X.env := by rfl)
    (hfew : ((backTo pos (starEach [b] X.env)).all (fun x => !x.1) && (backToKw pos (keywordEach [] X.env)).all (fun x => x.1.isSome)
      && decide ([b].length + ([] : List Keyword).length + (if ([] : List Keyword).isEmpty then 0 else 1) < 30)) = true := by rfl)
    (hline : (apos.endLine == pos.line) = true := by rfl) (h1 : starEach [b] X.env = (false, eval b X.env) :: starEach [] X.env := by rfl) :
    DE X g W (.Call (.Attribute a "append" apos) [b] [] pos) (dMut isListD mAppend fa (aCons fb aNil)) :=
  de_mut isA_list sm_append PySem.F.plainAttrs_list PySem.F.slot_list_append PySem.F.type_list_append mt_append ho (da_cons hb da_nil h1) hbase hfew hline h1
theorem de_extend {apos : Pos} (ho : DE X g W a fa) (hb : DE X g W b fb) (hbase : attributeBase a "extend" X.env (eval a X.env) = eval a X.env := by rfl)
    (hfew : ((backTo pos (starEach [b] X.env)).all (fun x => !x.1) && (backToKw pos (keywordEach [] X.env)).all (fun x => x.1.isSome)
      && decide ([b].length + ([] : List Keyword).length + (if ([] : List Keyword).isEmpty then 0 else 1) < 30)) = true := by rfl)
    (hline : (apos.endLine == pos.line) = true := by rfl) (h1 : starEach [b] X.env = (false, eval b X.env) :: starEach [] X.env := by rfl) :
    DE X g W (.Call (.Attribute a "extend" apos) [b] [] pos) (dMut isListD mExtend fa (aCons fb aNil)) :=
  de_mut isA_list sm_extend PySem.F.plainAttrs_list PySem.F.slot_list_extend PySem.F.type_list_extend mt_extend ho (da_cons hb da_nil h1) hbase hfew hline h1
theorem de_popAt {apos : Pos} (ho : DE X g W a fa) (hb : DE X g W b fb) (hbase : attributeBase a "pop" X.env (eval a X.env) = eval a X.env := by rfl)
    (hfew : ((backTo pos (starEach [b] X.env)).all (fun x => !x.1) && (backToKw pos (keywordEach [] X.env)).all (fun x => x.1.isSome)
      && decide ([b].length + ([] : List Keyword).length + (if ([] : List Keyword).isEmpty then 0 else 1) < 30)) = true := by rfl)
    (hline : (apos.endLine == pos.line) = true := by rfl) (h1 : starEach [b] X.env = (false, eval b X.env) :: starEach [] X.env := by rfl) :
    DE X g W (.Call (.Attribute a "pop" apos) [b] [] pos) (dMut isListD mPopAt fa (aCons fb aNil)) :=
  de_mut isA_list sm_popAt PySem.F.plainAttrs_list PySem.F.slot_list_pop PySem.F.type_list_pop mt_popAt ho (da_cons hb da_nil h1) hbase hfew hline h1
end
end DL
/-! Dl11: targets with places, several targets at once, owned things read as values. -/
namespace DL
open PySem PySem.Spec L2
open PyProof.Rows hiding St

/-! ### targets of an assignment -/
abbrev Th := D → Bd
abbrev Ths := List D → Bd
abbrev onlyNx (Q : St → Hp → Prop) : Ends := ⟨Q, fun _ _ => False, fun _ _ => False, fun _ _ => False⟩
def liftH (K : PySem.W.Frag) (g : Gh) (W : XW) (t : Th) : TG := fun v σ H Q => ∃ F en d, Rep K g F en σ H ∧ Dv K F v d ∧ FinS K g W F (t d en) (onlyNx Q)
def liftHs (K : PySem.W.Frag) (g : Gh) (W : XW) (t : Ths) : TGs := fun vs σ H Q => ∃ F en ds, Rep K g F en σ H ∧ DvAll K F vs ds ∧ FinS K g W F (t ds en) (onlyNx Q)
def DH (X : Cx) (g : Gh) (W : XW) (tg : Expr) (t : Th) : Prop := PG X tg (liftH X.K g W t)
def DHs (X : Cx) (g : Gh) (W : XW) (tg : List Expr) (t : Ths) : Prop := PGs X tg (liftHs X.K g W t)
def hName (i : Nat) : Th := fun d en => Opt.out (putS en i (.val d)) .nx
def hNil : Ths := fun ds en => match ds with
  | [] => .nx en
  | _ => .no
def hCons (t : Th) (u : Ths) : Ths := fun ds en => match ds with
  | d :: r => (t d en).next fun en1 => u r en1
  | [] => .no
def hTup (n : Nat) (u : Ths) : Th := fun d en => match d with
  | .tuple ds => if ds.length = n then u ds en else .no
  | _ => .no
def hSub (fo fi : Ev) : Th := fun d en => (fo en).out fun en1 x => match x with
  | .s i => (fi en1).out fun en2 y => match y, en2[i]? with
    | .d (.int k), some (.own b (.list ds)) => (match ixN ds.length k with
      | some j => .nx (en2.set i (.own b (.list (ds.set j d))))
      | none => .no)
    | _, _ => .no
  | .d _ => .no
def Out.nxOnly (o : Out) : Out := match o with
  | .nx en => .nx en
  | .ex en x => .ex en x
  | _ => .no
def bAsg (f : Ev) (t : Th) : Bd := fun en => (f en).out fun en1 x => match x with
  | .d d => (t d en1).nxOnly
  | .s _ => .no
section
variable {K : PySem.W.Frag} {g : Gh} {W : XW} {F : Hp} {Q Q' : St → Hp → Prop}
theorem FinS.nxMono {o : Out} (h : FinS K g W F o (onlyNx Q)) (q : ∀ en σ F' H', o = .nx en → Same F F' → Rep K g F' en σ H' → Q σ H' → Q' σ H') : FinS K g W F o (onlyNx Q') := by
  cases o with
  | nx en => exact fun σ F' H' s r => q en σ F' H' rfl s r (h σ F' H' s r)
  | rt en r =>
    intro v σ F' H' s rp ro
    exact (h v σ F' H' s rp ro).elim
  | bk en =>
    intro σ F' H' s rp
    exact (h σ F' H' s rp).elim
  | ct en =>
    intro σ F' H' s rp
    exact (h σ F' H' s rp).elim
  | ex en x => exact h
  | no => exact h
/-- one, then the next -/
theorem FinS.next {o : Out} {k : En → Out} (h : FinS K g W F (o.next k) (onlyNx Q)) : FinS K g W F o (onlyNx fun σ H => ∃ F' en, Same F F' ∧ Rep K g F' en σ H ∧ FinS K g W F' (k en) (onlyNx Q)) := by
  cases o with
  | nx en => exact fun σ F' H' s r => ⟨F', en, s, r, FinS.weak s h⟩
  | rt en r =>
    intro v σ F' H' s rp ro
    exact (h v σ F' H' s rp ro).elim
  | bk en =>
    intro σ F' H' s rp
    exact (h σ F' H' s rp).elim
  | ct en =>
    intro σ F' H' s rp
    exact (h σ F' H' s rp).elim
  | ex en x => exact h
  | no => exact h
end
section
variable {X : Cx} {g : Gh} {W : XW} {pos : Pos} {e o i : Expr} {es : List Expr} {t : Th} {u : Ths} {f fo fi : Ev}
theorem dh_name {i : Nat} {x : Str} (hN : X.N.Nodup) (hi : X.N[i]? = some x) (hx : Loc X.env.scope x) (hf : X.fn x = true ∨ X.env.scope.names.lookup x = some .local := by first | exact .inl rfl | exact .inr rfl | assumption) : DH X g W (.Name x pos) (hName i) := by
  refine PG.imp (pg_name hN hi hx hf) fun v σ H Q h => ?_
  obtain ⟨F, en, d, rp, dv, f⟩ := h
  unfold hName at f
  cases q : putS en i (.val d) with
  | none => rw [q] at f; exact f.elim
  | some en1 =>
    rw [q] at f
    exact f _ F H (Same.refl _) (rp.putV q dv)
theorem dhs_nil : DHs X g W [] hNil := by
  refine PGs.imp pgs_nil fun v σ H Q h => ?_
  obtain ⟨F, en, ds, rp, dv, f⟩ := h
  cases dv with
  | nil => exact ⟨rfl, f σ F H (Same.refl _) rp⟩
  | cons a b => exact f.elim
theorem dhs_cons (h1 : DH X g W e t) (h2 : DHs X g W es u) (hs : (assignEach (e :: es) X.env).map (·.2) = assign e X.env :: (assignEach es X.env).map (·.2) := by rfl) : DHs X g W (e :: es) (hCons t u) := by
  refine PGs.imp (pgs_cons h1 h2 hs) fun v σ H Q h => ?_
  obtain ⟨F, en, ds, rp, dv, f⟩ := h
  cases dv with
  | nil => exact f.elim
  | cons a b =>
    refine ⟨_, _, rfl, F, en, _, rp, a, (FinS.next f).nxMono fun en1 σ1 F1 H1 e1 s1 r1 q => ?_⟩
    obtain ⟨F2, en2, s2, r2, f2⟩ := q
    exact ⟨F2, en2, _, r2, b.mono s2, f2⟩
theorem dh_tup {k n : Nat} (hc : X.calm = true) (h : DHs X g W es u) (hn : (assignEach es X.env).length = n := by rfl) (hst : (assignEach es X.env).findIdx? (·.1) = none := by rfl) : DH X g W (.Tuple es k pos) (hTup n u) := by
  refine PG.imp (pg_tup hc h hn hst) fun v σ H Q h => ?_
  obtain ⟨F, en, d, rp, dv, f⟩ := h
  unfold hTup at f
  split at f
  · split at f
    · rename_i hl
      obtain ⟨a, xs, rfl, q1, al, _⟩ := vw_tup rp.fz (.fz (H := H) dv)
      exact ⟨a, xs, rfl, q1, al.length.trans hl, F, en, _, rp, al, f⟩
    · exact f.elim
  · exact f.elim
/-- what is behind an evaluation in a target -/
theorem FinS.of_outNx {K : PySem.W.Frag} {σ : St} {F : Hp} {α : Type} {r : Rs α} {k : En → α → Out} {Q : St → Hp → Prop} {P : Hp → Hp → En → α → Prop} (h : FinS K g W F (r.out k) (onlyNx Q))
    (q : ∀ F' H' en a, Same F F' → Rep K g F' en σ H' → FinS K g W F' (k en a) (onlyNx Q) → P F' H' en a) : Fin K g W σ F r P := FinS.of_out h q
theorem dh_sub (ho : DE X g W o fo) (hi : DE X g W i fi)
    (ha : ∀ v, assign (.Subscript o i pos) X.env v = (do
      let ov ← holding [v] (eval o X.env)
      let iv ← holding [v, ov] (eval i X.env)
      standAt pos
      holding [v, ov, iv] (setItem ov iv v)
      release [v, ov, iv] []) := by intro _; rfl) : DH X g W (.Subscript o i pos) (hSub fo fi) := by
  refine PG.imp (pg_sub ho hi set_list ha) fun v σ H Q h => ?_
  obtain ⟨F, en, d, rp, dv, f⟩ := h
  refine ⟨F, en, rp, FinS.of_outNx f fun F1 H1 en1 x s1 r1 f1 ov hov => ?_⟩
  cases x with
  | d _ => exact f1.elim
  | s n =>
    have e0 : σ[n]? = some (some ov) := hov
    refine ⟨F1, en1, r1, FinS.of_outNx f1 fun F2 H2 en2 y s2 r2 f2 iv hiv => ?_⟩
    split at f2
    · rename_i k b ds e1
      split at f2
      · rename_i j ej
        obtain ⟨p, e2, ow, nF, _⟩ := r2.own n b _ e1
        rw [e0] at e2
        cases e2
        obtain ⟨xs, q1, al⟩ := own_lst ow
        refine ⟨p, xs, k, j, rfl, rv_int hiv, q1, by rw [al.length]; exact ej, ?_⟩
        exact f2 σ F2 _ (Same.refl _) (r2.write e1 e0 _ (.lst upd_same (al.set (dv.mono (s1.trans s2)) j)))
      · exact f2.elim
    · exact f2.elim
theorem ds_asg (he : DE X g W e f) (hg : DH X g W o t) (hs : swapsWithSole [o] e pos.line X.env = pure false := by rfl) (hw : swappedStores [o] e X.env = pure none := by rfl)
    (h1 : (assignEach [o] X.env).map (·.2) = [assign o X.env] := by rfl) : DS X g W (.Assign [o] e pos) (bAsg f t) := by
  refine PS.imp (ps_asg he hg hs hw h1) fun E σ H h => ?_
  obtain ⟨F, en, rp, f⟩ := h
  refine ⟨F, en, rp, FinS.of_out f fun F1 H1 en1 x s1 r1 f1 v hv => ?_⟩
  cases x with
  | s n => exact f1.elim
  | d d =>
    refine ⟨F1, en1, d, r1, hv, ?_⟩
    have f1 : FinS X.K g W F1 (t d en1).nxOnly E := f1
    cases q : t d en1 with
    | nx en2 => rw [q] at f1; exact f1
    | ex en2 x => rw [q] at f1; exact f1
    | no => rw [q] at f1; exact f1
    | rt en2 r => rw [q] at f1; exact f1.elim
    | bk en2 => rw [q] at f1; exact f1.elim
    | ct en2 => rw [q] at f1; exact f1.elim

/-! ### parts that may be fresh -/
inductive Fx where
  | d (x : D)
  | o (x : D)
  | s (i : Nat)
abbrev Af := En → Rs (List Fx)
/-- the values of such parts -/
def FxAll (K : PySem.W.Frag) (g : Gh) (F H : Hp) (en : En) (σ : St) : List V → List Fx → List Addr → Prop
  | [], [], [] => True
  | v :: vs, .d x :: xs, ps => Dv K F v x ∧ FxAll K g F H en σ vs xs ps
  | v :: vs, .o x :: xs, p :: ps => v = .ref p ∧ New K g F H en σ p x ∧ p ∉ ps ∧ FxAll K g F H en σ vs xs ps
  | v :: vs, .s i :: xs, ps => σ[i]? = some (some v) ∧ FxAll K g F H en σ vs xs ps
  | _, _, _ => False
def liftX (K : PySem.W.Frag) (g : Gh) (W : XW) (f : Af) : TA := fun σ H Q => ∃ F en, Rep K g F en σ H ∧ Fin K g W σ F (f en) fun F' _ en' xs => ∀ vs ps H'', Rep K g F' en' σ H'' → FxAll K g F' H'' en' σ vs xs ps → Q vs H''
def DX (X : Cx) (g : Gh) (W : XW) (es : List Expr) (f : Af) : Prop := PA X es (liftX X.K g W f)
def xNil : Af := fun en => .ok en []
def xCons (f : Ev) (r : Af) : Af := fun en => (f en).bind fun en1 x => (r en1).bind fun en2 xs => .ok en2 ((match x with
  | .d d => Fx.d d
  | .s i => Fx.s i) :: xs)
def xConsO (f : Ov) (r : Af) : Af := fun en => (f en).bind fun en1 d => (r en1).bind fun en2 xs => .ok en2 (.o d :: xs)
theorem dx_nil : DX X g W [] xNil := PA.imp pa_nil fun σ H Q h => by
  obtain ⟨F, en, rp, f⟩ := h
  exact f F H (Same.refl _) rp [] [] H rp trivial
theorem dx_cons {f : Ev} {r : Af} (ha : DE X g W e f) (hr : DX X g W es r) (hs : starEach (e :: es) X.env = (false, eval e X.env) :: starEach es X.env := by rfl) : DX X g W (e :: es) (xCons f r) := by
  refine PA.imp (pa_cons ha hr hs) fun σ H Q h => ?_
  obtain ⟨F, en, rp, f⟩ := h
  refine ⟨F, en, rp, (Fin.seq f).mono fun F1 H1 en1 x s1 r1 f1 v hv => ⟨F1, en1, r1, (Fin.seq f1).mono fun F2 H2 en2 xs s2 r2 f2 vs ps H3 r3 hvs => ?_⟩⟩
  refine f2 F2 H3 (Same.refl _) r3 (v :: vs) ps H3 r3 ?_
  cases x with
  | d d => exact ⟨Dv.mono s2 hv, hvs⟩
  | s i => exact ⟨hv, hvs⟩
theorem FxAll.fresh {K : PySem.W.Frag} {F H : Hp} {en : En} {σ : St} : ∀ {vs : List V} {xs : List Fx} {ps : List Addr}, FxAll K g F H en σ vs xs ps → ∀ p ∈ ps, g.H0 p = none
  | [], [], [], _, p, h => by cases h
  | v :: vs, .d x :: xs, ps, h, p, hp => FxAll.fresh h.2 p hp
  | v :: vs, .s x :: xs, ps, h, p, hp => FxAll.fresh h.2 p hp
  | v :: vs, .o x :: xs, q :: ps, h, p, hp => by
    rcases List.mem_cons.mp hp with rfl | hp
    · exact h.2.1.nh
    · exact FxAll.fresh h.2.2.2 p hp
  | [], [], _ :: _, h, _, _ => h.elim
  | [], _ :: _, _, h, _, _ => h.elim
  | _ :: _, [], _, h, _, _ => h.elim
  | _ :: _, .o _ :: _, [], h, _, _ => h.elim
/-- over a wider ghost -/
theorem FxAll.widen {K : PySem.W.Frag} {g' : Gh} {F F1 H H1 : Hp} {en en1 : En} {σ : St} (r : Rep K g F1 en1 σ H1) (sb : Sub g g' F1 H1 en1 σ) : ∀ {vs : List V} {xs : List Fx} {ps : List Addr}, FxAll K g' F H en σ vs xs ps → FxAll K g F H en σ vs xs ps
  | [], [], [], _ => trivial
  | v :: vs, .d x :: xs, ps, h => ⟨h.1, FxAll.widen r sb h.2⟩
  | v :: vs, .s x :: xs, ps, h => ⟨h.1, FxAll.widen r sb h.2⟩
  | v :: vs, .o x :: xs, q :: ps, h => by
    refine ⟨h.1, ⟨h.2.1.at_, h.2.1.nf, ?_, h.2.1.no⟩, h.2.2.1, FxAll.widen r sb h.2.2.2⟩
    have e : H1 q = none := by have := h.2.1.nh; rw [sb.2.1] at this; exact this
    rcases r.notFr e with z | z
    · exact absurd e (r.al q z)
    · exact z
  | [], [], _ :: _, h => h.elim
  | [], _ :: _, _, h => h.elim
  | _ :: _, [], _, h => h.elim
  | _ :: _, .o _ :: _, [], h => h.elim
theorem dx_consO {f : Ov} {r : Af} (ha : DO X g W e f) (hr : ∀ g', DX X g' W es r) (hs : starEach (e :: es) X.env = (false, eval e X.env) :: starEach es X.env := by rfl) : DX X g W (e :: es) (xConsO f r) := by
  have hr' : PA X es (fun σ H Q => ∃ g', liftX X.K g' W r σ H Q) := ⟨fun pos pins s σ H Q I ⟨g', q⟩ => (hr g').run pos pins s σ H Q I q⟩
  refine PA.imp (pa_cons ha hr' hs) fun σ H Q h => ?_
  obtain ⟨F, en, rp, f⟩ := h
  refine ⟨F, en, rp, (Fin.seq f).mono fun F1 H0 en1 x s1 r0 f1 p H1 r1 n => ?_⟩
  obtain ⟨g', sb⟩ := sub_ex g F1 H1 en1 σ
  refine ⟨g', F1, en1, r1.narrow sb, ?_⟩
  obtain ⟨o, ho, _⟩ := n.at_.dv n.nf
  cases e1 : r en1 with
  | no => rw [e1] at f1; exact f1.elim
  | ex en2 x => rw [e1] at f1; exact fun F2 H2 s2 r2 => f1 F2 H2 s2 (r1.widen sb r2)
  | ok en2 xs =>
    rw [e1] at f1
    intro F2 H2' s2 _ vs ps H2 r2 hvs
    have w2 := r1.widen sb r2
    obtain ⟨k1, k2⟩ := Rep.stays sb r2 ho n.nf n.no
    have k3 := Rep.staysApart sb r2 ho n.no
    have np : p ∉ ps := fun hp => by
      have := hvs.fresh p hp
      rw [sb.2.1, ho] at this
      cases this
    exact f1 F2 H2 s2 w2 (.ref p :: vs) (p :: ps) H2 w2 ⟨rfl, ⟨n.at_.to (k1.trans ho.symm) s2, k2, n.nh, k3⟩, np, hvs.widen r1 sb⟩

/-! ### several names at once -/
def fxSl : Fx → Sl
  | .d d => .val d
  | .o d => .own false d
  | .s i => .ali i
/-- slot i gets a part -/
def setF (en : En) (i : Nat) (x : Fx) : Option En := match x with
  | .d d => putS en i (.val d)
  | .o d => putS en i (.own false d)
  | .s j => if j = i then none else (match en[j]? with
    | some (.own _ _) => putS en i (.ali j)
    | _ => none)
def setFs (en : En) : List Nat → List Fx → Option En
  | [], [] => some en
  | i :: is, x :: xs => match setF en i x with
    | some en1 => setFs en1 is xs
    | none => none
  | _, _ => none
def bPar (is : List Nat) (a : Af) : Bd := fun en => (a en).out fun en1 xs => Opt.out (setFs en1 is xs) .nx
def setV : St → List Nat → List V → St
  | σ, i :: is, v :: vs => setV (σ.set i (some v)) is vs
  | σ, _, _ => σ
/-- no alias among the parts stands at a slot that is set -/
def aliOk (is : List Nat) (xs : List Fx) : Bool := xs.all fun x => match x with
  | .s j => !is.contains j
  | _ => true
theorem FxAll.step {K : PySem.W.Frag} {F H : Hp} {en en1 : En} {σ σ1 : St} : ∀ {vs : List V} {xs : List Fx} {ps : List Addr}, (∀ q ∈ ps, IsOwn en1 σ1 q → IsOwn en σ q) → (∀ j, Fx.s j ∈ xs → σ1[j]? = σ[j]?) → FxAll K g F H en σ vs xs ps → FxAll K g F H en1 σ1 vs xs ps
  | [], [], [], _, _, _ => trivial
  | v :: vs, .d x :: xs, ps, h1, h2, h => ⟨h.1, FxAll.step h1 (fun j hj => h2 j (List.mem_cons_of_mem _ hj)) h.2⟩
  | v :: vs, .s j :: xs, ps, h1, h2, h => ⟨(h2 j List.mem_cons_self).trans h.1, FxAll.step h1 (fun j hj => h2 j (List.mem_cons_of_mem _ hj)) h.2⟩
  | v :: vs, .o x :: xs, q :: ps, h1, h2, h => ⟨h.1, ⟨h.2.1.at_, h.2.1.nf, h.2.1.nh, fun z => h.2.1.no (h1 q List.mem_cons_self z)⟩, h.2.2.1, FxAll.step (fun q hq => h1 q (List.mem_cons_of_mem _ hq)) (fun j hj => h2 j (List.mem_cons_of_mem _ hj)) h.2.2.2⟩
  | [], [], _ :: _, _, _, h => h.elim
  | [], _ :: _, _, _, _, h => h.elim
  | _ :: _, [], _, _, _, h => h.elim
  | _ :: _, .o _ :: _, [], _, _, h => h.elim
theorem putS_at {en en1 : En} {i : Nat} {s : Sl} (h : putS en i s = some en1) : en1 = en.set i s ∧ i < en.length := by
  unfold putS at h
  split at h
  · rename_i c
    cases h
    refine ⟨rfl, ?_⟩
    unfold canPut at c
    cases q : en[i]? with
    | none => rw [q] at c; cases c
    | some t => exact (List.getElem?_eq_some_iff.mp q).1
  · cases h
/-- what is owned behind a store -/
theorem isOwn_put {en en1 : En} {σ : St} {i : Nat} {s : Sl} {v : V} {q : Addr} (h : putS en i s = some en1) (ne : (∀ b d, s ≠ .own b d) ∨ v ≠ .ref q) (z : IsOwn en1 (σ.set i (some v)) q) : IsOwn en σ q := by
  obtain ⟨rfl, hl⟩ := putS_at h
  obtain ⟨k, b, d, e1, e2⟩ := z
  by_cases hk : k = i
  · subst hk
    rw [List.getElem?_set_self hl] at e1
    rcases ne with n | n
    · exact absurd (Option.some.inj e1) (n b d)
    · by_cases hs : k < σ.length
      · rw [List.getElem?_set_self hs] at e2
        exact absurd (Option.some.inj (Option.some.inj e2)) n
      · rw [List.getElem?_eq_none (by simpa using hs)] at e2
        cases e2
  · rw [List.getElem?_set_ne (Ne.symm hk)] at e1 e2
    exact ⟨k, b, d, e1, e2⟩
/-- all are set -/
theorem set_all {K : PySem.W.Frag} {F H : Hp} : ∀ {is : List Nat} {xs : List Fx} {vs : List V} {ps : List Addr} {en en' : En} {σ : St}, Rep K g F en σ H → FxAll K g F H en σ vs xs ps → aliOk is xs = true → setFs en is xs = some en' → Rep K g F en' (setV σ is vs) H
  | [], [], [], _, en, en', σ, r, _, _, e => by
    cases e
    exact r
  | i :: is, x :: xs, v :: vs, ps, en, en', σ, r, h, ok, e => by
    unfold setFs at e
    cases e1 : setF en i x with
    | none => rw [e1] at e; cases e
    | some en1 =>
      rw [e1] at e
      have okx : aliOk is xs = true := List.all_eq_true.mpr fun y hy => by
        have := List.all_eq_true.mp ok y (List.mem_cons_of_mem _ hy)
        cases y with
        | s j => simp at this ⊢; exact this.2
        | _ => rfl
      have oks : ∀ j, Fx.s j ∈ xs → j ≠ i := fun j hj => by
        have := List.all_eq_true.mp ok _ (List.mem_cons_of_mem _ hj)
        simp at this
        exact this.1
      have oth : ∀ j, Fx.s j ∈ xs → (σ.set i (some v))[j]? = σ[j]? := fun j hj => List.getElem?_set_ne (Ne.symm (oks j hj))
      show Rep K g F en' (setV (σ.set i (some v)) is vs) H
      cases x with
      | d d => exact set_all (r.putV e1 h.1) (h.2.step (fun q _ z => isOwn_put e1 (.inl fun _ _ w => by cases w) z) oth) okx e
      | s j =>
        have r1 : Rep K g F en1 (σ.set i (some v)) H := r.stV (x := .s j) (v := v) h.1 e1
        refine set_all r1 (h.2.step (fun q _ z => ?_) oth) okx e
        unfold setF at e1
        dsimp only at e1
        split at e1
        · cases e1
        · split at e1
          · exact isOwn_put e1 (.inl fun _ _ w => by cases w) z
          · cases e1
      | o d =>
        cases ps with
        | nil => exact h.elim
        | cons p ps =>
          obtain ⟨rfl, n, np, h⟩ := h
          refine set_all (r.stO n e1) (h.step (fun q hq z => isOwn_put e1 (.inr fun w => ?_) z) oth) okx e
          cases w
          exact np hq
  | [], _ :: _, _, _, _, _, _, _, _, _, e => by cases e
  | _ :: _, [], _, _, _, _, _, _, _, _, e => by cases e
  | [], [], _ :: _, _, _, _, _, _, h, _, _ => h.elim
  | _ :: _, _ :: _, [], _, _, _, _, _, h, _, _ => by cases h
end
section
variable {X : Cx} {g : Gh} {W : XW} {pos : Pos} {es : List Expr} {af : Af}
theorem setFs_len : ∀ {is : List Nat} {xs : List Fx} {en en' : En}, setFs en is xs = some en' → xs.length = is.length := by
  intro is
  induction is with
  | nil => intro xs en en' e; cases xs <;> first | rfl | cases e
  | cons i is ih =>
    intro xs en en' e
    cases xs with
    | nil => cases e
    | cons x xs =>
      unfold setFs at e
      split at e
      · exact congrArg (· + 1) (ih e)
      · cases e
theorem FxAll.length {K : PySem.W.Frag} {F H : Hp} {en : En} {σ : St} : ∀ {vs : List V} {xs : List Fx} {ps : List Addr}, FxAll K g F H en σ vs xs ps → vs.length = xs.length := by
  intro vs
  induction vs with
  | nil => intro xs ps h; cases xs <;> first | rfl | exact h.elim
  | cons v vs ih =>
    intro xs ps h
    cases xs with
    | nil => exact h.elim
    | cons x xs =>
      cases x with
      | d d => exact congrArg (· + 1) (ih h.2)
      | s d => exact congrArg (· + 1) (ih h.2)
      | o d =>
        cases ps with
        | nil => exact h.elim
        | cons p ps => exact congrArg (· + 1) (ih h.2.2.2)
theorem FxAll.heap {K : PySem.W.Frag} {F H H' : Hp} {en : En} {σ : St} (k : ∀ q o, H q = some o → H' q = some o) : ∀ {vs : List V} {xs : List Fx} {ps : List Addr}, FxAll K g F H en σ vs xs ps → FxAll K g F H' en σ vs xs ps
  | [], [], [], _ => trivial
  | v :: vs, .d x :: xs, ps, h => ⟨h.1, FxAll.heap k h.2⟩
  | v :: vs, .s j :: xs, ps, h => ⟨h.1, FxAll.heap k h.2⟩
  | v :: vs, .o x :: xs, q :: ps, h => by
    refine ⟨h.1, ⟨h.2.1.at_.to ?_ (Same.refl _), h.2.1.nf, h.2.1.nh, h.2.1.no⟩, h.2.2.1, FxAll.heap k h.2.2.2⟩
    obtain ⟨o, ho, _⟩ := h.2.1.at_.dv h.2.1.nf
    rw [ho, k q o ho]
  | [], [], _ :: _, h => h.elim
  | [], _ :: _, _, h => h.elim
  | _ :: _, [], _, h => h.elim
  | _ :: _, .o _ :: _, [], h => h.elim
/-- a parallel assignment's parts, behind their evaluation -/
theorem par_end {K : PySem.W.Frag} {F1 H2 : Hp} {en1 : En} {is : List Nat} {σ : St} {xs : List Fx} {vs : List V} {ps : List Addr} {E : Ends} (r2 : Rep K g F1 en1 σ H2) (hvs : FxAll K g F1 H2 en1 σ vs xs ps)
    (f1 : FinS K g W F1 (if aliOk is xs = true then Opt.out (setFs en1 is xs) .nx else .no) E) : E.nx (setV σ is vs) H2 ∧ vs.length = is.length := by
  split at f1
  · rename_i ok
    cases q : setFs en1 is xs with
    | none => rw [q] at f1; exact f1.elim
    | some en2 =>
      rw [q] at f1
      exact ⟨f1 _ F1 H2 (Same.refl _) (set_all r2 hvs ok q), by rw [hvs.length, setFs_len q]⟩
  · exact f1.elim
theorem par_walk {is : List Nat} {σ : St} {H : Hp} {E : Ends} (h : liftS X.K g W (fun en => (af en).out fun en1 xs => if aliOk is xs = true then Opt.out (setFs en1 is xs) .nx else .no) E σ H) : liftX X.K g W af σ H fun vs H1 => E.nx (setV σ is vs) H1 ∧ vs.length = is.length := by
  obtain ⟨F, en, rp, f⟩ := h
  exact ⟨F, en, rp, FinS.of_out f fun F1 H1 en1 xs s1 r1 f1 vs ps H2 r2 hvs => par_end r2 hvs f1⟩
def bParN (is : List Nat) (a : Af) : Bd := fun en => (a en).out fun en1 xs => if aliOk is xs = true then Opt.out (setFs en1 is xs) .nx else .no
theorem ds_par2 {i j : Nat} {x y : Str} {a b : Expr} {px py pt : Pos} {kt k2 : Nat} {pt2 : Pos} (hc : X.calm = true) (hN : X.N.Nodup) (hi : X.N[i]? = some x) (hj : X.N[j]? = some y) (hij : i ≠ j)
    (hx : X.env.scope.names.lookup x = some .local) (hy : X.env.scope.names.lookup y = some .local) (ha : DX X g W [a, b] af)
    (hw : swappedStores [.Tuple [.Name x px, .Name y py] kt pt] (.Tuple [a, b] k2 pt2) X.env = pure (some [x, y]) := by rfl)
    (hs : swapsWithSole [.Tuple [.Name x px, .Name y py] kt pt] (.Tuple [a, b] k2 pt2) pos.line X.env = pure false := by rfl) :
    DS X g W (.Assign [.Tuple [.Name x px, .Name y py] kt pt] (.Tuple [a, b] k2 pt2) pos) (bParN [i, j] af) := by
  refine PS.imp (ps_par hc hN hi hj hij hx hy ha hw hs) fun E σ H h => ?_
  obtain ⟨F, en, rp, f⟩ := par_walk h
  refine ⟨F, en, rp, f.mono fun F1 H1 en1 xs s1 r1 f1 vs ps H2 r2 hvs => ?_⟩
  obtain ⟨q, l⟩ := f1 vs ps H2 r2 hvs
  match vs, l with
  | [v, w], _ => exact ⟨v, w, rfl, q⟩
theorem ds_par3 {i j l : Nat} {x y z : Str} {a b c : Expr} {px py pz pt : Pos} {kt k2 : Nat} {pt2 : Pos} (hc : X.calm = true) (hN : X.N.Nodup) (hi : X.N[i]? = some x) (hj : X.N[j]? = some y) (hl : X.N[l]? = some z) (hij : i ≠ j) (hil : i ≠ l) (hjl : j ≠ l)
    (hx : X.env.scope.names.lookup x = some .local) (hy : X.env.scope.names.lookup y = some .local) (hz : X.env.scope.names.lookup z = some .local) (ha : DX X g W [a, b, c] af)
    (hw : swappedStores [.Tuple [.Name x px, .Name y py, .Name z pz] kt pt] (.Tuple [a, b, c] k2 pt2) X.env = pure (some [x, y, z]) := by rfl)
    (hs : swapsWithSole [.Tuple [.Name x px, .Name y py, .Name z pz] kt pt] (.Tuple [a, b, c] k2 pt2) pos.line X.env = pure false := by rfl) :
    DS X g W (.Assign [.Tuple [.Name x px, .Name y py, .Name z pz] kt pt] (.Tuple [a, b, c] k2 pt2) pos) (bParN [i, j, l] af) := by
  refine PS.imp (ps_par3 hc hN hi hj hl hij hil hjl hx hy hz ha hw hs) fun E σ H h => ?_
  obtain ⟨F, en, rp, f⟩ := par_walk h
  refine ⟨F, en, rp, f.mono fun F1 H1 en1 xs s1 r1 f1 vs ps H2 r2 hvs => ?_⟩
  obtain ⟨q, l⟩ := f1 vs ps H2 r2 hvs
  match vs, l with
  | [u, v, w], _ => exact ⟨u, v, w, rfl, q⟩
/-- names as targets, one behind the other -/
def DNs (X : Cx) (is : List Nat) (es : List Expr) : Prop := PGs X es (fun vs σ H Q => vs.length = is.length ∧ Q (setV σ is vs) H)
theorem dn_nil : DNs X [] [] := PGs.imp pgs_nil fun vs σ H Q h => by
  obtain ⟨l, q⟩ := h
  cases vs with
  | nil => exact ⟨rfl, q⟩
  | cons a b => cases l
theorem dn_cons {i : Nat} {is : List Nat} {x : Str} {p : Pos} (hN : X.N.Nodup) (hi : X.N[i]? = some x) (hx : Loc X.env.scope x) (hr : DNs X is es) (hf : X.fn x = true ∨ X.env.scope.names.lookup x = some .local := by first | exact .inl rfl | exact .inr rfl | assumption)
    (hs : (assignEach (.Name x p :: es) X.env).map (·.2) = assign (.Name x p) X.env :: (assignEach es X.env).map (·.2) := by rfl) : DNs X (i :: is) (.Name x p :: es) :=
  PGs.imp (pgs_cons (pg_name hN hi hx hf) hr hs) fun vs σ H Q h => by
    obtain ⟨l, q⟩ := h
    cases vs with
    | nil => cases l
    | cons v vs => exact ⟨v, vs, rfl, by simpa using l, q⟩
/-- names, from a tuple of parts: by the tuple -/
theorem ds_parN {is : List Nat} {ts : List Expr} {kt k2 : Nat} {pt pt2 : Pos} (hc : X.calm = true) (ha : DX X g W es af) (hd : DNs X is ts) (hz : es.length ≤ sizeLine := by decide) (hl : is.length = es.length := by rfl)
    (hs : swapsWithSole [.Tuple ts kt pt] (.Tuple es k2 pt2) pos.line X.env = pure false := by rfl) (hw : swappedStores [.Tuple ts kt pt] (.Tuple es k2 pt2) X.env = pure none := by rfl)
    (h1 : (assignEach [.Tuple ts kt pt] X.env).map (·.2) = [assign (.Tuple ts kt pt) X.env] := by rfl) (hn : (assignEach ts X.env).length = is.length := by rfl) (hst : (assignEach ts X.env).findIdx? (·.1) = none := by rfl) :
    DS X g W (.Assign [.Tuple ts kt pt] (.Tuple es k2 pt2) pos) (bParN is af) := by
  refine PS.imp (ps_asg (pe_tup ha) (pg_tup hc hd hn hst) hs hw h1) fun E σ H h => ?_
  obtain ⟨F, en, rp, f⟩ := h
  refine ⟨F, en, rp, FinS.of_out f fun F1 H1 en1 xs s1 r1 f1 vs ps H2 r2 hvs => ?_⟩
  have f1 : FinS X.K g W F1 (if aliOk is xs = true then Opt.out (setFs en1 is xs) .nx else .no) E := f1
  refine ⟨by rw [(par_end r2 hvs f1).2, hl]; exact hz, fun p hp => ?_⟩
  have nF : F1 p = none := r2.fz.free hp
  have no : ¬ IsOwn en1 σ p := fun z => (r2.ownPs z).2.2 hp
  have h0 : g.H0 p = none := by
    rcases r2.notFr hp with z | z
    · exact absurd hp (r2.al p z)
    · exact z
  have r3 := r2.scratch (.tup vs) nF no h0
  have hv3 := hvs.heap (H' := upd H2 p (.tup vs)) fun q o e => by rw [upd_ne (ne_of_none e hp)]; exact e
  obtain ⟨q, l⟩ := par_end r3 hv3 f1
  exact ⟨p, vs, rfl, .inl (.inl upd_same), l, l, q⟩
end
end DL
/-! Dl12: an owned thing read as a value; chains as tests; defs with that. -/
namespace DL
open PySem PySem.Spec L2
open PyProof.Rows hiding St

/-- slot i, as a value: what it owns is frozen -/
def dVarF (i : Nat) : Ev := fun en => match en[i]? with
  | some (.val d) => .ok en (.d d)
  | some (.own false d) => if canPut en i = true then .ok (en.set i (.val d)) (.d d) else .no
  | _ => .no
section
variable {K : PySem.W.Frag} {g : Gh} {F H : Hp} {en : En} {σ : St}
theorem Rep.thaw (hf : Full g) (r : Rep K g F en σ H) {i : Nat} {d : D} (e : en[i]? = some (.own false d)) (hc : canPut en i = true) : ∃ (p : Addr) (o : HO), σ[i]? = some (some (.ref p)) ∧ H p = some o ∧ F p = none ∧ Dv K (upd F p o) (.ref p) d ∧ Rep K g (upd F p o) (en.set i (.val d)) σ H := by
  obtain ⟨p, e1, ow, nF, hp⟩ := r.own i false d e
  obtain ⟨o, ho, dv⟩ := ow.dv nF
  have h0 : g.H0 p = none := by
    rcases hp with z | z
    · obtain ⟨j, hj⟩ := hf p z
      obtain ⟨q1, d', q2⟩ := r.pl j p hj
      by_cases hij : i = j
      · subst hij
        rw [e] at q2
        cases q2
      · exact absurd (e1.trans q1.symm) (r.sep i j false true d d' hij e q2)
    · exact z
  have le : Same F (upd F p o) := Ext.put.same_updN nF
  have li := (List.getElem?_eq_some_iff.mp e).1
  have eq1 : ∀ {k : Nat} {t : Sl}, (en.set i (.val d))[k]? = some t → (k = i ∧ t = .val d) ∨ (k ≠ i ∧ en[k]? = some t) := fun {k t} e => by
    by_cases hk : k = i
    · subst hk
      rw [List.getElem?_set_self li] at e
      exact .inl ⟨rfl, (Option.some.inj e).symm⟩
    · rw [List.getElem?_set_ne (Ne.symm hk)] at e
      exact .inr ⟨hk, e⟩
  refine ⟨p, o, e1, ho, nF, dv, ⟨fun a u q => ?_, r.fr, r.al, fun a q0 q1 n => ?_, by simpa using r.len, fun k d' q => ?_, fun k b d' q => ?_, fun k j q => ?_, fun k j b c d' e' hne q1 q2 => ?_, fun k q hm => ?_, fun k q hm => ?_⟩⟩
  · by_cases h : a = p
    · subst h; rw [upd_same] at q; rw [← q]; exact ho
    · rw [upd_ne h] at q; exact r.fz a u q
  · have : a ≠ p := fun z => by subst z; exact q1 h0
    rw [upd_ne this]; exact r.nw a q0 q1 n
  · rcases eq1 q with ⟨rfl, z⟩ | ⟨hk, z⟩
    · cases z
      exact ⟨.ref p, e1, dv⟩
    · obtain ⟨v, z1, z2⟩ := r.val k d' z
      exact ⟨v, z1, z2.mono le⟩
  · rcases eq1 q with ⟨rfl, z⟩ | ⟨hk, z⟩
    · cases z
    · obtain ⟨p', z1, z2, z3, z4⟩ := r.own k b d' z
      have : p' ≠ p := fun w => by
        subst w
        exact r.sep k i b false d' d hk z e (z1.trans e1.symm)
      exact ⟨p', z1, z2.to rfl le, by rw [upd_ne this]; exact z3, z4⟩
  · rcases eq1 q with ⟨rfl, z⟩ | ⟨hk, z⟩
    · cases z
    · obtain ⟨z1, b, d', z2⟩ := r.ali k j z
      have hj : j ≠ i := r.noAli hc z
      exact ⟨z1, b, d', by rw [List.getElem?_set_ne (Ne.symm hj)]; exact z2⟩
  · rcases eq1 q1 with ⟨rfl, z⟩ | ⟨hk, z⟩
    · cases z
    · rcases eq1 q2 with ⟨rfl, z2⟩ | ⟨hk2, z2⟩
      · cases z2
      · exact r.sep k j b c d' e' hne z z2
  · obtain ⟨z1, d', z2⟩ := r.pl k q hm
    have hk : k ≠ i := fun w => by
      subst w
      rw [e] at z2
      cases z2
    exact ⟨z1, d', by rw [List.getElem?_set_ne (Ne.symm hk)]; exact z2⟩
  · obtain ⟨z1, z2⟩ := r.rw k q hm
    have hk : k ≠ i := fun w => by
      subst w
      rw [e] at z2
      cases z2
    exact ⟨z1, by rw [List.getElem?_set_ne (Ne.symm hk)]; exact z2⟩
end
section
variable {X : Cx} {g : Gh} {W : XW} {pos : Pos} {a b c : Expr} {fa fb fc : Ev}
theorem de_varF (hf : Full g) {i : Nat} {x : Str} (hN : X.N[i]? = some x) (hv : Vis X.env.scope x) (hd : (x == ("__debug__" : Str)) = false := by decide) (hcd : (x == ("__classdict__" : Str)) = false := by decide) : DE X g W (.Name x pos) (dVarF i) := by
  refine PE.imp (pe_var hN hv hd hcd) fun σ H Q h => ?_
  obtain ⟨F, en, rp, f⟩ := h
  unfold dVarF at f
  split at f
  · rename_i d q
    obtain ⟨v, e, z⟩ := rp.val i d q
    exact ⟨v, e, f F H (Same.refl _) rp v z⟩
  · rename_i d q
    split at f
    · rename_i hc
      obtain ⟨p, o, e1, ho, nF, dv, r2⟩ := rp.thaw hf q hc
      exact ⟨.ref p, e1, f _ H (Ext.put.same_updN nF) r2 _ dv⟩
    · exact f.elim
  · exact f.elim
/-- a op b op' c as a test -/
theorem dt_chain {op op' : CmpOp} {r r' : R2} {sem sem' : D → D → Option D} (ho : OpR X (compareOp op) r) (hs : Sem2 X.K r sem) (ho' : OpR X (compareOp op') r') (hs' : Sem2 X.K r' sem') (ha : DE X g W a fa) (hb : DE X g W b fb) (hc : DE X g W c fc)
    (hm : lastMarks [op, op'] [b, c] = false := by with_unfolding_all rfl) : DT X g W (.Compare a [op, op'] [b, c] pos) (tOf (dChain sem sem' fa fb fc)) := by
  refine PT.imp (pt_chain ho ho' ha hb hc hm) fun σ H Q h => ?_
  obtain ⟨F, en, rp, f⟩ := h
  have f := Fin.seq f
  refine ⟨F, en, rp, (Fin.seq f).mono fun F1 H1 en1 x s1 r1 f1 v hv => ⟨F1, en1, r1, (Fin.seq f1).mono fun F2 H2 en2 y s2 r2 f2 u hu => ?_⟩⟩
  have f2 := Fin.seq f2
  refine of_op2 (sem := sem) (en := en2) (x := x) (y := y) (fun e => by rw [e] at f2; exact f2.elim) fun d e c' e1 e2 e3 e4 => ?_
  rw [e4] at f2
  refine hs F2 H2 v u d e c' _ r2.fz (r2.view (RvOk.mono s2 hv) e1) (r2.view hu e2) e3 fun w F3 H3 x3 q3 => ?_
  have r3 := r2.ext x3
  have f3 := Fin.seq (f2 F3 H3 x3.le r3)
  refine of_opB (sem := toB) (en := en2) (x := .d c') (fun e => by rw [e] at f3; exact f3.elim) fun d' k' e5 e6 e7 => ?_
  have e5' : c' = d' := Option.some.inj e5
  subst e5'
  rw [e7] at f3
  have f4 := f3 F3 H3 (Same.refl _) r3
  refine ⟨k', view_bl (.fz (H := H3) q3) e6, ?_⟩
  cases k' with
  | false => exact ⟨false, rfl, f4 F3 H3 (Same.refl _) r3 F3 H3 (Same.refl _) r3⟩
  | true =>
    rw [if_pos rfl] at f4 ⊢
    refine ⟨F3, en2, r3, (Fin.seq f4).mono fun F5 H5 en5 y5 s5 r5 f5 u5 hu5 => ?_⟩
    refine of_op2 (sem := sem') (en := en5) (x := y) (y := y5) (fun e => by rw [e] at f5; exact f5.elim) fun d e c e1 e2 e3 e4 => ?_
    rw [e4] at f5
    refine hs' F5 H5 u u5 d e c _ r5.fz (r5.view (RvOk.mono (x3.le.trans s5) hu) e1) (r5.view hu5 e2) e3 fun w6 F6 H6 x6 q6 => ?_
    have r6 := r5.ext x6
    have f6 : Fin X.K g W σ F6 (opB toB en5 (.d c)) (fun _ H' _ b => Q b H') := f5 F6 H6 x6.le r6
    refine of_opB (sem := toB) (en := en5) (x := .d c) (fun e => by rw [e] at f6; exact f6.elim) fun d' k' e5 e6 e7 => ?_
    have e5' : c = d' := Option.some.inj e5
    subst e5'
    rw [e7] at f6
    exact ⟨k', view_bl (.fz (H := H6) q6) e6, f6 F6 H6 (Same.refl _) r6⟩
end
end DL
/-! Dl13: the rules by short names, for printed derivations. -/
namespace DL
open PySem PySem.Spec L2
open PyProof.Rows hiding St

/-- no own name stands at a built-in's -/
structure Bt (mg : Str → Option Value) : Prop where
  len : mg "len" = none
  int : mg "int" = none
  bool : mg "bool" = none
  str : mg "str" = none
  list : mg "list" = none
  tuple : mg "tuple" = none
  set : mg "set" = none
  dict : mg "dict" = none
  abs : mg "abs" = none
  all : mg "all" = none
  any : mg "any" = none
  sum : mg "sum" = none
  max : mg "max" = none
  min : mg "min" = none
  sorted : mg "sorted" = none
  range : mg "range" = none
  enumerate : mg "enumerate" = none
  isinstance : mg "isinstance" = none
section
variable {X : Cx} {g : Gh} {W : XW} {pos p p2 : Pos} {a b c : Expr} {es : List Expr} {fa fb fc : Ev} {av : Av} {k : Nat} {x : Str}
/-! names, constants -/
theorem v_ (i : Nat) (hN : X.N[i]? = some x := by rfl) (hv : Vis X.env.scope x := by first | exact .inl rfl | exact .inr (.inl rfl) | exact .inr (.inr rfl)) (hd : (x == ("__debug__" : Str)) = false := by decide) (hcd : (x == ("__classdict__" : Str)) = false := by decide) : DE X g W (.Name x pos) (dVar i) := de_var hN hv hd hcd
theorem vf_ (hf : Full g) (i : Nat) (hN : X.N[i]? = some x := by rfl) (hv : Vis X.env.scope x := by first | exact .inl rfl | exact .inr (.inl rfl) | exact .inr (.inr rfl)) (hd : (x == ("__debug__" : Str)) = false := by decide) (hcd : (x == ("__classdict__" : Str)) = false := by decide) : DE X g W (.Name x pos) (dVarF i) := de_varF hf hN hv hd hcd
theorem k_ {d : D} (q : Konst X.K X.mg x d) (hg : Gl X x := by rfl) (hd : (x == ("__debug__" : Str)) = false := by decide) : DE X g W (.Name x pos) (dC d) := de_k q hg hd
/-! operators -/
theorem e_add (ha : DE X g W a fa) (hb : DE X g W b fb) : DE X g W (.BinOp a .Add b pos) (dOp sAdd fa fb) := de_op or_add se_add ha hb
theorem e_sub (ha : DE X g W a fa) (hb : DE X g W b fb) : DE X g W (.BinOp a .Sub b pos) (dOp sSub fa fb) := de_op or_sub se_sub ha hb
theorem e_mul (ha : DE X g W a fa) (hb : DE X g W b fb) : DE X g W (.BinOp a .Mult b pos) (dOp sMul fa fb) := de_op or_mul se_mul ha hb
theorem e_fdiv (ha : DE X g W a fa) (hb : DE X g W b fb) : DE X g W (.BinOp a .FloorDiv b pos) (dOp sFdiv fa fb) := de_op or_fdiv se_fdiv ha hb
theorem e_mod (ha : DE X g W a fa) (hb : DE X g W b fb) : DE X g W (.BinOp a .Mod b pos) (dOp sMod fa fb) := de_op or_mod se_mod ha hb
theorem e_pow (ha : DE X g W a fa) (hb : DE X g W b fb) : DE X g W (.BinOp a .Pow b pos) (dOp sPow fa fb) := de_op or_pow se_pow ha hb
theorem e_neg (ha : DE X g W a fa) : DE X g W (.UnaryOp .USub a pos) (dUn sNeg fa) := de_un or_neg se_neg ha
theorem c_lt (ha : DE X g W a fa) (hb : DE X g W b fb) : DE X g W (.Compare a [.Lt] [b] pos) (dOp (sCmp fLt) fa fb) := de_cmp or_lt se_cmp ha hb (nomark _)
theorem c_le (ha : DE X g W a fa) (hb : DE X g W b fb) : DE X g W (.Compare a [.LtE] [b] pos) (dOp (sCmp fLe) fa fb) := de_cmp or_le se_cmp ha hb (nomark _)
theorem c_gt (ha : DE X g W a fa) (hb : DE X g W b fb) : DE X g W (.Compare a [.Gt] [b] pos) (dOp (sCmp fGt) fa fb) := de_cmp or_gt se_cmp ha hb (nomark _)
theorem c_ge (ha : DE X g W a fa) (hb : DE X g W b fb) : DE X g W (.Compare a [.GtE] [b] pos) (dOp (sCmp fGe) fa fb) := de_cmp or_ge se_cmp ha hb (nomark _)
theorem c_eq (hr : Room k X.A) (ha : DE X g W a fa) (hb : DE X g W b fb) : DE X g W (.Compare a [.Eq] [b] pos) (dOp sEq fa fb) := de_cmp (or_eq (u64 hr)) se_eq ha hb (nomark _)
theorem c_ne (hr : Room k X.A) (ha : DE X g W a fa) (hb : DE X g W b fb) : DE X g W (.Compare a [.NotEq] [b] pos) (dOp sNe fa fb) := de_cmp (or_ne (u64 hr)) se_ne ha hb (nomark _)
theorem c_is (ha : DE X g W a fa) (hb : DE X g W b fb) : DE X g W (.Compare a [.Is] [b] pos) (dOp sIs fa fb) := de_cmp or_is se_is ha hb (nomark _)
theorem c_isn (ha : DE X g W a fa) (hb : DE X g W b fb) : DE X g W (.Compare a [.IsNot] [b] pos) (dOp sIsNot fa fb) := de_cmp or_isnot se_isnot ha hb (nomark _)
theorem c_in (hr : Room k X.A) (ha : DE X g W a fa) (hb : DE X g W b fb) (hm : behindInMarks .In b = false := by with_unfolding_all rfl) : DE X g W (.Compare a [.In] [b] pos) (dOp sIn fa fb) := de_cmp (or_in (u65 hr)) se_in ha hb hm
theorem c_nin (hr : Room k X.A) (ha : DE X g W a fa) (hb : DE X g W b fb) (hm : behindInMarks .NotIn b = false := by with_unfolding_all rfl) : DE X g W (.Compare a [.NotIn] [b] pos) (dOp sNotIn fa fb) := de_cmp (or_notin (u65 hr)) se_notin ha hb hm
theorem t_lt (ha : DE X g W a fa) (hb : DE X g W b fb) : DT X g W (.Compare a [.Lt] [b] pos) (tOf (dOp (sCmp fLt) fa fb)) := dt_cmp or_lt se_cmp ha hb (nomark _)
theorem t_le (ha : DE X g W a fa) (hb : DE X g W b fb) : DT X g W (.Compare a [.LtE] [b] pos) (tOf (dOp (sCmp fLe) fa fb)) := dt_cmp or_le se_cmp ha hb (nomark _)
theorem t_gt (ha : DE X g W a fa) (hb : DE X g W b fb) : DT X g W (.Compare a [.Gt] [b] pos) (tOf (dOp (sCmp fGt) fa fb)) := dt_cmp or_gt se_cmp ha hb (nomark _)
theorem t_ge (ha : DE X g W a fa) (hb : DE X g W b fb) : DT X g W (.Compare a [.GtE] [b] pos) (tOf (dOp (sCmp fGe) fa fb)) := dt_cmp or_ge se_cmp ha hb (nomark _)
theorem t_eq (hr : Room k X.A) (ha : DE X g W a fa) (hb : DE X g W b fb) : DT X g W (.Compare a [.Eq] [b] pos) (tOf (dOp sEq fa fb)) := dt_cmp (or_eq (u64 hr)) se_eq ha hb (nomark _)
theorem t_ne (hr : Room k X.A) (ha : DE X g W a fa) (hb : DE X g W b fb) : DT X g W (.Compare a [.NotEq] [b] pos) (tOf (dOp sNe fa fb)) := dt_cmp (or_ne (u64 hr)) se_ne ha hb (nomark _)
theorem t_is (ha : DE X g W a fa) (hb : DE X g W b fb) : DT X g W (.Compare a [.Is] [b] pos) (tOf (dOp sIs fa fb)) := dt_cmp or_is se_is ha hb (nomark _)
theorem t_isn (ha : DE X g W a fa) (hb : DE X g W b fb) : DT X g W (.Compare a [.IsNot] [b] pos) (tOf (dOp sIsNot fa fb)) := dt_cmp or_isnot se_isnot ha hb (nomark _)
theorem t_in (hr : Room k X.A) (ha : DE X g W a fa) (hb : DE X g W b fb) (hm : behindInMarks .In b = false := by with_unfolding_all rfl) : DT X g W (.Compare a [.In] [b] pos) (tOf (dOp sIn fa fb)) := dt_cmp (or_in (u65 hr)) se_in ha hb hm
theorem t_nin (hr : Room k X.A) (ha : DE X g W a fa) (hb : DE X g W b fb) (hm : behindInMarks .NotIn b = false := by with_unfolding_all rfl) : DT X g W (.Compare a [.NotIn] [b] pos) (tOf (dOp sNotIn fa fb)) := dt_cmp (or_notin (u65 hr)) se_notin ha hb hm
/-! chains -/
theorem c_lele (ha : DE X g W a fa) (hb : DE X g W b fb) (hc : DE X g W c fc) (hm : lastMarks [.LtE, .LtE] [b, c] = false := by with_unfolding_all rfl) : DE X g W (.Compare a [.LtE, .LtE] [b, c] pos) (dChain (sCmp fLe) (sCmp fLe) fa fb fc) := de_chain or_le se_cmp or_le se_cmp ha hb hc hm
theorem c_lelt (ha : DE X g W a fa) (hb : DE X g W b fb) (hc : DE X g W c fc) (hm : lastMarks [.LtE, .Lt] [b, c] = false := by with_unfolding_all rfl) : DE X g W (.Compare a [.LtE, .Lt] [b, c] pos) (dChain (sCmp fLe) (sCmp fLt) fa fb fc) := de_chain or_le se_cmp or_lt se_cmp ha hb hc hm
theorem c_ltlt (ha : DE X g W a fa) (hb : DE X g W b fb) (hc : DE X g W c fc) (hm : lastMarks [.Lt, .Lt] [b, c] = false := by with_unfolding_all rfl) : DE X g W (.Compare a [.Lt, .Lt] [b, c] pos) (dChain (sCmp fLt) (sCmp fLt) fa fb fc) := de_chain or_lt se_cmp or_lt se_cmp ha hb hc hm
theorem t_lele (ha : DE X g W a fa) (hb : DE X g W b fb) (hc : DE X g W c fc) (hm : lastMarks [.LtE, .LtE] [b, c] = false := by with_unfolding_all rfl) : DT X g W (.Compare a [.LtE, .LtE] [b, c] pos) (tOf (dChain (sCmp fLe) (sCmp fLe) fa fb fc)) := dt_chain or_le se_cmp or_le se_cmp ha hb hc hm
theorem t_lelt (ha : DE X g W a fa) (hb : DE X g W b fb) (hc : DE X g W c fc) (hm : lastMarks [.LtE, .Lt] [b, c] = false := by with_unfolding_all rfl) : DT X g W (.Compare a [.LtE, .Lt] [b, c] pos) (tOf (dChain (sCmp fLe) (sCmp fLt) fa fb fc)) := dt_chain or_le se_cmp or_lt se_cmp ha hb hc hm
theorem t_ltlt (ha : DE X g W a fa) (hb : DE X g W b fb) (hc : DE X g W c fc) (hm : lastMarks [.Lt, .Lt] [b, c] = false := by with_unfolding_all rfl) : DT X g W (.Compare a [.Lt, .Lt] [b, c] pos) (tOf (dChain (sCmp fLt) (sCmp fLt) fa fb fc)) := dt_chain or_lt se_cmp or_lt se_cmp ha hb hc hm
theorem t_v (ha : DE X g W a fa) (he : ∀ whole, isTrue a X.env whole = (do let v ← whole; standAt a.pos; holding [v] (truthy v)) := by intro _; rfl) : DT X g W a (tOf fa) := dt_val ha he
/-! built-ins -/
theorem b_len (B : Bt X.mg) (ha : DA X g W [a] av) (hg : Gl X "len" := by rfl) (he : starEach [a] X.env = (false, eval a X.env) :: starEach [] X.env := by rfl) (hpl : (backTo pos (starEach [] X.env)).any (·.1) = false := by rfl) : DE X g W (.Call (.Name "len" p) [a] [] pos) (dCallB sLen av) := de_callB cr_len se_len hg B.len PySem.boot_len ha (by decide) (by decide) he hpl
theorem b_int (B : Bt X.mg) (ha : DA X g W [a] av) (hg : Gl X "int" := by rfl) (he : starEach [a] X.env = (false, eval a X.env) :: starEach [] X.env := by rfl) (hpl : (backTo pos (starEach [] X.env)).any (·.1) = false := by rfl) : DE X g W (.Call (.Name "int" p) [a] [] pos) (dCallB sInt av) := de_callTy cr_int se_int hg B.int (by decide +kernel) ha (by decide) (by decide) he hpl
theorem b_abs (B : Bt X.mg) (ha : DA X g W [a] av) (hg : Gl X "abs" := by rfl) (he : starEach [a] X.env = (false, eval a X.env) :: starEach [] X.env := by rfl) (hpl : (backTo pos (starEach [] X.env)).any (·.1) = false := by rfl) : DE X g W (.Call (.Name "abs" p) [a] [] pos) (dCallB sAbs av) := de_callB cr_abs se_abs hg B.abs (by decide +kernel) ha (by decide) (by decide) he hpl
theorem b_all (hc : X.calm = true) (B : Bt X.mg) (ha : DA X g W [a] av) (hg : Gl X "all" := by rfl) (he : starEach [a] X.env = (false, eval a X.env) :: starEach [] X.env := by rfl) (hpl : (backTo pos (starEach [] X.env)).any (·.1) = false := by rfl) : DE X g W (.Call (.Name "all" p) [a] [] pos) (dCallB sAll av) := de_callB (cr_all hc) se_all hg B.all (by decide +kernel) ha (by decide) (by decide) he hpl
theorem b_any (hc : X.calm = true) (B : Bt X.mg) (ha : DA X g W [a] av) (hg : Gl X "any" := by rfl) (he : starEach [a] X.env = (false, eval a X.env) :: starEach [] X.env := by rfl) (hpl : (backTo pos (starEach [] X.env)).any (·.1) = false := by rfl) : DE X g W (.Call (.Name "any" p) [a] [] pos) (dCallB sAny av) := de_callB (cr_any hc) se_any hg B.any (by decide +kernel) ha (by decide) (by decide) he hpl
theorem b_sum (hc : X.calm = true) (B : Bt X.mg) (ha : DA X g W [a] av) (hg : Gl X "sum" := by rfl) (he : starEach [a] X.env = (false, eval a X.env) :: starEach [] X.env := by rfl) (hpl : (backTo pos (starEach [] X.env)).any (·.1) = false := by rfl) : DE X g W (.Call (.Name "sum" p) [a] [] pos) (dCallB sSum av) := de_callB (cr_sum hc) se_sum hg B.sum (by decide +kernel) ha (by decide) (by decide) he hpl
theorem b_max (hc : X.calm = true) (B : Bt X.mg) (ha : DA X g W (a :: es) av) (hg : Gl X "max" := by rfl) (he : starEach (a :: es) X.env = (false, eval a X.env) :: starEach es X.env := by rfl) (hpl : (backTo pos (starEach es X.env)).any (·.1) = false := by rfl) : DE X g W (.Call (.Name "max" p) (a :: es) [] pos) (dCallB sMax av) := de_callB (cr_max' hc) se_max hg B.max (by decide +kernel) ha (by decide) (by decide) he hpl
theorem b_min (hc : X.calm = true) (B : Bt X.mg) (ha : DA X g W (a :: es) av) (hg : Gl X "min" := by rfl) (he : starEach (a :: es) X.env = (false, eval a X.env) :: starEach es X.env := by rfl) (hpl : (backTo pos (starEach es X.env)).any (·.1) = false := by rfl) : DE X g W (.Call (.Name "min" p) (a :: es) [] pos) (dCallB sMin av) := de_callB (cr_min' hc) se_min hg B.min (by decide +kernel) ha (by decide) (by decide) he hpl
theorem b_sorted (hr : Room k X.A) (B : Bt X.mg) (ha : DA X g W [a] av) (hg : Gl X "sorted" := by rfl) (he : starEach [a] X.env = (false, eval a X.env) :: starEach [] X.env := by rfl) (hpl : (backTo pos (starEach [] X.env)).any (·.1) = false := by rfl) : DE X g W (.Call (.Name "sorted" p) [a] [] pos) (dCallB sSorted av) := de_callB (cr_sortD (u64 hr)) se_sorted hg B.sorted (by decide +kernel) ha (by decide) (by decide) he hpl
theorem b_tuple (B : Bt X.mg) (ha : DA X g W [a] av) (hg : Gl X "tuple" := by rfl) (he : starEach [a] X.env = (false, eval a X.env) :: starEach [] X.env := by rfl) (hpl : (backTo pos (starEach [] X.env)).any (·.1) = false := by rfl) : DE X g W (.Call (.Name "tuple" p) [a] [] pos) (dCallB sTuple av) := de_callTy cr_tuple se_tuple hg B.tuple (by decide +kernel) ha (by decide) (by decide) he hpl
theorem b_list (B : Bt X.mg) (ha : DA X g W [a] av) (hg : Gl X "list" := by rfl) (he : starEach [a] X.env = (false, eval a X.env) :: starEach [] X.env := by rfl) (hpl : (backTo pos (starEach [] X.env)).any (·.1) = false := by rfl) : DE X g W (.Call (.Name "list" p) [a] [] pos) (dCallB sList av) := de_callTy cr_list se_list hg B.list (by decide +kernel) ha (by decide) (by decide) he hpl
theorem b_isInt (B : Bt X.mg) (ha : DE X g W a fa) (hg : Gl X "isinstance" := by rfl) (hgT : Gl X "int" := by rfl) (h1 : starEach [a, .Name "int" p2] X.env = (false, eval a X.env) :: starEach [.Name "int" p2] X.env := by rfl) (h2 : starEach [.Name "int" p2] X.env = (false, eval (.Name "int" p2) X.env) :: starEach [] X.env := by rfl)
    (hpl : (backTo pos (starEach [.Name "int" p2] X.env)).any (·.1) = false := by rfl) : DE X g W (.Call (.Name "isinstance" p) [a, .Name "int" p2] [] pos) (dUn isInt fa) := de_isi tells_int hg B.isinstance hgT B.int (by decide +kernel) ha (by decide) (by decide) h1 h2 hpl
theorem b_isBool (B : Bt X.mg) (ha : DE X g W a fa) (hg : Gl X "isinstance" := by rfl) (hgT : Gl X "bool" := by rfl) (h1 : starEach [a, .Name "bool" p2] X.env = (false, eval a X.env) :: starEach [.Name "bool" p2] X.env := by rfl) (h2 : starEach [.Name "bool" p2] X.env = (false, eval (.Name "bool" p2) X.env) :: starEach [] X.env := by rfl)
    (hpl : (backTo pos (starEach [.Name "bool" p2] X.env)).any (·.1) = false := by rfl) : DE X g W (.Call (.Name "isinstance" p) [a, .Name "bool" p2] [] pos) (dUn isBool fa) := de_isi tells_bool hg B.isinstance hgT B.bool (by decide +kernel) ha (by decide) (by decide) h1 h2 hpl
theorem b_isStr (B : Bt X.mg) (ha : DE X g W a fa) (hg : Gl X "isinstance" := by rfl) (hgT : Gl X "str" := by rfl) (h1 : starEach [a, .Name "str" p2] X.env = (false, eval a X.env) :: starEach [.Name "str" p2] X.env := by rfl) (h2 : starEach [.Name "str" p2] X.env = (false, eval (.Name "str" p2) X.env) :: starEach [] X.env := by rfl)
    (hpl : (backTo pos (starEach [.Name "str" p2] X.env)).any (·.1) = false := by rfl) : DE X g W (.Call (.Name "isinstance" p) [a, .Name "str" p2] [] pos) (dUn isStr fa) := de_isi tells_str hg B.isinstance hgT B.str (by decide +kernel) ha (by decide) (by decide) h1 h2 hpl
theorem b_isTuple (B : Bt X.mg) (ha : DE X g W a fa) (hg : Gl X "isinstance" := by rfl) (hgT : Gl X "tuple" := by rfl) (h1 : starEach [a, .Name "tuple" p2] X.env = (false, eval a X.env) :: starEach [.Name "tuple" p2] X.env := by rfl) (h2 : starEach [.Name "tuple" p2] X.env = (false, eval (.Name "tuple" p2) X.env) :: starEach [] X.env := by rfl)
    (hpl : (backTo pos (starEach [.Name "tuple" p2] X.env)).any (·.1) = false := by rfl) : DE X g W (.Call (.Name "isinstance" p) [a, .Name "tuple" p2] [] pos) (dUn isTup fa) := de_isi tells_tup hg B.isinstance hgT B.tuple (by decide +kernel) ha (by decide) (by decide) h1 h2 hpl
theorem b_isList (B : Bt X.mg) (ha : DE X g W a fa) (hg : Gl X "isinstance" := by rfl) (hgT : Gl X "list" := by rfl) (h1 : starEach [a, .Name "list" p2] X.env = (false, eval a X.env) :: starEach [.Name "list" p2] X.env := by rfl) (h2 : starEach [.Name "list" p2] X.env = (false, eval (.Name "list" p2) X.env) :: starEach [] X.env := by rfl)
    (hpl : (backTo pos (starEach [.Name "list" p2] X.env)).any (·.1) = false := by rfl) : DE X g W (.Call (.Name "isinstance" p) [a, .Name "list" p2] [] pos) (dUn isLst fa) := de_isi tells_lst hg B.isinstance hgT B.list (by decide +kernel) ha (by decide) (by decide) h1 h2 hpl
/-- list(..) as an owned thing -/
def oCallB (sem : List D → Option D) (a : Av) : Ov := fun en => (a en).bind fun en1 xs => match resAll en1 xs with
  | some ds => (match sem ds with
    | some r => .ok en1 r
    | none => .no)
  | none => .no
def SemO (K : PySem.W.Frag) (r : List V → Hp → VK → Prop) (sem : List D → Option D) : Prop := ∀ F H vs ds c (Q : VK), Same F H → VwAll K F H vs ds → sem ds = some c → (∀ p o, H p = none → OwnAt K F (upd H p o) p c → Q (.ref p) (upd H p o)) → r vs H Q
theorem so_list : SemO X.K (rList1 X.K) sList := by
  intro F H vs ds c Q s hv hs k
  unfold sList at hs
  split at hs
  · cases hs
    obtain ⟨v, rfl, q⟩ := vwAll1 hv
    obtain ⟨a, xs, rfl, q1, al⟩ := vw_lst s q
    exact ⟨a, xs, rfl, .inl (.inl (.inl q1)), fun l hl => k l _ hl (.lst upd_same al)⟩
  · cases hs
    obtain ⟨v, rfl, q⟩ := vwAll1 hv
    obtain ⟨a, xs, rfl, q1, al, dv⟩ := vw_tup s q
    exact ⟨a, xs, rfl, .inr q1, fun l hl => k l _ hl (.lst upd_same al)⟩
  · cases hs
theorem so_sorted : SemO X.K (rSortD X.K) sSorted := by
  intro F H vs ds c Q s hv hs k
  unfold sSorted at hs
  split at hs
  · split at hs
    · rename_i ds hc
      cases hs
      obtain ⟨v, rfl, q⟩ := vwAll1 hv
      obtain ⟨a, xs, rfl, q1, al⟩ := vw_lst s q
      obtain ⟨c1, c2, c3, c4⟩ := canSort_of hc
      exact ⟨a, xs, ds, Dv X.K F, rfl, .inl (.inl (.inl q1)), dvAll_dp s ds xs c3 al, dvAll_each al, c1, c2, c4, fun ys p ho hp => k p _ hp (.lst upd_same (each_dvAll ho))⟩
    · cases hs
  · split at hs
    · rename_i ds hc
      cases hs
      obtain ⟨v, rfl, q⟩ := vwAll1 hv
      obtain ⟨a, xs, rfl, q1, al, _⟩ := vw_tup s q
      obtain ⟨c1, c2, c3, c4⟩ := canSort_of hc
      exact ⟨a, xs, ds, Dv X.K F, rfl, .inr q1, dvAll_dp s ds xs c3 al, dvAll_each al, c1, c2, c4, fun ys p ho hp => k p _ hp (.lst upd_same (each_dvAll ho))⟩
    · cases hs
  · cases hs
theorem callO {r : List V → Hp → VK → Prop} {sem : List D → Option D} (hs : SemO X.K r sem) {σ : St} {H : Hp} {Q : VK} (h : liftO X.K g W (oCallB sem av) σ H Q) : tCB r (liftA X.K g W av) σ H Q := by
  obtain ⟨F, en, rp, f⟩ := h
  refine ⟨F, en, rp, (Fin.seq f).mono fun F1 H1 en1 xs s1 r1 f1 vs hvs => ?_⟩
  cases e1 : resAll en1 xs with
  | none => rw [e1] at f1; exact f1.elim
  | some ds =>
    rw [e1] at f1
    dsimp only at f1
    cases e2 : sem ds with
    | none => rw [e2] at f1; exact f1.elim
    | some c =>
      rw [e2] at f1
      refine hs F1 H1 vs ds c Q r1.fz (r1.viewAll hvs e1) e2 fun p o hp ow => ?_
      obtain ⟨r2, n2⟩ := r1.fresh hp ow
      exact f1 F1 H1 (Same.refl _) r1 p _ r2 n2
theorem bo_list (B : Bt X.mg) (ha : DA X g W [a] av) (hg : Gl X "list" := by rfl) (he : starEach [a] X.env = (false, eval a X.env) :: starEach [] X.env := by rfl) (hpl : (backTo pos (starEach [] X.env)).any (·.1) = false := by rfl) : DO X g W (.Call (.Name "list" p) [a] [] pos) (oCallB sList av) :=
  PE.imp (pe_callTy cr_list hg B.list (by decide +kernel) ha (by decide) (by decide) he hpl) fun _ _ _ h => callO so_list h
theorem bo_sorted (hr : Room k X.A) (B : Bt X.mg) (ha : DA X g W [a] av) (hg : Gl X "sorted" := by rfl) (he : starEach [a] X.env = (false, eval a X.env) :: starEach [] X.env := by rfl) (hpl : (backTo pos (starEach [] X.env)).any (·.1) = false := by rfl) : DO X g W (.Call (.Name "sorted" p) [a] [] pos) (oCallB sSorted av) :=
  PE.imp (pe_callB (cr_sortD (u64 hr)) hg B.sorted (by decide +kernel) ha (by decide) (by decide) he hpl) fun _ _ _ h => callO so_sorted h
end
section
variable {X : Cx} {g : Gh} {Wh : WX} {pos p : Pos} {a : Expr} {es : List Expr} {av : Av} {fs : Fs} {x : Str} {j k : Nat}
/-! calls of defs -/
theorem f_ (bs : List Bool) (C : Callee X.prog X.w X.K X.mg X.base x j fs) (hr : Room k X.A) (tk : Takes X Wh) (ha : DA X g (WH X.K X.mg Wh) (a :: es) av) (hj : j ≤ k := by first | decide | exact Nat.le_refl _ | omega) (hg : Gl X x := by rfl)
    (hdb : (x == ("__debug__" : Str)) = false := by decide) (he : starEach (a :: es) X.env = (false, eval a X.env) :: starEach es X.env := by rfl) (hpl : (backTo pos (starEach es X.env)).any (·.1) = false := by rfl) :
    DE X g (WH X.K X.mg Wh) (.Call (.Name x p) (a :: es) [] pos) (dCall fs bs av) := de_call bs C hj hr hg tk ha hdb he hpl
theorem fo_ (bs : List Bool) (C : Callee X.prog X.w X.K X.mg X.base x j fs) (hr : Room k X.A) (tk : Takes X Wh) (ha : DA X g (WH X.K X.mg Wh) (a :: es) av) (hj : j ≤ k := by first | decide | exact Nat.le_refl _ | omega) (hg : Gl X x := by rfl)
    (hdb : (x == ("__debug__" : Str)) = false := by decide) (he : starEach (a :: es) X.env = (false, eval a X.env) :: starEach es X.env := by rfl) (hpl : (backTo pos (starEach es X.env)).any (·.1) = false := by rfl) :
    DO X g (WH X.K X.mg Wh) (.Call (.Name x p) (a :: es) [] pos) (oCall fs bs av) := do_call bs C hj hr hg tk ha hdb he hpl
end
section
variable {X : Cx} {g : Gh} {W : XW} {pos : Pos} {e : Expr} {f : Ev} {fo : Ov} {x : Str}
/-! statements -/
theorem set_ (i : Nat) {pos' : Pos} (hN : X.N.Nodup) (he : DE X g W e f) (hi : X.N[i]? = some x := by rfl) (hx : Loc X.env.scope x := by first | exact .inl rfl | exact .inr rfl) (hs : swapsWith e (some (.Name x pos')) pos.line X.env = pure false := by rfl) (hf : X.fn x = true ∨ X.env.scope.names.lookup x = some .local := by first | exact .inl rfl | exact .inr rfl) :
    DS X g W (.Assign [.Name x pos'] e pos) (bSet i f) := ds_set hN hi hx he hs hf
theorem setO_ (i : Nat) {pos' : Pos} (hN : X.N.Nodup) (he : DO X g W e fo) (hi : X.N[i]? = some x := by rfl) (hx : Loc X.env.scope x := by first | exact .inl rfl | exact .inr rfl) (hs : swapsWith e (some (.Name x pos')) pos.line X.env = pure false := by rfl) (hf : X.fn x = true ∨ X.env.scope.names.lookup x = some .local := by first | exact .inl rfl | exact .inr rfl) :
    DS X g W (.Assign [.Name x pos'] e pos) (bSetO i fo) := ds_setO hN hi hx he hs hf
theorem gn_ (i : Nat) (hN : X.N.Nodup) (hi : X.N[i]? = some x := by rfl) (hx : Loc X.env.scope x := by first | exact .inl rfl | exact .inr rfl) (hf : X.fn x = true ∨ X.env.scope.names.lookup x = some .local := by first | exact .inl rfl | exact .inr rfl) : DG X g (.Name x pos) (tgName i) [i] := dg_name hN hi hx hf
theorem hn_ (i : Nat) (hN : X.N.Nodup) (hi : X.N[i]? = some x := by rfl) (hx : Loc X.env.scope x := by first | exact .inl rfl | exact .inr rfl) (hf : X.fn x = true ∨ X.env.scope.names.lookup x = some .local := by first | exact .inl rfl | exact .inr rfl) : DH X g W (.Name x pos) (hName i) := dh_name hN hi hx hf
theorem dn_ (i : Nat) {is : List Nat} {es : List Expr} {p : Pos} (hN : X.N.Nodup) (hr : DNs X is es) (hi : X.N[i]? = some x := by rfl) (hx : Loc X.env.scope x := by first | exact .inl rfl | exact .inr rfl) (hf : X.fn x = true ∨ X.env.scope.names.lookup x = some .local := by first | exact .inl rfl | exact .inr rfl)
    (hs : (assignEach (.Name x p :: es) X.env).map (·.2) = assign (.Name x p) X.env :: (assignEach es X.env).map (·.2) := by rfl) : DNs X (i :: is) (.Name x p :: es) := dn_cons hN hi hx hr hf hs
end
end DL
/-! Dl14: walks over lists, tuples, texts alike; comprehensions as plain values. -/
namespace DL
open PySem PySem.Spec L2
open PyProof.Rows hiding St

theorem dss_no {X : Cx} {g : Gh} {W : XW} {st : List Stmt} : DSs X g W st bNo := ⟨fun pins s σ H D I h => by
  obtain ⟨F, en, rp, f⟩ := h
  exact f.elim⟩
def itAll : D → Option (List D)
  | .str x => some (signs x)
  | d => itSeq d
section
variable {X : Cx} {g : Gh} {W : XW} {tg e : Expr} {f : Ev} {pos : Pos}
theorem di_all (h : DE X g W e f) : DI X g W tg e (iOf itAll f) := by
  refine PI.imp (PI.or (di_seq (tg := tg) h) (di_str (tg := tg) h)) fun σ H R hw => ?_
  obtain ⟨F, en, rp, f1⟩ := hw
  unfold iOf at f1
  cases e2 : f en with
  | no => rw [e2] at f1; exact f1.elim
  | ex en1 x => exact .inl ⟨F, en, rp, by unfold iOf; rw [e2] at f1 ⊢; exact f1⟩
  | ok en1 x =>
    rw [e2] at f1
    cases x with
    | s i => exact f1.elim
    | d d =>
      by_cases hs : ∃ x, d = .str x
      · obtain ⟨x, rfl⟩ := hs
        exact .inr ⟨F, en, rp, by unfold iOf; rw [e2]; exact f1⟩
      · have : itAll d = itSeq d := by
          cases d <;> first | rfl | exact absurd ⟨_, rfl⟩ hs
        refine .inl ⟨F, en, rp, ?_⟩
        unfold iOf
        rw [e2]
        have f1 : Fin X.K g W σ F (match itAll d with
          | some ds => Rs.ok en1 ds
          | none => Rs.no) _ := f1
        rw [this] at f1
        exact f1
end
/-- y = [..], frozen at once -/
def bSetZ (i : Nat) (f : Ov) : Bd := fun en => (f en).out fun en1 d => Opt.out (putS en1 i (.val d)) .nx
section
variable {X : Cx} {g : Gh} {W : XW} {elt tg iter : Expr} {ifs : List Expr} {scope : Scope} {own : List (Str × Nat)} {pos : Pos} {it : Iv} {t : Tg} {ts : List Nat} {tt : Tv} {el : Ev}
theorem ds_setZ {i : Nat} {y : Str} {py spos : Pos} (hc : X.calm = true) (hN : X.N.Nodup) (hy : X.N[i]? = some y) (hyl : X.env.scope.names.lookup y = some .local) (hsw : swapsWith (.ListComp elt [⟨tg, iter, ifs, 0⟩] scope pos) (some (.Name y py)) spos.line X.env = pure true)
    (hi : DI X g W tg iter it) (ok : BlkOk X.N X.env.scope scope own) (hsub : ∀ i ∈ ts, i ∈ own.map (·.2))
    (hg : ∀ (s : Shared) (H : Hp) (C : Addr) (cl : List (Str × Addr)) (fp : List Addr) (g' : Gh), DG (X.blk s H scope (compEnvC scope cl C X.env) fp) g' tg t ts)
    (ht : ∀ (s : Shared) (H : Hp) (C : Addr) (cl : List (Str × Addr)) (fp : List Addr) (g' : Gh), DTs (X.blk s H scope (compEnvC scope cl C X.env) fp) g' (W0 X.K X.mg) ifs tt)
    (he : ∀ (s : Shared) (H : Hp) (C : Addr) (cl : List (Str × Addr)) (fp : List Addr) (g' : Gh), DE (X.blk s H scope (compEnvC scope cl C X.env) fp) g' (W0 X.K X.mg) elt el)
    (hs : ∀ x, foldedSetIterable iter X.env x = pure x := by intro _; rfl) : DS X g W (.Assign [.Name y py] (.ListComp elt [⟨tg, iter, ifs, 0⟩] scope pos) spos) (bSetZ i (oComp (own.map (·.2)) it t tt el)) := by
  refine PS.imp (ps_setLc (g := fun v σ H Q => ∃ g', liftG X.K g' t ts v σ H Q) (tt := fun σ H Q => ∃ g', liftT X.K g' (W0 X.K X.mg) tt σ H Q) (te := fun σ H Q => ∃ g', liftE X.K g' (W0 X.K X.mg) el σ H Q) hc hN hy hyl hsw hi ok
    (fun s H C cl fp => ⟨fun pins s' σ H v u Q I r ⟨g', q⟩ => (hg s _ C cl fp g').run pins s' σ H v u Q I r q⟩) (fun s H C cl fp => ⟨fun pins s' σ H Q I ⟨g', q⟩ => (ht s _ C cl fp g').run pins s' σ H Q I q⟩)
    (fun s H C cl fp => ⟨fun pins s' σ H Q I ⟨g', q⟩ => (he s _ C cl fp g').run pins s' σ H Q I q⟩) hs) fun E σ H h => ?_
  refine comp_tLc (W := W) (g := g) hsub ?_
  obtain ⟨F, en, rp, f⟩ := h
  refine ⟨F, en, rp, FinS.of_out f fun F' H' en' d s rp' k p H'' r2 n => ?_⟩
  cases q : putS en' i (.val d) with
  | none => rw [q] at k; exact k.elim
  | some en2 =>
    rw [q] at k
    obtain ⟨o, ho, dv⟩ := n.at_.dv n.nf
    exact k _ _ H'' (Ext.put.same_updN n.nf) ((r2.freeze ho n.nh n.no n.nf).putV q dv)
/-- [..] as a value -/
theorem z_ (h : DO X g W (.ListComp elt [⟨tg, iter, ifs, 0⟩] scope pos) (oComp (own.map (·.2)) it t tt el)) : DE X g W (.ListComp elt [⟨tg, iter, ifs, 0⟩] scope pos) (dFz (oComp (own.map (·.2)) it t tt el)) := h.fz
end
end DL
/-! Dcomp: list comprehensions of two clauses. -/
namespace DL
open PySem PySem.Spec L2
open PyProof.Rows hiding St

/-- the inner turns -/
def compIn (vs : List Nat) (tg : Tg) (tt : Tv) (el : Ev) : List D → En → List D → Rs (List D)
  | [], en, acc => .ok en acc
  | d :: ds, en, acc => match wipeE en vs with
    | none => .no
    | some en0 => (match tg d en0 with
      | none => .no
      | some en1 => (match tt en1 with
        | .ok en2 false => (match unw en en2 with
          | some en4 => compIn vs tg tt el ds en4 acc
          | none => .no)
        | .ok en2 true => (match el en2 with
          | .ok en3 (.d y) => if acc.length < sizeLine then (match unw en en3 with
            | some en4 => compIn vs tg tt el ds en4 (acc ++ [y])
            | none => .no) else .no
          | _ => .no)
        | _ => .no))
/-- what is owned in the block is owned outside -/
def ownSub : En → En → Bool
  | [], [] => true
  | s :: en, t :: en3 => (match t with
    | .own _ _ => (match s with
      | .own _ _ => true
      | _ => false)
    | _ => true) && ownSub en en3
  | _, _ => false
def compL2 (vs vs1 : List Nat) (tg : Tg) (tt : Tv) (it1 : Iv) (tg1 : Tg) (tt1 : Tv) (el : Ev) : List D → En → List D → Rs D
  | [], en, acc => .ok en (.list acc)
  | d :: ds, en, acc => match wipeE en vs with
    | none => .no
    | some en0 => (match tg d en0 with
      | none => .no
      | some en1 => (match tt en1 with
        | .ok en2 false => (match unw en en2 with
          | some en4 => compL2 vs vs1 tg tt it1 tg1 tt1 el ds en4 acc
          | none => .no)
        | .ok en2 true => (match it1 en2 with
          | .ok en3 ds1 => if ownSub en en3 = true then (match unw en en3 with
            | some _ => (match compIn vs1 tg1 tt1 el ds1 en3 acc with
              | .ok en4 acc' => (match unw en en4 with
                | some en5 => compL2 vs vs1 tg tt it1 tg1 tt1 el ds en5 acc'
                | none => .no)
              | _ => .no)
            | none => .no) else .no
          | _ => .no)
        | _ => .no))
def oComp2 (vs vs1 : List Nat) (it : Iv) (tg : Tg) (tt : Tv) (it1 : Iv) (tg1 : Tg) (tt1 : Tv) (el : Ev) : Ov := fun en => (it en).bind fun en1 ds => compL2 vs vs1 tg tt it1 tg1 tt1 el ds en1 []

theorem unw_unw : ∀ {en eb eo eb' : En}, unw en eb = some eo → unw eo eb' = unw en eb'
  | [], [], eo, eb', e => by
    cases e
    rfl
  | s :: en, t :: eb, eo, eb', e => by
    unfold unw at e
    split at e
    · rename_i r e1
      cases eb' with
      | nil =>
        split at e
        · split at e
          · split at e <;> cases e
            rfl
          · cases e
        · cases e; rfl
      | cons u eb' =>
        have ih := unw_unw (eb' := eb') e1
        split at e
        · rename_i b d0
          split at e
          · rename_i c d
            split at e
            · rename_i hbc
              cases e
              unfold unw
              rw [ih]
            · cases e
          · cases e
        · rename_i ns
          cases e
          unfold unw
          rw [ih]
    · cases e
  | [], _ :: _, _, _, e => by cases e
  | _ :: _, [], _, _, e => by cases e
theorem unw_ex : ∀ {en eb : En}, en.length = eb.length → (∀ (k : Nat) (b : Bool) (d : D), en[k]? = some (.own b d) → ∃ d', eb[k]? = some (.own b d')) → ∃ eo, unw en eb = some eo
  | [], [], _, _ => ⟨[], rfl⟩
  | s :: en, t :: eb, hl, h => by
    obtain ⟨r, e⟩ := unw_ex (en := en) (eb := eb) (by simpa using hl) fun k b d e => by
      obtain ⟨d', z⟩ := h (k + 1) b d (by simpa using e)
      exact ⟨d', by simpa using z⟩
    unfold unw
    rw [e]
    cases s with
    | own b d =>
      obtain ⟨d', z⟩ := h 0 b d rfl
      have : t = .own b d' := by simpa using z
      subst this
      dsimp only
      rw [if_pos rfl]
      exact ⟨_, rfl⟩
    | un => exact ⟨_, rfl⟩
    | val d => exact ⟨_, rfl⟩
    | ali j => exact ⟨_, rfl⟩
    | xs => exact ⟨_, rfl⟩
  | [], _ :: _, hl, _ => by cases hl
  | _ :: _, [], hl, _ => by cases hl
theorem ownSub_at : ∀ {en en3 : En}, ownSub en en3 = true → ∀ (k : Nat) (b : Bool) (d : D), en3[k]? = some (.own b d) → ∃ c e, en[k]? = some (.own c e)
  | [], [], _, k, b, d, h => by simp at h
  | s :: en, t :: en3, h, 0, b, d, e => by
    have : t = .own b d := by simpa using e
    subst this
    unfold ownSub at h
    rw [Bool.and_eq_true] at h
    cases s <;> first | (exact absurd h.1 Bool.false_ne_true) | exact ⟨_, _, rfl⟩
  | s :: en, t :: en3, h, k + 1, b, d, e => by
    unfold ownSub at h
    rw [Bool.and_eq_true] at h
    obtain ⟨c, e', z⟩ := ownSub_at h.2 k b d (by simpa using e)
    exact ⟨c, e', by simpa using z⟩
  | [], _ :: _, h, _, _, _, _ => by cases h
  | _ :: _, [], h, _, _, _, _ => by cases h

section
variable {K : PySem.W.Frag} {g g' : Gh} {F F' H H' : Hp} {en en3 en4 eb eo : En} {σ σ2 : St} {vs : List Nat}
/-- own behind unw -/
theorem isOwn_unw (hu : unw en en3 = some en4) {p : Addr} (z : IsOwn en4 σ p) : IsOwn en σ p := by
  obtain ⟨k, b, d, z1, z2⟩ := z
  rcases (unw_at hu).2.2 k _ z1 with ⟨b', d0, d', w1, _, w⟩ | ⟨_, w⟩
  · exact ⟨k, b', d0, w1, z2⟩
  · exact absurd rfl (w b d)
theorem isOwn_unw2 (hu : unw en en3 = some en4) {p : Addr} (z : IsOwn en σ p) : IsOwn en4 σ p := by
  obtain ⟨k, b, d, z1, z2⟩ := z
  obtain ⟨u1, _, u3⟩ := unw_at hu
  have lk : k < en4.length := by rw [u1]; exact (List.getElem?_eq_some_iff.mp z1).1
  rcases u3 k _ (List.getElem?_eq_getElem lk) with ⟨b', d0, d', w1, _, w⟩ | ⟨w1, w2⟩
  · exact ⟨k, b', d', by rw [List.getElem?_eq_getElem lk, w], z2⟩
  · rw [z1] at w1
    have := Option.some.inj w1
    exact absurd this.symm (w2 b d)
/-- a ghost of the heap as it stands -/
structure Hereg (g : Gh) (F H : Hp) (en : En) (σ : St) : Prop where
  f0 : g.F0 = F
  h0 : g.H0 = H
  ps : ∀ p, p ∈ g.Ps ↔ IsOwn en σ p
  pl : g.Pl = []
  rw : g.Rw = []
theorem Rep.here (r : Rep K g F en σ H) : ∃ g2, Hereg g2 F H en σ ∧ Rep K g2 F en σ H := by
  obtain ⟨g', s⟩ := sub_ex g F H en σ
  have r' := r.narrow s
  obtain ⟨s1, s2, s3, s4, s5⟩ := s
  refine ⟨{ g' with Pl := [], Rw := [] }, ⟨s1, s2, s3, rfl, rfl⟩, ⟨r'.fz, r'.fr, r'.al, r'.nw, r'.len, r'.val, r'.own, r'.ali, r'.sep, (fun _ _ z => by cases z), (fun _ _ z => by cases z)⟩⟩
/-- the same, where a thing apart has been written -/
theorem Rep.regh (r : Rep K g F en σ H) {p : Addr} (o : HO) (hF : F p = none) (no : ¬ IsOwn en σ p) : ∃ g2, Hereg g2 F (upd H p o) en σ ∧ Rep K g2 F en σ (upd H p o) := by
  obtain ⟨g', s1, s2, s3, s4, s5⟩ := sub_ex g F H en σ
  refine ⟨⟨F, upd H p o, g'.Ps, [], []⟩, ⟨rfl, rfl, s3, rfl, rfl⟩, ⟨fun a u e => ?_, fun a u e _ => e, fun q hq => ?_, fun a e _ _ => e, r.len, r.val, fun i b d e => ?_, r.ali, r.sep, (fun _ _ z => by cases z), (fun _ _ z => by cases z)⟩⟩
  · rw [upd_ne (ne_of_none e hF)]; exact r.fz a u e
  · by_cases h : q = p
    · subst h; rw [upd_same]; exact fun z => by cases z
    · rw [upd_ne h]; exact (r.ownPs ((s3 q).mp hq)).2.2
  · obtain ⟨p', e1, q1, q2, _⟩ := r.own i b d e
    refine ⟨p', e1, q1.to (upd_ne fun z => ?_) (Same.refl _), q2, .inl ((s3 p').mpr ⟨i, b, d, e, e1⟩)⟩
    subst z
    exact no ⟨i, b, d, e, e1⟩
theorem Hereg.sub {g2 : Gh} (h : Hereg g2 F H eb σ2) (hp : ∀ p, IsOwn eb σ2 p ↔ IsOwn eo σ p) : Sub g { g2 with Pl := g.Pl, Rw := g.Rw } F H eo σ := ⟨h.f0, h.h0, fun p => (h.ps p).trans (hp p), rfl, rfl⟩
theorem Hereg.eta {g2 : Gh} {Pl : List (Nat × Addr)} {Rw : List (Nat × Addr)} (h : Hereg g2 F H eb σ2) : g2 = { ({ g2 with Pl := Pl, Rw := Rw } : Gh) with Pl := [], Rw := [] } := by
  obtain ⟨a, b, c, d, e⟩ := g2
  have h1 : d = [] := h.pl
  have h2 : e = [] := h.rw
  subst h1 h2
  rfl
theorem wipe_out' {σ σ2 : St} (hw : wipe σ2 vs = wipe σ vs) {k : Nat} (hk : k ∉ vs) : σ2[k]? = σ[k]? := by
  have := congrArg (fun x : St => x[k]?) hw
  simpa [wipe_get hk] using this
/-- what a thing apart keeps over such a ghost -/
theorem Hereg.keep {g2 : Gh} (h : Hereg g2 F H eb σ2) {p : Addr} {o : HO} (ho : H p = some o) (hF : F p = none) (no : ¬ IsOwn eb σ2 p) {σ' : St} (r : Rep K g2 F' en3 σ' H') : H' p = some o ∧ F' p = none := by
  have n : p ∉ g2.Ps := fun q => no ((h.ps p).mp q)
  exact ⟨r.fr p o (by rw [h.h0]; exact ho) n, r.nw p (by rw [h.f0]; exact hF) (by rw [h.h0, ho]; exact fun z => by cases z) n⟩
end
section
variable {X : Cx} {g : Gh} {W : XW} {elt tg iter tg1 iter1 : Expr} {ifs ifs1 : List Expr} {scope : Scope} {own : List (Str × Nat)} {pos : Pos} {it it1 : Iv} {t t1 : Tg} {ts ts1 : List Nat} {tt tt1 : Tv} {el : Ev} {vs vs1 : List Nat}
/-- the inner loop's reading, at the block's state -/
theorem inner_walk (hv1 : ∀ i ∈ vs1, i ∈ vs) (hs1 : ∀ i ∈ ts1, i ∈ vs1) {σ σ2 : St} {H4 : Hp} {F4 : Hp} {J1 : It} {ds1 : List D} {L : Addr} {en eb : En} {aV : List V} {aD : List D} {en4 : En} {acc' : List D} {Nx : Hp → Prop} {g2 : Gh}
    (hw : wipe σ2 vs = wipe σ vs) (hown : ∀ (k : Nat) (b : Bool) (d : D), en[k]? = some (.own b d) → k ∉ vs) (os : ∀ (k : Nat) (b : Bool) (d : D), eb[k]? = some (.own b d) → ∃ c e, en[k]? = some (.own c e))
    (hJ : ItOk X.K F4 (fun _ _ => True) J1 ds1) (h2 : Hereg g2 F4 H4 eb σ2) (rb : Rep X.K g2 F4 eb σ2 H4) {eo : En} (ho : unw en eb = some eo) (ro : Rep X.K g F4 eo σ H4)
    (eL : H4 L = some (.lst aV)) (aA : DvAll X.K F4 aV aD) (nF : F4 L = none) (n0 : g.H0 L = none) (nO : ¬ IsOwn eo σ L)
    (f : compIn vs1 t1 tt1 el ds1 eb aD = .ok en4 acc')
    (fin : ∀ F5 H5 eo5 aV5, Same F4 F5 → unw en en4 = some eo5 → Rep X.K g F5 eo5 σ H5 → H5 L = some (.lst aV5) → DvAll X.K F5 aV5 acc' → F5 L = none → ¬ IsOwn eo5 σ L → Nx H5) :
    ∃ W1 : Nat → Nat → Hp → Prop, (∃ m, W1 0 m H4) ∧ ∀ j k H, W1 j k H →
      (J1.stop j H ∧ Nx H) ∨ (J1.go j H ∧ ∃ Nx1 : Hp → Prop, (∀ H', Nx1 H' → ∃ k', k' < k ∧ W1 (j + 1) k' H') ∧ ∀ x H', J1.yld j H x H' → (fun v σ H Q => ∃ g', liftG X.K g' t1 ts1 v σ H Q) x (wipe σ2 vs1) H' fun σ3 H5 => wipe σ3 vs1 = wipe σ2 vs1 ∧ (fun σ H Q => ∃ g', liftT X.K g' (W0 X.K X.mg) tt1 σ H Q) σ3 H5 fun b H6 =>
        if b = true then (fun σ H Q => ∃ g', liftE X.K g' (W0 X.K X.mg) el σ H Q) σ3 H6 fun y H7 => ∃ acc, H7 L = some (.lst acc) ∧ acc.length < sizeLine ∧ Nx1 (upd H7 L (.lst (acc ++ [y]))) else Nx1 H6) := by
  have own2 : ∀ {eb eo : En}, (∀ (k : Nat) (b : Bool) (d : D), eb[k]? = some (.own b d) → ∃ c e, en[k]? = some (.own c e)) → unw en eb = some eo → ∀ p, IsOwn eb σ2 p ↔ IsOwn eo σ p := fun {eb eo} os hu p => by
    constructor
    · rintro ⟨k, b, d, z1, z2⟩
      obtain ⟨c, e, z3⟩ := os k b d z1
      refine isOwn_unw2 hu ⟨k, c, e, z3, ?_⟩
      rw [← wipe_out' hw (hown k c e z3)]
      exact z2
    · rintro ⟨k, b, d, z1, z2⟩
      rcases (unw_at hu).2.2 k _ z1 with ⟨b', d0, d', w1, w2, w⟩ | ⟨_, w⟩
      · exact ⟨k, b', d', w2, by rw [wipe_out' hw (hown k b' d0 w1)]; exact z2⟩
      · exact absurd rfl (w b d)
  refine ⟨fun j m H => m = ds1.length - j ∧ j ≤ ds1.length ∧ ∃ F5 eb5 eo5 g5 aV5 aD5, Same F4 F5 ∧ Hereg g5 F5 H eb5 σ2 ∧ Rep X.K g5 F5 eb5 σ2 H ∧ unw en eb5 = some eo5 ∧ Rep X.K g F5 eo5 σ H ∧ (∀ (k : Nat) (b : Bool) (d : D), eb5[k]? = some (.own b d) → ∃ c e, en[k]? = some (.own c e)) ∧
    H L = some (.lst aV5) ∧ DvAll X.K F5 aV5 aD5 ∧ F5 L = none ∧ ¬ IsOwn eo5 σ L ∧ compIn vs1 t1 tt1 el (ds1.drop j) eb5 aD5 = .ok en4 acc', ⟨ds1.length, by simp, Nat.zero_le _, F4, eb, eo, g2, aV, aD, Same.refl _, h2, rb, ho, ro, os, eL, aA, nF, nO, f⟩, ?_⟩
  rintro j m H ⟨rfl, hj, F5, eb5, eo5, g5, aV5, aD5, s5, h5, rb5, hu5, ro5, os5, eL5, aA5, nF5, nO5, f5⟩
  obtain ⟨j1, j2⟩ := hJ j F5 H s5 rb5.fz trivial
  by_cases hlt : j < ds1.length
  · have e1 : ds1[j]? = some ds1[j] := List.getElem?_eq_getElem hlt
    obtain ⟨g1, gy⟩ := j1 _ e1
    have ed : ds1.drop j = ds1[j] :: ds1.drop (j + 1) := List.drop_eq_getElem_cons hlt
    rw [ed] at f5
    unfold compIn at f5
    refine .inr ⟨g1, fun H' => ∃ F6 eb6 eo6 g6 aV6 aD6, Same F4 F6 ∧ Hereg g6 F6 H' eb6 σ2 ∧ Rep X.K g6 F6 eb6 σ2 H' ∧ unw en eb6 = some eo6 ∧ Rep X.K g F6 eo6 σ H' ∧ (∀ (k : Nat) (b : Bool) (d : D), eb6[k]? = some (.own b d) → ∃ c e, en[k]? = some (.own c e)) ∧
      H' L = some (.lst aV6) ∧ DvAll X.K F6 aV6 aD6 ∧ F6 L = none ∧ ¬ IsOwn eo6 σ L ∧ compIn vs1 t1 tt1 el (ds1.drop (j + 1)) eb6 aD6 = .ok en4 acc', fun H' z => ⟨ds1.length - (j + 1), by omega, rfl, hlt, z⟩, fun v H' y => ?_⟩
    obtain ⟨F3, x3, q3⟩ := gy v H' y
    have rb3 := rb5.ext x3
    have ro3 := ro5.ext x3
    have eL3 : H' L = some (.lst aV5) := x3.same _ _ eL5
    have nF3 : F3 L = none := x3.new L nF5 (by rw [eL5]; exact fun z => by cases z)
    obtain ⟨gh, hh, rh⟩ := rb3.here
    have noB : ¬ IsOwn eb5 σ2 L := fun z => nO5 ((own2 os5 hu5 L).mp z)
    cases e2 : wipeE eb5 vs1 with
    | none => rw [e2] at f5; cases f5
    | some en0 =>
      rw [e2] at f5
      dsimp only at f5
      cases e3 : t1 ds1[j] en0 with
      | none => rw [e3] at f5; cases f5
      | some en3 =>
        rw [e3] at f5
        dsimp only at f5
        have hsub : Sub gh gh F3 H' eb5 σ2 := ⟨hh.f0, hh.h0, hh.ps, rfl, rfl⟩
        have geta : gh = { gh with Pl := [], Rw := [] } := hh.eta (Pl := gh.Pl) (Rw := gh.Rw)
        have rk := rh.block hsub e2 rfl
        rw [← geta] at rk
        refine ⟨gh, F3, en0, ds1[j], en3, rk, q3, e3, fun σ' r' b => ?_⟩
        have hw1 : wipe σ' vs1 = wipe σ2 vs1 := wipe_same ⟨b.1, fun k hk => b.2 k fun z => hk (hs1 k z)⟩
        refine ⟨hw1, gh, F3, en3, r', ?_⟩
        -- behind a turn
        have back : ∀ {F6 H6 : Hp} {en6 : En} {σ6 : St} {eb7 : En}, Same F3 F6 → Rep X.K gh F6 en6 σ6 H6 → wipe σ6 vs1 = wipe σ2 vs1 → unw eb5 en6 = some eb7 → ∃ eo7, unw en eb7 = some eo7 ∧ Rep X.K gh F6 eb7 σ2 H6 ∧ Rep X.K g F6 eo7 σ H6 ∧ (∀ (k : Nat) (b : Bool) (d : D), eb7[k]? = some (.own b d) → ∃ c e, en[k]? = some (.own c e)) ∧ H6 L = some (.lst aV5) ∧ F6 L = none ∧ ¬ IsOwn eo7 σ L ∧ ¬ IsOwn eb7 σ2 L := fun {F6 H6 en6 σ6 eb7} s6 r6 hw6 hu => by
          have rb7 : Rep X.K gh F6 eb7 σ2 H6 := rh.unblock hsub (wipeE_own e2) geta r6 hw6 s6 hu
          have os7 : ∀ (k : Nat) (b : Bool) (d : D), eb7[k]? = some (.own b d) → ∃ c e, en[k]? = some (.own c e) := fun k b d e => by
            rcases (unw_at hu).2.2 k _ e with ⟨b', d0, d', w1, _, w⟩ | ⟨_, w⟩
            · exact os5 k b' d0 w1
            · exact absurd rfl (w b d)
          -- the own slots of the block go out
          have ex : ∃ eo7, unw en eb7 = some eo7 := by
            refine unw_ex (by rw [(unw_at hu).1, (unw_at hu5).2.1]) fun k b d e => ?_
            obtain ⟨u1, u2, u3⟩ := unw_at hu5
            have lk : k < eo5.length := by rw [u1]; exact (List.getElem?_eq_some_iff.mp e).1
            rcases u3 k _ (List.getElem?_eq_getElem lk) with ⟨b', d0, d', w1, w2, w⟩ | ⟨w1, w2⟩
            · rw [e] at w1
              cases w1
              obtain ⟨v1, v2, v3⟩ := unw_at hu
              have lk2 : k < eb7.length := by rw [v1]; exact (List.getElem?_eq_some_iff.mp w2).1
              rcases v3 k _ (List.getElem?_eq_getElem lk2) with ⟨b2, d2, d3, y1, _, y⟩ | ⟨y1, y2⟩
              · rw [w2] at y1
                cases y1
                exact ⟨d3, by rw [List.getElem?_eq_getElem lk2, y]⟩
              · rw [w2] at y1
                have := Option.some.inj y1
                exact absurd this.symm (y2 _ _)
            · rw [e] at w1
              have := Option.some.inj w1
              exact absurd this.symm (w2 _ _)
          obtain ⟨eo7, hu7⟩ := ex
          have hs3 : Sub g { gh with Pl := g.Pl, Rw := g.Rw } F3 H' eo5 σ := hh.sub (own2 os5 hu5)
          have ro7 : Rep X.K g F6 eo7 σ H6 := ro3.unblock hs3 (fun k b d e => by
            rcases (unw_at hu5).2.2 k _ e with ⟨b', d0, d', w1, _, w⟩ | ⟨_, w⟩
            · exact hown k b' d0 w1
            · exact absurd rfl (w b d)) (hh.eta) rb7 hw s6 (by rw [unw_unw hu5]; exact hu7)
          obtain ⟨k1, k2⟩ := hh.keep eL3 nF3 noB r6
          have nb7 : ¬ IsOwn eb7 σ2 L := fun z => noB (isOwn_unw hu z)
          exact ⟨eo7, hu7, rb7, ro7, os7, k1, k2, fun z => nb7 ((own2 os7 hu7 L).mpr z), nb7⟩
        cases e4 : tt1 en3 with
        | no => rw [e4] at f5; cases f5
        | ex en6 x => rw [e4] at f5; cases f5
        | ok en6 k =>
          rw [e4] at f5
          intro F6 H6 s6 r6
          cases k with
          | false =>
            dsimp only at f5
            rw [if_neg Bool.false_ne_true]
            cases e5 : unw eb5 en6 with
            | none => rw [e5] at f5; cases f5
            | some eb7 =>
              rw [e5] at f5
              obtain ⟨eo7, hu7, rb7, ro7, os7, k1, k2, n7, nb7⟩ := back s6 r6 hw1 e5
              obtain ⟨g7, h7, rb7'⟩ := rb7.here
              exact ⟨F6, eb7, eo7, g7, aV5, aD5, s5.trans (x3.le.trans s6), h7, rb7', hu7, ro7, os7, k1, aA5.mono (x3.le.trans s6), k2, n7, f5⟩
          | true =>
            dsimp only at f5
            rw [if_pos rfl]
            refine ⟨gh, F6, en6, r6, ?_⟩
            cases e5 : el en6 with
            | no => rw [e5] at f5; cases f5
            | ex en7 x => rw [e5] at f5; cases f5
            | ok en7 rv =>
              rw [e5] at f5
              cases rv with
              | s i => cases f5
              | d yd =>
                intro F7 H7 s7 r7 v7 hv7
                dsimp only at f5
                split at f5
                · rename_i hl
                  cases e6 : unw eb5 en7 with
                  | none => rw [e6] at f5; cases f5
                  | some eb7 =>
                    rw [e6] at f5
                    obtain ⟨eo7, hu7, rb7, ro7, os7, k1, k2, n7, nb7⟩ := back (s6.trans s7) r7 hw1 e6
                    have le := x3.le.trans (s6.trans s7)
                    obtain ⟨g7, h7, rb7'⟩ := rb7.regh (.lst (aV5 ++ [v7])) k2 nb7
                    exact ⟨aV5, k1, by rw [aA5.length]; exact hl, F7, eb7, eo7, g7, aV5 ++ [v7], aD5 ++ [yd], s5.trans le, h7, rb7', hu7, ro7.scratch _ k2 n7 n0, os7, upd_same, (aA5.mono le).append (.one hv7), k2, n7, f5⟩
                · cases f5
  · have e1 : j = ds1.length := by omega
    rw [List.drop_of_length_le (by omega)] at f5
    have f5 : Rs.ok eb5 aD5 = Rs.ok en4 acc' := f5
    cases f5
    exact .inl ⟨j2 (by omega), fin F5 H eo5 aV5 s5 hu5 ro5 eL5 aA5 nF5 nO5⟩
/-- the reading of a comprehension of two clauses -/
theorem comp_tLc2 (hsub : ∀ i ∈ ts, i ∈ own.map (·.2)) (hv : ∀ i ∈ vs1, i ∈ own.map (·.2)) (hsub1 : ∀ i ∈ ts1, i ∈ vs1) {σ : St} {H : Hp} {Q : VK} (h : liftO X.K g W (oComp2 (own.map (·.2)) vs1 it t tt it1 t1 tt1 el) σ H Q) :
    tLc2 (liftI X.K g W it) (fun v σ H Q => ∃ g', liftG X.K g' t ts v σ H Q) (fun σ H Q => ∃ g', liftT X.K g' (W0 X.K X.mg) tt σ H Q) (fun σ H R => ∃ g', liftI X.K g' (W0 X.K X.mg) it1 σ H R) (fun v σ H Q => ∃ g', liftG X.K g' t1 ts1 v σ H Q) (fun σ H Q => ∃ g', liftT X.K g' (W0 X.K X.mg) tt1 σ H Q) (fun σ H Q => ∃ g', liftE X.K g' (W0 X.K X.mg) el σ H Q) (own.map (·.2)) vs1 σ H Q := by
  obtain ⟨F, en, rp, f⟩ := h
  refine ⟨F, en, rp, (Fin.seq f).mono fun F1 H1 en1 ds s1 r1 f1 J hJ L hL => ?_⟩
  generalize hvs : own.map (·.2) = vs at f1 hsub hv ⊢
  have z0 := r1.fresh hL (d := .list []) (.lst (vs := []) (ds := []) upd_same .nil)
  refine ⟨fun i m H => m = ds.length - i ∧ i ≤ ds.length ∧ ∃ F2 en2 aV aD, Same F1 F2 ∧ Rep X.K g F2 en2 σ H ∧ H L = some (.lst aV) ∧ DvAll X.K F2 aV aD ∧ F2 L = none ∧ g.H0 L = none ∧ ¬ IsOwn en2 σ L ∧
    Fin X.K g W σ F2 (compL2 vs vs1 t tt it1 t1 tt1 el (ds.drop i) en2 aD) (fun F' _ en' d => ∀ p H'', Rep X.K g F' en' σ H'' → New X.K g F' H'' en' σ p d → Q (.ref p) H''),
    ⟨ds.length, by simp, Nat.zero_le _, F1, en1, [], [], Same.refl _, z0.1, upd_same, .nil, z0.2.nf, z0.2.nh, z0.2.no, f1⟩, ?_⟩
  rintro i m H ⟨rfl, hi, F2, en2, aV, aD, s2, r2, eL, aA, nF, n0, nO, f2⟩
  obtain ⟨j1, j2⟩ := hJ i F2 H s2 r2.fz trivial
  by_cases hlt : i < ds.length
  · have e1 : ds[i]? = some ds[i] := List.getElem?_eq_getElem hlt
    obtain ⟨g1, g2⟩ := j1 _ e1
    have ed : ds.drop i = ds[i] :: ds.drop (i + 1) := List.drop_eq_getElem_cons hlt
    rw [ed] at f2
    unfold compL2 at f2
    refine .inr ⟨g1, fun H' => ∃ F5 en5 aV aD, Same F1 F5 ∧ Rep X.K g F5 en5 σ H' ∧ H' L = some (.lst aV) ∧ DvAll X.K F5 aV aD ∧ F5 L = none ∧ g.H0 L = none ∧ ¬ IsOwn en5 σ L ∧
      Fin X.K g W σ F5 (compL2 vs vs1 t tt it1 t1 tt1 el (ds.drop (i + 1)) en5 aD) (fun F' _ en' d => ∀ p H'', Rep X.K g F' en' σ H'' → New X.K g F' H'' en' σ p d → Q (.ref p) H''),
      fun H' z => ⟨ds.length - (i + 1), by omega, rfl, hlt, z⟩, fun v H' y => ?_⟩
    obtain ⟨F3, x3, q3⟩ := g2 v H' y
    have r3 := r2.ext x3
    have eL3 : H' L = some (.lst aV) := x3.same _ _ eL
    have nF3 : F3 L = none := x3.new L nF (by rw [eL]; exact fun z => by cases z)
    cases e2 : wipeE en2 vs with
    | none => rw [e2] at f2; exact f2.elim
    | some en0 =>
      rw [e2] at f2
      dsimp only at f2
      cases e3 : t ds[i] en0 with
      | none => rw [e3] at f2; exact f2.elim
      | some en3 =>
        rw [e3] at f2
        dsimp only at f2
        obtain ⟨gh, hh, rh⟩ := r3.here
        have hs : Sub g { gh with Pl := g.Pl, Rw := g.Rw } F3 H' en2 σ := ⟨hh.f0, hh.h0, hh.ps, rfl, rfl⟩
        have geta : gh = { ({ gh with Pl := g.Pl, Rw := g.Rw } : Gh) with Pl := [], Rw := [] } := hh.eta
        have rb := r3.block hs e2 rfl
        rw [← geta] at rb
        refine ⟨gh, F3, en0, ds[i], en3, rb, q3, e3, fun σ' r' b => ?_⟩
        have hw : wipe σ' vs = wipe σ vs := wipe_same ⟨b.1, fun k hk => b.2 k fun z => hk (hsub k z)⟩
        refine ⟨hw, gh, F3, en3, r', ?_⟩
        cases e4 : tt en3 with
        | no => rw [e4] at f2; exact f2.elim
        | ex en4 x => rw [e4] at f2; exact f2.elim
        | ok en4 k =>
          rw [e4] at f2
          intro F4 H4 s4 r4
          cases k with
          | false =>
            dsimp only at f2
            rw [if_neg Bool.false_ne_true]
            cases e5 : unw en2 en4 with
            | none => rw [e5] at f2; exact f2.elim
            | some en5 =>
              rw [e5] at f2
              obtain ⟨k1, k2⟩ := hh.keep eL3 nF3 nO r4
              exact ⟨F4, en5, aV, aD, s2.trans (x3.le.trans s4), r3.unblock hs (wipeE_own e2) geta r4 hw s4 e5, k1, aA.mono (x3.le.trans s4), k2, n0, fun z => nO (isOwn_unw e5 z), Fin.weak (x3.le.trans s4) f2⟩
          | true =>
            dsimp only at f2
            rw [if_pos rfl]
            refine ⟨gh, F4, en4, r4, ?_⟩
            cases e5 : it1 en4 with
            | no => rw [e5] at f2; exact f2.elim
            | ex en5 x => rw [e5] at f2; exact f2.elim
            | ok en5 ds1 =>
              rw [e5] at f2
              dsimp only at f2
              split at f2
              · rename_i hos
                cases e6 : unw en2 en5 with
                | none => rw [e6] at f2; exact f2.elim
                | some eo =>
                  rw [e6] at f2
                  dsimp only at f2
                  cases e7 : compIn vs1 t1 tt1 el ds1 en5 aD with
                  | no => rw [e7] at f2; exact f2.elim
                  | ex en6 x => rw [e7] at f2; exact f2.elim
                  | ok en6 acc' =>
                    rw [e7] at f2
                    dsimp only at f2
                    cases e8 : unw en2 en6 with
                    | none => rw [e8] at f2; exact f2.elim
                    | some en7 =>
                      rw [e8] at f2
                      intro F5 H5 s5 r5 J1 hJ1
                      have le := x3.le.trans (s4.trans s5)
                      have ro := r3.unblock hs (wipeE_own e2) geta r5 hw (s4.trans s5) e6
                      obtain ⟨k1, k2⟩ := hh.keep eL3 nF3 nO r5
                      obtain ⟨gb, hb, rb5⟩ := r5.here
                      refine inner_walk (X := X) (g := g) (vs := vs) hv hsub1 hw (wipeE_own e2) (fun k b d e => ownSub_at hos k b d e) hJ1 hb rb5 e6 ro k1 (aA.mono le) k2 n0 (fun z => nO (isOwn_unw e6 z)) e7 fun F6 H6 eo6 aV6 s6 hu6 r6 l1 l2 l3 l4 => ?_
                      rw [e8] at hu6
                      cases hu6
                      exact ⟨F6, en7, aV6, acc', s2.trans (le.trans s6), r6, l1, l2, l3, n0, l4, Fin.weak (le.trans s6) f2⟩
              · exact f2.elim
  · have e1 : i = ds.length := by omega
    rw [List.drop_of_length_le (by omega)] at f2
    exact .inl ⟨j2 (by omega), f2 F2 H (Same.refl _) r2 L H r2 (.list eL aA nF n0 nO)⟩
theorem do_comp2 (hc : X.calm = true) (hN : X.N.Nodup) (hi : DI X g W tg iter it) (ok : BlkOk X.N X.env.scope scope own) (hsub : ∀ i ∈ ts, i ∈ own.map (·.2)) (hv : ∀ i ∈ vs1, i ∈ own.map (·.2)) (hsub1 : ∀ i ∈ ts1, i ∈ vs1)
    (hg : ∀ (s : Shared) (H : Hp) (C : Addr) (cl : List (Str × Addr)) (fp : List Addr) (g' : Gh), DG (X.blk s H scope (compEnvC scope cl C X.env) fp) g' tg t ts)
    (ht : ∀ (s : Shared) (H : Hp) (C : Addr) (cl : List (Str × Addr)) (fp : List Addr) (g' : Gh), DTs (X.blk s H scope (compEnvC scope cl C X.env) fp) g' (W0 X.K X.mg) ifs tt)
    (hi1 : ∀ (s : Shared) (H : Hp) (C : Addr) (cl : List (Str × Addr)) (fp : List Addr) (g' : Gh), DI (X.blk s H scope (compEnvC scope cl C X.env) fp) g' (W0 X.K X.mg) tg1 iter1 it1)
    (hg1 : ∀ (s : Shared) (H : Hp) (C : Addr) (cl : List (Str × Addr)) (fp : List Addr) (g' : Gh), DG (X.blk s H scope (compEnvC scope cl C X.env) fp) g' tg1 t1 ts1)
    (ht1 : ∀ (s : Shared) (H : Hp) (C : Addr) (cl : List (Str × Addr)) (fp : List Addr) (g' : Gh), DTs (X.blk s H scope (compEnvC scope cl C X.env) fp) g' (W0 X.K X.mg) ifs1 tt1)
    (he : ∀ (s : Shared) (H : Hp) (C : Addr) (cl : List (Str × Addr)) (fp : List Addr) (g' : Gh), DE (X.blk s H scope (compEnvC scope cl C X.env) fp) g' (W0 X.K X.mg) elt el)
    (hs : ∀ x, foldedSetIterable iter X.env x = pure x := by intro _; rfl) (hs1 : ∀ env x, foldedSetIterable iter1 env x = pure x := by intro _ _; rfl) : DO X g W (.ListComp elt [⟨tg, iter, ifs, 0⟩, ⟨tg1, iter1, ifs1, 0⟩] scope pos) (oComp2 (own.map (·.2)) vs1 it t tt it1 t1 tt1 el) := by
  refine PE.imp (pe_lc2 (vs1 := vs1) (g := fun v σ H Q => ∃ g', liftG X.K g' t ts v σ H Q) (tt := fun σ H Q => ∃ g', liftT X.K g' (W0 X.K X.mg) tt σ H Q) (wi1 := fun σ H R => ∃ g', liftI X.K g' (W0 X.K X.mg) it1 σ H R) (g1 := fun v σ H Q => ∃ g', liftG X.K g' t1 ts1 v σ H Q) (tt1 := fun σ H Q => ∃ g', liftT X.K g' (W0 X.K X.mg) tt1 σ H Q) (te := fun σ H Q => ∃ g', liftE X.K g' (W0 X.K X.mg) el σ H Q) hc hN hi ok hv
    (fun s H C cl fp => ⟨fun pins s' σ H v u Q I r ⟨g', q⟩ => (hg s _ C cl fp g').run pins s' σ H v u Q I r q⟩) (fun s H C cl fp => ⟨fun pins s' σ H Q I ⟨g', q⟩ => (ht s _ C cl fp g').run pins s' σ H Q I q⟩)
    (fun s H C cl fp => ⟨fun pins s' σ H R I ⟨g', q⟩ => (hi1 s _ C cl fp g').run pins s' σ H R I q⟩)
    (fun s H C cl fp => ⟨fun pins s' σ H v u Q I r ⟨g', q⟩ => (hg1 s _ C cl fp g').run pins s' σ H v u Q I r q⟩) (fun s H C cl fp => ⟨fun pins s' σ H Q I ⟨g', q⟩ => (ht1 s _ C cl fp g').run pins s' σ H Q I q⟩)
    (fun s H C cl fp => ⟨fun pins s' σ H Q I ⟨g', q⟩ => (he s _ C cl fp g').run pins s' σ H Q I q⟩) hs hs1) fun σ H Q h => comp_tLc2 hsub hv hsub1 h
end
end DL
/-! Ddict: dicts as data. -/
namespace DL
open PySem PySem.Spec L2
open PyProof.Rows hiding St

def keyOf : D → Option Key
  | .int i => some (.inl i)
  | .str x => some (.inr x)
  | _ => none
def keyEq : D → D → Bool
  | .int i, .int j => i == j
  | .str i, .str j => i == j
  | _, _ => false
/-- a key is put -/
def putP (ps : List (D × D)) (k d : D) : List (D × D) := if (ps.any fun q => keyEq q.1 k) = true then ps.map (fun q => if keyEq q.1 k = true then (q.1, d) else q) else ps ++ [(k, d)]
theorem keyOf_eq {d : D} {k : Key} (h : keyOf d = some k) : d = keyD k := by
  cases d <;> cases h <;> rfl
theorem keyEq_key (a b : Key) : keyEq (keyD a) (keyD b) = decide (a = b) := by
  cases a <;> cases b
  · rename_i i j
    show (i == j) = _
    rw [Bool.eq_iff_iff]
    simp
  · rfl
  · rfl
  · rename_i i j
    show (i == j) = _
    rw [Bool.eq_iff_iff]
    simp
/-- what a dict holds -/
inductive DvKV (K : PySem.W.Frag) (F : Hp) : List (Key × V) → List (D × D) → Prop
  | nil : DvKV K F [] []
  | cons {k : Key} {v : V} {d : D} {kvs : List (Key × V)} {ps : List (D × D)} : Dv K F v d → DvKV K F kvs ps → DvKV K F ((k, v) :: kvs) ((keyD k, d) :: ps)
section
variable {K : PySem.W.Frag} {F F' H : Hp}
theorem DvKV.mono (s : Same F F') : ∀ {kvs : List (Key × V)} {ps : List (D × D)}, DvKV K F kvs ps → DvKV K F' kvs ps
  | _, _, .nil => .nil
  | _, _, .cons a b => .cons (a.mono s) (DvKV.mono s b)
theorem DvKV.split : ∀ {kvs : List (Key × V)} {ps : List (D × D)}, DvKV K F kvs ps → ∃ ds, DvAll K F (kvs.map (·.2)) ds ∧ (kvs.map fun p => keyD p.1).zip ds = ps
  | _, _, .nil => ⟨[], .nil, rfl⟩
  | _, _, .cons a b => by
    obtain ⟨ds, h1, h2⟩ := DvKV.split b
    exact ⟨_ :: ds, .cons a h1, by rw [List.map_cons, List.zip_cons_cons, h2]⟩
theorem DvKV.of : ∀ {kvs : List (Key × V)} {ds : List D}, DvAll K F (kvs.map (·.2)) ds → DvKV K F kvs ((kvs.map fun p => keyD p.1).zip ds)
  | [], _, h => by cases h; exact .nil
  | (k, v) :: r, _, h => by
    cases h with
    | cons a b => exact .cons a (DvKV.of b)
theorem DvKV.length : ∀ {kvs : List (Key × V)} {ps : List (D × D)}, DvKV K F kvs ps → kvs.length = ps.length
  | _, _, .nil => rfl
  | _, _, .cons _ b => congrArg (· + 1) (DvKV.length b)
theorem DvKV.any {k : Key} : ∀ {kvs : List (Key × V)} {ps : List (D × D)}, DvKV K F kvs ps → (kvs.any fun q => decide (q.1 = k)) = ps.any fun q => keyEq q.1 (keyD k)
  | _, _, .nil => rfl
  | _, _, .cons a b => by
    rw [List.any_cons, List.any_cons, keyEq_key, DvKV.any b]
theorem DvKV.mapPut {k : Key} {v : V} {d : D} (h : Dv K F v d) : ∀ {kvs : List (Key × V)} {ps : List (D × D)}, DvKV K F kvs ps → DvKV K F (kvs.map fun kv => if kv.1 = k then (kv.1, v) else kv) (ps.map fun q => if keyEq q.1 (keyD k) = true then (q.1, d) else q)
  | _, _, .nil => .nil
  | _, _, .cons (k := k') a b => by
    rw [List.map_cons, List.map_cons, keyEq_key]
    by_cases e : k' = k
    · rw [if_pos e, if_pos (decide_eq_true e)]
      exact .cons h (DvKV.mapPut h b)
    · rw [if_neg e, if_neg (by rw [decide_eq_false e]; exact Bool.false_ne_true)]
      exact .cons a (DvKV.mapPut h b)
theorem DvKV.append : ∀ {kvs kvs' : List (Key × V)} {ps ps' : List (D × D)}, DvKV K F kvs ps → DvKV K F kvs' ps' → DvKV K F (kvs ++ kvs') (ps ++ ps')
  | _, _, _, _, .nil, h => h
  | _, _, _, _, .cons a b, h => .cons a (DvKV.append b h)
theorem DvKV.put {k : Key} {v : V} {d : D} (h : Dv K F v d) {kvs : List (Key × V)} {ps : List (D × D)} (a : DvKV K F kvs ps) : DvKV K F (putK kvs k v) (putP ps (keyD k) d) := by
  unfold putK putP
  rw [a.any (k := k)]
  split
  · exact a.mapPut h
  · exact a.append (.cons h .nil)
theorem DvKV.own {kvs : List (Key × V)} {ps : List (D × D)} {p : Addr} (a : DvKV K F kvs ps) (e : H p = some (.dK kvs)) : OwnAt K F H p (.dict ps) := by
  obtain ⟨ds, h1, h2⟩ := a.split
  rw [← h2]
  exact .dct e h1
theorem DvKV.dv {kvs : List (Key × V)} {ps : List (D × D)} {p : Addr} (a : DvKV K F kvs ps) (e : F p = some (.dK kvs)) : Dv K F (.ref p) (.dict ps) := by
  obtain ⟨ds, h1, h2⟩ := a.split
  rw [← h2]
  exact .dct e h1
end

/-! ### dict comprehensions -/
def compD (vs : List Nat) (tg : Tg) (tt : Tv) (ek ev : Ev) : List D → En → List (D × D) → Rs D
  | [], en, acc => .ok en (.dict acc)
  | d :: ds, en, acc => match wipeE en vs with
    | none => .no
    | some en0 => (match tg d en0 with
      | none => .no
      | some en1 => (match tt en1 with
        | .ok en2 false => (match unw en en2 with
          | some en4 => compD vs tg tt ek ev ds en4 acc
          | none => .no)
        | .ok en2 true => (match ek en2 with
          | .ok en3 (.d y) => (match keyOf y with
            | some _ => (match ev en3 with
              | .ok en5 (.d z) => if acc.length < sizeLine then (match unw en en5 with
                | some en4 => compD vs tg tt ek ev ds en4 (putP acc y z)
                | none => .no) else .no
              | _ => .no)
            | none => .no)
          | _ => .no)
        | _ => .no))
def oCompD (vs : List Nat) (it : Iv) (tg : Tg) (tt : Tv) (ek ev : Ev) : Ov := fun en => (it en).bind fun en1 ds => compD vs tg tt ek ev ds en1 []
section
variable {X : Cx} {g : Gh} {W : XW} {kx vx tg iter : Expr} {ifs : List Expr} {scope : Scope} {own : List (Str × Nat)} {pos : Pos} {it : Iv} {t : Tg} {ts : List Nat} {tt : Tv} {ek ev : Ev}
theorem comp_tDc (hsub : ∀ i ∈ ts, i ∈ own.map (·.2)) {σ : St} {H : Hp} {Q : VK} (h : liftO X.K g W (oCompD (own.map (·.2)) it t tt ek ev) σ H Q) :
    tDc (liftI X.K g W it) (fun v σ H Q => ∃ g', liftG X.K g' t ts v σ H Q) (fun σ H Q => ∃ g', liftT X.K g' (W0 X.K X.mg) tt σ H Q) (fun σ H Q => ∃ g', liftE X.K g' (W0 X.K X.mg) ek σ H Q) (fun σ H Q => ∃ g', liftE X.K g' (W0 X.K X.mg) ev σ H Q) (own.map (·.2)) σ H Q := by
  obtain ⟨F, en, rp, f⟩ := h
  refine ⟨F, en, rp, (Fin.seq f).mono fun F1 H1 en1 ds s1 r1 f1 J hJ L hL => ?_⟩
  generalize hvs : own.map (·.2) = vs at f1 hsub ⊢
  have z0 := r1.fresh hL (d := .dict []) (OwnAt.dct (kvs := []) (ds := []) upd_same .nil)
  refine ⟨fun i m H => m = ds.length - i ∧ i ≤ ds.length ∧ ∃ F2 en2 aV aD, Same F1 F2 ∧ Rep X.K g F2 en2 σ H ∧ H L = some (.dK aV) ∧ DvKV X.K F2 aV aD ∧ F2 L = none ∧ g.H0 L = none ∧ ¬ IsOwn en2 σ L ∧
    Fin X.K g W σ F2 (compD vs t tt ek ev (ds.drop i) en2 aD) (fun F' _ en' d => ∀ p H'', Rep X.K g F' en' σ H'' → New X.K g F' H'' en' σ p d → Q (.ref p) H''),
    ⟨ds.length, by simp, Nat.zero_le _, F1, en1, [], [], Same.refl _, z0.1, upd_same, .nil, z0.2.nf, z0.2.nh, z0.2.no, f1⟩, ?_⟩
  rintro i m H ⟨rfl, hi, F2, en2, aV, aD, s2, r2, eL, aA, nF, n0, nO, f2⟩
  obtain ⟨j1, j2⟩ := hJ i F2 H s2 r2.fz trivial
  by_cases hlt : i < ds.length
  · have e1 : ds[i]? = some ds[i] := List.getElem?_eq_getElem hlt
    obtain ⟨g1, g2⟩ := j1 _ e1
    have ed : ds.drop i = ds[i] :: ds.drop (i + 1) := List.drop_eq_getElem_cons hlt
    rw [ed] at f2
    unfold compD at f2
    refine .inr ⟨g1, fun H' => ∃ F5 en5 aV aD, Same F1 F5 ∧ Rep X.K g F5 en5 σ H' ∧ H' L = some (.dK aV) ∧ DvKV X.K F5 aV aD ∧ F5 L = none ∧ g.H0 L = none ∧ ¬ IsOwn en5 σ L ∧
      Fin X.K g W σ F5 (compD vs t tt ek ev (ds.drop (i + 1)) en5 aD) (fun F' _ en' d => ∀ p H'', Rep X.K g F' en' σ H'' → New X.K g F' H'' en' σ p d → Q (.ref p) H''),
      fun H' z => ⟨ds.length - (i + 1), by omega, rfl, hlt, z⟩, fun v H' y => ?_⟩
    obtain ⟨F3, x3, q3⟩ := g2 v H' y
    have r3 := r2.ext x3
    have eL3 : H' L = some (.dK aV) := x3.same _ _ eL
    have nF3 : F3 L = none := x3.new L nF (by rw [eL]; exact fun z => by cases z)
    cases e2 : wipeE en2 vs with
    | none => rw [e2] at f2; exact f2.elim
    | some en0 =>
      rw [e2] at f2
      dsimp only at f2
      cases e3 : t ds[i] en0 with
      | none => rw [e3] at f2; exact f2.elim
      | some en3 =>
        rw [e3] at f2
        dsimp only at f2
        obtain ⟨gh, hh, rh⟩ := r3.here
        have hs : Sub g { gh with Pl := g.Pl, Rw := g.Rw } F3 H' en2 σ := ⟨hh.f0, hh.h0, hh.ps, rfl, rfl⟩
        have geta : gh = { ({ gh with Pl := g.Pl, Rw := g.Rw } : Gh) with Pl := [], Rw := [] } := hh.eta
        have rb := r3.block hs e2 rfl
        rw [← geta] at rb
        refine ⟨gh, F3, en0, ds[i], en3, rb, q3, e3, fun σ' r' b => ?_⟩
        have hw : wipe σ' vs = wipe σ vs := wipe_same ⟨b.1, fun k hk => b.2 k fun z => hk (hsub k z)⟩
        refine ⟨hw, gh, F3, en3, r', ?_⟩
        cases e4 : tt en3 with
        | no => rw [e4] at f2; exact f2.elim
        | ex en4 x => rw [e4] at f2; exact f2.elim
        | ok en4 k =>
          rw [e4] at f2
          intro F4 H4 s4 r4
          cases k with
          | false =>
            dsimp only at f2
            rw [if_neg Bool.false_ne_true]
            cases e5 : unw en2 en4 with
            | none => rw [e5] at f2; exact f2.elim
            | some en5 =>
              rw [e5] at f2
              obtain ⟨k1, k2⟩ := hh.keep eL3 nF3 nO r4
              exact ⟨F4, en5, aV, aD, s2.trans (x3.le.trans s4), r3.unblock hs (wipeE_own e2) geta r4 hw s4 e5, k1, aA.mono (x3.le.trans s4), k2, n0, fun z => nO (isOwn_unw e5 z), Fin.weak (x3.le.trans s4) f2⟩
          | true =>
            dsimp only at f2
            rw [if_pos rfl]
            refine ⟨gh, F4, en4, r4, ?_⟩
            cases e5 : ek en4 with
            | no => rw [e5] at f2; exact f2.elim
            | ex en5 x => rw [e5] at f2; exact f2.elim
            | ok en5 rv =>
              rw [e5] at f2
              cases rv with
              | s i => exact f2.elim
              | d y =>
                intro F5 H5 s5 r5 v5 hv5
                dsimp only at f2
                cases e6 : keyOf y with
                | none => rw [e6] at f2; exact f2.elim
                | some kk =>
                  rw [e6] at f2
                  dsimp only at f2
                  refine ⟨gh, F5, en5, r5, ?_⟩
                  cases e7 : ev en5 with
                  | no => rw [e7] at f2; exact f2.elim
                  | ex en6 x => rw [e7] at f2; exact f2.elim
                  | ok en6 rz =>
                    rw [e7] at f2
                    cases rz with
                    | s i => exact f2.elim
                    | d z =>
                      intro F6 H6 s6 r6 v6 hv6
                      dsimp only at f2
                      split at f2
                      · rename_i hl
                        cases e8 : unw en2 en6 with
                        | none => rw [e8] at f2; exact f2.elim
                        | some en7 =>
                          rw [e8] at f2
                          have ek := keyOf_eq e6
                          subst ek
                          obtain ⟨k1, k2⟩ := hh.keep eL3 nF3 nO r6
                          have le := x3.le.trans (s4.trans (s5.trans s6))
                          have r8 := r3.unblock hs (wipeE_own e2) geta r6 hw (s4.trans (s5.trans s6)) e8
                          have n8 : ¬ IsOwn en7 σ L := fun z => nO (isOwn_unw e8 z)
                          have ekv : v5 = kV kk := by
                            have h5 : Dv X.K F5 v5 (keyD kk) := hv5
                            cases kk <;> cases h5 <;> rfl
                          refine ⟨aV, kk, ekv, k1, by rw [aA.length]; exact hl, F6, en7, putK aV kk v6, putP aD (keyD kk) z, s2.trans le, r8.scratch _ k2 n8 n0, upd_same, (aA.mono le).put hv6, k2, n0, n8, Fin.weak le f2⟩
                      · exact f2.elim
  · have e1 : i = ds.length := by omega
    rw [List.drop_of_length_le (by omega)] at f2
    exact .inl ⟨j2 (by omega), f2 F2 H (Same.refl _) r2 L H r2 ⟨aA.own eL, nF, n0, nO⟩⟩
theorem do_dc (hc : X.calm = true) (hN : X.N.Nodup) (hi : DI X g W tg iter it) (ok : BlkOk X.N X.env.scope scope own) (hsub : ∀ i ∈ ts, i ∈ own.map (·.2))
    (hg : ∀ (s : Shared) (H : Hp) (C : Addr) (cl : List (Str × Addr)) (fp : List Addr) (g' : Gh), DG (X.blk s H scope (compEnvC scope cl C X.env) fp) g' tg t ts)
    (ht : ∀ (s : Shared) (H : Hp) (C : Addr) (cl : List (Str × Addr)) (fp : List Addr) (g' : Gh), DTs (X.blk s H scope (compEnvC scope cl C X.env) fp) g' (W0 X.K X.mg) ifs tt)
    (hk : ∀ (s : Shared) (H : Hp) (C : Addr) (cl : List (Str × Addr)) (fp : List Addr) (g' : Gh), DE (X.blk s H scope (compEnvC scope cl C X.env) fp) g' (W0 X.K X.mg) kx ek)
    (he : ∀ (s : Shared) (H : Hp) (C : Addr) (cl : List (Str × Addr)) (fp : List Addr) (g' : Gh), DE (X.blk s H scope (compEnvC scope cl C X.env) fp) g' (W0 X.K X.mg) vx ev)
    (hs : ∀ x, foldedSetIterable iter X.env x = pure x := by intro _; rfl) : DO X g W (.DictComp kx vx [⟨tg, iter, ifs, 0⟩] scope pos) (oCompD (own.map (·.2)) it t tt ek ev) := by
  refine PE.imp (pe_dc (g := fun v σ H Q => ∃ g', liftG X.K g' t ts v σ H Q) (tt := fun σ H Q => ∃ g', liftT X.K g' (W0 X.K X.mg) tt σ H Q) (tk := fun σ H Q => ∃ g', liftE X.K g' (W0 X.K X.mg) ek σ H Q) (tv := fun σ H Q => ∃ g', liftE X.K g' (W0 X.K X.mg) ev σ H Q) hc hN hi ok
    (fun s H C cl fp => ⟨fun pins s' σ H v u Q I r ⟨g', q⟩ => (hg s _ C cl fp g').run pins s' σ H v u Q I r q⟩) (fun s H C cl fp => ⟨fun pins s' σ H Q I ⟨g', q⟩ => (ht s _ C cl fp g').run pins s' σ H Q I q⟩)
    (fun s H C cl fp => ⟨fun pins s' σ H Q I ⟨g', q⟩ => (hk s _ C cl fp g').run pins s' σ H Q I q⟩)
    (fun s H C cl fp => ⟨fun pins s' σ H Q I ⟨g', q⟩ => (he s _ C cl fp g').run pins s' σ H Q I q⟩) hs) fun σ H Q h => comp_tDc hsub h
end

/-! ### sorted(d), keys that are ints -/
def sSortedD : List D → Option D
  | [.dict ps] => match intsD (ps.map (·.1)) with
    | some ns => if ns.length < 64 then some (.list ((ns.mergeSort fun a b => decide (a ≤ b)).map .int)) else none
    | none => none
  | _ => none
def sSorted2 (ds : List D) : Option D := match sSorted ds with
  | some d => some d
  | none => sSortedD ds
def rSortDI : List V → Hp → VK → Prop := fun xs H Q => ∃ (a : Addr) (kvs : List (Key × V)) (ks : List Int), xs = [.ref a] ∧ Rd H a (.dK kvs) ∧ kvs.map (·.1) = ks.map Sum.inl ∧ ks.length < 64 ∧
    ∀ (ys : List Int) (p : Addr), ys.Perm ks → ys.Pairwise (· ≤ ·) → H p = none → Q (.ref p) (upd H p (.lst (ys.map V.int)))
theorem DvKV.keys {K : PySem.W.Frag} {F : Hp} : ∀ {kvs : List (Key × V)} {ps : List (D × D)} {ns : List Int}, DvKV K F kvs ps → ps.map (·.1) = ns.map PyData.int → kvs.map (·.1) = ns.map Sum.inl
  | _, _, [], .nil, _ => rfl
  | _, _, n :: r, .cons (k := k) a b, e => by
    rw [List.map_cons, List.map_cons] at e
    injection e with e1 e2
    cases k with
    | inl i =>
      cases e1
      rw [List.map_cons, List.map_cons, DvKV.keys b e2]
    | inr x => cases e1
  | _, _, [], .cons _ _, e => by cases e
  | _, _, _ :: _, .nil, e => by cases e
theorem vw_dict {K : PySem.W.Frag} {F H : Hp} {v : V} {ps : List (D × D)} (s : Same F H) (h : Vw K F H v (.dict ps)) : (∃ (a : Addr) (kvs : List (Key × V)), v = .ref a ∧ H a = some (.dK kvs) ∧ DvKV K F kvs ps) ∨ (∃ ns : List Int, ps = [(.none, .list (ns.map PyData.int))]) ∨ ∃ (a : Addr) (kvs : List (List Key × V)) (ds : List D), v = .ref a ∧ H a = some (.dT kvs) ∧ DvAll K F (kvs.map (·.2)) ds ∧ ps = (.none, .bool true) :: (kvs.map fun p => PyData.tuple (p.1.map keyD)).zip ds := by
  cases h with
  | fz h =>
    cases h with
    | scr q => exact .inr (.inl ⟨_, rfl⟩)
    | dct q a => exact .inl ⟨_, _, rfl, s _ _ q, DvKV.of a⟩
    | dctT q a => exact .inr (.inr ⟨_, _, _, rfl, s _ _ q, a, rfl⟩)
  | own h _ =>
    cases h with
    | dct q a => exact .inl ⟨_, _, rfl, q, DvKV.of a⟩
    | dctT q a => exact .inr (.inr ⟨_, _, _, rfl, q, a, rfl⟩)
theorem se_sortedD {K : PySem.W.Frag} : SemN K rSortDI sSortedD := by
  intro F H vs ds c Q s hv hs g
  unfold sSortedD at hs
  split at hs
  · rename_i ps
    split at hs
    · rename_i ns e1
      split at hs
      · rename_i hl
        cases hs
        obtain ⟨v, rfl, q⟩ := vwAll1 hv
        have ek := intsD_eq e1
        rcases vw_dict s q with ⟨a, kvs, rfl, q1, kv⟩ | ⟨ms, rfl⟩ | ⟨a, kvs, es, rfl, q1, al, rfl⟩
        · refine ⟨a, kvs, ns, rfl, .inl q1, kv.keys ek, hl, fun ys p hp hw hn => ?_⟩
          have e2 := PySem.W.os_sorted_mergeSort hp hw
          rw [e2]
          exact give_lst s g (DvAll.ints _) p hn
        · cases ns with
          | nil => cases ek
          | cons n r => cases ek
        · cases ns with
          | nil => cases ek
          | cons n r => cases ek
      · cases hs
    · cases hs
  · cases hs
theorem CallR.imp {X : Cx} {f : Value} {r r' : List V → Hp → VK → Prop} (h : CallR X f r) (i : ∀ xs H Q, r' xs H Q → r xs H Q) : CallR X f r' := fun pins s σ H xs us Q I rx q => h pins s σ H xs us Q I rx (i _ _ _ q)
theorem cr_sorted2 {X : Cx} (hc : X.calm = true) (hu : X.A.units + 64 < cLine) : CallR X (.builtin "sorted") (fun xs H Q => rSortD X.K xs H Q ∨ rSortDI xs H Q) := CallR.or (cr_sortD hu) (call_sortedDI hc)
theorem se_sorted2 {K : PySem.W.Frag} : SemN K (fun xs H Q => rSortD K xs H Q ∨ rSortDI xs H Q) sSorted2 := by
  intro F H vs ds c Q s hv hs g
  unfold sSorted2 at hs
  split at hs
  · rename_i d e
    cases hs
    exact .inl (se_sorted F H vs ds _ Q s hv e g)
  · exact .inr (se_sortedD F H vs ds c Q s hv hs g)
theorem b_sorted2 {X : Cx} {g : Gh} {W : XW} {pos p : Pos} {a : Expr} {av : Av} {k : Nat} (hc : X.calm = true) (hr : Room k X.A) (B : Bt X.mg) (ha : DA X g W [a] av) (hg : Gl X "sorted" := by rfl) (he : starEach [a] X.env = (false, eval a X.env) :: starEach [] X.env := by rfl) (hpl : (backTo pos (starEach [] X.env)).any (·.1) = false := by rfl) : DE X g W (.Call (.Name "sorted" p) [a] [] pos) (dCallB sSorted2 av) := de_callB (cr_sorted2 hc (u64 hr)) se_sorted2 hg B.sorted (by decide +kernel) ha (by decide) (by decide) he hpl
end DL
/-! Dl15: what leaves a def's body. -/
namespace DL
open PySem PySem.Spec L2
open PyProof.Rows hiding St
theorem takesF {P : Program} {w : World} {K : PySem.W.Frag} {mg : Str → Option Value} {base : Heap} {N : List Str} {qual : Str} {sc : Scope} {f : Addr} {cdv : Value} {A : Around} {outer : List Env} {s : Shared} {H : Hp} {E : XK} :
    Takes (cxOf (L2.CX P w) P w K mg base N qual sc f cdv A outer s H E) (fun cls d _ H' => E cls d H') := takes_of rfl rfl rfl rfl
end DL
/-! Dexc: try .. except X as e; isinstance of e; calls with keywords. -/
namespace DL
open PySem PySem.Spec L2
open PyProof.Rows hiding St

section
variable {K : PySem.W.Frag} {g : Gh} {F H : Hp} {en : En} {σ : St}
/-- the exception at slot i -/
theorem Rep.putX (r : Rep K g F en σ H) {i : Nat} {a : Addr} (h : canPut en i = true) : Rep K { g with Rw := (i, a) :: g.Rw } F (en.set i .xs) (σ.set i (some (.ref a))) H ∧ ∀ k p, (k, p) ∈ g.Rw → k ≠ i := by
  obtain ⟨l1, l2⟩ := r.lt h
  have na := fun k j e => r.noAli (k := k) (j := j) h e
  have nrw : ∀ k p, (k, p) ∈ g.Rw → k ≠ i := fun k p hm w => by
    subst w
    obtain ⟨_, z2⟩ := r.rw k p hm
    unfold canPut at h
    rw [z2] at h
    cases h
  have eq1 : ∀ {k : Nat} {t : Sl}, (en.set i .xs)[k]? = some t → (k = i ∧ t = .xs) ∨ (k ≠ i ∧ en[k]? = some t) := fun {k t} e => by
    by_cases hk : k = i
    · subst hk
      rw [List.getElem?_set_self l1] at e
      exact .inl ⟨rfl, (Option.some.inj e).symm⟩
    · rw [List.getElem?_set_ne (Ne.symm hk)] at e
      exact .inr ⟨hk, e⟩
  have at2 : ∀ {k : Nat}, k ≠ i → (σ.set i (some (.ref a)))[k]? = σ[k]? := fun {k} hk => List.getElem?_set_ne (Ne.symm hk)
  refine ⟨⟨r.fz, r.fr, r.al, r.nw, by simpa using r.len, fun k d e => ?_, fun k b d e => ?_, fun k j e => ?_, fun k j b c d e' hne e1 e2 => ?_, fun k p hm => ?_, fun k p hm => ?_⟩, nrw⟩
  · rcases eq1 e with ⟨_, z⟩ | ⟨hk, z⟩
    · cases z
    · rw [at2 hk]; exact r.val k d z
  · rcases eq1 e with ⟨_, z⟩ | ⟨hk, z⟩
    · cases z
    · rw [at2 hk]; exact r.own k b d z
  · rcases eq1 e with ⟨_, z⟩ | ⟨hk, z⟩
    · cases z
    · obtain ⟨z1, b, d, z2⟩ := r.ali k j z
      have hj := na k j z
      exact ⟨by rw [at2 hk, at2 hj]; exact z1, b, d, by rw [List.getElem?_set_ne (Ne.symm hj)]; exact z2⟩
  · rcases eq1 e1 with ⟨_, z⟩ | ⟨hk, z⟩
    · cases z
    · rcases eq1 e2 with ⟨_, z2⟩ | ⟨hk2, z2⟩
      · cases z2
      · rw [at2 hk, at2 hk2]; exact r.sep k j b c d e' hne z z2
  · obtain ⟨z1, d, z2⟩ := r.pl k p hm
    have hk : k ≠ i := fun w => by
      subst w
      unfold canPut at h
      rw [z2] at h
      cases h
    exact ⟨by rw [at2 hk]; exact z1, d, by rw [List.getElem?_set_ne (Ne.symm hk)]; exact z2⟩
  · rcases List.mem_cons.mp hm with e | hm
    · cases e
      exact ⟨List.getElem?_set_self l2, List.getElem?_set_self l1⟩
    · obtain ⟨z1, z2⟩ := r.rw k p hm
      have hk := nrw k p hm
      exact ⟨by rw [at2 hk]; exact z1, by rw [List.getElem?_set_ne (Ne.symm hk)]; exact z2⟩
/-- it goes -/
theorem Rep.dropX {a : Addr} {i : Nat} (r : Rep K { g with Rw := (i, a) :: g.Rw } F en σ H) (nrw : ∀ k p, (k, p) ∈ g.Rw → k ≠ i) : Rep K g F (en.set i .un) (σ.set i none) H := by
  obtain ⟨hx1, hx2⟩ := r.rw i a List.mem_cons_self
  have l1 := (List.getElem?_eq_some_iff.mp hx2).1
  have eq1 : ∀ {k : Nat} {t : Sl}, (en.set i .un)[k]? = some t → (k = i ∧ t = .un) ∨ (k ≠ i ∧ en[k]? = some t) := fun {k t} e => by
    by_cases hk : k = i
    · subst hk
      rw [List.getElem?_set_self l1] at e
      exact .inl ⟨rfl, (Option.some.inj e).symm⟩
    · rw [List.getElem?_set_ne (Ne.symm hk)] at e
      exact .inr ⟨hk, e⟩
  have at2 : ∀ {k : Nat}, k ≠ i → (σ.set i none)[k]? = σ[k]? := fun {k} hk => List.getElem?_set_ne (Ne.symm hk)
  refine ⟨r.fz, r.fr, r.al, r.nw, by simpa using r.len, fun k d e => ?_, fun k b d e => ?_, fun k j e => ?_, fun k j b c d e' hne e1 e2 => ?_, fun k p hm => ?_, fun k p hm => ?_⟩
  · rcases eq1 e with ⟨_, z⟩ | ⟨hk, z⟩
    · cases z
    · rw [at2 hk]; exact r.val k d z
  · rcases eq1 e with ⟨_, z⟩ | ⟨hk, z⟩
    · cases z
    · rw [at2 hk]; exact r.own k b d z
  · rcases eq1 e with ⟨_, z⟩ | ⟨hk, z⟩
    · cases z
    · obtain ⟨z1, b, d, z2⟩ := r.ali k j z
      have hj : j ≠ i := fun w => by
        subst w
        rw [hx2] at z2
        cases z2
      exact ⟨by rw [at2 hk, at2 hj]; exact z1, b, d, by rw [List.getElem?_set_ne (Ne.symm hj)]; exact z2⟩
  · rcases eq1 e1 with ⟨_, z⟩ | ⟨hk, z⟩
    · cases z
    · rcases eq1 e2 with ⟨_, z2⟩ | ⟨hk2, z2⟩
      · cases z2
      · rw [at2 hk, at2 hk2]; exact r.sep k j b c d e' hne z z2
  · obtain ⟨z1, d, z2⟩ := r.pl k p hm
    have hk : k ≠ i := fun w => by
      subst w
      rw [hx2] at z2
      cases z2
    exact ⟨by rw [at2 hk]; exact z1, d, by rw [List.getElem?_set_ne (Ne.symm hk)]; exact z2⟩
  · obtain ⟨z1, z2⟩ := r.rw k p (List.mem_cons_of_mem _ hm)
    have hk := nrw k p hm
    exact ⟨by rw [at2 hk]; exact z1, by rw [List.getElem?_set_ne (Ne.symm hk)]; exact z2⟩
end

/-- a class of errors, as an except clause asks it -/
structure XCls (K : PySem.W.Frag) (mg : Str → Option Value) (x : Str) (C : Addr) : Prop where
  m : mg x = some (.ref C)
  exm : PySem.W.exmOne K (.ref C) (.ref C) = some true
  ask : ExcC K C
def bTry (nm : Str) (i : Nat) (body suite : Bd) : Bd := fun en => match body en with
  | .ex en1 x => if x.cls = nm ∧ x.fs = [] ∧ canPut en1 i = true then (match suite (en1.set i .xs) with
      | .nx e2 => .nx (e2.set i .un)
      | .rt e2 (.v d) => .rt (e2.set i .un) (.v d)
      | _ => .no) else .no
  | o => o
section
variable {X : Cx} {g : Gh} {Wh : WX} {x n : Str} {C : Addr} {i : Nat} {body suite : List Stmt} {b₀ : Stmt} {np pos pos' : Pos} {bb sb : Bd}
theorem ds_try (hs : X.stack = X.env :: X.outer) (hf : X.env.frame = some X.env.locals) (hN : X.N.Nodup) (hi : X.N[i]? = some n) (hln : X.env.kindOf n = some .local) (XC : XCls X.K X.mg x C) (hg : Gl X x) (hdb : (x == ("__debug__" : Str)) = false) (tk : Takes X Wh)
    (hb : ∀ (W : WX) (pn : List (Addr × Obj)) (xe : Value → Shared → Prop), Takes (X.tr pn xe) W → PassesOwn (model X.prog X.w) X.A X.env xe → DSs (X.tr pn xe) g (WH X.K X.mg W) body bb)
    (hsu : ∀ (a : Addr) (oe : Obj) (pn : List (Addr × Obj)) (g' : Gh), (i, a) ∈ g'.Rw → Zc (.ref C) none oe → (∃ vs, oe.data = .fields vs) → DSs (X.suite a ((a, oe) :: pn)) g' (W0 X.K X.mg) (b₀ :: suite) sb) :
    DS X g (WH X.K X.mg Wh) (.Try body [.ExceptHandler (some (.Name x np)) (some n) (b₀ :: suite) pos'] [] [] pos) (bTry x i bb sb) := by
  refine PS.imp (ps_try_as hs hf hN hi hln ⟨hg, hdb, .inl XC.m⟩ tk (tb := fun W => liftS X.K g (WH X.K X.mg W) bb) (ts := fun a cls d E σ H => cls = .ref C ∧ d = none ∧ liftS X.K { g with Rw := (i, a) :: g.Rw } (W0 X.K X.mg) sb E σ H) hb (fun a oe cls d pn hz hf => ⟨fun pins s σ H D I ⟨e1, e2, q⟩ => by
    subst e1 e2
    exact (hsu a oe pn _ List.mem_cons_self hz hf).run pins s σ H D I q⟩)) fun E σ H h => ?_
  obtain ⟨F, en, rp, f⟩ := h
  refine ⟨F, en, rp, ?_⟩
  unfold bTry at f
  cases e1 : bb en with
  | nx en1 => rw [e1] at f; exact f
  | rt en1 r => rw [e1] at f; exact f
  | bk en1 => rw [e1] at f; exact f
  | ct en1 => rw [e1] at f; exact f
  | no => rw [e1] at f; exact f
  | ex en1 xx =>
    rw [e1] at f
    dsimp only at f
    split at f
    · rename_i hc
      obtain ⟨h1, h2, h3⟩ := hc
      intro σ1 F1 H1 s1 r1 cls dx er
      obtain ⟨m1, m2⟩ := er
      have ec : cls = .ref C := by
        rw [h1, XC.m] at m1
        exact (Option.some.inj m1).symm
      subst ec
      have ed : dx = none := by
        rcases m2 with ⟨_, z⟩ | ⟨a, vs, z, _⟩
        · exact z
        · exact absurd h2 z
      subst ed
      refine ⟨true, XC.exm, fun _ a ha => ⟨rfl, rfl, ?_⟩, fun z => by cases z⟩
      obtain ⟨r2, nrw⟩ := r1.putX (a := a) h3
      refine ⟨F1, _, r2, ?_⟩
      cases e2 : sb (en1.set i .xs) with
      | nx e3 =>
        rw [e2] at f
        exact fun σ2 F2 H2 s2 r3 => f _ F2 H2 (s1.trans s2) (r3.dropX nrw)
      | rt e3 rr =>
        rw [e2] at f
        cases rr with
        | v d => exact fun v σ2 F2 H2 s2 r3 ro => f v _ F2 H2 (s1.trans s2) (r3.dropX nrw) ro
        | o d => exact f.elim
      | bk e3 => rw [e2] at f; exact f.elim
      | ct e3 => rw [e2] at f; exact f.elim
      | ex e3 x3 => rw [e2] at f; exact f.elim
      | no => rw [e2] at f; exact f.elim
    · exact f.elim
/-- isinstance(e, Y) of the exception that the suite holds -/
def xIsE (i : Nat) (b : Bool) : Ev := fun en => match en[i]? with
  | some .xs => .ok en (.d (.bool b))
  | _ => .no
theorem de_isE {a : Addr} {oe : Obj} {pn : List (Addr × Obj)} {W : XW} {y : Str} {C2 : Addr} {b : Bool} {p p1 p2 : Pos} (hm : (i, a) ∈ g.Rw) (XC : XCls X.K X.mg x C) (hz : Zc (.ref C) none oe) (hf : ∃ vs, oe.data = .fields vs) (hN : X.N[i]? = some n) (hv : Vis X.env.scope n) (hy : X.mg y = some (.ref C2)) (kit : PySem.W.kitOne X.K (.ref C) (.ref C2) = some b) (hg1 : Gl X "isinstance") (B : Bt X.mg) (hg2 : Gl X y)
    (hd : (n == ("__debug__" : Str)) = false := by decide) (hcd : (n == ("__classdict__" : Str)) = false := by decide) (hdy : (y == ("__debug__" : Str)) = false := by decide)
    (h1 : starEach [.Name n p1, .Name y p2] X.env = (false, eval (.Name n p1) X.env) :: starEach [.Name y p2] X.env := by rfl) (h2 : starEach [.Name y p2] X.env = (false, eval (.Name y p2) X.env) :: starEach [] X.env := by rfl)
    (hpl : (backTo pos (starEach [.Name y p2] X.env)).any (·.1) = false := by rfl) : DE (X.suite a ((a, oe) :: pn)) g W (.Call (.Name "isinstance" p) [.Name n p1, .Name y p2] [] pos) (xIsE i b) := by
  refine PE.imp (pe_callB (X := X.suite a ((a, oe) :: pn)) (call_isE XC.ask hz hf) hg1 B.isinstance PyProof.Rows.boot_isinstance (pa_cons (pe_var (X := X.suite a ((a, oe) :: pn)) hN hv hd hcd) (pa_cons (pe_glob (v := .ref C2) (X := X.suite a ((a, oe) :: pn)) hg2 hy rfl hdy) pa_nil h2) h1) (by decide) (by decide) h1 hpl) fun σ H Q h => ?_
  obtain ⟨F, en, rp, f⟩ := h
  obtain ⟨z1, z2⟩ := rp.rw i a hm
  unfold xIsE at f
  rw [z2] at f
  exact ⟨.ref a, z1, .ref C2, .ref C2, b, rfl, fun u r => r, kit, f F H (Same.refl _) rp _ (.bl b)⟩
end

/-! ### calls with keywords, in the parameters' order -/
section
variable {X : Cx} {g : Gh} {W : XW} {pos : Pos} {e : Expr} {es : List Expr} {fe : Ev} {av : Av} {kws : List Keyword}
def DK (X : Cx) (g : Gh) (W : XW) (kws : List Keyword) (f : Av) : Prop := PK X kws (liftA X.K g W f)
theorem PK.imp {X : Cx} {es : List Keyword} {t t' : TA} (h : PK X es t) (i : ∀ σ H Q, t' σ H Q → t σ H Q) : PK X es t' := ⟨fun pos pins s σ H Q I q => h.run pos pins s σ H Q I (i σ H Q q)⟩
theorem dk_nil : DK X g W [] aNil := PK.imp pk_nil fun σ H Q h => by
  obtain ⟨F, en, rp, f⟩ := h
  exact f F H (Same.refl _) rp [] trivial
theorem dk_cons {nm : Option Str} {kpos : Pos} (ha : DE X g W e fe) (hr : DK X g W kws av) : DK X g W (⟨nm, e, kpos⟩ :: kws) (aCons fe av) := PK.imp (pk_cons ha hr) fun σ H Q h => by
  obtain ⟨F, en, rp, f⟩ := h
  refine ⟨F, en, rp, (Fin.seq f).mono fun F1 H1 en1 x s1 r1 f1 v hv => ⟨F1, en1, r1, (Fin.seq f1).mono fun F2 H2 en2 xs s2 r2 f2 vs hvs => ?_⟩⟩
  exact f2 F2 H2 (Same.refl _) r2 (v :: vs) ⟨RvOk.mono s2 hv, hvs⟩
/-- positional ones, then the keywords' -/
def aPlus (a b : Av) : Av := fun en => (a en).bind fun en1 xs => (b en1).bind fun en2 ys => .ok en2 (xs ++ ys)
end
theorem RvAll.append {K : PySem.W.Frag} {F : Hp} {σ : St} : ∀ {vs us : List V} {xs ys : List Rv}, RvAll K F σ vs xs → RvAll K F σ us ys → RvAll K F σ (vs ++ us) (xs ++ ys)
  | [], _, [], _, _, h => h
  | _ :: vs, us, _ :: xs, ys, h, k => ⟨h.1, RvAll.append h.2 k⟩
  | [], _, _ :: _, _, h, _ => h.elim
  | _ :: _, _, [], _, h, _ => h.elim
/-- f(a, .., k = b, ..), m positional ones -/
structure KwOk (K : PySem.W.Frag) (fd : FuncData) (ps ks : List Str) (m : Nat) : Prop where
  to : ∀ (s : Shared) (us ws : List Value), K.In s.heap → us.length = m → ws.length = ks.length → us.length + ws.length = ps.length → BindsTo s fd ⟨us, ks.zip ws⟩ (ps.zip (us ++ ws))
structure CalleeK (P : Program) (w : World) (K : PySem.W.Frag) (mg : Str → Option Value) (base : Heap) (x : Str) (ks : List Str) (m k : Nat) (fs : Fs) : Prop where
  ex : ∃ (f : Addr) (fd : FuncData) (ps : List Str), mg x = some (.ref f) ∧ FnOk P w K mg base (L2.CX P w) k f fd ps (spF K mg fs) ∧ PySem.W.keepIn K (.ref f) = true ∧ KwOk K fd ps ks m ∧ ps.length = m + ks.length
def dCallK (fs : Fs) (bs : List Bool) (m n : Nat) (a b : Av) : Ev := fun en => (a en).bind fun en1 xs => (b en1).bind fun en2 ys => if xs.length = m ∧ ys.length = n then callR fs bs en2 (xs ++ ys) (fun en3 r => match r with
  | .v d => .ok en3 (.d d)
  | .o _ => .no) else .no
theorem RvAll.length {K : PySem.W.Frag} {F : Hp} {σ : St} : ∀ {vs : List V} {xs : List Rv}, RvAll K F σ vs xs → vs.length = xs.length
  | [], [], _ => rfl
  | _ :: vs, _ :: xs, h => congrArg (· + 1) (RvAll.length h.2)
  | [], _ :: _, h => h.elim
  | _ :: _, [], h => h.elim
theorem FnOk.runS {X : Cx} {k : Nat} {f : Addr} {fd : FuncData} {ps ks : List Str} {m : Nat} {sp : Sp} {E : XK} {pins : List (Addr × Obj)} {σ : St} {H : Hp} {s : Shared} {Q : VK} {us ws : List Value} {vs zs : List V} (F : FnOk X.prog X.w X.K X.mg X.base (L2.CX X.prog X.w) k f fd ps sp) (hr : Room k X.A) (hb : KwOk X.K fd ps ks m) (hx : PassesAt (L2.CX X.prog X.w) X σ E)
    (I : Inv X pins σ H s) (r : Vals vs us) (rz : Vals zs ws) (l1 : us.length = m) (l2 : ws.length = ks.length) (h : sp (vs ++ zs) H Q E) : wpAny (model X.prog X.w) X.A (call (.ref f) us (ks.zip ws)) (EP X pins σ Q) X.xe s := by
  have r2 := r.append rz
  have hl := F.len _ _ _ _ h
  have q1 := r.length
  have q2 := rz.length
  rw [List.length_append] at hl
  refine wpAny_call (codeAny_mono (F.run X.A X.stack s H ⟨us, ks.zip ws⟩ (us ++ ws) (vs ++ zs) Q E hr I.env0 (hb.to s us ws I.kIn l1 l2 (by omega)) r2 h) fun r s' hq => ?_)
  match r, hq with
  | .error e, hq => exact hx pins H s e s' I hq
  | .ok (.ret u), hq => exact I.after hq
  | .ok .next, hq => exact False.elim hq
  | .ok .brk, hq => exact False.elim hq
  | .ok .cont, hq => exact False.elim hq
section
variable {X : Cx} {g : Gh} {Wh : WX} {pos p : Pos} {a : Expr} {es : List Expr} {kws : List Keyword} {av bv : Av} {fs : Fs} {x : Str} {ks : List Str} {m j k : Nat}
theorem de_callK (bs : List Bool) (C : CalleeK X.prog X.w X.K X.mg X.base x ks m j fs) (hr : Room k X.A) (tk : Takes X Wh) (ha : DA X g (WH X.K X.mg Wh) (a :: es) av) (hk : DK X g (WH X.K X.mg Wh) kws bv) (hj : j ≤ k := by first | decide | exact Nat.le_refl _ | omega) (hg : Gl X x := by rfl)
    (hall : (backToKw pos (keywordEach kws X.env)).all (·.1.isSome) = true := by rfl) (hks : (backToKw pos (keywordEach kws X.env)).filterMap (·.1) = ks := by rfl)
    (hdb : (x == ("__debug__" : Str)) = false := by decide) (he : starEach (a :: es) X.env = (false, eval a X.env) :: starEach es X.env := by rfl)
    (hpl : ((backTo pos (starEach (a :: es) X.env)).any (·.1) || (backToKw pos (keywordEach kws X.env)).any (·.1.isNone)) = false := by rfl) :
    DE X g (WH X.K X.mg Wh) (.Call (.Name x p) (a :: es) kws pos) (dCallK fs bs m ks.length av bv) := by
  obtain ⟨f, fd, ps, hm, F, kp, kb, lp⟩ := C.ex
  refine ⟨fun pins s σ H Q I h => ?_⟩
  refine wpAny_Call_Name_kw (ld_glob I hg hm ?_ hdb)
  obtain ⟨F0, en, rp, f0⟩ := h
  have A1 := ha.run pos pins s σ H (fun vs H1 => ∃ F1 en1 xs, Rep X.K g F1 en1 σ H1 ∧ RvAll X.K F1 σ vs xs ∧ Fin X.K g (WH X.K X.mg Wh) σ F1 ((bv en1).bind fun en2 ys => if xs.length = m ∧ ys.length = ks.length then callR fs bs en2 (xs ++ ys) (fun en3 r => match r with
      | .v d => Rs.ok en3 (Rv.d d)
      | .o _ => .no) else .no) fun F' H' _ r => ∀ v, RvOk X.K F' σ v r → Q v H') I ⟨F0, en, rp, (Fin.seq f0).mono fun F1 H1 en1 xs s1 r1 f1 vs hvs => ⟨F1, en1, xs, r1, hvs, f1⟩⟩
  refine PySem.W.callWith_KW (h₀ := X.base) I.ok.mod.kin kp hall (thn A1 fun us s1 ⟨vs, H1, I1, r, F1, en1, xs, r1, hvs, f1⟩ => ?_) hpl he
  have A2 := hk.run pos pins s1 σ H1 (fun zs H2 => ∃ F2 en2 ys, Same F1 F2 ∧ Rep X.K g F2 en2 σ H2 ∧ RvAll X.K F2 σ zs ys ∧ Fin X.K g (WH X.K X.mg Wh) σ F2 (if xs.length = m ∧ ys.length = ks.length then callR fs bs en2 (xs ++ ys) (fun en3 r => match r with
      | .v d => Rs.ok en3 (Rv.d d)
      | .o _ => .no) else .no) fun F' H' _ r => ∀ v, RvOk X.K F' σ v r → Q v H') I1 ⟨F1, en1, r1, (Fin.seq f1).mono fun F2 H2 en2 ys s2 r2 f2 zs hzs => ⟨F2, en2, ys, s2, r2, hzs, f2⟩⟩
  refine thn A2 fun ws s2 ⟨zs, H2, I2, rz, F2, en2, ys, s12, r2, hzs, f2⟩ => ⟨I2.kIn, ?_⟩
  rw [hks]
  split at f2
  · rename_i hl
    refine FnOk.runS F (hr.mono hj) kb (passAt tk σ) I2 r rz (by show us.length = m; rw [← r.length, hvs.length]; exact hl.1) (by rw [← rz.length, hzs.length]; exact hl.2) ?_
    exact call_sp r2 (RvAll.append (hvs.mono s12) hzs) f2 fun en' r => by
      cases r with
      | v d => exact .inl ⟨d, rfl, rfl⟩
      | o d => exact .inr rfl
  · exact f2.elim
end
end DL
/-! Dset: sorted(set(a list of ints)). -/
namespace DL
open PySem PySem.Spec L2
open PyProof.Rows hiding St

/-- an empty set, just made -/
abbrev eSet (w : World) : Obj := { cls := .type "set", dict := none, data := .set #[] 0 (.fresh 0 0 (!w.params.followText "set-order")) }
section
variable {P : Program} {w : World} {A : Around} {E : Value → Shared → Prop} {s : Shared}
/-- what set.__init__ has made of a list of ints -/
def MadeSet (w : World) (s : Shared) (ns : List Int) (r : Value) (s₂ : Shared) : Prop := r = .none ∧ ∃ (h' : Heap) (tk c : Nat), s₂ = { s with heap := h', toks := tk } ∧ SetR w h' s.heap.objs.size (fun j => decide (j ∈ ns)) c ∧ c ≤ ns.length ∧ ∀ b o, s.heap.get? b = some o → h'.get? b = some o
set_option maxHeartbeats 4000000 in
theorem set_of_list {l : Addr} {items : Array Value} (ns : List Int) {Q : Value → Shared → Prop} (hh : A.handled = none) (hl : s.heap.IsList l items) (hit : IntsAre items.toList ns) (hb : ns.length + 1 < scanBound)
    (q : ∀ (h' : Heap) (tk c : Nat), SetR w h' s.heap.objs.size (fun j => decide (j ∈ ns)) c → c ≤ ns.length → (∀ b o, s.heap.get? b = some o → h'.get? b = some o) → Q (.ref s.heap.objs.size) { s with heap := h', toks := tk }) : wpAny (model P w) A (call (.type "set") [.ref l]) Q E s := by
  have hisz : items.size = ns.length := by have z := IntsAre.length hit; rw [Array.length_toList] at z; exact z
  obtain ⟨c0, tl0, hmro0⟩ := F.called_set.mro
  have made0 := F.called_set.made
  have sub0 := F.called_set.sub
  refine wpAny_call (codeAny_of_tree ?_)
  show wpAny _ _ (callAny (.type "set") _) _ _ _
  refine wpAny_pure ⟨Code.quiet_builtin _ (by decide +kernel), codeAny_builtin F.entry_type_call ?_⟩
  rw [Around.under_plain (weight_type_call_type "set" [.ref l] []) rfl]
  have nt0 := F.called_set.notType
  have cc0 := F.called_set.canCreate
  have tc0 := F.typeCall_set_1 (.ref l)
  repeat (any_goals (first | assumption | wp_step))
  refine codeAny_mono (code_set_led1 (.ref l) (E := E) (Q₁ := fun obj s₁ => obj = .ref s.heap.objs.size ∧ s₁ = { s with heap := s.heap.push (eSet w) }) ⟨rfl, rfl⟩) fun r s₁ hr => ?_
  match r, hr with
  | .error e, hr => exact hr
  | .ok .next, hr => exact hr.elim
  | .ok .brk, hr => exact hr.elim
  | .ok .cont, hr => exact hr.elim
  | .ok (.ret obj), hr =>
    obtain ⟨rfl, rfl⟩ := hr
    have hS : (s.heap.push (eSet w)).get? s.heap.objs.size = some (eSet w) := Heap.get?_push_size _ rfl
    have hT : Shared.TypeIs { s with heap := s.heap.push (eSet w) } (.ref s.heap.objs.size) "set" := ⟨_, hS, rfl⟩
    have li0 := F.called_set.init.lookup
    have bi0 := F.called_set.init.bind (.ref s.heap.objs.size)
    repeat (any_goals (first | assumption | wp_step))
    refine codeAny_mono (codeAny_call_builtin (R := wants (MadeSet w s ns) E) F.called_set.init.plain F.entry_set_init (check_set_init_1 hT ?_)) fun r₂ s₂ hr₂ => ?_
    · obtain ⟨ol, hol, hcl, nl, hdl⟩ := hl
      obtain ⟨ocls, odict, odata, oslots⟩ := ol
      simp only at hcl hdl
      subst hcl hdl
      have hol' : (s.heap.push (eSet w)).get? l = some { cls := .type "list", dict := odict, data := .seq items nl, slots := oslots } := Heap.get?_push_of_some _ hol
      have ls0 := F.sub_list_set
      have lf0 := F.sub_list_frozenset
      have ne0 : (Value.type "list" == Value.type "dict") = false := by decide
      have hl1 : (s.heap.push (eSet w)).IsList l items := ⟨_, hol', rfl, nl, rfl⟩
      unfold Builtin.«set.__init__» noKeywords Builtin.Frozenset.updateFrom
      generalize hPI : pyIter = PI
      wp_walk
      subst hPI
      refine wpAny_pyIter_list hl1 ?_
      refine wpAny_bind (wpAny_runValue ?_)
      have lS : l < s.heap.objs.size := Heap.lt_size hol
      have hd0 : A.in1.in1.in1.handled = none := by simp [hh]
      have neI : l ≠ (s.heap.push (eSet w)).objs.size := by rw [Heap.size_push]; exact Nat.ne_of_lt (Nat.lt_succ_of_lt lS)
      have Sf : s.heap.objs.size ∉ [(s.heap.push (eSet w)).objs.size, l] := by
        rw [Heap.size_push]
        simp only [List.mem_cons, List.mem_singleton, List.not_mem_nil, or_false, not_or]
        exact ⟨Nat.ne_of_lt (Nat.lt_succ_self _), Nat.ne_of_gt lS⟩
      have val0 : ∀ (i : Nat) (v : Value), items[i]? = some v → ∃ k t, ns[i]? = some k ∧ v = .int k t := fun i v hv => by
        have hi : i < ns.length := by rw [← hisz]; exact (Array.getElem?_eq_some_iff.mp hv).1
        obtain ⟨t, e⟩ := PyProof.Rows.IntsAre.int_at hit i v (by rw [Array.getElem?_toList]; exact hv)
        exact ⟨ns[i], t, List.getElem?_eq_getElem hi, by rw [e, List.getD_eq_getElem?_getD, List.getElem?_eq_getElem hi]; rfl⟩
      refine set_update_ints ((Walks.list hd0 _ l neI items).toS) s.heap.objs.size Sf ns hisz hb val0 (items.size - 0) 0 _ (by omega) (Nat.zero_le _) ⟨⟨_, Heap.get?_push_size _ rfl, rfl, rfl⟩, (hl1.push _)⟩ ?hS0 ?hR
      case hS0 => exact ⟨0, Nat.le_refl 0, setR_new_at (Heap.get?_push_of_some _ hS)⟩
      case hR =>
        intro s' c' hm hc' hS'
        obtain ⟨h', g2, d', tk', os'⟩ := s'
        have eg : g2 = s.gens := hm.gens
        have ed : d' = s.drawn := hm.drawn
        have eo : os' = s.os := hm.os
        subst eg ed eo
        show wpAny _ _ _ _ _ _
        refine wpAny_pure ?_
        show wpAny _ _ (ret Value.none) _ _ _
        rw [hisz] at hc'
        refine wpAny_pure ⟨rfl, h', tk', c', rfl, hS', hc', fun b o e => ?_⟩
        have b0 : b < s.heap.objs.size := Heap.lt_size e
        have b1 : b ≠ s.heap.objs.size := Nat.ne_of_lt b0
        have b2 : b ≠ (s.heap.push (eSet w)).objs.size := by rw [Heap.size_push]; exact Nat.ne_of_lt (Nat.lt_succ_of_lt b0)
        refine hm.heap b o ?_ (Heap.get?_push_of_some _ (Heap.get?_push_of_some _ e))
        simp only [List.mem_cons, List.mem_singleton, List.not_mem_nil, or_false, not_or]
        exact ⟨b1, b2⟩
    · match r₂, hr₂ with
      | .error e, hr₂ => exact hr₂
      | .ok .next, hr₂ => exact hr₂.elim
      | .ok .brk, hr₂ => exact hr₂.elim
      | .ok .cont, hr₂ => exact hr₂.elim
      | .ok (.ret r), hr₂ =>
        obtain ⟨rfl, h', tk, c', rfl, hS', hc', hk'⟩ := hr₂
        repeat (any_goals (first | assumption | wp_step))
        exact q _ _ _ hS' hc' hk'
end
end DL
/-! Dset2: sorted(set(..)) by data. -/
namespace DL
open PySem PySem.Spec L2
open PyProof.Rows hiding St

def insU (x : Int) : List Int → List Int
  | [] => [x]
  | y :: r => if x < y then x :: y :: r else if x = y then y :: r else y :: insU x r
/-- the different ones, ascending -/
def uniq (ns : List Int) : List Int := ns.foldr insU []
theorem insU_mem {x k : Int} : ∀ {l : List Int}, k ∈ insU x l ↔ k = x ∨ k ∈ l
  | [] => by simp [insU]
  | y :: r => by
    unfold insU
    split
    · simp
    · split
      · rename_i h
        subst h
        simp
      · simp only [List.mem_cons, insU_mem (l := r)]
        constructor
        · rintro (h | h | h)
          · exact .inr (.inl h)
          · exact .inl h
          · exact .inr (.inr h)
        · rintro (h | h | h)
          · exact .inr (.inl h)
          · exact .inl h
          · exact .inr (.inr h)
theorem insU_lt {x : Int} : ∀ {l : List Int}, l.Pairwise (· < ·) → (insU x l).Pairwise (· < ·)
  | [], _ => by simp [insU]
  | y :: r, h => by
    obtain ⟨h1, h2⟩ := List.pairwise_cons.mp h
    unfold insU
    split
    · rename_i hx
      refine List.pairwise_cons.mpr ⟨fun z hz => ?_, h⟩
      rcases List.mem_cons.mp hz with rfl | hz
      · exact hx
      · exact Int.lt_trans hx (h1 z hz)
    · split
      · exact h
      · refine List.pairwise_cons.mpr ⟨fun z hz => ?_, insU_lt h2⟩
        rcases insU_mem.mp hz with rfl | hz
        · omega
        · exact h1 z hz
theorem uniq_mem {k : Int} : ∀ {ns : List Int}, k ∈ uniq ns ↔ k ∈ ns
  | [] => by simp [uniq]
  | n :: r => by
    show k ∈ insU n (uniq r) ↔ _
    rw [insU_mem, uniq_mem (ns := r), List.mem_cons]
theorem uniq_lt : ∀ ns : List Int, (uniq ns).Pairwise (· < ·)
  | [] => List.Pairwise.nil
  | n :: r => insU_lt (uniq_lt r)
theorem lt_unique : ∀ {a b : List Int}, a.Pairwise (· < ·) → b.Pairwise (· < ·) → (∀ k, k ∈ a ↔ k ∈ b) → a = b
  | [], [], _, _, _ => rfl
  | [], y :: b, _, _, h => by
    have := (h y).mpr List.mem_cons_self
    cases this
  | x :: a, [], _, _, h => by
    have := (h x).mp List.mem_cons_self
    cases this
  | x :: a, y :: b, ha, hb, h => by
    obtain ⟨a1, a2⟩ := List.pairwise_cons.mp ha
    obtain ⟨b1, b2⟩ := List.pairwise_cons.mp hb
    have e : x = y := by
      rcases List.mem_cons.mp ((h x).mp List.mem_cons_self) with e | e
      · exact e
      · rcases List.mem_cons.mp ((h y).mpr List.mem_cons_self) with e2 | e2
        · exact e2.symm
        · have := b1 x e
          have := a1 y e2
          omega
    subst e
    rw [lt_unique a2 b2 fun k => ?_]
    constructor
    · intro hk
      rcases List.mem_cons.mp ((h k).mp (List.mem_cons_of_mem _ hk)) with e | e
      · have := a1 k hk
        omega
      · exact e
    · intro hk
      rcases List.mem_cons.mp ((h k).mpr (List.mem_cons_of_mem _ hk)) with e | e
      · have := b1 k hk
        omega
      · exact e
def rSetI (K : PySem.W.Frag) (w : World) : List V → Hp → VK → Prop := fun xs H Q => ∃ (a : Addr) (ns : List Int), xs = [.ref a] ∧ SqL K H a (ns.map V.int) ∧ ns.length + 1 < scanBound ∧
  ∀ p c, c ≤ ns.length → H p = none → Q (.ref p) (upd H p (SetO w p (fun j => decide (j ∈ ns)) c))
section
variable {X : Cx}
theorem cr_setI (hc : X.calm = true) : CallR X (.type "set") (rSetI X.K X.w) := by
  intro pins s σ H xs us Q I r h
  obtain ⟨a, ns, rfl, hs, hb, q⟩ := h
  obtain ⟨u, rfl, rx⟩ := vals1 r
  cases rx
  obtain ⟨its, rv, hl, hz⟩ := I.list hs
  refine set_of_list ns (I.ok.hd hc) hl.isList (by simpa using rv.ints) hb fun h' tk c R hc' kp => ?_
  exact ⟨.ref s.heap.objs.size, _, I.laid (t' := tk) kp (Nat.le_refl _) (setO_new R), rfl, q _ c hc' (I.hok.fresh (Nat.le_refl _))⟩
/-- sorted(set(e)) -/
def sUniq : D → Option D
  | .list ds => match intsD ds with
    | some ns => if ns.length < 64 then some (.list ((uniq ns).map .int)) else none
    | none => none
  | _ => none
variable {g : Gh} {W : XW} {e : Expr} {f : Ev} {p p2 pos pos2 : Pos}
theorem de_sortedSet (hc : X.calm = true) (B : Bt X.mg) (he : DE X g W e f) (hg : Gl X "sorted" := by rfl) (hg2 : Gl X "set" := by rfl)
    (h1 : starEach [.Call (.Name "set" p2) [e] [] pos2] X.env = (false, eval (.Call (.Name "set" p2) [e] [] pos2) X.env) :: starEach [] X.env := by rfl) (h2 : starEach [e] X.env = (false, eval e X.env) :: starEach [] X.env := by rfl)
    (hpl : (backTo pos (starEach [] X.env)).any (·.1) = false := by rfl) (hpl2 : (backTo pos2 (starEach [] X.env)).any (·.1) = false := by rfl) :
    DE X g W (.Call (.Name "sorted" p) [.Call (.Name "set" p2) [e] [] pos2] [] pos) (dUn sUniq f) := by
  refine PE.imp (pe_callB (cr_sortedSet hc) hg B.sorted PyProof.Rows.boot_sorted (pa_cons (pe_callTy (cr_setI hc) hg2 B.set (by decide +kernel) (pa_cons he pa_nil h2) (by decide) (by decide) h2 hpl2) pa_nil h1) (by decide) (by decide) h1 hpl) fun σ H Q h => ?_
  obtain ⟨F, en, rp, f⟩ := h
  refine ⟨F, en, rp, (Fin.seq f).mono fun F1 H1 en1 x s1 r1 f1 v hv => ?_⟩
  refine of_op1 (en := en1) (x := x) (fun e => by rw [e] at f1; exact f1.elim) fun d c e1 e3 e4 => ?_
  unfold sUniq at e3
  split at e3
  · split at e3
    · rename_i ns en
      split at e3
      · rename_i hl
        cases e3
        obtain ⟨a, xs, rfl, q1, al⟩ := vw_lst r1.fz (r1.view hv e1)
        rw [intsD_eq en] at al
        have := vals_ints_of al
        subst this
        refine ⟨a, ns, rfl, .inl (.inl q1), by unfold scanBound; omega, fun p c hc hp => ?_⟩
        have x1 := Ext.put r1.fz hp (SetO X.w p (fun j => decide (j ∈ ns)) c)
        refine ⟨p, _, c, rfl, upd_same, by omega, fun ms p' hm hk hlen hp' => ?_⟩
        have e5 : ms = uniq ns := lt_unique hm (uniq_lt ns) fun k => by
          rw [hk k, uniq_mem, decide_eq_true_iff]
        subst e5
        have x2 := Ext.put x1.sub hp' (.lst ((uniq ns).map V.int))
        exact (fin1 r1 e4 f1) _ _ _ (x1.trans x2) (.lst upd_same (DvAll.ints _))
      · cases e3
    · cases e3
  · cases e3
end
end DL
/-! Dl16: the last short names. -/
namespace DL
open PySem PySem.Spec L2
open PyProof.Rows hiding St
theorem Fun.kw {K : PySem.W.Frag} {x qual : Str} {st : Stmt} {f : Addr} {fd : FuncData} {ps ks : List Str} {m : Nat} (F : Fun K x qual st f fd)
    (h : ∀ (kV doc pm : Value) (an : Option Addr) (cdv ct : Value) (us ws : List Value), us.length = m → ws.length = ks.length → bindArgs (PySem.W.fnOf x qual (defArgs st) (defBody st) (defScope st) .none kV doc pm an cdv ct) ⟨us, ks.zip ws⟩ = pure (ps.zip (us ++ ws))) : KwOk K fd ps ks m := by
  obtain ⟨oc, od, kV, doc, pm, an, cdv, ct, osl, rfl, lk, hcd⟩ := F.ex
  exact ⟨fun s us ws _ h1 h2 _ => .of_eq (h kV doc pm an cdv ct us ws h1 h2)⟩
theorem CalleeK.of {P : Program} {w : World} {K : PySem.W.Frag} {mg : Str → Option Value} {base : Heap} {x qual : Str} {st : Stmt} {f : Addr} {fd : FuncData} {ps ks : List Str} {m k : Nat} {fs : Fs} (F : Fun K x qual st f fd) (hm : mg x = some (.ref f)) (h : FnOk P w K mg base (L2.CX P w) k f fd ps (spF K mg fs)) (hk : KwOk K fd ps ks m) (hl : ps.length = m + ks.length) : CalleeK P w K mg base x ks m k fs := ⟨f, fd, ps, hm, h, F.kp, hk, hl⟩
end DL
/-! Dm1: running meanings: what a result keeps. -/
namespace DL
open PySem PySem.Spec L2
open PyProof.Rows hiding St

def RsP {α : Type} (r : Rs α) (P : En → α → Prop) (E : En → Ex → Prop) : Prop := match r with
  | .ok en a => P en a
  | .ex en x => E en x
  | .no => False
def OutP (o : Out) (N : En → Prop) (R : En → Rr → Prop) (E : En → Ex → Prop) : Prop := match o with
  | .nx en => N en
  | .rt en r => R en r
  | .ex en x => E en x
  | _ => False
def RfP (r : Rf) (P : Rr → List D → Prop) (E : Ex → List D → Prop) : Prop := match r with
  | .ok r os => P r os
  | .ex x os => E x os
  | .no => False
section
variable {α β : Type} {P P' : En → α → Prop} {E E' : En → Ex → Prop} {N N' : En → Prop} {R R' : En → Rr → Prop}
@[simp] theorem RsP_ok {en : En} {a : α} : RsP (.ok en a) P E = P en a := rfl
@[simp] theorem RsP_ex {en : En} {x : Ex} : RsP (.ex en x) P E = E en x := rfl
@[simp] theorem RsP_no : RsP (.no : Rs α) P E = False := rfl
@[simp] theorem OutP_nx {en : En} : OutP (.nx en) N R E = N en := rfl
@[simp] theorem OutP_rt {en : En} {r : Rr} : OutP (.rt en r) N R E = R en r := rfl
@[simp] theorem OutP_ex {en : En} {x : Ex} : OutP (.ex en x) N R E = E en x := rfl
@[simp] theorem OutP_no : OutP .no N R E = False := rfl
@[simp] theorem RsP_bind {r : Rs β} {k : En → β → Rs α} : RsP (r.bind k) P E = RsP r (fun en a => RsP (k en a) P E) E := by cases r <;> rfl
@[simp] theorem OutP_out {r : Rs α} {k : En → α → Out} : OutP (r.out k) N R E = RsP r (fun en a => OutP (k en a) N R E) E := by cases r <;> rfl
@[simp] theorem OutP_next {o : Out} {k : En → Out} : OutP (o.next k) N R E = OutP o (fun en => OutP (k en) N R E) R E := by cases o <;> rfl
theorem RsP.mono {r : Rs α} (h : RsP r P E) (p : ∀ en a, P en a → P' en a) (e : ∀ en x, E en x → E' en x) : RsP r P' E' := by
  cases r with
  | ok en a => exact p en a h
  | ex en x => exact e en x h
  | no => exact h
theorem OutP.mono {o : Out} (h : OutP o N R E) (n : ∀ en, N en → N' en) (r : ∀ en x, R en x → R' en x) (e : ∀ en x, E en x → E' en x) : OutP o N' R' E' := by
  cases o with
  | nx en => exact n en h
  | rt en x => exact r en x h
  | ex en x => exact e en x h
  | _ => exact h
theorem RfP.mono {r : Rf} {P P' : Rr → List D → Prop} {E E' : Ex → List D → Prop} (h : RfP r P E) (p : ∀ x os, P x os → P' x os) (e : ∀ x os, E x os → E' x os) : RfP r P' E' := by
  cases r with
  | ok x os => exact p x os h
  | ex x os => exact e x os h
  | no => exact h
/-- the worth of a def that never raises -/
theorem RfP.ok {r : Rf} {P : Rr → List D → Prop} (h : RfP r P fun _ _ => False) : ∃ x os, r = .ok x os ∧ P x os := by
  cases r with
  | ok x os => exact ⟨x, os, rfl, h⟩
  | ex x os => exact h.elim
  | no => exact h.elim
end
/-- a call -/
@[simp] theorem RsP_call {α : Type} {fs : Fs} {bs : List Bool} {en : En} {rs : List Rv} {k : En → Rr → Rs α} {P : En → α → Prop} {E : En → Ex → Prop} : RsP (callR fs bs en rs k) P E = match argsFor en bs rs with
    | some (as, is) => is.Nodup ∧ RfP (fs as) (fun r os => match setOuts en is os with
      | some en' => RsP (k en' r) P E
      | none => False) (fun x os => match setOuts en is os with
      | some en' => E en' x
      | none => False)
    | none => False := by
  unfold callR
  cases argsFor en bs rs with
  | none => rfl
  | some p =>
    obtain ⟨as, is⟩ := p
    dsimp only
    by_cases h : is.Nodup
    · rw [if_pos h]
      cases fs as with
      | ok r os =>
        dsimp only [RfP]
        cases setOuts en is os with
        | none => simp
        | some e => simp [h]
      | ex x os =>
        dsimp only [RfP]
        cases setOuts en is os with
        | none => simp
        | some e => simp [h]
      | no => simp [RfP]
    · rw [if_neg h]
      simp [h]
theorem RfP_run {m n : Nat} {b : Bd} {as : List Ar} {P : Rr → List D → Prop} {E : Ex → List D → Prop} (hl : as.length = m) (h : OutP (b (startEn n as)) (fun en => match outsOf en 0 as with
      | some os => P (.v .none) os
      | none => False) (fun en r => match outsOf en 0 as with
      | some os => P r os
      | none => False) (fun en x => match outsOf en 0 as with
      | some os => E x os
      | none => False)) : RfP (runFn m n b as) P E := by
  unfold runFn
  rw [if_pos hl]
  unfold endFn
  cases q : b (startEn n as) with
  | nx en =>
    rw [q] at h
    simp only [OutP_nx] at h
    dsimp only
    cases e : outsOf en 0 as with
    | some os => rw [e] at h; exact h
    | none => rw [e] at h; exact h.elim
  | rt en r =>
    rw [q] at h
    simp only [OutP_rt] at h
    dsimp only
    cases e : outsOf en 0 as with
    | some os => rw [e] at h; exact h
    | none => rw [e] at h; exact h.elim
  | ex en x =>
    rw [q] at h
    simp only [OutP_ex] at h
    dsimp only
    cases e : outsOf en 0 as with
    | some os => rw [e] at h; exact h
    | none => rw [e] at h; exact h.elim
  | bk en => rw [q] at h; exact h.elim
  | ct en => rw [q] at h; exact h.elim
  | no => rw [q] at h; exact h.elim

/-! ### options -/
def OpP {α : Type} (o : Option α) (P : α → Prop) : Prop := match o with
  | some a => P a
  | none => False
@[simp] theorem OpP_some {α : Type} {a : α} {P : α → Prop} : OpP (some a) P = P a := rfl
@[simp] theorem OpP_none {α : Type} {P : α → Prop} : OpP none P = False := rfl
@[simp] theorem OpP_ite {α : Type} {c : Prop} [Decidable c] {a : α} {P : α → Prop} : OpP (if c then some a else none) P = (c ∧ P a) := by
  by_cases h : c <;> simp [h]
@[simp] theorem OpP_map {α β : Type} {f : α → β} {o : Option α} {P : β → Prop} : OpP (o.map f) P = OpP o fun a => P (f a) := by cases o <;> rfl
theorem OpP.ex {α : Type} {o : Option α} {P : α → Prop} (h : OpP o P) : ∃ a, o = some a ∧ P a := by
  cases o with
  | none => exact h.elim
  | some a => exact ⟨a, rfl, h⟩
section
variable {α : Type} {en : En} {i j : Nat} {d e : D} {b : Bool}
@[simp] theorem slD_eq : slD en i = match en[i]? with
  | some (.own _ d) => some d
  | _ => none := rfl
def VarP (en : En) (i : Nat) (s : Option Sl) (P : En → Rv → Prop) : Prop := match s with
  | some (.val d) => P en (.d d)
  | some (.own _ _) => P en (.s i)
  | some (.ali j) => P en (.s j)
  | _ => False
variable {P : En → Rv → Prop} {E : En → Ex → Prop} {N : En → Prop} {R : En → Rr → Prop} {PB : En → Bool → Prop} {PA : En → List Rv → Prop} {PD : En → D → Prop} {PI : En → List D → Prop}
@[simp] theorem VarP_val : VarP en i (some (.val d)) P = P en (.d d) := rfl
@[simp] theorem VarP_own : VarP en i (some (.own b d)) P = P en (.s i) := rfl
@[simp] theorem VarP_ali : VarP en i (some (.ali j)) P = P en (.s j) := rfl
@[simp] theorem RsP_var : RsP (dVar i en) P E = VarP en i en[i]? P := by
  unfold dVar
  cases q : en[i]? with
  | none => rfl
  | some s => cases s <;> rfl
def VarF (en : En) (i : Nat) (s : Option Sl) (P : En → Rv → Prop) : Prop := match s with
  | some (.val d) => P en (.d d)
  | some (.own false d) => canPut en i = true ∧ P (en.set i (.val d)) (.d d)
  | _ => False
@[simp] theorem VarF_val : VarF en i (some (.val d)) P = P en (.d d) := rfl
@[simp] theorem VarF_own : VarF en i (some (.own false d)) P = (canPut en i = true ∧ P (en.set i (.val d)) (.d d)) := rfl
@[simp] theorem RsP_varF : RsP (dVarF i en) P E = VarF en i en[i]? P := by
  unfold dVarF
  cases q : en[i]? with
  | none => rfl
  | some s =>
    cases s with
    | own b d =>
      cases b with
      | true => rfl
      | false =>
        dsimp only
        by_cases h : canPut en i = true <;> simp [h, VarF]
    | _ => rfl
@[simp] theorem RsP_con : RsP (dC d en) P E = P en (.d d) := rfl
/-! operators -/
@[simp] theorem RsP_op {sem : D → D → Option D} {fa fb : Ev} : RsP (dOp sem fa fb en) P E = RsP (fa en) (fun en1 x => RsP (fb en1) (fun en2 y => RsP (op2 sem en2 x y) P E) E) E := by unfold dOp; simp only [RsP_bind, RsP_ok, OutP_out, OutP_next, OutP_rt, OutP_nx]
@[simp] theorem RsP_un {sem : D → Option D} {fa : Ev} : RsP (dUn sem fa en) P E = RsP (fa en) (fun en1 x => RsP (op1 sem en1 x) P E) E := by unfold dUn; simp only [RsP_bind, RsP_ok, OutP_out, OutP_next, OutP_rt, OutP_nx]
@[simp] theorem RsP_op2dd {sem : D → D → Option D} : RsP (op2 sem en (.d d) (.d e)) P E = OpP (sem d e) fun r => P en (.d r) := by
  unfold op2
  simp only [res]
  cases sem d e <;> rfl
@[simp] theorem RsP_op2sd {sem : D → D → Option D} {y : Rv} : RsP (op2 sem en (.s i) y) P E = OpP (slD en i) fun d => RsP (op2 sem en (.d d) y) P E := by
  unfold op2
  simp only [res]
  cases slD en i <;> rfl
@[simp] theorem RsP_op2ds {sem : D → D → Option D} : RsP (op2 sem en (.d d) (.s i)) P E = OpP (slD en i) fun e => RsP (op2 sem en (.d d) (.d e)) P E := by
  unfold op2
  simp only [res]
  cases slD en i <;> rfl
@[simp] theorem RsP_op1d {sem : D → Option D} : RsP (op1 sem en (.d d)) P E = OpP (sem d) fun r => P en (.d r) := by
  unfold op1
  simp only [res]
  cases sem d <;> rfl
@[simp] theorem RsP_op1s {sem : D → Option D} : RsP (op1 sem en (.s i)) P E = OpP (slD en i) fun d => RsP (op1 sem en (.d d)) P E := by
  unfold op1
  simp only [res]
  cases slD en i <;> rfl
@[simp] theorem RsP_opBd {sem : D → Option Bool} : RsP (opB sem en (.d d)) PB E = OpP (sem d) fun r => PB en r := by
  unfold opB
  simp only [res]
  cases sem d <;> rfl
@[simp] theorem RsP_opN {sem : List D → Option D} {xs : List Rv} : RsP (opN sem en xs) P E = OpP (resAll en xs) fun ds => OpP (sem ds) fun r => P en (.d r) := by
  unfold opN
  cases resAll en xs with
  | none => rfl
  | some ds => dsimp only [OpP_some]; cases sem ds <;> rfl
@[simp] theorem resAll_nil : resAll en [] = some [] := rfl
@[simp] theorem resAll_cons {x : Rv} {xs : List Rv} {Q : List D → Prop} : OpP (resAll en (x :: xs)) Q = OpP (res en x) fun d => OpP (resAll en xs) fun ds => Q (d :: ds) := by
  show OpP (match res en x, resAll en xs with
    | some d, some ds => some (d :: ds)
    | _, _ => none) Q = _
  cases res en x with
  | none => rfl
  | some d => cases resAll en xs <;> rfl
@[simp] theorem res_d : res en (.d d) = some d := rfl
@[simp] theorem res_s : res en (.s i) = slD en i := rfl
@[simp] theorem RsP_tOf {fa : Ev} : RsP (tOf fa en) PB E = RsP (fa en) (fun en1 x => RsP (opB toB en1 x) PB E) E := by unfold tOf; simp only [RsP_bind, RsP_ok, OutP_out, OutP_next, OutP_rt, OutP_nx]
@[simp] theorem toB_bool : toB (.bool b) = some b := rfl
theorem RsP_ite {r r' : Rs α} {c : Bool} {Q : En → α → Prop} : RsP (if c = true then r else r') Q E = (if c = true then RsP r Q E else RsP r' Q E) := by cases c <;> rfl
theorem OutP_ite {r r' : Out} {c : Bool} : OutP (if c = true then r else r') N R E = (if c = true then OutP r N R E else OutP r' N R E) := by cases c <;> rfl
@[simp] theorem RsP_tAnd {ta tb : Tv} : RsP (tAndD ta tb en) PB E = RsP (ta en) (fun en1 k => if k = true then RsP (tb en1) PB E else PB en1 false) E := by
  unfold tAndD
  simp only [RsP_bind, RsP_ite, RsP_ok]
@[simp] theorem RsP_tOr {ta tb : Tv} : RsP (tOrD ta tb en) PB E = RsP (ta en) (fun en1 k => if k = true then PB en1 true else RsP (tb en1) PB E) E := by
  unfold tOrD
  simp only [RsP_bind, RsP_ite, RsP_ok]
@[simp] theorem RsP_tNot {ta : Tv} : RsP (tNotD ta en) PB E = RsP (ta en) (fun en1 k => PB en1 (!k)) E := by unfold tNotD; simp only [RsP_bind, RsP_ok, OutP_out, OutP_next, OutP_rt, OutP_nx]
@[simp] theorem RsP_and {fa fb : Ev} : RsP (dAnd fa fb en) P E = RsP (fa en) (fun en1 x => RsP (opB toB en1 x) (fun _ k => if k = true then RsP (fb en1) P E else P en1 (.d (.bool false))) E) E := by
  unfold dAnd
  simp only [RsP_bind, RsP_ite, RsP_ok]
@[simp] theorem RsP_or {fa fb : Ev} : RsP (dOr fa fb en) P E = RsP (fa en) (fun en1 x => RsP (opB toB en1 x) (fun _ k => if k = true then P en1 (.d (.bool true)) else RsP (fb en1) P E) E) E := by
  unfold dOr
  simp only [RsP_bind, RsP_ite, RsP_ok]
@[simp] theorem RsP_not {fa : Ev} : RsP (dNot fa en) P E = RsP (fa en) (fun en1 x => RsP (opB toB en1 x) (fun _ k => P en1 (.d (.bool (!k)))) E) E := by unfold dNot; simp only [RsP_bind, RsP_ok, OutP_out, OutP_next, OutP_rt, OutP_nx]
@[simp] theorem RsP_if {tc : Tv} {fa fb : Ev} : RsP (dIf tc fa fb en) P E = RsP (tc en) (fun en1 k => if k = true then RsP (fa en1) P E else RsP (fb en1) P E) E := by
  unfold dIf
  simp only [RsP_bind, RsP_ite]
@[simp] theorem RsP_chain {sem sem' : D → D → Option D} {fa fb fc : Ev} : RsP (dChain sem sem' fa fb fc en) P E = RsP (fa en) (fun en1 x => RsP (fb en1) (fun en2 y => RsP (op2 sem en2 x y) (fun _ z => RsP (opB toB en2 z) (fun _ k => if k = true then RsP (fc en2) (fun en3 w => RsP (op2 sem' en3 y w) P E) E else P en2 (.d (.bool false))) E) E) E) E := by
  unfold dChain
  simp only [RsP_bind, RsP_ite, RsP_ok]
/-! arguments -/
@[simp] theorem RsP_aNil : RsP (aNil en) PA E = PA en [] := rfl
@[simp] theorem RsP_aCons {fa : Ev} {av : Av} : RsP (aCons fa av en) PA E = RsP (fa en) (fun en1 x => RsP (av en1) (fun en2 xs => PA en2 (x :: xs)) E) E := by unfold aCons; simp only [RsP_bind, RsP_ok, OutP_out, OutP_next, OutP_rt, OutP_nx]
@[simp] theorem freeD_nil : freeD en [] = some [] := rfl
@[simp] theorem freeD_d {rs : List Rv} : freeD en (.d d :: rs) = (freeD en rs).map fun ds => d :: ds := by
  show (match freeD en rs with
    | some ds => some (d :: ds)
    | none => none) = _
  cases freeD en rs <;> rfl
@[simp] theorem RsP_tup {av : Av} : RsP (dTup av en) P E = RsP (av en) (fun en1 xs => OpP (freeD en1 xs) fun ds => ds.length ≤ sizeLine ∧ P en1 (.d (.tuple ds))) E := by
  unfold dTup
  simp only [RsP_bind]
  congr 1
  funext en1 xs
  cases freeD en1 xs with
  | none => rfl
  | some ds => dsimp only; by_cases h : ds.length ≤ sizeLine <;> simp [h]
@[simp] theorem RsP_lst {av : Av} : RsP (dLst av en) P E = RsP (av en) (fun en1 xs => OpP (freeD en1 xs) fun ds => ds.length ≤ sizeLine ∧ P en1 (.d (.list ds))) E := by
  unfold dLst
  simp only [RsP_bind]
  congr 1
  funext en1 xs
  cases freeD en1 xs with
  | none => rfl
  | some ds => dsimp only; by_cases h : ds.length ≤ sizeLine <;> simp [h]
@[simp] theorem RsP_oLst {av : Av} : RsP (oLst av en) PD E = RsP (av en) (fun en1 xs => OpP (freeD en1 xs) fun ds => ds.length ≤ sizeLine ∧ PD en1 (.list ds)) E := by
  unfold oLst
  simp only [RsP_bind]
  congr 1
  funext en1 xs
  cases freeD en1 xs with
  | none => rfl
  | some ds => dsimp only; by_cases h : ds.length ≤ sizeLine <;> simp [h]
@[simp] theorem RsP_callB {sem : List D → Option D} {av : Av} : RsP (dCallB sem av en) P E = RsP (av en) (fun en1 xs => OpP (resAll en1 xs) fun ds => OpP (sem ds) fun r => P en1 (.d r)) E := by unfold dCallB; simp only [RsP_bind, RsP_ok, OutP_out, OutP_next, OutP_rt, OutP_nx, RsP_opN]
@[simp] theorem RsP_oCallB {sem : List D → Option D} {av : Av} : RsP (oCallB sem av en) PD E = RsP (av en) (fun en1 xs => OpP (resAll en1 xs) fun ds => OpP (sem ds) fun r => PD en1 r) E := by
  unfold oCallB
  simp only [RsP_bind]
  congr 1
  funext en1 xs
  cases resAll en1 xs with
  | none => rfl
  | some ds => dsimp only [OpP_some]; cases sem ds <;> rfl
@[simp] theorem RsP_fz {fo : Ov} : RsP (dFz fo en) P E = RsP (fo en) (fun en1 d => P en1 (.d d)) E := by unfold dFz; simp only [RsP_bind, RsP_ok, OutP_out, OutP_next, OutP_rt, OutP_nx]
/-- what a value argument is -/
def RrP (r : Rr) (P : D → Prop) : Prop := match r with
  | .v d => P d
  | .o _ => False
def RrO (r : Rr) (P : D → Prop) : Prop := match r with
  | .o d => P d
  | .v _ => False
@[simp] theorem RrP_v {Q : D → Prop} : RrP (.v d) Q = Q d := rfl
@[simp] theorem RrO_o {Q : D → Prop} : RrO (.o d) Q = Q d := rfl
def CallP (fs : Fs) (bs : List Bool) (en : En) (rs : List Rv) (K : En → Rr → Prop) (E : En → Ex → Prop) : Prop := OpP (argsFor en bs rs) fun p => p.2.Nodup ∧ RfP (fs p.1) (fun r os => OpP (setOuts en p.2 os) fun en' => K en' r) (fun x os => OpP (setOuts en p.2 os) fun en' => E en' x)
theorem RsP_callR {fs : Fs} {bs : List Bool} {rs : List Rv} {k : En → Rr → Rs α} {Q : En → α → Prop} : RsP (callR fs bs en rs k) Q E = CallP fs bs en rs (fun en' r => RsP (k en' r) Q E) E := by
  rw [RsP_call]
  unfold CallP
  cases argsFor en bs rs with
  | none => rfl
  | some p =>
    obtain ⟨as, is⟩ := p
    dsimp only [OpP_some]
    congr 1
    congr 1
    · funext r os; cases setOuts en is os <;> rfl
    · funext r os; cases setOuts en is os <;> rfl
@[simp] theorem RsP_dCall {fs : Fs} {bs : List Bool} {av : Av} : RsP (dCall fs bs av en) P E = RsP (av en) (fun en1 rs => CallP fs bs en1 rs (fun en2 r => RrP r fun d => P en2 (.d d)) E) E := by
  unfold dCall
  simp only [RsP_bind, RsP_callR]
  congr 1
  funext en1 rs
  congr 1
  funext en2 r
  cases r <;> rfl
@[simp] theorem RsP_oCall {fs : Fs} {bs : List Bool} {av : Av} : RsP (oCall fs bs av en) PD E = RsP (av en) (fun en1 rs => CallP fs bs en1 rs (fun en2 r => RrO r fun d => PD en2 d) E) E := by
  unfold oCall
  simp only [RsP_bind, RsP_callR]
  congr 1
  funext en1 rs
  congr 1
  funext en2 r
  cases r <;> rfl
@[simp] theorem RsP_dCallK {fs : Fs} {bs : List Bool} {m n : Nat} {av bv : Av} : RsP (dCallK fs bs m n av bv en) P E = RsP (av en) (fun en1 xs => RsP (bv en1) (fun en2 ys => (xs.length = m ∧ ys.length = n) ∧ CallP fs bs en2 (xs ++ ys) (fun en3 r => RrP r fun d => P en3 (.d d)) E) E) E := by
  unfold dCallK
  simp only [RsP_bind]
  congr 1
  funext en1 xs
  congr 1
  funext en2 ys
  by_cases h : xs.length = m ∧ ys.length = n
  · rw [if_pos h, RsP_callR]
    simp only [h, and_self, true_and]
    congr 1
    funext en3 r
    cases r <;> rfl
  · rw [if_neg h]
    simp [h]
@[simp] theorem argsFor_nil : argsFor en [] [] = some ([], []) := rfl
@[simp] theorem argsFor_f {bs : List Bool} {rs : List Rv} : argsFor en (false :: bs) (.d d :: rs) = (argsFor en bs rs).map fun p => (.v d :: p.1, p.2) := by
  show (match argsFor en bs rs with
    | some (as, is) => some (Ar.v d :: as, is)
    | none => none) = _
  cases argsFor en bs rs <;> rfl
@[simp] theorem argsFor_t {bs : List Bool} {rs : List Rv} {Q : List Ar × List Nat → Prop} : OpP (argsFor en (true :: bs) (.s i :: rs)) Q = OpP (slD en i) fun d => OpP (argsFor en bs rs) fun p => Q (.o d :: p.1, i :: p.2) := by
  show OpP (match slD en i, argsFor en bs rs with
    | some d, some (as, is) => some (Ar.o d :: as, i :: is)
    | _, _ => none) Q = _
  cases slD en i with
  | none => rfl
  | some d => cases argsFor en bs rs <;> rfl
@[simp] theorem setOuts_nil : setOuts en [] [] = some en := rfl
def SetO1 (en : En) (s : Option Sl) (i : Nat) (is : List Nat) (d : D) (ds : List D) (Q : En → Prop) : Prop := match s with
  | some (.own b _) => OpP (setOuts (en.set i (.own b d)) is ds) Q
  | _ => False
@[simp] theorem SetO1_own {is : List Nat} {ds : List D} {Q : En → Prop} : SetO1 en (some (.own b e)) i is d ds Q = OpP (setOuts (en.set i (.own b d)) is ds) Q := rfl
@[simp] theorem setOuts_cons {is : List Nat} {ds : List D} {Q : En → Prop} : OpP (setOuts en (i :: is) (d :: ds)) Q = SetO1 en en[i]? i is d ds Q := by
  show OpP (match en[i]? with
    | some (.own b _) => setOuts (en.set i (.own b d)) is ds
    | _ => none) Q = _
  cases q : en[i]? with
  | none => rfl
  | some s => cases s <;> rfl
/-! slices -/
variable {PO : En → Option Int → Prop}
@[simp] theorem RsP_pNo : RsP (pNo en) PO E = PO en none := rfl
def IntP (x : Rv) (Q : Int → Prop) : Prop := match x with
  | .d (.int i) => Q i
  | _ => False
@[simp] theorem IntP_int {k : Int} {Q : Int → Prop} : IntP (.d (.int k)) Q = Q k := rfl
@[simp] theorem RsP_pIs {fa : Ev} : RsP (pIs fa en) PO E = RsP (fa en) (fun en1 x => IntP x fun k => PO en1 (some k)) E := by
  unfold pIs
  simp only [RsP_bind]
  congr 1
  funext en1 x
  cases x with
  | s i => rfl
  | d d => cases d <;> rfl
@[simp] theorem RsP_sl {fa : Ev} {lo hi : Pv} : RsP (dSl fa lo hi en) P E = RsP (fa en) (fun en1 x => RsP (lo en1) (fun en2 l => RsP (hi en2) (fun en3 h => RsP (op1 (sSl l h) en3 x) P E) E) E) E := by unfold dSl; simp only [RsP_bind, RsP_ok, OutP_out, OutP_next, OutP_rt, OutP_nx]
/-! statements -/
@[simp] theorem OutP_seq {a b : Bd} : OutP (bSeq a b en) N R E = OutP (a en) (fun en1 => OutP (b en1) N R E) R E := by unfold bSeq; simp only [RsP_bind, RsP_ok, OutP_out, OutP_next, OutP_rt, OutP_nx]
@[simp] theorem OutP_nil : OutP (bNil en) N R E = N en := rfl
@[simp] theorem OutP_expr {f : Ev} : OutP (bExpr f en) N R E = RsP (f en) (fun en1 _ => N en1) E := by unfold bExpr; simp only [RsP_bind, RsP_ok, OutP_out, OutP_next, OutP_rt, OutP_nx]
def DP_ (x : Rv) (Q : D → Prop) : Prop := match x with
  | .d d => Q d
  | .s _ => False
@[simp] theorem DP_d {Q : D → Prop} : DP_ (.d d) Q = Q d := rfl
@[simp] theorem OutP_ret {f : Ev} : OutP (bRet f en) N R E = RsP (f en) (fun en1 x => DP_ x fun d => R en1 (.v d)) E := by
  unfold bRet
  simp only [OutP_out]
  congr 1
  funext en1 x
  cases x <;> rfl
@[simp] theorem OutP_retO {f : Ov} : OutP (bRetO f en) N R E = RsP (f en) (fun en1 d => R en1 (.o d)) E := by unfold bRetO; simp only [RsP_bind, RsP_ok, OutP_out, OutP_next, OutP_rt, OutP_nx]
@[simp] theorem OutP_retN : OutP (bRetN en) N R E = R en (.v .none) := rfl
@[simp] theorem OutP_if {t : Tv} {a b : Bd} : OutP (bIf t a b en) N R E = RsP (t en) (fun en1 k => if k = true then OutP (a en1) N R E else OutP (b en1) N R E) E := by
  unfold bIf
  simp only [OutP_out, OutP_ite]
@[simp] theorem OutP_opt {o : Option α} {k : α → Out} : OutP (Opt.out o k) N R E = OpP o fun a => OutP (k a) N R E := by cases o <;> rfl
@[simp] theorem OutP_set {f : Ev} : OutP (bSet i f en) N R E = RsP (f en) (fun en1 x => OpP (stV en1 i x) N) E := by unfold bSet; simp only [RsP_bind, RsP_ok, OutP_out, OutP_next, OutP_rt, OutP_nx, OutP_opt]
@[simp] theorem OutP_setO {f : Ov} : OutP (bSetO i f en) N R E = RsP (f en) (fun en1 d => OpP (putS en1 i (.own false d)) N) E := by unfold bSetO; simp only [RsP_bind, RsP_ok, OutP_out, OutP_next, OutP_rt, OutP_nx, OutP_opt]
@[simp] theorem OutP_setZ {f : Ov} : OutP (bSetZ i f en) N R E = RsP (f en) (fun en1 d => OpP (putS en1 i (.val d)) N) E := by unfold bSetZ; simp only [RsP_bind, RsP_ok, OutP_out, OutP_next, OutP_rt, OutP_nx, OutP_opt]
@[simp] theorem stV_d : stV en i (.d d) = putS en i (.val d) := rfl
@[simp] theorem OpP_put {s : Sl} {Q : En → Prop} : OpP (putS en i s) Q = (canPut en i = true ∧ Q (en.set i s)) := by
  unfold putS
  simp
/-! targets -/
@[simp] theorem OutP_asg {f : Ev} {t : Th} : OutP (bAsg f t en) N R E = RsP (f en) (fun en1 x => DP_ x fun d => OutP (t d en1).nxOnly N R E) E := by
  unfold bAsg
  simp only [OutP_out]
  congr 1
  funext en1 x
  cases x <;> rfl
/-- of a target: only on -/
@[simp] theorem OutP_nxOnly {o : Out} : OutP o.nxOnly N R E = OutP o N (fun _ _ => False) E := by cases o <;> rfl
@[simp] theorem OutP_hName : OutP (hName i d en) N R E = OpP (putS en i (.val d)) N := by unfold hName; simp only [RsP_bind, RsP_ok, OutP_out, OutP_next, OutP_rt, OutP_nx, OutP_opt]
@[simp] theorem OutP_hNil : OutP (hNil [] en) N R E = N en := rfl
@[simp] theorem OutP_hCons {t : Th} {u : Ths} {r : List D} : OutP (hCons t u (d :: r) en) N R E = OutP (t d en) (fun en1 => OutP (u r en1) N R E) R E := by
  show OutP ((t d en).next fun en1 => u r en1) N R E = _
  simp
@[simp] theorem OutP_hTup {n : Nat} {u : Ths} {ds : List D} : OutP (hTup n u (.tuple ds) en) N R E = (ds.length = n ∧ OutP (u ds en) N R E) := by
  show OutP (if ds.length = n then u ds en else .no) N R E = _
  by_cases h : ds.length = n <;> simp [h]
def SubP (en : En) (s : Option Sl) (i : Nat) (k : Int) (d : D) (N : En → Prop) : Prop := match s with
  | some (.own b (.list ds)) => OpP (ixN ds.length k) fun j => N (en.set i (.own b (.list (ds.set j d))))
  | _ => False
@[simp] theorem SubP_own {k : Int} {ds : List D} : SubP en (some (.own b (.list ds))) i k d N = OpP (ixN ds.length k) fun j => N (en.set i (.own b (.list (ds.set j d)))) := rfl
def SP_ (x : Rv) (Q : Nat → Prop) : Prop := match x with
  | .s i => Q i
  | .d _ => False
@[simp] theorem SP_s {Q : Nat → Prop} : SP_ (.s i) Q = Q i := rfl
@[simp] theorem OutP_hSub {fo fi : Ev} : OutP (hSub fo fi d en) N R E = RsP (fo en) (fun en1 x => SP_ x fun i => RsP (fi en1) (fun en2 y => IntP y fun k => SubP en2 en2[i]? i k d N) E) E := by
  unfold hSub
  simp only [OutP_out]
  congr 1
  funext en1 x
  cases x with
  | d _ => rfl
  | s i =>
    dsimp only [SP_s]
    rw [OutP_out]
    congr 1
    funext en2 y
    cases y with
    | s j => rfl
    | d y =>
      cases y <;> first | rfl | skip
      rename_i k
      dsimp only [IntP_int]
      cases q : en2[i]? with
      | none => rfl
      | some s =>
        cases s with
        | own b c =>
          cases c <;> first | rfl | skip
          rename_i ds
          dsimp only [SubP_own]
          cases ixN ds.length k <;> rfl
        | _ => rfl
/-! methods -/
def MutP (en : En) (s : Option Sl) (i : Nat) (sem : D → List D → Option (D × D)) (ds : List D) (P : En → Rv → Prop) : Prop := match s with
  | some (.own b d) => OpP (sem d ds) fun p => P (en.set i (.own b p.2)) (.d p.1)
  | _ => False
@[simp] theorem MutP_own {sem : D → List D → Option (D × D)} {ds : List D} : MutP en (some (.own b d)) i sem ds P = OpP (sem d ds) fun p => P (en.set i (.own b p.2)) (.d p.1) := rfl
@[simp] theorem RsP_mutK {sem : D → List D → Option (D × D)} {xs : List Rv} : RsP (mutK sem i en xs) P E = OpP (freeD en xs) fun ds => MutP en en[i]? i sem ds P := by
  unfold mutK
  cases freeD en xs with
  | none => rfl
  | some ds =>
    dsimp only [OpP_some]
    cases q : en[i]? with
    | none => rfl
    | some s =>
      cases s with
      | own b d =>
        dsimp only [MutP_own]
        cases sem d ds with
        | none => rfl
        | some p => rfl
      | _ => rfl
@[simp] theorem RsP_mut {q : D → Bool} {sem : D → List D → Option (D × D)} {fo : Ev} {av : Av} : RsP (dMut q sem fo av en) P E = RsP (fo en) (fun en1 x => SP_ x fun i => ownIs q en1 i = true ∧ RsP (av en1) (fun en2 xs => RsP (mutK sem i en2 xs) P E) E) E := by
  unfold dMut
  simp only [RsP_bind]
  congr 1
  funext en1 x
  cases x with
  | d _ => rfl
  | s i =>
    dsimp only [SP_s]
    by_cases h : ownIs q en1 i = true
    · rw [if_pos h, RsP_bind]
      simp [h]
    · rw [if_neg h]
      simp [h]
end
/-! ### semantics at constructors -/
section
variable {i j : Int} {x y : Str} {a b : List D} {p q : Bool} {d : D}
@[simp] theorem sAdd_i : sAdd (.int i) (.int j) = some (.int (i + j)) := rfl
@[simp] theorem sAdd_t : sAdd (.tuple a) (.tuple b) = if (a ++ b).length ≤ sizeLine then some (.tuple (a ++ b)) else none := rfl
@[simp] theorem sAdd_l : sAdd (.list a) (.list b) = if (a ++ b).length ≤ sizeLine then some (.list (a ++ b)) else none := rfl
@[simp] theorem sSub_i : sSub (.int i) (.int j) = some (.int (i - j)) := rfl
@[simp] theorem sMul_i : sMul (.int i) (.int j) = if wideB i j = true then some (.int (i * j)) else none := rfl
@[simp] theorem sFdiv_i : sFdiv (.int i) (.int j) = if 0 < j ∧ j.natAbs.log2 < 9000 then some (.int (i / j)) else none := rfl
@[simp] theorem sMod_i : sMod (.int i) (.int j) = if 0 < j then some (.int (i % j)) else none := rfl
@[simp] theorem sPow_i : sPow (.int i) (.int j) = if 0 ≤ j ∧ j ≤ 1000000 ∧ i.natAbs < 2 ^ 64 then some (.int (i ^ j.toNat)) else none := rfl
@[simp] theorem sNeg_i : sNeg (.int i) = some (.int (-i)) := rfl
@[simp] theorem sCmp_i {f : Int → Int → Bool} : sCmp f (.int i) (.int j) = some (.bool (f i j)) := rfl
@[simp] theorem sEq_i : sEq (.int i) (.int j) = some (.bool (i == j)) := rfl
@[simp] theorem sEq_s : sEq (.str x) (.str y) = some (.bool (x == y)) := rfl
@[simp] theorem sEq_b : sEq (.bool p) (.bool q) = some (.bool (p == q)) := rfl
@[simp] theorem sNe_i : sNe (.int i) (.int j) = some (.bool (!(i == j))) := rfl
@[simp] theorem sNe_s : sNe (.str x) (.str y) = some (.bool (!(x == y))) := rfl
@[simp] theorem sNe_b : sNe (.bool p) (.bool q) = some (.bool (!(p == q))) := rfl
@[simp] theorem sIs_n : sIs d .none = some (.bool (isNone d)) := by cases d <;> rfl
@[simp] theorem sIsNot_n : sIsNot d .none = some (.bool (!isNone d)) := by cases d <;> rfl
@[simp] theorem isNone_n : isNone .none = true := rfl
@[simp] theorem isNone_i : isNone (.int i) = false := rfl
@[simp] theorem isNone_s : isNone (.str x) = false := rfl
@[simp] theorem isNone_t : isNone (.tuple a) = false := rfl
@[simp] theorem isNone_l : isNone (.list a) = false := rfl
@[simp] theorem isNone_b : isNone (.bool p) = false := rfl
@[simp] theorem sIx_l : sIx (.list a) (.int i) = atI a i := rfl
@[simp] theorem sIx_t : sIx (.tuple a) (.int i) = atI a i := rfl
@[simp] theorem sIx_scr : sIx (.dict [(.none, .list a)]) (.int i) = atI a i := rfl
@[simp] theorem sLen_l : sLen [.list a] = some (.int (a.length : Nat)) := rfl
@[simp] theorem sLen_t : sLen [.tuple a] = some (.int (a.length : Nat)) := rfl
@[simp] theorem sLen_scr : sLen [.dict [(.none, .list a)]] = some (.int (a.length : Nat)) := rfl
@[simp] theorem sInt_i : sInt [.int i] = some (.int i) := rfl
@[simp] theorem sInt_b : sInt [.bool p] = some (.int (if p then 1 else 0)) := rfl
@[simp] theorem sAbs_i : sAbs [.int i] = some (.int (if i < 0 then -i else i)) := rfl
@[simp] theorem sMax_2 : sMax [.int i, .int j] = some (.int (if j > i then j else i)) := rfl
@[simp] theorem sMin_2 : sMin [.int i, .int j] = some (.int (if j < i then j else i)) := rfl
@[simp] theorem sTuple_l : sTuple [.list a] = some (.tuple a) := rfl
@[simp] theorem sTuple_t : sTuple [.tuple a] = some (.tuple a) := rfl
@[simp] theorem sList_l : sList [.list a] = some (.list a) := rfl
@[simp] theorem sList_t : sList [.tuple a] = some (.list a) := rfl
@[simp] theorem mAppend_l : mAppend (.list a) [d] = if a.length < sizeLine then some (.none, .list (a ++ [d])) else none := rfl
@[simp] theorem mExtend_l : mExtend (.list a) [.list b] = if a.length + b.length ≤ sizeLine then some (.none, .list (a ++ b)) else none := rfl
theorem atI_n {xs : List D} {k : Nat} : atI xs (k : Int) = xs[k]? := by
  unfold atI ixN
  rw [if_pos (by omega)]
  by_cases h : k < xs.length
  · rw [if_pos (by omega)]
    simp
  · rw [if_neg (by omega), List.getElem?_eq_none (by omega)]
    rfl
@[simp] theorem atI_2 {xs : List D} : atI xs 2 = xs[2]? := atI_n (k := 2)
@[simp] theorem atI_3 {xs : List D} : atI xs 3 = xs[3]? := atI_n (k := 3)
@[simp] theorem atI_4 {xs : List D} : atI xs 4 = xs[4]? := atI_n (k := 4)
@[simp] theorem atI_5 {xs : List D} : atI xs 5 = xs[5]? := atI_n (k := 5)
@[simp] theorem atI_0 {xs : List D} : atI xs 0 = xs[0]? := atI_n (k := 0)
@[simp] theorem atI_1 {xs : List D} : atI xs 1 = xs[1]? := atI_n (k := 1)
theorem ixN_n {n k : Nat} (h : k < n) : ixN n (k : Int) = some k := by
  unfold ixN
  rw [if_pos (by omega), if_pos (by omega)]
  simp
end
end DL
/-! Dend: from the layer's words to a law's row. -/
namespace DL
open PySem PySem.Spec L2
open PyProof.Rows hiding St
section
variable {P : Program} {w : World} {K : PySem.W.Frag} {mg : Str → Option Value} {h : Heap}
/-- the law's promise -/
def spEnd (K : PySem.W.Frag) : Sp := fun vs H Q _ => ∃ (a : Addr) (ns : List Int), vs = [.ref a] ∧ SqL K H a (ns.map V.int) ∧ ns.length ≤ 63 ∧ ∀ H', Q (.bl true) H'
theorem end_fn {base : Heap} {k : Nat} {f : Addr} {fd : FuncData} {ps : List Str} {fs : Fs} (F : FnOk P w K mg base (L2.CX P w) k f fd ps (spF K mg fs))
    (h : ∀ ns : List Int, ns.length ≤ 63 → RfP (fs [.v (.dict [(.none, .list (ns.map .int))])]) (fun r os => r = .v (.bool true) ∧ os = []) fun _ _ => False) : FnOk P w K mg base (L2.CX P w) k f fd ps (spEnd K) := by
  refine F.imp fun vs H Q E z => ?_
  obtain ⟨a, ns, rfl, hS, hl, q⟩ := z
  obtain ⟨r, os, e, rfl, rfl⟩ := (h ns hl).ok
  refine ⟨H, [.v (.dict [(.none, .list (ns.map .int))])], [], Same.refl H, ⟨.scr hS, trivial⟩, List.nodup_nil, ?_⟩
  rw [e]
  intro v F' H' _ _ hr
  cases hr
  exact q H'
/-- a def that stands in the module -/
def Df (K : PySem.W.Frag) (mg : Str → Option Value) (x : Str) (st : Stmt) : Prop := ∃ (f : Addr) (fd : FuncData), Fun K x x st f fd ∧ mg x = some (.ref f)
theorem Df.mk {x : Str} {st : Stmt} {f : Addr} {oc : Value} {od an : Option Addr} {osl : Array (Option Value)} {kV doc pm cdv ct : Value} (X : K.In h) (G : h.Ns mainGlobals mg) (a : PySem.W.nsIn K mainGlobals x = some (some (.ref f)))
    (l : K.lookup f = some ⟨oc, od, .func (PySem.W.fnOf x x (defArgs st) (defBody st) (defScope st) .none kV doc pm an cdv ct), osl⟩) (c : PySem.W.codeIn K cdv x = true) (k : PySem.W.keepIn K (.ref f) = true) : Df K mg x st :=
  ⟨f, _, fun_mk l c k, PySem.W.mg_of X G a⟩
theorem Konst.int_in {x : Str} {i : Int} {t : Tok} (X : K.In h) (G : h.Ns mainGlobals mg) (a : PySem.W.nsIn K mainGlobals x = some (some (.int i t))) : Konst K mg x (.int i) := .int (PySem.W.mg_of X G a)
theorem Konst.str_in {x : Str} {i : Str} {t : Tok} (X : K.In h) (G : h.Ns mainGlobals mg) (a : PySem.W.nsIn K mainGlobals x = some (some (.str i t))) : Konst K mg x (.str i) := .str (PySem.W.mg_of X G a)
theorem Bt.in_ (X : K.In h) (G : h.Ns mainGlobals mg) (z1 : PySem.W.nsIn K mainGlobals "len" = some none) (z2 : PySem.W.nsIn K mainGlobals "int" = some none) (z3 : PySem.W.nsIn K mainGlobals "bool" = some none) (z4 : PySem.W.nsIn K mainGlobals "str" = some none)
    (z5 : PySem.W.nsIn K mainGlobals "list" = some none) (z6 : PySem.W.nsIn K mainGlobals "tuple" = some none) (z7 : PySem.W.nsIn K mainGlobals "set" = some none) (z8 : PySem.W.nsIn K mainGlobals "dict" = some none) (z9 : PySem.W.nsIn K mainGlobals "abs" = some none)
    (z10 : PySem.W.nsIn K mainGlobals "all" = some none) (z11 : PySem.W.nsIn K mainGlobals "any" = some none) (z12 : PySem.W.nsIn K mainGlobals "sum" = some none) (z13 : PySem.W.nsIn K mainGlobals "max" = some none) (z14 : PySem.W.nsIn K mainGlobals "min" = some none)
    (z15 : PySem.W.nsIn K mainGlobals "sorted" = some none) (z16 : PySem.W.nsIn K mainGlobals "range" = some none) (z17 : PySem.W.nsIn K mainGlobals "enumerate" = some none) (z18 : PySem.W.nsIn K mainGlobals "isinstance" = some none) : Bt mg :=
  .mk (PySem.W.mg_none_of X G z1) (PySem.W.mg_none_of X G z2) (PySem.W.mg_none_of X G z3) (PySem.W.mg_none_of X G z4) (PySem.W.mg_none_of X G z5) (PySem.W.mg_none_of X G z6) (PySem.W.mg_none_of X G z7) (PySem.W.mg_none_of X G z8) (PySem.W.mg_none_of X G z9)
    (PySem.W.mg_none_of X G z10) (PySem.W.mg_none_of X G z11) (PySem.W.mg_none_of X G z12) (PySem.W.mg_none_of X G z13) (PySem.W.mg_none_of X G z14) (PySem.W.mg_none_of X G z15) (PySem.W.mg_none_of X G z16) (PySem.W.mg_none_of X G z17) (PySem.W.mg_none_of X G z18)
theorem OwnX.in_ {x : Str} {C : Addr} (X : K.In h) (G : h.Ns mainGlobals mg) (a : PySem.W.nsIn K mainGlobals x = some (some (.ref C))) (q : PySem.W.excIn K C [.type "ValueError", .type "Exception", .type "BaseException", .type "object"] "ValueError.__new__" = true)
    (k : PySem.W.keepIn K (.ref C) = true) (s : PySem.W.subIn K (.ref C) (.type "BaseException") = some true) (t : PySem.W.typeIn K (.ref C) = some (.type "type")) : OwnX K mg x := ⟨C, PySem.W.mg_of X G a, q, k, s, t⟩
/-- a class that is caught, and one above it that is asked for -/
def XY (K : PySem.W.Frag) (mg : Str → Option Value) (x y : Str) : Prop := ∃ C Y, XCls K mg x C ∧ mg y = some (.ref Y) ∧ PySem.W.kitOne K (.ref C) (.ref Y) = some true
theorem XCls.in_ {x : Str} {C : Addr} (X : K.In h) (G : h.Ns mainGlobals mg) (a : PySem.W.nsIn K mainGlobals x = some (some (.ref C))) (hs : PySem.W.subIn K (.ref C) (.type "BaseException") = some true) (hd : PySem.W.hasDictIn K C = true) (ht : PySem.W.typeIn K (.ref C) = some (.type "type")) (sf : PySem.W.subIn K (.ref C) (.ref C) = some true)
    (hg : PySem.W.findIn K (.ref C) "__getattribute__" = some (some (.builtin "BaseException.__getattribute__"))) (hk : PySem.W.findIn K (.ref C) "__getattr__" = some none) (ha : PySem.W.findIn K (.ref C) "__class__" = some (some (.builtin "object.__class__")))
    (hn : PySem.W.specialIn K (.builtin "object.__class__") "__get__" = some (some (.builtin "getset_descriptor.__get__"))) (tk : PySem.W.takesIn K (.builtin "object.__class__") = some true) (hm : PySem.W.mroIn K C (.type "object") = some true) : XCls K mg x C :=
  ⟨PySem.W.mg_of X G a, PySem.W.exm_ref hs hd ht sf, ⟨hg, hk, hs, hd, ha, hn, tk, hm⟩⟩
theorem XY.in_ {x y : Str} {C Y : Addr} (X : K.In h) (G : h.Ns mainGlobals mg) (xc : XCls K mg x C) (b : PySem.W.nsIn K mainGlobals y = some (some (.ref Y))) (k : PySem.W.kitOne K (.ref C) (.ref Y) = some true) : XY K mg x y :=
  ⟨C, Y, xc, PySem.W.mg_of X G b, k⟩
end
end DL
/-! Dl17: pop without a place, starred items, list(range(..)), index of a list, a dict's items. -/
namespace DL
open PySem PySem.Spec L2
open PyProof.Rows hiding St
section
variable {X : Cx} {g : Gh} {W : XW} {a b : Expr} {es : List Expr} {fa fb : Ev} {av : Av} {pos p p2 pos2 apos : Pos}
/-! ### xs.pop() -/
def mPop : D → List D → Option (D × D)
  | .list ds, [] => (match ds[ds.length - 1]? with
    | some y => some (y, .list ds.dropLast)
    | none => none)
  | _, _ => none
theorem DvAll.dropLast {K : PySem.W.Frag} {F : Hp} : ∀ {vs : List V} {ds : List D}, DvAll K F vs ds → DvAll K F vs.dropLast ds.dropLast
  | _, _, .nil => .nil
  | _, _, .cons a .nil => .nil
  | _, _, .cons a (.cons b c) => .cons a (DvAll.dropLast (.cons b c))
theorem sm_pop {K : PySem.W.Frag} : SemM K rPop mPop := by
  intro F H p d vs ds e d' Q s ow al hs k
  unfold mPop at hs
  split at hs
  · split at hs
    · rename_i y ey
      cases hs
      obtain ⟨xs, q, a⟩ := own_lst ow
      cases al
      obtain ⟨x, ex, dx⟩ := a.at ey
      exact ⟨p, xs, x, rfl, rfl, q, by rw [a.length]; exact ex, k _ _ dx (.lst upd_same a.dropLast)⟩
    · cases hs
  · cases hs
theorem de_pop0 (ho : DE X g W a fa) (hbase : attributeBase a "pop" X.env (eval a X.env) = eval a X.env := by rfl) (hline : (apos.endLine == pos.line) = true := by rfl) :
    DE X g W (.Call (.Attribute a "pop" apos) [] [] pos) (dMut isListD mPop fa aNil) :=
  PE.imp (pe_bm0 PySem.F.plainAttrs_list PySem.F.slot_list_pop PySem.F.type_list_pop mt_pop ho hbase hline) fun σ H Q h => by
    obtain ⟨F, en, rp, f⟩ := mut_walk (X := X) isA_list sm_pop h
    refine ⟨F, en, rp, f.mono fun F1 H1 en1 x s1 r1 q v hv => ?_⟩
    obtain ⟨h1, F2, en2, r2, f2⟩ := q v hv
    exact ⟨h1, f2 F2 H1 (Same.refl _) r2 [] trivial⟩
/-! ### list(range(a, b)) -/
def rgOk (a b : Int) : Bool := decide (-(2 ^ 62) ≤ a ∧ a < 2 ^ 62 ∧ -(2 ^ 62) ≤ b ∧ b < 2 ^ 62 ∧ (b - a).toNat ≤ 2 ^ 24)
def oLRg2 (fa fb : Ev) : Ov := fun en => (fa en).bind fun en1 x => (fb en1).bind fun en2 y => match x, y with
  | .d (.int i), .d (.int j) => if rgOk i j = true then .ok en2 (.list ((List.range (j - i).toNat).map fun k => .int (i + (k : Nat)))) else .no
  | _, _ => .no
theorem dv_rg {K : PySem.W.Frag} {F : Hp} (i : Int) : ∀ ks : List Nat, DvAll K F (ks.map fun k => V.int (i + (k : Nat))) (ks.map fun k => PyData.int (i + (k : Nat)))
  | [] => .nil
  | k :: ks => .cons (.int _) (dv_rg i ks)
theorem do_listRg2 (hc : X.calm = true) (B : Bt X.mg) (ha : DE X g W a fa) (hb : DE X g W b fb) (hg : Gl X "list" := by rfl) (hg2 : Gl X "range" := by rfl)
    (na : starEach [a, b] X.env = (false, eval a X.env) :: starEach [b] X.env := by rfl) (nb : starEach [b] X.env = (false, eval b X.env) :: starEach [] X.env := by rfl) (hp : (backTo pos2 (starEach [b] X.env)).any (·.1) = false := by rfl)
    (nc : starEach [.Call (.Name "range" p2) [a, b] [] pos2] X.env = (false, eval (.Call (.Name "range" p2) [a, b] [] pos2) X.env) :: starEach [] X.env := by rfl) :
    DO X g W (.Call (.Name "list" p) [.Call (.Name "range" p2) [a, b] [] pos2] [] pos) (oLRg2 fa fb) := by
  refine PE.imp (pe_listRg hc hg B.list (prg_2 hg2 B.range ha hb na nb hp) nc) fun σ H Q h => ?_
  obtain ⟨F, en, rp, f⟩ := h
  refine ⟨F, en, rp, (Fin.seq f).mono fun F1 H1 en1 x s1 r1 f1 v hv => ⟨F1, en1, r1, (Fin.seq f1).mono fun F2 H2 en2 y s2 r2 f2 u hu => ?_⟩⟩
  split at f2
  · rename_i i j
    split at f2
    · rename_i hr
      cases hv
      cases hu
      unfold rgOk at hr
      refine ⟨_, _, rfl, rfl, by simpa [RgOk] using hr, fun q hq => ?_⟩
      obtain ⟨r3, n3⟩ := r2.fresh hq (d := .list ((List.range (j - i).toNat).map fun k => .int (i + (k : Nat)))) (.lst upd_same (dv_rg i _))
      exact f2 F2 H2 (Same.refl _) r2 q _ r3 n3
    · exact f2.elim
  · exact f2.elim
/-! ### f(*t, ..), (*t, ..) -/
def aStar (fa : Ev) (r : Av) : Av := fun en => (fa en).bind fun en1 x => match x with
  | .d (.tuple ds) => (r en1).bind fun en2 xs => .ok en2 (ds.map Rv.d ++ xs)
  | _ => .no
theorem rvAll_of {K : PySem.W.Frag} {F : Hp} {σ : St} : ∀ {vs : List V} {ds : List D}, DvAll K F vs ds → RvAll K F σ vs (ds.map Rv.d)
  | _, _, .nil => trivial
  | _, _, .cons a b => ⟨a, rvAll_of b⟩
theorem da_star (ha : DE X g W a fa) (hr : DA X g W es av) (hs : starEach (.Starred a p :: es) X.env = (true, eval a X.env) :: starEach es X.env := by rfl) : DA X g W (.Starred a p :: es) (aStar fa av) := by
  refine PA.imp (StX.pa_star ha hr hs) fun σ H Q h => ?_
  obtain ⟨F, en, rp, f⟩ := h
  refine ⟨F, en, rp, (Fin.seq f).mono fun F1 H1 en1 x s1 r1 f1 v hv => ?_⟩
  split at f1
  · rename_i ds
    cases hv with
    | tup q al =>
      refine ⟨_, _, rfl, .inl (sqT_mono r1.fz q), F1, en1, r1, (Fin.seq f1).mono fun F2 H2 en2 xs s2 r2 f2 vs hvs => ?_⟩
      exact f2 F2 H2 (Same.refl _) r2 _ (RvAll.append (rvAll_of (al.mono s2)) hvs)
  · exact f1.elim
end
end DL
/-! Dl18: a dict by its keys: d[k], d.get(k, x), d[k] = v. -/
namespace DL
open PySem PySem.Spec L2
open PyProof.Rows hiding St
/-- what stands at the key k -/
def valP : List (D × D) → D → Option D
  | [], _ => none
  | (j, d) :: r, k => if keyEq j k = true then some d else valP r k
theorem DvKV.val {K : PySem.W.Frag} {F : Hp} {k : Key} : ∀ {kvs : List (Key × V)} {ps : List (D × D)}, DvKV K F kvs ps → (∀ d, valP ps (keyD k) = some d → ∃ v, valV kvs k = some v ∧ Dv K F v d) ∧ (valP ps (keyD k) = none → valV kvs k = none)
  | _, _, .nil => ⟨fun d e => (nomatch e), fun _ => rfl⟩
  | _, _, .cons (k := j) (v := v) (d := d0) (kvs := kvs) (ps := ps) a b => by
    obtain ⟨h1, h2⟩ := DvKV.val (k := k) b
    unfold valP
    rw [keyEq_key]
    by_cases e : j = k
    · rw [if_pos (decide_eq_true e)]
      exact ⟨fun d q => ⟨v, valV_pos (p := (j, v)) e, by cases q; exact a⟩, fun q => by cases q⟩
    · rw [if_neg (by rw [decide_eq_false e]; exact Bool.false_ne_true)]
      exact ⟨fun d q => by
        obtain ⟨u, e1, e2⟩ := h1 d q
        exact ⟨u, (valV_neg (p := (j, v)) e).trans e1, e2⟩, fun q => (valV_neg (p := (j, v)) e).trans (h2 q)⟩
def noHead : List (D × D) → Bool
  | (.none, _) :: _ => false
  | _ => true
def sDIx : D → D → Option D
  | .dict ps, k => if (keyOf k).isSome = true ∧ noHead ps = true then valP ps k else none
  | _, _ => none
section
variable {X : Cx} {g : Gh} {W : XW} {a b c : Expr} {fa fb fc : Ev} {pos p apos pos' : Pos}
theorem vw_dK {K : PySem.W.Frag} {F H : Hp} {v : V} {ps : List (D × D)} (s : Same F H) (h : Vw K F H v (.dict ps)) (n : noHead ps = true) : ∃ (a : Addr) (kvs : List (Key × V)), v = .ref a ∧ H a = some (.dK kvs) ∧ DvKV K F kvs ps := by
  rcases vw_dict s h with ⟨a, kvs, rfl, q, kv⟩ | ⟨ms, rfl⟩ | ⟨a, kvs, es, rfl, q, al, rfl⟩
  · exact ⟨a, kvs, rfl, q, kv⟩
  · cases n
  · cases n
theorem key_v {K : PySem.W.Frag} {F H : Hp} {v : V} {k : Key} (h : Vw K F H v (keyD k)) : v = kV k := by
  cases k with
  | inl i => exact vw_int h
  | inr x => exact vw_str h
theorem de_dix {j : Nat} (hr : Room j X.A) (ha : DE X g W a fa) (hb : DE X g W b fb) (hs : NoSl b := by exact fun _ _ => rfl) : DE X g W (.Subscript a b pos) (dOp sDIx fa fb) := by
  refine PE.imp (pe_dget (hu_of hr) ha hb hs) fun σ H Q h => ?_
  obtain ⟨F, en, rp, f⟩ := h
  refine ⟨F, en, rp, (Fin.seq f).mono fun F1 H1 en1 x s1 r1 f1 v hv => ⟨F1, en1, r1, (Fin.seq f1).mono fun F2 H2 en2 y s2 r2 f2 u hu => ?_⟩⟩
  refine of_op2 (sem := sDIx) (en := en2) (x := x) (y := y) (fun e => by rw [e] at f2; exact f2.elim) fun d e c e1 e2 e3 e4 => ?_
  have hd := r2.view (RvOk.mono s2 hv) e1
  have he := r2.view hu e2
  unfold sDIx at e3
  split at e3
  · rename_i ps k
    split at e3
    · rename_i hh
      obtain ⟨k2, hk⟩ := Option.isSome_iff_exists.mp hh.1
      have := keyOf_eq hk
      subst this
      obtain ⟨p, kvs, rfl, q, kv⟩ := vw_dK r2.fz hd hh.2
      have := key_v he
      subst this
      obtain ⟨w, e5, e6⟩ := kv.val.1 _ e3
      exact ⟨p, w, rfl, e5 ▸ DGet.k q, (fin1 r2 e4 f2).of r2.fz e6⟩
    · cases e3
  · cases e3
/-! ### d.get(k, x) -/
def sDGet (d k z : D) : Option D := match d with
  | .dict ps => if (keyOf k).isSome = true ∧ noHead ps = true then some ((valP ps k).getD z) else none
  | _ => none
def dDGet (fa fb fc : Ev) : Ev := fun en => (fa en).bind fun en1 x => match res en1 x with
  | some (.dict ps) => if noHead ps = true then (fb en1).bind fun en2 y => (fc en2).bind fun en3 z => (match res en3 x, y, z with
      | some d, .d k, .d e => (match sDGet d k e with
        | some r => .ok en3 (.d r)
        | none => .no)
      | _, _, _ => .no) else .no
  | _ => .no
theorem de_dget {j : Nat} (hr : Room j X.A) (ha : DE X g W a fa) (hb : DE X g W b fb) (hc : DE X g W c fc) (m : M2 X a "get" apos b c pos := by exact ⟨rfl, rfl, rfl, rfl⟩) : DE X g W (.Call (.Attribute a "get" apos) [b, c] [] pos) (dDGet fa fb fc) := by
  refine PE.imp (pe_dget2 (hu_of hr) ha hb hc m) fun σ H Q h => ?_
  obtain ⟨F, en, rp, f⟩ := h
  refine ⟨F, en, rp, (Fin.seq f).mono fun F1 H1 en1 x s1 r1 f1 v hv => ?_⟩
  cases e0 : res en1 x with
  | none => rw [e0] at f1; exact f1.elim
  | some d0 =>
    rw [e0] at f1
    cases d0 with
    | dict ps =>
      dsimp only at f1
      split at f1
      · rename_i hh
        obtain ⟨p, kvs, rfl, q, kv⟩ := vw_dK r1.fz (r1.view hv e0) hh
        refine ⟨p, rfl, .inl ⟨kvs, .inl q⟩, F1, en1, r1, (Fin.seq f1).mono fun F2 H2 en2 y s2 r2 f2 u hu => ⟨F2, en2, r2, (Fin.seq f2).mono fun F3 H3 en3 z s3 r3 f3 t ht => ?_⟩⟩
        split at f3
        · rename_i d k e e1
          split at f3
          · rename_i r er
            unfold sDGet at er
            split at er
            · rename_i ps2
              split at er
              · rename_i h2
                cases er
                obtain ⟨k2, hk⟩ := Option.isSome_iff_exists.mp h2.1
                have := keyOf_eq hk
                subst this
                obtain ⟨p2, kvs2, e5, q2, kv2⟩ := vw_dK r3.fz (r3.view (RvOk.mono (s2.trans s3) hv) e1) h2.2
                cases e5
                have := key_v (H := H3) (F := F3) (.fz (Dv.mono s3 hu))
                subst this
                refine ⟨valV kvs2 k2, DGet.k q2, ?_⟩
                cases qv : valP ps2 (keyD k2) with
                | none =>
                  rw [kv2.val.2 qv]
                  exact f3 F3 H3 (Same.refl _) r3 t (by rw [qv]; exact ht)
                | some d2 =>
                  obtain ⟨w, e6, e7⟩ := kv2.val.1 _ qv
                  rw [e6]
                  exact f3 F3 H3 (Same.refl _) r3 w (by rw [qv]; exact e7)
              · cases er
            · cases er
          · exact f3.elim
        · exact f3.elim
      · exact f1.elim
    | _ => exact f1.elim
/-! ### d[k] = v -/
def bDPut (fo fk fv : Ev) : Bd := fun en => (fv en).out fun en1 x => (fo en1).out fun en2 o => (fk en2).out fun en3 y => match x, o, y with
  | .d d, .s i, .d k => (match en3[i]? with
    | some (.own b (.dict ps)) => if (keyOf k).isSome = true ∧ noHead ps = true ∧ ps.length < sizeLine then .nx (en3.set i (.own b (.dict (putP ps k d)))) else .no
    | _ => .no)
  | _, _, _ => .no
theorem own_dK {K : PySem.W.Frag} {F H : Hp} {p : Addr} {ps : List (D × D)} (h : OwnAt K F H p (.dict ps)) (n : noHead ps = true) : ∃ kvs, H p = some (.dK kvs) ∧ DvKV K F kvs ps := by
  cases h with
  | dct q a => exact ⟨_, q, DvKV.of a⟩
  | dctT q a => cases n
theorem ds_dput {j : Nat} (hr : Room j X.A) (ho : DE X g W a fa) (hk : DE X g W b fb) (hv : DE X g W c fc) (hs : swapsWith c (some (.Subscript a b pos')) pos.line X.env = pure false := by rfl) : DS X g W (.Assign [.Subscript a b pos'] c pos) (bDPut fa fb fc) := by
  refine PS.imp (ps_dput (hu_of hr) ho hk hv hs) fun E σ H h => ?_
  obtain ⟨F, en, rp, f⟩ := h
  refine ⟨F, en, rp, FinS.of_out f fun F1 H1 en1 x s1 r1 f1 v hv => ⟨F1, en1, r1, FinS.of_out f1 fun F2 H2 en2 o s2 r2 f2 u hu => ⟨F2, en2, r2, FinS.of_out f2 fun F3 H3 en3 y s3 r3 f3 w hw => ?_⟩⟩⟩
  split at f3
  · rename_i d i k
    split at f3
    · rename_i bb ps e1
      split at f3
      · rename_i hh
        obtain ⟨k2, hk2⟩ := Option.isSome_iff_exists.mp hh.1
        have := keyOf_eq hk2
        subst this
        obtain ⟨p, e2, ow, _⟩ := r3.own i bb _ e1
        have hu' : σ[i]? = some (some u) := hu
        rw [hu'] at e2
        cases e2
        obtain ⟨kvs, q, kv⟩ := own_dK ow hh.2.1
        have := key_v (H := H3) (F := F3) (.fz hw)
        subst this
        refine ⟨p, _, rfl, DPut.k q (by rw [kv.length]; exact hh.2.2), ?_⟩
        exact f3 _ F3 _ (Same.refl _) (r3.write e1 hu' _ ((kv.put (Dv.mono (s2.trans s3) hv)).own upd_same))
      · exact f3.elim
    · exact f3.elim
  · exact f3.elim
end
end DL
/-! Dl19: a written dict. -/
namespace DL
open PySem PySem.Spec L2
open PyProof.Rows hiding St
/-- the pairs, one behind the other -/
def pairsM : List (D × Ev) → En → List (D × D) → Rs (List (D × D))
  | [], en, acc => .ok en acc
  | (k, fv) :: r, en, acc => (match fv en with
    | .ok en1 (.d d) => (match unw en en1 with
      | some en2 => pairsM r en2 (putP acc k d)
      | none => .no)
    | _ => .no)
def oDisp (l : List (D × Ev)) : Ov := fun en => (pairsM l en []).bind fun en1 ps => .ok en1 (.dict ps)
/-- keys that are numbers or texts as written; the values' meanings -/
inductive DPs (X : Cx) : List (Option Expr) → List Expr → List (Key × Ev) → Prop
  | nil : DPs X [] [] []
  | cons {ke v : Expr} {k : Key} {fv : Ev} {keys : List (Option Expr)} {vals : List Expr} {l : List (Key × Ev)} (hk : PE X ke fun _ H Q => Q (kV k) H) (hv : ∀ g', DE X g' (W0 X.K X.mg) v fv) (r : DPs X keys vals l) : DPs X (some ke :: keys) (v :: vals) ((k, fv) :: l)
def keysL (l : List (Key × Ev)) : List (D × Ev) := l.map fun p => (keyD p.1, p.2)
def trsL (K : PySem.W.Frag) (W : XW) (l : List (Key × Ev)) : List (TE × TE) := l.map fun p => ((fun _ H Q => Q (kV p.1) H), fun σ H Q => ∃ g', liftE K g' W p.2 σ H Q)
theorem DPs.pps {X : Cx} {pos : Pos} : ∀ {keys : List (Option Expr)} {vals : List Expr} {l : List (Key × Ev)}, DPs X keys vals l → PPs X pos keys vals (trsL X.K (W0 X.K X.mg) l)
  | _, _, _, .nil => pps_nil
  | _, _, _, .cons hk hv r => pps_cons hk ⟨fun pins s σ H Q I ⟨g', q⟩ => (hv g').run pins s σ H Q I q⟩ r.pps
theorem pairs_walk {K : PySem.W.Frag} {g : Gh} {W W' : XW} {σ : St} {L : Addr} {P : Hp → Hp → En → List (D × D) → Prop} : ∀ (l : List (Key × Ev)) {F H : Hp} {en : En} {acc : List (D × D)} {kv : List (Key × V)} (C : List (V × V) → Hp → Prop),
    Rep K g F en σ H → H L = some (.dK []) → F L = none → g.H0 L = none → ¬ IsOwn en σ L → DvKV K F kv acc → Fin K g W' σ F (pairsM (keysL l) en acc) P →
    (∀ (kvs : List (Key × V)) (F2 H2 : Hp) (en2 : En) (acc2 : List (D × D)), kvs.length = l.length → Rep K g F2 en2 σ H2 → H2 L = some (.dK []) → F2 L = none → ¬ IsOwn en2 σ L → DvKV K F2 (mergeK kv kvs) acc2 → P F2 H2 en2 acc2 → C (kvs.map fun q => (kV q.1, q.2)) H2) →
    tPairs (trsL K W l) σ H C
  | [], F, H, en, acc, kv, C, r, e, nF, n0, nO, a, f, hC => hC [] F H en acc rfl r e nF nO a (f F H (Same.refl _) r)
  | (k, fv) :: l, F, H, en, acc, kv, C, r, e, nF, n0, nO, a, f, hC => by
    obtain ⟨g', hs⟩ := sub_ex g F H en σ
    have rb := r.block (vs := []) hs rfl hs.2.2.2.1
    have f' : Fin K g W' σ F (match fv en with
      | .ok en1 (.d d) => (match unw en en1 with
        | some en2 => pairsM (keysL l) en2 (putP acc (keyD k) d)
        | none => .no)
      | _ => .no) P := f
    have keep : ∀ {F4 H4 : Hp} {en4 : En} {σ4 : St}, Rep K { g' with Pl := [], Rw := [] } F4 en4 σ4 H4 → H4 L = some (.dK []) ∧ F4 L = none := fun {F4 H4 en4 σ4} r4 => by
      obtain ⟨a1, a2, a3, _⟩ := hs
      have n : L ∉ g'.Ps := fun q => nO ((a3 L).mp q)
      exact ⟨r4.fr L _ (by show g'.H0 L = _; rw [a2]; exact e) n, r4.nw L (by show g'.F0 L = _; rw [a1]; exact nF) (by show g'.H0 L ≠ none; rw [a2, e]; exact fun z => by cases z) n⟩
    refine ⟨{ g' with Pl := [], Rw := [] }, F, en, rb, ?_⟩
    show Fin K { g' with Pl := [], Rw := [] } W σ F (fv en) _
    cases e1 : fv en with
    | no => rw [e1] at f'; exact f'.elim
    | ex en1 x => rw [e1] at f'; exact f'.elim
    | ok en1 rv =>
      rw [e1] at f'
      cases rv with
      | s i => exact f'.elim
      | d d =>
        dsimp only at f'
        intro F4 H4 s4 r4 v hv
        cases e2 : unw en en1 with
        | none => rw [e2] at f'; exact f'.elim
        | some en2 =>
          rw [e2] at f'
          obtain ⟨k1, k2⟩ := keep r4
          have hw : ∀ (j : Nat) (b : Bool) (d : D), en[j]? = some (.own b d) → j ∉ ([] : List Nat) := fun _ _ _ _ z => by cases z
          have r5 := r.unblock hs hw rfl r4 rfl s4 e2
          have nO2 : ¬ IsOwn en2 σ L := fun z => by
            obtain ⟨j, b, d, z1, z2⟩ := z
            rcases (unw_at e2).2.2 j _ z1 with ⟨b', d0, d', w1, _, w⟩ | ⟨_, w⟩
            · exact nO ⟨j, b', d0, w1, z2⟩
            · exact w b d rfl
          exact pairs_walk l (fun ps H3 => C ((kV k, v) :: ps) H3) r5 k1 k2 n0 nO2 ((a.mono s4).put hv) (Fin.weak s4 f') fun kvs F2 H2 en3 acc2 hl r6 e6 nF6 nO6 a6 p6 => hC ((k, v) :: kvs) F2 H2 en3 acc2 (congrArg (· + 1) hl) r6 e6 nF6 nO6 a6 p6
section
variable {X : Cx} {g : Gh} {W : XW} {pos : Pos}
theorem do_disp {keys : List (Option Expr)} {vals : List Expr} {l : List (Key × Ev)} (h : DPs X keys vals l) (hall : keys.all (·.isSome) = true := by rfl) (hl : keys.length = vals.length := by rfl) (h0 : keys ≠ [] := by exact fun z => by cases z) (h15 : keys.length ≤ 15 := by decide) (hn : l.length ≤ 15 := by decide) :
    DO X g W (.Dict keys vals pos) (oDisp (keysL l)) := by
  refine PE.imp (pe_disp h.pps hall hl h0 h15) fun σ H Q h => ?_
  obtain ⟨F, en, rp, f⟩ := h
  intro p hp
  obtain ⟨r2, n2⟩ := rp.fresh hp (d := .dict []) (OwnAt.dct (kvs := []) (ds := []) upd_same .nil)
  refine pairs_walk (W := W0 X.K X.mg) l _ r2 upd_same n2.nf n2.nh n2.no .nil (Fin.seq f) fun kvs F2 H2 en2 acc2 hl r6 e6 nF6 nO6 a6 p6 => ?_
  exact ⟨e6, kvs, rfl, by rw [hl]; exact hn, p6 F2 H2 (Same.refl _) r6 p _ (r6.scratch _ nF6 nO6 n2.nh) ⟨a6.own upd_same, nF6, n2.nh, nO6⟩⟩
end
end DL
/-! Dl20: methods of values; several except clauses without names. -/
namespace DL
open PySem PySem.Spec L2
open PyProof.Rows hiding St
section
variable {X : Cx} {g : Gh} {W : XW} {a b c : Expr} {es : List Expr} {fa fb fc : Ev} {av : Av} {pos p apos pos' : Pos}
/-! ### v.m(..), v a value -/
def dMeth (q : D → Bool) (sem : D → List D → Option D) (fo : Ev) (av : Av) : Ev := fun en => (fo en).bind fun en1 x => match res en1 x with
  | some d0 => if q d0 = true then (av en1).bind fun en2 xs => (match res en2 x, resAll en2 xs with
      | some d, some ds => (match sem d ds with
        | some r => .ok en2 (.d r)
        | none => .no)
      | _, _ => .no) else .no
  | none => .no
/-- the receiver's type, by its datum -/
def IsT (K : PySem.W.Frag) (q : D → Bool) (T : String) : Prop := ∀ F H v d, Same F H → Vw K F H v d → q d = true → tyV K T v H
def SemV (K : PySem.W.Frag) (r : V → List V → Hp → VK → Prop) (sem : D → List D → Option D) : Prop := ∀ F H v d vs ds c Q, Same F H → Vw K F H v d → VwAll K F H vs ds → sem d ds = some c → Give K F H c Q → r v vs H Q
theorem isT_list {K : PySem.W.Frag} : IsT K isListD "list" := fun F H v d s h q => by
  cases h with
  | fz h =>
    cases h with
    | lst q' _ => exact .inl ⟨rfl, _, .inl (.inl (s _ _ q'))⟩
    | _ => cases q
  | own h _ =>
    cases h with
    | lst q' _ => exact .inl ⟨rfl, _, .inl (.inl q')⟩
    | dct _ _ => cases q
    | dctT _ _ => cases q
theorem de_meth {q : D → Bool} {T id : String} {r : V → List V → Hp → VK → Prop} {sem : D → List D → Option D} {name : Str} (hq : IsT X.K q T) (hs : SemV X.K r sem) (pa : PlainAttrs T) (slot : Slot T name id) (hty : typeOf (.builtin id) = pure (.type "method_descriptor")) (hm : MtR X id r)
    (ho : DE X g W a fa) (ha : DA X g W (b :: es) av) (hbase : attributeBase a name X.env (eval a X.env) = eval a X.env := by rfl)
    (hfew : ((backTo pos (starEach (b :: es) X.env)).all (fun x => !x.1) && (backToKw pos (keywordEach [] X.env)).all (fun x => x.1.isSome)
      && decide ((b :: es).length + ([] : List Keyword).length + (if ([] : List Keyword).isEmpty then 0 else 1) < 30)) = true := by rfl)
    (hline : (apos.endLine == pos.line) = true := by rfl) (h1 : starEach (b :: es) X.env = (false, eval b X.env) :: starEach es X.env := by rfl) (hpl : (backTo pos (starEach es X.env)).any (·.1) = false := by rfl) :
    DE X g W (.Call (.Attribute a name apos) (b :: es) [] pos) (dMeth q sem fa av) :=
  PE.imp (pe_bm pa slot hty hm ho ha hbase hfew hline h1 hpl) fun σ H Q h => by
    obtain ⟨F, en, rp, f⟩ := h
    refine ⟨F, en, rp, (Fin.seq f).mono fun F1 H1 en1 x s1 r1 f1 v hv => ?_⟩
    cases e0 : res en1 x with
    | none => rw [e0] at f1; exact f1.elim
    | some d0 =>
      rw [e0] at f1
      dsimp only at f1
      split at f1
      · rename_i hq0
        refine ⟨hq F1 H1 v d0 r1.fz (r1.view hv e0) hq0, F1, en1, r1, (Fin.seq f1).mono fun F2 H2 en2 xs s2 r2 f2 vs hvs => ?_⟩
        split at f2
        · rename_i d ds e1 e2
          split at f2
          · rename_i rr e3
            exact hs F2 H2 v d vs ds rr Q r2.fz (r2.view (RvOk.mono s2 hv) e1) (r2.viewAll hvs e2) e3 (fin1 r2 rfl f2)
          · exact f2.elim
        · exact f2.elim
      · exact f1.elim
/-! ### xs.index(y) -/
def idxOf (d : D) : List D → Nat → Option Nat
  | [], _ => none
  | z :: r, n => if PyData.eqv z d = true then some n else idxOf d r (n + 1)
def sIndex : D → List D → Option D
  | .list ds, [d] => if SeqAt.shaped (.list ds) = true ∧ SeqAt.shaped d = true then (idxOf d ds 0).map fun n => .int (n : Nat) else none
  | _, _ => none
theorem idxOf_at {d : D} : ∀ {ds : List D} {m n : Nat}, idxOf d ds m = some n → ∃ j z, n = m + j ∧ ds[j]? = some z ∧ PyData.eqv z d = true ∧ ∀ (k : Nat) (z' : D), k < j → ds[k]? = some z' → PyData.eqv z' d = false
  | [], _, _, e => by cases e
  | z :: r, m, n, e => by
    unfold idxOf at e
    by_cases h : PyData.eqv z d = true
    · rw [if_pos h] at e
      cases e
      exact ⟨0, z, rfl, rfl, h, fun k z' hk => absurd hk (Nat.not_lt_zero _)⟩
    · rw [if_neg h] at e
      obtain ⟨j, y, e1, e2, e3, e4⟩ := idxOf_at e
      refine ⟨j + 1, y, by omega, e2, e3, fun k z' hk ez => ?_⟩
      cases k with
      | zero =>
        have : z = z' := by simpa using ez
        subst this
        simpa using h
      | succ k => exact e4 k z' (by omega) (by simpa using ez)
theorem shaped_lay {d : D} (h : SeqAt.shaped d = true) : d.canLay0 = true := by
  unfold SeqAt.shaped at h
  exact (Bool.and_eq_true_iff.mp h).1
theorem sv_index {K : PySem.W.Frag} : SemV K (rIndexD K) sIndex := by
  intro F H v d vs ds c Q s hv hvs hs gv
  unfold sIndex at hs
  split at hs
  · rename_i xs d2
    split at hs
    · rename_i hh
      cases hvs with
      | cons h1 h2 =>
        cases h2
        rename_i u
        cases q : idxOf d2 xs 0 with
        | none => rw [q] at hs; cases hs
        | some n =>
          rw [q] at hs
          cases hs
          obtain ⟨j, z, e1, e2, e3, e4⟩ := idxOf_at q
          have p1 := vw_dp s (shaped_lay hh.1) hv
          have p2 := vw_dp s (shaped_lay hh.2) h1
          obtain ⟨a, rfl⟩ : ∃ a, v = .ref a := by
            cases hv with
            | fz h => cases h; exact ⟨_, rfl⟩
            | own h _ => exact ⟨_, rfl⟩
          have : n = j := by omega
          subst this
          exact ⟨a, u, d2, xs, n, z, rfl, rfl, p1, p2, hh.1, hh.2, e2, e3, e4, gv.of s (.int _)⟩
    · cases hs
  · cases hs
theorem de_index {j : Nat} (hr : Room j X.A) (ho : DE X g W a fa) (hb : DE X g W b fb) (hbase : attributeBase a "index" X.env (eval a X.env) = eval a X.env := by rfl)
    (hfew : ((backTo pos (starEach [b] X.env)).all (fun x => !x.1) && (backToKw pos (keywordEach [] X.env)).all (fun x => x.1.isSome)
      && decide ([b].length + ([] : List Keyword).length + (if ([] : List Keyword).isEmpty then 0 else 1) < 30)) = true := by rfl)
    (hline : (apos.endLine == pos.line) = true := by rfl) (h1 : starEach [b] X.env = (false, eval b X.env) :: starEach [] X.env := by rfl) :
    DE X g W (.Call (.Attribute a "index" apos) [b] [] pos) (dMeth isListD sIndex fa (aCons fb aNil)) :=
  de_meth isT_list sv_index PySem.F.plainAttrs_list PySem.F.slot_list_index PySem.F.type_list_index (mt_indexD (u65 hr)) ho (da_cons hb da_nil h1) hbase hfew hline h1
/-! ### except clauses, one behind the other, without names -/
def findC : List (Str × Bd) → Str → Option Bd
  | [], _ => none
  | (n, b) :: r, x => if n = x then some b else findC r x
def bTryM (cl : List (Str × Bd)) (body : Bd) : Bd := fun en => match body en with
  | .ex en1 x => if x.fs = [] then (match findC cl x.cls with
      | some sb => (match sb en1 with
        | .ex _ _ => .no
        | o => o)
      | none => .no) else .no
  | o => o
inductive ClsM (X : Cx) : List ExceptHandler → List (Str × Addr × Bd) → Prop
  | nil : ClsM X [] []
  | cons {x : Str} {C : Addr} {sb : Bd} {b₀ : Stmt} {suite : List Stmt} {np pos' : Pos} {hds : List ExceptHandler} {l : List (Str × Addr × Bd)} (m : X.mg x = some (.ref C)) (hg : Gl X x) (hdb : (x == ("__debug__" : Str)) = false) (self : PySem.W.exmOne X.K (.ref C) (.ref C) = some true)
      (hsu : ∀ (a : Addr) (oe : Obj) (pn : List (Addr × Obj)) (g' : Gh), DSs (X.suite a ((a, oe) :: pn)) g' (W0 X.K X.mg) (b₀ :: suite) sb) (r : ClsM X hds l) : ClsM X (.ExceptHandler (some (.Name x np)) none (b₀ :: suite) pos' :: hds) ((x, C, sb) :: l)
def tsM (K : PySem.W.Frag) (W : XW) (C : Addr) (sb : Bd) : Addr → Value → Option Addr → TS := fun _ cls d E σ H => ∃ g', cls = .ref C ∧ d = none ∧ liftS K g' W sb E σ H
theorem ClsM.ok {X : Cx} : ∀ {hds : List ExceptHandler} {l : List (Str × Addr × Bd)}, ClsM X hds l → HdsOk X hds (l.map fun p => (.ref p.2.1, tsM X.K (W0 X.K X.mg) p.2.1 p.2.2))
  | _, _, .nil => .nil
  | _, _, .cons m hg hdb self hsu r => .cons ⟨hg, hdb, .inl m⟩ (fun a oe cls d pn _ _ => ⟨fun pins s σ H D I ⟨g', _, _, q⟩ => (hsu a oe pn g').run pins s σ H D I q⟩) r.ok
def namesL (l : List (Str × Addr × Bd)) : List (Str × Bd) := l.map fun p => (p.1, p.2.2)
theorem ClsM.mem {X : Cx} : ∀ {hds : List ExceptHandler} {l : List (Str × Addr × Bd)}, ClsM X hds l → ∀ p ∈ l, X.mg p.1 = some (.ref p.2.1)
  | _, _, .nil => fun p hp => nomatch hp
  | _, _, .cons m hg hdb self hsu r => fun p hp => by
    rcases List.mem_cons.mp hp with rfl | hp
    · exact m
    · exact r.mem p hp
theorem findC_mem {nm : Str} {sb : Bd} : ∀ {l : List (Str × Addr × Bd)}, findC (namesL l) nm = some sb → ∃ p ∈ l, p.1 = nm
  | [], h => nomatch h
  | (x, C, b) :: l, h => by
    unfold namesL findC at h
    by_cases e : x = nm
    · exact ⟨_, List.mem_cons_self, e⟩
    · have h' : (if x = nm then some b else findC (namesL l) nm) = some sb := h
      rw [if_neg e] at h'
      obtain ⟨p, hp, e2⟩ := findC_mem h'
      exact ⟨p, List.mem_cons_of_mem _ hp, e2⟩
theorem wMany_find {X : Cx} {Wout : WX} {D : Ends} {nm : Str} {sb : Bd} {C : Addr} {σ : St} {H : Hp} (hm : X.mg nm = some (.ref C)) (h : ∀ a, H a = none → tsM X.K (W0 X.K X.mg) C sb a (.ref C) none D σ H) :
    ∀ {hds : List ExceptHandler} {l : List (Str × Addr × Bd)}, ClsM X hds l → findC (namesL l) nm = some sb → (∀ p ∈ l, ∀ q ∈ l, p.1 ≠ q.1 → PySem.W.exmOne X.K (.ref q.2.1) (.ref p.2.1) = some false) →
      wMany X.K Wout D (l.map fun p => (.ref p.2.1, tsM X.K (W0 X.K X.mg) p.2.1 p.2.2)) (.ref C) none σ H
  | _, _, .nil, e, _ => by cases e
  | _, _, .cons (x := x) (C := C0) (sb := b0) (l := l) m hg hdb self hsu r, e, ap => by
    have e' : (if x = nm then some b0 else findC (namesL l) nm) = some sb := e
    by_cases q : x = nm
    · rw [if_pos q] at e'
      cases e'
      subst q
      rw [m] at hm
      cases hm
      exact ⟨true, self, fun _ a ha => h a ha, fun z => by cases z⟩
    · rw [if_neg q] at e'
      obtain ⟨p, hp, ep⟩ := findC_mem e'
      have hpm := r.mem p hp
      rw [ep, hm] at hpm
      have eC : C = p.2.1 := by
        have := Option.some.inj hpm
        injection this
      have hx := ap _ List.mem_cons_self p (List.mem_cons_of_mem _ hp) (fun z => q (z.trans ep))
      refine ⟨false, (by rw [eC]; exact hx), (fun z => nomatch z), fun _ => ?_⟩
      exact wMany_find hm h r e' fun p hp q hq => ap p (List.mem_cons_of_mem _ hp) q (List.mem_cons_of_mem _ hq)
theorem ds_tryM {Wh : WX} {body : List Stmt} {h₀ : ExceptHandler} {hds : List ExceptHandler} {l : List (Str × Addr × Bd)} {bb : Bd} (hs : X.stack = X.env :: X.outer) (hf : X.env.frame = some X.env.locals) (tk : Takes X Wh)
    (hb : ∀ (W : WX) (pn : List (Addr × Obj)) (xe : Value → Shared → Prop), Takes (X.tr pn xe) W → PassesOwn (model X.prog X.w) X.A X.env xe → DSs (X.tr pn xe) g (WH X.K X.mg W) body bb)
    (hc : ClsM X (h₀ :: hds) l) (ap : ∀ p ∈ l, ∀ q ∈ l, p.1 ≠ q.1 → PySem.W.exmOne X.K (.ref q.2.1) (.ref p.2.1) = some false) :
    DS X g (WH X.K X.mg Wh) (.Try body (h₀ :: hds) [] [] pos) (bTryM (namesL l) bb) := by
  refine PS.imp (ps_try_many hs hf tk (tb := fun W => liftS X.K g (WH X.K X.mg W) bb) hb hc.ok) fun E σ H h => ?_
  obtain ⟨F, en, rp, f⟩ := h
  refine ⟨F, en, rp, ?_⟩
  unfold bTryM at f
  cases e1 : bb en with
  | nx en1 => rw [e1] at f; exact f
  | rt en1 r => rw [e1] at f; exact f
  | bk en1 => rw [e1] at f; exact f
  | ct en1 => rw [e1] at f; exact f
  | no => rw [e1] at f; exact f
  | ex en1 xx =>
    rw [e1] at f
    dsimp only at f
    split at f
    · rename_i hx
      split at f
      · rename_i sb es
        intro σ1 F1 H1 s1 r1 cls dx er
        obtain ⟨m1, m2⟩ := er
        have ed : dx = none := by
          rcases m2 with ⟨_, z⟩ | ⟨a, vs, z, _⟩
          · exact z
          · exact absurd hx z
        subst ed
        obtain ⟨p, hp, ep⟩ := findC_mem es
        have hpm := hc.mem p hp
        rw [ep, m1] at hpm
        have eC := Option.some.inj hpm
        subst eC
        refine wMany_find m1 (fun a _ => ⟨g, rfl, rfl, F1, en1, r1, ?_⟩) hc es ap
        cases e2 : sb en1 with
        | nx e3 => rw [e2] at f; exact fun σ2 F2 H2 s2 r3 => f σ2 F2 H2 (s1.trans s2) r3
        | rt e3 rr => rw [e2] at f; exact fun v σ2 F2 H2 s2 r3 ro => f v σ2 F2 H2 (s1.trans s2) r3 ro
        | bk e3 => rw [e2] at f; exact fun σ2 F2 H2 s2 r3 => f σ2 F2 H2 (s1.trans s2) r3
        | ct e3 => rw [e2] at f; exact fun σ2 F2 H2 s2 r3 => f σ2 F2 H2 (s1.trans s2) r3
        | ex e3 x3 => rw [e2] at f; exact f.elim
        | no => rw [e2] at f; exact f.elim
      · exact f.elim
    · exact f.elim
end
end DL
/-! Dl21: a local thing handed back; results of calls handed on. -/
namespace DL
open PySem PySem.Spec L2
open PyProof.Rows hiding St
section
variable {K : PySem.W.Frag} {g : Gh} {F H : Hp} {en : En} {σ : St}
theorem Rep.give (hf : Full g) (r : Rep K g F en σ H) {i : Nat} {d : D} (e : en[i]? = some (.own false d)) (hc : canPut en i = true) : ∃ p : Addr, σ[i]? = some (some (.ref p)) ∧ Rep K g F (en.set i .un) σ H ∧ New K g F H (en.set i .un) σ p d := by
  obtain ⟨p, e1, ow, nF, hp⟩ := r.own i false d e
  have h0 : g.H0 p = none := hp.elim (fun z => by
      obtain ⟨j, hj⟩ := hf p z
      obtain ⟨q1, d', q2⟩ := r.pl j p hj
      by_cases hij : i = j
      · subst hij
        rw [e] at q2
        cases q2
      · exact absurd (e1.trans q1.symm) (r.sep i j false true d d' hij e q2)) fun z => z
  have li := (List.getElem?_eq_some_iff.mp e).1
  have at_ : ∀ {k : Nat} {t : Sl}, (en.set i .un)[k]? = some t → (k = i ∧ t = .un) ∨ (k ≠ i ∧ en[k]? = some t) := fun {k t} q => by
    by_cases hk : k = i
    · subst hk
      rw [List.getElem?_set_self li] at q
      exact .inl ⟨rfl, (Option.some.inj q).symm⟩
    · rw [List.getElem?_set_ne (Ne.symm hk)] at q
      exact .inr ⟨hk, q⟩
  have keep : ∀ {k : Nat} {t : Sl}, k ≠ i → en[k]? = some t → (en.set i .un)[k]? = some t := fun hk q => by
    rw [List.getElem?_set_ne (Ne.symm hk)]
    exact q
  refine ⟨p, e1, ⟨r.fz, r.fr, r.al, r.nw, by simpa using r.len, fun k d' q => ?_, fun k b d' q => ?_, fun k j q => ?_, fun k j b c d' e' hne q1 q2 => ?_, fun k q hm => ?_, fun k q hm => ?_⟩, ⟨ow, nF, h0, fun z => ?_⟩⟩
  · rcases at_ q with ⟨_, z⟩ | ⟨_, z⟩
    · cases z
    · exact r.val k d' z
  · rcases at_ q with ⟨_, z⟩ | ⟨_, z⟩
    · cases z
    · exact r.own k b d' z
  · rcases at_ q with ⟨_, z⟩ | ⟨_, z⟩
    · cases z
    · obtain ⟨z1, b, d', z2⟩ := r.ali k j z
      exact ⟨z1, b, d', keep (r.noAli hc z) z2⟩
  · rcases at_ q1 with ⟨_, z⟩ | ⟨_, z⟩
    · cases z
    · rcases at_ q2 with ⟨_, z2⟩ | ⟨_, z2⟩
      · cases z2
      · exact r.sep k j b c d' e' hne z z2
  · obtain ⟨z1, d', z2⟩ := r.pl k q hm
    exact ⟨z1, d', keep (fun w => by subst w; rw [e] at z2; cases z2) z2⟩
  · obtain ⟨z1, z2⟩ := r.rw k q hm
    exact ⟨z1, keep (fun w => by subst w; rw [e] at z2; cases z2) z2⟩
  · obtain ⟨k, b, d', z1, z2⟩ := z
    rcases at_ z1 with ⟨_, z⟩ | ⟨hk, z⟩
    · cases z
    · exact r.sep k i b false d' d hk z e (z2.trans e1.symm)
end
/-- slot i's own thing, handed on -/
def oVar (i : Nat) : Ov := fun en => match en[i]? with
  | some (.own false d) => if canPut en i = true then .ok (en.set i .un) d else .no
  | _ => .no
section
variable {X : Cx} {g : Gh} {W : XW} {pos : Pos} {x : Str}
theorem do_var (hf : Full g) (i : Nat) (hN : X.N[i]? = some x := by rfl) (hv : Vis X.env.scope x := by first | exact .inl rfl | exact .inr (.inl rfl) | exact .inr (.inr rfl)) (hd : (x == ("__debug__" : Str)) = false := by decide) (hcd : (x == ("__classdict__" : Str)) = false := by decide) : DO X g W (.Name x pos) (oVar i) := by
  refine PE.imp (pe_var hN hv hd hcd) fun σ H Q h => ?_
  obtain ⟨F, en, rp, f⟩ := h
  unfold oVar at f
  split at f
  · rename_i d q
    split at f
    · rename_i hc
      obtain ⟨p, e1, r2, n2⟩ := rp.give hf q hc
      exact ⟨.ref p, e1, f F H (Same.refl _) r2 p H r2 n2⟩
    · exact f.elim
  · exact f.elim
/-- f() -/
def dCall0 (fs : Fs) : Ev := fun en => match fs [] with
  | .ok (.v d) [] => .ok en (.d d)
  | _ => .no
theorem f0_ {fs : Fs} {j k : Nat} {p : Pos} (C : Callee X.prog X.w X.K X.mg X.base x j fs) (hr : Room k X.A) (hj : j ≤ k := by first | decide | exact Nat.le_refl _ | omega) (hg : Gl X x := by rfl) (hdb : (x == ("__debug__" : Str)) = false := by decide) : DE X g W (.Call (.Name x p) [] [] pos) (dCall0 fs) := by
  obtain ⟨f, fd, ps, hm, F, hk, hb⟩ := C.ex
  refine PE.imp (pe_call0 (E := fun _ _ _ => False) F (hr.mono hj) hg hm hk hb .nil (fun _ _ _ _ _ _ _ h => by obtain ⟨_, _, _, _, _, _, _, _, _, _, _, _, z⟩ := h; exact z.elim) hdb) fun σ H Q h => ?_
  obtain ⟨F1, en, rp, f1⟩ := h
  unfold dCall0 at f1
  refine ⟨F1, [], [], rp.fz, trivial, List.nodup_nil, ?_⟩
  split at f1
  · rename_i d e
    rw [e]
    intro v F' H' x _ hr
    have ex : Ext F1 H F' H' := ⟨fun a o q => x.fr a o q (fun z => nomatch z), x.le, x.sub, fun a h1 h2 => x.nw a h1 h2 fun z => nomatch z⟩
    exact f1 F' H' x.le (rp.ext ex) v hr
  · exact f1.elim
end
section
variable {K : PySem.W.Frag} {x1 x2 x3 : Str} {C1 C2 C3 : Addr} {b1 b2 b3 : Bd}
theorem ap_all1 : ∀ p ∈ [(x1, C1, b1)], ∀ q ∈ [(x1, C1, b1)], p.1 ≠ q.1 → PySem.W.exmOne K (.ref q.2.1) (.ref p.2.1) = some false := by
  intro p hp q hq h
  simp only [List.mem_cons, List.not_mem_nil, or_false] at hp hq
  subst hp hq
  exact absurd rfl h
theorem ap_all2 (h12 : PySem.W.exmOne K (.ref C2) (.ref C1) = some false) (h21 : PySem.W.exmOne K (.ref C1) (.ref C2) = some false) : ∀ p ∈ [(x1, C1, b1), (x2, C2, b2)], ∀ q ∈ [(x1, C1, b1), (x2, C2, b2)], p.1 ≠ q.1 → PySem.W.exmOne K (.ref q.2.1) (.ref p.2.1) = some false := by
  intro p hp q hq h
  simp only [List.mem_cons, List.not_mem_nil, or_false] at hp hq
  rcases hp with rfl | rfl <;> rcases hq with rfl | rfl <;> first | exact absurd rfl h | assumption
theorem ap_all3 (h12 : PySem.W.exmOne K (.ref C2) (.ref C1) = some false) (h13 : PySem.W.exmOne K (.ref C3) (.ref C1) = some false) (h21 : PySem.W.exmOne K (.ref C1) (.ref C2) = some false) (h23 : PySem.W.exmOne K (.ref C3) (.ref C2) = some false) (h31 : PySem.W.exmOne K (.ref C1) (.ref C3) = some false) (h32 : PySem.W.exmOne K (.ref C2) (.ref C3) = some false) :
    ∀ p ∈ [(x1, C1, b1), (x2, C2, b2), (x3, C3, b3)], ∀ q ∈ [(x1, C1, b1), (x2, C2, b2), (x3, C3, b3)], p.1 ≠ q.1 → PySem.W.exmOne K (.ref q.2.1) (.ref p.2.1) = some false := by
  intro p hp q hq h
  simp only [List.mem_cons, List.not_mem_nil, or_false] at hp hq
  rcases hp with rfl | rfl | rfl <;> rcases hq with rfl | rfl | rfl <;> first | exact absurd rfl h | assumption
end
end DL
/-! Dend2: classes that clauses without names ask for. -/
namespace DL
open PySem PySem.Spec L2
open PyProof.Rows hiding St
section
variable {K : PySem.W.Frag} {mg : Str → Option Value} {h : Heap} {x y z : Str}
/-- what a clause asks of one class -/
def ClA (K : PySem.W.Frag) (C : Addr) : Prop := PySem.W.subIn K (.ref C) (.type "BaseException") = some true ∧ PySem.W.hasDictIn K C = true ∧ PySem.W.typeIn K (.ref C) = some (.type "type")
theorem ClA.exm {C : Addr} {cls : Value} {b : Bool} (c : ClA K C) (s : PySem.W.subIn K cls (.ref C) = some b) : PySem.W.exmOne K cls (.ref C) = some b := PySem.W.exm_ref c.1 c.2.1 c.2.2 s
def Cl1 (K : PySem.W.Frag) (mg : Str → Option Value) (x : Str) : Prop := ∃ C1 : Addr, mg x = some (.ref C1) ∧ PySem.W.exmOne K (.ref C1) (.ref C1) = some true
theorem Cl1.in_ {C1 : Addr} (X : K.In h) (G : h.Ns mainGlobals mg) (a1 : PySem.W.nsIn K mainGlobals x = some (some (.ref C1)))
    (s1 : PySem.W.subIn K (.ref C1) (.type "BaseException") = some true) (d1 : PySem.W.hasDictIn K C1 = true) (t1 : PySem.W.typeIn K (.ref C1) = some (.type "type"))
    (p11 : PySem.W.subIn K (.ref C1) (.ref C1) = some true) : Cl1 K mg x :=
  have c1 : ClA K C1 := ⟨s1, d1, t1⟩
  ⟨C1, PySem.W.mg_of X G a1, c1.exm p11⟩
def Cl2 (K : PySem.W.Frag) (mg : Str → Option Value) (x y : Str) : Prop := ∃ C1 C2 : Addr, mg x = some (.ref C1) ∧ mg y = some (.ref C2) ∧
  PySem.W.exmOne K (.ref C1) (.ref C1) = some true ∧ PySem.W.exmOne K (.ref C2) (.ref C2) = some true ∧
  PySem.W.exmOne K (.ref C2) (.ref C1) = some false ∧ PySem.W.exmOne K (.ref C1) (.ref C2) = some false
theorem Cl2.in_ {C1 C2 : Addr} (X : K.In h) (G : h.Ns mainGlobals mg) (a1 : PySem.W.nsIn K mainGlobals x = some (some (.ref C1))) (a2 : PySem.W.nsIn K mainGlobals y = some (some (.ref C2)))
    (s1 : PySem.W.subIn K (.ref C1) (.type "BaseException") = some true) (d1 : PySem.W.hasDictIn K C1 = true) (t1 : PySem.W.typeIn K (.ref C1) = some (.type "type"))
    (s2 : PySem.W.subIn K (.ref C2) (.type "BaseException") = some true) (d2 : PySem.W.hasDictIn K C2 = true) (t2 : PySem.W.typeIn K (.ref C2) = some (.type "type"))
    (p11 : PySem.W.subIn K (.ref C1) (.ref C1) = some true) (p22 : PySem.W.subIn K (.ref C2) (.ref C2) = some true)
    (p21 : PySem.W.subIn K (.ref C2) (.ref C1) = some false) (p12 : PySem.W.subIn K (.ref C1) (.ref C2) = some false) : Cl2 K mg x y :=
  have c1 : ClA K C1 := ⟨s1, d1, t1⟩
  have c2 : ClA K C2 := ⟨s2, d2, t2⟩
  ⟨C1, C2, PySem.W.mg_of X G a1, PySem.W.mg_of X G a2, c1.exm p11, c2.exm p22, c1.exm p21, c2.exm p12⟩
def Cl3 (K : PySem.W.Frag) (mg : Str → Option Value) (x y z : Str) : Prop := ∃ C1 C2 C3 : Addr, mg x = some (.ref C1) ∧ mg y = some (.ref C2) ∧ mg z = some (.ref C3) ∧
  PySem.W.exmOne K (.ref C1) (.ref C1) = some true ∧ PySem.W.exmOne K (.ref C2) (.ref C2) = some true ∧ PySem.W.exmOne K (.ref C3) (.ref C3) = some true ∧
  PySem.W.exmOne K (.ref C2) (.ref C1) = some false ∧ PySem.W.exmOne K (.ref C3) (.ref C1) = some false ∧ PySem.W.exmOne K (.ref C1) (.ref C2) = some false ∧
  PySem.W.exmOne K (.ref C3) (.ref C2) = some false ∧ PySem.W.exmOne K (.ref C1) (.ref C3) = some false ∧ PySem.W.exmOne K (.ref C2) (.ref C3) = some false
theorem Cl3.in_ {C1 C2 C3 : Addr} (X : K.In h) (G : h.Ns mainGlobals mg) (a1 : PySem.W.nsIn K mainGlobals x = some (some (.ref C1))) (a2 : PySem.W.nsIn K mainGlobals y = some (some (.ref C2))) (a3 : PySem.W.nsIn K mainGlobals z = some (some (.ref C3)))
    (s1 : PySem.W.subIn K (.ref C1) (.type "BaseException") = some true) (d1 : PySem.W.hasDictIn K C1 = true) (t1 : PySem.W.typeIn K (.ref C1) = some (.type "type"))
    (s2 : PySem.W.subIn K (.ref C2) (.type "BaseException") = some true) (d2 : PySem.W.hasDictIn K C2 = true) (t2 : PySem.W.typeIn K (.ref C2) = some (.type "type"))
    (s3 : PySem.W.subIn K (.ref C3) (.type "BaseException") = some true) (d3 : PySem.W.hasDictIn K C3 = true) (t3 : PySem.W.typeIn K (.ref C3) = some (.type "type"))
    (p11 : PySem.W.subIn K (.ref C1) (.ref C1) = some true) (p22 : PySem.W.subIn K (.ref C2) (.ref C2) = some true) (p33 : PySem.W.subIn K (.ref C3) (.ref C3) = some true)
    (p21 : PySem.W.subIn K (.ref C2) (.ref C1) = some false) (p31 : PySem.W.subIn K (.ref C3) (.ref C1) = some false) (p12 : PySem.W.subIn K (.ref C1) (.ref C2) = some false)
    (p32 : PySem.W.subIn K (.ref C3) (.ref C2) = some false) (p13 : PySem.W.subIn K (.ref C1) (.ref C3) = some false) (p23 : PySem.W.subIn K (.ref C2) (.ref C3) = some false) : Cl3 K mg x y z :=
  have c1 : ClA K C1 := ⟨s1, d1, t1⟩
  have c2 : ClA K C2 := ⟨s2, d2, t2⟩
  have c3 : ClA K C3 := ⟨s3, d3, t3⟩
  ⟨C1, C2, C3, PySem.W.mg_of X G a1, PySem.W.mg_of X G a2, PySem.W.mg_of X G a3, c1.exm p11, c2.exm p22, c3.exm p33, c1.exm p21, c1.exm p31, c2.exm p12, c2.exm p32, c3.exm p13, c3.exm p23⟩
end
end DL
/-! Dl22: texts: sep.join(xs), text.split(sep), str(x), int(text); [..] * n owned. -/
namespace DL
open PySem PySem.Spec L2
open PyProof.Rows hiding St
section
variable {X : Cx} {g : Gh} {W : XW} {a b c : Expr} {es : List Expr} {fa fb fc : Ev} {av : Av} {pos p apos pos' : Pos}
def isStrD : D → Bool
  | .str _ => true
  | _ => false
theorem isT_str {K : PySem.W.Frag} : IsT K isStrD "str" := fun F H v d s h q => by
  cases d <;> first | (cases q; done) | skip
  rw [vw_str h]
  rfl
def strsOf : List D → Option (List Str)
  | [] => some []
  | .str x :: r => (strsOf r).map (x :: ·)
  | _ => none
theorem strsOf_eq : ∀ {ds : List D} {ys : List Str}, strsOf ds = some ys → ds = ys.map PyData.str
  | [], ys, e => by cases e; rfl
  | d :: r, ys, e => by
    cases d <;> first | (cases e; done) | skip
    rename_i x
    unfold strsOf at e
    cases q : strsOf r with
    | none => rw [q] at e; cases e
    | some zs =>
      rw [q] at e
      cases e
      rw [strsOf_eq q]
      rfl
theorem dvAll_strs {K : PySem.W.Frag} {F : Hp} : ∀ {ys : List Str} {vs : List V}, DvAll K F vs (ys.map PyData.str) → vs = ys.map V.str
  | [], vs, h => by cases h; rfl
  | y :: r, vs, h => by
    cases h with
    | cons h1 h2 =>
      cases h1
      rw [dvAll_strs h2]
      rfl
def joinOk (a : Str) (ys : List Str) : Bool := decide ((ys.map (·.length)).sum + ys.length * a.length ≤ 16777216)
def sJoin : D → List D → Option D
  | .str a, [.list ds] => (strsOf ds).bind fun ys => if joinOk a ys = true then some (.str (Txt.join a ys)) else none
  | .str a, [.tuple ds] => (strsOf ds).bind fun ys => if joinOk a ys = true then some (.str (Txt.join a ys)) else none
  | _, _ => none
def rJoin (K : PySem.W.Frag) : V → List V → Hp → VK → Prop := fun x xs H Q => ∃ a p, ∃ ys : List Str, x = .str a ∧ xs = [.ref p] ∧ (SqL K H p (ys.map V.str) ∨ SqT K H p (ys.map V.str)) ∧ (ys.map (·.length)).sum + ys.length * a.length ≤ 16777216 ∧ Q (.str (Txt.join a ys)) H
theorem mt_join' : MtR X "str.join" (rJoin X.K) := mt_join
theorem sv_join {K : PySem.W.Frag} : SemV K (rJoin K) sJoin := by
  intro F H v d vs ds c Q s hv hvs hs gv
  unfold sJoin at hs
  split at hs
  · rename_i a es
    cases q : strsOf es with
    | none => rw [q] at hs; cases hs
    | some ys =>
      rw [q] at hs
      simp only [Option.bind_some] at hs
      split at hs
      · rename_i hj
        cases hs
        obtain ⟨u, rfl, h1⟩ := vwAll1 hvs
        obtain ⟨l, xs, rfl, q1, al⟩ := vw_lst s h1
        have := strsOf_eq q
        subst this
        have := dvAll_strs al
        subst this
        exact ⟨a, l, ys, vw_str hv, rfl, .inl (.inl (.inl q1)), of_decide_eq_true hj, gv.of s (.str _)⟩
      · cases hs
  · rename_i a es
    cases q : strsOf es with
    | none => rw [q] at hs; cases hs
    | some ys =>
      rw [q] at hs
      simp only [Option.bind_some] at hs
      split at hs
      · rename_i hj
        cases hs
        obtain ⟨u, rfl, h1⟩ := vwAll1 hvs
        obtain ⟨l, xs, rfl, q1, al, _⟩ := vw_tup s h1
        have := strsOf_eq q
        subst this
        have := dvAll_strs al
        subst this
        exact ⟨a, l, ys, vw_str hv, rfl, .inr q1, of_decide_eq_true hj, gv.of s (.str _)⟩
      · cases hs
  · cases hs
theorem de_join (ho : DE X g W a fa) (hb : DE X g W b fb) (hbase : attributeBase a "join" X.env (eval a X.env) = eval a X.env := by rfl)
    (hfew : ((backTo pos (starEach [b] X.env)).all (fun x => !x.1) && (backToKw pos (keywordEach [] X.env)).all (fun x => x.1.isSome)
      && decide ([b].length + ([] : List Keyword).length + (if ([] : List Keyword).isEmpty then 0 else 1) < 30)) = true := by rfl)
    (hline : (apos.endLine == pos.line) = true := by rfl) (h1 : starEach [b] X.env = (false, eval b X.env) :: starEach [] X.env := by rfl) :
    DE X g W (.Call (.Attribute a "join" apos) [b] [] pos) (dMeth isStrD sJoin fa (aCons fb aNil)) :=
  de_meth isT_str sv_join PySem.F.plainAttrs_str PySem.F.slot_str_join PySem.F.type_str_join mt_join' ho (da_cons hb da_nil h1) hbase hfew hline h1
/-! ### str(x) -/
def sStr : List D → Option D
  | [.int i] => if i.natAbs.log2 < 1920 then some (.str (toString i)) else none
  | [.str x] => some (.str x)
  | _ => none
def rStr1 : List V → Hp → VK → Prop := fun xs H Q => (∃ i : Int, xs = [.int i] ∧ i.natAbs.log2 < 1920 ∧ Q (.str (toString i)) H) ∨ ∃ x : Str, xs = [.str x] ∧ Q (.str x) H
theorem cr_str : CallR X (.type "str") rStr1 := CallR.or call_str_int SkE.call_str_str
theorem se_str {K : PySem.W.Frag} : SemN K rStr1 sStr := by
  intro F H vs ds c Q s hv hs g
  unfold sStr at hs
  split at hs
  · split at hs
    · rename_i i hi
      cases hs
      obtain ⟨v, rfl, q⟩ := vwAll1 hv
      exact .inl ⟨i, by rw [vw_int q], hi, g.of s (.str _)⟩
    · cases hs
  · cases hs
    obtain ⟨v, rfl, q⟩ := vwAll1 hv
    exact .inr ⟨_, by rw [vw_str q], g.of s (.str _)⟩
  · cases hs
theorem b_str (B : Bt X.mg) (ha : DA X g W [a] av) (hg : Gl X "str" := by rfl) (he : starEach [a] X.env = (false, eval a X.env) :: starEach [] X.env := by rfl) (hpl : (backTo pos (starEach [] X.env)).any (·.1) = false := by rfl) : DE X g W (.Call (.Name "str" p) [a] [] pos) (dCallB sStr av) := de_callTy cr_str se_str hg B.str (by decide +kernel) ha (by decide) (by decide) he hpl
/-! ### int(x), texts too -/
def sIntT : List D → Option D
  | [.str a] => (intText? a).bind fun n => if a.length ≤ 640 then some (.int n) else none
  | ds => sInt ds
def rIntT : List V → Hp → VK → Prop := fun xs H Q => rInt1 xs H Q ∨ ∃ a n, xs = [.str a] ∧ intText? a = some n ∧ a.length ≤ 640 ∧ Q (.int n) H
theorem cr_intT : CallR X (.type "int") rIntT := CallR.or cr_int call_int_str
theorem se_intT {K : PySem.W.Frag} : SemN K rIntT sIntT := by
  intro F H vs ds c Q s hv hs g
  unfold sIntT at hs
  split at hs
  · rename_i a
    cases q : intText? a with
    | none => rw [q] at hs; cases hs
    | some n =>
      rw [q] at hs
      simp only [Option.bind_some] at hs
      split at hs
      · rename_i hl
        cases hs
        obtain ⟨v, rfl, q1⟩ := vwAll1 hv
        exact .inr ⟨a, n, by rw [vw_str q1], q, hl, g.of s (.int _)⟩
      · cases hs
  · exact .inl (se_int F H vs _ c Q s hv hs g)
theorem b_intT (B : Bt X.mg) (ha : DA X g W [a] av) (hg : Gl X "int" := by rfl) (he : starEach [a] X.env = (false, eval a X.env) :: starEach [] X.env := by rfl) (hpl : (backTo pos (starEach [] X.env)).any (·.1) = false := by rfl) : DE X g W (.Call (.Name "int" p) [a] [] pos) (dCallB sIntT av) := de_callTy cr_intT se_intT hg B.int (by decide +kernel) ha (by decide) (by decide) he hpl
/-! ### an operator's new list, owned -/
def oOp (sem : D → D → Option D) (fa fb : Ev) : Ov := fun en => (fa en).bind fun en1 x => (fb en1).bind fun en2 y => match res en2 x, res en2 y with
  | some d, some e => (match sem d e with
    | some r => .ok en2 r
    | none => .no)
  | _, _ => .no
def Sem2O (K : PySem.W.Frag) (r : R2) (sem : D → D → Option D) : Prop := ∀ F H v u d e c (Q : VK), Same F H → Vw K F H v d → Vw K F H u e → sem d e = some c → (∀ p o, H p = none → OwnAt K F (upd H p o) p c → Q (.ref p) (upd H p o)) → r v u H Q
theorem do_op {op : Operator} {r : R2} {sem : D → D → Option D} (ho : OpR X (binaryOp op) r) (hs : Sem2O X.K r sem) (ha : DE X g W a fa) (hb : DE X g W b fb) : DO X g W (.BinOp a op b pos) (oOp sem fa fb) := by
  refine PE.imp (pe_op ho ha hb) fun σ H Q h => ?_
  obtain ⟨F, en, rp, f⟩ := h
  refine ⟨F, en, rp, (Fin.seq f).mono fun F1 H1 en1 x s1 r1 f1 v hv => ⟨F1, en1, r1, (Fin.seq f1).mono fun F2 H2 en2 y s2 r2 f2 u hu => ?_⟩⟩
  split at f2
  · rename_i d e e1 e2
    split at f2
    · rename_i c e3
      refine hs F2 H2 v u d e c Q r2.fz (r2.view (RvOk.mono s2 hv) e1) (r2.view hu e2) e3 fun p o hp ow => ?_
      obtain ⟨r3, n3⟩ := r2.fresh hp ow
      exact f2 F2 H2 (Same.refl _) r2 p _ r3 n3
    · exact f2.elim
  · exact f2.elim
def sRepO : D → D → Option D
  | .list a, .int k => if -(2 ^ 63) ≤ k ∧ k < 2 ^ 63 ∧ a.length * k.toNat ≤ sizeLine then some (.list (List.replicate k.toNat a).flatten) else none
  | _, _ => none
theorem so_rep {K : PySem.W.Frag} : Sem2O K rRep sRepO := by
  intro F H v u d e c Q s hv hu hs g
  unfold sRepO at hs
  split at hs
  · split at hs
    · rename_i hl
      cases hs
      obtain ⟨a, xs, rfl, q1, a1⟩ := vw_lst s hv
      exact ⟨a, _, xs, rfl, vw_int hu, q1, hl.1, hl.2.1, by rw [a1.length]; exact hl.2.2, fun p hp => g p _ hp (.lst upd_same (a1.rep _))⟩
    · cases hs
  · cases hs
theorem do_rep (ha : DE X g W a fa) (hb : DE X g W b fb) : DO X g W (.BinOp a .Mult b pos) (oOp sRepO fa fb) := do_op op_rep so_rep ha hb
/-! ### a method's new list, owned: text.split(sep) -/
def oMeth (q : D → Bool) (sem : D → List D → Option D) (fo : Ev) (av : Av) : Ov := fun en => (fo en).bind fun en1 x => match res en1 x with
  | some d0 => if q d0 = true then (av en1).bind fun en2 xs => (match res en2 x, resAll en2 xs with
      | some d, some ds => (match sem d ds with
        | some r => .ok en2 r
        | none => .no)
      | _, _ => .no) else .no
  | none => .no
def SemVO (K : PySem.W.Frag) (r : V → List V → Hp → VK → Prop) (sem : D → List D → Option D) : Prop := ∀ F H v d vs ds c (Q : VK), Same F H → Vw K F H v d → VwAll K F H vs ds → sem d ds = some c → (∀ p o, H p = none → OwnAt K F (upd H p o) p c → Q (.ref p) (upd H p o)) → r v vs H Q
theorem do_meth {q : D → Bool} {T id : String} {r : V → List V → Hp → VK → Prop} {sem : D → List D → Option D} {name : Str} (hq : IsT X.K q T) (hs : SemVO X.K r sem) (pa : PlainAttrs T) (slot : Slot T name id) (hty : typeOf (.builtin id) = pure (.type "method_descriptor")) (hm : MtR X id r)
    (ho : DE X g W a fa) (ha : DA X g W (b :: es) av) (hbase : attributeBase a name X.env (eval a X.env) = eval a X.env := by rfl)
    (hfew : ((backTo pos (starEach (b :: es) X.env)).all (fun x => !x.1) && (backToKw pos (keywordEach [] X.env)).all (fun x => x.1.isSome)
      && decide ((b :: es).length + ([] : List Keyword).length + (if ([] : List Keyword).isEmpty then 0 else 1) < 30)) = true := by rfl)
    (hline : (apos.endLine == pos.line) = true := by rfl) (h1 : starEach (b :: es) X.env = (false, eval b X.env) :: starEach es X.env := by rfl) (hpl : (backTo pos (starEach es X.env)).any (·.1) = false := by rfl) :
    DO X g W (.Call (.Attribute a name apos) (b :: es) [] pos) (oMeth q sem fa av) :=
  PE.imp (pe_bm pa slot hty hm ho ha hbase hfew hline h1 hpl) fun σ H Q h => by
    obtain ⟨F, en, rp, f⟩ := h
    refine ⟨F, en, rp, (Fin.seq f).mono fun F1 H1 en1 x s1 r1 f1 v hv => ?_⟩
    cases e0 : res en1 x with
    | none => rw [e0] at f1; exact f1.elim
    | some d0 =>
      rw [e0] at f1
      dsimp only at f1
      split at f1
      · rename_i hq0
        refine ⟨hq F1 H1 v d0 r1.fz (r1.view hv e0) hq0, F1, en1, r1, (Fin.seq f1).mono fun F2 H2 en2 xs s2 r2 f2 vs hvs => ?_⟩
        split at f2
        · rename_i d ds e1 e2
          split at f2
          · rename_i rr e3
            refine hs F2 H2 v d vs ds rr Q r2.fz (r2.view (RvOk.mono s2 hv) e1) (r2.viewAll hvs e2) e3 fun p o hp ow => ?_
            obtain ⟨r3, n3⟩ := r2.fresh hp ow
            exact f2 F2 H2 (Same.refl _) r2 p _ r3 n3
          · exact f2.elim
        · exact f2.elim
      · exact f1.elim
def sSplit : D → List D → Option D
  | .str a, [.str b] => if (b.length == 0) = false ∧ a.length + 2 ≤ sizeLine then some (.list ((Txt.split a b).map PyData.str)) else none
  | _, _ => none
theorem dvAll_ofStrs {K : PySem.W.Frag} {F : Hp} : ∀ ys : List Str, DvAll K F (ys.map V.str) (ys.map PyData.str)
  | [] => .nil
  | y :: r => .cons (.str y) (dvAll_ofStrs r)
def rSplit : V → List V → Hp → VK → Prop := fun x xs H Q => ∃ a b, x = .str a ∧ xs = [.str b] ∧ (b.length == 0) = false ∧ a.length + 2 ≤ sizeLine ∧ rNewStrs (Txt.split a b) H Q
theorem so_split {K : PySem.W.Frag} : SemVO K rSplit sSplit := by
  intro F H v d vs ds c Q s hv hvs hs g
  unfold sSplit at hs
  split at hs
  · rename_i a b
    split at hs
    · rename_i hl
      cases hs
      obtain ⟨u, rfl, h1⟩ := vwAll1 hvs
      exact ⟨a, b, vw_str hv, by rw [vw_str h1], hl.1, hl.2, fun p hp => g p _ hp (.lst upd_same (dvAll_ofStrs _))⟩
    · cases hs
  · cases hs
theorem do_split (ho : DE X g W a fa) (hb : DE X g W b fb) (hbase : attributeBase a "split" X.env (eval a X.env) = eval a X.env := by rfl)
    (hfew : ((backTo pos (starEach [b] X.env)).all (fun x => !x.1) && (backToKw pos (keywordEach [] X.env)).all (fun x => x.1.isSome)
      && decide ([b].length + ([] : List Keyword).length + (if ([] : List Keyword).isEmpty then 0 else 1) < 30)) = true := by rfl)
    (hline : (apos.endLine == pos.line) = true := by rfl) (h1 : starEach [b] X.env = (false, eval b X.env) :: starEach [] X.env := by rfl) :
    DO X g W (.Call (.Attribute a "split" apos) [b] [] pos) (oMeth isStrD sSplit fa (aCons fb aNil)) :=
  do_meth isT_str so_split PySem.F.plainAttrs_str PySem.F.slot_str_split PySem.F.type_str_split mt_split ho (da_cons hb da_nil h1) hbase hfew hline h1
end
end DL
namespace DL
open PySem PySem.Spec L2
open PyProof.Rows hiding St
def c_LETTERS : D := .str "abcdefghijklmnopqrstuvwxyz"
def c_MOST_LETTERS : D := .int 8
def c_CLIENT : D := .int 0
def c_START : D := .int 1
def c_END : D := .int 2
def c_NAME : D := .int 3
def n_is_integer : List Str := ["value"]
def b_is_integer : Bd := bRet (dAnd (dUn isInt (dVar 0)) (dNot (dUn isBool (dVar 0))))
def f_is_integer : Fs := runFn 1 1 b_is_integer
def n_is_from : List Str := ["least", "value"]
def b_is_from : Bd := bRet (dAnd (dCall f_is_integer [false] (aCons (dVarF 1) (aNil))) (dOp (sCmp fGe) (dVar 1) (dVar 0)))
def f_is_from : Fs := runFn 2 2 b_is_from
def n_is_tuple_of : List Str := ["length", "value"]
def b_is_tuple_of : Bd := bRet (dAnd (dUn isTup (dVar 1)) (dOp sEq (dCallB sLen (aCons (dVar 1) (aNil))) (dVar 0)))
def f_is_tuple_of : Fs := runFn 2 2 b_is_tuple_of
def n_is_name : List Str := ["value", "letter"]
def b_is_name : Bd := bSeq (bIf (tOrD (tNotD (tOf (dUn isStr (dVar 0)))) (tNotD (tOf (dChain (sCmp fLe) (sCmp fLe) (dC (.int 1)) (dCallB sLen (aCons (dVar 0) (aNil))) (dC c_MOST_LETTERS))))) (bRet (dC (.bool false))) (bNil)) (bRet (dCallB sAll (aCons (dFz (oComp [1] (iOf itAll (dVarF 0)) (tgName 1) (tYesD) (dOp sIn (dVar 1) (dC c_LETTERS)))) (aNil))))
def f_is_name : Fs := runFn 1 2 b_is_name
def n_is_optional : List Str := ["value"]
def b_is_optional : Bd := bRet (dOr (dOp sIs (dVar 0) (dC .none)) (dCall f_is_integer [false] (aCons (dVarF 0) (aNil))))
def f_is_optional : Fs := runFn 1 1 b_is_optional
def n_is_operation : List Str := ["value", "client", "start", "end", "name", "argument", "result"]
def b_is_operation : Bd := bSeq (bIf (tNotD (tOf (dCall f_is_tuple_of [false, false] (aCons (dC (.int 6)) (aCons (dVarF 0) (aNil)))))) (bRet (dC (.bool false))) (bNil)) (bSeq (bAsg (dVarF 0) (hTup 6 (hCons (hName 1) (hCons (hName 2) (hCons (hName 3) (hCons (hName 4) (hCons (hName 5) (hCons (hName 6) (hNil))))))))) (bSeq (bIf (tOrD (tNotD (tOf (dCall f_is_from [false, false] (aCons (dC (.int 0)) (aCons (dVarF 1) (aNil)))))) (tOrD (tNotD (tOf (dCall f_is_integer [false] (aCons (dVarF 2) (aNil))))) (tNotD (tOf (dCall f_is_name [false] (aCons (dVarF 4) (aNil))))))) (bRet (dC (.bool false))) (bNil)) (bSeq (bIf (tOrD (tNotD (tOf (dCall f_is_optional [false] (aCons (dVarF 5) (aNil))))) (tNotD (tOf (dCall f_is_optional [false] (aCons (dVarF 6) (aNil)))))) (bRet (dC (.bool false))) (bNil)) (bRet (dIf (tOf (dOp sIs (dVar 3) (dC .none))) (dOp sIs (dVar 6) (dC .none)) (dCall f_is_from [false, false] (aCons (dVarF 2) (aCons (dVarF 3) (aNil)))))))))
def f_is_operation : Fs := runFn 1 7 b_is_operation
def n_history_fault : List Str := ["value", "index", "operation"]
def b_history_fault : Bd := bSeq (bIf (tNotD (tOf (dUn isTup (dVar 0)))) (bRet (dTup (aNil))) (bNil)) (bSeq (bFor (iOf itEnum (dVarF 0)) (tgTup (tgCons (tgName 1) (tgCons (tgName 2) (tgNil)))) (bIf (tNotD (tOf (dCall f_is_operation [false] (aCons (dVarF 2) (aNil))))) (bRet (dTup (aCons (dVarF 1) (aNil)))) (bNil))) (bRet (dC .none)))
def f_history_fault : Fs := runFn 1 3 b_history_fault
def n_check_history : List Str := ["history", "place"]
def b_check_history : Bd := bSeq (bSet 1 (dCall f_history_fault [false] (aCons (dVarF 0) (aNil)))) (bIf (tOf (dOp sIsNot (dVar 1) (dC .none))) (bNo) (bNil))
def f_check_history : Fs := runFn 1 2 b_check_history
def n_indexes_of_client : List Str := ["history", "client", "index", "operation"]
def b_indexes_of_client : Bd := bRet (dFz (oComp [2, 3] (iOf itEnum (dVarF 0)) (tgTup (tgCons (tgName 2) (tgCons (tgName 3) (tgNil)))) (tOf (dOp sEq (dOp sIx (dVar 3) (dC c_CLIENT)) (dVar 1))) (dVar 2)))
def f_indexes_of_client : Fs := runFn 2 4 b_indexes_of_client
def n_words_of : List Str := ["order", "index"]
def b_words_of : Bd := bRet (dMeth isStrD sJoin (dC (.str " ")) (aCons (dFz (oComp [1] (iOf itAll (dVarF 0)) (tgName 1) (tYesD) (dCallB sStr (aCons (dVar 1) (aNil))))) aNil))
def f_words_of : Fs := runFn 1 2 b_words_of
def n_order_text : List Str := ["order", "index"]
def b_order_text : Bd := bSeq (bIf (tOrD (tNotD (tOf (dUn isTup (dVar 0)))) (tNotD (tOf (dCallB sAll (aCons (dFz (oComp [1] (iOf itAll (dVarF 0)) (tgName 1) (tYesD) (dCall f_is_from [false, false] (aCons (dC (.int 0)) (aCons (dVar 1) (aNil)))))) (aNil)))))) (bRaise "InvalidOrder") (bNil)) (bRet (dCall f_words_of [false] (aCons (dVarF 0) (aNil))))
def f_order_text : Fs := runFn 1 2 b_order_text
def n_line_of_client : List Str := ["history", "moments", "client", "signs", "index", "operation", "last", "at"]
def b_line_of_client : Bd := bSeq (bSetO 3 (oOp sRepO (dLst (aCons (dC (.str ".")) (aNil))) (dCallB sLen (aCons (dVar 1) (aNil))))) (bSeq (bFor (iOf itAll (dCall f_indexes_of_client [false, false] (aCons (dVarF 0) (aCons (dVarF 2) (aNil))))) (tgName 4) (bSeq (bSet 5 (dOp sIx (dVar 0) (dVar 4))) (bSeq (bSet 6 (dIf (tOf (dOp sIs (dOp sIx (dVar 5) (dC c_END)) (dC .none))) (dOp sSub (dCallB sLen (aCons (dVar 1) (aNil))) (dC (.int 1))) (dMeth isListD sIndex (dVar 1) (aCons (dOp sIx (dVar 5) (dC c_END)) aNil)))) (bFor (iRange2 (aCons (dMeth isListD sIndex (dVar 1) (aCons (dOp sIx (dVar 5) (dC c_START)) aNil)) (aCons (dOp sAdd (dVar 6) (dC (.int 1))) (aNil)))) (tgName 7) (bAsg (dOp sIx (dOp sIx (dVar 5) (dC c_NAME)) (dC (.int 0))) (hSub (dVar 3) (dVar 7))))))) (bRet (dMeth isStrD sJoin (dC (.str "")) (aCons (dVar 3) aNil))))
def f_line_of_client : Fs := runFn 3 8 b_line_of_client
def n_picture : List Str := ["history", "ends", "moments", "clients", "operation", "moment", "client"]
def b_picture : Bd := bSeq (bExpr (dCall f_check_history [false] (aCons (dVarF 0) (aNil)))) (bSeq (bSetZ 1 (oComp [4] (iOf itAll (dVarF 0)) (tgName 4) (tOf (dOp sIsNot (dOp sIx (dVar 4) (dC c_END)) (dC .none))) (dOp sIx (dVar 4) (dC c_END)))) (bSeq (bSet 2 (dCallB sSorted2 (aCons (dFz (oCompD [5] (iOf itAll (dOp sAdd (dFz (oComp [4] (iOf itAll (dVarF 0)) (tgName 4) (tYesD) (dOp sIx (dVar 4) (dC c_START)))) (dVar 1))) (tgName 5) (tYesD) (dVar 5) (dC (.bool true)))) (aNil)))) (bSeq (bSet 3 (dCallB sSorted2 (aCons (dFz (oCompD [4] (iOf itAll (dVarF 0)) (tgName 4) (tYesD) (dOp sIx (dVar 4) (dC c_CLIENT)) (dC (.bool true)))) (aNil)))) (bRet (dFz (oComp [6] (iOf itAll (dVarF 3)) (tgName 6) (tYesD) (dCall f_line_of_client [false, false, false] (aCons (dVar 0) (aCons (dVar 2) (aCons (dVar 6) (aNil)))))))))))
def f_picture : Fs := runFn 1 7 b_picture
def n__law_pot : List Str := ["script", "at", "cell"]
def b__law_pot : Bd := bSeq (bSet 2 (dOp sMul (dC (.int 7)) (dVar 1))) (bSeq (bIf (tOf (dOp (sCmp fLt) (dVar 1) (dCallB sLen (aCons (dVar 0) (aNil))))) (bSet 2 (dOp sIx (dVar 0) (dVar 1))) (bNil)) (bSeq (bSet 2 (dOp sMod (dCallB sInt (aCons (dCallB sAbs (aCons (dVar 2) (aNil))) (aNil))) (dOp sMul (dOp sMul (dOp sMul (dOp sPow (dC (.int 10)) (dC (.int 60))) (dOp sPow (dC (.int 10)) (dC (.int 60)))) (dOp sPow (dC (.int 10)) (dC (.int 60)))) (dOp sPow (dC (.int 10)) (dC (.int 60)))))) (bRetO (oLst (aCons (dVarF 2) (aCons (dCallB sInt (aCons (dOp (sCmp fGe) (dVar 2) (dOp sPow (dC (.int 10)) (dC (.int 18)))) (aNil))) (aCons (dOp sMul (dC (.int 3)) (dVar 1)) (aNil))))))))
def f__law_pot : Fs := runFn 2 3 b__law_pot
def n__law_draw : List Str := ["pot", "many", "found", "mixed"]
def b__law_draw : Bd := bSeq (bAsg (dOp sAdd (dOp sIx (dVar 0) (dC (.int 2))) (dC (.int 1))) (hSub (dVar 0) (dC (.int 2)))) (bSeq (bIf (tAndD (tOf (dOp sEq (dOp sIx (dVar 0) (dC (.int 1))) (dC (.int 1)))) (tOf (dOp (sCmp fGt) (dOp sIx (dVar 0) (dC (.int 0))) (dC (.int 0))))) (bSeq (bSet 2 (dOp sMod (dCallB sInt (aCons (dOp sIx (dVar 0) (dC (.int 0))) (aNil))) (dVar 1))) (bSeq (bAsg (dOp sFdiv (dOp sIx (dVar 0) (dC (.int 0))) (dVar 1)) (hSub (dVar 0) (dC (.int 0)))) (bRet (dVarF 2)))) (bNil)) (bSeq (bSet 3 (dOp sMod (dCallB sInt (aCons (dOp sMul (dOp sAdd (dOp sAdd (dOp sIx (dVar 0) (dC (.int 0))) (dOp sMul (dC (.int 977)) (dOp sIx (dVar 0) (dC (.int 2))))) (dC (.int 1))) (dC (.int 48271))) (aNil))) (dC (.int 2147483647)))) (bSeq (bSet 3 (dOp sMod (dCallB sInt (aCons (dOp sMul (dVar 3) (dVar 3)) (aNil))) (dC (.int 2147483629)))) (bSeq (bSet 3 (dOp sMod (dCallB sInt (aCons (dOp sMul (dOp sAdd (dVar 3) (dOp sMul (dC (.int 40692)) (dOp sIx (dVar 0) (dC (.int 2))))) (dC (.int 69621))) (aNil))) (dC (.int 2147483563)))) (bRet (dOp sMod (dCallB sInt (aCons (dOp sFdiv (dVar 3) (dC (.int 8))) (aNil))) (dVar 1)))))))
def f__law_draw : Fs := runFn 2 4 b__law_draw
def n__law_pick : List Str := ["pot", "rows"]
def b__law_pick : Bd := bRet (dOp sIx (dVar 1) (dCall f__law_draw [true, false] (aCons (dVar 0) (aCons (dCallB sLen (aCons (dVar 1) (aNil))) (aNil)))))
def f__law_pick : Fs := runFn 2 2 b__law_pick
def n__law_same : List Str := ["got", "due", "k"]
def b__law_same (fr : Fs) : Bd := bSeq (bIf (tOrD (tOf (dUn isTup (dVar 1))) (tOf (dUn isLst (dVar 1)))) (bSeq (bIf (tOrD (tOf (dOp sNe (dUn isTup (dVar 1)) (dUn isTup (dVar 0)))) (tOf (dOp sNe (dUn isLst (dVar 1)) (dUn isLst (dVar 0))))) (bRet (dC (.bool false))) (bNil)) (bRet (dAnd (dOp sEq (dCallB sLen (aCons (dVar 0) (aNil))) (dCallB sLen (aCons (dVar 1) (aNil)))) (dCallB sAll (aCons (dFz (oComp [2] (iRange1 (aCons (dCallB sLen (aCons (dVar 1) (aNil))) (aNil))) (tgName 2) (tYesD) (dCall fr [false, false] (aCons (dOp sIx (dVar 0) (dVar 2)) (aCons (dOp sIx (dVar 1) (dVar 2)) (aNil)))))) (aNil)))))) (bNil)) (bSeq (bIf (tOf (dOp sIs (dVar 1) (dC .none))) (bRet (dOp sIs (dVar 0) (dC .none))) (bNil)) (bSeq (bIf (tOf (dUn isBool (dVar 1))) (bRet (dAnd (dUn isBool (dVar 0)) (dOp sEq (dVar 0) (dVar 1)))) (bNil)) (bSeq (bIf (tOrD (tOf (dUn isBool (dVar 0))) (tOrD (tOf (dOp sNe (dUn isInt (dVar 0)) (dUn isInt (dVar 1)))) (tOf (dOp sNe (dUn isStr (dVar 0)) (dUn isStr (dVar 1)))))) (bRet (dC (.bool false))) (bNil)) (bRet (dOp sEq (dVar 0) (dVar 1))))))
def f__law_same : Nat → Fs
  | 0 => fun _ => .no
  | n + 1 => runFn 2 3 (b__law_same (f__law_same n))
def n__law_turns : List Str := ["script", "first", "least", "most"]
def b__law_turns : Bd := bRet (dFz (oLRg2 (dVar 1) (dOp sAdd (dVar 1) (dCallB sMax (aCons (dVar 2) (aCons (dCallB sMin (aCons (dOp sSub (dCallB sLen (aCons (dVar 0) (aNil))) (dVar 1)) (aCons (dVar 3) (aNil)))) (aNil)))))))
def f__law_turns : Fs := runFn 4 4 b__law_turns
def n__law_kinds : List Str := []
def b__law_kinds : Bd := bRet (dLst (aCons (dC (.str "bag")) (aCons (dC (.str "queue")) (aCons (dC (.str "stack")) (aCons (dC (.str "least")) (aCons (dC (.str "register")) (aCons (dC (.str "counter")) (aCons (dC (.str "set")) (aCons (dC (.str "map")) (aCons (dC (.str "lock")) (aNil)))))))))))
def f__law_kinds : Fs := runFn 0 0 b__law_kinds
def n__law_map_step : List Str := ["state", "name", "argument", "result", "key", "rest", "worths", "row"]
def b__law_map_step : Bd := bSeq (bSet 4 (dIf (tOf (dOp sEq (dVar 1) (dC (.str "put")))) (dOp sFdiv (dVar 2) (dC (.int 1000))) (dVarF 2))) (bSeq (bParN [5, 6] (xCons (dCallB sTuple (aCons (dFz (oComp [7] (iOf itAll (dVarF 0)) (tgName 7) (tOf (dOp sNe (dOp sIx (dVar 7) (dC (.int 0))) (dVar 4))) (dVar 7))) (aNil))) (xCons (dFz (oComp [7] (iOf itAll (dVarF 0)) (tgName 7) (tOf (dOp sEq (dOp sIx (dVar 7) (dC (.int 0))) (dVar 4))) (dOp sIx (dVar 7) (dC (.int 1))))) (xNil)))) (bSeq (bIf (tOf (dOp sEq (dVar 1) (dC (.str "put")))) (bRet (dTup (aCons (dC (.bool true)) (aCons (dCallB sTuple (aCons (dCallB sSorted (aCons (dOp sAdd (dVar 5) (dTup (aCons (dTup (aCons (dVarF 4) (aCons (dOp sMod (dCallB sInt (aCons (dVar 2) (aNil))) (dC (.int 1000))) (aNil)))) (aNil)))) (aNil))) (aNil))) (aNil))))) (bNil)) (bSeq (bIf (tOf (dOp sEq (dVar 1) (dC (.str "drop")))) (bRet (dTup (aCons (dOp sEq (dVar 3) (dCallB sLen (aCons (dVar 6) (aNil)))) (aCons (dVarF 5) (aNil))))) (bNil)) (bRet (dTup (aCons (dOp sEq (dVar 3) (dIf (tOf (dOp sNe (dVar 6) (dLst (aNil)))) (dOp sIx (dVar 6) (dC (.int 0))) (dC .none))) (aCons (dVarF 0) (aNil))))))))
def f__law_map_step : Fs := runFn 4 8 b__law_map_step
def n__law_step : List Str := ["kind", "state", "operation", "client", "start", "end", "name", "argument", "result", "rest", "held", "one"]
def b__law_step : Bd := bSeq (bAsg (dVarF 2) (hTup 6 (hCons (hName 3) (hCons (hName 4) (hCons (hName 5) (hCons (hName 6) (hCons (hName 7) (hCons (hName 8) (hNil))))))))) (bSeq (bIf (tOf (dOp sEq (dVar 0) (dC (.str "register")))) (bRet (dIf (tOf (dOp sEq (dVar 6) (dC (.str "write")))) (dTup (aCons (dC (.bool true)) (aCons (dVarF 7) (aNil)))) (dTup (aCons (dOp sEq (dVar 8) (dVar 1)) (aCons (dVarF 1) (aNil)))))) (bNil)) (bSeq (bIf (tOf (dOp sEq (dVar 0) (dC (.str "counter")))) (bRet (dTup (aCons (dOp sEq (dVar 8) (dVar 1)) (aCons (dIf (tOf (dOp sEq (dVar 6) (dC (.str "add")))) (dOp sAdd (dVar 1) (dVar 7)) (dVarF 1)) (aNil))))) (bNil)) (bSeq (bIf (tOf (dOp sEq (dVar 0) (dC (.str "lock")))) (bSeq (bIf (tOf (dOp sEq (dVar 6) (dC (.str "take")))) (bRet (dTup (aCons (dOp sEq (dVar 8) (dCallB sInt (aCons (dOp sIs (dVar 1) (dC .none)) (aNil)))) (aCons (dIf (tOf (dOp sIs (dVar 1) (dC .none))) (dVarF 3) (dVarF 1)) (aNil))))) (bNil)) (bRet (dTup (aCons (dOp sEq (dVar 8) (dCallB sInt (aCons (dOp sEq (dVar 1) (dVar 3)) (aNil)))) (aCons (dIf (tOf (dOp sEq (dVar 1) (dVar 3))) (dC .none) (dVarF 1)) (aNil)))))) (bNil)) (bSeq (bIf (tOf (dOp sEq (dVar 0) (dC (.str "map")))) (bRet (dCall f__law_map_step [false, false, false, false] (aCons (dVarF 1) (aCons (dVarF 6) (aCons (dVarF 7) (aCons (dVarF 8) (aNil))))))) (bNil)) (bSeq (bIf (tOf (dOp sEq (dVar 0) (dC (.str "set")))) (bSeq (bSet 9 (dCallB sTuple (aCons (dFz (oComp [11] (iOf itAll (dVarF 1)) (tgName 11) (tOf (dOp sNe (dVar 11) (dVar 7))) (dVar 11))) (aNil)))) (bSeq (bSet 10 (dCallB sInt (aCons (dOp sIn (dVar 7) (dVar 1)) (aNil)))) (bSeq (bIf (tOf (dOp sEq (dVar 6) (dC (.str "has")))) (bRet (dTup (aCons (dOp sEq (dVar 8) (dVar 10)) (aCons (dVarF 1) (aNil))))) (bNil)) (bRet (dIf (tOf (dOp sEq (dVar 6) (dC (.str "drop")))) (dTup (aCons (dOp sEq (dVar 8) (dVar 10)) (aCons (dVarF 9) (aNil)))) (dTup (aCons (dOp sEq (dVar 8) (dOp sSub (dC (.int 1)) (dVar 10))) (aCons (dCallB sTuple (aCons (dCallB sSorted (aCons (dOp sAdd (dVar 9) (dTup (aCons (dVarF 7) (aNil)))) (aNil))) (aNil))) (aNil))))))))) (bNil)) (bSeq (bIf (tOf (dOp sEq (dVar 6) (dC (.str "put")))) (bSeq (bIf (tOf (dOp sIn (dVar 0) (dTup (aCons (dC (.str "bag")) (aCons (dC (.str "least")) (aNil)))))) (bRet (dTup (aCons (dOp sNotIn (dVar 7) (dVar 1)) (aCons (dCallB sTuple (aCons (dCallB sSorted (aCons (dOp sAdd (dVar 1) (dTup (aCons (dVarF 7) (aNil)))) (aNil))) (aNil))) (aNil))))) (bNil)) (bRet (dTup (aCons (dC (.bool true)) (aCons (dOp sAdd (dVar 1) (dTup (aCons (dVarF 7) (aNil)))) (aNil)))))) (bNil)) (bSeq (bIf (tOrD (tOf (dOp sIs (dVar 8) (dC .none))) (tOf (dOp sEq (dVar 1) (dTup (aNil))))) (bRet (dTup (aCons (dAnd (dOp sIs (dVar 8) (dC .none)) (dOp sEq (dVar 1) (dTup (aNil)))) (aCons (dVarF 1) (aNil))))) (bNil)) (bSeq (bSet 10 (dFz (oDisp (keysL [(.inr "bag", dOp sIn (dVar 8) (dVar 1)), (.inr "queue", dOp sEq (dOp sIx (dVar 1) (dC (.int 0))) (dVar 8)), (.inr "stack", dOp sEq (dOp sIx (dVar 1) (dUn sNeg (dC (.int 1)))) (dVar 8)), (.inr "least", dOp sEq (dOp sIx (dVar 1) (dC (.int 0))) (dVar 8))])))) (bRet (dTup (aCons (dOp sDIx (dVar 10) (dVar 0)) (aCons (dIf (tOf (dOp sEq (dVar 0) (dC (.str "stack")))) (dSl (dVar 1) (pNo) (pIs (dUn sNeg (dC (.int 1))))) (dCallB sTuple (aCons (dFz (oComp [11] (iOf itAll (dVarF 1)) (tgName 11) (tOf (dOp sNe (dVar 11) (dVar 8))) (dVar 11))) (aNil)))) (aNil)))))))))))))
def f__law_step : Fs := runFn 3 12 b__law_step
def n__law_first : List Str := ["kind"]
def b__law_first : Bd := bRet (dDGet (dFz (oDisp (keysL [(.inr "register", dC .none), (.inr "lock", dC .none), (.inr "counter", dC (.int 0))]))) (dVar 0) (dTup (aNil)))
def f__law_first : Fs := runFn 1 1 b__law_first
def n__law_shuffled : List Str := ["pot", "things", "left", "found", "turn"]
def b__law_shuffled : Bd := bSeq (bParN [2, 3] (xConsO (oCallB sList (aCons (dVar 1) (aNil))) (xConsO (oLst (aNil)) (xNil)))) (bSeq (bFor (iRange1 (aCons (dCallB sLen (aCons (dVar 2) (aNil))) (aNil))) (tgName 4) (bExpr (dMut isListD mAppend (dVar 3) (aCons (dMut isListD mPopAt (dVar 2) (aCons (dCall f__law_draw [true, false] (aCons (dVar 0) (aCons (dCallB sLen (aCons (dVar 2) (aNil))) (aNil)))) aNil)) aNil)))) (bRetO (oVar 3)))
def f__law_shuffled : Fs := runFn 2 5 b__law_shuffled
def n__law_call : List Str := ["pot", "kind", "values", "clients", "word", "other", "name", "key"]
def b__law_call : Bd := bSeq (bIf (tOf (dOp sIn (dVar 1) (dTup (aCons (dC (.str "bag")) (aCons (dC (.str "queue")) (aCons (dC (.str "stack")) (aCons (dC (.str "least")) (aCons (dC (.str "register")) (aNil))))))))) (bSeq (bAsg (dIf (tOf (dOp sEq (dVar 1) (dC (.str "register")))) (dTup (aCons (dC (.str "write")) (aCons (dC (.str "read")) (aNil)))) (dTup (aCons (dC (.str "put")) (aCons (dC (.str "get")) (aNil))))) (hTup 2 (hCons (hName 4) (hCons (hName 5) (hNil))))) (bRet (dIf (tAndD (tOf (dOp sEq (dCall f__law_draw [true, false] (aCons (dVar 0) (aCons (dC (.int 2)) (aNil)))) (dC (.int 0)))) (tOf (dOp sNe (dVar 2) (dLst (aNil))))) (dTup (aCons (dVarF 4) (aCons (dMut isListD mPop (dVar 2) aNil) (aNil)))) (dTup (aCons (dVarF 5) (aCons (dC .none) (aNil))))))) (bNil)) (bSeq (bIf (tOf (dOp sEq (dVar 1) (dC (.str "counter")))) (bRet (dIf (tOf (dOp (sCmp fGt) (dCall f__law_draw [true, false] (aCons (dVar 0) (aCons (dC (.int 3)) (aNil)))) (dC (.int 0)))) (dTup (aCons (dC (.str "add")) (aCons (dOp sAdd (dC (.int 1)) (dCall f__law_draw [true, false] (aCons (dVar 0) (aCons (dC (.int 4)) (aNil))))) (aNil)))) (dTup (aCons (dC (.str "read")) (aCons (dC .none) (aNil)))))) (bNil)) (bSeq (bIf (tOf (dOp sEq (dVar 1) (dC (.str "lock")))) (bRet (dTup (aCons (dOp sIx (dLst (aCons (dC (.str "take")) (aCons (dC (.str "free")) (aNil)))) (dCall f__law_draw [true, false] (aCons (dVar 0) (aCons (dC (.int 2)) (aNil))))) (aCons (dC .none) (aNil))))) (bNil)) (bSeq (bIf (tOf (dOp sEq (dVar 1) (dC (.str "set")))) (bRet (dTup (aCons (dOp sIx (dLst (aCons (dC (.str "add")) (aCons (dC (.str "drop")) (aCons (dC (.str "has")) (aNil))))) (dCall f__law_draw [true, false] (aCons (dVar 0) (aCons (dC (.int 3)) (aNil))))) (aCons (dCall f__law_draw [true, false] (aCons (dVar 0) (aCons (dC (.int 3)) (aNil)))) (aNil))))) (bNil)) (bSeq (bParN [6, 7] (xCons (dOp sIx (dLst (aCons (dC (.str "put")) (aCons (dC (.str "drop")) (aCons (dC (.str "get")) (aNil))))) (dCall f__law_draw [true, false] (aCons (dVar 0) (aCons (dC (.int 3)) (aNil))))) (xCons (dCall f__law_draw [true, false] (aCons (dVar 0) (aCons (dC (.int 3)) (aNil)))) (xNil)))) (bRet (dTup (aCons (dVarF 6) (aCons (dIf (tOf (dOp sEq (dVar 6) (dC (.str "put")))) (dOp sAdd (dOp sMul (dVar 7) (dC (.int 1000))) (dCall f__law_draw [true, false] (aCons (dVar 0) (aCons (dC (.int 4)) (aNil))))) (dVarF 7)) (aNil)))))))))
def f__law_call : Fs := runFn 4 8 b__law_call
def n__law_play : List Str := ["pot", "kind", "most", "many", "wide", "values", "ends", "play", "k", "point", "start", "end", "free", "client", "name", "argument"]
def b__law_play : Bd := bSeq (bParN [3, 4] (xCons (dCallB sMin (aCons (dVar 2) (aCons (dOp sAdd (dC (.int 2)) (dCall f__law_draw [true, false] (aCons (dVar 0) (aCons (dOp sAdd (dVar 2) (dC (.int 2))) (aNil))))) (aNil)))) (xCons (dOp sIx (dLst (aCons (dC (.int 2)) (aCons (dC (.int 9)) (aCons (dC (.int 9)) (aCons (dC (.int 25)) (aNil)))))) (dCall f__law_draw [true, false] (aCons (dVar 0) (aCons (dC (.int 4)) (aNil))))) (xNil)))) (bSeq (bParN [5, 6, 7] (xConsO (oCall f__law_shuffled [true, false] (aCons (dVar 0) (aCons (dLst (aCons (dC (.int 3)) (aCons (dC (.int 1)) (aCons (dC (.int 7)) (aCons (dC (.int 5)) (aCons (dC (.int 0)) (aCons (dUn sNeg (dC (.int 2))) (aCons (dC (.int 9)) (aCons (dC (.int 11)) (aCons (dC (.int 4)) (aCons (dC (.int 8)) (aCons (dC (.int 12)) (aCons (dC (.int 6)) (aNil)))))))))))))) (aNil)))) (xConsO (oLst (aNil)) (xConsO (oLst (aNil)) (xNil))))) (bSeq (bFor (iRange1 (aCons (dVar 3) (aNil))) (tgName 8) (bSeq (bSet 9 (dOp sAdd (dOp sMul (dC (.int 10)) (dVar 8)) (dCall f__law_draw [true, false] (aCons (dVar 0) (aCons (dC (.int 5)) (aNil)))))) (bSeq (bParN [10, 11] (xCons (dOp sSub (dVar 9) (dCall f__law_draw [true, false] (aCons (dVar 0) (aCons (dVarF 4) (aNil))))) (xCons (dOp sAdd (dVar 9) (dCall f__law_draw [true, false] (aCons (dVar 0) (aCons (dVarF 4) (aNil))))) (xNil)))) (bSeq (bSetZ 12 (oComp [13] (iRange1 (aCons (dCallB sLen (aCons (dVar 6) (aNil))) (aNil))) (tgName 13) (tOf (dOp (sCmp fLt) (dOp sIx (dVar 6) (dVar 13)) (dVar 10))) (dVar 13))) (bSeq (bIf (tOrD (tOf (dOp sEq (dVar 12) (dLst (aNil)))) (tAndD (tOf (dOp sEq (dCall f__law_draw [true, false] (aCons (dVar 0) (aCons (dC (.int 3)) (aNil)))) (dC (.int 0)))) (tOf (dOp (sCmp fLt) (dCallB sLen (aCons (dVar 6) (aNil))) (dC (.int 4)))))) (bSeq (bExpr (dMut isListD mAppend (dVar 6) (aCons (dVarF 11) aNil))) (bSet 13 (dOp sSub (dCallB sLen (aCons (dVar 6) (aNil))) (dC (.int 1))))) (bSeq (bSet 13 (dOp sIx (dVar 12) (dCall f__law_draw [true, false] (aCons (dVar 0) (aCons (dCallB sLen (aCons (dVar 12) (aNil))) (aNil)))))) (bAsg (dVarF 11) (hSub (dVar 6) (dVar 13))))) (bSeq (bAsg (dCall f__law_call [true, false, true, false] (aCons (dVar 0) (aCons (dVarF 1) (aCons (dVar 5) (aCons (dVarF 13) (aNil)))))) (hTup 2 (hCons (hName 14) (hCons (hName 15) (hNil))))) (bExpr (dMut isListD mAppend (dVar 7) (aCons (dTup (aCons (dVarF 13) (aCons (dVarF 10) (aCons (dVarF 9) (aCons (dVarF 11) (aCons (dVarF 14) (aCons (dVarF 15) (aNil)))))))) aNil))))))))) (bRet (dCallB sTuple (aCons (dFz (oCall f__law_shuffled [true, false] (aCons (dVar 0) (aCons (dVarF 7) (aNil))))) (aNil))))))
def f__law_play : Fs := runFn 3 16 b__law_play
def n__law_result : List Str := ["kind", "state", "member", "client", "start", "point", "end", "name", "argument", "numbers", "result", "operation", "possible", "later", "row", "number"]
def b__law_result : Bd := bSeq (bAsg (dVarF 2) (hTup 6 (hCons (hName 3) (hCons (hName 4) (hCons (hName 5) (hCons (hName 6) (hCons (hName 7) (hCons (hName 8) (hNil))))))))) (bSeq (bSet 9 (dIf (tOf (dOp sEq (dVar 0) (dC (.str "map")))) (dFz (oComp [14] (iOf itAll (dVarF 1)) (tgName 14) (tYesD) (dOp sIx (dVar 14) (dC (.int 1))))) (dIf (tOf (dUn isTup (dVar 1))) (dCallB sList (aCons (dVar 1) (aNil))) (dLst (aCons (dVarF 1) (aNil)))))) (bSeq (bFor (iOf itAll (dOp sAdd (dOp sAdd (dLst (aCons (dC .none) (aNil))) (dCallB sSorted (aCons (dFz (oComp [15] (iOf itAll (dVarF 9)) (tgName 15) (tOf (dOp sIsNot (dVar 15) (dC .none))) (dVar 15))) (aNil)))) (dLst (aCons (dC (.int 0)) (aCons (dC (.int 1)) (aNil)))))) (tgName 10) (bSeq (bSet 11 (dTup (aCons (dVarF 3) (aCons (dVarF 4) (aCons (dVarF 6) (aCons (dVarF 7) (aCons (dVarF 8) (aCons (dVarF 10) (aNil))))))))) (bSeq (bAsg (dCall f__law_step [false, false, false] (aCons (dVarF 0) (aCons (dVarF 1) (aCons (dVarF 11) (aNil))))) (hTup 2 (hCons (hName 12) (hCons (hName 13) (hNil))))) (bIf (tOf (dVar 12)) (bRet (dTup (aCons (dVarF 11) (aCons (dVarF 13) (aNil))))) (bNil))))) (bRet (dTup (aCons (dC .none) (aCons (dVarF 1) (aNil)))))))
def f__law_result : Fs := runFn 3 16 b__law_result
def n__law_played : List Str := ["kind", "play", "rows", "state", "found", "point", "k", "operation"]
def b__law_played : Bd := bSeq (bParN [2, 3, 4] (xCons (dCallB sSorted (aCons (dFz (oComp [6] (iRange1 (aCons (dCallB sLen (aCons (dVar 1) (aNil))) (aNil))) (tgName 6) (tYesD) (dTup (aCons (dOp sIx (dOp sIx (dVar 1) (dVar 6)) (dC (.int 2))) (aCons (dVar 6) (aNil)))))) (aNil))) (xCons (dCall f__law_first [false] (aCons (dVarF 0) (aNil))) (xConsO (oDct) (xNil))))) (bSeq (bFor (iOf itAll (dVarF 2)) (tgTup (tgCons (tgName 5) (tgCons (tgName 6) (tgNil)))) (bSeq (bAsg (dCall f__law_result [false, false, false] (aCons (dVarF 0) (aCons (dVarF 3) (aCons (dOp sIx (dVar 1) (dVar 6)) (aNil))))) (hTup 2 (hCons (hName 7) (hCons (hName 3) (hNil))))) (bDPut (dVar 4) (dVar 6) (dVarF 7)))) (bRet (dCallB sTuple (aCons (dFz (oComp [6] (iRange1 (aCons (dCallB sLen (aCons (dVar 1) (aNil))) (aNil))) (tgName 6) (tYesD) (dOp sDIx (dVar 4) (dVar 6)))) (aNil)))))
def f__law_played : Fs := runFn 2 8 b__law_played
def n__law_put : List Str := ["history", "k", "operation"]
def b__law_put : Bd := bRet (dOp sAdd (dOp sAdd (dSl (dVar 0) (pNo) (pIs (dVar 1))) (dTup (aCons (dVarF 2) (aNil)))) (dSl (dVar 0) (pIs (dOp sAdd (dVar 1) (dC (.int 1)))) (pNo)))
def f__law_put : Fs := runFn 3 3 b__law_put
def n__law_bent : List Str := ["pot", "history", "k", "turn", "one", "like", "j", "later", "more"]
def b__law_bent : Bd := bSeq (bIf (tOf (dOp sEq (dVar 1) (dTup (aNil)))) (bRet (dVarF 1)) (bNil)) (bSeq (bParN [2, 3] (xCons (dCall f__law_draw [true, false] (aCons (dVar 0) (aCons (dCallB sLen (aCons (dVar 1) (aNil))) (aNil)))) (xCons (dCall f__law_draw [true, false] (aCons (dVar 0) (aCons (dC (.int 9)) (aNil)))) (xNil)))) (bSeq (bSet 4 (dOp sIx (dVar 1) (dVar 2))) (bSeq (bSetZ 5 (oComp [6] (iRange1 (aCons (dCallB sLen (aCons (dVar 1) (aNil))) (aNil))) (tgName 6) (tAndD (tOf (dOp sEq (dOp sIx (dOp sIx (dVar 1) (dVar 6)) (dC (.int 3))) (dOp sIx (dVar 4) (dC (.int 3))))) (tOf (dOp sNe (dOp sIx (dOp sIx (dVar 1) (dVar 6)) (dC (.int 5))) (dOp sIx (dVar 4) (dC (.int 5)))))) (dVar 6))) (bSeq (bIf (tAndD (tOf (dOp (sCmp fLt) (dVar 3) (dC (.int 6)))) (tOf (dOp sNe (dVar 5) (dLst (aNil))))) (bSeq (bSet 6 (dCall f__law_pick [true, false] (aCons (dVar 0) (aCons (dVarF 5) (aNil))))) (bSeq (bSet 7 (dCall f__law_put [false, false, false] (aCons (dVarF 1) (aCons (dVarF 2) (aCons (dOp sAdd (dSl (dVar 4) (pNo) (pIs (dC (.int 5)))) (dTup (aCons (dOp sIx (dOp sIx (dVar 1) (dVar 6)) (dC (.int 5))) (aNil)))) (aNil)))))) (bRet (dIf (tOf (dOp sEq (dVar 3) (dC (.int 5)))) (dVarF 7) (dCall f__law_put [false, false, false] (aCons (dVarF 7) (aCons (dVarF 6) (aCons (dOp sAdd (dSl (dOp sIx (dVar 1) (dVar 6)) (pNo) (pIs (dC (.int 5)))) (dTup (aCons (dOp sIx (dVar 4) (dC (.int 5))) (aNil)))) (aNil))))))))) (bNil)) (bSeq (bIf (tOf (dOp (sCmp fLt) (dVar 3) (dC (.int 7)))) (bSeq (bSet 8 (dOp sSub (dCall f__law_draw [true, false] (aCons (dVar 0) (aCons (dC (.int 41)) (aNil)))) (dC (.int 20)))) (bRet (dCall f__law_put [false, false, false] (aCons (dVarF 1) (aCons (dVarF 2) (aCons (dOp sAdd (dTup (aCons (dOp sIx (dVar 4) (dC (.int 0))) (aCons (dOp sAdd (dOp sIx (dVar 4) (dC (.int 1))) (dVar 8)) (aCons (dOp sAdd (dOp sIx (dVar 4) (dC (.int 2))) (dVar 8)) (aNil))))) (dSl (dVar 4) (pIs (dC (.int 3))) (pNo))) (aNil))))))) (bNil)) (bSeq (bIf (tOf (dOp sEq (dVar 3) (dC (.int 7)))) (bRet (dCall f__law_put [false, false, false] (aCons (dVarF 1) (aCons (dVarF 2) (aCons (dOp sAdd (dTup (aCons (dOp sIx (dVar 4) (dC (.int 0))) (aCons (dOp sSub (dOp sIx (dVar 4) (dC (.int 1))) (dCall f__law_draw [true, false] (aCons (dVar 0) (aCons (dC (.int 20)) (aNil))))) (aCons (dOp sAdd (dOp sIx (dVar 4) (dC (.int 2))) (dCall f__law_draw [true, false] (aCons (dVar 0) (aCons (dC (.int 20)) (aNil))))) (aNil))))) (dSl (dVar 4) (pIs (dC (.int 3))) (pNo))) (aNil)))))) (bNil)) (bRet (dOp sAdd (dSl (dVar 1) (pNo) (pIs (dVar 2))) (dSl (dVar 1) (pIs (dOp sAdd (dVar 2) (dC (.int 1)))) (pNo))))))))))
def f__law_bent : Fs := runFn 2 9 b__law_bent
def n__law_history : List Str := ["pot", "kind", "most", "history", "turn"]
def b__law_history : Bd := bSeq (bSet 3 (dCall f__law_played [false, false] (aCons (dVarF 1) (aCons (dCall f__law_play [true, false, false] (aCons (dVar 0) (aCons (dVarF 1) (aCons (dVarF 2) (aNil))))) (aNil))))) (bSeq (bFor (iRange1 (aCons (dOp sIx (dLst (aCons (dC (.int 0)) (aCons (dC (.int 1)) (aCons (dC (.int 2)) (aCons (dC (.int 3)) (aCons (dC (.int 4)) (aNil))))))) (dCall f__law_draw [true, false] (aCons (dVar 0) (aCons (dC (.int 5)) (aNil))))) (aNil))) (tgName 4) (bSet 3 (dCall f__law_bent [true, false] (aCons (dVar 0) (aCons (dVarF 3) (aNil)))))) (bRet (dVarF 3)))
def f__law_history : Fs := runFn 3 5 b__law_history
def n__law_told : List Str := ["order", "told"]
def b__law_told : Bd := bSeq (bTryM [("InvalidOrder", bSet 1 (dC (.int 0)))] (bSet 1 (dCall f_order_text [false] (aCons (dVarF 0) (aNil))))) (bRet (dVarF 1))
def f__law_told : Fs := runFn 1 2 b__law_told
def n__law_picture : List Str := ["history", "moments", "lines", "client", "signs", "moment", "sign", "one"]
def b__law_picture : Bd := bSeq (bSet 1 (dUn sUniq (dOp sAdd (dFz (oComp [7] (iOf itAll (dVarF 0)) (tgName 7) (tYesD) (dOp sIx (dVar 7) (dC (.int 1))))) (dFz (oComp [7] (iOf itAll (dVarF 0)) (tgName 7) (tOf (dOp sIsNot (dOp sIx (dVar 7) (dC (.int 2))) (dC .none))) (dOp sIx (dVar 7) (dC (.int 2)))))))) (bSeq (bSetO 2 (oLst (aNil))) (bSeq (bFor (iOf itAll (dUn sUniq (dFz (oComp [7] (iOf itAll (dVarF 0)) (tgName 7) (tYesD) (dOp sIx (dVar 7) (dC (.int 0))))))) (tgName 3) (bSeq (bSetO 4 (oLst (aNil))) (bSeq (bFor (iOf itAll (dVarF 1)) (tgName 5) (bSeq (bSet 6 (dC (.str "."))) (bSeq (bFor (iOf itAll (dVarF 0)) (tgName 7) (bIf (tAndD (tOf (dOp sEq (dOp sIx (dVar 7) (dC (.int 0))) (dVar 3))) (tAndD (tOf (dOp (sCmp fLe) (dOp sIx (dVar 7) (dC (.int 1))) (dVar 5))) (tOrD (tOf (dOp sIs (dOp sIx (dVar 7) (dC (.int 2))) (dC .none))) (tOf (dOp (sCmp fLe) (dVar 5) (dOp sIx (dVar 7) (dC (.int 2)))))))) (bSet 6 (dOp sIx (dOp sIx (dVar 7) (dC (.int 3))) (dC (.int 0)))) (bNil))) (bExpr (dMut isListD mAppend (dVar 4) (aCons (dVarF 6) aNil)))))) (bExpr (dMut isListD mAppend (dVar 2) (aCons (dMeth isStrD sJoin (dC (.str "")) (aCons (dVar 4) aNil)) aNil)))))) (bRet (dVarF 2))))
def f__law_picture : Fs := runFn 1 8 b__law_picture
def n_law : List Str := ["script", "at", "pot", "history", "order", "bad", "one", "k"]
def b_law : Bd := bSeq (bFor (iOf itAll (dCall f__law_turns [false, false, false, false] (aCons (dVarF 0) (aCons (dC (.int 0)) (aCons (dC (.int 4)) (aCons (dC (.int 20)) (aNil))))))) (tgName 1) (bSeq (bSetO 2 (oCall f__law_pot [false, false] (aCons (dVarF 0) (aCons (dVarF 1) (aNil))))) (bSeq (bSet 3 (dCall f__law_history [true, false, false] (aCons (dVar 2) (aCons (dCall f__law_pick [true, false] (aCons (dVar 2) (aCons (dCall0 f__law_kinds) (aNil)))) (aCons (dC (.int 8)) (aNil)))))) (bSeq (bSet 3 (dCallB sTuple (aCons (dFz (oComp [6] (iOf itAll (dVarF 3)) (tgName 6) (tYesD) (dIf (tOf (dOp sEq (dCall f__law_draw [true, false] (aCons (dVar 2) (aCons (dC (.int 6)) (aNil)))) (dC (.int 0)))) (dOp sAdd (dOp sAdd (dOp sAdd (dSl (dVar 6) (pNo) (pIs (dC (.int 2)))) (dTup (aCons (dC .none) (aNil)))) (dSl (dVar 6) (pIs (dC (.int 3))) (pIs (dC (.int 5))))) (dTup (aCons (dC .none) (aNil)))) (dVar 6)))) (aNil)))) (bSeq (bIf (tNotD (tOf (dCall (f__law_same 12) [false, false] (aCons (dCall f_picture [false] (aCons (dVarF 3) (aNil))) (aCons (dCall f__law_picture [false] (aCons (dVarF 3) (aNil))) (aNil)))))) (bRet (dC (.bool false))) (bNil)) (bSeq (bSet 4 (dCallB sTuple (aCons (dFz (oComp [7] (iRange1 (aCons (dCall f__law_draw [true, false] (aCons (dVar 2) (aCons (dC (.int 9)) (aNil)))) (aNil))) (tgName 7) (tYesD) (dCall f__law_draw [true, false] (aCons (dVar 2) (aCons (dC (.int 60)) (aNil)))))) (aNil)))) (bSeq (bIf (tNotD (tOf (dCall (f__law_same 12) [false, false] (aCons (dCall f__law_told [false] (aCons (dVarF 4) (aNil))) (aCons (dMeth isStrD sJoin (dC (.str " ")) (aCons (dFz (oComp [7] (iOf itAll (dVarF 4)) (tgName 7) (tYesD) (dCallB sStr (aCons (dVar 7) (aNil))))) aNil)) (aNil)))))) (bRet (dC (.bool false))) (bNil)) (bSeq (bSet 5 (dCall f__law_pick [true, false] (aCons (dVar 2) (aCons (dLst (aCons (dCallB sList (aCons (dVar 4) (aNil))) (aCons (dC .none) (aCons (dC (.int 0)) (aCons (dC (.str "0 1")) (aCons (dOp sAdd (dVar 4) (dTup (aCons (dUn sNeg (dC (.int 1))) (aNil)))) (aCons (dOp sAdd (dVar 4) (dTup (aCons (dC (.bool true)) (aNil)))) (aCons (dOp sAdd (dVar 4) (dTup (aCons (dC .none) (aNil)))) (aCons (dTup (aCons (dVarF 4) (aNil))) (aCons (dOp sAdd (dVar 4) (dTup (aCons (dC (.str "1")) (aNil)))) (aNil))))))))))) (aNil))))) (bIf (tNotD (tOf (dCall (f__law_same 12) [false, false] (aCons (dCall f__law_told [false] (aCons (dVarF 5) (aNil))) (aCons (dC (.int 0)) (aNil)))))) (bRet (dC (.bool false))) (bNil)))))))))) (bRet (dC (.bool true)))
def f_law : Fs := runFn 1 8 b_law
end DL
namespace DL
open PySem PySem.Spec L2
open PyProof.Rows hiding St
def topS (i : Nat) : Stmt := PySem.Challenge.pw_linewitness_k83_orders_and_pictures.main.body.getD i (.Pass ⟨0, 0, 0, 0⟩)
abbrev s_is_integer : Stmt := topS 7
theorem sc_is_integer : FnScope n_is_integer ["value"] (defScope s_is_integer) := ⟨rfl, rfl, rfl, by decide +kernel, rfl, by decide +kernel, by decide +kernel⟩
theorem fn_is_integer {P : Program} {w : World} {K : PySem.W.Frag} {mg : Str → Option Value} {base : Heap} {f : Addr} {fd : FuncData} (B : Bt mg) (F : Fun K "is_integer" "is_integer" s_is_integer f fd) (hm : mg "is_integer" = some (.ref f)) : FnOk P w K mg base (L2.CX P w) 1 f fd ["value"] (spF K mg f_is_integer) :=
  mkFn F sc_is_integer fun cdv A outer s H E g hg hr => by
    have nd := sc_is_integer.nd
    have tk := takesF (P := P) (w := w) (K := K) (mg := mg) (base := base) (N := n_is_integer) (qual := "is_integer") (sc := defScope s_is_integer) (f := f) (cdv := cdv) (A := A) (outer := outer) (s := s) (H := H) (E := E)
    exact ds_one (ds_ret (de_and (b_isInt B (v_ 0)) (de_one (de_not (b_isBool B (v_ 0))))))
theorem ok_is_integer {P : Program} {w : World} {K : PySem.W.Frag} {mg : Str → Option Value} {base : Heap} {f : Addr} {fd : FuncData} (B : Bt mg) (F : Fun K "is_integer" "is_integer" s_is_integer f fd) (hm : mg "is_integer" = some (.ref f)) : Callee P w K mg base "is_integer" 1 f_is_integer :=
  Callee.mk' F hm (fn_is_integer B F hm) (F.binds (ps := ["value"]) fun _ _ _ _ _ _ us hl => match us, hl with | [_], _ => rfl)
abbrev s_is_from : Stmt := topS 8
theorem sc_is_from : FnScope n_is_from ["least", "value"] (defScope s_is_from) := ⟨rfl, rfl, rfl, by decide +kernel, rfl, by decide +kernel, by decide +kernel⟩
theorem fn_is_from {P : Program} {w : World} {K : PySem.W.Frag} {mg : Str → Option Value} {base : Heap} {f : Addr} {fd : FuncData} (B : Bt mg) (c_is_integer : Callee P w K mg base "is_integer" 1 f_is_integer) (F : Fun K "is_from" "is_from" s_is_from f fd) (hm : mg "is_from" = some (.ref f)) : FnOk P w K mg base (L2.CX P w) 2 f fd ["least", "value"] (spF K mg f_is_from) :=
  mkFn F sc_is_from fun cdv A outer s H E g hg hr => by
    have nd := sc_is_from.nd
    have tk := takesF (P := P) (w := w) (K := K) (mg := mg) (base := base) (N := n_is_from) (qual := "is_from") (sc := defScope s_is_from) (f := f) (cdv := cdv) (A := A) (outer := outer) (s := s) (H := H) (E := E)
    exact ds_one (ds_ret (de_and (f_ [false] c_is_integer hr tk (da_cons (vf_ hg 1) (da_nil))) (de_one (c_ge (v_ 1) (v_ 0)))))
theorem ok_is_from {P : Program} {w : World} {K : PySem.W.Frag} {mg : Str → Option Value} {base : Heap} {f : Addr} {fd : FuncData} (B : Bt mg) (c_is_integer : Callee P w K mg base "is_integer" 1 f_is_integer) (F : Fun K "is_from" "is_from" s_is_from f fd) (hm : mg "is_from" = some (.ref f)) : Callee P w K mg base "is_from" 2 f_is_from :=
  Callee.mk' F hm (fn_is_from B c_is_integer F hm) (F.binds (ps := ["least", "value"]) fun _ _ _ _ _ _ us hl => match us, hl with | [_, _], _ => rfl)
abbrev s_is_tuple_of : Stmt := topS 9
theorem sc_is_tuple_of : FnScope n_is_tuple_of ["length", "value"] (defScope s_is_tuple_of) := ⟨rfl, rfl, rfl, by decide +kernel, rfl, by decide +kernel, by decide +kernel⟩
theorem fn_is_tuple_of {P : Program} {w : World} {K : PySem.W.Frag} {mg : Str → Option Value} {base : Heap} {f : Addr} {fd : FuncData} (B : Bt mg) (F : Fun K "is_tuple_of" "is_tuple_of" s_is_tuple_of f fd) (hm : mg "is_tuple_of" = some (.ref f)) : FnOk P w K mg base (L2.CX P w) 1 f fd ["length", "value"] (spF K mg f_is_tuple_of) :=
  mkFn F sc_is_tuple_of fun cdv A outer s H E g hg hr => by
    have nd := sc_is_tuple_of.nd
    have tk := takesF (P := P) (w := w) (K := K) (mg := mg) (base := base) (N := n_is_tuple_of) (qual := "is_tuple_of") (sc := defScope s_is_tuple_of) (f := f) (cdv := cdv) (A := A) (outer := outer) (s := s) (H := H) (E := E)
    exact ds_one (ds_ret (de_and (b_isTuple B (v_ 1)) (de_one (c_eq hr (b_len B (da_cons (v_ 1) (da_nil))) (v_ 0)))))
theorem ok_is_tuple_of {P : Program} {w : World} {K : PySem.W.Frag} {mg : Str → Option Value} {base : Heap} {f : Addr} {fd : FuncData} (B : Bt mg) (F : Fun K "is_tuple_of" "is_tuple_of" s_is_tuple_of f fd) (hm : mg "is_tuple_of" = some (.ref f)) : Callee P w K mg base "is_tuple_of" 1 f_is_tuple_of :=
  Callee.mk' F hm (fn_is_tuple_of B F hm) (F.binds (ps := ["length", "value"]) fun _ _ _ _ _ _ us hl => match us, hl with | [_, _], _ => rfl)
abbrev s_is_name : Stmt := topS 10
theorem sc_is_name : FnScope n_is_name ["value"] (defScope s_is_name) := ⟨rfl, rfl, rfl, by decide +kernel, rfl, by decide +kernel, by decide +kernel⟩
theorem fn_is_name {P : Program} {w : World} {K : PySem.W.Frag} {mg : Str → Option Value} {base : Heap} {f : Addr} {fd : FuncData} (B : Bt mg) (k_MOST_LETTERS : Konst K mg "MOST_LETTERS" c_MOST_LETTERS) (k_LETTERS : Konst K mg "LETTERS" c_LETTERS) (F : Fun K "is_name" "is_name" s_is_name f fd) (hm : mg "is_name" = some (.ref f)) : FnOk P w K mg base (L2.CX P w) 1 f fd ["value"] (spF K mg f_is_name) :=
  mkFn F sc_is_name fun cdv A outer s H E g hg hr => by
    have nd := sc_is_name.nd
    have tk := takesF (P := P) (w := w) (K := K) (mg := mg) (base := base) (N := n_is_name) (qual := "is_name") (sc := defScope s_is_name) (f := f) (cdv := cdv) (A := A) (outer := outer) (s := s) (H := H) (E := E)
    exact ds_cons (ds_if (dt_w (dw_or (dt_not (t_v (b_isStr B (v_ 0)))) (dw_or1 (dt_not (t_lele (de_int) (b_len B (da_cons (v_ 0) (da_nil))) (k_ k_MOST_LETTERS)))))) (ds_one (ds_ret (de_bl))) (ds_nil)) (ds_one (ds_ret (b_all rfl B (da_cons (DO.fz (do_comp rfl nd (own := [("letter", 1)]) (di_all (vf_ hg 0)) (blkOk_by (N := n_is_name) (sc := defScope s_is_name) (own := [("letter", 1)]) (by decide +kernel)) (by decide) (fun _ _ _ _ _ _ => gn_ 1 nd) (fun _ _ _ _ _ _ => dts_nil) (fun _ _ _ _ _ _ => c_in hr (v_ 1) (k_ k_LETTERS)))) (da_nil)))))
theorem ok_is_name {P : Program} {w : World} {K : PySem.W.Frag} {mg : Str → Option Value} {base : Heap} {f : Addr} {fd : FuncData} (B : Bt mg) (k_MOST_LETTERS : Konst K mg "MOST_LETTERS" c_MOST_LETTERS) (k_LETTERS : Konst K mg "LETTERS" c_LETTERS) (F : Fun K "is_name" "is_name" s_is_name f fd) (hm : mg "is_name" = some (.ref f)) : Callee P w K mg base "is_name" 1 f_is_name :=
  Callee.mk' F hm (fn_is_name B k_MOST_LETTERS k_LETTERS F hm) (F.binds (ps := ["value"]) fun _ _ _ _ _ _ us hl => match us, hl with | [_], _ => rfl)
abbrev s_is_optional : Stmt := topS 11
theorem sc_is_optional : FnScope n_is_optional ["value"] (defScope s_is_optional) := ⟨rfl, rfl, rfl, by decide +kernel, rfl, by decide +kernel, by decide +kernel⟩
theorem fn_is_optional {P : Program} {w : World} {K : PySem.W.Frag} {mg : Str → Option Value} {base : Heap} {f : Addr} {fd : FuncData} (B : Bt mg) (c_is_integer : Callee P w K mg base "is_integer" 1 f_is_integer) (F : Fun K "is_optional" "is_optional" s_is_optional f fd) (hm : mg "is_optional" = some (.ref f)) : FnOk P w K mg base (L2.CX P w) 2 f fd ["value"] (spF K mg f_is_optional) :=
  mkFn F sc_is_optional fun cdv A outer s H E g hg hr => by
    have nd := sc_is_optional.nd
    have tk := takesF (P := P) (w := w) (K := K) (mg := mg) (base := base) (N := n_is_optional) (qual := "is_optional") (sc := defScope s_is_optional) (f := f) (cdv := cdv) (A := A) (outer := outer) (s := s) (H := H) (E := E)
    exact ds_one (ds_ret (de_or (c_is (v_ 0) (de_non)) (de_one (f_ [false] c_is_integer hr tk (da_cons (vf_ hg 0) (da_nil))))))
theorem ok_is_optional {P : Program} {w : World} {K : PySem.W.Frag} {mg : Str → Option Value} {base : Heap} {f : Addr} {fd : FuncData} (B : Bt mg) (c_is_integer : Callee P w K mg base "is_integer" 1 f_is_integer) (F : Fun K "is_optional" "is_optional" s_is_optional f fd) (hm : mg "is_optional" = some (.ref f)) : Callee P w K mg base "is_optional" 2 f_is_optional :=
  Callee.mk' F hm (fn_is_optional B c_is_integer F hm) (F.binds (ps := ["value"]) fun _ _ _ _ _ _ us hl => match us, hl with | [_], _ => rfl)
abbrev s_is_operation : Stmt := topS 17
theorem sc_is_operation : FnScope n_is_operation ["value"] (defScope s_is_operation) := ⟨rfl, rfl, rfl, by decide +kernel, rfl, by decide +kernel, by decide +kernel⟩
theorem fn_is_operation {P : Program} {w : World} {K : PySem.W.Frag} {mg : Str → Option Value} {base : Heap} {f : Addr} {fd : FuncData} (B : Bt mg) (c_is_tuple_of : Callee P w K mg base "is_tuple_of" 1 f_is_tuple_of) (c_is_from : Callee P w K mg base "is_from" 2 f_is_from) (c_is_integer : Callee P w K mg base "is_integer" 1 f_is_integer) (c_is_name : Callee P w K mg base "is_name" 1 f_is_name) (c_is_optional : Callee P w K mg base "is_optional" 2 f_is_optional) (F : Fun K "is_operation" "is_operation" s_is_operation f fd) (hm : mg "is_operation" = some (.ref f)) : FnOk P w K mg base (L2.CX P w) 3 f fd ["value"] (spF K mg f_is_operation) :=
  mkFn F sc_is_operation fun cdv A outer s H E g hg hr => by
    have nd := sc_is_operation.nd
    have tk := takesF (P := P) (w := w) (K := K) (mg := mg) (base := base) (N := n_is_operation) (qual := "is_operation") (sc := defScope s_is_operation) (f := f) (cdv := cdv) (A := A) (outer := outer) (s := s) (H := H) (E := E)
    exact ds_cons (ds_if (dt_not (t_v (f_ [false, false] c_is_tuple_of hr tk (da_cons (de_int) (da_cons (vf_ hg 0) (da_nil)))))) (ds_one (ds_ret (de_bl))) (ds_nil)) (ds_cons (ds_asg (vf_ hg 0) (dh_tup rfl (dhs_cons (hn_ 1 nd) (dhs_cons (hn_ 2 nd) (dhs_cons (hn_ 3 nd) (dhs_cons (hn_ 4 nd) (dhs_cons (hn_ 5 nd) (dhs_cons (hn_ 6 nd) (dhs_nil))))))))) (ds_cons (ds_if (dt_w (dw_or (dt_not (t_v (f_ [false, false] c_is_from hr tk (da_cons (de_int) (da_cons (vf_ hg 1) (da_nil)))))) (dw_or (dt_not (t_v (f_ [false] c_is_integer hr tk (da_cons (vf_ hg 2) (da_nil))))) (dw_or1 (dt_not (t_v (f_ [false] c_is_name hr tk (da_cons (vf_ hg 4) (da_nil))))))))) (ds_one (ds_ret (de_bl))) (ds_nil)) (ds_cons (ds_if (dt_w (dw_or (dt_not (t_v (f_ [false] c_is_optional hr tk (da_cons (vf_ hg 5) (da_nil))))) (dw_or1 (dt_not (t_v (f_ [false] c_is_optional hr tk (da_cons (vf_ hg 6) (da_nil)))))))) (ds_one (ds_ret (de_bl))) (ds_nil)) (ds_one (ds_ret (de_if (t_is (v_ 3) (de_non)) (c_is (v_ 6) (de_non)) (f_ [false, false] c_is_from hr tk (da_cons (vf_ hg 2) (da_cons (vf_ hg 3) (da_nil))))))))))
theorem ok_is_operation {P : Program} {w : World} {K : PySem.W.Frag} {mg : Str → Option Value} {base : Heap} {f : Addr} {fd : FuncData} (B : Bt mg) (c_is_tuple_of : Callee P w K mg base "is_tuple_of" 1 f_is_tuple_of) (c_is_from : Callee P w K mg base "is_from" 2 f_is_from) (c_is_integer : Callee P w K mg base "is_integer" 1 f_is_integer) (c_is_name : Callee P w K mg base "is_name" 1 f_is_name) (c_is_optional : Callee P w K mg base "is_optional" 2 f_is_optional) (F : Fun K "is_operation" "is_operation" s_is_operation f fd) (hm : mg "is_operation" = some (.ref f)) : Callee P w K mg base "is_operation" 3 f_is_operation :=
  Callee.mk' F hm (fn_is_operation B c_is_tuple_of c_is_from c_is_integer c_is_name c_is_optional F hm) (F.binds (ps := ["value"]) fun _ _ _ _ _ _ us hl => match us, hl with | [_], _ => rfl)
abbrev s_history_fault : Stmt := topS 18
theorem sc_history_fault : FnScope n_history_fault ["value"] (defScope s_history_fault) := ⟨rfl, rfl, rfl, by decide +kernel, rfl, by decide +kernel, by decide +kernel⟩
theorem fn_history_fault {P : Program} {w : World} {K : PySem.W.Frag} {mg : Str → Option Value} {base : Heap} {f : Addr} {fd : FuncData} (B : Bt mg) (c_is_operation : Callee P w K mg base "is_operation" 3 f_is_operation) (F : Fun K "history_fault" "history_fault" s_history_fault f fd) (hm : mg "history_fault" = some (.ref f)) : FnOk P w K mg base (L2.CX P w) 4 f fd ["value"] (spF K mg f_history_fault) :=
  mkFn F sc_history_fault fun cdv A outer s H E g hg hr => by
    have nd := sc_history_fault.nd
    have tk := takesF (P := P) (w := w) (K := K) (mg := mg) (base := base) (N := n_history_fault) (qual := "history_fault") (sc := defScope s_history_fault) (f := f) (cdv := cdv) (A := A) (outer := outer) (s := s) (H := H) (E := E)
    exact ds_cons (ds_if (dt_not (t_v (b_isTuple B (v_ 0)))) (ds_one (ds_ret (de_tup (da_nil)))) (ds_nil)) (ds_cons (ds_for (passes_of rfl) rfl (di_enum rfl B.enumerate (vf_ hg 0)) (dg_tup rfl (dgs_cons (gn_ 1 nd) (dgs_cons (gn_ 2 nd) (dgs_nil))) rfl rfl (tgCons_len (tgCons_len (tgNil_len)))) (ds_one (ds_if (dt_not (t_v (f_ [false] c_is_operation hr tk (da_cons (vf_ hg 2) (da_nil))))) (ds_one (ds_ret (de_tup (da_cons (vf_ hg 1) (da_nil))))) (ds_nil)))) (ds_one (ds_ret (de_non))))
theorem ok_history_fault {P : Program} {w : World} {K : PySem.W.Frag} {mg : Str → Option Value} {base : Heap} {f : Addr} {fd : FuncData} (B : Bt mg) (c_is_operation : Callee P w K mg base "is_operation" 3 f_is_operation) (F : Fun K "history_fault" "history_fault" s_history_fault f fd) (hm : mg "history_fault" = some (.ref f)) : Callee P w K mg base "history_fault" 4 f_history_fault :=
  Callee.mk' F hm (fn_history_fault B c_is_operation F hm) (F.binds (ps := ["value"]) fun _ _ _ _ _ _ us hl => match us, hl with | [_], _ => rfl)
abbrev s_check_history : Stmt := topS 19
theorem sc_check_history : FnScope n_check_history ["history"] (defScope s_check_history) := ⟨rfl, rfl, rfl, by decide +kernel, rfl, by decide +kernel, by decide +kernel⟩
theorem fn_check_history {P : Program} {w : World} {K : PySem.W.Frag} {mg : Str → Option Value} {base : Heap} {f : Addr} {fd : FuncData} (B : Bt mg) (c_history_fault : Callee P w K mg base "history_fault" 4 f_history_fault) (F : Fun K "check_history" "check_history" s_check_history f fd) (hm : mg "check_history" = some (.ref f)) : FnOk P w K mg base (L2.CX P w) 5 f fd ["history"] (spF K mg f_check_history) :=
  mkFn F sc_check_history fun cdv A outer s H E g hg hr => by
    have nd := sc_check_history.nd
    have tk := takesF (P := P) (w := w) (K := K) (mg := mg) (base := base) (N := n_check_history) (qual := "check_history") (sc := defScope s_check_history) (f := f) (cdv := cdv) (A := A) (outer := outer) (s := s) (H := H) (E := E)
    exact ds_cons (set_ 1 nd (f_ [false] c_history_fault hr tk (da_cons (vf_ hg 0) (da_nil)))) (ds_one (ds_if (t_isn (v_ 1) (de_non)) (ds_one (ds_no)) (ds_nil)))
theorem ok_check_history {P : Program} {w : World} {K : PySem.W.Frag} {mg : Str → Option Value} {base : Heap} {f : Addr} {fd : FuncData} (B : Bt mg) (c_history_fault : Callee P w K mg base "history_fault" 4 f_history_fault) (F : Fun K "check_history" "check_history" s_check_history f fd) (hm : mg "check_history" = some (.ref f)) : Callee P w K mg base "check_history" 5 f_check_history :=
  Callee.mk' F hm (fn_check_history B c_history_fault F hm) (F.binds (ps := ["history"]) fun _ _ _ _ _ _ us hl => match us, hl with | [_], _ => rfl)
abbrev s_indexes_of_client : Stmt := topS 20
theorem sc_indexes_of_client : FnScope n_indexes_of_client ["history", "client"] (defScope s_indexes_of_client) := ⟨rfl, rfl, rfl, by decide +kernel, rfl, by decide +kernel, by decide +kernel⟩
theorem fn_indexes_of_client {P : Program} {w : World} {K : PySem.W.Frag} {mg : Str → Option Value} {base : Heap} {f : Addr} {fd : FuncData} (B : Bt mg) (k_CLIENT : Konst K mg "CLIENT" c_CLIENT) (F : Fun K "indexes_of_client" "indexes_of_client" s_indexes_of_client f fd) (hm : mg "indexes_of_client" = some (.ref f)) : FnOk P w K mg base (L2.CX P w) 1 f fd ["history", "client"] (spF K mg f_indexes_of_client) :=
  mkFn F sc_indexes_of_client fun cdv A outer s H E g hg hr => by
    have nd := sc_indexes_of_client.nd
    have tk := takesF (P := P) (w := w) (K := K) (mg := mg) (base := base) (N := n_indexes_of_client) (qual := "indexes_of_client") (sc := defScope s_indexes_of_client) (f := f) (cdv := cdv) (A := A) (outer := outer) (s := s) (H := H) (E := E)
    exact ds_one (ds_ret (DO.fz (do_comp rfl nd (own := [("index", 2), ("operation", 3)]) (di_enum rfl B.enumerate (vf_ hg 0)) (blkOk_by (N := n_indexes_of_client) (sc := defScope s_indexes_of_client) (own := [("index", 2), ("operation", 3)]) (by decide +kernel)) (by decide) (fun _ _ _ _ _ _ => dg_tup rfl (dgs_cons (gn_ 2 nd) (dgs_cons (gn_ 3 nd) (dgs_nil))) rfl rfl (tgCons_len (tgCons_len (tgNil_len)))) (fun _ _ _ _ _ _ => dts_one (t_eq hr (de_ix (v_ 3) (k_ k_CLIENT)) (v_ 1))) (fun _ _ _ _ _ _ => v_ 2))))
theorem ok_indexes_of_client {P : Program} {w : World} {K : PySem.W.Frag} {mg : Str → Option Value} {base : Heap} {f : Addr} {fd : FuncData} (B : Bt mg) (k_CLIENT : Konst K mg "CLIENT" c_CLIENT) (F : Fun K "indexes_of_client" "indexes_of_client" s_indexes_of_client f fd) (hm : mg "indexes_of_client" = some (.ref f)) : Callee P w K mg base "indexes_of_client" 1 f_indexes_of_client :=
  Callee.mk' F hm (fn_indexes_of_client B k_CLIENT F hm) (F.binds (ps := ["history", "client"]) fun _ _ _ _ _ _ us hl => match us, hl with | [_, _], _ => rfl)
abbrev s_words_of : Stmt := topS 22
theorem sc_words_of : FnScope n_words_of ["order"] (defScope s_words_of) := ⟨rfl, rfl, rfl, by decide +kernel, rfl, by decide +kernel, by decide +kernel⟩
theorem fn_words_of {P : Program} {w : World} {K : PySem.W.Frag} {mg : Str → Option Value} {base : Heap} {f : Addr} {fd : FuncData} (B : Bt mg) (F : Fun K "words_of" "words_of" s_words_of f fd) (hm : mg "words_of" = some (.ref f)) : FnOk P w K mg base (L2.CX P w) 1 f fd ["order"] (spF K mg f_words_of) :=
  mkFn F sc_words_of fun cdv A outer s H E g hg hr => by
    have nd := sc_words_of.nd
    have tk := takesF (P := P) (w := w) (K := K) (mg := mg) (base := base) (N := n_words_of) (qual := "words_of") (sc := defScope s_words_of) (f := f) (cdv := cdv) (A := A) (outer := outer) (s := s) (H := H) (E := E)
    exact ds_one (ds_ret (de_join (de_str) (DO.fz (do_comp rfl nd (own := [("index", 1)]) (di_all (vf_ hg 0)) (blkOk_by (N := n_words_of) (sc := defScope s_words_of) (own := [("index", 1)]) (by decide +kernel)) (by decide) (fun _ _ _ _ _ _ => gn_ 1 nd) (fun _ _ _ _ _ _ => dts_nil) (fun _ _ _ _ _ _ => b_str B (da_cons (v_ 1) (da_nil)))))))
theorem ok_words_of {P : Program} {w : World} {K : PySem.W.Frag} {mg : Str → Option Value} {base : Heap} {f : Addr} {fd : FuncData} (B : Bt mg) (F : Fun K "words_of" "words_of" s_words_of f fd) (hm : mg "words_of" = some (.ref f)) : Callee P w K mg base "words_of" 1 f_words_of :=
  Callee.mk' F hm (fn_words_of B F hm) (F.binds (ps := ["order"]) fun _ _ _ _ _ _ us hl => match us, hl with | [_], _ => rfl)
abbrev s_order_text : Stmt := topS 23
theorem sc_order_text : FnScope n_order_text ["order"] (defScope s_order_text) := ⟨rfl, rfl, rfl, by decide +kernel, rfl, by decide +kernel, by decide +kernel⟩
theorem fn_order_text {P : Program} {w : World} {K : PySem.W.Frag} {mg : Str → Option Value} {base : Heap} {f : Addr} {fd : FuncData} (B : Bt mg) (c_words_of : Callee P w K mg base "words_of" 1 f_words_of) (c_is_from : Callee P w K mg base "is_from" 2 f_is_from) (x_InvalidOrder : OwnX K mg "InvalidOrder") (F : Fun K "order_text" "order_text" s_order_text f fd) (hm : mg "order_text" = some (.ref f)) : FnOk P w K mg base (L2.CX P w) 3 f fd ["order"] (spF K mg f_order_text) :=
  mkFn F sc_order_text fun cdv A outer s H E g hg hr => by
    have nd := sc_order_text.nd
    have tk := takesF (P := P) (w := w) (K := K) (mg := mg) (base := base) (N := n_order_text) (qual := "order_text") (sc := defScope s_order_text) (f := f) (cdv := cdv) (A := A) (outer := outer) (s := s) (H := H) (E := E)
    exact ds_cons (ds_if (dt_w (dw_or (dt_not (t_v (b_isTuple B (v_ 0)))) (dw_or1 (dt_not (t_v (b_all rfl B (da_cons (DO.fz (do_comp rfl nd (own := [("index", 1)]) (di_all (vf_ hg 0)) (blkOk_by (N := n_order_text) (sc := defScope s_order_text) (own := [("index", 1)]) (by decide +kernel)) (by decide) (fun _ _ _ _ _ _ => gn_ 1 nd) (fun _ _ _ _ _ _ => dts_nil) (fun _ _ _ _ _ _ => f_ [false, false] c_is_from hr takes0 (da_cons (de_int) (da_cons (v_ 1) (da_nil)))))) (da_nil)))))))) (ds_one (ds_raise rfl x_InvalidOrder tk rfl)) (ds_nil)) (ds_one (ds_ret (f_ [false] c_words_of hr tk (da_cons (vf_ hg 0) (da_nil)))))
theorem ok_order_text {P : Program} {w : World} {K : PySem.W.Frag} {mg : Str → Option Value} {base : Heap} {f : Addr} {fd : FuncData} (B : Bt mg) (c_words_of : Callee P w K mg base "words_of" 1 f_words_of) (c_is_from : Callee P w K mg base "is_from" 2 f_is_from) (x_InvalidOrder : OwnX K mg "InvalidOrder") (F : Fun K "order_text" "order_text" s_order_text f fd) (hm : mg "order_text" = some (.ref f)) : Callee P w K mg base "order_text" 3 f_order_text :=
  Callee.mk' F hm (fn_order_text B c_words_of c_is_from x_InvalidOrder F hm) (F.binds (ps := ["order"]) fun _ _ _ _ _ _ us hl => match us, hl with | [_], _ => rfl)
abbrev s_line_of_client : Stmt := topS 24
theorem sc_line_of_client : FnScope n_line_of_client ["history", "moments", "client"] (defScope s_line_of_client) := ⟨rfl, rfl, rfl, by decide +kernel, rfl, by decide +kernel, by decide +kernel⟩
theorem fn_line_of_client {P : Program} {w : World} {K : PySem.W.Frag} {mg : Str → Option Value} {base : Heap} {f : Addr} {fd : FuncData} (B : Bt mg) (k_END : Konst K mg "END" c_END) (k_START : Konst K mg "START" c_START) (k_NAME : Konst K mg "NAME" c_NAME) (c_indexes_of_client : Callee P w K mg base "indexes_of_client" 1 f_indexes_of_client) (F : Fun K "line_of_client" "line_of_client" s_line_of_client f fd) (hm : mg "line_of_client" = some (.ref f)) : FnOk P w K mg base (L2.CX P w) 2 f fd ["history", "moments", "client"] (spF K mg f_line_of_client) :=
  mkFn F sc_line_of_client fun cdv A outer s H E g hg hr => by
    have nd := sc_line_of_client.nd
    have tk := takesF (P := P) (w := w) (K := K) (mg := mg) (base := base) (N := n_line_of_client) (qual := "line_of_client") (sc := defScope s_line_of_client) (f := f) (cdv := cdv) (A := A) (outer := outer) (s := s) (H := H) (E := E)
    exact ds_cons (setO_ 3 nd (do_rep (de_lst (da_cons (de_str) (da_nil))) (b_len B (da_cons (v_ 1) (da_nil))))) (ds_cons (ds_for (passes_of rfl) rfl (di_all (f_ [false, false] c_indexes_of_client hr tk (da_cons (vf_ hg 0) (da_cons (vf_ hg 2) (da_nil))))) (gn_ 4 nd) (ds_cons (set_ 5 nd (de_ix (v_ 0) (v_ 4))) (ds_cons (set_ 6 nd (de_if (t_is (de_ix (v_ 5) (k_ k_END)) (de_non)) (e_sub (b_len B (da_cons (v_ 1) (da_nil))) (de_int)) (de_index hr (v_ 1) (de_ix (v_ 5) (k_ k_END))))) (ds_one (ds_for (passes_of rfl) rfl (di_range2 rfl B.range (da_cons (de_index hr (v_ 1) (de_ix (v_ 5) (k_ k_START))) (da_cons (e_add (v_ 6) (de_int)) (da_nil)))) (gn_ 7 nd) (ds_one (ds_asg (de_ix (de_ix (v_ 5) (k_ k_NAME)) (de_int)) (dh_sub (v_ 3) (v_ 7))))))))) (ds_one (ds_ret (de_join (de_str) (v_ 3)))))
theorem ok_line_of_client {P : Program} {w : World} {K : PySem.W.Frag} {mg : Str → Option Value} {base : Heap} {f : Addr} {fd : FuncData} (B : Bt mg) (k_END : Konst K mg "END" c_END) (k_START : Konst K mg "START" c_START) (k_NAME : Konst K mg "NAME" c_NAME) (c_indexes_of_client : Callee P w K mg base "indexes_of_client" 1 f_indexes_of_client) (F : Fun K "line_of_client" "line_of_client" s_line_of_client f fd) (hm : mg "line_of_client" = some (.ref f)) : Callee P w K mg base "line_of_client" 2 f_line_of_client :=
  Callee.mk' F hm (fn_line_of_client B k_END k_START k_NAME c_indexes_of_client F hm) (F.binds (ps := ["history", "moments", "client"]) fun _ _ _ _ _ _ us hl => match us, hl with | [_, _, _], _ => rfl)
abbrev s_picture : Stmt := topS 25
theorem sc_picture : FnScope n_picture ["history"] (defScope s_picture) := ⟨rfl, rfl, rfl, by decide +kernel, rfl, by decide +kernel, by decide +kernel⟩
theorem fn_picture {P : Program} {w : World} {K : PySem.W.Frag} {mg : Str → Option Value} {base : Heap} {f : Addr} {fd : FuncData} (B : Bt mg) (k_END : Konst K mg "END" c_END) (k_CLIENT : Konst K mg "CLIENT" c_CLIENT) (k_START : Konst K mg "START" c_START) (c_check_history : Callee P w K mg base "check_history" 5 f_check_history) (c_line_of_client : Callee P w K mg base "line_of_client" 2 f_line_of_client) (F : Fun K "picture" "picture" s_picture f fd) (hm : mg "picture" = some (.ref f)) : FnOk P w K mg base (L2.CX P w) 6 f fd ["history"] (spF K mg f_picture) :=
  mkFn F sc_picture fun cdv A outer s H E g hg hr => by
    have nd := sc_picture.nd
    have tk := takesF (P := P) (w := w) (K := K) (mg := mg) (base := base) (N := n_picture) (qual := "picture") (sc := defScope s_picture) (f := f) (cdv := cdv) (A := A) (outer := outer) (s := s) (H := H) (E := E)
    exact ds_cons (ds_expr (f_ [false] c_check_history hr tk (da_cons (vf_ hg 0) (da_nil)))) (ds_cons (ds_setZ (i := 1) rfl nd rfl rfl (sw_true rfl rfl rfl (by decide +kernel)) (own := [("operation", 4)]) (di_all (vf_ hg 0)) (blkOk_by (N := n_picture) (sc := defScope s_picture) (own := [("operation", 4)]) (by decide +kernel)) (by decide) (fun _ _ _ _ _ _ => gn_ 4 nd) (fun _ _ _ _ _ _ => dts_one (t_isn (de_ix (v_ 4) (k_ k_END)) (de_non))) (fun _ _ _ _ _ _ => de_ix (v_ 4) (k_ k_END))) (ds_cons (set_ 2 nd (b_sorted2 rfl hr B (da_cons (DO.fz (do_dc rfl nd (own := [("moment", 5)]) (di_all (e_add (DO.fz (do_comp rfl nd (own := [("operation", 4)]) (di_all (vf_ hg 0)) (blkOk_by (N := n_picture) (sc := defScope s_picture) (own := [("operation", 4)]) (by decide +kernel)) (by decide) (fun _ _ _ _ _ _ => gn_ 4 nd) (fun _ _ _ _ _ _ => dts_nil) (fun _ _ _ _ _ _ => de_ix (v_ 4) (k_ k_START)))) (v_ 1))) (blkOk_by (N := n_picture) (sc := defScope s_picture) (own := [("moment", 5)]) (by decide +kernel)) (by decide) (fun _ _ _ _ _ _ => gn_ 5 nd) (fun _ _ _ _ _ _ => dts_nil) (fun _ _ _ _ _ _ => v_ 5) (fun _ _ _ _ _ _ => de_bl))) (da_nil)))) (ds_cons (set_ 3 nd (b_sorted2 rfl hr B (da_cons (DO.fz (do_dc rfl nd (own := [("operation", 4)]) (di_all (vf_ hg 0)) (blkOk_by (N := n_picture) (sc := defScope s_picture) (own := [("operation", 4)]) (by decide +kernel)) (by decide) (fun _ _ _ _ _ _ => gn_ 4 nd) (fun _ _ _ _ _ _ => dts_nil) (fun _ _ _ _ _ _ => de_ix (v_ 4) (k_ k_CLIENT)) (fun _ _ _ _ _ _ => de_bl))) (da_nil)))) (ds_one (ds_ret (DO.fz (do_comp rfl nd (own := [("client", 6)]) (di_all (vf_ hg 3)) (blkOk_by (N := n_picture) (sc := defScope s_picture) (own := [("client", 6)]) (by decide +kernel)) (by decide) (fun _ _ _ _ _ _ => gn_ 6 nd) (fun _ _ _ _ _ _ => dts_nil) (fun _ _ _ _ _ _ => f_ [false, false, false] c_line_of_client hr takes0 (da_cons (v_ 0) (da_cons (v_ 2) (da_cons (v_ 6) (da_nil))))))))))))
theorem ok_picture {P : Program} {w : World} {K : PySem.W.Frag} {mg : Str → Option Value} {base : Heap} {f : Addr} {fd : FuncData} (B : Bt mg) (k_END : Konst K mg "END" c_END) (k_CLIENT : Konst K mg "CLIENT" c_CLIENT) (k_START : Konst K mg "START" c_START) (c_check_history : Callee P w K mg base "check_history" 5 f_check_history) (c_line_of_client : Callee P w K mg base "line_of_client" 2 f_line_of_client) (F : Fun K "picture" "picture" s_picture f fd) (hm : mg "picture" = some (.ref f)) : Callee P w K mg base "picture" 6 f_picture :=
  Callee.mk' F hm (fn_picture B k_END k_CLIENT k_START c_check_history c_line_of_client F hm) (F.binds (ps := ["history"]) fun _ _ _ _ _ _ us hl => match us, hl with | [_], _ => rfl)
abbrev s__law_pot : Stmt := topS 27
theorem sc__law_pot : FnScope n__law_pot ["script", "at"] (defScope s__law_pot) := ⟨rfl, rfl, rfl, by decide +kernel, rfl, by decide +kernel, by decide +kernel⟩
theorem fn__law_pot {P : Program} {w : World} {K : PySem.W.Frag} {mg : Str → Option Value} {base : Heap} {f : Addr} {fd : FuncData} (B : Bt mg) (F : Fun K "_law_pot" "_law_pot" s__law_pot f fd) (hm : mg "_law_pot" = some (.ref f)) : FnOk P w K mg base (L2.CX P w) 1 f fd ["script", "at"] (spF K mg f__law_pot) :=
  mkFn F sc__law_pot fun cdv A outer s H E g hg hr => by
    have nd := sc__law_pot.nd
    have tk := takesF (P := P) (w := w) (K := K) (mg := mg) (base := base) (N := n__law_pot) (qual := "_law_pot") (sc := defScope s__law_pot) (f := f) (cdv := cdv) (A := A) (outer := outer) (s := s) (H := H) (E := E)
    exact ds_cons (set_ 2 nd (e_mul (de_int) (v_ 1))) (ds_cons (ds_if (t_lt (v_ 1) (b_len B (da_cons (v_ 0) (da_nil)))) (ds_one (set_ 2 nd (de_ix (v_ 0) (v_ 1)))) (ds_nil)) (ds_cons (set_ 2 nd (e_mod (b_int B (da_cons (b_abs B (da_cons (v_ 2) (da_nil))) (da_nil))) (e_mul (e_mul (e_mul (e_pow (de_int) (de_int)) (e_pow (de_int) (de_int))) (e_pow (de_int) (de_int))) (e_pow (de_int) (de_int))))) (ds_one (ds_retO (do_lst (da_cons (vf_ hg 2) (da_cons (b_int B (da_cons (c_ge (v_ 2) (e_pow (de_int) (de_int))) (da_nil))) (da_cons (e_mul (de_int) (v_ 1)) (da_nil)))))))))
theorem ok__law_pot {P : Program} {w : World} {K : PySem.W.Frag} {mg : Str → Option Value} {base : Heap} {f : Addr} {fd : FuncData} (B : Bt mg) (F : Fun K "_law_pot" "_law_pot" s__law_pot f fd) (hm : mg "_law_pot" = some (.ref f)) : Callee P w K mg base "_law_pot" 1 f__law_pot :=
  Callee.mk' F hm (fn__law_pot B F hm) (F.binds (ps := ["script", "at"]) fun _ _ _ _ _ _ us hl => match us, hl with | [_, _], _ => rfl)
abbrev s__law_draw : Stmt := topS 28
theorem sc__law_draw : FnScope n__law_draw ["pot", "many"] (defScope s__law_draw) := ⟨rfl, rfl, rfl, by decide +kernel, rfl, by decide +kernel, by decide +kernel⟩
theorem fn__law_draw {P : Program} {w : World} {K : PySem.W.Frag} {mg : Str → Option Value} {base : Heap} {f : Addr} {fd : FuncData} (B : Bt mg) (F : Fun K "_law_draw" "_law_draw" s__law_draw f fd) (hm : mg "_law_draw" = some (.ref f)) : FnOk P w K mg base (L2.CX P w) 1 f fd ["pot", "many"] (spF K mg f__law_draw) :=
  mkFn F sc__law_draw fun cdv A outer s H E g hg hr => by
    have nd := sc__law_draw.nd
    have tk := takesF (P := P) (w := w) (K := K) (mg := mg) (base := base) (N := n__law_draw) (qual := "_law_draw") (sc := defScope s__law_draw) (f := f) (cdv := cdv) (A := A) (outer := outer) (s := s) (H := H) (E := E)
    exact ds_cons (ds_asg (e_add (de_ix (v_ 0) (de_int)) (de_int)) (dh_sub (v_ 0) (de_int))) (ds_cons (ds_if (dt_w (dw_and (t_eq hr (de_ix (v_ 0) (de_int)) (de_int)) (dw_and1 (t_gt (de_ix (v_ 0) (de_int)) (de_int))))) (ds_cons (set_ 2 nd (e_mod (b_int B (da_cons (de_ix (v_ 0) (de_int)) (da_nil))) (v_ 1))) (ds_cons (ds_asg (e_fdiv (de_ix (v_ 0) (de_int)) (v_ 1)) (dh_sub (v_ 0) (de_int))) (ds_one (ds_ret (vf_ hg 2))))) (ds_nil)) (ds_cons (set_ 3 nd (e_mod (b_int B (da_cons (e_mul (e_add (e_add (de_ix (v_ 0) (de_int)) (e_mul (de_int) (de_ix (v_ 0) (de_int)))) (de_int)) (de_int)) (da_nil))) (de_int))) (ds_cons (set_ 3 nd (e_mod (b_int B (da_cons (e_mul (v_ 3) (v_ 3)) (da_nil))) (de_int))) (ds_cons (set_ 3 nd (e_mod (b_int B (da_cons (e_mul (e_add (v_ 3) (e_mul (de_int) (de_ix (v_ 0) (de_int)))) (de_int)) (da_nil))) (de_int))) (ds_one (ds_ret (e_mod (b_int B (da_cons (e_fdiv (v_ 3) (de_int)) (da_nil))) (v_ 1))))))))
theorem ok__law_draw {P : Program} {w : World} {K : PySem.W.Frag} {mg : Str → Option Value} {base : Heap} {f : Addr} {fd : FuncData} (B : Bt mg) (F : Fun K "_law_draw" "_law_draw" s__law_draw f fd) (hm : mg "_law_draw" = some (.ref f)) : Callee P w K mg base "_law_draw" 1 f__law_draw :=
  Callee.mk' F hm (fn__law_draw B F hm) (F.binds (ps := ["pot", "many"]) fun _ _ _ _ _ _ us hl => match us, hl with | [_, _], _ => rfl)
abbrev s__law_pick : Stmt := topS 29
theorem sc__law_pick : FnScope n__law_pick ["pot", "rows"] (defScope s__law_pick) := ⟨rfl, rfl, rfl, by decide +kernel, rfl, by decide +kernel, by decide +kernel⟩
theorem fn__law_pick {P : Program} {w : World} {K : PySem.W.Frag} {mg : Str → Option Value} {base : Heap} {f : Addr} {fd : FuncData} (B : Bt mg) (c__law_draw : Callee P w K mg base "_law_draw" 1 f__law_draw) (F : Fun K "_law_pick" "_law_pick" s__law_pick f fd) (hm : mg "_law_pick" = some (.ref f)) : FnOk P w K mg base (L2.CX P w) 2 f fd ["pot", "rows"] (spF K mg f__law_pick) :=
  mkFn F sc__law_pick fun cdv A outer s H E g hg hr => by
    have nd := sc__law_pick.nd
    have tk := takesF (P := P) (w := w) (K := K) (mg := mg) (base := base) (N := n__law_pick) (qual := "_law_pick") (sc := defScope s__law_pick) (f := f) (cdv := cdv) (A := A) (outer := outer) (s := s) (H := H) (E := E)
    exact ds_one (ds_ret (de_ix (v_ 1) (f_ [true, false] c__law_draw hr tk (da_cons (v_ 0) (da_cons (b_len B (da_cons (v_ 1) (da_nil))) (da_nil))))))
theorem ok__law_pick {P : Program} {w : World} {K : PySem.W.Frag} {mg : Str → Option Value} {base : Heap} {f : Addr} {fd : FuncData} (B : Bt mg) (c__law_draw : Callee P w K mg base "_law_draw" 1 f__law_draw) (F : Fun K "_law_pick" "_law_pick" s__law_pick f fd) (hm : mg "_law_pick" = some (.ref f)) : Callee P w K mg base "_law_pick" 2 f__law_pick :=
  Callee.mk' F hm (fn__law_pick B c__law_draw F hm) (F.binds (ps := ["pot", "rows"]) fun _ _ _ _ _ _ us hl => match us, hl with | [_, _], _ => rfl)
abbrev s__law_same : Stmt := topS 30
theorem sc__law_same : FnScope n__law_same ["got", "due"] (defScope s__law_same) := ⟨rfl, rfl, rfl, by decide +kernel, rfl, by decide +kernel, by decide +kernel⟩
theorem ok__law_same {P : Program} {w : World} {K : PySem.W.Frag} {mg : Str → Option Value} {base : Heap} {f : Addr} {fd : FuncData} (B : Bt mg) (F : Fun K "_law_same" "_law_same" s__law_same f fd) (hm : mg "_law_same" = some (.ref f)) : ∀ n : Nat, Callee P w K mg base "_law_same" (1 + n) (f__law_same n)
  | 0 => (Callee.mk' F hm (mkFn (k := 0) (b := bNo) F sc__law_same fun _ _ _ _ _ _ _ _ _ => dss_no) (F.binds (ps := ["got", "due"]) fun _ _ _ _ _ _ us hl => match us, hl with | [_, _], _ => rfl)).mono (by omega) |>.imp fun _ => .inl rfl
  | n + 1 => by
    have c__law_same := ok__law_same (P := P) (w := w) (base := base) B F hm n
    exact Callee.mk' F hm (mkFn F sc__law_same fun cdv A outer s H E g hg hr => by
      have nd := sc__law_same.nd
      have tk := takesF (P := P) (w := w) (K := K) (mg := mg) (base := base) (N := n__law_same) (qual := "_law_same") (sc := defScope s__law_same) (f := f) (cdv := cdv) (A := A) (outer := outer) (s := s) (H := H) (E := E)
      exact ds_cons (ds_if (dt_w (dw_or (t_v (b_isTuple B (v_ 1))) (dw_or1 (t_v (b_isList B (v_ 1)))))) (ds_cons (ds_if (dt_w (dw_or (t_ne hr (b_isTuple B (v_ 1)) (b_isTuple B (v_ 0))) (dw_or1 (t_ne hr (b_isList B (v_ 1)) (b_isList B (v_ 0)))))) (ds_one (ds_ret (de_bl))) (ds_nil)) (ds_one (ds_ret (de_and (c_eq hr (b_len B (da_cons (v_ 0) (da_nil))) (b_len B (da_cons (v_ 1) (da_nil)))) (de_one (b_all rfl B (da_cons (DO.fz (do_comp rfl nd (own := [("k", 2)]) (di_range1 rfl B.range (da_cons (b_len B (da_cons (v_ 1) (da_nil))) (da_nil))) (blkOk_by (N := n__law_same) (sc := defScope s__law_same) (own := [("k", 2)]) (by decide +kernel)) (by decide) (fun _ _ _ _ _ _ => gn_ 2 nd) (fun _ _ _ _ _ _ => dts_nil) (fun _ _ _ _ _ _ => f_ [false, false] c__law_same hr takes0 (da_cons (de_ix (v_ 0) (v_ 2)) (da_cons (de_ix (v_ 1) (v_ 2)) (da_nil)))))) (da_nil)))))))) (ds_nil)) (ds_cons (ds_if (t_is (v_ 1) (de_non)) (ds_one (ds_ret (c_is (v_ 0) (de_non)))) (ds_nil)) (ds_cons (ds_if (t_v (b_isBool B (v_ 1))) (ds_one (ds_ret (de_and (b_isBool B (v_ 0)) (de_one (c_eq hr (v_ 0) (v_ 1)))))) (ds_nil)) (ds_cons (ds_if (dt_w (dw_or (t_v (b_isBool B (v_ 0))) (dw_or (t_ne hr (b_isInt B (v_ 0)) (b_isInt B (v_ 1))) (dw_or1 (t_ne hr (b_isStr B (v_ 0)) (b_isStr B (v_ 1))))))) (ds_one (ds_ret (de_bl))) (ds_nil)) (ds_one (ds_ret (c_eq hr (v_ 0) (v_ 1)))))))) (F.binds (ps := ["got", "due"]) fun _ _ _ _ _ _ us hl => match us, hl with | [_, _], _ => rfl)
abbrev s__law_turns : Stmt := topS 31
theorem sc__law_turns : FnScope n__law_turns ["script", "first", "least", "most"] (defScope s__law_turns) := ⟨rfl, rfl, rfl, by decide +kernel, rfl, by decide +kernel, by decide +kernel⟩
theorem fn__law_turns {P : Program} {w : World} {K : PySem.W.Frag} {mg : Str → Option Value} {base : Heap} {f : Addr} {fd : FuncData} (B : Bt mg) (F : Fun K "_law_turns" "_law_turns" s__law_turns f fd) (hm : mg "_law_turns" = some (.ref f)) : FnOk P w K mg base (L2.CX P w) 1 f fd ["script", "first", "least", "most"] (spF K mg f__law_turns) :=
  mkFn F sc__law_turns fun cdv A outer s H E g hg hr => by
    have nd := sc__law_turns.nd
    have tk := takesF (P := P) (w := w) (K := K) (mg := mg) (base := base) (N := n__law_turns) (qual := "_law_turns") (sc := defScope s__law_turns) (f := f) (cdv := cdv) (A := A) (outer := outer) (s := s) (H := H) (E := E)
    exact ds_one (ds_ret (DO.fz (do_listRg2 rfl B (v_ 1) (e_add (v_ 1) (b_max rfl B (da_cons (v_ 2) (da_cons (b_min rfl B (da_cons (e_sub (b_len B (da_cons (v_ 0) (da_nil))) (v_ 1)) (da_cons (v_ 3) (da_nil)))) (da_nil))))))))
theorem ok__law_turns {P : Program} {w : World} {K : PySem.W.Frag} {mg : Str → Option Value} {base : Heap} {f : Addr} {fd : FuncData} (B : Bt mg) (F : Fun K "_law_turns" "_law_turns" s__law_turns f fd) (hm : mg "_law_turns" = some (.ref f)) : Callee P w K mg base "_law_turns" 1 f__law_turns :=
  Callee.mk' F hm (fn__law_turns B F hm) (F.binds (ps := ["script", "first", "least", "most"]) fun _ _ _ _ _ _ us hl => match us, hl with | [_, _, _, _], _ => rfl)
abbrev s__law_kinds : Stmt := topS 32
theorem sc__law_kinds : FnScope n__law_kinds [] (defScope s__law_kinds) := ⟨rfl, rfl, rfl, by decide +kernel, rfl, by decide +kernel, by decide +kernel⟩
theorem fn__law_kinds {P : Program} {w : World} {K : PySem.W.Frag} {mg : Str → Option Value} {base : Heap} {f : Addr} {fd : FuncData} (B : Bt mg) (F : Fun K "_law_kinds" "_law_kinds" s__law_kinds f fd) (hm : mg "_law_kinds" = some (.ref f)) : FnOk P w K mg base (L2.CX P w) 1 f fd [] (spF K mg f__law_kinds) :=
  mkFn F sc__law_kinds fun cdv A outer s H E g hg hr => by
    have nd := sc__law_kinds.nd
    have tk := takesF (P := P) (w := w) (K := K) (mg := mg) (base := base) (N := n__law_kinds) (qual := "_law_kinds") (sc := defScope s__law_kinds) (f := f) (cdv := cdv) (A := A) (outer := outer) (s := s) (H := H) (E := E)
    exact ds_one (ds_ret (de_lst (da_cons (de_str) (da_cons (de_str) (da_cons (de_str) (da_cons (de_str) (da_cons (de_str) (da_cons (de_str) (da_cons (de_str) (da_cons (de_str) (da_cons (de_str) (da_nil))))))))))))
theorem ok__law_kinds {P : Program} {w : World} {K : PySem.W.Frag} {mg : Str → Option Value} {base : Heap} {f : Addr} {fd : FuncData} (B : Bt mg) (F : Fun K "_law_kinds" "_law_kinds" s__law_kinds f fd) (hm : mg "_law_kinds" = some (.ref f)) : Callee P w K mg base "_law_kinds" 1 f__law_kinds :=
  Callee.mk' F hm (fn__law_kinds B F hm) (F.binds (ps := []) fun _ _ _ _ _ _ us hl => match us, hl with | [], _ => rfl)
abbrev s__law_map_step : Stmt := topS 34
theorem sc__law_map_step : FnScope n__law_map_step ["state", "name", "argument", "result"] (defScope s__law_map_step) := ⟨rfl, rfl, rfl, by decide +kernel, rfl, by decide +kernel, by decide +kernel⟩
theorem fn__law_map_step {P : Program} {w : World} {K : PySem.W.Frag} {mg : Str → Option Value} {base : Heap} {f : Addr} {fd : FuncData} (B : Bt mg) (F : Fun K "_law_map_step" "_law_map_step" s__law_map_step f fd) (hm : mg "_law_map_step" = some (.ref f)) : FnOk P w K mg base (L2.CX P w) 1 f fd ["state", "name", "argument", "result"] (spF K mg f__law_map_step) :=
  mkFn F sc__law_map_step fun cdv A outer s H E g hg hr => by
    have nd := sc__law_map_step.nd
    have tk := takesF (P := P) (w := w) (K := K) (mg := mg) (base := base) (N := n__law_map_step) (qual := "_law_map_step") (sc := defScope s__law_map_step) (f := f) (cdv := cdv) (A := A) (outer := outer) (s := s) (H := H) (E := E)
    exact ds_cons (set_ 4 nd (de_if (t_eq hr (v_ 1) (de_str)) (e_fdiv (v_ 2) (de_int)) (vf_ hg 2))) (ds_cons (ds_par2 rfl nd rfl rfl (by decide) rfl rfl (dx_cons (b_tuple B (da_cons (DO.fz (do_comp rfl nd (own := [("row", 7)]) (di_all (vf_ hg 0)) (blkOk_by (N := n__law_map_step) (sc := defScope s__law_map_step) (own := [("row", 7)]) (by decide +kernel)) (by decide) (fun _ _ _ _ _ _ => gn_ 7 nd) (fun _ _ _ _ _ _ => dts_one (t_ne hr (de_ix (v_ 7) (de_int)) (v_ 4))) (fun _ _ _ _ _ _ => v_ 7))) (da_nil))) (dx_cons (DO.fz (do_comp rfl nd (own := [("row", 7)]) (di_all (vf_ hg 0)) (blkOk_by (N := n__law_map_step) (sc := defScope s__law_map_step) (own := [("row", 7)]) (by decide +kernel)) (by decide) (fun _ _ _ _ _ _ => gn_ 7 nd) (fun _ _ _ _ _ _ => dts_one (t_eq hr (de_ix (v_ 7) (de_int)) (v_ 4))) (fun _ _ _ _ _ _ => de_ix (v_ 7) (de_int)))) (dx_nil)))) (ds_cons (ds_if (t_eq hr (v_ 1) (de_str)) (ds_one (ds_ret (de_tup (da_cons (de_bl) (da_cons (b_tuple B (da_cons (b_sorted hr B (da_cons (e_add (v_ 5) (de_tup (da_cons (de_tup (da_cons (vf_ hg 4) (da_cons (e_mod (b_int B (da_cons (v_ 2) (da_nil))) (de_int)) (da_nil)))) (da_nil)))) (da_nil))) (da_nil))) (da_nil)))))) (ds_nil)) (ds_cons (ds_if (t_eq hr (v_ 1) (de_str)) (ds_one (ds_ret (de_tup (da_cons (c_eq hr (v_ 3) (b_len B (da_cons (v_ 6) (da_nil)))) (da_cons (vf_ hg 5) (da_nil)))))) (ds_nil)) (ds_one (ds_ret (de_tup (da_cons (c_eq hr (v_ 3) (de_if (t_ne hr (v_ 6) (de_lst (da_nil))) (de_ix (v_ 6) (de_int)) (de_non))) (da_cons (vf_ hg 0) (da_nil)))))))))
theorem ok__law_map_step {P : Program} {w : World} {K : PySem.W.Frag} {mg : Str → Option Value} {base : Heap} {f : Addr} {fd : FuncData} (B : Bt mg) (F : Fun K "_law_map_step" "_law_map_step" s__law_map_step f fd) (hm : mg "_law_map_step" = some (.ref f)) : Callee P w K mg base "_law_map_step" 1 f__law_map_step :=
  Callee.mk' F hm (fn__law_map_step B F hm) (F.binds (ps := ["state", "name", "argument", "result"]) fun _ _ _ _ _ _ us hl => match us, hl with | [_, _, _, _], _ => rfl)
abbrev s__law_step : Stmt := topS 33
theorem sc__law_step : FnScope n__law_step ["kind", "state", "operation"] (defScope s__law_step) := ⟨rfl, rfl, rfl, by decide +kernel, rfl, by decide +kernel, by decide +kernel⟩
theorem fn__law_step {P : Program} {w : World} {K : PySem.W.Frag} {mg : Str → Option Value} {base : Heap} {f : Addr} {fd : FuncData} (B : Bt mg) (c__law_map_step : Callee P w K mg base "_law_map_step" 1 f__law_map_step) (F : Fun K "_law_step" "_law_step" s__law_step f fd) (hm : mg "_law_step" = some (.ref f)) : FnOk P w K mg base (L2.CX P w) 2 f fd ["kind", "state", "operation"] (spF K mg f__law_step) :=
  mkFn F sc__law_step fun cdv A outer s H E g hg hr => by
    have nd := sc__law_step.nd
    have tk := takesF (P := P) (w := w) (K := K) (mg := mg) (base := base) (N := n__law_step) (qual := "_law_step") (sc := defScope s__law_step) (f := f) (cdv := cdv) (A := A) (outer := outer) (s := s) (H := H) (E := E)
    exact ds_cons (ds_asg (vf_ hg 2) (dh_tup rfl (dhs_cons (hn_ 3 nd) (dhs_cons (hn_ 4 nd) (dhs_cons (hn_ 5 nd) (dhs_cons (hn_ 6 nd) (dhs_cons (hn_ 7 nd) (dhs_cons (hn_ 8 nd) (dhs_nil))))))))) (ds_cons (ds_if (t_eq hr (v_ 0) (de_str)) (ds_one (ds_ret (de_if (t_eq hr (v_ 6) (de_str)) (de_tup (da_cons (de_bl) (da_cons (vf_ hg 7) (da_nil)))) (de_tup (da_cons (c_eq hr (v_ 8) (v_ 1)) (da_cons (vf_ hg 1) (da_nil))))))) (ds_nil)) (ds_cons (ds_if (t_eq hr (v_ 0) (de_str)) (ds_one (ds_ret (de_tup (da_cons (c_eq hr (v_ 8) (v_ 1)) (da_cons (de_if (t_eq hr (v_ 6) (de_str)) (e_add (v_ 1) (v_ 7)) (vf_ hg 1)) (da_nil)))))) (ds_nil)) (ds_cons (ds_if (t_eq hr (v_ 0) (de_str)) (ds_cons (ds_if (t_eq hr (v_ 6) (de_str)) (ds_one (ds_ret (de_tup (da_cons (c_eq hr (v_ 8) (b_int B (da_cons (c_is (v_ 1) (de_non)) (da_nil)))) (da_cons (de_if (t_is (v_ 1) (de_non)) (vf_ hg 3) (vf_ hg 1)) (da_nil)))))) (ds_nil)) (ds_one (ds_ret (de_tup (da_cons (c_eq hr (v_ 8) (b_int B (da_cons (c_eq hr (v_ 1) (v_ 3)) (da_nil)))) (da_cons (de_if (t_eq hr (v_ 1) (v_ 3)) (de_non) (vf_ hg 1)) (da_nil))))))) (ds_nil)) (ds_cons (ds_if (t_eq hr (v_ 0) (de_str)) (ds_one (ds_ret (f_ [false, false, false, false] c__law_map_step hr tk (da_cons (vf_ hg 1) (da_cons (vf_ hg 6) (da_cons (vf_ hg 7) (da_cons (vf_ hg 8) (da_nil)))))))) (ds_nil)) (ds_cons (ds_if (t_eq hr (v_ 0) (de_str)) (ds_cons (set_ 9 nd (b_tuple B (da_cons (DO.fz (do_comp rfl nd (own := [("one", 11)]) (di_all (vf_ hg 1)) (blkOk_by (N := n__law_step) (sc := defScope s__law_step) (own := [("one", 11)]) (by decide +kernel)) (by decide) (fun _ _ _ _ _ _ => gn_ 11 nd) (fun _ _ _ _ _ _ => dts_one (t_ne hr (v_ 11) (v_ 7))) (fun _ _ _ _ _ _ => v_ 11))) (da_nil)))) (ds_cons (set_ 10 nd (b_int B (da_cons (c_in hr (v_ 7) (v_ 1)) (da_nil)))) (ds_cons (ds_if (t_eq hr (v_ 6) (de_str)) (ds_one (ds_ret (de_tup (da_cons (c_eq hr (v_ 8) (v_ 10)) (da_cons (vf_ hg 1) (da_nil)))))) (ds_nil)) (ds_one (ds_ret (de_if (t_eq hr (v_ 6) (de_str)) (de_tup (da_cons (c_eq hr (v_ 8) (v_ 10)) (da_cons (vf_ hg 9) (da_nil)))) (de_tup (da_cons (c_eq hr (v_ 8) (e_sub (de_int) (v_ 10))) (da_cons (b_tuple B (da_cons (b_sorted hr B (da_cons (e_add (v_ 9) (de_tup (da_cons (vf_ hg 7) (da_nil)))) (da_nil))) (da_nil))) (da_nil)))))))))) (ds_nil)) (ds_cons (ds_if (t_eq hr (v_ 6) (de_str)) (ds_cons (ds_if (t_in hr (v_ 0) (de_tup (da_cons (de_str) (da_cons (de_str) (da_nil))))) (ds_one (ds_ret (de_tup (da_cons (c_nin hr (v_ 7) (v_ 1)) (da_cons (b_tuple B (da_cons (b_sorted hr B (da_cons (e_add (v_ 1) (de_tup (da_cons (vf_ hg 7) (da_nil)))) (da_nil))) (da_nil))) (da_nil)))))) (ds_nil)) (ds_one (ds_ret (de_tup (da_cons (de_bl) (da_cons (e_add (v_ 1) (de_tup (da_cons (vf_ hg 7) (da_nil)))) (da_nil))))))) (ds_nil)) (ds_cons (ds_if (dt_w (dw_or (t_is (v_ 8) (de_non)) (dw_or1 (t_eq hr (v_ 1) (de_tup (da_nil)))))) (ds_one (ds_ret (de_tup (da_cons (de_and (c_is (v_ 8) (de_non)) (de_one (c_eq hr (v_ 1) (de_tup (da_nil))))) (da_cons (vf_ hg 1) (da_nil)))))) (ds_nil)) (ds_cons (set_ 10 nd (DO.fz (do_disp (.cons (k := .inr "bag") pe_str (fun _ => c_in hr (v_ 8) (v_ 1)) (.cons (k := .inr "queue") pe_str (fun _ => c_eq hr (de_ix (v_ 1) (de_int)) (v_ 8)) (.cons (k := .inr "stack") pe_str (fun _ => c_eq hr (de_ix (v_ 1) (e_neg (de_int))) (v_ 8)) (.cons (k := .inr "least") pe_str (fun _ => c_eq hr (de_ix (v_ 1) (de_int)) (v_ 8)) (.nil)))))))) (ds_one (ds_ret (de_tup (da_cons (de_dix hr (v_ 10) (v_ 0)) (da_cons (de_if (t_eq hr (v_ 0) (de_str)) (de_sl (v_ 1) (dp_no) (dp_is (e_neg (de_int)))) (b_tuple B (da_cons (DO.fz (do_comp rfl nd (own := [("one", 11)]) (di_all (vf_ hg 1)) (blkOk_by (N := n__law_step) (sc := defScope s__law_step) (own := [("one", 11)]) (by decide +kernel)) (by decide) (fun _ _ _ _ _ _ => gn_ 11 nd) (fun _ _ _ _ _ _ => dts_one (t_ne hr (v_ 11) (v_ 8))) (fun _ _ _ _ _ _ => v_ 11))) (da_nil)))) (da_nil))))))))))))))
theorem ok__law_step {P : Program} {w : World} {K : PySem.W.Frag} {mg : Str → Option Value} {base : Heap} {f : Addr} {fd : FuncData} (B : Bt mg) (c__law_map_step : Callee P w K mg base "_law_map_step" 1 f__law_map_step) (F : Fun K "_law_step" "_law_step" s__law_step f fd) (hm : mg "_law_step" = some (.ref f)) : Callee P w K mg base "_law_step" 2 f__law_step :=
  Callee.mk' F hm (fn__law_step B c__law_map_step F hm) (F.binds (ps := ["kind", "state", "operation"]) fun _ _ _ _ _ _ us hl => match us, hl with | [_, _, _], _ => rfl)
abbrev s__law_first : Stmt := topS 35
theorem sc__law_first : FnScope n__law_first ["kind"] (defScope s__law_first) := ⟨rfl, rfl, rfl, by decide +kernel, rfl, by decide +kernel, by decide +kernel⟩
theorem fn__law_first {P : Program} {w : World} {K : PySem.W.Frag} {mg : Str → Option Value} {base : Heap} {f : Addr} {fd : FuncData} (B : Bt mg) (F : Fun K "_law_first" "_law_first" s__law_first f fd) (hm : mg "_law_first" = some (.ref f)) : FnOk P w K mg base (L2.CX P w) 1 f fd ["kind"] (spF K mg f__law_first) :=
  mkFn F sc__law_first fun cdv A outer s H E g hg hr => by
    have nd := sc__law_first.nd
    have tk := takesF (P := P) (w := w) (K := K) (mg := mg) (base := base) (N := n__law_first) (qual := "_law_first") (sc := defScope s__law_first) (f := f) (cdv := cdv) (A := A) (outer := outer) (s := s) (H := H) (E := E)
    exact ds_one (ds_ret (de_dget hr (DO.fz (do_disp (.cons (k := .inr "register") pe_str (fun _ => de_non) (.cons (k := .inr "lock") pe_str (fun _ => de_non) (.cons (k := .inr "counter") pe_str (fun _ => de_int) (.nil)))))) (v_ 0) (de_tup (da_nil))))
theorem ok__law_first {P : Program} {w : World} {K : PySem.W.Frag} {mg : Str → Option Value} {base : Heap} {f : Addr} {fd : FuncData} (B : Bt mg) (F : Fun K "_law_first" "_law_first" s__law_first f fd) (hm : mg "_law_first" = some (.ref f)) : Callee P w K mg base "_law_first" 1 f__law_first :=
  Callee.mk' F hm (fn__law_first B F hm) (F.binds (ps := ["kind"]) fun _ _ _ _ _ _ us hl => match us, hl with | [_], _ => rfl)
abbrev s__law_shuffled : Stmt := topS 36
theorem sc__law_shuffled : FnScope n__law_shuffled ["pot", "things"] (defScope s__law_shuffled) := ⟨rfl, rfl, rfl, by decide +kernel, rfl, by decide +kernel, by decide +kernel⟩
theorem fn__law_shuffled {P : Program} {w : World} {K : PySem.W.Frag} {mg : Str → Option Value} {base : Heap} {f : Addr} {fd : FuncData} (B : Bt mg) (c__law_draw : Callee P w K mg base "_law_draw" 1 f__law_draw) (F : Fun K "_law_shuffled" "_law_shuffled" s__law_shuffled f fd) (hm : mg "_law_shuffled" = some (.ref f)) : FnOk P w K mg base (L2.CX P w) 2 f fd ["pot", "things"] (spF K mg f__law_shuffled) :=
  mkFn F sc__law_shuffled fun cdv A outer s H E g hg hr => by
    have nd := sc__law_shuffled.nd
    have tk := takesF (P := P) (w := w) (K := K) (mg := mg) (base := base) (N := n__law_shuffled) (qual := "_law_shuffled") (sc := defScope s__law_shuffled) (f := f) (cdv := cdv) (A := A) (outer := outer) (s := s) (H := H) (E := E)
    exact ds_cons (ds_par2 rfl nd rfl rfl (by decide) rfl rfl (dx_consO (bo_list B (da_cons (v_ 1) (da_nil))) (fun _ => dx_consO (do_lst (da_nil)) (fun _ => dx_nil)))) (ds_cons (ds_for (passes_of rfl) rfl (di_range1 rfl B.range (da_cons (b_len B (da_cons (v_ 2) (da_nil))) (da_nil))) (gn_ 4 nd) (ds_one (ds_expr (de_append (v_ 3) (de_popAt (v_ 2) (f_ [true, false] c__law_draw hr tk (da_cons (v_ 0) (da_cons (b_len B (da_cons (v_ 2) (da_nil))) (da_nil))))))))) (ds_one (ds_retO (do_var hg 3))))
theorem ok__law_shuffled {P : Program} {w : World} {K : PySem.W.Frag} {mg : Str → Option Value} {base : Heap} {f : Addr} {fd : FuncData} (B : Bt mg) (c__law_draw : Callee P w K mg base "_law_draw" 1 f__law_draw) (F : Fun K "_law_shuffled" "_law_shuffled" s__law_shuffled f fd) (hm : mg "_law_shuffled" = some (.ref f)) : Callee P w K mg base "_law_shuffled" 2 f__law_shuffled :=
  Callee.mk' F hm (fn__law_shuffled B c__law_draw F hm) (F.binds (ps := ["pot", "things"]) fun _ _ _ _ _ _ us hl => match us, hl with | [_, _], _ => rfl)
abbrev s__law_call : Stmt := topS 37
theorem sc__law_call : FnScope n__law_call ["pot", "kind", "values", "clients"] (defScope s__law_call) := ⟨rfl, rfl, rfl, by decide +kernel, rfl, by decide +kernel, by decide +kernel⟩
theorem fn__law_call {P : Program} {w : World} {K : PySem.W.Frag} {mg : Str → Option Value} {base : Heap} {f : Addr} {fd : FuncData} (B : Bt mg) (c__law_draw : Callee P w K mg base "_law_draw" 1 f__law_draw) (F : Fun K "_law_call" "_law_call" s__law_call f fd) (hm : mg "_law_call" = some (.ref f)) : FnOk P w K mg base (L2.CX P w) 2 f fd ["pot", "kind", "values", "clients"] (spF K mg f__law_call) :=
  mkFn F sc__law_call fun cdv A outer s H E g hg hr => by
    have nd := sc__law_call.nd
    have tk := takesF (P := P) (w := w) (K := K) (mg := mg) (base := base) (N := n__law_call) (qual := "_law_call") (sc := defScope s__law_call) (f := f) (cdv := cdv) (A := A) (outer := outer) (s := s) (H := H) (E := E)
    exact ds_cons (ds_if (t_in hr (v_ 1) (de_tup (da_cons (de_str) (da_cons (de_str) (da_cons (de_str) (da_cons (de_str) (da_cons (de_str) (da_nil)))))))) (ds_cons (ds_asg (de_if (t_eq hr (v_ 1) (de_str)) (de_tup (da_cons (de_str) (da_cons (de_str) (da_nil)))) (de_tup (da_cons (de_str) (da_cons (de_str) (da_nil))))) (dh_tup rfl (dhs_cons (hn_ 4 nd) (dhs_cons (hn_ 5 nd) (dhs_nil))))) (ds_one (ds_ret (de_if (dt_w (dw_and (t_eq hr (f_ [true, false] c__law_draw hr tk (da_cons (v_ 0) (da_cons (de_int) (da_nil)))) (de_int)) (dw_and1 (t_ne hr (v_ 2) (de_lst (da_nil)))))) (de_tup (da_cons (vf_ hg 4) (da_cons (de_pop0 (v_ 2)) (da_nil)))) (de_tup (da_cons (vf_ hg 5) (da_cons (de_non) (da_nil)))))))) (ds_nil)) (ds_cons (ds_if (t_eq hr (v_ 1) (de_str)) (ds_one (ds_ret (de_if (t_gt (f_ [true, false] c__law_draw hr tk (da_cons (v_ 0) (da_cons (de_int) (da_nil)))) (de_int)) (de_tup (da_cons (de_str) (da_cons (e_add (de_int) (f_ [true, false] c__law_draw hr tk (da_cons (v_ 0) (da_cons (de_int) (da_nil))))) (da_nil)))) (de_tup (da_cons (de_str) (da_cons (de_non) (da_nil))))))) (ds_nil)) (ds_cons (ds_if (t_eq hr (v_ 1) (de_str)) (ds_one (ds_ret (de_tup (da_cons (de_ix (de_lst (da_cons (de_str) (da_cons (de_str) (da_nil)))) (f_ [true, false] c__law_draw hr tk (da_cons (v_ 0) (da_cons (de_int) (da_nil))))) (da_cons (de_non) (da_nil)))))) (ds_nil)) (ds_cons (ds_if (t_eq hr (v_ 1) (de_str)) (ds_one (ds_ret (de_tup (da_cons (de_ix (de_lst (da_cons (de_str) (da_cons (de_str) (da_cons (de_str) (da_nil))))) (f_ [true, false] c__law_draw hr tk (da_cons (v_ 0) (da_cons (de_int) (da_nil))))) (da_cons (f_ [true, false] c__law_draw hr tk (da_cons (v_ 0) (da_cons (de_int) (da_nil)))) (da_nil)))))) (ds_nil)) (ds_cons (ds_par2 rfl nd rfl rfl (by decide) rfl rfl (dx_cons (de_ix (de_lst (da_cons (de_str) (da_cons (de_str) (da_cons (de_str) (da_nil))))) (f_ [true, false] c__law_draw hr tk (da_cons (v_ 0) (da_cons (de_int) (da_nil))))) (dx_cons (f_ [true, false] c__law_draw hr tk (da_cons (v_ 0) (da_cons (de_int) (da_nil)))) (dx_nil)))) (ds_one (ds_ret (de_tup (da_cons (vf_ hg 6) (da_cons (de_if (t_eq hr (v_ 6) (de_str)) (e_add (e_mul (v_ 7) (de_int)) (f_ [true, false] c__law_draw hr tk (da_cons (v_ 0) (da_cons (de_int) (da_nil))))) (vf_ hg 7)) (da_nil))))))))))
theorem ok__law_call {P : Program} {w : World} {K : PySem.W.Frag} {mg : Str → Option Value} {base : Heap} {f : Addr} {fd : FuncData} (B : Bt mg) (c__law_draw : Callee P w K mg base "_law_draw" 1 f__law_draw) (F : Fun K "_law_call" "_law_call" s__law_call f fd) (hm : mg "_law_call" = some (.ref f)) : Callee P w K mg base "_law_call" 2 f__law_call :=
  Callee.mk' F hm (fn__law_call B c__law_draw F hm) (F.binds (ps := ["pot", "kind", "values", "clients"]) fun _ _ _ _ _ _ us hl => match us, hl with | [_, _, _, _], _ => rfl)
abbrev s__law_play : Stmt := topS 38
theorem sc__law_play : FnScope n__law_play ["pot", "kind", "most"] (defScope s__law_play) := ⟨rfl, rfl, rfl, by decide +kernel, rfl, by decide +kernel, by decide +kernel⟩
theorem fn__law_play {P : Program} {w : World} {K : PySem.W.Frag} {mg : Str → Option Value} {base : Heap} {f : Addr} {fd : FuncData} (B : Bt mg) (c__law_shuffled : Callee P w K mg base "_law_shuffled" 2 f__law_shuffled) (c__law_call : Callee P w K mg base "_law_call" 2 f__law_call) (c__law_draw : Callee P w K mg base "_law_draw" 1 f__law_draw) (F : Fun K "_law_play" "_law_play" s__law_play f fd) (hm : mg "_law_play" = some (.ref f)) : FnOk P w K mg base (L2.CX P w) 3 f fd ["pot", "kind", "most"] (spF K mg f__law_play) :=
  mkFn F sc__law_play fun cdv A outer s H E g hg hr => by
    have nd := sc__law_play.nd
    have tk := takesF (P := P) (w := w) (K := K) (mg := mg) (base := base) (N := n__law_play) (qual := "_law_play") (sc := defScope s__law_play) (f := f) (cdv := cdv) (A := A) (outer := outer) (s := s) (H := H) (E := E)
    exact ds_cons (ds_par2 rfl nd rfl rfl (by decide) rfl rfl (dx_cons (b_min rfl B (da_cons (v_ 2) (da_cons (e_add (de_int) (f_ [true, false] c__law_draw hr tk (da_cons (v_ 0) (da_cons (e_add (v_ 2) (de_int)) (da_nil))))) (da_nil)))) (dx_cons (de_ix (de_lst (da_cons (de_int) (da_cons (de_int) (da_cons (de_int) (da_cons (de_int) (da_nil)))))) (f_ [true, false] c__law_draw hr tk (da_cons (v_ 0) (da_cons (de_int) (da_nil))))) (dx_nil)))) (ds_cons (ds_parN rfl (dx_consO (fo_ [true, false] c__law_shuffled hr tk (da_cons (v_ 0) (da_cons (de_lst (da_cons (de_int) (da_cons (de_int) (da_cons (de_int) (da_cons (de_int) (da_cons (de_int) (da_cons (e_neg (de_int)) (da_cons (de_int) (da_cons (de_int) (da_cons (de_int) (da_cons (de_int) (da_cons (de_int) (da_cons (de_int) (da_nil)))))))))))))) (da_nil)))) (fun _ => dx_consO (do_lst (da_nil)) (fun _ => dx_consO (do_lst (da_nil)) (fun _ => dx_nil)))) (dn_ 5 nd (dn_ 6 nd (dn_ 7 nd (dn_nil))))) (ds_cons (ds_for (passes_of rfl) rfl (di_range1 rfl B.range (da_cons (v_ 3) (da_nil))) (gn_ 8 nd) (ds_cons (set_ 9 nd (e_add (e_mul (de_int) (v_ 8)) (f_ [true, false] c__law_draw hr tk (da_cons (v_ 0) (da_cons (de_int) (da_nil)))))) (ds_cons (ds_parN rfl (dx_cons (e_sub (v_ 9) (f_ [true, false] c__law_draw hr tk (da_cons (v_ 0) (da_cons (vf_ hg 4) (da_nil))))) (dx_cons (e_add (v_ 9) (f_ [true, false] c__law_draw hr tk (da_cons (v_ 0) (da_cons (vf_ hg 4) (da_nil))))) (dx_nil))) (dn_ 10 nd (dn_ 11 nd (dn_nil)))) (ds_cons (ds_setZ (i := 12) rfl nd rfl rfl (sw_true rfl rfl rfl (by decide +kernel)) (own := [("client", 13)]) (di_range1 rfl B.range (da_cons (b_len B (da_cons (v_ 6) (da_nil))) (da_nil))) (blkOk_by (N := n__law_play) (sc := defScope s__law_play) (own := [("client", 13)]) (by decide +kernel)) (by decide) (fun _ _ _ _ _ _ => gn_ 13 nd) (fun _ _ _ _ _ _ => dts_one (t_lt (de_ix (v_ 6) (v_ 13)) (v_ 10))) (fun _ _ _ _ _ _ => v_ 13)) (ds_cons (ds_if (dt_w (dw_or (t_eq hr (v_ 12) (de_lst (da_nil))) (dw_or1 (dt_w (dw_and (t_eq hr (f_ [true, false] c__law_draw hr tk (da_cons (v_ 0) (da_cons (de_int) (da_nil)))) (de_int)) (dw_and1 (t_lt (b_len B (da_cons (v_ 6) (da_nil))) (de_int)))))))) (ds_cons (ds_expr (de_append (v_ 6) (vf_ hg 11))) (ds_one (set_ 13 nd (e_sub (b_len B (da_cons (v_ 6) (da_nil))) (de_int))))) (ds_cons (set_ 13 nd (de_ix (v_ 12) (f_ [true, false] c__law_draw hr tk (da_cons (v_ 0) (da_cons (b_len B (da_cons (v_ 12) (da_nil))) (da_nil)))))) (ds_one (ds_asg (vf_ hg 11) (dh_sub (v_ 6) (v_ 13)))))) (ds_cons (ds_asg (f_ [true, false, true, false] c__law_call hr tk (da_cons (v_ 0) (da_cons (vf_ hg 1) (da_cons (v_ 5) (da_cons (vf_ hg 13) (da_nil)))))) (dh_tup rfl (dhs_cons (hn_ 14 nd) (dhs_cons (hn_ 15 nd) (dhs_nil))))) (ds_one (ds_expr (de_append (v_ 7) (de_tup (da_cons (vf_ hg 13) (da_cons (vf_ hg 10) (da_cons (vf_ hg 9) (da_cons (vf_ hg 11) (da_cons (vf_ hg 14) (da_cons (vf_ hg 15) (da_nil))))))))))))))))) (ds_one (ds_ret (b_tuple B (da_cons (DO.fz (fo_ [true, false] c__law_shuffled hr tk (da_cons (v_ 0) (da_cons (vf_ hg 7) (da_nil))))) (da_nil)))))))
theorem ok__law_play {P : Program} {w : World} {K : PySem.W.Frag} {mg : Str → Option Value} {base : Heap} {f : Addr} {fd : FuncData} (B : Bt mg) (c__law_shuffled : Callee P w K mg base "_law_shuffled" 2 f__law_shuffled) (c__law_call : Callee P w K mg base "_law_call" 2 f__law_call) (c__law_draw : Callee P w K mg base "_law_draw" 1 f__law_draw) (F : Fun K "_law_play" "_law_play" s__law_play f fd) (hm : mg "_law_play" = some (.ref f)) : Callee P w K mg base "_law_play" 3 f__law_play :=
  Callee.mk' F hm (fn__law_play B c__law_shuffled c__law_call c__law_draw F hm) (F.binds (ps := ["pot", "kind", "most"]) fun _ _ _ _ _ _ us hl => match us, hl with | [_, _, _], _ => rfl)
abbrev s__law_result : Stmt := topS 39
theorem sc__law_result : FnScope n__law_result ["kind", "state", "member"] (defScope s__law_result) := ⟨rfl, rfl, rfl, by decide +kernel, rfl, by decide +kernel, by decide +kernel⟩
theorem fn__law_result {P : Program} {w : World} {K : PySem.W.Frag} {mg : Str → Option Value} {base : Heap} {f : Addr} {fd : FuncData} (B : Bt mg) (c__law_step : Callee P w K mg base "_law_step" 2 f__law_step) (F : Fun K "_law_result" "_law_result" s__law_result f fd) (hm : mg "_law_result" = some (.ref f)) : FnOk P w K mg base (L2.CX P w) 3 f fd ["kind", "state", "member"] (spF K mg f__law_result) :=
  mkFn F sc__law_result fun cdv A outer s H E g hg hr => by
    have nd := sc__law_result.nd
    have tk := takesF (P := P) (w := w) (K := K) (mg := mg) (base := base) (N := n__law_result) (qual := "_law_result") (sc := defScope s__law_result) (f := f) (cdv := cdv) (A := A) (outer := outer) (s := s) (H := H) (E := E)
    exact ds_cons (ds_asg (vf_ hg 2) (dh_tup rfl (dhs_cons (hn_ 3 nd) (dhs_cons (hn_ 4 nd) (dhs_cons (hn_ 5 nd) (dhs_cons (hn_ 6 nd) (dhs_cons (hn_ 7 nd) (dhs_cons (hn_ 8 nd) (dhs_nil))))))))) (ds_cons (set_ 9 nd (de_if (t_eq hr (v_ 0) (de_str)) (DO.fz (do_comp rfl nd (own := [("row", 14)]) (di_all (vf_ hg 1)) (blkOk_by (N := n__law_result) (sc := defScope s__law_result) (own := [("row", 14)]) (by decide +kernel)) (by decide) (fun _ _ _ _ _ _ => gn_ 14 nd) (fun _ _ _ _ _ _ => dts_nil) (fun _ _ _ _ _ _ => de_ix (v_ 14) (de_int)))) (de_if (t_v (b_isTuple B (v_ 1))) (b_list B (da_cons (v_ 1) (da_nil))) (de_lst (da_cons (vf_ hg 1) (da_nil)))))) (ds_cons (ds_for (passes_of rfl) rfl (di_all (e_add (e_add (de_lst (da_cons (de_non) (da_nil))) (b_sorted hr B (da_cons (DO.fz (do_comp rfl nd (own := [("number", 15)]) (di_all (vf_ hg 9)) (blkOk_by (N := n__law_result) (sc := defScope s__law_result) (own := [("number", 15)]) (by decide +kernel)) (by decide) (fun _ _ _ _ _ _ => gn_ 15 nd) (fun _ _ _ _ _ _ => dts_one (t_isn (v_ 15) (de_non))) (fun _ _ _ _ _ _ => v_ 15))) (da_nil)))) (de_lst (da_cons (de_int) (da_cons (de_int) (da_nil)))))) (gn_ 10 nd) (ds_cons (set_ 11 nd (de_tup (da_cons (vf_ hg 3) (da_cons (vf_ hg 4) (da_cons (vf_ hg 6) (da_cons (vf_ hg 7) (da_cons (vf_ hg 8) (da_cons (vf_ hg 10) (da_nil))))))))) (ds_cons (ds_asg (f_ [false, false, false] c__law_step hr tk (da_cons (vf_ hg 0) (da_cons (vf_ hg 1) (da_cons (vf_ hg 11) (da_nil))))) (dh_tup rfl (dhs_cons (hn_ 12 nd) (dhs_cons (hn_ 13 nd) (dhs_nil))))) (ds_one (ds_if (t_v (v_ 12)) (ds_one (ds_ret (de_tup (da_cons (vf_ hg 11) (da_cons (vf_ hg 13) (da_nil)))))) (ds_nil)))))) (ds_one (ds_ret (de_tup (da_cons (de_non) (da_cons (vf_ hg 1) (da_nil))))))))
theorem ok__law_result {P : Program} {w : World} {K : PySem.W.Frag} {mg : Str → Option Value} {base : Heap} {f : Addr} {fd : FuncData} (B : Bt mg) (c__law_step : Callee P w K mg base "_law_step" 2 f__law_step) (F : Fun K "_law_result" "_law_result" s__law_result f fd) (hm : mg "_law_result" = some (.ref f)) : Callee P w K mg base "_law_result" 3 f__law_result :=
  Callee.mk' F hm (fn__law_result B c__law_step F hm) (F.binds (ps := ["kind", "state", "member"]) fun _ _ _ _ _ _ us hl => match us, hl with | [_, _, _], _ => rfl)
abbrev s__law_played : Stmt := topS 40
theorem sc__law_played : FnScope n__law_played ["kind", "play"] (defScope s__law_played) := ⟨rfl, rfl, rfl, by decide +kernel, rfl, by decide +kernel, by decide +kernel⟩
theorem fn__law_played {P : Program} {w : World} {K : PySem.W.Frag} {mg : Str → Option Value} {base : Heap} {f : Addr} {fd : FuncData} (B : Bt mg) (c__law_first : Callee P w K mg base "_law_first" 1 f__law_first) (c__law_result : Callee P w K mg base "_law_result" 3 f__law_result) (F : Fun K "_law_played" "_law_played" s__law_played f fd) (hm : mg "_law_played" = some (.ref f)) : FnOk P w K mg base (L2.CX P w) 4 f fd ["kind", "play"] (spF K mg f__law_played) :=
  mkFn F sc__law_played fun cdv A outer s H E g hg hr => by
    have nd := sc__law_played.nd
    have tk := takesF (P := P) (w := w) (K := K) (mg := mg) (base := base) (N := n__law_played) (qual := "_law_played") (sc := defScope s__law_played) (f := f) (cdv := cdv) (A := A) (outer := outer) (s := s) (H := H) (E := E)
    exact ds_cons (ds_parN rfl (dx_cons (b_sorted hr B (da_cons (DO.fz (do_comp rfl nd (own := [("k", 6)]) (di_range1 rfl B.range (da_cons (b_len B (da_cons (v_ 1) (da_nil))) (da_nil))) (blkOk_by (N := n__law_played) (sc := defScope s__law_played) (own := [("k", 6)]) (by decide +kernel)) (by decide) (fun _ _ _ _ _ _ => gn_ 6 nd) (fun _ _ _ _ _ _ => dts_nil) (fun _ _ _ _ _ _ => de_tup (da_cons (de_ix (de_ix (v_ 1) (v_ 6)) (de_int)) (da_cons (v_ 6) (da_nil)))))) (da_nil))) (dx_cons (f_ [false] c__law_first hr tk (da_cons (vf_ hg 0) (da_nil))) (dx_consO (do_dctK) (fun _ => dx_nil)))) (dn_ 2 nd (dn_ 3 nd (dn_ 4 nd (dn_nil))))) (ds_cons (ds_for (passes_of rfl) rfl (di_all (vf_ hg 2)) (dg_tup rfl (dgs_cons (gn_ 5 nd) (dgs_cons (gn_ 6 nd) (dgs_nil))) rfl rfl (tgCons_len (tgCons_len (tgNil_len)))) (ds_cons (ds_asg (f_ [false, false, false] c__law_result hr tk (da_cons (vf_ hg 0) (da_cons (vf_ hg 3) (da_cons (de_ix (v_ 1) (v_ 6)) (da_nil))))) (dh_tup rfl (dhs_cons (hn_ 7 nd) (dhs_cons (hn_ 3 nd) (dhs_nil))))) (ds_one (ds_dput hr (v_ 4) (v_ 6) (vf_ hg 7))))) (ds_one (ds_ret (b_tuple B (da_cons (DO.fz (do_comp rfl nd (own := [("k", 6)]) (di_range1 rfl B.range (da_cons (b_len B (da_cons (v_ 1) (da_nil))) (da_nil))) (blkOk_by (N := n__law_played) (sc := defScope s__law_played) (own := [("k", 6)]) (by decide +kernel)) (by decide) (fun _ _ _ _ _ _ => gn_ 6 nd) (fun _ _ _ _ _ _ => dts_nil) (fun _ _ _ _ _ _ => de_dix hr (v_ 4) (v_ 6)))) (da_nil))))))
theorem ok__law_played {P : Program} {w : World} {K : PySem.W.Frag} {mg : Str → Option Value} {base : Heap} {f : Addr} {fd : FuncData} (B : Bt mg) (c__law_first : Callee P w K mg base "_law_first" 1 f__law_first) (c__law_result : Callee P w K mg base "_law_result" 3 f__law_result) (F : Fun K "_law_played" "_law_played" s__law_played f fd) (hm : mg "_law_played" = some (.ref f)) : Callee P w K mg base "_law_played" 4 f__law_played :=
  Callee.mk' F hm (fn__law_played B c__law_first c__law_result F hm) (F.binds (ps := ["kind", "play"]) fun _ _ _ _ _ _ us hl => match us, hl with | [_, _], _ => rfl)
abbrev s__law_put : Stmt := topS 41
theorem sc__law_put : FnScope n__law_put ["history", "k", "operation"] (defScope s__law_put) := ⟨rfl, rfl, rfl, by decide +kernel, rfl, by decide +kernel, by decide +kernel⟩
theorem fn__law_put {P : Program} {w : World} {K : PySem.W.Frag} {mg : Str → Option Value} {base : Heap} {f : Addr} {fd : FuncData} (B : Bt mg) (F : Fun K "_law_put" "_law_put" s__law_put f fd) (hm : mg "_law_put" = some (.ref f)) : FnOk P w K mg base (L2.CX P w) 1 f fd ["history", "k", "operation"] (spF K mg f__law_put) :=
  mkFn F sc__law_put fun cdv A outer s H E g hg hr => by
    have nd := sc__law_put.nd
    have tk := takesF (P := P) (w := w) (K := K) (mg := mg) (base := base) (N := n__law_put) (qual := "_law_put") (sc := defScope s__law_put) (f := f) (cdv := cdv) (A := A) (outer := outer) (s := s) (H := H) (E := E)
    exact ds_one (ds_ret (e_add (e_add (de_sl (v_ 0) (dp_no) (dp_is (v_ 1))) (de_tup (da_cons (vf_ hg 2) (da_nil)))) (de_sl (v_ 0) (dp_is (e_add (v_ 1) (de_int))) (dp_no))))
theorem ok__law_put {P : Program} {w : World} {K : PySem.W.Frag} {mg : Str → Option Value} {base : Heap} {f : Addr} {fd : FuncData} (B : Bt mg) (F : Fun K "_law_put" "_law_put" s__law_put f fd) (hm : mg "_law_put" = some (.ref f)) : Callee P w K mg base "_law_put" 1 f__law_put :=
  Callee.mk' F hm (fn__law_put B F hm) (F.binds (ps := ["history", "k", "operation"]) fun _ _ _ _ _ _ us hl => match us, hl with | [_, _, _], _ => rfl)
abbrev s__law_bent : Stmt := topS 42
theorem sc__law_bent : FnScope n__law_bent ["pot", "history"] (defScope s__law_bent) := ⟨rfl, rfl, rfl, by decide +kernel, rfl, by decide +kernel, by decide +kernel⟩
theorem fn__law_bent {P : Program} {w : World} {K : PySem.W.Frag} {mg : Str → Option Value} {base : Heap} {f : Addr} {fd : FuncData} (B : Bt mg) (c__law_draw : Callee P w K mg base "_law_draw" 1 f__law_draw) (c__law_pick : Callee P w K mg base "_law_pick" 2 f__law_pick) (c__law_put : Callee P w K mg base "_law_put" 1 f__law_put) (F : Fun K "_law_bent" "_law_bent" s__law_bent f fd) (hm : mg "_law_bent" = some (.ref f)) : FnOk P w K mg base (L2.CX P w) 3 f fd ["pot", "history"] (spF K mg f__law_bent) :=
  mkFn F sc__law_bent fun cdv A outer s H E g hg hr => by
    have nd := sc__law_bent.nd
    have tk := takesF (P := P) (w := w) (K := K) (mg := mg) (base := base) (N := n__law_bent) (qual := "_law_bent") (sc := defScope s__law_bent) (f := f) (cdv := cdv) (A := A) (outer := outer) (s := s) (H := H) (E := E)
    exact ds_cons (ds_if (t_eq hr (v_ 1) (de_tup (da_nil))) (ds_one (ds_ret (vf_ hg 1))) (ds_nil)) (ds_cons (ds_par2 rfl nd rfl rfl (by decide) rfl rfl (dx_cons (f_ [true, false] c__law_draw hr tk (da_cons (v_ 0) (da_cons (b_len B (da_cons (v_ 1) (da_nil))) (da_nil)))) (dx_cons (f_ [true, false] c__law_draw hr tk (da_cons (v_ 0) (da_cons (de_int) (da_nil)))) (dx_nil)))) (ds_cons (set_ 4 nd (de_ix (v_ 1) (v_ 2))) (ds_cons (ds_setZ (i := 5) rfl nd rfl rfl (sw_true rfl rfl rfl (by decide +kernel)) (own := [("j", 6)]) (di_range1 rfl B.range (da_cons (b_len B (da_cons (v_ 1) (da_nil))) (da_nil))) (blkOk_by (N := n__law_bent) (sc := defScope s__law_bent) (own := [("j", 6)]) (by decide +kernel)) (by decide) (fun _ _ _ _ _ _ => gn_ 6 nd) (fun _ _ _ _ _ _ => dts_one (dt_w (dw_and (t_eq hr (de_ix (de_ix (v_ 1) (v_ 6)) (de_int)) (de_ix (v_ 4) (de_int))) (dw_and1 (t_ne hr (de_ix (de_ix (v_ 1) (v_ 6)) (de_int)) (de_ix (v_ 4) (de_int))))))) (fun _ _ _ _ _ _ => v_ 6)) (ds_cons (ds_if (dt_w (dw_and (t_lt (v_ 3) (de_int)) (dw_and1 (t_ne hr (v_ 5) (de_lst (da_nil)))))) (ds_cons (set_ 6 nd (f_ [true, false] c__law_pick hr tk (da_cons (v_ 0) (da_cons (vf_ hg 5) (da_nil))))) (ds_cons (set_ 7 nd (f_ [false, false, false] c__law_put hr tk (da_cons (vf_ hg 1) (da_cons (vf_ hg 2) (da_cons (e_add (de_sl (v_ 4) (dp_no) (dp_is (de_int))) (de_tup (da_cons (de_ix (de_ix (v_ 1) (v_ 6)) (de_int)) (da_nil)))) (da_nil)))))) (ds_one (ds_ret (de_if (t_eq hr (v_ 3) (de_int)) (vf_ hg 7) (f_ [false, false, false] c__law_put hr tk (da_cons (vf_ hg 7) (da_cons (vf_ hg 6) (da_cons (e_add (de_sl (de_ix (v_ 1) (v_ 6)) (dp_no) (dp_is (de_int))) (de_tup (da_cons (de_ix (v_ 4) (de_int)) (da_nil)))) (da_nil)))))))))) (ds_nil)) (ds_cons (ds_if (t_lt (v_ 3) (de_int)) (ds_cons (set_ 8 nd (e_sub (f_ [true, false] c__law_draw hr tk (da_cons (v_ 0) (da_cons (de_int) (da_nil)))) (de_int))) (ds_one (ds_ret (f_ [false, false, false] c__law_put hr tk (da_cons (vf_ hg 1) (da_cons (vf_ hg 2) (da_cons (e_add (de_tup (da_cons (de_ix (v_ 4) (de_int)) (da_cons (e_add (de_ix (v_ 4) (de_int)) (v_ 8)) (da_cons (e_add (de_ix (v_ 4) (de_int)) (v_ 8)) (da_nil))))) (de_sl (v_ 4) (dp_is (de_int)) (dp_no))) (da_nil)))))))) (ds_nil)) (ds_cons (ds_if (t_eq hr (v_ 3) (de_int)) (ds_one (ds_ret (f_ [false, false, false] c__law_put hr tk (da_cons (vf_ hg 1) (da_cons (vf_ hg 2) (da_cons (e_add (de_tup (da_cons (de_ix (v_ 4) (de_int)) (da_cons (e_sub (de_ix (v_ 4) (de_int)) (f_ [true, false] c__law_draw hr tk (da_cons (v_ 0) (da_cons (de_int) (da_nil))))) (da_cons (e_add (de_ix (v_ 4) (de_int)) (f_ [true, false] c__law_draw hr tk (da_cons (v_ 0) (da_cons (de_int) (da_nil))))) (da_nil))))) (de_sl (v_ 4) (dp_is (de_int)) (dp_no))) (da_nil))))))) (ds_nil)) (ds_one (ds_ret (e_add (de_sl (v_ 1) (dp_no) (dp_is (v_ 2))) (de_sl (v_ 1) (dp_is (e_add (v_ 2) (de_int))) (dp_no)))))))))))
theorem ok__law_bent {P : Program} {w : World} {K : PySem.W.Frag} {mg : Str → Option Value} {base : Heap} {f : Addr} {fd : FuncData} (B : Bt mg) (c__law_draw : Callee P w K mg base "_law_draw" 1 f__law_draw) (c__law_pick : Callee P w K mg base "_law_pick" 2 f__law_pick) (c__law_put : Callee P w K mg base "_law_put" 1 f__law_put) (F : Fun K "_law_bent" "_law_bent" s__law_bent f fd) (hm : mg "_law_bent" = some (.ref f)) : Callee P w K mg base "_law_bent" 3 f__law_bent :=
  Callee.mk' F hm (fn__law_bent B c__law_draw c__law_pick c__law_put F hm) (F.binds (ps := ["pot", "history"]) fun _ _ _ _ _ _ us hl => match us, hl with | [_, _], _ => rfl)
abbrev s__law_history : Stmt := topS 43
theorem sc__law_history : FnScope n__law_history ["pot", "kind", "most"] (defScope s__law_history) := ⟨rfl, rfl, rfl, by decide +kernel, rfl, by decide +kernel, by decide +kernel⟩
theorem fn__law_history {P : Program} {w : World} {K : PySem.W.Frag} {mg : Str → Option Value} {base : Heap} {f : Addr} {fd : FuncData} (B : Bt mg) (c__law_played : Callee P w K mg base "_law_played" 4 f__law_played) (c__law_play : Callee P w K mg base "_law_play" 3 f__law_play) (c__law_bent : Callee P w K mg base "_law_bent" 3 f__law_bent) (c__law_draw : Callee P w K mg base "_law_draw" 1 f__law_draw) (F : Fun K "_law_history" "_law_history" s__law_history f fd) (hm : mg "_law_history" = some (.ref f)) : FnOk P w K mg base (L2.CX P w) 5 f fd ["pot", "kind", "most"] (spF K mg f__law_history) :=
  mkFn F sc__law_history fun cdv A outer s H E g hg hr => by
    have nd := sc__law_history.nd
    have tk := takesF (P := P) (w := w) (K := K) (mg := mg) (base := base) (N := n__law_history) (qual := "_law_history") (sc := defScope s__law_history) (f := f) (cdv := cdv) (A := A) (outer := outer) (s := s) (H := H) (E := E)
    exact ds_cons (set_ 3 nd (f_ [false, false] c__law_played hr tk (da_cons (vf_ hg 1) (da_cons (f_ [true, false, false] c__law_play hr tk (da_cons (v_ 0) (da_cons (vf_ hg 1) (da_cons (vf_ hg 2) (da_nil))))) (da_nil))))) (ds_cons (ds_for (passes_of rfl) rfl (di_range1 rfl B.range (da_cons (de_ix (de_lst (da_cons (de_int) (da_cons (de_int) (da_cons (de_int) (da_cons (de_int) (da_cons (de_int) (da_nil))))))) (f_ [true, false] c__law_draw hr tk (da_cons (v_ 0) (da_cons (de_int) (da_nil))))) (da_nil))) (gn_ 4 nd) (ds_one (set_ 3 nd (f_ [true, false] c__law_bent hr tk (da_cons (v_ 0) (da_cons (vf_ hg 3) (da_nil))))))) (ds_one (ds_ret (vf_ hg 3))))
theorem ok__law_history {P : Program} {w : World} {K : PySem.W.Frag} {mg : Str → Option Value} {base : Heap} {f : Addr} {fd : FuncData} (B : Bt mg) (c__law_played : Callee P w K mg base "_law_played" 4 f__law_played) (c__law_play : Callee P w K mg base "_law_play" 3 f__law_play) (c__law_bent : Callee P w K mg base "_law_bent" 3 f__law_bent) (c__law_draw : Callee P w K mg base "_law_draw" 1 f__law_draw) (F : Fun K "_law_history" "_law_history" s__law_history f fd) (hm : mg "_law_history" = some (.ref f)) : Callee P w K mg base "_law_history" 5 f__law_history :=
  Callee.mk' F hm (fn__law_history B c__law_played c__law_play c__law_bent c__law_draw F hm) (F.binds (ps := ["pot", "kind", "most"]) fun _ _ _ _ _ _ us hl => match us, hl with | [_, _, _], _ => rfl)
abbrev s__law_told : Stmt := topS 44
theorem sc__law_told : FnScope n__law_told ["order"] (defScope s__law_told) := ⟨rfl, rfl, rfl, by decide +kernel, rfl, by decide +kernel, by decide +kernel⟩
theorem fn__law_told {P : Program} {w : World} {K : PySem.W.Frag} {mg : Str → Option Value} {base : Heap} {f : Addr} {fd : FuncData} (B : Bt mg) (c_order_text : Callee P w K mg base "order_text" 3 f_order_text) {C_InvalidOrder : Addr} (m_InvalidOrder : mg "InvalidOrder" = some (.ref C_InvalidOrder)) (e_InvalidOrder : PySem.W.exmOne K (.ref C_InvalidOrder) (.ref C_InvalidOrder) = some true) (F : Fun K "_law_told" "_law_told" s__law_told f fd) (hm : mg "_law_told" = some (.ref f)) : FnOk P w K mg base (L2.CX P w) 4 f fd ["order"] (spF K mg f__law_told) :=
  mkFn F sc__law_told fun cdv A outer s H E g hg hr => by
    have nd := sc__law_told.nd
    have tk := takesF (P := P) (w := w) (K := K) (mg := mg) (base := base) (N := n__law_told) (qual := "_law_told") (sc := defScope s__law_told) (f := f) (cdv := cdv) (A := A) (outer := outer) (s := s) (H := H) (E := E)
    exact ds_cons (ds_tryM (l := [("InvalidOrder", C_InvalidOrder, bSet 1 (dC (.int 0)))]) rfl rfl tk (fun W pn xe tk hp => ds_one (set_ 1 nd (f_ [false] c_order_text hr tk (da_cons (vf_ hg 0) (da_nil))))) (.cons m_InvalidOrder rfl (by decide) e_InvalidOrder (fun a oe pn g' => ds_one (set_ 1 nd (de_int))) (.nil)) (ap_all1 )) (ds_one (ds_ret (vf_ hg 1)))
theorem ok__law_told {P : Program} {w : World} {K : PySem.W.Frag} {mg : Str → Option Value} {base : Heap} {f : Addr} {fd : FuncData} (B : Bt mg) (c_order_text : Callee P w K mg base "order_text" 3 f_order_text) {C_InvalidOrder : Addr} (m_InvalidOrder : mg "InvalidOrder" = some (.ref C_InvalidOrder)) (e_InvalidOrder : PySem.W.exmOne K (.ref C_InvalidOrder) (.ref C_InvalidOrder) = some true) (F : Fun K "_law_told" "_law_told" s__law_told f fd) (hm : mg "_law_told" = some (.ref f)) : Callee P w K mg base "_law_told" 4 f__law_told :=
  Callee.mk' F hm (fn__law_told B c_order_text m_InvalidOrder e_InvalidOrder F hm) (F.binds (ps := ["order"]) fun _ _ _ _ _ _ us hl => match us, hl with | [_], _ => rfl)
abbrev s__law_picture : Stmt := topS 45
theorem sc__law_picture : FnScope n__law_picture ["history"] (defScope s__law_picture) := ⟨rfl, rfl, rfl, by decide +kernel, rfl, by decide +kernel, by decide +kernel⟩
theorem fn__law_picture {P : Program} {w : World} {K : PySem.W.Frag} {mg : Str → Option Value} {base : Heap} {f : Addr} {fd : FuncData} (B : Bt mg) (F : Fun K "_law_picture" "_law_picture" s__law_picture f fd) (hm : mg "_law_picture" = some (.ref f)) : FnOk P w K mg base (L2.CX P w) 1 f fd ["history"] (spF K mg f__law_picture) :=
  mkFn F sc__law_picture fun cdv A outer s H E g hg hr => by
    have nd := sc__law_picture.nd
    have tk := takesF (P := P) (w := w) (K := K) (mg := mg) (base := base) (N := n__law_picture) (qual := "_law_picture") (sc := defScope s__law_picture) (f := f) (cdv := cdv) (A := A) (outer := outer) (s := s) (H := H) (E := E)
    exact ds_cons (set_ 1 nd (de_sortedSet rfl B (e_add (DO.fz (do_comp rfl nd (own := [("one", 7)]) (di_all (vf_ hg 0)) (blkOk_by (N := n__law_picture) (sc := defScope s__law_picture) (own := [("one", 7)]) (by decide +kernel)) (by decide) (fun _ _ _ _ _ _ => gn_ 7 nd) (fun _ _ _ _ _ _ => dts_nil) (fun _ _ _ _ _ _ => de_ix (v_ 7) (de_int)))) (DO.fz (do_comp rfl nd (own := [("one", 7)]) (di_all (vf_ hg 0)) (blkOk_by (N := n__law_picture) (sc := defScope s__law_picture) (own := [("one", 7)]) (by decide +kernel)) (by decide) (fun _ _ _ _ _ _ => gn_ 7 nd) (fun _ _ _ _ _ _ => dts_one (t_isn (de_ix (v_ 7) (de_int)) (de_non))) (fun _ _ _ _ _ _ => de_ix (v_ 7) (de_int))))))) (ds_cons (setO_ 2 nd (do_lst (da_nil))) (ds_cons (ds_for (passes_of rfl) rfl (di_all (de_sortedSet rfl B (DO.fz (do_comp rfl nd (own := [("one", 7)]) (di_all (vf_ hg 0)) (blkOk_by (N := n__law_picture) (sc := defScope s__law_picture) (own := [("one", 7)]) (by decide +kernel)) (by decide) (fun _ _ _ _ _ _ => gn_ 7 nd) (fun _ _ _ _ _ _ => dts_nil) (fun _ _ _ _ _ _ => de_ix (v_ 7) (de_int)))))) (gn_ 3 nd) (ds_cons (setO_ 4 nd (do_lst (da_nil))) (ds_cons (ds_for (passes_of rfl) rfl (di_all (vf_ hg 1)) (gn_ 5 nd) (ds_cons (set_ 6 nd (de_str)) (ds_cons (ds_for (passes_of rfl) rfl (di_all (vf_ hg 0)) (gn_ 7 nd) (ds_one (ds_if (dt_w (dw_and (t_eq hr (de_ix (v_ 7) (de_int)) (v_ 3)) (dw_and (t_le (de_ix (v_ 7) (de_int)) (v_ 5)) (dw_and1 (dt_w (dw_or (t_is (de_ix (v_ 7) (de_int)) (de_non)) (dw_or1 (t_le (v_ 5) (de_ix (v_ 7) (de_int)))))))))) (ds_one (set_ 6 nd (de_ix (de_ix (v_ 7) (de_int)) (de_int)))) (ds_nil)))) (ds_one (ds_expr (de_append (v_ 4) (vf_ hg 6))))))) (ds_one (ds_expr (de_append (v_ 2) (de_join (de_str) (v_ 4)))))))) (ds_one (ds_ret (vf_ hg 2)))))
theorem ok__law_picture {P : Program} {w : World} {K : PySem.W.Frag} {mg : Str → Option Value} {base : Heap} {f : Addr} {fd : FuncData} (B : Bt mg) (F : Fun K "_law_picture" "_law_picture" s__law_picture f fd) (hm : mg "_law_picture" = some (.ref f)) : Callee P w K mg base "_law_picture" 1 f__law_picture :=
  Callee.mk' F hm (fn__law_picture B F hm) (F.binds (ps := ["history"]) fun _ _ _ _ _ _ us hl => match us, hl with | [_], _ => rfl)
abbrev s_law : Stmt := topS 46
theorem sc_law : FnScope n_law ["script"] (defScope s_law) := ⟨rfl, rfl, rfl, by decide +kernel, rfl, by decide +kernel, by decide +kernel⟩
theorem fn_law {P : Program} {w : World} {K : PySem.W.Frag} {mg : Str → Option Value} {base : Heap} {f : Addr} {fd : FuncData} (B : Bt mg) (c__law_turns : Callee P w K mg base "_law_turns" 1 f__law_turns) (c__law_pot : Callee P w K mg base "_law_pot" 1 f__law_pot) (c__law_history : Callee P w K mg base "_law_history" 5 f__law_history) (c__law_pick : Callee P w K mg base "_law_pick" 2 f__law_pick) (c__law_same : Callee P w K mg base "_law_same" 13 (f__law_same 12)) (c__law_kinds : Callee P w K mg base "_law_kinds" 1 f__law_kinds) (c_picture : Callee P w K mg base "picture" 6 f_picture) (c__law_picture : Callee P w K mg base "_law_picture" 1 f__law_picture) (c__law_draw : Callee P w K mg base "_law_draw" 1 f__law_draw) (c__law_told : Callee P w K mg base "_law_told" 4 f__law_told) (F : Fun K "law" "law" s_law f fd) (hm : mg "law" = some (.ref f)) : FnOk P w K mg base (L2.CX P w) 14 f fd ["script"] (spF K mg f_law) :=
  mkFn F sc_law fun cdv A outer s H E g hg hr => by
    have nd := sc_law.nd
    have tk := takesF (P := P) (w := w) (K := K) (mg := mg) (base := base) (N := n_law) (qual := "law") (sc := defScope s_law) (f := f) (cdv := cdv) (A := A) (outer := outer) (s := s) (H := H) (E := E)
    exact ds_cons (ds_for (passes_of rfl) rfl (di_all (f_ [false, false, false, false] c__law_turns hr tk (da_cons (vf_ hg 0) (da_cons (de_int) (da_cons (de_int) (da_cons (de_int) (da_nil))))))) (gn_ 1 nd) (ds_cons (setO_ 2 nd (fo_ [false, false] c__law_pot hr tk (da_cons (vf_ hg 0) (da_cons (vf_ hg 1) (da_nil))))) (ds_cons (set_ 3 nd (f_ [true, false, false] c__law_history hr tk (da_cons (v_ 2) (da_cons (f_ [true, false] c__law_pick hr tk (da_cons (v_ 2) (da_cons (f0_ c__law_kinds hr) (da_nil)))) (da_cons (de_int) (da_nil)))))) (ds_cons (set_ 3 nd (b_tuple B (da_cons (DO.fz (do_comp rfl nd (own := [("one", 6)]) (di_all (vf_ hg 3)) (blkOk_by (N := n_law) (sc := defScope s_law) (own := [("one", 6)]) (by decide +kernel)) (by decide) (fun _ _ _ _ _ _ => gn_ 6 nd) (fun _ _ _ _ _ _ => dts_nil) (fun _ _ _ _ _ _ => de_if (t_eq hr (f_ [true, false] c__law_draw hr takes0 (da_cons (v_ 2) (da_cons (de_int) (da_nil)))) (de_int)) (e_add (e_add (e_add (de_sl (v_ 6) (dp_no) (dp_is (de_int))) (de_tup (da_cons (de_non) (da_nil)))) (de_sl (v_ 6) (dp_is (de_int)) (dp_is (de_int)))) (de_tup (da_cons (de_non) (da_nil)))) (v_ 6)))) (da_nil)))) (ds_cons (ds_if (dt_not (t_v (f_ [false, false] c__law_same hr tk (da_cons (f_ [false] c_picture hr tk (da_cons (vf_ hg 3) (da_nil))) (da_cons (f_ [false] c__law_picture hr tk (da_cons (vf_ hg 3) (da_nil))) (da_nil)))))) (ds_one (ds_ret (de_bl))) (ds_nil)) (ds_cons (set_ 4 nd (b_tuple B (da_cons (DO.fz (do_comp rfl nd (own := [("k", 7)]) (di_range1 rfl B.range (da_cons (f_ [true, false] c__law_draw hr tk (da_cons (v_ 2) (da_cons (de_int) (da_nil)))) (da_nil))) (blkOk_by (N := n_law) (sc := defScope s_law) (own := [("k", 7)]) (by decide +kernel)) (by decide) (fun _ _ _ _ _ _ => gn_ 7 nd) (fun _ _ _ _ _ _ => dts_nil) (fun _ _ _ _ _ _ => f_ [true, false] c__law_draw hr takes0 (da_cons (v_ 2) (da_cons (de_int) (da_nil)))))) (da_nil)))) (ds_cons (ds_if (dt_not (t_v (f_ [false, false] c__law_same hr tk (da_cons (f_ [false] c__law_told hr tk (da_cons (vf_ hg 4) (da_nil))) (da_cons (de_join (de_str) (DO.fz (do_comp rfl nd (own := [("k", 7)]) (di_all (vf_ hg 4)) (blkOk_by (N := n_law) (sc := defScope s_law) (own := [("k", 7)]) (by decide +kernel)) (by decide) (fun _ _ _ _ _ _ => gn_ 7 nd) (fun _ _ _ _ _ _ => dts_nil) (fun _ _ _ _ _ _ => b_str B (da_cons (v_ 7) (da_nil)))))) (da_nil)))))) (ds_one (ds_ret (de_bl))) (ds_nil)) (ds_cons (set_ 5 nd (f_ [true, false] c__law_pick hr tk (da_cons (v_ 2) (da_cons (de_lst (da_cons (b_list B (da_cons (v_ 4) (da_nil))) (da_cons (de_non) (da_cons (de_int) (da_cons (de_str) (da_cons (e_add (v_ 4) (de_tup (da_cons (e_neg (de_int)) (da_nil)))) (da_cons (e_add (v_ 4) (de_tup (da_cons (de_bl) (da_nil)))) (da_cons (e_add (v_ 4) (de_tup (da_cons (de_non) (da_nil)))) (da_cons (de_tup (da_cons (vf_ hg 4) (da_nil))) (da_cons (e_add (v_ 4) (de_tup (da_cons (de_str) (da_nil)))) (da_nil))))))))))) (da_nil))))) (ds_one (ds_if (dt_not (t_v (f_ [false, false] c__law_same hr tk (da_cons (f_ [false] c__law_told hr tk (da_cons (vf_ hg 5) (da_nil))) (da_cons (de_int) (da_nil)))))) (ds_one (ds_ret (de_bl))) (ds_nil))))))))))) (ds_one (ds_ret (de_bl)))
theorem ok_law {P : Program} {w : World} {K : PySem.W.Frag} {mg : Str → Option Value} {base : Heap} {f : Addr} {fd : FuncData} (B : Bt mg) (c__law_turns : Callee P w K mg base "_law_turns" 1 f__law_turns) (c__law_pot : Callee P w K mg base "_law_pot" 1 f__law_pot) (c__law_history : Callee P w K mg base "_law_history" 5 f__law_history) (c__law_pick : Callee P w K mg base "_law_pick" 2 f__law_pick) (c__law_same : Callee P w K mg base "_law_same" 13 (f__law_same 12)) (c__law_kinds : Callee P w K mg base "_law_kinds" 1 f__law_kinds) (c_picture : Callee P w K mg base "picture" 6 f_picture) (c__law_picture : Callee P w K mg base "_law_picture" 1 f__law_picture) (c__law_draw : Callee P w K mg base "_law_draw" 1 f__law_draw) (c__law_told : Callee P w K mg base "_law_told" 4 f__law_told) (F : Fun K "law" "law" s_law f fd) (hm : mg "law" = some (.ref f)) : Callee P w K mg base "law" 14 f_law :=
  Callee.mk' F hm (fn_law B c__law_turns c__law_pot c__law_history c__law_pick c__law_same c__law_kinds c_picture c__law_picture c__law_draw c__law_told F hm) (F.binds (ps := ["script"]) fun _ _ _ _ _ _ us hl => match us, hl with | [_], _ => rfl)
end DL
/-! Dm3: loops and comprehensions, run. -/
namespace DL
open PySem PySem.Spec L2
open PyProof.Rows hiding St
section
variable {N : En → Prop} {R : En → Rr → Prop} {E : En → Ex → Prop} {P : En → Rv → Prop} {PD : En → D → Prop} {PI : En → List D → Prop} {PB : En → Bool → Prop} {en : En}
theorem OutP_forL {tg : Tg} {body : Bd} : ∀ (ds : List D) (I : Nat → En → Prop) (en : En), I 0 en → (∀ (i : Nat) (d : D) (en : En), ds[i]? = some d → I i en → OpP (tg d en) fun en1 => OutP (body en1) (I (i + 1)) R E) → (∀ en, I ds.length en → N en) → OutP (forL tg body ds en) N R E
  | [], I, en, h0, _, fin => fin en h0
  | d :: ds, I, en, h0, step, fin => by
    have h := step 0 d en rfl h0
    unfold forL
    cases q : tg d en with
    | none => rw [q] at h; exact h.elim
    | some en1 =>
      rw [q] at h
      dsimp only [OpP_some] at h ⊢
      have ih := fun en2 (h2 : I 1 en2) => OutP_forL (tg := tg) (body := body) ds (fun i => I (i + 1)) en2 h2 (fun i d' en' e hi => step (i + 1) d' en' (by simpa using e) hi) fin
      cases q2 : body en1 with
      | nx en2 => rw [q2] at h; exact ih en2 h
      | rt en2 r => rw [q2] at h; exact h
      | ex en2 x => rw [q2] at h; exact h
      | bk en2 => rw [q2] at h; exact h.elim
      | ct en2 => rw [q2] at h; exact h.elim
      | no => rw [q2] at h; exact h.elim
@[simp] theorem OutP_for {it : Iv} {tg : Tg} {body : Bd} : OutP (bFor it tg body en) N R E = RsP (it en) (fun en1 ds => OutP (forL tg body ds en1) N R E) E := by unfold bFor; simp only [OutP_out]
def ItP (x : Rv) (sem : D → Option (List D)) (Q : List D → Prop) : Prop := match x with
  | .d d => OpP (sem d) Q
  | .s _ => False
@[simp] theorem ItP_d {d : D} {sem : D → Option (List D)} {Q : List D → Prop} : ItP (.d d) sem Q = OpP (sem d) Q := rfl
@[simp] theorem RsP_iOf {sem : D → Option (List D)} {f : Ev} : RsP (iOf sem f en) PI E = RsP (f en) (fun en1 x => ItP x sem fun ds => PI en1 ds) E := by
  unfold iOf
  simp only [RsP_bind]
  congr 1
  funext en1 x
  cases x with
  | s i => rfl
  | d d => dsimp only [ItP_d]; cases sem d <;> rfl
def rng (j : Int) : List D := (List.range j.toNat).map fun i => .int (0 + (i : Nat))
def rng2 (i j : Int) : List D := (List.range (j - i).toNat).map fun k => .int (i + (k : Nat))
def R1P (xs : List Rv) (Q : Int → Prop) : Prop := match xs with
  | [.d (.int j)] => small j = true ∧ Q j
  | _ => False
@[simp] theorem R1P_i {j : Int} {Q : Int → Prop} : R1P [.d (.int j)] Q = (small j = true ∧ Q j) := rfl
@[simp] theorem RsP_range1 {av : Av} : RsP (iRange1 av en) PI E = RsP (av en) (fun en1 xs => R1P xs fun j => PI en1 (rng j)) E := by
  unfold iRange1
  simp only [RsP_bind]
  congr 1
  funext en1 xs
  match xs with
  | [] => rfl
  | [.s _] => rfl
  | [.d d] =>
    cases d <;> first | rfl | skip
    rename_i j
    dsimp only [R1P_i]
    by_cases h : small j = true <;> simp [h, rng]
  | .d d :: _ :: _ => cases d <;> rfl
  | .s _ :: _ :: _ => rfl
def R2P (xs : List Rv) (Q : Int → Int → Prop) : Prop := match xs with
  | [.d (.int i), .d (.int j)] => (small i = true ∧ small j = true) ∧ Q i j
  | _ => False
@[simp] theorem R2P_i {i j : Int} {Q : Int → Int → Prop} : R2P [.d (.int i), .d (.int j)] Q = ((small i = true ∧ small j = true) ∧ Q i j) := rfl
theorem small_n {n : Nat} (h : n < 2 ^ 62) : small (n : Int) = true := by
  unfold small
  rw [Bool.and_eq_true, decide_eq_true_iff, decide_eq_true_iff]
  constructor <;> omega
theorem small_i {n : Int} (h0 : 0 ≤ n) (h : n < 2 ^ 62) : small n = true := by
  unfold small
  rw [Bool.and_eq_true, decide_eq_true_iff, decide_eq_true_iff]
  constructor <;> omega
/-! comprehensions -/
@[simp] theorem RsP_oComp {vs : List Nat} {it : Iv} {tg : Tg} {tt : Tv} {el : Ev} : RsP (oComp vs it tg tt el en) PD E = RsP (it en) (fun en1 ds => RsP (compL vs tg tt el ds en1 []) PD E) E := by unfold oComp; simp only [RsP_bind]
@[simp] theorem RsP_oComp2 {vs vs1 : List Nat} {it it1 : Iv} {tg tg1 : Tg} {tt tt1 : Tv} {el : Ev} : RsP (oComp2 vs vs1 it tg tt it1 tg1 tt1 el en) PD E = RsP (it en) (fun en1 ds => RsP (compL2 vs vs1 tg tt it1 tg1 tt1 el ds en1 []) PD E) E := by unfold oComp2; simp only [RsP_bind]
@[simp] theorem RsP_tYes : RsP (tYesD en) PB E = PB en true := rfl
/-- a comprehension whose parts change nothing -/
theorem compL_pure {vs : List Nat} {tg : Tg} {tt : Tv} {el : Ev} {en en0 : En} (f : D → Option D) (hw : wipeE en vs = some en0) : ∀ (ds : List D) (acc : List D), acc.length + ds.length ≤ sizeLine →
    (∀ d ∈ ds, OpP (tg d en0) fun en1 => unw en en1 = some en ∧ RsP (tt en1) (fun en2 k => en2 = en1 ∧ if k = true then RsP (el en1) (fun en3 r => en3 = en1 ∧ DP_ r fun y => f d = some y) (fun _ _ => False) else f d = none) fun _ _ => False) →
    compL vs tg tt el ds en acc = .ok en (.list (acc ++ ds.filterMap f))
  | [], acc, _, _ => by unfold compL; simp
  | d :: ds, acc, hl, h => by
    have h1 := h d List.mem_cons_self
    have ih := fun acc' (hl' : acc'.length + ds.length ≤ sizeLine) => compL_pure f hw ds acc' hl' fun d' hd => h d' (List.mem_cons_of_mem _ hd)
    unfold compL
    rw [hw]
    dsimp only
    cases q : tg d en0 with
    | none => rw [q] at h1; exact h1.elim
    | some en1 =>
      rw [q] at h1
      obtain ⟨hu, h1⟩ := h1
      dsimp only
      cases q2 : tt en1 with
      | no => rw [q2] at h1; exact h1.elim
      | ex en2 x => rw [q2] at h1; exact h1.elim
      | ok en2 k =>
        rw [q2] at h1
        obtain ⟨rfl, h1⟩ := h1
        cases k with
        | false =>
          dsimp only
          rw [hu]
          rw [if_neg Bool.false_ne_true] at h1
          dsimp only
          rw [ih acc (by simp at hl; omega), List.filterMap_cons_none h1]
        | true =>
          rw [if_pos rfl] at h1
          dsimp only
          cases q3 : el en2 with
          | no => rw [q3] at h1; exact h1.elim
          | ex en3 x => rw [q3] at h1; exact h1.elim
          | ok en3 r =>
            rw [q3] at h1
            obtain ⟨rfl, h1⟩ := h1
            cases r with
            | s i => exact h1.elim
            | d y =>
              dsimp only
              have h1 : f d = some y := h1
              rw [if_pos (by simp at hl; omega), hu]
              dsimp only
              rw [ih (acc ++ [y]) (by simp at hl ⊢; omega), List.filterMap_cons_some h1, List.append_assoc]
              rfl
theorem RsP_compL {vs : List Nat} {tg : Tg} {tt : Tv} {el : Ev} {en0 : En} {ds : List D} (f : D → Option D) (hw : wipeE en vs = some en0) (hl : ds.length ≤ sizeLine)
    (h : ∀ d ∈ ds, OpP (tg d en0) fun en1 => unw en en1 = some en ∧ RsP (tt en1) (fun en2 k => en2 = en1 ∧ if k = true then RsP (el en1) (fun en3 r => en3 = en1 ∧ DP_ r fun y => f d = some y) (fun _ _ => False) else f d = none) fun _ _ => False)
    (p : PD en (.list (ds.filterMap f))) : RsP (compL vs tg tt el ds en []) PD E := by
  rw [compL_pure f hw ds [] (by simpa using hl) h]
  simpa using p
end
end DL
/-! Dm2: the laws' own helpers: pot, draw. -/
namespace DL
open PySem PySem.Spec L2
open PyProof.Rows hiding St
def potD (c f t : Int) : D := .list [.int c, .int f, .int t]
def big : Int := 10 ^ 240
/-- a pot, n draws at most behind it -/
def Pot (n : Nat) (p : D) : Prop := ∃ c f t, p = potD c f t ∧ 0 ≤ c ∧ c < big ∧ 0 ≤ t ∧ t ≤ n
theorem big_lt : big.natAbs < 2 ^ 800 := by
  unfold big
  decide +kernel
theorem lt_add {x y : Int} {a : Nat} (hx : x.natAbs < 2 ^ a) (hy : y.natAbs < 2 ^ a) : (x + y).natAbs < 2 ^ (a + 1) := by
  have h := Int.natAbs_add_le x y
  rw [Nat.pow_succ]
  generalize 2 ^ a = z at hx hy ⊢
  omega
theorem lt_up {x : Int} {a b : Nat} (hx : x.natAbs < 2 ^ a) (h : a ≤ b) : x.natAbs < 2 ^ b := Nat.lt_of_lt_of_le hx (Nat.pow_le_pow_right (by decide) h)
theorem wide_of {i j : Int} {a b : Nat} (ha : i.natAbs < 2 ^ a) (hb : j.natAbs < 2 ^ b) (h0 : 0 < a) (h1 : 0 < b) (h : a + b ≤ 1000000) : wideB i j = true := by
  have z := wide_mul ha hb h0 h1 h
  unfold wideB
  exact decide_eq_true z
theorem nat_lt {i : Int} {a : Nat} (h0 : 0 ≤ i) (h : i < 2 ^ a) : i.natAbs < 2 ^ a := by
  have e : (i.natAbs : Int) = i := Int.natAbs_of_nonneg h0
  have : ((i.natAbs : Nat) : Int) < ((2 ^ a : Nat) : Int) := by
    rw [e]
    push_cast
    exact h
  exact Int.ofNat_lt.mp this
theorem big_of {c : Int} (h0 : 0 ≤ c) (h : c < big) : c.natAbs < 2 ^ 800 := Nat.lt_trans (by omega) big_lt
theorem draw_spec {n : Nat} {p : D} {m : Int} (hp : Pot n p) (hn : n ≤ 1000000) (hm : 0 < m) (hm2 : m < 2 ^ 62) :
    RfP (f__law_draw [.o p, .v (.int m)]) (fun r os => ∃ i p', r = .v (.int i) ∧ os = [p'] ∧ 0 ≤ i ∧ i < m ∧ Pot (n + 1) p') (fun _ _ => False) := by
  obtain ⟨c, f, t, rfl, hc, hc2, ht, ht2⟩ := hp
  have ht3 : t + 1 < 2 ^ 62 := by omega
  have w1 : wideB 977 (t + 1) = true := wide_of (a := 10) (b := 62) (by decide) (nat_lt (by omega) ht3) (by decide) (by decide) (by decide)
  have hc3 : c.natAbs < 2 ^ 800 := big_of hc hc2
  have w2 : wideB (c + 977 * (t + 1) + 1) 48271 = true := wide_of (a := 802) (b := 16) (lt_add (lt_add hc3 (lt_up (a := 72) (nat_lt (by omega) (by omega)) (by decide))) (lt_up (a := 1) (by decide) (by decide))) (by decide) (by decide) (by decide) (by decide)
  have w3 : wideB 40692 (t + 1) = true := wide_of (a := 16) (b := 62) (by decide) (nat_lt (by omega) ht3) (by decide) (by decide) (by decide)
  have w4 : ∀ x : Int, 0 ≤ x → x < 2147483647 → wideB x x = true := fun x h0 h => wide_of (a := 31) (b := 31) (nat_lt h0 (by omega)) (nat_lt h0 (by omega)) (by decide) (by decide) (by decide)
  have w5 : ∀ x : Int, 0 ≤ x → x < 2147483647 → wideB (x + 40692 * (t + 1)) 69621 = true := fun x h0 h => wide_of (a := 80) (b := 17) (nat_lt (by omega) (by omega)) (by decide) (by decide) (by decide) (by decide)
  have lm : m.natAbs.log2 < 9000 := by
    have := PySem.Flt.log2_lt_of (n := m.natAbs) (k := 62) (by decide) (nat_lt (by omega) hm2)
    omega
  have fin : ∀ x : Int, (∃ i p', (Rr.v (PyData.int (x % m)) : Rr) = .v (.int i) ∧ [potD c f (t + 1)] = [p'] ∧ 0 ≤ i ∧ i < m ∧ Pot (n + 1) p') := fun x =>
    ⟨x % m, _, rfl, rfl, Int.emod_nonneg _ (by omega), Int.emod_lt_of_pos _ hm, c, f, t + 1, rfl, hc, hc2, by omega, by omega⟩
  refine RfP_run rfl ?_
  simp -implicitDefEqProofs [b__law_draw, startEn, arSl, potD, canPut, noAli, outsOf, ixN, -Rr.v.injEq]
  have x1 : 0 ≤ (c + 977 * (t + 1) + 1) * 48271 % 2147483647 ∧ (c + 977 * (t + 1) + 1) * 48271 % 2147483647 < 2147483647 := ⟨Int.emod_nonneg _ (by decide), Int.emod_lt_of_pos _ (by decide)⟩
  generalize (c + 977 * (t + 1) + 1) * 48271 % 2147483647 = x at x1 ⊢
  have x2 : 0 ≤ x * x % 2147483629 ∧ x * x % 2147483629 < 2147483647 := ⟨Int.emod_nonneg _ (by decide), Int.lt_trans (Int.emod_lt_of_pos _ (by decide)) (by decide)⟩
  generalize x * x % 2147483629 = y at x2 ⊢
  have l8 : Nat.log2 8 < 9000 := by decide +kernel
  have go := fin ((y + 40692 * (t + 1)) * 69621 % 2147483563 / 8)
  have v4 := w4 x x1.1 x1.2
  have v5 := w5 y x2.1 x2.2
  split
  · split
    · refine ⟨hm, ⟨hm, lm⟩, c % m, rfl, Int.emod_nonneg _ (by omega), Int.emod_lt_of_pos _ hm, _, f, _, rfl, Int.ediv_nonneg hc (by omega), Int.lt_of_le_of_lt (Int.ediv_le_self _ hc) hc2, by omega, by omega⟩
    · obtain ⟨i, p', e1, e2, g1, g2, g3⟩ := go
      cases e2
      exact ⟨w1, w2, v4, w3, v5, l8, hm, i, e1, g1, g2, g3⟩
  · obtain ⟨i, p', e1, e2, g1, g2, g3⟩ := go
    cases e2
    exact ⟨w1, w2, v4, w3, v5, l8, hm, i, e1, g1, g2, g3⟩
end DL
/-! Dm4: the laws' own helpers: same. -/
namespace DL
open PySem PySem.Spec L2
open PyProof.Rows hiding St
mutual
/-- data that same() takes: no dicts -/
def okS : D → Bool
  | .list ds => decide (ds.length ≤ sizeLine) && okSs ds
  | .tuple ds => decide (ds.length ≤ sizeLine) && okSs ds
  | .dict _ => false
  | _ => true
def okSs : List D → Bool
  | [] => true
  | d :: ds => okS d && okSs ds
end
theorem okSs_at : ∀ {ds : List D}, okSs ds = true → ∀ {i : Nat} {d : D}, ds[i]? = some d → okS d = true
  | [], _, i, d, e => by simp at e
  | x :: ds, h, 0, d, e => by
    unfold okSs at h
    rw [Bool.and_eq_true] at h
    cases e
    exact h.1
  | x :: ds, h, i + 1, d, e => by
    unfold okSs at h
    rw [Bool.and_eq_true] at h
    exact okSs_at h.2 (by simpa using e)
theorem depth_at : ∀ {ds : List D} {i : Nat} {d : D}, ds[i]? = some d → PyData.depth d ≤ PyData.depthAll ds
  | [], i, d, e => by simp at e
  | x :: ds, 0, d, e => by
    cases e
    unfold PyData.depthAll
    exact Nat.le_max_left _ _
  | x :: ds, i + 1, d, e => by
    unfold PyData.depthAll
    exact Nat.le_trans (depth_at (by simpa using e)) (Nat.le_max_right _ _)
theorem sizeLine62 : sizeLine < 2 ^ 62 := by decide +kernel
@[simp] theorem isTup_t {ds : List D} : isTup (.tuple ds) = some (.bool true) := rfl
@[simp] theorem isTup_l {ds : List D} : isTup (.list ds) = some (.bool false) := rfl
@[simp] theorem isTup_n : isTup .none = some (.bool false) := rfl
@[simp] theorem isTup_b {b : Bool} : isTup (.bool b) = some (.bool false) := rfl
@[simp] theorem isTup_i {i : Int} : isTup (.int i) = some (.bool false) := rfl
@[simp] theorem isTup_s {x : Str} : isTup (.str x) = some (.bool false) := rfl
@[simp] theorem isLst_t {ds : List D} : isLst (.tuple ds) = some (.bool false) := rfl
@[simp] theorem isLst_l {ds : List D} : isLst (.list ds) = some (.bool true) := rfl
@[simp] theorem isLst_n : isLst .none = some (.bool false) := rfl
@[simp] theorem isLst_b {b : Bool} : isLst (.bool b) = some (.bool false) := rfl
@[simp] theorem isLst_i {i : Int} : isLst (.int i) = some (.bool false) := rfl
@[simp] theorem isLst_s {x : Str} : isLst (.str x) = some (.bool false) := rfl
@[simp] theorem isInt_t {ds : List D} : isInt (.tuple ds) = some (.bool false) := rfl
@[simp] theorem isInt_l {ds : List D} : isInt (.list ds) = some (.bool false) := rfl
@[simp] theorem isInt_n : isInt .none = some (.bool false) := rfl
@[simp] theorem isInt_b {b : Bool} : isInt (.bool b) = some (.bool true) := rfl
@[simp] theorem isInt_i {i : Int} : isInt (.int i) = some (.bool true) := rfl
@[simp] theorem isInt_s {x : Str} : isInt (.str x) = some (.bool false) := rfl
@[simp] theorem isBool_t {ds : List D} : isBool (.tuple ds) = some (.bool false) := rfl
@[simp] theorem isBool_l {ds : List D} : isBool (.list ds) = some (.bool false) := rfl
@[simp] theorem isBool_n : isBool .none = some (.bool false) := rfl
@[simp] theorem isBool_b {b : Bool} : isBool (.bool b) = some (.bool true) := rfl
@[simp] theorem isBool_i {i : Int} : isBool (.int i) = some (.bool false) := rfl
@[simp] theorem isBool_s {x : Str} : isBool (.str x) = some (.bool false) := rfl
@[simp] theorem isStr_t {ds : List D} : isStr (.tuple ds) = some (.bool false) := rfl
@[simp] theorem isStr_l {ds : List D} : isStr (.list ds) = some (.bool false) := rfl
@[simp] theorem isStr_n : isStr .none = some (.bool false) := rfl
@[simp] theorem isStr_b {b : Bool} : isStr (.bool b) = some (.bool false) := rfl
@[simp] theorem isStr_i {i : Int} : isStr (.int i) = some (.bool false) := rfl
@[simp] theorem isStr_s {x : Str} : isStr (.str x) = some (.bool true) := rfl
def Yes (r : Rf) : Prop := RfP r (fun r os => r = .v (.bool true) ∧ os = []) fun _ _ => False
theorem Yes.eq {r : Rf} (h : Yes r) : r = .ok (.v (.bool true)) [] := by
  unfold Yes at h
  obtain ⟨x, os, e, rfl, rfl⟩ := h.ok
  exact e
theorem all_true (n : Nat) (ds : List D) (h : ∀ d ∈ ds, d = .bool true) : sAll [.list ds] = some (.bool true) := by
  unfold sAll
  have : ∃ bs, boolsD ds = some bs ∧ bs.all id = true := by
    induction ds with
    | nil => exact ⟨[], rfl, rfl⟩
    | cons d ds ih =>
      obtain ⟨bs, e1, e2⟩ := ih fun d' hd => h d' (List.mem_cons_of_mem _ hd)
      have := h d List.mem_cons_self
      subst this
      exact ⟨true :: bs, by show (boolsD ds).map _ = _; rw [e1]; rfl, by simpa using e2⟩
  obtain ⟨bs, e1, e2⟩ := this
  show Option.map _ (boolsD ds) = _
  rw [e1]
  simp [e2]
theorem same_ok : ∀ (n : Nat) (d : D), PyData.depth d < n → okS d = true → Yes (f__law_same n [.v d, .v d])
  | 0, d, h, _ => absurd h (Nat.not_lt_zero _)
  | n + 1, d, h, ok => by
    have seq : ∀ ds : List D, PyData.depthAll ds + 1 < n + 1 → ds.length ≤ sizeLine → okSs ds = true → ∀ mk : List D → D, (mk = .list ∨ mk = .tuple) → d = mk ds → Yes (f__law_same (n + 1) [.v d, .v d]) := fun ds hd hl ho mk hmk e => by
      subst e
      refine RfP_run rfl ?_
      have hz := sizeLine62
      have hs : small (ds.length : Int) = true := small_n (by omega)
      rcases hmk with rfl | rfl
      all_goals
        simp -implicitDefEqProofs [b__law_same, startEn, arSl, outsOf, hs]
        refine RsP_compL (fun _ => some (.bool true)) rfl (by simp [rng]; exact hl) (fun d' hd' => ?_) ?_
        · obtain ⟨i, hi, rfl⟩ := List.mem_map.mp hd'
          have hi' : i < ds.length := by simpa using hi
          have e1 := List.getElem?_eq_getElem hi'
          have y := same_ok n ds[i] (Nat.lt_of_le_of_lt (depth_at e1) (by omega)) (okSs_at ho e1)
          simp -implicitDefEqProofs [tgName, canPut, noAli, unw, atI_n, e1, CallP, y.eq, RfP]
        · simp -implicitDefEqProofs
          rw [all_true 0]
          · simp
          · intro d' hd'
            obtain ⟨x, _, hx⟩ := List.mem_map.mp hd'
            exact hx.symm
    cases d with
    | none => 
      refine RfP_run rfl ?_
      simp -implicitDefEqProofs [b__law_same, startEn, arSl, outsOf]
    | bool b =>
      refine RfP_run rfl ?_
      simp -implicitDefEqProofs [b__law_same, startEn, arSl, outsOf]
    | int i =>
      refine RfP_run rfl ?_
      simp -implicitDefEqProofs [b__law_same, startEn, arSl, outsOf]
    | str x =>
      refine RfP_run rfl ?_
      simp -implicitDefEqProofs [b__law_same, startEn, arSl, outsOf]
    | list ds =>
      unfold okS at ok
      rw [Bool.and_eq_true, decide_eq_true_iff] at ok
      exact seq ds (by unfold PyData.depth at h; omega) ok.1 ok.2 _ (.inl rfl) rfl
    | tuple ds =>
      unfold okS at ok
      rw [Bool.and_eq_true, decide_eq_true_iff] at ok
      exact seq ds (by unfold PyData.depth at h; omega) ok.1 ok.2 _ (.inr rfl) rfl
    | dict kvs => cases ok
end DL
/-! Dm5: histories as data; the program's checks. -/
namespace DL
open PySem PySem.Spec L2
open PyProof.Rows hiding St
structure Op where
  client : Int
  start : Int
  stop : Option Int
  name : Str
  arg : Option Int
  res : Option Int
def optD : Option Int → D
  | none => .none
  | some i => .int i
@[simp] theorem optD_n : optD none = .none := rfl
@[simp] theorem optD_s {i : Int} : optD (some i) = .int i := rfl
@[simp] theorem RfP_ok {r : Rr} {os : List D} {P : Rr → List D → Prop} {E : Ex → List D → Prop} : RfP (.ok r os) P E = P r os := rfl
@[simp] theorem RfP_ex {x : Ex} {os : List D} {P : Rr → List D → Prop} {E : Ex → List D → Prop} : RfP (.ex x os) P E = E x os := rfl
def Op.enc (o : Op) : D := .tuple [.int o.client, .int o.start, optD o.stop, .str o.name, optD o.arg, optD o.res]
def encH (h : List Op) : D := .tuple (h.map Op.enc)
def nameOk (x : Str) : Prop := f_is_name [.v (.str x)] = .ok (.v (.bool true)) []
structure Op.Ok (o : Op) : Prop where
  client : 0 ≤ o.client
  stop : ∀ e, o.stop = some e → o.start ≤ e
  res : o.stop = none → o.res = none
  name : nameOk o.name
theorem is_integer_i (i : Int) : f_is_integer [.v (.int i)] = .ok (.v (.bool true)) [] := rfl
theorem is_from_i (a b : Int) : f_is_from [.v (.int a), .v (.int b)] = .ok (.v (.bool (decide (b ≥ a)))) [] := rfl
theorem is_optional_i (o : Option Int) : f_is_optional [.v (optD o)] = .ok (.v (.bool true)) [] := by cases o <;> rfl
theorem is_optional_n : f_is_optional [.v .none] = .ok (.v (.bool true)) [] := rfl
theorem is_tuple6 (a b c d e f : D) : f_is_tuple_of [.v (.int 6), .v (.tuple [a, b, c, d, e, f])] = .ok (.v (.bool true)) [] := rfl
theorem is_operation_ok {o : Op} (h : o.Ok) : f_is_operation [.v o.enc] = .ok (.v (.bool true)) [] := by
  obtain ⟨h1, h2, h3, h4⟩ := h
  obtain ⟨cl, st, sp, nm, ar, rs⟩ := o
  simp only at h1 h2 h3 h4
  refine Yes.eq (RfP_run rfl ?_)
  have h4 : f_is_name [.v (.str nm)] = .ok (.v (.bool true)) [] := h4
  cases sp with
  | none =>
    have e := h3 rfl
    subst e
    simp -implicitDefEqProofs [b_is_operation, startEn, arSl, outsOf, Op.enc, CallP, is_tuple6, is_from_i, is_integer_i, is_optional_i, is_optional_n, canPut, noAli, h1, h4]
  | some e =>
    simp -implicitDefEqProofs [b_is_operation, startEn, arSl, outsOf, Op.enc, CallP, is_tuple6, is_from_i, is_integer_i, is_optional_i, is_optional_n, canPut, noAli, h1, h4, h2]
/-- a slot that may be set -/
def Pl (s : Sl) : Prop := s = .un ∨ ∃ d, s = .val d
theorem numbered_at {ds : List D} {i : Nat} {d : D} (h : (numbered 0 ds)[i]? = some d) : ∃ x, ds[i]? = some x ∧ d = .tuple [.int (i : Nat), x] := by
  rw [numbered_get] at h
  cases e : ds[i]? with
  | none => rw [e] at h; cases h
  | some x =>
    rw [e] at h
    cases h
    exact ⟨x, rfl, by rw [Nat.zero_add]⟩
@[simp] theorem itEnum_t {ds : List D} : itEnum (.tuple ds) = some (numbered 0 ds) := rfl
@[simp] theorem itEnum_l {ds : List D} : itEnum (.list ds) = some (numbered 0 ds) := rfl
@[simp] theorem itAll_t {ds : List D} : itAll (.tuple ds) = some ds := rfl
@[simp] theorem itAll_l {ds : List D} : itAll (.list ds) = some ds := rfl
def Gives (r : Rf) (d : D) : Prop := RfP r (fun r os => r = .v d ∧ os = []) fun _ _ => False
theorem Gives.eq {r : Rf} {d : D} (h : Gives r d) : r = .ok (.v d) [] := by
  unfold Gives at h
  obtain ⟨x, os, e, rfl, rfl⟩ := h.ok
  exact e
theorem fault_ok {h : List Op} (ok : ∀ o ∈ h, o.Ok) : f_history_fault [.v (encH h)] = .ok (.v .none) [] := by
  refine Gives.eq (RfP_run rfl ?_)
  simp -implicitDefEqProofs [b_history_fault, startEn, arSl, outsOf, encH]
  refine OutP_forL _ (fun _ en => ∃ a b, en = [.val (.tuple (h.map Op.enc)), a, b] ∧ Pl a ∧ Pl b) _ ⟨_, _, rfl, .inl rfl, .inl rfl⟩ (fun i d en e hI => ?_) fun en hI => ?_
  · obtain ⟨a, b, rfl, ha, hb⟩ := hI
    obtain ⟨x, e1, rfl⟩ := numbered_at e
    obtain ⟨o, ho, rfl⟩ := List.mem_map.mp (List.mem_of_getElem? e1)
    rcases ha with rfl | ⟨a, rfl⟩ <;> rcases hb with rfl | ⟨b, rfl⟩ <;>
      (simp -implicitDefEqProofs [tgTup, tgCons, tgNil, tgName, putS, canPut, noAli, outsOf, CallP, is_operation_ok (ok o ho)]; exact ⟨_, _, ⟨rfl, rfl⟩, .inr ⟨_, rfl⟩, .inr ⟨_, rfl⟩⟩)
  · obtain ⟨a, b, rfl, ha, hb⟩ := hI
    simp -implicitDefEqProofs [outsOf]
theorem check_ok {h : List Op} (ok : ∀ o ∈ h, o.Ok) : f_check_history [.v (encH h)] = .ok (.v .none) [] := by
  refine Gives.eq (RfP_run rfl ?_)
  simp -implicitDefEqProofs [b_check_history, startEn, arSl, outsOf, CallP, fault_ok ok, canPut, noAli]
/-- one ends ahead of the other's start -/
def bef (a b : Op) : Bool := match a.stop with
  | some e => decide (e < b.start)
  | none => false
end DL
/-! Dm6: comprehensions of two clauses, run; the program's looks at pairs. -/
namespace DL
open PySem PySem.Spec L2
open PyProof.Rows hiding St
theorem compIn_pure {vs : List Nat} {tg : Tg} {tt : Tv} {el : Ev} {en en0 : En} (f : D → Option D) (hw : wipeE en vs = some en0) : ∀ (ds : List D) (acc : List D), acc.length + (ds.filterMap f).length ≤ sizeLine →
    (∀ d ∈ ds, OpP (tg d en0) fun en1 => unw en en1 = some en ∧ RsP (tt en1) (fun en2 k => en2 = en1 ∧ if k = true then RsP (el en1) (fun en3 r => en3 = en1 ∧ DP_ r fun y => f d = some y) (fun _ _ => False) else f d = none) fun _ _ => False) →
    compIn vs tg tt el ds en acc = .ok en (acc ++ ds.filterMap f)
  | [], acc, _, _ => by unfold compIn; simp
  | d :: ds, acc, hl, h => by
    have h1 := h d List.mem_cons_self
    have ih := fun acc' (hl' : acc'.length + (ds.filterMap f).length ≤ sizeLine) => compIn_pure f hw ds acc' hl' fun d' hd => h d' (List.mem_cons_of_mem _ hd)
    unfold compIn
    rw [hw]
    dsimp only
    cases q : tg d en0 with
    | none => rw [q] at h1; exact h1.elim
    | some en1 =>
      rw [q] at h1
      obtain ⟨hu, h1⟩ := h1
      dsimp only
      cases q2 : tt en1 with
      | no => rw [q2] at h1; exact h1.elim
      | ex en2 x => rw [q2] at h1; exact h1.elim
      | ok en2 k =>
        rw [q2] at h1
        obtain ⟨rfl, h1⟩ := h1
        cases k with
        | false =>
          dsimp only
          rw [hu]
          rw [if_neg Bool.false_ne_true] at h1
          dsimp only
          rw [List.filterMap_cons_none h1] at hl
          rw [ih acc hl, List.filterMap_cons_none h1]
        | true =>
          rw [if_pos rfl] at h1
          dsimp only
          cases q3 : el en2 with
          | no => rw [q3] at h1; exact h1.elim
          | ex en3 x => rw [q3] at h1; exact h1.elim
          | ok en3 r =>
            rw [q3] at h1
            obtain ⟨rfl, h1⟩ := h1
            cases r with
            | s i => exact h1.elim
            | d y =>
              dsimp only
              have h1 : f d = some y := h1
              rw [List.filterMap_cons_some h1, List.length_cons] at hl
              rw [if_pos (by omega), hu]
              dsimp only
              rw [ih (acc ++ [y]) (by rw [List.length_append]; simp; omega), List.filterMap_cons_some h1, List.append_assoc]
              rfl
theorem compL2_pure {vs vs1 : List Nat} {tg tg1 : Tg} {tt tt1 : Tv} {it1 : Iv} {el : Ev} {en en0 : En} (f : D → List D) (hw : wipeE en vs = some en0) : ∀ (ds : List D) (acc : List D), acc.length + (ds.flatMap f).length ≤ sizeLine →
    (∀ d ∈ ds, OpP (tg d en0) fun en1 => unw en en1 = some en ∧ ownSub en en1 = true ∧ RsP (tt en1) (fun en2 k => en2 = en1 ∧ if k = true then RsP (it1 en1) (fun en3 ds1 => en3 = en1 ∧ ∃ (g : D → Option D) (enb : En), f d = ds1.filterMap g ∧ wipeE en1 vs1 = some enb ∧
      ∀ d1 ∈ ds1, OpP (tg1 d1 enb) fun en4 => unw en1 en4 = some en1 ∧ RsP (tt1 en4) (fun en5 k => en5 = en4 ∧ if k = true then RsP (el en4) (fun en6 r => en6 = en4 ∧ DP_ r fun y => g d1 = some y) (fun _ _ => False) else g d1 = none) fun _ _ => False) (fun _ _ => False) else f d = []) fun _ _ => False) →
    compL2 vs vs1 tg tt it1 tg1 tt1 el ds en acc = .ok en (.list (acc ++ ds.flatMap f))
  | [], acc, _, _ => by unfold compL2; simp
  | d :: ds, acc, hl, h => by
    have h1 := h d List.mem_cons_self
    have ih := fun acc' (hl' : acc'.length + (ds.flatMap f).length ≤ sizeLine) => compL2_pure f hw ds acc' hl' fun d' hd => h d' (List.mem_cons_of_mem _ hd)
    unfold compL2
    rw [hw]
    dsimp only
    rw [List.flatMap_cons, List.length_append] at hl
    cases q : tg d en0 with
    | none => rw [q] at h1; exact h1.elim
    | some en1 =>
      rw [q] at h1
      obtain ⟨hu, ho, h1⟩ := h1
      dsimp only
      cases q2 : tt en1 with
      | no => rw [q2] at h1; exact h1.elim
      | ex en2 x => rw [q2] at h1; exact h1.elim
      | ok en2 k =>
        rw [q2] at h1
        obtain ⟨rfl, h1⟩ := h1
        cases k with
        | false =>
          rw [if_neg Bool.false_ne_true] at h1
          dsimp only
          rw [hu]
          dsimp only
          rw [h1] at hl
          rw [ih acc (by simpa using hl), List.flatMap_cons, h1, List.nil_append]
        | true =>
          rw [if_pos rfl] at h1
          dsimp only
          cases q3 : it1 en2 with
          | no => rw [q3] at h1; exact h1.elim
          | ex en3 x => rw [q3] at h1; exact h1.elim
          | ok en3 ds1 =>
            rw [q3] at h1
            obtain ⟨rfl, g, enb, e1, e2, h1⟩ := h1
            dsimp only
            rw [if_pos ho, hu]
            dsimp only
            rw [e1] at hl
            rw [compIn_pure g e2 ds1 acc (by omega) h1]
            dsimp only
            rw [hu]
            dsimp only
            rw [ih _ (by rw [List.length_append]; omega), List.flatMap_cons, e1, List.append_assoc]
theorem RsP_compL2 {vs vs1 : List Nat} {tg tg1 : Tg} {tt tt1 : Tv} {it1 : Iv} {el : Ev} {en en0 : En} {ds : List D} {PD : En → D → Prop} {E : En → Ex → Prop} (f : D → List D) (hw : wipeE en vs = some en0) (hl : (ds.flatMap f).length ≤ sizeLine)
    (h : ∀ d ∈ ds, OpP (tg d en0) fun en1 => unw en en1 = some en ∧ ownSub en en1 = true ∧ RsP (tt en1) (fun en2 k => en2 = en1 ∧ if k = true then RsP (it1 en1) (fun en3 ds1 => en3 = en1 ∧ ∃ (g : D → Option D) (enb : En), f d = ds1.filterMap g ∧ wipeE en1 vs1 = some enb ∧
      ∀ d1 ∈ ds1, OpP (tg1 d1 enb) fun en4 => unw en1 en4 = some en1 ∧ RsP (tt1 en4) (fun en5 k => en5 = en4 ∧ if k = true then RsP (el en4) (fun en6 r => en6 = en4 ∧ DP_ r fun y => g d1 = some y) (fun _ _ => False) else g d1 = none) fun _ _ => False) (fun _ _ => False) else f d = []) fun _ _ => False)
    (p : PD en (.list (ds.flatMap f))) : RsP (compL2 vs vs1 tg tt it1 tg1 tt1 el ds en []) PD E := by
  rw [compL2_pure f hw ds [] (by simpa using hl) h]
  simpa using p

/-! ### indexes -/
def idx (n : Nat) (d : D) : Bool := match d with
  | .int i => decide (0 ≤ i) && decide (i < n)
  | _ => false
theorem len_H (h : List Op) : (h.map Op.enc).length = h.length := List.length_map _
/-- the pairs -/
def befs (h : List Op) : List D := (rng h.length).flatMap fun i => (rng h.length).filterMap fun j => match i, j with
  | .int i, .int j => (match h[i.toNat]?, h[j.toNat]? with
    | some a, some b => if bef a b = true then some (.tuple [.int i, .int j]) else none
    | _, _ => none)
  | _, _ => none
end DL
/-! Dm7: the program's lists. -/
namespace DL
open PySem PySem.Spec L2
open PyProof.Rows hiding St
theorem rng_at {n : Nat} {d : D} (h : d ∈ rng (n : Int)) : ∃ i : Nat, i < n ∧ d = .int (i : Int) := by
  unfold rng at h
  obtain ⟨i, hi, rfl⟩ := List.mem_map.mp h
  exact ⟨i, by simpa using hi, by rw [Int.zero_add]⟩
theorem rng_len (n : Nat) : (rng (n : Int)).length = n := by simp [rng]
theorem filterMap_le {f : D → Option D} : ∀ ds : List D, (ds.filterMap f).length ≤ ds.length
  | [] => by simp
  | d :: ds => by
    have := filterMap_le (f := f) ds
    cases e : f d with
    | none => rw [List.filterMap_cons_none e]; simp; omega
    | some y => rw [List.filterMap_cons_some e]; simp; omega
theorem flatMap_le {f : D → List D} {m : Nat} (h : ∀ d, (f d).length ≤ m) : ∀ ds : List D, (ds.flatMap f).length ≤ ds.length * m
  | [] => by simp
  | d :: ds => by
    have := flatMap_le h ds
    have h1 := h d
    rw [List.flatMap_cons, List.length_append, List.length_cons, Nat.succ_mul]
    omega
theorem befs_len (h : List Op) (hl : h.length ≤ 64) : (befs h).length ≤ 4096 := by
  unfold befs
  have := flatMap_le (f := fun i => (rng h.length).filterMap fun j => match i, j with
    | .int i, .int j => (match h[i.toNat]?, h[j.toNat]? with
      | some a, some b => if bef a b = true then some (.tuple [.int i, .int j]) else none
      | _, _ => none)
    | _, _ => none) (m := 64) (fun d => Nat.le_trans (filterMap_le _) (by rw [rng_len]; exact hl)) (rng h.length)
  rw [rng_len] at this
  exact Nat.le_trans this (by have := Nat.mul_le_mul_right 64 hl; omega)
theorem sizeLine_big : 10000 ≤ sizeLine := by rw [sizeLine_eq]; omega
/-! open ones -/
/-- over enumerate, over the indexes -/
theorem enum_idx {h : List Op} {f g : D → Option D} (hfg : ∀ (i : Nat) (o : Op), h[i]? = some o → f (.tuple [.int (i : Nat), o.enc]) = g (.int (i : Nat))) : (numbered 0 (h.map Op.enc)).filterMap f = (rng h.length).filterMap g := by
  have key : ∀ (l : List Op) (k : Nat), (∀ (i : Nat) (o : Op), l[i]? = some o → f (.tuple [.int ((k + i : Nat) : Int), o.enc]) = g (.int ((k + i : Nat) : Int))) → (numbered k (l.map Op.enc)).filterMap f = ((List.range l.length).map fun i => PyData.int ((k + i : Nat) : Int)).filterMap g := by
    intro l
    induction l with
    | nil => intro k _; simp [numbered]
    | cons o l ih =>
      intro k hk
      have h0 := hk 0 o rfl
      rw [Nat.add_zero] at h0
      have ih2 := ih (k + 1) fun i o' e => by
        have := hk (i + 1) o' (by simpa using e)
        rw [show k + 1 + i = k + (i + 1) by omega]
        exact this
      rw [List.map_cons, List.length_cons, List.range_succ_eq_map]
      unfold numbered
      have e3 : (fun i => PyData.int ((k + i : Nat) : Int)) ∘ Nat.succ = fun i => PyData.int ((k + 1 + i : Nat) : Int) := by
        funext i
        simp only [Function.comp_apply, Nat.succ_eq_add_one]
        rw [show k + (i + 1) = k + 1 + i by omega]
      rw [List.map_cons, List.map_map, e3]
      cases q : g (.int ((k + 0 : Nat) : Int)) with
      | none =>
        rw [List.filterMap_cons_none (by rw [h0]; exact q), List.filterMap_cons_none q, ih2]
      | some y =>
        rw [List.filterMap_cons_some (by rw [h0]; exact q), List.filterMap_cons_some q, ih2]
  have := key h 0 fun i o e => by
    rw [Nat.zero_add]
    exact hfg i o e
  rw [this]
  unfold rng
  simp
theorem num_len {h : List Op} : (numbered 0 (h.map Op.enc)).length = h.length := by rw [numbered_len, List.length_map]
theorem num_mem {h : List Op} {d : D} (hd : d ∈ numbered 0 (h.map Op.enc)) : ∃ (i : Nat) (o : Op), h[i]? = some o ∧ d = .tuple [.int (i : Nat), o.enc] := by
  obtain ⟨i, hi⟩ := List.mem_iff_getElem?.mp hd
  obtain ⟨x, e1, rfl⟩ := numbered_at hi
  rw [List.getElem?_map] at e1
  cases q : h[i]? with
  | none => rw [q] at e1; cases e1
  | some o =>
    rw [q] at e1
    cases e1
    exact ⟨i, o, q, rfl⟩
/-- what enumerate's turns give, by the operation -/
def byOp (h : List Op) (p : Op → Bool) (d : D) : Option D := match d with
  | .tuple [.int i, _] => (match h[i.toNat]? with
    | some o => if p o = true then some (.int i) else none
    | none => none)
  | _ => none
def byIdx (h : List Op) (p : Op → Bool) (d : D) : Option D := match d with
  | .int i => (match h[i.toNat]? with
    | some o => if p o = true then some (.int i) else none
    | none => none)
  | _ => none
def sel (h : List Op) (p : Op → Bool) : List D := (rng h.length).filterMap (byIdx h p)
theorem sel_eq {h : List Op} {p : Op → Bool} : (numbered 0 (h.map Op.enc)).filterMap (byOp h p) = sel h p := enum_idx fun i o e => by simp [byOp, byIdx]
theorem enc_stop (o : Op) : sIs (optD o.stop) .none = some (.bool (decide (o.stop = none))) := by
  cases o.stop <;> rfl
theorem indexes_ok {h : List Op} (hl : h.length ≤ 64) (c : Int) : f_indexes_of_client [.v (encH h), .v (.int c)] = .ok (.v (.list (sel h fun o => o.client == c))) [] := by
  have hz := sizeLine_big
  rw [← sel_eq]
  refine Gives.eq ?_
  generalize hx : encH h = x
  refine RfP_run rfl ?_
  subst hx
  simp -implicitDefEqProofs [b_indexes_of_client, startEn, arSl, outsOf, encH]
  refine RsP_compL (byOp h fun o => o.client == c) rfl (by rw [num_len]; omega) (fun d hd => ?_) ?_
  · obtain ⟨i, o, e, rfl⟩ := num_mem hd
    simp -implicitDefEqProofs [tgTup, tgCons, tgNil, tgName, putS, canPut, noAli, unw, Op.enc, c_CLIENT, byOp, e]
  · simp -implicitDefEqProofs [outsOf]
/-! first overlap of a client's own -/
/-- i and j overlap -/
def ovl (h : List Op) (i j : Nat) : Bool := match h[i]?, h[j]? with
  | some a, some b => !bef a b && !bef b a
  | _, _ => false
def badAt (h : List Op) (i : Nat) : Bool := match h[i]? with
  | some o => (List.range i).any fun j => (match h[j]? with
    | some p => p.client == o.client && ovl h j i
    | none => false)
  | none => false
def seqOk (h : List Op) : Bool := (List.range h.length).all fun i => !badAt h i
theorem sel_mem {h : List Op} {p : Op → Bool} {d : D} (hd : d ∈ sel h p) : ∃ (i : Nat) (o : Op), h[i]? = some o ∧ p o = true ∧ d = .int (i : Nat) := by
  unfold sel at hd
  obtain ⟨x, hx, e⟩ := List.mem_filterMap.mp hd
  obtain ⟨i, hi, rfl⟩ := rng_at hx
  unfold byIdx at e
  simp only [Int.toNat_natCast] at e
  cases q : h[i]? with
  | none => rw [q] at e; cases e
  | some o =>
    rw [q] at e
    dsimp only at e
    split at e
    · rename_i hp
      cases e
      exact ⟨i, o, q, hp, rfl⟩
    · cases e
theorem mem_sel {h : List Op} {p : Op → Bool} {i : Nat} {o : Op} (e : h[i]? = some o) (hp : p o = true) : PyData.int (i : Nat) ∈ sel h p := by
  unfold sel
  have hi := (List.getElem?_eq_some_iff.mp e).1
  refine List.mem_filterMap.mpr ⟨.int (i : Nat), ?_, ?_⟩
  · unfold rng
    refine List.mem_map.mpr ⟨i, by simpa using hi, by rw [Int.zero_add]⟩
  · simp [byIdx, e, hp]
end DL
/-! Dm8: is_sequential, clients_of. -/
namespace DL
open PySem PySem.Spec L2
open PyProof.Rows hiding St
theorem cutD_to {xs : List D} {k : Nat} : cutD xs none (some (k : Int)) = xs.take k := by
  unfold cutD
  rw [HT.sIx_none, HT.sIx_nat, List.drop_zero, Nat.sub_zero]
  rcases Nat.le_total k xs.length with h | h
  · rw [Nat.min_eq_left h]
  · rw [Nat.min_eq_right h, List.take_of_length_le h, List.take_of_length_le (Nat.le_refl _)]
@[simp] theorem sSl_t {lo hi : Option Int} {ds : List D} : sSl lo hi (.tuple ds) = some (.tuple (cutD ds lo hi)) := rfl
@[simp] theorem sSl_l {lo hi : Option Int} {ds : List D} : sSl lo hi (.list ds) = some (.list (cutD ds lo hi)) := rfl
theorem cut_H {h : List Op} {k : Nat} : PyData.tuple (cutD (h.map Op.enc) none (some (k : Int))) = encH (h.take k) := by
  rw [cutD_to, ← List.map_take]
  rfl
theorem sl_H {h : List Op} {k : Nat} : sSl none (some (k : Int)) (encH h) = some (encH (h.take k)) := by
  show some (PyData.tuple (cutD (h.map Op.enc) none (some (k : Int)))) = _
  rw [cut_H]
theorem enc_client (o : Op) : sIx o.enc (.int 0) = some (.int o.client) := rfl
end DL
/-! Dm9: clients_of. -/
namespace DL
open PySem PySem.Spec L2
open PyProof.Rows hiding St
theorem putP_len (ps : List (D × D)) (k d : D) : (putP ps k d).length ≤ ps.length + 1 := by
  unfold putP
  split
  · rw [List.length_map]; omega
  · simp
theorem compD_pure {vs : List Nat} {tg : Tg} {tt : Tv} {ek ev : Ev} {en en0 : En} (fk fv : D → D) (hw : wipeE en vs = some en0) : ∀ (ds : List D) (acc : List (D × D)), acc.length + ds.length ≤ sizeLine →
    (∀ d ∈ ds, OpP (tg d en0) fun en1 => unw en en1 = some en ∧ tt en1 = .ok en1 true ∧ ek en1 = .ok en1 (.d (fk d)) ∧ (keyOf (fk d)).isSome = true ∧ ev en1 = .ok en1 (.d (fv d))) →
    compD vs tg tt ek ev ds en acc = .ok en (.dict (ds.foldl (fun a d => putP a (fk d) (fv d)) acc))
  | [], acc, _, _ => by unfold compD; rfl
  | d :: ds, acc, hl, h => by
    have h1 := h d List.mem_cons_self
    have hp := putP_len acc (fk d) (fv d)
    rw [List.length_cons] at hl
    have ih := compD_pure (tt := tt) fk fv hw ds (putP acc (fk d) (fv d)) (by omega) fun d' hd => h d' (List.mem_cons_of_mem _ hd)
    unfold compD
    rw [hw]
    dsimp only
    cases q : tg d en0 with
    | none => rw [q] at h1; exact h1.elim
    | some en1 =>
      rw [q] at h1
      obtain ⟨hu, e1, e2, e3, e4⟩ := h1
      dsimp only
      rw [e1]
      dsimp only
      rw [e2]
      dsimp only
      cases q2 : keyOf (fk d) with
      | none => rw [q2] at e3; cases e3
      | some k =>
        dsimp only
        rw [e4]
        dsimp only
        rw [if_pos (by omega), hu]
        dsimp only
        rw [ih]
        rfl
/-- the keys that are met -/
def keysF (ns : List Int) : List (D × D) := ns.map fun n => (.int n, .bool true)
theorem put_keys (ns : List Int) (c : Int) : putP (keysF ns) (.int c) (.bool true) = keysF (if c ∈ ns then ns else ns ++ [c]) := by
  have ha : ((keysF ns).any fun q => keyEq q.1 (.int c)) = decide (c ∈ ns) := by
    unfold keysF
    rw [Bool.eq_iff_iff, List.any_eq_true, decide_eq_true_iff]
    constructor
    · rintro ⟨q, hq, e⟩
      obtain ⟨n, hn, rfl⟩ := List.mem_map.mp hq
      have : n = c := by simpa [keyEq] using e
      exact this ▸ hn
    · intro hc
      exact ⟨_, List.mem_map.mpr ⟨c, hc, rfl⟩, by simp [keyEq]⟩
  unfold putP
  rw [ha]
  by_cases h : c ∈ ns
  · rw [if_pos (decide_eq_true h), if_pos h]
    unfold keysF
    rw [List.map_map]
    refine List.map_congr_left fun n _ => ?_
    simp only [Function.comp_apply]
    split <;> rfl
  · rw [if_neg (by simp [h]), if_neg h]
    unfold keysF
    simp
theorem fold_keys : ∀ (h : List Op) (ns : List Int), ns.Nodup → ∃ ms : List Int, ((h.map Op.enc).foldl (fun a d => putP a ((sIx d (.int 0)).getD .none) (.bool true)) (keysF ns)) = keysF ms ∧ ms.Nodup ∧ (∀ k, k ∈ ms ↔ k ∈ ns ∨ k ∈ h.map Op.client) ∧ ms.length ≤ ns.length + h.length
  | [], ns, hn => ⟨ns, rfl, hn, fun k => by simp, by simp⟩
  | o :: h, ns, hn => by
    rw [List.map_cons, List.foldl_cons]
    rw [enc_client]
    rw [Option.getD_some, put_keys]
    obtain ⟨ms, e1, e2, e3, e4⟩ := fold_keys h (if o.client ∈ ns then ns else ns ++ [o.client]) (by
      split
      · exact hn
      · rename_i hc
        rw [List.nodup_append]
        exact ⟨hn, by simp, fun a ha b hb => by
          simp at hb
          subst hb
          intro z
          subst z
          exact hc ha⟩)
    refine ⟨ms, e1, e2, fun k => ?_, ?_⟩
    · rw [e3, List.map_cons, List.mem_cons]
      split
      · rename_i hc
        constructor
        · rintro (z | z)
          · exact .inl z
          · exact .inr (.inr z)
        · rintro (z | z | z)
          · exact .inl z
          · exact .inl (z ▸ hc)
          · exact .inr z
      · rw [List.mem_append, List.mem_singleton]
        constructor
        · rintro ((z | z) | z)
          · exact .inl z
          · exact .inr (.inl z)
          · exact .inr (.inr z)
        · rintro (z | z | z)
          · exact .inl (.inl z)
          · exact .inl (.inr z)
          · exact .inr z
    · split at e4
      · rw [List.length_cons]; omega
      · rw [List.length_append] at e4
        simp at e4 ⊢
        omega
theorem sort_uniq {ms cs : List Int} (hn : ms.Nodup) (hm : ∀ k, k ∈ ms ↔ k ∈ cs) : (ms.mergeSort fun a b => decide (a ≤ b)) = uniq cs := by
  have hp := List.mergeSort_perm ms fun a b => decide (a ≤ b)
  have hs : (ms.mergeSort fun a b => decide (a ≤ b)).Pairwise (fun a b => decide (a ≤ b) = true) := List.pairwise_mergeSort (fun a b c h1 h2 => by simp at h1 h2 ⊢; omega) (fun a b => by simp; omega) ms
  have hd : (ms.mergeSort fun a b => decide (a ≤ b)).Nodup := hp.nodup_iff.mpr hn
  refine lt_unique ?_ (uniq_lt cs) fun k => by rw [hp.mem_iff, hm, uniq_mem]
  have := List.Pairwise.and hs hd
  exact this.imp fun ⟨h1, h2⟩ => by
    have h1 := of_decide_eq_true h1
    have h2 : ¬ _ = _ := h2
    omega
theorem intsD_keys (ms : List Int) : intsD ((keysF ms).map (·.1)) = some ms := by
  have : (keysF ms).map (·.1) = ms.map PyData.int := by
    unfold keysF
    rw [List.map_map]
    rfl
  rw [this, intsD_map]
end DL
/-! Dm10: the laws' own helpers: pot, stretch, first, odd. -/
namespace DL
open PySem PySem.Spec L2
open PyProof.Rows hiding St
def scrD (ns : List Int) : D := .dict [(.none, .list (ns.map .int))]
def bigE : Ev := dOp sMul (dOp sMul (dOp sMul (dOp sPow (dC (.int 10)) (dC (.int 60))) (dOp sPow (dC (.int 10)) (dC (.int 60)))) (dOp sPow (dC (.int 10)) (dC (.int 60)))) (dOp sPow (dC (.int 10)) (dC (.int 60)))
theorem pow60 : sPow (.int 10) (.int 60) = some (.int (10 ^ 60)) := by
  rw [sPow_i, if_pos (by decide +kernel)]
  rfl
theorem mulE {a b c : Int} (h1 : wideB a b = true) (h2 : a * b = c) : sMul (.int a) (.int b) = some (.int c) := by
  rw [sMul_i, if_pos h1, h2]
theorem mul120 : sMul (.int (10 ^ 60)) (.int (10 ^ 60)) = some (.int (10 ^ 120)) := mulE (by decide +kernel) (by decide +kernel)
theorem mul180 : sMul (.int (10 ^ 120)) (.int (10 ^ 60)) = some (.int (10 ^ 180)) := mulE (by decide +kernel) (by decide +kernel)
theorem mul240 : sMul (.int (10 ^ 180)) (.int (10 ^ 60)) = some (.int big) := mulE (by decide +kernel) (by decide +kernel)
theorem RsP_big {en : En} {P : En → Rv → Prop} {E : En → Ex → Prop} : RsP (bigE en) P E = P en (.d (.int big)) := by
  unfold bigE
  simp only [RsP_op, RsP_con, RsP_op2dd, pow60, OpP_some, mul120, mul180, mul240]
theorem big_pos : 0 < big := by decide +kernel
theorem pow18 : sPow (.int 10) (.int 18) = some (.int (10 ^ 18)) := by
  rw [sPow_i, if_pos (by decide +kernel)]
  rfl
/-- the pot of a cell -/
theorem pot_ok (ns : List Int) {k : Nat} (hk : k < 64) : RfP (f__law_pot [.v (scrD ns), .v (.int (k : Nat))]) (fun r os => os = [] ∧ ∃ p, r = .o p ∧ Pot (3 * k) p) fun _ _ => False := by
  have w7 : wideB 7 (k : Int) = true := wide_of (a := 3) (b := 62) (by decide) (nat_lt (by omega) (by omega)) (by decide) (by decide) (by decide)
  have w3 : wideB 3 (k : Int) = true := wide_of (a := 2) (b := 62) (by decide) (nat_lt (by omega) (by omega)) (by decide) (by decide) (by decide)
  have hz := sizeLine_big
  have bp := big_pos
  have tail : ∀ c : Int, OutP (bSeq (bSet 2 (dOp sMod (dCallB sInt (aCons (dCallB sAbs (aCons (dVar 2) (aNil))) (aNil))) bigE)) (bRetO (oLst (aCons (dVarF 2) (aCons (dCallB sInt (aCons (dOp (sCmp fGe) (dVar 2) (dOp sPow (dC (.int 10)) (dC (.int 18)))) (aNil))) (aCons (dOp sMul (dC (.int 3)) (dVar 1)) (aNil)))))) [.val (scrD ns), .val (.int (k : Nat)), .val (.int c)])
      (fun _ => False) (fun en r => ∃ p, r = .o p ∧ Pot (3 * k) p) fun _ _ => False := fun c => by
    simp -implicitDefEqProofs [RsP_big, canPut, noAli, pow18, w3, bp]
    exact ⟨by omega, _, _, _, rfl, Int.emod_nonneg _ (by omega), Int.emod_lt_of_pos _ bp, by omega, by omega⟩
  refine RfP_run rfl ?_
  show OutP (b__law_pot [.val (scrD ns), .val (.int (k : Nat)), .un]) _ _ _
  unfold b__law_pot
  have tail' : ∀ c : Int, OutP (bSeq (bSet 2 (dOp sMod (dCallB sInt (aCons (dCallB sAbs (aCons (dVar 2) (aNil))) (aNil))) bigE)) (bRetO (oLst (aCons (dVarF 2) (aCons (dCallB sInt (aCons (dOp (sCmp fGe) (dVar 2) (dOp sPow (dC (.int 10)) (dC (.int 18)))) (aNil))) (aCons (dOp sMul (dC (.int 3)) (dVar 1)) (aNil)))))) [.val (scrD ns), .val (.int (k : Nat)), .val (.int c)])
      (fun en => match outsOf en 0 [.v (scrD ns), .v (.int (k : Nat))] with
        | some os => os = [] ∧ ∃ p, (Rr.v .none : Rr) = .o p ∧ Pot (3 * k) p
        | none => False) (fun en r => match outsOf en 0 [.v (scrD ns), .v (.int (k : Nat))] with
        | some os => os = [] ∧ ∃ p, r = .o p ∧ Pot (3 * k) p
        | none => False) (fun en x => match outsOf en 0 [.v (scrD ns), .v (.int (k : Nat))] with
        | some os => False
        | none => False) := fun c => (tail c).mono (fun _ z => z.elim) (fun en r z => ⟨rfl, z⟩) fun _ _ z => z.elim
  rw [OutP_seq]
  simp only [OutP_set, RsP_op, RsP_con, RsP_var, List.getElem?_cons_succ, List.getElem?_cons_zero, VarP_val, RsP_op2dd, sMul_i, OpP_ite, stV_d, OpP_put]
  refine ⟨w7, by simp [canPut, noAli], ?_⟩
  rw [OutP_seq, OutP_if]
  have hl : sLen [scrD ns] = some (.int (ns.length : Nat)) := by
    show some (PyData.int ((ns.map PyData.int).length : Nat)) = _
    rw [List.length_map]
  simp -implicitDefEqProofs only [RsP_tOf, RsP_op, RsP_var, List.set, List.getElem?_cons_succ, List.getElem?_cons_zero, VarP_val, RsP_callB, RsP_aCons, RsP_aNil, resAll_cons, resAll_nil, res_d, OpP_some, hl, RsP_op2dd, sCmp_i, RsP_opBd, toB_bool]
  split
  · rename_i hlt
    have hlt' : k < ns.length := by simpa [fLt] using hlt
    have e1 : sIx (scrD ns) (.int (k : Nat)) = some (.int ns[k]) := by
      show atI (ns.map PyData.int) (k : Nat) = _
      rw [atI_n, List.getElem?_map, List.getElem?_eq_getElem hlt']
      rfl
    simp -implicitDefEqProofs only [OutP_set, RsP_op, RsP_var, List.getElem?_cons_succ, List.getElem?_cons_zero, VarP_val, RsP_op2dd, e1, OpP_some, stV_d, OpP_put]
    refine ⟨by simp [canPut, noAli], ?_⟩
    exact tail' _
  · exact tail' _
end DL
/-! Dm11: the laws' own helpers: stretch, first, asked. -/
namespace DL
open PySem PySem.Spec L2
open PyProof.Rows hiding St
theorem draw_then {n : Nat} {p : D} {m : Int} {P : Rr → List D → Prop} {E : Ex → List D → Prop} (hp : Pot n p) (hn : n ≤ 1000000) (hm : 0 < m) (hm2 : m < 2 ^ 62) (h : ∀ i p', 0 ≤ i → i < m → Pot (n + 1) p' → P (.v (.int i)) [p']) : RfP (f__law_draw [.o p, .v (.int m)]) P E :=
  (draw_spec hp hn hm hm2).mono (fun x os ⟨i, p', e1, e2, h1, h2, h3⟩ => by subst e1 e2; exact h i p' h1 h2 h3) fun _ _ z => z.elim
/-- the nine kinds -/
inductive Kd where
  | bag | queue | stack | least | register | counter | set | map | lock
def Kd.str : Kd → Str
  | .bag => "bag"
  | .queue => "queue"
  | .stack => "stack"
  | .least => "least"
  | .register => "register"
  | .counter => "counter"
  | .set => "set"
  | .map => "map"
  | .lock => "lock"
/-- a kind's states -/
inductive StOk : Kd → Nat → D → Prop
  | bag {m : Nat} (ns : List Int) : ns.length ≤ m → StOk .bag m (.tuple (ns.map .int))
  | queue {m : Nat} (ns : List Int) : ns.length ≤ m → StOk .queue m (.tuple (ns.map .int))
  | stack {m : Nat} (ns : List Int) : ns.length ≤ m → StOk .stack m (.tuple (ns.map .int))
  | least {m : Nat} (ns : List Int) : ns.length ≤ m → StOk .least m (.tuple (ns.map .int))
  | register {m : Nat} (o : Option Int) : StOk .register m (optD o)
  | counter {m : Nat} (i : Int) : StOk .counter m (.int i)
  | set {m : Nat} (ns : List Int) : ns.length ≤ m → StOk .set m (.tuple (ns.map .int))
  | map {m : Nat} (ns : List (Int × Int)) : ns.length ≤ m → StOk .map m (.tuple (ns.map fun p => .tuple [.int p.1, .int p.2]))
  | lock {m : Nat} (o : Option Int) : StOk .lock m (optD o)
theorem StOk.mono {k : Kd} {m m' : Nat} {d : D} (h : StOk k m d) (hm : m ≤ m') : StOk k m' d := by
  cases h with
  | bag ns h => exact .bag ns (by omega)
  | queue ns h => exact .queue ns (by omega)
  | stack ns h => exact .stack ns (by omega)
  | least ns h => exact .least ns (by omega)
  | register o => exact .register o
  | counter i => exact .counter i
  | set ns h => exact .set ns (by omega)
  | map ns h => exact .map ns (by omega)
  | lock o => exact .lock o
theorem first_ok (k : Kd) : RfP (f__law_first [.v (.str k.str)]) (fun r os => os = [] ∧ ∃ d, r = .v d ∧ StOk k 0 d) fun _ _ => False := by
  cases k
  · exact ⟨rfl, _, rfl, .bag [] (Nat.le_refl _)⟩
  · exact ⟨rfl, _, rfl, .queue [] (Nat.le_refl _)⟩
  · exact ⟨rfl, _, rfl, .stack [] (Nat.le_refl _)⟩
  · exact ⟨rfl, _, rfl, .least [] (Nat.le_refl _)⟩
  · exact ⟨rfl, _, rfl, .register none⟩
  · exact ⟨rfl, _, rfl, .counter 0⟩
  · exact ⟨rfl, _, rfl, .set [] (Nat.le_refl _)⟩
  · exact ⟨rfl, _, rfl, .map [] (Nat.le_refl _)⟩
  · exact ⟨rfl, _, rfl, .lock none⟩
end DL
/-! Dm12: asked. -/
namespace DL
open PySem PySem.Spec L2
open PyProof.Rows hiding St
def Kd.isBox : Kd → Bool
  | .bag => true
  | .queue => true
  | .stack => true
  | .least => true
  | _ => false
def Kd.isSort : Kd → Bool
  | .bag => true
  | .least => true
  | _ => false
def Kd.isStack : Kd → Bool
  | .stack => true
  | _ => false
def Kd.isReg : Kd → Bool
  | .register => true
  | _ => false
def Kd.isCnt : Kd → Bool
  | .counter => true
  | _ => false
def Kd.isSet : Kd → Bool
  | .set => true
  | _ => false
def Kd.isMap : Kd → Bool
  | .map => true
  | _ => false
theorem in4 (k : Kd) : sIn (.str k.str) (.tuple [.str "bag", .str "queue", .str "stack", .str "least"]) = some (.bool k.isBox) := by cases k <;> rfl
theorem in2 (k : Kd) : sIn (.str k.str) (.tuple [.str "bag", .str "least"]) = some (.bool k.isSort) := by cases k <;> rfl
theorem eqStack (k : Kd) : sEq (.str k.str) (.str "stack") = some (.bool k.isStack) := by cases k <;> rfl
theorem eqReg (k : Kd) : sEq (.str k.str) (.str "register") = some (.bool k.isReg) := by cases k <;> rfl
theorem eqCnt (k : Kd) : sEq (.str k.str) (.str "counter") = some (.bool k.isCnt) := by cases k <;> rfl
theorem eqSet (k : Kd) : sEq (.str k.str) (.str "set") = some (.bool k.isSet) := by cases k <;> rfl
theorem eqMap (k : Kd) : sEq (.str k.str) (.str "map") = some (.bool k.isMap) := by cases k <;> rfl
/-- names and arguments of a kind -/
inductive Ask : Kd → Str → Option Int → Prop
  | bagP (i : Int) : Ask .bag "put" (some i)
  | bagG : Ask .bag "get" none
  | queueP (i : Int) : Ask .queue "put" (some i)
  | queueG : Ask .queue "get" none
  | stackP (i : Int) : Ask .stack "put" (some i)
  | stackG : Ask .stack "get" none
  | leastP (i : Int) : Ask .least "put" (some i)
  | leastG : Ask .least "get" none
  | regW (i : Int) : Ask .register "write" (some i)
  | regR : Ask .register "read" none
  | cntA (i : Int) : Ask .counter "add" (some i)
  | cntR : Ask .counter "read" none
  | setA (i : Int) : Ask .set "add" (some i)
  | setD (i : Int) : Ask .set "drop" (some i)
  | setH (i : Int) : Ask .set "has" (some i)
  | mapP (i : Int) : Ask .map "put" (some i)
  | mapD (i : Int) : Ask .map "drop" (some i)
  | mapG (i : Int) : Ask .map "get" (some i)
  | lockT : Ask .lock "take" none
  | lockF : Ask .lock "free" none
theorem wide100 {i : Int} (h0 : 0 ≤ i) (h : i < 2 ^ 62) : wideB 100 i = true := wide_of (a := 7) (b := 62) (by decide) (nat_lt h0 h) (by decide) (by decide) (by decide)
theorem wide1000 {i : Int} (h0 : 0 ≤ i) (h : i < 2 ^ 62) : wideB 1000 i = true := wide_of (a := 10) (b := 62) (by decide) (nat_lt h0 h) (by decide) (by decide) (by decide)
theorem le6 : 6 ≤ sizeLine := by have := sizeLine_big; omega
theorem le1 : 1 ≤ sizeLine := by have := sizeLine_big; omega
theorem le2 : 2 ≤ sizeLine := by have := sizeLine_big; omega
theorem le3 : 3 ≤ sizeLine := by have := sizeLine_big; omega
theorem le4 : 4 ≤ sizeLine := by have := sizeLine_big; omega
theorem Pot.mono {n m : Nat} {p : D} (h : Pot n p) (hm : n ≤ m) : Pot m p := by
  obtain ⟨c, f, t, e, h1, h2, h3, h4⟩ := h
  exact ⟨c, f, t, e, h1, h2, h3, by omega⟩
def AskP (n : Nat) (k : Kd) (r : Rr) (os : List D) : Prop := ∃ nm ar p', r = .v (.tuple [.str nm, optD ar]) ∧ os = [p'] ∧ Ask k nm ar ∧ Pot (n + 3) p'
theorem AskP.of {n : Nat} {k : Kd} {nm : Str} {ar : Option Int} {p : D} (h : Ask k nm ar) (hp : Pot (n + 3) p) : AskP n k (.v (.tuple [.str nm, optD ar])) [p] := ⟨nm, ar, p, rfl, rfl, h, hp⟩
end DL
/-! Dm13: deed. -/
namespace DL
open PySem PySem.Spec L2
open PyProof.Rows hiding St
theorem map_of {α : Type} {f : α → D} : ∀ {l : List D}, (∀ d ∈ l, ∃ i, d = f i) → ∃ ms : List α, l = ms.map f
  | [], _ => ⟨[], rfl⟩
  | d :: l, h => by
    obtain ⟨i, rfl⟩ := h d List.mem_cons_self
    obtain ⟨ms, rfl⟩ := map_of (l := l) fun d hd => h d (List.mem_cons_of_mem _ hd)
    exact ⟨i :: ms, rfl⟩
theorem sort_of {α : Type} {f : α → D} (ns : List α) : ∃ ms : List α, sortD (ns.map f) = ms.map f ∧ ms.length = ns.length := by
  have hp := List.mergeSort_perm (ns.map f) (PySem.W.dataLe false fun d => d)
  obtain ⟨ms, e⟩ := map_of (f := f) (l := sortD (ns.map f)) fun d hd => by
    obtain ⟨i, _, e⟩ := List.mem_map.mp (hp.mem_iff.mp hd)
    exact ⟨i, e.symm⟩
  refine ⟨ms, e, ?_⟩
  have h1 := congrArg List.length e
  rw [List.length_map] at h1
  have h2 := hp.length_eq
  rw [List.length_map] at h2
  exact h1.symm.trans h2
theorem lay_ints : ∀ ns : List Int, PyData.canLayAll0 (ns.map .int) = true
  | [] => by simp [PyData.canLayAll0]
  | n :: r => by
    rw [List.map_cons]
    unfold PyData.canLayAll0
    rw [lay_ints r]
    simp [PyData.canLay0]
def prD (p : Int × Int) : D := .tuple [.int p.1, .int p.2]
theorem lay_prs : ∀ ns : List (Int × Int), PyData.canLayAll0 (ns.map prD) = true
  | [] => by simp [PyData.canLayAll0]
  | n :: r => by
    rw [List.map_cons]
    unfold PyData.canLayAll0
    rw [lay_prs r]
    simp [PyData.canLay0, PyData.canLayAll0, prD]
theorem canSort_ints (ns : List Int) : canSort (ns.map .int) = true := by
  unfold canSort
  rw [lay_ints]
  simp [PySem.W.alike, nonTup, PyData.depth]
theorem canSort_prs (ns : List (Int × Int)) : canSort (ns.map prD) = true := by
  unfold canSort
  rw [lay_prs]
  simp [PySem.W.alike, PySem.W.alikeAll, fullTup, PyData.depth, PyData.depthAll, prD]
@[simp] theorem sSorted_t {ds : List D} : sSorted [.tuple ds] = if canSort ds = true then some (.list (sortD ds)) else none := rfl
@[simp] theorem sSorted_l {ds : List D} : sSorted [.list ds] = if canSort ds = true then some (.list (sortD ds)) else none := rfl
def DeedP (k : Kd) (m : Nat) (r : Rr) (os : List D) : Prop := os = [] ∧ ∃ (res : Option Int) (st : D), r = .v (.tuple [optD res, st]) ∧ StOk k m st
theorem DeedP.of {k : Kd} {m : Nat} {res : Option Int} {st : D} (h : StOk k m st) : DeedP k m (.v (.tuple [optD res, st])) [] := ⟨rfl, res, st, rfl, h⟩
theorem depth_ints : ∀ ns : List Int, PyData.depthAll (ns.map PyData.int) = 0
  | [] => by simp [PyData.depthAll]
  | n :: r => by
    rw [List.map_cons]
    unfold PyData.depthAll
    rw [depth_ints r]
    simp [PyData.depth]
theorem shaped_ints (ns : List Int) : SeqAt.shaped (.tuple (ns.map .int)) = true := by
  unfold SeqAt.shaped
  rw [Bool.and_eq_true, decide_eq_true_iff]
  constructor
  · unfold PyData.canLay0
    exact lay_ints ns
  · unfold PyData.depth
    rw [depth_ints]
    omega
theorem eqNil (ns : List Int) : sEq (.tuple (ns.map .int)) (.tuple []) = some (.bool ns.isEmpty) := by
  have h1 := shaped_ints ns
  have h2 := shaped_ints []
  have e : eqD (.tuple (ns.map .int)) (.tuple []) = some (PyData.eqv (.tuple (ns.map .int)) (.tuple [])) := by
    show (if SeqAt.shaped (.tuple (ns.map .int)) = true ∧ SeqAt.shaped (.tuple []) = true then some (PyData.eqv (.tuple (ns.map .int)) (.tuple [])) else none) = _
    rw [if_pos ⟨h1, h2⟩]
  unfold sEq
  rw [e]
  cases ns with
  | nil => rfl
  | cons n r =>
    rw [List.map_cons]
    unfold PyData.eqv PyData.eqvAll
    rfl
theorem last_ints (n : Int) (r : List Int) : ∃ i, atI (PyData.int n :: r.map PyData.int) (-1) = some (.int i) := by
  have e : PyData.int n :: r.map PyData.int = (n :: r).map PyData.int := rfl
  have hne : n :: r ≠ [] := List.cons_ne_nil _ _
  rw [e, ← List.dropLast_concat_getLast hne, List.map_append, List.map_cons, List.map_nil]
  exact ⟨_, atI_last _ _⟩
theorem cut_last (xs : List D) (h : xs ≠ []) : cutD xs none (some (-1)) = xs.dropLast := by
  have hl : 0 < xs.length := by
    cases xs with
    | nil => exact absurd rfl h
    | cons x r => simp
  unfold cutD
  rw [HT.sIx_none, List.drop_zero, Nat.sub_zero, List.dropLast_eq_take]
  congr 1
  unfold HT.sIx
  dsimp only
  rw [if_pos (by decide)]
  omega
theorem cut_first (xs : List D) : cutD xs (some 1) none = xs.tail := by
  unfold cutD
  rw [HT.sIx_none, show HT.sIx xs.length 0 (some 1) = min 1 xs.length from HT.sIx_nat xs.length 0 1]
  cases xs with
  | nil => rfl
  | cons x r =>
    have : min 1 (x :: r).length = 1 := by simp
    rw [this]
    show List.take ((x :: r).length - 1) r = r
    exact List.take_of_length_le (by simp)
end DL
/-! Dm14: deed of the other kinds. -/
namespace DL
open PySem PySem.Spec L2
open PyProof.Rows hiding St
theorem in4r : sIn (.str (Kd.str .register)) (.tuple [.str "bag", .str "queue", .str "stack", .str "least"]) = some (.bool false) := rfl
theorem sEqN_t : sEq (.str "write") (.str "write") = some (.bool true) := rfl
/-! set -/
theorem all_flat_ints : ∀ ns : List Int, (ns.map PyData.int).all flatD = true
  | [] => rfl
  | n :: r => by
    rw [List.map_cons, List.all_cons, all_flat_ints r]
    rfl
theorem sIn_ints (i : Int) (ns : List Int) : ∃ b : Bool, sIn (.int i) (.tuple (ns.map .int)) = some (.bool b) := by
  refine ⟨(ns.map PyData.int).any fun z => PyData.eqv z (.int i), ?_⟩
  unfold sIn
  have : inB (.int i) (.tuple (ns.map .int)) = some ((ns.map PyData.int).any fun z => PyData.eqv z (.int i)) := by
    show (if flatD (.int i) = true ∧ (ns.map PyData.int).all flatD = true then some ((ns.map PyData.int).any fun z => PyData.eqv z (.int i)) else none) = _
    rw [if_pos ⟨rfl, all_flat_ints ns⟩]
  rw [this]
  rfl
def neF (i : Int) (d : D) : Option D := match d with
  | .int j => if j = i then none else some (.int j)
  | _ => none
theorem neF_ints (i : Int) : ∀ ns : List Int, ∃ ms : List Int, (ns.map PyData.int).filterMap (neF i) = ms.map PyData.int ∧ ms.length ≤ ns.length
  | [] => ⟨[], rfl, Nat.le_refl _⟩
  | n :: r => by
    obtain ⟨ms, e, hl⟩ := neF_ints i r
    by_cases h : n = i
    · refine ⟨ms, ?_, by simp; omega⟩
      rw [List.map_cons, List.filterMap_cons_none (by simp [neF, h])]
      exact e
    · refine ⟨n :: ms, ?_, by simp; omega⟩
      rw [List.map_cons, List.filterMap_cons_some (b := .int n) (by simp [neF, h]), e]
      rfl
/-! map -/
theorem prs_eq (ns : List (Int × Int)) : (ns.map fun p => PyData.tuple [.int p.1, .int p.2]) = ns.map prD := rfl
def neK (k : Int) (d : D) : Option D := match d with
  | .tuple [.int a, .int b] => if a = k then none else some (.tuple [.int a, .int b])
  | _ => none
def eqK (k : Int) (d : D) : Option D := match d with
  | .tuple [.int a, .int b] => if a = k then some (.int b) else none
  | _ => none
theorem neK_prs (k : Int) : ∀ ns : List (Int × Int), ∃ ms : List (Int × Int), (ns.map prD).filterMap (neK k) = ms.map prD ∧ ms.length ≤ ns.length
  | [] => ⟨[], rfl, Nat.le_refl _⟩
  | n :: r => by
    obtain ⟨ms, e, hl⟩ := neK_prs k r
    by_cases h : n.1 = k
    · refine ⟨ms, ?_, by simp; omega⟩
      rw [List.map_cons, List.filterMap_cons_none (by simp [neK, prD, h])]
      exact e
    · refine ⟨n :: ms, ?_, by simp; omega⟩
      rw [List.map_cons, List.filterMap_cons_some (b := prD n) (by simp [neK, prD, h]), e]
      rfl
theorem eqK_prs (k : Int) : ∀ ns : List (Int × Int), ∃ ms : List Int, (ns.map prD).filterMap (eqK k) = ms.map PyData.int ∧ ms.length ≤ ns.length
  | [] => ⟨[], rfl, Nat.le_refl _⟩
  | n :: r => by
    obtain ⟨ms, e, hl⟩ := eqK_prs k r
    by_cases h : n.1 = k
    · refine ⟨n.2 :: ms, ?_, by simp; omega⟩
      rw [List.map_cons, List.filterMap_cons_some (b := .int n.2) (by simp [eqK, prD, h]), e]
      rfl
    · refine ⟨ms, ?_, by simp; omega⟩
      rw [List.map_cons, List.filterMap_cons_none (by simp [eqK, prD, h])]
      exact e
theorem shaped_intsL (ns : List Int) : SeqAt.shaped (.list (ns.map .int)) = true := by
  unfold SeqAt.shaped
  rw [Bool.and_eq_true, decide_eq_true_iff]
  constructor
  · unfold PyData.canLay0
    exact lay_ints ns
  · unfold PyData.depth
    rw [depth_ints]
    omega
theorem neNilL (ns : List Int) : sNe (.list (ns.map .int)) (.list []) = some (.bool (!ns.isEmpty)) := by
  have h1 := shaped_intsL ns
  have h2 := shaped_intsL []
  have e : eqD (.list (ns.map .int)) (.list []) = some (PyData.eqv (.list (ns.map .int)) (.list [])) := by
    show (if SeqAt.shaped (.list (ns.map .int)) = true ∧ SeqAt.shaped (.list []) = true then some (PyData.eqv (.list (ns.map .int)) (.list [])) else none) = _
    rw [if_pos ⟨h1, h2⟩]
  unfold sNe
  rw [e]
  cases ns with
  | nil => rfl
  | cons n r =>
    rw [List.map_cons]
    unfold PyData.eqv PyData.eqvAll
    rfl
end DL
/-! Dm15: played, its first loop. -/
namespace DL
open PySem PySem.Spec L2
open PyProof.Rows hiding St
theorem names_ok {k : Kd} {nm : Str} {ar : Option Int} (h : Ask k nm ar) : nameOk nm := by
  cases h <;> (unfold nameOk; rfl)
theorem names_lay {k : Kd} {nm : Str} {ar : Option Int} (h : Ask k nm ar) : PyData.strOk nm = true := by
  cases h <;> decide +kernel
/-- a slot, perhaps set -/
def pl : Option D → Sl
  | none => .un
  | some d => .val d
def putOk (en : En) (i : Nat) : Sl → Bool
  | .own b _ => !b && noAli en i
  | .xs => false
  | _ => true
def notAli (i : Nat) : Sl → Bool
  | .ali j => j != i
  | _ => true
theorem canPut_eq (en : En) (i : Nat) : canPut en i = (en[i]?).elim false (putOk en i) := by
  unfold canPut
  cases q : en[i]? with
  | none => rfl
  | some s => cases s <;> rfl
theorem noAli_eq (en : En) (i : Nat) : noAli en i = en.all (notAli i) := rfl
section
variable {en : En} {i j : Nat} {d : D} {b : Bool} {a : Option D}
@[simp] theorem putOk_val : putOk en i (.val d) = true := rfl
@[simp] theorem putOk_un : putOk en i .un = true := rfl
@[simp] theorem putOk_ali : putOk en i (.ali j) = true := rfl
@[simp] theorem putOk_own : putOk en i (.own b d) = (!b && noAli en i) := rfl
@[simp] theorem putOk_pl : putOk en i (pl a) = true := by cases a <;> rfl
@[simp] theorem notAli_val : notAli i (.val d) = true := rfl
@[simp] theorem notAli_un : notAli i .un = true := rfl
@[simp] theorem notAli_own : notAli i (.own b d) = true := rfl
@[simp] theorem notAli_ali : notAli i (.ali j) = (j != i) := rfl
@[simp] theorem notAli_pl : notAli i (pl a) = true := by cases a <;> rfl
theorem un_pl : Sl.un = pl none := rfl
theorem val_pl : Sl.val d = pl (some d) := rfl
end
/-- an operation as the laws draw it -/
structure Op.Drawn (o : Op) : Prop where
  ok : o.Ok
  few : o.client < 4
  shut : o.stop.isSome = true
  lay : PyData.strOk o.name = true
def Hist (m : Nat) (h : List Op) : Prop := h.length ≤ m ∧ ∀ o ∈ h, o.Drawn
/-- the state of the first loop -/
def PlayI (k : Kd) (mo : Int) (n : Nat) (i : Nat) (en : En) : Prop := ∃ (p : D) (ops : List Op) (st : D) (w mm : Int) (a7 a8 a9 a10 a11 a12 a13 : Option D),
  en = [.own true p, .val (.str k.str), .val (.int mo), .own false (.list (ops.map Op.enc)), .val st, .val (.int w), .val (.int mm), pl a7, pl a8, pl a9, pl a10, pl a11, pl a12, pl a13, .un, .un] ∧
  Pot (n + 8 * i) p ∧ ops.length = i ∧ (∀ o ∈ ops, o.Drawn) ∧ StOk k i st ∧ 0 ≤ w ∧ w < 1000
end DL
/-! Dm17: several names at once; played, whole. -/
namespace DL
open PySem PySem.Spec L2
open PyProof.Rows hiding St
section
variable {N : En → Prop} {R : En → Rr → Prop} {E : En → Ex → Prop} {PF : En → List Fx → Prop} {en : En} {i j : Nat} {is : List Nat} {xs : List Fx} {x : Fx} {d : D} {b : Bool}
def rvFx : Rv → Fx
  | .d d => .d d
  | .s i => .s i
@[simp] theorem rvFx_d : rvFx (.d d) = .d d := rfl
@[simp] theorem rvFx_s : rvFx (.s i) = .s i := rfl
@[simp] theorem RsP_xNil : RsP (xNil en) PF E = PF en [] := rfl
@[simp] theorem RsP_xCons {f : Ev} {r : Af} : RsP (xCons f r en) PF E = RsP (f en) (fun en1 x => RsP (r en1) (fun en2 xs => PF en2 (rvFx x :: xs)) E) E := by
  unfold xCons
  simp only [RsP_bind, RsP_ok]
  congr 1
@[simp] theorem RsP_xConsO {f : Ov} {r : Af} : RsP (xConsO f r en) PF E = RsP (f en) (fun en1 d => RsP (r en1) (fun en2 xs => PF en2 (.o d :: xs)) E) E := by
  unfold xConsO
  simp only [RsP_bind, RsP_ok]
@[simp] theorem OutP_parN {a : Af} : OutP (bParN is a en) N R E = RsP (a en) (fun en1 xs => aliOk is xs = true ∧ OpP (setFs en1 is xs) N) E := by
  unfold bParN
  simp only [OutP_out]
  congr 1
  funext en1 xs
  by_cases h : aliOk is xs = true
  · rw [if_pos h]
    simp only [h, true_and]
    cases setFs en1 is xs <;> rfl
  · rw [if_neg h]
    show False = _
    exact (eq_false fun z => h z.1).symm
@[simp] theorem setFs_nil : OpP (setFs en [] []) N = N en := rfl
@[simp] theorem setFs_cons : OpP (setFs en (i :: is) (x :: xs)) N = OpP (setF en i x) fun en1 => OpP (setFs en1 is xs) N := by
  have e : setFs en (i :: is) (x :: xs) = (match setF en i x with | some en1 => setFs en1 is xs | none => none) := rfl
  rw [e]
  cases setF en i x <;> rfl
@[simp] theorem setF_d : OpP (setF en i (.d d)) N = OpP (putS en i (.val d)) N := rfl
@[simp] theorem setF_o : OpP (setF en i (.o d)) N = OpP (putS en i (.own false d)) N := rfl
def OwnQ : Option Sl → Prop
  | some (.own _ _) => True
  | _ => False
@[simp] theorem OwnQ_own : OwnQ (some (.own b d)) = True := rfl
@[simp] theorem setF_s : OpP (setF en i (.s j)) N = (j ≠ i ∧ OwnQ en[j]? ∧ OpP (putS en i (.ali j)) N) := by
  unfold setF
  dsimp only
  by_cases h : j = i
  · rw [if_pos h]
    exact (eq_false fun z => z.1 h).symm
  · rw [if_neg h]
    generalize en[j]? = o
    match o with
    | none => exact (eq_false fun z => z.2.1).symm
    | some (.own a c) => simp only [OwnQ_own, ne_eq, h, not_false_eq_true, true_and]
    | some (.val c) => exact (eq_false fun z => z.2.1).symm
    | some (.ali c) => exact (eq_false fun z => z.2.1).symm
    | some .un => exact (eq_false fun z => z.2.1).symm
    | some .xs => exact (eq_false fun z => z.2.1).symm
end
def HistP (m n : Nat) (r : Rr) (os : List D) : Prop := ∃ h p', r = .v (encH h) ∧ os = [p'] ∧ Hist m h ∧ Pot n p'
end DL
/-! Dm18: spoilt. -/
namespace DL
open PySem PySem.Spec L2
open PyProof.Rows hiding St
theorem seqIx_nat {b n : Nat} (h : b < n) : seqIndex? (b : Int) n = some b := by
  unfold seqIndex?
  have h0 : ¬ ((b : Int) < 0) := by omega
  have h3 : (b : Int) < n := by omega
  simp [h0, h3]
theorem at_H {h : List Op} {b : Nat} (hb : b < h.length) (hl : h.length ≤ 1000) : sIx (encH h) (.int (b : Int)) = some h[b].enc := by
  show atI (h.map Op.enc) (b : Int) = _
  unfold atI ixN
  have h3 : (b : Int) < h.length := by omega
  simp [h3, hb]
theorem cut_from {xs : List D} {k : Nat} : cutD xs (some (k : Int)) none = xs.drop k := by
  unfold cutD
  rw [HT.sIx_none, HT.sIx_nat]
  rcases Nat.le_total k xs.length with h | h
  · rw [Nat.min_eq_left h, List.take_of_length_le (by rw [List.length_drop]; omega)]
  · rw [Nat.min_eq_right h, List.drop_of_length_le (Nat.le_refl _), List.drop_of_length_le h, List.take_nil]
theorem slf_H {h : List Op} {k : Nat} : sSl (some ((k : Int) + 1)) none (encH h) = some (encH (h.drop (k + 1))) := by
  show some (PyData.tuple (cutD (h.map Op.enc) (some ((k + 1 : Nat) : Int)) none)) = _
  rw [cut_from, ← List.map_drop]
  rfl
theorem sl5 (o : Op) : sSl none (some 5) o.enc = some (.tuple [.int o.client, .int o.start, optD o.stop, .str o.name, optD o.arg]) := rfl
theorem add_H {a b : List Op} (h : a.length + b.length ≤ 1000) : sAdd (encH a) (encH b) = some (encH (a ++ b)) := by
  have hz := sizeLine_big
  show (if (a.map Op.enc ++ b.map Op.enc).length ≤ sizeLine then some (PyData.tuple (a.map Op.enc ++ b.map Op.enc)) else none) = _
  rw [if_pos (by rw [List.length_append, List.length_map, List.length_map]; omega), ← List.map_append]
  rfl
theorem lay_opt (o : Option Int) : PyData.canLay0 (optD o) = true := by cases o <;> simp [PyData.canLay0]
theorem dep_opt (o : Option Int) : PyData.depth (optD o) = 0 := by cases o <;> simp [PyData.depth]
theorem lay_ops : ∀ h : List Op, (∀ o ∈ h, PyData.strOk o.name = true) → PyData.canLayAll0 (h.map Op.enc) = true
  | [], _ => by simp [PyData.canLayAll0]
  | o :: r, hn => by
    rw [List.map_cons]
    unfold PyData.canLayAll0
    rw [lay_ops r fun x hx => hn x (List.mem_cons_of_mem _ hx)]
    simp [PyData.canLay0, PyData.canLayAll0, Op.enc, lay_opt, hn o List.mem_cons_self]
theorem dep_ops : ∀ h : List Op, PyData.depthAll (h.map Op.enc) ≤ 1
  | [] => by simp [PyData.depthAll]
  | o :: r => by
    have ih := dep_ops r
    rw [List.map_cons]
    unfold PyData.depthAll
    have : PyData.depth o.enc ≤ 1 := by simp [Op.enc, PyData.depth, PyData.depthAll, dep_opt]
    omega
theorem shaped_H (h : List Op) (hn : ∀ o ∈ h, PyData.strOk o.name = true) : SeqAt.shaped (encH h) = true := by
  have := dep_ops h
  unfold SeqAt.shaped
  rw [Bool.and_eq_true, decide_eq_true_iff]
  constructor
  · unfold encH PyData.canLay0
    exact lay_ops h hn
  · unfold encH PyData.depth
    omega
theorem eq_nilH {h : List Op} (hn : ∀ o ∈ h, PyData.strOk o.name = true) : sEq (encH h) (.tuple []) = some (.bool (h.isEmpty)) := by
  have h1 := shaped_H h hn
  have h2 := shaped_ints []
  have e : eqD (encH h) (.tuple []) = some (PyData.eqv (encH h) (.tuple [])) := by
    show (if SeqAt.shaped (encH h) = true ∧ SeqAt.shaped (.tuple []) = true then some (PyData.eqv (encH h) (.tuple [])) else none) = _
    rw [if_pos ⟨h1, h2⟩]
  unfold sEq
  rw [e]
  cases h with
  | nil => rfl
  | cons n r =>
    unfold encH
    rw [List.map_cons]
    unfold PyData.eqv PyData.eqvAll
    rfl
theorem enc3 (o : Op) : sIx o.enc (.int 3) = some (.str o.name) := rfl
theorem enc5 (o : Op) : sIx o.enc (.int 5) = some (optD o.res) := rfl
theorem list_H (h : List Op) : sList [encH h] = some (.list (h.map Op.enc)) := rfl
theorem ixN_nat {b n : Nat} (h : b < n) : ixN n (b : Int) = some b := by
  unfold ixN
  have h3 : (b : Int) < n := by omega
  simp [h3]
theorem lenH (h : List Op) : sLen [encH h] = some (.int h.length) := by
  show some (PyData.int ((h.map Op.enc).length : Nat)) = _
  rw [List.length_map]
theorem one_H (o : Op) : PyData.tuple [o.enc] = encH [o] := rfl
theorem Hist.swap {m : Nat} {h : List Op} {b : Nat} {x : Op} (hh : Hist m h) (hb : b < h.length) (hx : x.Drawn) : Hist m (h.take b ++ [x] ++ h.drop (b + 1)) := by
  refine ⟨?_, fun o ho => ?_⟩
  · have := hh.1
    simp only [List.length_append, List.length_take, List.length_drop, List.length_cons, List.length_nil]
    omega
  · rcases List.mem_append.mp ho with z | z
    · rcases List.mem_append.mp z with z | z
      · exact hh.2 o (List.mem_of_mem_take z)
      · have : o = x := by simpa using z
        exact this ▸ hx
    · exact hh.2 o (List.mem_of_mem_drop z)
theorem Hist.cut {m : Nat} {h : List Op} {b : Nat} (hh : Hist m h) : Hist m (h.take b ++ h.drop (b + 1)) := by
  refine ⟨?_, fun o ho => ?_⟩
  · have := hh.1
    simp only [List.length_append, List.length_take, List.length_drop]
    omega
  · rcases List.mem_append.mp ho with z | z
    · exact hh.2 o (List.mem_of_mem_take z)
    · exact hh.2 o (List.mem_of_mem_drop z)
theorem Hist.put {m : Nat} {h : List Op} {b : Nat} {x : Op} (hh : Hist m h) (hx : x.Drawn) : Hist m (h.set b x) :=
  ⟨by rw [List.length_set]; exact hh.1, fun o ho => by
    rcases List.mem_or_eq_of_mem_set ho with z | z
    · exact hh.2 o z
    · exact z ▸ hx⟩
theorem Op.Drawn.withRes {o : Op} (h : o.Drawn) (r : Option Int) : ({ o with res := r } : Op).Drawn :=
  .mk (.mk h.ok.client h.ok.stop (fun z => by have := h.shut; simp only at z; rw [z] at this; cases this) h.ok.name) h.few h.shut h.lay
theorem Op.Drawn.atTimes {o : Op} (h : o.Drawn) {a b : Int} (hab : a ≤ b) : ({ o with start := a, stop := some b } : Op).Drawn :=
  .mk (.mk h.ok.client (fun e he => by cases he; exact hab) (fun z => by cases z) h.ok.name) h.few rfl h.lay
end DL
/-! Dm20: opened. -/
namespace DL
open PySem PySem.Spec L2
open PyProof.Rows hiding St
@[simp] theorem tgTup_t {u : Tgs} {ds : List D} {en : En} : tgTup u (.tuple ds) en = u ds en := rfl
@[simp] theorem OpP_tgCons {t : Tg} {u : Tgs} {d : D} {r : List D} {en : En} {Q : En → Prop} : OpP (tgCons t u (d :: r) en) Q = OpP (t d en) fun en1 => OpP (u r en1) Q := by
  have e : tgCons t u (d :: r) en = (match t d en with | some en1 => u r en1 | none => none) := rfl
  rw [e]
  cases t d en <;> rfl
@[simp] theorem OpP_tgNil {en : En} {Q : En → Prop} : OpP (tgNil [] en) Q = Q en := rfl
/-- an operation of the law's history, perhaps left open -/
structure Op.Seen (o : Op) : Prop where
  ok : o.Ok
  few : o.client < 4
  lay : PyData.strOk o.name = true
def SeenP (m n : Nat) (r : Rr) (os : List D) : Prop := ∃ (h : List Op) (p' : D), r = .v (encH h) ∧ os = [p'] ∧ h.length ≤ m ∧ (∀ o ∈ h, o.Seen) ∧ Pot n p'
theorem Op.Drawn.seen {o : Op} (h : o.Drawn) : o.Seen := .mk h.ok h.few h.lay
theorem Op.Drawn.left {o : Op} (h : o.Drawn) : ({ o with stop := none, res := none } : Op).Seen :=
  .mk (.mk h.ok.client (fun e he => by cases he) (fun _ => rfl) h.ok.name) h.few h.lay
end DL
/-! Dm21: is_int, ahead, odd. -/
namespace DL
open PySem PySem.Spec L2
open PyProof.Rows hiding St
def oddL : List D := [.none, .bool true, .bool false, .str (Str.ofString "1"), .str (Str.ofString ""), .tuple [], .list [], .tuple [.int 0], .list [.int 0, .int 1], .int (-1), .int 1000000000000000000000000000000000000000, .tuple [.none], .str (Str.ofString "a b"), .int (-1000000000000000000000000000000), .tuple [.int 1, .int 2], .str (Str.ofString "queue")]
theorem oddL_no : ∀ d ∈ oddL, notDct d = true := by
  intro d hd
  simp only [oddL, List.mem_cons, List.not_mem_nil, or_false] at hd
  rcases hd with rfl | rfl | rfl | rfl | rfl | rfl | rfl | rfl | rfl | rfl | rfl | rfl | rfl | rfl | rfl | rfl <;> rfl
/-- what odd may give -/
def OddP (n : Nat) (r : Rr) (os : List D) : Prop := ∃ d p', r = .v d ∧ os = [p'] ∧ notDct d = true ∧ Pot n p'
end DL
/-! Dm22: told. -/
namespace DL
open PySem PySem.Spec L2
open PyProof.Rows hiding St
theorem ex_of {r : Rf} {e : Ex} (h : RfP r (fun _ _ => False) (fun x os => x = e ∧ os = [])) : r = .ex e [] := by
  cases r with
  | ok a os => exact h.elim
  | ex x os => obtain ⟨rfl, rfl⟩ := h; rfl
  | no => exact h.elim
theorem idx_i {n : Nat} {i : Int} : idx n (.int i) = true → ∃ k : Nat, i = (k : Int) ∧ k < n := by
  intro h
  simp [idx] at h
  exact ⟨i.toNat, by omega, by omega⟩
end DL
/-! Dm23: told. -/
namespace DL
open PySem PySem.Spec L2
open PyProof.Rows hiding St
theorem OutP_try {nm : Str} {i : Nat} {body suite : Bd} {en : En} {N : En → Prop} {R : En → Rr → Prop} {E : En → Ex → Prop} (h : OutP (body en) N R fun en1 x => x.cls = nm ∧ x.fs = [] ∧ canPut en1 i = true ∧ OutP (suite (en1.set i .xs)) (fun e2 => N (e2.set i .un)) (fun _ _ => False) (fun _ _ => False)) : OutP (bTry nm i body suite en) N R E := by
  unfold bTry
  cases q : body en with
  | nx e => rw [q] at h; exact h
  | rt e r => rw [q] at h; exact h
  | ex e x =>
    rw [q] at h
    obtain ⟨h1, h2, h3, h4⟩ := h
    dsimp only
    rw [if_pos ⟨h1, h2, h3⟩]
    cases q2 : suite (e.set i .xs) with
    | nx e2 => rw [q2] at h4; exact h4
    | rt e2 r => rw [q2] at h4; exact h4.elim
    | ex e2 r => rw [q2] at h4; exact h4.elim
    | bk e2 => rw [q2] at h4; exact h4.elim
    | ct e2 => rw [q2] at h4; exact h4.elim
    | no => rw [q2] at h4; exact h4.elim
  | bk e => rw [q] at h; exact h.elim
  | ct e => rw [q] at h; exact h.elim
  | no => rw [q] at h; exact h.elim
@[simp] theorem RsP_isE {i : Nat} {b : Bool} {en : En} {P : En → Rv → Prop} {E : En → Ex → Prop} : RsP (xIsE i b en) P E = (en[i]? = some .xs ∧ P en (.d (.bool b))) := by
  unfold xIsE
  cases q : en[i]? with
  | none => exact (eq_false fun z => nomatch z.1).symm
  | some s =>
    cases s <;> first
      | exact (eq_true rfl ▸ (true_and _).symm : _)
      | (refine (eq_false fun z => ?_).symm; exact nomatch z.1)
      | (simp; rfl)
end DL
/-! Dm24: told at an odd index. -/
namespace DL
open PySem PySem.Spec L2
open PyProof.Rows hiding St
end DL
/-! Dm26: same at a list of pairs. -/
namespace DL
open PySem PySem.Spec L2
open PyProof.Rows hiding St
theorem befs_in {h : List Op} {d : D} (hd : d ∈ befs h) : ∃ (i j : Nat) (a b : Op), d = .tuple [.int i, .int j] ∧ h[i]? = some a ∧ h[j]? = some b ∧ bef a b = true := by
  unfold befs at hd
  obtain ⟨x, hx, hd⟩ := List.mem_flatMap.mp hd
  obtain ⟨y, hy, e⟩ := List.mem_filterMap.mp hd
  obtain ⟨i, hi, rfl⟩ := List.mem_map.mp hx
  obtain ⟨j, hj, rfl⟩ := List.mem_map.mp hy
  dsimp only at e
  have ti : (0 + (i : Int)).toNat = i := by omega
  have tj : (0 + (j : Int)).toNat = j := by omega
  rw [ti, tj] at e
  cases qa : h[i]? with
  | none => rw [qa] at e; cases e
  | some a =>
    cases qb : h[j]? with
    | none => rw [qa, qb] at e; cases e
    | some b =>
      rw [qa, qb] at e
      dsimp only at e
      split at e
      · rename_i hb
        refine ⟨i, j, a, b, ?_, qa, qb, hb⟩
        have := Option.some.inj e
        rw [← this]
        simp
      · cases e
end DL
/-! Dm27: same at befs. -/
namespace DL
open PySem PySem.Spec L2
open PyProof.Rows hiding St
theorem okSs_mem : ∀ {ds : List D}, (∀ d ∈ ds, okS d = true) → okSs ds = true
  | [], _ => rfl
  | d :: r, h => by
    unfold okSs
    rw [h d List.mem_cons_self, okSs_mem fun x hx => h x (List.mem_cons_of_mem _ hx)]
    rfl
theorem depthAll_mem {k : Nat} : ∀ {ds : List D}, (∀ d ∈ ds, PyData.depth d ≤ k) → PyData.depthAll ds ≤ k
  | [], _ => by simp [PyData.depthAll]
  | d :: r, h => by
    have h1 := h d List.mem_cons_self
    have h2 := depthAll_mem (ds := r) fun x hx => h x (List.mem_cons_of_mem _ hx)
    unfold PyData.depthAll
    omega
theorem same_befs {h : List Op} (hl : (befs h).length ≤ 5000) : f__law_same 12 [.v (.list (befs h)), .v (.list (befs h))] = .ok (.v (.bool true)) [] := by
  have hz := sizeLine_big
  refine Yes.eq (same_ok 12 _ ?_ ?_)
  · have := depthAll_mem (k := 1) (ds := befs h) fun d hd => by
      obtain ⟨i, j, a, b, rfl, _⟩ := befs_in hd
      simp [PyData.depth, PyData.depthAll]
    unfold PyData.depth
    omega
  · unfold okS
    rw [okSs_mem fun d hd => by
      obtain ⟨i, j, a, b, rfl, _⟩ := befs_in hd
      simp only [okS, okSs, Bool.and_true, decide_eq_true_eq]
      show 2 ≤ sizeLine
      omega]
    simp
    omega
end DL
/-! Dm30: slots that may be set. -/
namespace DL
open PySem PySem.Spec L2
open PyProof.Rows hiding St
section
variable {en en3 : En} {d e : D} {b : Bool} {a : Option D} {t : Sl} {i : Nat}
@[simp] theorem pl_some : pl (some d) = .val d := rfl
@[simp] theorem pl_none : pl none = .un := rfl
theorem wipe1 (q : en[i]? = some (pl a)) : wipeE en [i] = some (en.set i .un) := by
  cases a <;> simp only [wipeE, q, pl]
theorem unw_nil : unw [] [] = some [] := rfl
theorem unw_val : unw (.val d :: en) (t :: en3) = (unw en en3).map (.val d :: ·) := by
  generalize hq : unw en en3 = q
  simp only [unw, hq]
  cases q <;> rfl
theorem unw_un : unw (.un :: en) (t :: en3) = (unw en en3).map (.un :: ·) := by
  generalize hq : unw en en3 = q
  simp only [unw, hq]
  cases q <;> rfl
theorem unw_pl : unw (pl a :: en) (t :: en3) = (unw en en3).map (pl a :: ·) := by
  cases a
  · exact unw_un
  · exact unw_val
theorem unw_own : unw (.own b d :: en) (.own b e :: en3) = (unw en en3).map (.own b e :: ·) := by
  generalize hq : unw en en3 = q
  simp only [unw, hq]
  cases q
  · rfl
  · simp
/-- A, and at k the thing v -/
def upd (A : Nat → Option D) (k : Nat) (v : Option D) : Nat → Option D := fun i => if i = k then v else A i
end
end DL
/-! Dn1: more forms, read. -/
namespace DL
open PySem PySem.Spec L2
open PyProof.Rows hiding St
section
variable {en : En} {fa fb fc : Ev} {P : En → Rv → Prop} {PD : En → D → Prop} {PA : En → List Rv → Prop} {E : En → Ex → Prop} {N : En → Prop} {R : En → Rr → Prop} {i : Nat} {b : Bool} {d e : D} {av : Av}
@[simp] theorem RsP_lrg2 : RsP (oLRg2 fa fb en) PD E = RsP (fa en) (fun en1 x => RsP (fb en1) (fun en2 y => IntP x fun i => IntP y fun j => rgOk i j = true ∧ PD en2 (.list (rng2 i j))) E) E := by
  unfold oLRg2
  simp only [RsP_bind]
  congr 1
  funext en1 x
  congr 1
  funext en2 y
  unfold IntP
  cases x with
  | s i => rfl
  | d d =>
    cases d <;> try rfl
    cases y with
    | s i => rfl
    | d d =>
      cases d <;> try rfl
      dsimp only
      split
      · rename_i h; simp [h, rng2]
      · rename_i h; simp [h]
def TupP (x : Rv) (Q : List D → Prop) : Prop := match x with
  | .d (.tuple ds) => Q ds
  | _ => False
@[simp] theorem TupP_t {ds : List D} {Q : List D → Prop} : TupP (.d (.tuple ds)) Q = Q ds := rfl
@[simp] theorem RsP_star {r : Av} : RsP (aStar fa r en) PA E = RsP (fa en) (fun en1 x => TupP x fun ds => RsP (r en1) (fun en2 xs => PA en2 (ds.map Rv.d ++ xs)) E) E := by
  unfold aStar
  simp only [RsP_bind]
  congr 1
  funext en1 x
  unfold TupP
  cases x with
  | s i => rfl
  | d d =>
    cases d <;> try rfl
    simp only [RsP_bind, RsP_ok]
@[simp] theorem freeD_app {ds : List D} {rs : List Rv} : freeD en (ds.map Rv.d ++ rs) = (freeD en rs).map fun es => ds ++ es := by
  induction ds with
  | nil =>
    show freeD en rs = _
    cases freeD en rs <;> rfl
  | cons d ds ih =>
    rw [List.map_cons, List.cons_append, freeD_d, ih]
    cases freeD en rs <;> rfl
def VarO (en : En) (i : Nat) (s : Option Sl) (P : En → D → Prop) : Prop := match s with
  | some (.own false d) => canPut en i = true ∧ P (en.set i .un) d
  | _ => False
@[simp] theorem VarO_own : VarO en i (some (.own false d)) PD = (canPut en i = true ∧ PD (en.set i .un) d) := rfl
@[simp] theorem RsP_oVar : RsP (oVar i en) PD E = VarO en i en[i]? PD := by
  unfold oVar VarO
  generalize en[i]? = s
  cases s with
  | none => rfl
  | some s =>
    cases s <;> try rfl
    rename_i b d
    cases b <;> try rfl
    dsimp only
    split
    · rename_i h; simp [h]
    · rename_i h; simp [h]
def Call0P (r : Rf) (Q : D → Prop) : Prop := match r with
  | .ok (.v d) [] => Q d
  | _ => False
@[simp] theorem Call0P_ok {Q : D → Prop} : Call0P (.ok (.v d) []) Q = Q d := rfl
@[simp] theorem RsP_call0 {fs : Fs} : RsP (dCall0 fs en) P E = Call0P (fs []) fun d => P en (.d d) := by
  unfold dCall0 Call0P
  generalize fs [] = r
  cases r with
  | ok a os =>
    cases a with
    | v d => cases os <;> rfl
    | o d => rfl
  | ex x os => rfl
  | no => rfl
@[simp] theorem RsP_meth {q : D → Bool} {sem : D → List D → Option D} : RsP (dMeth q sem fa av en) P E = RsP (fa en) (fun en1 x => OpP (res en1 x) fun d0 => q d0 = true ∧ RsP (av en1) (fun en2 xs => OpP (res en2 x) fun d => OpP (resAll en2 xs) fun ds => OpP (sem d ds) fun r => P en2 (.d r)) E) E := by
  unfold dMeth
  simp only [RsP_bind]
  congr 1
  funext en1 x
  cases res en1 x with
  | none => rfl
  | some d0 =>
    simp only [OpP_some]
    split
    · rename_i h
      simp only [h, true_and, RsP_bind]
      congr 1
      funext en2 xs
      cases res en2 x with
      | none => rfl
      | some d =>
        cases resAll en2 xs with
        | none => rfl
        | some ds =>
          simp only [OpP_some]
          cases sem d ds <;> rfl
    · rename_i h
      simp [h]
theorem OutP_tryM {cl : List (Str × Bd)} {body : Bd} (h : OutP (body en) N R fun en1 x => x.fs = [] ∧ ∃ sb, findC cl x.cls = some sb ∧ OutP (sb en1) N R (fun _ _ => False)) : OutP (bTryM cl body en) N R E := by
  unfold bTryM
  cases q : body en with
  | nx e => rw [q] at h; exact h
  | rt e r => rw [q] at h; exact h
  | ex e x =>
    rw [q] at h
    obtain ⟨h1, sb, h2, h3⟩ := h
    dsimp only
    rw [if_pos h1, h2]
    dsimp only
    cases q2 : sb e with
    | nx e2 => rw [q2] at h3; exact h3
    | rt e2 r => rw [q2] at h3; exact h3
    | ex e2 r => rw [q2] at h3; exact h3.elim
    | bk e2 => rw [q2] at h3; exact h3.elim
    | ct e2 => rw [q2] at h3; exact h3.elim
    | no => rw [q2] at h3; exact h3.elim
  | bk e => rw [q] at h; exact h.elim
  | ct e => rw [q] at h; exact h.elim
  | no => rw [q] at h; exact h.elim
def DPutS (en : En) (s : Option Sl) (i : Nat) (k d : D) (N : En → Prop) : Prop := match s with
  | some (.own b (.dict ps)) => (keyOf k).isSome = true ∧ noHead ps = true ∧ ps.length < sizeLine ∧ N (en.set i (.own b (.dict (putP ps k d))))
  | _ => False
@[simp] theorem DPutS_own {ps : List (D × D)} {k : D} : DPutS en (some (.own b (.dict ps))) i k d N = ((keyOf k).isSome = true ∧ noHead ps = true ∧ ps.length < sizeLine ∧ N (en.set i (.own b (.dict (putP ps k d))))) := rfl
@[simp] theorem OutP_dput : OutP (bDPut fa fb fc en) N R E = RsP (fc en) (fun en1 x => RsP (fa en1) (fun en2 o => RsP (fb en2) (fun en3 y => DP_ x fun d => SP_ o fun i => DP_ y fun k => DPutS en3 en3[i]? i k d N) E) E) E := by
  unfold bDPut
  simp only [OutP_out]
  congr 1
  funext en1 x
  congr 1
  funext en2 o
  congr 1
  funext en3 y
  cases x with
  | s j => rfl
  | d d =>
    cases o with
    | d d2 => rfl
    | s j =>
      cases y with
      | s j2 => rfl
      | d k =>
        simp only [DP_d, SP_s]
        unfold DPutS
        generalize en3[j]? = s
        cases s with
        | none => rfl
        | some s =>
          cases s <;> try rfl
          rename_i bb dd
          cases dd <;> try rfl
          rename_i ps
          dsimp only
          split
          · rename_i h; simp [h]
          · rename_i h
            exact (eq_false fun z => h ⟨z.1, z.2.1, z.2.2.1⟩).symm
@[simp] theorem RsP_disp {l : List (D × Ev)} : RsP (oDisp l en) PD E = RsP (pairsM l en []) (fun en1 ps => PD en1 (.dict ps)) E := by
  unfold oDisp
  simp only [RsP_bind, RsP_ok]
@[simp] theorem RsP_pairs0 {acc : List (D × D)} {PL : En → List (D × D) → Prop} : RsP (pairsM [] en acc) PL E = PL en acc := rfl
theorem RsP_pairs {k : D} {fv : Ev} {r : List (D × Ev)} {acc : List (D × D)} {PL : En → List (D × D) → Prop} (h : RsP (fv en) (fun en1 x => DP_ x fun d => OpP (unw en en1) fun en2 => RsP (pairsM r en2 (putP acc k d)) PL E) fun _ _ => False) : RsP (pairsM ((k, fv) :: r) en acc) PL E := by
  unfold pairsM
  cases q : fv en with
  | ok en1 x =>
    rw [q] at h
    simp only [RsP_ok] at h
    cases x with
    | s j => exact h.elim
    | d d =>
      simp only [DP_d] at h
      dsimp only
      cases q2 : unw en en1 with
      | none => rw [q2] at h; exact h.elim
      | some en2 => rw [q2] at h; exact h
  | ex en1 x => rw [q] at h; exact h.elim
  | no => rw [q] at h; exact h.elim
end
end DL
/-! De1: pick, turns, kinds, first, shuffled. -/
namespace DL
open PySem PySem.Spec L2
open PyProof.Rows hiding St
theorem at_list {ds : List D} {a : Int} (h0 : 0 ≤ a) (h1 : a < ds.length) : ∃ d ∈ ds, sIx (.list ds) (.int a) = some d := by
  obtain ⟨k, rfl⟩ : ∃ k : Nat, a = (k : Int) := ⟨a.toNat, by omega⟩
  have hk : k < ds.length := by omega
  refine ⟨ds[k], List.getElem_mem hk, ?_⟩
  show atI ds (k : Int) = _
  rw [atI_n]
  exact List.getElem?_eq_getElem hk
theorem pick_then {n : Nat} {p : D} {ds : List D} {P : Rr → List D → Prop} {E : Ex → List D → Prop} (hp : Pot n p) (hn : n ≤ 900000) (h0 : 0 < ds.length) (hl : ds.length ≤ 1000) (h : ∀ d p', d ∈ ds → Pot (n + 1) p' → P (.v d) [p']) : RfP (f__law_pick [.o p, .v (.list ds)]) P E := by
  refine RfP_run rfl ?_
  simp -implicitDefEqProofs [b__law_pick, startEn, arSl, CallP]
  refine draw_then hp (by omega) (by omega) (by omega) fun a p1 h1 h2 hp1 => ?_
  obtain ⟨d, hd, e⟩ := at_list h1 h2
  simp -implicitDefEqProofs [-sIx_l, e, outsOf]
  exact h d p1 hd hp1
def kindL : List D := [.str "bag", .str "queue", .str "stack", .str "least", .str "register", .str "counter", .str "set", .str "map", .str "lock"]
theorem kinds_ok : f__law_kinds [] = .ok (.v (.list kindL)) [] := by
  have hz := sizeLine_big
  refine Gives.eq (RfP_run rfl ?_)
  simp -implicitDefEqProofs [b__law_kinds, startEn, arSl, outsOf, kindL]
  omega
theorem kindL_at : ∀ d ∈ kindL, ∃ k : Kd, d = .str k.str := by
  intro d hd
  simp only [kindL, List.mem_cons, List.not_mem_nil, or_false] at hd
  rcases hd with rfl | rfl | rfl | rfl | rfl | rfl | rfl | rfl | rfl
  · exact ⟨.bag, rfl⟩
  · exact ⟨.queue, rfl⟩
  · exact ⟨.stack, rfl⟩
  · exact ⟨.least, rfl⟩
  · exact ⟨.register, rfl⟩
  · exact ⟨.counter, rfl⟩
  · exact ⟨.set, rfl⟩
  · exact ⟨.map, rfl⟩
  · exact ⟨.lock, rfl⟩
theorem popAt_l {ds : List D} {b : Nat} (h : b < ds.length) (h2 : ds.length ≤ 1000) : mPopAt (.list ds) [.int (b : Int)] = some (ds[b], .list (ds.eraseIdx b)) := by
  have e1 : seqIndex? (b : Int) ds.length = some b := seqIx_nat h
  unfold mPopAt
  dsimp only
  rw [if_pos (by omega), e1]
  dsimp only
  rw [List.getElem?_eq_getElem h]
theorem erase_perm {α : Type} {l : List α} {b : Nat} (h : b < l.length) : (l[b] :: l.eraseIdx b).Perm l := by
  rw [List.eraseIdx_eq_take_drop_succ]
  have e : l = l.take b ++ l[b] :: l.drop (b + 1) := by rw [List.getElem_cons_drop, List.take_append_drop]
  exact (List.perm_middle.symm).trans (List.Perm.of_eq e.symm)
theorem shuffled_x {n : Nat} {p x : D} {ds : List D} (hx : PyData.list ds = x) (hl : ds.length ≤ 64) (hp : Pot n p) (hn : n ≤ 900000) : RfP (f__law_shuffled [.o p, .v x]) (fun r os => ∃ es p', r = .o (.list es) ∧ os = [p'] ∧ es.Perm ds ∧ Pot (n + ds.length) p') fun _ _ => False := by
  have hz := sizeLine_big
  refine RfP_run rfl ?_
  subst hx
  unfold b__law_shuffled
  generalize hB : bExpr _ = B
  simp -implicitDefEqProofs [startEn, arSl, canPut_eq, noAli_eq]
  refine ⟨rfl, small_n (by omega), ?_⟩
  refine OutP_forL _ (fun i en => ∃ (p : D) (L Fd : List D) (a : Option D), en = [.own true p, .val (.list ds), .own false (.list L), .own false (.list Fd), pl a] ∧ Pot (n + i) p ∧ (Fd ++ L).Perm ds ∧ Fd.length = i) _ ⟨p, ds, [], none, rfl, hp, List.Perm.refl _, rfl⟩ (fun i d en ed hI => ?_) fun en hI => ?_
  · obtain ⟨p, L, Fd, a, rfl, hp, hP, hF⟩ := hI
    have hi : i < ds.length := by
      have := (List.getElem?_eq_some_iff.mp ed).1
      rw [rng_len] at this
      exact this
    have hlen := hP.length_eq
    rw [List.length_append] at hlen
    rw [← hB]
    simp -implicitDefEqProofs [tgName, canPut_eq, noAli_eq, CallP, ownIs, isListD]
    refine draw_then hp (by omega) (by omega) (by omega) fun b p1 h1 h2 hp1 => ?_
    obtain ⟨b, rfl⟩ : ∃ k : Nat, b = (k : Int) := ⟨b.toNat, by omega⟩
    have hb : b < L.length := by omega
    have e1 := popAt_l hb (by omega)
    simp -implicitDefEqProofs [e1]
    refine ⟨by omega, p1, L.eraseIdx b, Fd ++ [L[b]], ⟨rfl, rfl, rfl, some d, rfl⟩, hp1, ?_, by simp [hF]⟩
    refine List.Perm.trans ?_ hP
    rw [List.append_assoc]
    exact List.Perm.append_left _ (erase_perm hb)
  · rw [rng_len] at hI
    obtain ⟨p, L, Fd, a, rfl, hp, hP, hF⟩ := hI
    have hlen := hP.length_eq
    rw [List.length_append] at hlen
    have hL : L = [] := List.length_eq_zero_iff.mp (by omega)
    subst hL
    simp -implicitDefEqProofs [outsOf, canPut_eq, noAli_eq]
    exact ⟨by simpa using hP, hp⟩
end DL
/-! De2: one step of a kind: register, counter, lock. -/
namespace DL
open PySem PySem.Spec L2
open PyProof.Rows hiding St
/-- a closed operation -/
def opD (c s e : Int) (nm : Str) (ar r : Option Int) : D := .tuple [.int c, .int s, .int e, .str nm, optD ar, optD r]
/-- a kind's states: at most m values, all of S -/
inductive SX : Kd → Nat → List Int → D → Prop
  | box {k : Kd} {m : Nat} {S : List Int} (ns : List Int) : k.isBox = true → ns.length ≤ m → (∀ x ∈ ns, x ∈ S) → SX k m S (.tuple (ns.map .int))
  | register {m : Nat} {S : List Int} (o : Option Int) : SX .register m S (optD o)
  | counter {m : Nat} {S : List Int} (i : Int) : SX .counter m S (.int i)
  | set {m : Nat} {S : List Int} (ns : List Int) : ns.length ≤ m → SX .set m S (.tuple (ns.map .int))
  | map {m : Nat} {S : List Int} (ns : List (Int × Int)) : ns.length ≤ m → (ns.map (·.1)).Nodup → SX .map m S (.tuple (ns.map prD))
  | lock {m : Nat} {S : List Int} (o : Option Int) : SX .lock m S (optD o)
/-- what a result may be drawn from -/
inductive Cand : Kd → D → Option Int → Prop
  | none {k : Kd} {d : D} : Cand k d none
  | zero {k : Kd} {d : D} : Cand k d (some 0)
  | one {k : Kd} {d : D} : Cand k d (some 1)
  | item {k : Kd} {ns : List Int} {x : Int} : k ≠ .map → x ∈ ns → Cand k (.tuple (ns.map .int)) (some x)
  | row {ns : List (Int × Int)} {x : Int × Int} : x ∈ ns → Cand .map (.tuple (ns.map prD)) (some x.2)
  | num {k : Kd} {x : Int} : k ≠ .map → Cand k (.int x) (some x)
/-- one step's answer -/
def StepP (k : Kd) (m : Nat) (S : List Int) (st : D) (nm : Str) (ar : Option Int) (c s e : Int) : Prop :=
  (∀ r : Option Int, ∃ b st', f__law_step [.v (.str k.str), .v st, .v (opD c s e nm ar r)] = .ok (.v (.tuple [.bool b, st'])) [] ∧ (b = true → SX k (m + 1) (ar.toList ++ S) st')) ∧
    ∃ r, Cand k st r ∧ ∃ st', f__law_step [.v (.str k.str), .v st, .v (opD c s e nm ar r)] = .ok (.v (.tuple [.bool true, st'])) []
theorem sEq_opt (a b : Option Int) : sEq (optD a) (optD b) = some (.bool (decide (a = b))) := by
  cases a with
  | none =>
    cases b with
    | none => rfl
    | some j => rfl
  | some i =>
    cases b with
    | none => rfl
    | some j =>
      show some (PyData.bool (i == j)) = _
      rw [Option.some.injEq, PyData.bool.injEq, Bool.eq_iff_iff]
      simp
theorem sIs_opt (a : Option Int) : sIs (optD a) .none = some (.bool a.isNone) := by cases a <;> rfl
theorem step_reg {m : Nat} {S : List Int} {o : Option Int} {nm : Str} {ar : Option Int} {c s e : Int} (ha : Ask .register nm ar) : StepP .register m S (optD o) nm ar c s e := by
  have hz := sizeLine_big
  have e6 : sEq (.str (Kd.str .register)) (.str "register") = some (.bool true) := rfl
  have key : ∀ r : Option Int, f__law_step [.v (.str (Kd.str .register)), .v (optD o), .v (opD c s e nm ar r)] = .ok (.v (if nm = "write" then .tuple [.bool true, optD ar] else .tuple [.bool (decide (r = o)), optD o])) [] := fun r => by
    have e7 := sEq_opt r o
    refine Gives.eq (RfP_run rfl ?_)
    cases ha with
    | regW i =>
      simp -implicitDefEqProofs [b__law_step, startEn, arSl, outsOf, canPut_eq, noAli_eq, opD, e6]
      omega
    | regR =>
      have e8 : ((Str.ofString "read" == Str.ofString "write") : Bool) = false := rfl
      have e9 : ¬ (Str.ofString "read" = Str.ofString "write") := by decide
      simp -implicitDefEqProofs [b__law_step, startEn, arSl, outsOf, canPut_eq, noAli_eq, opD, e6, e7, e8, e9]
      omega
  refine ⟨fun r => ?_, ?_⟩
  · rw [key r]
    by_cases h : nm = "write"
    · rw [if_pos h]
      exact ⟨_, _, rfl, fun _ => .register ar⟩
    · rw [if_neg h]
      exact ⟨_, _, rfl, fun _ => .register o⟩
  · refine ⟨o, ?_, ?_⟩
    · cases o with
      | none => exact .none
      | some i => exact .num (by simp)
    · rw [key o]
      by_cases h : nm = "write"
      · rw [if_pos h]
        exact ⟨_, rfl⟩
      · rw [if_neg h]
        exact ⟨optD o, by simp⟩
theorem step_cnt {m : Nat} {S : List Int} {o : Int} {nm : Str} {ar : Option Int} {c s e : Int} (ha : Ask .counter nm ar) : StepP .counter m S (.int o) nm ar c s e := by
  have hz := sizeLine_big
  have e5 : sEq (.str (Kd.str .counter)) (.str "register") = some (.bool false) := rfl
  have e6 : sEq (.str (Kd.str .counter)) (.str "counter") = some (.bool true) := rfl
  have key : ∀ r : Option Int, ∃ o2 : Int, f__law_step [.v (.str (Kd.str .counter)), .v (.int o), .v (opD c s e nm ar r)] = .ok (.v (.tuple [.bool (decide (r = some o)), .int o2])) [] := fun r => by
    have e7 : sEq (optD r) (.int o) = some (.bool (decide (r = some o))) := sEq_opt r (some o)
    cases ha with
    | cntA i =>
      refine ⟨o + i, Gives.eq (RfP_run rfl ?_)⟩
      simp -implicitDefEqProofs [b__law_step, startEn, arSl, outsOf, canPut_eq, noAli_eq, opD, e5, e6, e7]
      omega
    | cntR =>
      have e8 : ((Str.ofString "read" == Str.ofString "add") : Bool) = false := rfl
      have e9 : ¬ (Str.ofString "read" = Str.ofString "add") := by decide
      refine ⟨o, Gives.eq (RfP_run rfl ?_)⟩
      simp -implicitDefEqProofs [b__law_step, startEn, arSl, outsOf, canPut_eq, noAli_eq, opD, e5, e6, e7, e8, e9]
      omega
  refine ⟨fun r => ?_, some o, .num (by simp), ?_⟩
  · obtain ⟨o2, e⟩ := key r
    exact ⟨_, _, e, fun _ => .counter o2⟩
  · obtain ⟨o2, e⟩ := key (some o)
    exact ⟨.int o2, by rw [e]; simp⟩
theorem step_lock {m : Nat} {S : List Int} {o : Option Int} {nm : Str} {ar : Option Int} {c s e : Int} (ha : Ask .lock nm ar) : StepP .lock m S (optD o) nm ar c s e := by
  have hz := sizeLine_big
  have e4 : sEq (.str (Kd.str .lock)) (.str "register") = some (.bool false) := rfl
  have e5 : sEq (.str (Kd.str .lock)) (.str "counter") = some (.bool false) := rfl
  have e6 : sEq (.str (Kd.str .lock)) (.str "lock") = some (.bool true) := rfl
  have key : ∃ v : Int, (v = 0 ∨ v = 1) ∧ ∃ o2 : Option Int, ∀ r : Option Int, f__law_step [.v (.str (Kd.str .lock)), .v (optD o), .v (opD c s e nm ar r)] = .ok (.v (.tuple [.bool (decide (r = some v)), optD o2])) [] := by
    cases ha with
    | lockT =>
      refine ⟨if o.isNone = true then 1 else 0, by split <;> simp, if o.isNone = true then some c else o, fun r => ?_⟩
      have e7 : sEq (optD r) (.int (if o.isNone = true then 1 else 0)) = some (.bool (decide (r = some (if o.isNone = true then 1 else 0)))) := sEq_opt r (some _)
      have e8 := sIs_opt o
      refine Gives.eq (RfP_run rfl ?_)
      cases o with
      | none =>
        simp -implicitDefEqProofs at e7
        simp -implicitDefEqProofs [b__law_step, startEn, arSl, outsOf, canPut_eq, noAli_eq, opD, e4, e5, e6, e7]
        omega
      | some j =>
        simp -implicitDefEqProofs at e7
        simp -implicitDefEqProofs [b__law_step, startEn, arSl, outsOf, canPut_eq, noAli_eq, opD, e4, e5, e6, e7]
        omega
    | lockF =>
      have e9 : ¬ (Str.ofString "free" = Str.ofString "take") := by decide
      have e10 : ((Str.ofString "free" == Str.ofString "take") : Bool) = false := rfl
      have e8 : sEq (optD o) (.int c) = some (.bool (decide (o = some c))) := sEq_opt o (some c)
      by_cases h : o = some c
      · refine ⟨1, .inr rfl, none, fun r => ?_⟩
        have e7 : sEq (optD r) (.int 1) = some (.bool (decide (r = some 1))) := sEq_opt r (some 1)
        refine Gives.eq (RfP_run rfl ?_)
        simp -implicitDefEqProofs [b__law_step, startEn, arSl, outsOf, canPut_eq, noAli_eq, opD, e4, e5, e6, e7, e8, e9, e10, h]
        omega
      · refine ⟨0, .inl rfl, o, fun r => ?_⟩
        have e7 : sEq (optD r) (.int 0) = some (.bool (decide (r = some 0))) := sEq_opt r (some 0)
        refine Gives.eq (RfP_run rfl ?_)
        simp -implicitDefEqProofs [b__law_step, startEn, arSl, outsOf, canPut_eq, noAli_eq, opD, e4, e5, e6, e7, e8, e9, e10, h]
        omega
  obtain ⟨v, hv, o2, key⟩ := key
  refine ⟨fun r => ⟨_, _, key r, fun _ => .lock o2⟩, some v, ?_, optD o2, by rw [key]; simp⟩
  rcases hv with rfl | rfl
  · exact .zero
  · exact .one
end DL
/-! De3: one step of a set, of a map. -/
namespace DL
open PySem PySem.Spec L2
open PyProof.Rows hiding St
theorem step_set {m : Nat} {S : List Int} {ns : List Int} {nm : Str} {ar : Option Int} {c s e : Int} (hl : ns.length ≤ m) (hm : m ≤ 40) (ha : Ask .set nm ar) : StepP .set m S (.tuple (ns.map .int)) nm ar c s e := by
  have hz := sizeLine_big
  have e2 : sEq (.str (Kd.str .set)) (.str "register") = some (.bool false) := rfl
  have e3 : sEq (.str (Kd.str .set)) (.str "counter") = some (.bool false) := rfl
  have e4 : sEq (.str (Kd.str .set)) (.str "lock") = some (.bool false) := rfl
  have e5 : sEq (.str (Kd.str .set)) (.str "map") = some (.bool false) := rfl
  have e6 : sEq (.str (Kd.str .set)) (.str "set") = some (.bool true) := rfl
  obtain ⟨i, rfl⟩ : ∃ i, ar = some i := by cases ha <;> exact ⟨_, rfl⟩
  obtain ⟨b, eb⟩ := sIn_ints i ns
  obtain ⟨ms, em, el⟩ := neF_ints i ns
  have e7 : (ms.map PyData.int) ++ [.int i] = (ms ++ [i]).map PyData.int := by simp
  have cs := canSort_ints (ms ++ [i])
  obtain ⟨qs, f1, f2⟩ := sort_of (f := PyData.int) (ms ++ [i])
  rw [List.length_append] at f2
  have f3 : qs.length ≤ m + 1 := by simp at f2; omega
  have key : ∃ v : Int, (v = 0 ∨ v = 1) ∧ ∃ ns2 : List Int, ns2.length ≤ m + 1 ∧ ∀ r : Option Int, f__law_step [.v (.str (Kd.str .set)), .v (.tuple (ns.map .int)), .v (opD c s e nm (some i) r)] = .ok (.v (.tuple [.bool (decide (r = some v)), .tuple (ns2.map .int)])) [] := by
    have h1 : sEq (.str "has") (.str "has") = some (.bool true) := rfl
    have h2 : sEq (.str "add") (.str "has") = some (.bool false) := rfl
    have h3 : sEq (.str "drop") (.str "has") = some (.bool false) := rfl
    have h4 : sEq (.str "add") (.str "drop") = some (.bool false) := rfl
    have h5 : sEq (.str "drop") (.str "drop") = some (.bool true) := rfl
    generalize hx : PyData.tuple (ns.map .int) = x
    cases ha with
    | setA =>
      refine ⟨1 - (if b then 1 else 0), by cases b <;> simp, qs, f3, fun r => ?_⟩
      have e8 : sEq (optD r) (.int (1 - (if b then 1 else 0))) = some (.bool (decide (r = some (1 - (if b then 1 else 0))))) := sEq_opt r (some _)
      refine Gives.eq (RfP_run rfl ?_)
      subst hx
      simp -implicitDefEqProofs [b__law_step, startEn, arSl, canPut_eq, noAli_eq, opD, e2, e3, e4, e5, e6]
      refine RsP_compL (neF i) rfl (by simp; omega) (fun d hd => ?_) ?_
      · obtain ⟨j, hj, rfl⟩ := List.mem_map.mp hd
        simp -implicitDefEqProofs [tgName, canPut_eq, noAli_eq, unw_nil, unw_val, unw_un, neF]
      · rw [em]
        simp -implicitDefEqProofs [canPut_eq, noAli_eq, eb, h2, h4, -sEq_s, e8]
        refine ⟨by omega, by omega, ?_⟩
        rw [e7]
        simp -implicitDefEqProofs [cs, f1, outsOf, -List.map_append]
        omega
    | setD =>
      refine ⟨(if b then 1 else 0), by cases b <;> simp, ms, by omega, fun r => ?_⟩
      have e8 : sEq (optD r) (.int (if b then 1 else 0)) = some (.bool (decide (r = some (if b then 1 else 0)))) := sEq_opt r (some _)
      refine Gives.eq (RfP_run rfl ?_)
      subst hx
      simp -implicitDefEqProofs [b__law_step, startEn, arSl, canPut_eq, noAli_eq, opD, e2, e3, e4, e5, e6]
      refine RsP_compL (neF i) rfl (by simp; omega) (fun d hd => ?_) ?_
      · obtain ⟨j, hj, rfl⟩ := List.mem_map.mp hd
        simp -implicitDefEqProofs [tgName, canPut_eq, noAli_eq, unw_nil, unw_val, unw_un, neF]
      · rw [em]
        simp -implicitDefEqProofs [canPut_eq, noAli_eq, eb, h3, h5, -sEq_s, e8, outsOf]
        omega
    | setH =>
      refine ⟨(if b then 1 else 0), by cases b <;> simp, ns, by omega, fun r => ?_⟩
      have e8 : sEq (optD r) (.int (if b then 1 else 0)) = some (.bool (decide (r = some (if b then 1 else 0)))) := sEq_opt r (some _)
      refine Gives.eq (RfP_run rfl ?_)
      subst hx
      simp -implicitDefEqProofs [b__law_step, startEn, arSl, canPut_eq, noAli_eq, opD, e2, e3, e4, e5, e6]
      refine RsP_compL (neF i) rfl (by simp; omega) (fun d hd => ?_) ?_
      · obtain ⟨j, hj, rfl⟩ := List.mem_map.mp hd
        simp -implicitDefEqProofs [tgName, canPut_eq, noAli_eq, unw_nil, unw_val, unw_un, neF]
      · rw [em]
        simp -implicitDefEqProofs [canPut_eq, noAli_eq, eb, h1, -sEq_s, e8, outsOf]
        omega
  obtain ⟨v, hv, ns2, h2, key⟩ := key
  refine ⟨fun r => ⟨_, _, key r, fun _ => .set ns2 h2⟩, some v, ?_, .tuple (ns2.map .int), by rw [key]; simp⟩
  rcases hv with rfl | rfl
  · exact .zero
  · exact .one
theorem neK_is (k : Int) : ∀ ns : List (Int × Int), (ns.map prD).filterMap (neK k) = (ns.filter fun p => decide (p.1 ≠ k)).map prD
  | [] => rfl
  | n :: r => by
    rw [List.map_cons, List.filterMap_cons, List.filter_cons]
    have ih := neK_is k r
    by_cases h : n.1 = k
    · simp [neK, prD, h] at ih ⊢
      exact ih
    · simp [neK, prD, h] at ih ⊢
      exact ih
theorem eqK_is (k : Int) : ∀ ns : List (Int × Int), (ns.map prD).filterMap (eqK k) = ((ns.filter fun p => decide (p.1 = k)).map (·.2)).map .int
  | [] => rfl
  | n :: r => by
    rw [List.map_cons, List.filterMap_cons, List.filter_cons]
    have ih := eqK_is k r
    by_cases h : n.1 = k
    · simp [eqK, prD, h] at ih ⊢
      exact ih
    · simp [eqK, prD, h] at ih ⊢
      exact ih
theorem nodup_one {k : Int} : ∀ {ns : List (Int × Int)}, (ns.map (·.1)).Nodup → (ns.filter fun p => decide (p.1 = k)).length ≤ 1
  | [], _ => Nat.zero_le _
  | n :: r, h => by
    rw [List.map_cons, List.nodup_cons] at h
    rw [List.filter_cons]
    by_cases e : n.1 = k
    · have : (r.filter fun p => decide (p.1 = k)) = [] := by
        rw [List.filter_eq_nil_iff]
        intro p hp z
        refine h.1 (List.mem_map.mpr ⟨p, hp, ?_⟩)
        rw [e]
        exact of_decide_eq_true z
      rw [if_pos (decide_eq_true e), this]
      exact Nat.le_refl _
    · rw [if_neg (by simpa using e)]
      exact nodup_one h.2
theorem sort_keys (ns : List (Int × Int)) : ∃ qs : List (Int × Int), sortD (ns.map prD) = qs.map prD ∧ qs.length = ns.length ∧ ((qs.map (·.1)).Nodup ↔ (ns.map (·.1)).Nodup) := by
  obtain ⟨qs, e, l⟩ := sort_of (f := prD) ns
  refine ⟨qs, e, l, ?_⟩
  have hp := (List.mergeSort_perm (ns.map prD) (PySem.W.dataLe false fun d => d)).map fun d => match d with | .tuple [.int a, _] => a | _ => 0
  have e1 : ((ns.map prD).mergeSort (PySem.W.dataLe false fun d => d)) = qs.map prD := e
  rw [e1, List.map_map, List.map_map] at hp
  exact hp.nodup_iff
end DL
/-! De4: one step of a map. -/
namespace DL
open PySem PySem.Spec L2
open PyProof.Rows hiding St
theorem map_step {m : Nat} {ns : List (Int × Int)} {nm : Str} {i : Int} (hl : ns.length ≤ m) (hm : m ≤ 40) (hu : (ns.map (·.1)).Nodup) (ha : nm = "put" ∨ nm = "drop" ∨ nm = "get") :
    ∃ (b : Option Int → Bool) (ns2 : List (Int × Int)), ns2.length ≤ m + 1 ∧ (ns2.map (·.1)).Nodup ∧ (∀ r : Option Int, f__law_map_step [.v (.tuple (ns.map prD)), .v (.str nm), .v (.int i), .v (optD r)] = .ok (.v (.tuple [.bool (b r), .tuple (ns2.map prD)])) []) ∧ ∃ r, Cand .map (.tuple (ns.map prD)) r ∧ b r = true := by
  have hz := sizeLine_big
  have l10 : Nat.log2 1000 < 9000 := by decide +kernel
  have g1 : sEq (.str "put") (.str "put") = some (.bool true) := rfl
  have g2 : sEq (.str "drop") (.str "put") = some (.bool false) := rfl
  have g3 : sEq (.str "get") (.str "put") = some (.bool false) := rfl
  have g4 : sEq (.str "drop") (.str "drop") = some (.bool true) := rfl
  have g5 : sEq (.str "get") (.str "drop") = some (.bool false) := rfl
  have rest : ∀ key : Int, (ns.filter fun p => decide (p.1 ≠ key)).length ≤ ns.length ∧ ((ns.filter fun p => decide (p.1 ≠ key)).map (·.1)).Nodup ∧ key ∉ (ns.filter fun p => decide (p.1 ≠ key)).map (·.1) := fun key => by
    refine ⟨List.length_filter_le _ _, List.Nodup.sublist (List.Sublist.map _ List.filter_sublist) hu, fun z => ?_⟩
    obtain ⟨p, hp, e⟩ := List.mem_map.mp z
    have := (List.mem_filter.mp hp).2
    simp at this
    exact this e
  have one : ∀ key : Int, ((ns.filter fun p => decide (p.1 = key)).map (·.2)).length ≤ 1 := fun key => by
    rw [List.length_map]
    exact nodup_one hu
  have mem : ∀ key : Int, ∀ x ∈ (ns.filter fun p => decide (p.1 = key)).map (·.2), Cand .map (.tuple (ns.map prD)) (some x) := fun key x hx => by
    obtain ⟨p, hp, rfl⟩ := List.mem_map.mp hx
    exact .row (List.mem_filter.mp hp).1
  have wl : ∀ key : Int, ((ns.filter fun p => decide (p.1 = key)).map (·.2)).length ≤ ns.length := fun key => by
    rw [List.length_map]
    exact List.length_filter_le _ _
  rcases ha with rfl | rfl | rfl
  · obtain ⟨r1, r2, r3⟩ := rest (i / 1000)
    have w1 := wl (i / 1000)
    have n1 := neK_is (i / 1000) ns
    have n2 := eqK_is (i / 1000) ns
    generalize (ns.filter fun p => decide (p.1 ≠ i / 1000)) = ms at r1 r2 r3 n1
    generalize ((ns.filter fun p => decide (p.1 = i / 1000)).map (·.2)) = ws at n2 w1
    have e2 : (ms.map prD) ++ [.tuple [.int (i / 1000), .int (i % 1000)]] = (ms ++ [(i / 1000, i % 1000)]).map prD := by simp [prD]
    have cs := canSort_prs (ms ++ [(i / 1000, i % 1000)])
    obtain ⟨qs, f1, f2, f3⟩ := sort_keys (ms ++ [(i / 1000, i % 1000)])
    rw [List.length_append] at f2
    refine ⟨fun _ => true, qs, by simp at f2; omega, f3.mpr ?_, fun r => ?_, none, .none, rfl⟩
    · rw [List.map_append, List.nodup_append]
      refine ⟨r2, by simp, fun a ha b hb => ?_⟩
      simp at hb
      subst hb
      exact fun z => r3 (z ▸ ha)
    · generalize hx : PyData.tuple (ns.map prD) = x
      refine Gives.eq (RfP_run rfl ?_)
      subst hx
      simp -implicitDefEqProofs [b__law_map_step, startEn, arSl, canPut_eq, noAli_eq, g1, -sEq_s]
      refine ⟨l10, ?_⟩
      refine RsP_compL (neK (i / 1000)) rfl (by simp; omega) (fun d hd => ?_) ?_
      · obtain ⟨j, hj, rfl⟩ := List.mem_map.mp hd
        simp -implicitDefEqProofs [tgName, canPut_eq, noAli_eq, unw_nil, unw_val, unw_un, neK, prD]
      · rw [n1]
        simp -implicitDefEqProofs
        refine RsP_compL (eqK (i / 1000)) rfl (by simp; omega) (fun d hd => ?_) ?_
        · obtain ⟨j, hj, rfl⟩ := List.mem_map.mp hd
          simp -implicitDefEqProofs [tgName, canPut_eq, noAli_eq, unw_nil, unw_val, unw_un, eqK, prD]
        · rw [n2]
          simp -implicitDefEqProofs [canPut_eq, noAli_eq, g1, -sEq_s, -List.map_append]
          refine ⟨rfl, by omega, by omega, by omega, ?_⟩
          rw [e2]
          simp -implicitDefEqProofs [cs, f1, outsOf, -List.map_append]
          omega
  · obtain ⟨r1, r2, r3⟩ := rest i
    have w1 := wl i
    have o1 := one i
    have n1 := neK_is i ns
    have n2 := eqK_is i ns
    generalize (ns.filter fun p => decide (p.1 ≠ i)) = ms at r1 r2 r3 n1
    generalize ((ns.filter fun p => decide (p.1 = i)).map (·.2)) = ws at n2 w1 o1
    refine ⟨fun r => decide (r = some (ws.length : Int)), ms, by omega, r2, fun r => ?_, some (ws.length : Int), ?_, by simp⟩
    · have e8 : sEq (optD r) (.int (ws.length : Int)) = some (.bool (decide (r = some (ws.length : Int)))) := sEq_opt r (some _)
      generalize hx : PyData.tuple (ns.map prD) = x
      refine Gives.eq (RfP_run rfl ?_)
      subst hx
      simp -implicitDefEqProofs [b__law_map_step, startEn, arSl, canPut_eq, noAli_eq, g2, -sEq_s]
      refine RsP_compL (neK i) rfl (by simp; omega) (fun d hd => ?_) ?_
      · obtain ⟨j, hj, rfl⟩ := List.mem_map.mp hd
        simp -implicitDefEqProofs [tgName, canPut_eq, noAli_eq, unw_nil, unw_val, unw_un, neK, prD]
      · rw [n1]
        simp -implicitDefEqProofs
        refine RsP_compL (eqK i) rfl (by simp; omega) (fun d hd => ?_) ?_
        · obtain ⟨j, hj, rfl⟩ := List.mem_map.mp hd
          simp -implicitDefEqProofs [tgName, canPut_eq, noAli_eq, unw_nil, unw_val, unw_un, eqK, prD]
        · rw [n2]
          simp -implicitDefEqProofs [canPut_eq, noAli_eq, g2, g4, -sEq_s, e8, outsOf]
          exact ⟨rfl, by omega⟩
    · match ws, o1 with
      | [], _ => exact .zero
      | [x], _ => exact .one
  · have w1 := wl i
    have o1 := mem i
    obtain ⟨r1, r2, r3⟩ := rest i
    have n1 := neK_is i ns
    have n2 := eqK_is i ns
    generalize (ns.filter fun p => decide (p.1 ≠ i)) = ms at r1 r2 r3 n1
    generalize ((ns.filter fun p => decide (p.1 = i)).map (·.2)) = ws at n2 w1 o1
    refine ⟨fun r => decide (r = ws.head?), ns, by omega, hu, fun r => ?_, ws.head?, ?_, by simp⟩
    · have e8 := sEq_opt r ws.head?
      generalize hx : PyData.tuple (ns.map prD) = x
      refine Gives.eq (RfP_run rfl ?_)
      subst hx
      simp -implicitDefEqProofs [b__law_map_step, startEn, arSl, canPut_eq, noAli_eq, g3, -sEq_s]
      refine RsP_compL (neK i) rfl (by simp; omega) (fun d hd => ?_) ?_
      · obtain ⟨j, hj, rfl⟩ := List.mem_map.mp hd
        simp -implicitDefEqProofs [tgName, canPut_eq, noAli_eq, unw_nil, unw_val, unw_un, neK, prD]
      · rw [n1]
        simp -implicitDefEqProofs
        refine RsP_compL (eqK i) rfl (by simp; omega) (fun d hd => ?_) ?_
        · obtain ⟨j, hj, rfl⟩ := List.mem_map.mp hd
          simp -implicitDefEqProofs [tgName, canPut_eq, noAli_eq, unw_nil, unw_val, unw_un, eqK, prD]
        · rw [n2]
          have e9 := neNilL ws
          simp -implicitDefEqProofs [canPut_eq, noAli_eq, g3, g5, -sEq_s, e9]
          refine ⟨rfl, ?_⟩
          cases ws with
          | nil =>
            have e10 : sEq (optD r) .none = some (.bool (decide (r = none))) := sEq_opt r none
            simp -implicitDefEqProofs [e10, outsOf]
            omega
          | cons a w =>
            have e10 : sEq (optD r) (.int a) = some (.bool (decide (r = some a))) := sEq_opt r (some a)
            simp -implicitDefEqProofs [e10, outsOf]
            omega
    · cases ws with
      | nil => exact .none
      | cons a w => exact o1 a List.mem_cons_self
theorem step_map {m : Nat} {S : List Int} {ns : List (Int × Int)} {nm : Str} {ar : Option Int} {c s e : Int} (hl : ns.length ≤ m) (hm : m ≤ 40) (hu : (ns.map (·.1)).Nodup) (ha : Ask .map nm ar) : StepP .map m S (.tuple (ns.map prD)) nm ar c s e := by
  have hz := sizeLine_big
  obtain ⟨i, rfl, hn⟩ : ∃ i, ar = some i ∧ (nm = "put" ∨ nm = "drop" ∨ nm = "get") := by cases ha <;> exact ⟨_, rfl, by simp⟩
  obtain ⟨b, ns2, h1, h2, key, r, h3, h4⟩ := map_step (i := i) hl hm hu hn
  have e2 : sEq (.str (Kd.str .map)) (.str "register") = some (.bool false) := rfl
  have e3 : sEq (.str (Kd.str .map)) (.str "counter") = some (.bool false) := rfl
  have e4 : sEq (.str (Kd.str .map)) (.str "lock") = some (.bool false) := rfl
  have e5 : sEq (.str (Kd.str .map)) (.str "map") = some (.bool true) := rfl
  have all : ∀ r : Option Int, f__law_step [.v (.str (Kd.str .map)), .v (.tuple (ns.map prD)), .v (opD c s e nm (some i) r)] = .ok (.v (.tuple [.bool (b r), .tuple (ns2.map prD)])) [] := fun r => by
    have k := key r
    generalize PyData.tuple (ns.map prD) = x at k ⊢
    refine Gives.eq (RfP_run rfl ?_)
    simp -implicitDefEqProofs [b__law_step, startEn, arSl, canPut_eq, noAli_eq, opD, e2, e3, e4, e5, CallP, k, outsOf]
  exact ⟨fun r => ⟨_, _, all r, fun _ => .map ns2 h1 h2⟩, r, h3, .tuple (ns2.map prD), by rw [all, h4]⟩
end DL
/-! De5: one step of a bag, a queue, a stack, a priority queue. -/
namespace DL
open PySem PySem.Spec L2
open PyProof.Rows hiding St
theorem inB_ints (i : Int) (ns : List Int) : inB (.int i) (.tuple (ns.map .int)) = some (decide (i ∈ ns)) := by
  have e : inB (.int i) (.tuple (ns.map .int)) = some ((ns.map PyData.int).any fun z => PyData.eqv z (.int i)) := by
    show (if flatD (.int i) = true ∧ (ns.map PyData.int).all flatD = true then some ((ns.map PyData.int).any fun z => PyData.eqv z (.int i)) else none) = _
    rw [if_pos ⟨rfl, all_flat_ints ns⟩]
  rw [e, List.any_map]
  congr 1
  rw [Bool.eq_iff_iff, decide_eq_true_iff, List.any_eq_true]
  constructor
  · rintro ⟨x, hx, z⟩
    have : x = i := by simpa [PyData.eqv] using z
    exact this ▸ hx
  · intro h
    exact ⟨i, h, by simp [PyData.eqv]⟩
theorem sIn_is (i : Int) (ns : List Int) : sIn (.int i) (.tuple (ns.map .int)) = some (.bool (decide (i ∈ ns))) := by
  unfold sIn
  rw [inB_ints]
  rfl
theorem sNotIn_is (i : Int) (ns : List Int) : sNotIn (.int i) (.tuple (ns.map .int)) = some (.bool (!decide (i ∈ ns))) := by
  unfold sNotIn
  rw [inB_ints]
  rfl
theorem last_mem (n : Int) (r : List Int) : ∃ i ∈ n :: r, atI ((n :: r).map PyData.int) (-1) = some (.int i) := by
  have hne : n :: r ≠ [] := List.cons_ne_nil _ _
  refine ⟨(n :: r).getLast hne, List.getLast_mem hne, ?_⟩
  have e : (n :: r).map PyData.int = (n :: r).dropLast.map PyData.int ++ [.int ((n :: r).getLast hne)] := by
    rw [← List.map_singleton, ← List.map_append, List.dropLast_concat_getLast]
  rw [e]
  exact atI_last _ _
theorem neF_is (k : Int) : ∀ ns : List Int, (ns.map PyData.int).filterMap (neF k) = (ns.filter fun p => decide (p ≠ k)).map .int
  | [] => rfl
  | n :: r => by
    rw [List.map_cons, List.filterMap_cons, List.filter_cons]
    have ih := neF_is k r
    by_cases h : n = k
    · simp [neF, h] at ih ⊢
      exact ih
    · simp [neF, h] at ih ⊢
      exact ih
theorem sort_mem (ns : List Int) : ∃ qs : List Int, sortD (ns.map .int) = qs.map .int ∧ qs.length = ns.length ∧ ∀ x, x ∈ qs ↔ x ∈ ns := by
  obtain ⟨qs, e, l⟩ := sort_of (f := PyData.int) ns
  refine ⟨qs, e, l, fun x => ?_⟩
  have hp := List.mergeSort_perm (ns.map PyData.int) (PySem.W.dataLe false fun d => d)
  have e1 : ((ns.map PyData.int).mergeSort (PySem.W.dataLe false fun d => d)) = qs.map .int := e
  rw [e1] at hp
  have := hp.mem_iff (a := PyData.int x)
  simpa using this
section
variable {k : Kd} {m : Nat} {S ns : List Int} {nm : Str} {ar : Option Int} {c s e i : Int}
theorem box_in2 (hk : k.isBox = true) : sIn (.str k.str) (.tuple [.str "bag", .str "least"]) = some (.bool k.isSort) := in2 k
theorem box_not (hk : k.isBox = true) : sEq (.str k.str) (.str "register") = some (.bool false) ∧ sEq (.str k.str) (.str "counter") = some (.bool false) ∧ sEq (.str k.str) (.str "lock") = some (.bool false) ∧ sEq (.str k.str) (.str "map") = some (.bool false) ∧ sEq (.str k.str) (.str "set") = some (.bool false) := by
  cases k <;> first | (cases hk; done) | exact ⟨rfl, rfl, rfl, rfl, rfl⟩
theorem step_put (hk : k.isBox = true) (hl : ns.length ≤ m) (hm : m ≤ 40) (hS : ∀ x ∈ ns, x ∈ S) (hi : i ∉ S) : StepP k m S (.tuple (ns.map .int)) "put" (some i) c s e := by
  have hz := sizeLine_big
  obtain ⟨e2, e3, e4, e5, e6⟩ := box_not hk
  have e7 := box_in2 hk
  have g1 : sEq (.str "put") (.str "put") = some (.bool true) := rfl
  have hn : decide (i ∈ ns) = false := decide_eq_false fun z => hi (hS i z)
  have e8 := sNotIn_is i ns
  rw [hn] at e8
  obtain ⟨qs, f1, f2, f3⟩ := sort_mem (ns ++ [i])
  have cs := canSort_ints (ns ++ [i])
  have e9 : (ns.map PyData.int) ++ [.int i] = (ns ++ [i]).map PyData.int := by simp
  rw [List.length_append] at f2
  have key : ∃ ns2 : List Int, ns2.length ≤ m + 1 ∧ (∀ x ∈ ns2, x ∈ i :: S) ∧ ∀ r : Option Int, f__law_step [.v (.str k.str), .v (.tuple (ns.map .int)), .v (opD c s e "put" (some i) r)] = .ok (.v (.tuple [.bool true, .tuple (ns2.map .int)])) [] := by
    cases hs : k.isSort with
    | true =>
      refine ⟨qs, by simp at f2; omega, fun x hx => ?_, fun r => ?_⟩
      · rcases List.mem_append.mp ((f3 x).mp hx) with z | z
        · exact List.mem_cons_of_mem _ (hS x z)
        · have : x = i := by simpa using z
          subst this
          exact List.mem_cons_self
      · rw [hs] at e7
        generalize hx : PyData.tuple (ns.map .int) = x at e8
        refine Gives.eq (RfP_run rfl ?_)
        subst hx
        simp -implicitDefEqProofs [b__law_step, startEn, arSl, canPut_eq, noAli_eq, opD, e2, e3, e4, e5, e6, e7, e8, g1, -sEq_s, -List.map_append]
        refine ⟨by omega, by omega, by omega, ?_⟩
        rw [e9]
        simp -implicitDefEqProofs [cs, f1, outsOf, -List.map_append]
        omega
    | false =>
      refine ⟨ns ++ [i], by simp; omega, fun x hx => ?_, fun r => ?_⟩
      · rcases List.mem_append.mp hx with z | z
        · exact List.mem_cons_of_mem _ (hS x z)
        · have : x = i := by simpa using z
          subst this
          exact List.mem_cons_self
      · rw [hs] at e7
        generalize hx : PyData.tuple (ns.map .int) = x at e8
        refine Gives.eq (RfP_run rfl ?_)
        subst hx
        simp -implicitDefEqProofs [b__law_step, startEn, arSl, canPut_eq, noAli_eq, opD, e2, e3, e4, e5, e6, e7, g1, -sEq_s, outsOf]
        omega
  obtain ⟨ns2, h1, h2, key⟩ := key
  exact ⟨fun r => ⟨_, _, key r, fun _ => .box ns2 hk h1 h2⟩, none, .none, _, key none⟩
end
end DL
/-! De6: one get. -/
namespace DL
open PySem PySem.Spec L2
open PyProof.Rows hiding St
def heldB (k : Kd) (q f l : Bool) : Bool := match k with
  | .bag => q
  | .stack => l
  | _ => f
section
variable {k : Kd} {m : Nat} {S ns : List Int} {c s e : Int}
theorem held_at (hk : k.isBox = true) (q f l : Bool) : sDIx (.dict [(.str "bag", .bool q), (.str "queue", .bool f), (.str "stack", .bool l), (.str "least", .bool f)]) (.str k.str) = some (.bool (heldB k q f l)) := by
  cases k <;> first | (cases hk; done) | rfl
theorem putP4 (a b c d : D) : putP (putP (putP (putP [] (.str "bag") a) (.str "queue") b) (.str "stack") c) (.str "least") d = [(.str "bag", a), (.str "queue", b), (.str "stack", c), (.str "least", d)] := rfl
theorem step_get (hk : k.isBox = true) (hl : ns.length ≤ m) (hm : m ≤ 40) (hS : ∀ x ∈ ns, x ∈ S) : StepP k m S (.tuple (ns.map .int)) "get" none c s e := by
  have hz := sizeLine_big
  obtain ⟨e2, e3, e4, e5, e6⟩ := box_not hk
  have g1 : sEq (.str "get") (.str "put") = some (.bool false) := rfl
  have e7 := eqNil ns
  cases ns with
  | nil =>
    have key : ∀ r : Option Int, f__law_step [.v (.str k.str), .v (.tuple (([] : List Int).map .int)), .v (opD c s e "get" none r)] = .ok (.v (.tuple [.bool r.isNone, .tuple (([] : List Int).map .int)])) [] := fun r => by
      have e8 := sIs_opt r
      generalize hx : PyData.tuple (([] : List Int).map .int) = x at e7
      refine Gives.eq (RfP_run rfl ?_)
      cases r with
      | none =>
        simp -implicitDefEqProofs [b__law_step, startEn, arSl, canPut_eq, noAli_eq, opD, e2, e3, e4, e5, e6, e7, g1, -sEq_s, outsOf]
        omega
      | some j =>
        simp -implicitDefEqProofs [b__law_step, startEn, arSl, canPut_eq, noAli_eq, opD, e2, e3, e4, e5, e6, e7, g1, -sEq_s, outsOf]
        omega
    exact ⟨fun r => ⟨_, _, key r, fun _ => .box [] hk (Nat.zero_le _) fun x hx => nomatch hx⟩, none, .none, _, key none⟩
  | cons a w =>
    obtain ⟨l, hlm, el⟩ := last_mem a w
    have e0 : atI ((a :: w).map PyData.int) 0 = some (.int a) := by simp
    have hcut : sSl none (some (-1)) (.tuple ((a :: w).map .int)) = some (.tuple ((a :: w).dropLast.map .int)) := by
      show some (PyData.tuple (cutD ((a :: w).map PyData.int) none (some (-1)))) = _
      rw [cut_last _ (by simp), List.map_dropLast]
    have rest : ∀ x : Int, ∃ ns2 : List Int, ns2.length ≤ m ∧ (∀ y ∈ ns2, y ∈ S) ∧ f__law_step [.v (.str k.str), .v (.tuple ((a :: w).map .int)), .v (opD c s e "get" none (some x))] = .ok (.v (.tuple [.bool (heldB k (decide (x ∈ a :: w)) (decide (a = x)) (decide (l = x))), .tuple (ns2.map .int)])) [] := fun x => by
      have e8 := sIn_is x (a :: w)
      have e9 : sEq (.int a) (.int x) = some (.bool (decide (a = x))) := (sEq_opt (some a) (some x)).trans (by simp)
      have e10 : sEq (.int l) (.int x) = some (.bool (decide (l = x))) := (sEq_opt (some l) (some x)).trans (by simp)
      have e11 := held_at hk (decide (x ∈ a :: w)) (decide (a = x)) (decide (l = x))
      have n1 := neF_is x (a :: w)
      have n2 : ((a :: w).filter fun p => decide (p ≠ x)).length ≤ (a :: w).length := List.length_filter_le _ _
      have n3 : ∀ y ∈ ((a :: w).filter fun p => decide (p ≠ x)), y ∈ a :: w := fun y hy => (List.mem_filter.mp hy).1
      generalize ((a :: w).filter fun p => decide (p ≠ x)) = fs at n1 n2 n3
      have e13 : sIx (.tuple ((a :: w).map .int)) (.int 0) = some (.int a) := e0
      have e14 : sIx (.tuple ((a :: w).map .int)) (.int (-1)) = some (.int l) := el
      have e15 : itAll (.tuple ((a :: w).map .int)) = some ((a :: w).map .int) := rfl
      generalize decide (x ∈ a :: w) = q at e8 e11 ⊢
      by_cases hst : k = .stack
      · refine ⟨(a :: w).dropLast, by simp at hl ⊢; omega, fun y hy => hS y ((List.dropLast_sublist _).subset hy), ?_⟩
        have e12 : sEq (.str k.str) (.str "stack") = some (.bool true) := by rw [hst]; rfl
        generalize hx : PyData.tuple ((a :: w).map .int) = X at e7 e8 hcut e13 e14 e15 ⊢
        refine Gives.eq (RfP_run rfl ?_)
        simp -implicitDefEqProofs [b__law_step, startEn, arSl, canPut_eq, noAli_eq, opD, e2, e3, e4, e5, e6, e7, g1, -sEq_s, -sEq_i, keysL, keyD]
        refine RsP_pairs ?_
        simp -implicitDefEqProofs [e8, unw_nil, unw_val, unw_un, DP_d, -sEq_s]
        refine RsP_pairs ?_
        simp -implicitDefEqProofs [e13, e9, unw_nil, unw_val, unw_un, -sEq_i, -sEq_s]
        refine RsP_pairs ?_
        simp -implicitDefEqProofs [e14, e10, unw_nil, unw_val, unw_un, -sEq_i, -sEq_s]
        refine RsP_pairs ?_
        simp -implicitDefEqProofs [e13, e9, unw_nil, unw_val, unw_un, -sEq_i, -sEq_s]
        rw [putP4]
        simp -implicitDefEqProofs [canPut_eq, noAli_eq, e11, e12, hcut, outsOf, -sEq_s]
        omega
      · refine ⟨fs, by omega, fun y hy => hS y (n3 y hy), ?_⟩
        have e12 : sEq (.str k.str) (.str "stack") = some (.bool false) := by
          cases k <;> first | rfl | exact absurd rfl hst
        generalize hx : PyData.tuple ((a :: w).map .int) = X at e7 e8 hcut e13 e14 e15 ⊢
        refine Gives.eq (RfP_run rfl ?_)
        simp -implicitDefEqProofs [b__law_step, startEn, arSl, canPut_eq, noAli_eq, opD, e2, e3, e4, e5, e6, e7, g1, -sEq_s, -sEq_i, keysL, keyD]
        refine RsP_pairs ?_
        simp -implicitDefEqProofs [e8, unw_nil, unw_val, unw_un, DP_d, -sEq_s]
        refine RsP_pairs ?_
        simp -implicitDefEqProofs [e13, e9, unw_nil, unw_val, unw_un, -sEq_i, -sEq_s]
        refine RsP_pairs ?_
        simp -implicitDefEqProofs [e14, e10, unw_nil, unw_val, unw_un, -sEq_i, -sEq_s]
        refine RsP_pairs ?_
        simp -implicitDefEqProofs [e13, e9, unw_nil, unw_val, unw_un, -sEq_i, -sEq_s]
        rw [putP4]
        simp -implicitDefEqProofs [canPut_eq, noAli_eq, e11, e12, e15, -sEq_s, -List.map_cons]
        refine RsP_compL (neF x) rfl (by simp at hl ⊢; omega) (fun d hd => ?_) ?_
        · obtain ⟨j, hj, rfl⟩ := List.mem_map.mp hd
          simp -implicitDefEqProofs [tgName, canPut_eq, noAli_eq, unw_nil, unw_val, unw_un, neF]
        · rw [n1]
          simp -implicitDefEqProofs [outsOf]
          omega
    have keyN : f__law_step [.v (.str k.str), .v (.tuple ((a :: w).map .int)), .v (opD c s e "get" none none)] = .ok (.v (.tuple [.bool false, .tuple ((a :: w).map .int)])) [] := by
      generalize hx : PyData.tuple ((a :: w).map .int) = X at e7
      refine Gives.eq (RfP_run rfl ?_)
      simp -implicitDefEqProofs [b__law_step, startEn, arSl, canPut_eq, noAli_eq, opD, e2, e3, e4, e5, e6, e7, g1, -sEq_s, outsOf]
      omega
    refine ⟨fun r => ?_, ?_⟩
    · cases r with
      | none => exact ⟨_, _, keyN, fun z => nomatch z⟩
      | some x =>
        obtain ⟨ns2, h1, h2, h3⟩ := rest x
        exact ⟨_, _, h3, fun _ => .box ns2 hk (by omega) h2⟩
    · by_cases hst : k = .stack
      · obtain ⟨ns2, h1, h2, h3⟩ := rest l
        refine ⟨some l, .item (by rw [hst]; exact fun z => nomatch z) hlm, .tuple (ns2.map .int), ?_⟩
        rw [h3]
        subst hst
        simp [heldB]
      · obtain ⟨ns2, h1, h2, h3⟩ := rest a
        refine ⟨some a, .item (fun z => by rw [z] at hk; cases hk) List.mem_cons_self, .tuple (ns2.map .int), ?_⟩
        rw [h3]
        cases k <;> first | (exact absurd rfl hst) | (simp [heldB]; done) | cases hk
theorem step_ok {k : Kd} {m : Nat} {S : List Int} {st : D} {nm : Str} {ar : Option Int} {c s e : Int} (hs : SX k m S st) (ha : Ask k nm ar) (hm : m ≤ 40) (new : ∀ i, k.isBox = true → ar = some i → i ∉ S) : StepP k m S st nm ar c s e := by
  cases hs with
  | register o => exact step_reg ha
  | counter i => exact step_cnt ha
  | lock o => exact step_lock ha
  | set ns hl => exact step_set hl hm ha
  | map ns hl hu => exact step_map hl hm hu ha
  | box ns hk hl hS =>
    have : (nm = "put" ∧ ∃ i, ar = some i) ∨ (nm = "get" ∧ ar = none) := by
      cases ha <;> first | (cases hk; done) | exact .inl ⟨rfl, _, rfl⟩ | exact .inr ⟨rfl, rfl⟩
    rcases this with ⟨rfl, i, rfl⟩ | ⟨rfl, rfl⟩
    · exact step_put hk hl hm hS (new i hk rfl)
    · exact step_get hk hl hm hS
end
end DL
/-! De7: the result of a member. -/
namespace DL
open PySem PySem.Spec L2
open PyProof.Rows hiding St
@[irreducible] def rs_0 : Bd := (bAsg (dVarF 2) (hTup 6 (hCons (hName 3) (hCons (hName 4) (hCons (hName 5) (hCons (hName 6) (hCons (hName 7) (hCons (hName 8) (hNil)))))))))
@[irreducible] def rs_1 : Bd := (bSet 9 (dIf (tOf (dOp sEq (dVar 0) (dC (.str "map")))) (dFz (oComp [14] (iOf itAll (dVarF 1)) (tgName 14) (tYesD) (dOp sIx (dVar 14) (dC (.int 1))))) (dIf (tOf (dUn isTup (dVar 1))) (dCallB sList (aCons (dVar 1) (aNil))) (dLst (aCons (dVarF 1) (aNil))))))
@[irreducible] def rs_2_0 : Bd := (bSet 11 (dTup (aCons (dVarF 3) (aCons (dVarF 4) (aCons (dVarF 6) (aCons (dVarF 7) (aCons (dVarF 8) (aCons (dVarF 10) (aNil)))))))))
@[irreducible] def rs_2_1 : Bd := (bAsg (dCall f__law_step [false, false, false] (aCons (dVarF 0) (aCons (dVarF 1) (aCons (dVarF 11) (aNil))))) (hTup 2 (hCons (hName 12) (hCons (hName 13) (hNil)))))
@[irreducible] def rs_2_2 : Bd := (bIf (tOf (dVar 12)) (bRet (dTup (aCons (dVarF 11) (aCons (dVarF 13) (aNil))))) (bNil))
@[irreducible] def rs_2_b : Bd := (bSeq rs_2_0 (bSeq rs_2_1 rs_2_2))
@[irreducible] def rs_2 : Bd := bFor (iOf itAll (dOp sAdd (dOp sAdd (dLst (aCons (dC .none) (aNil))) (dCallB sSorted (aCons (dFz (oComp [15] (iOf itAll (dVarF 9)) (tgName 15) (tOf (dOp sIsNot (dVar 15) (dC .none))) (dVar 15))) (aNil)))) (dLst (aCons (dC (.int 0)) (aCons (dC (.int 1)) (aNil)))))) (tgName 10) rs_2_b
@[irreducible] def rs_3 : Bd := (bRet (dTup (aCons (dC .none) (aCons (dVarF 1) (aNil)))))
theorem rs_cut : b__law_result = (bSeq rs_0 (bSeq rs_1 (bSeq rs_2 rs_3))) := by
  unfold rs_3 rs_2 rs_2_b rs_2_2 rs_2_1 rs_2_0 rs_1 rs_0
  rfl
def memD (c s pt e : Int) (nm : Str) (ar : Option Int) : D := .tuple [.int c, .int s, .int pt, .int e, .str nm, optD ar]
def nnF (d : D) : Option D := match d with
  | .none => none
  | d => some d
section
variable {k : Kd} {m : Nat} {S : List Int} {st : D} {nm : Str} {ar : Option Int} {c s pt e : Int}
/-- the slots behind the first two statements -/
def rsE (k : Kd) (st : D) (c s pt e : Int) (nm : Str) (ar : Option Int) (L : D) (a10 a11 a12 a13 : Option D) : En := [.val (.str k.str), .val st, .val (memD c s pt e nm ar), .val (.int c), .val (.int s), .val (.int pt), .val (.int e), .val (.str nm), .val (optD ar), .val L, pl a10, pl a11, pl a12, pl a13, .un, .un]
/-- what comes of a member -/
def ResP (k : Kd) (m : Nat) (S : List Int) (c s e : Int) (nm : Str) (ar : Option Int) (r : Rr) : Prop := ∃ (res : Option Int) (st' : D), r = .v (.tuple [opD c s e nm ar res, st']) ∧ SX k (m + 1) (ar.toList ++ S) st'
theorem opt_of {ms : List Int} {d : D} (h : d ∈ [PyData.none] ++ ms.map .int ++ [.int 0, .int 1]) : ∃ r : Option Int, d = optD r := by
  simp at h
  rcases h with rfl | ⟨x, _, rfl⟩ | rfl | rfl
  · exact ⟨none, rfl⟩
  · exact ⟨some x, rfl⟩
  · exact ⟨some 0, rfl⟩
  · exact ⟨some 1, rfl⟩
theorem rs_loop {L : List D} {ms : List Int} (hst : StepP k m S st nm ar c s e) (h1 : L.filterMap nnF = ms.map .int) (hl : L.length ≤ 41) (hms : ms.length ≤ 41) (hc : ∀ r, Cand k st r → r = none ∨ r = some 0 ∨ r = some 1 ∨ ∃ x ∈ ms, r = some x) {E : En → Ex → Prop} :
    OutP ((bSeq rs_2 rs_3) (rsE k st c s pt e nm ar (.list L) none none none none)) (fun _ => False) (fun _ r => ResP k m S c s e nm ar r) E := by
  have hz := sizeLine_big
  obtain ⟨qs, f1, f2, f3⟩ := sort_mem ms
  have cs := canSort_ints ms
  rw [OutP_seq]
  unfold rs_2
  rw [OutP_for]
  have e0 : ∀ (PI : En → List D → Prop), PI (rsE k st c s pt e nm ar (.list L) none none none none) ([PyData.none] ++ qs.map .int ++ [.int 0, .int 1]) → RsP (iOf itAll (dOp sAdd (dOp sAdd (dLst (aCons (dC .none) (aNil))) (dCallB sSorted (aCons (dFz (oComp [15] (iOf itAll (dVarF 9)) (tgName 15) (tOf (dOp sIsNot (dVar 15) (dC .none))) (dVar 15))) (aNil)))) (dLst (aCons (dC (.int 0)) (aCons (dC (.int 1)) (aNil))))) (rsE k st c s pt e nm ar (.list L) none none none none)) PI E := fun PI hPI => by
    unfold rsE
    simp -implicitDefEqProofs
    refine ⟨by omega, ?_⟩
    refine RsP_compL nnF rfl (by omega) (fun d hd => ?_) ?_
    · simp -implicitDefEqProofs [tgName, canPut_eq, noAli_eq, unw_nil, unw_val, unw_un]
      cases d <;> simp [nnF, isNone]
    · rw [h1]
      simp -implicitDefEqProofs [cs, f1]
      refine ⟨by omega, by omega, by omega, ?_⟩
      simpa [rsE] using hPI
  refine e0 _ ?_
  generalize hCL : [PyData.none] ++ qs.map .int ++ [.int 0, .int 1] = CL
  refine OutP_forL _ (fun i en => ∃ a10 a11 a12 a13, en = rsE k st c s pt e nm ar (.list L) a10 a11 a12 a13 ∧ ∀ j < i, ∀ r, CL[j]? = some (optD r) → ∀ st', f__law_step [.v (.str k.str), .v st, .v (opD c s e nm ar r)] ≠ .ok (.v (.tuple [.bool true, st'])) []) _ ⟨none, none, none, none, rfl, fun j hj => absurd hj (Nat.not_lt_zero _)⟩ (fun i d en ed hI => ?_) fun en hI => ?_
  · obtain ⟨a10, a11, a12, a13, rfl, hno⟩ := hI
    obtain ⟨r, rfl⟩ : ∃ r : Option Int, d = optD r := by
      have := List.mem_of_getElem? ed
      rw [← hCL] at this
      exact opt_of this
    obtain ⟨b, st', es, hb⟩ := hst.1 r
    unfold rs_2_b rs_2_0 rs_2_1 rs_2_2
    unfold opD at es
    simp -implicitDefEqProofs [rsE, tgName, canPut_eq, noAli_eq, CallP, es]
    refine ⟨by omega, ?_⟩
    cases b with
    | true =>
      simp -implicitDefEqProofs
      exact ⟨by omega, r, st', rfl, hb rfl⟩
    | false =>
      simp -implicitDefEqProofs
      refine ⟨⟨⟨some _, rfl⟩, ⟨some _, rfl⟩, ⟨some _, rfl⟩, some _, rfl⟩, fun j hj r' er st2 z => ?_⟩
      rcases Nat.lt_succ_iff_lt_or_eq.mp hj with h | h
      · exact hno j h r' er st2 z
      · subst h
        rw [ed] at er
        have e1 : optD r = optD r' := Option.some.inj er
        unfold opD at z
        rw [← e1, es] at z
        cases z
  · obtain ⟨a10, a11, a12, a13, rfl, hno⟩ := hI
    exfalso
    obtain ⟨r, hr, st', es⟩ := hst.2
    have hm : optD r ∈ CL := by
      rw [← hCL]
      rcases hc r hr with rfl | rfl | rfl | ⟨x, hx, rfl⟩
      · simp
      · simp
      · simp
      · have : x ∈ qs := (f3 x).mpr hx
        simp [this]
    obtain ⟨j, hj, ej⟩ := List.getElem_of_mem hm
    exact hno j hj r (by rw [List.getElem?_eq_getElem hj, ej]) st' es
theorem nn_ints (ns : List Int) : (ns.map PyData.int).filterMap nnF = ns.map .int := by
  induction ns with
  | nil => rfl
  | cons n r ih => rw [List.map_cons, List.filterMap_cons, ih]; rfl
theorem result_ok (hs : SX k m S st) (ha : Ask k nm ar) (hm : m ≤ 40) (new : ∀ i, k.isBox = true → ar = some i → i ∉ S) : RfP (f__law_result [.v (.str k.str), .v st, .v (memD c s pt e nm ar)]) (fun r os => os = [] ∧ ResP k m S c s e nm ar r) fun _ _ => False := by
  have hz := sizeLine_big
  have hst : StepP k m S st nm ar c s e := step_ok hs ha hm new
  have go : ∀ (L : List D) (ms : List Int), L.filterMap nnF = ms.map .int → L.length ≤ 41 → ms.length ≤ 41 → (∀ r, Cand k st r → r = none ∨ r = some 0 ∨ r = some 1 ∨ ∃ x ∈ ms, r = some x) →
      (∀ {N : En → Prop} {R : En → Rr → Prop} {E : En → Ex → Prop}, N (rsE k st c s pt e nm ar (.list L) none none none none) → OutP (rs_1 [.val (.str k.str), .val st, .val (memD c s pt e nm ar), .val (.int c), .val (.int s), .val (.int pt), .val (.int e), .val (.str nm), .val (optD ar), .un, .un, .un, .un, .un, .un, .un]) N R E) →
      RfP (f__law_result [.v (.str k.str), .v st, .v (memD c s pt e nm ar)]) (fun r os => os = [] ∧ ResP k m S c s e nm ar r) fun _ _ => False := fun L ms h1 h2 h3 h4 h5 => by
    have l1 := rs_loop (pt := pt) (E := fun _ _ => False) hst h1 h2 h3 h4
    generalize hx : memD c s pt e nm ar = x
    refine RfP_run rfl ?_
    subst hx
    rw [rs_cut, OutP_seq]
    unfold rs_0
    simp -implicitDefEqProofs [startEn, arSl, memD, canPut_eq, noAli_eq]
    refine h5 ?_
    rw [OutP_seq] at l1
    refine OutP.mono l1 (fun en z => ?_) (fun en r z => ?_) fun _ _ z => z
    · exact OutP.mono z (fun _ z => z.elim) (fun en r z => by simpa [outsOf] using z) fun _ _ z => z
    · simpa [outsOf] using z
  cases hs with
  | register o =>
    have e1 : isTup (optD o) = some (.bool false) := by cases o <;> rfl
    have e2 : sEq (.str (Kd.str .register)) (.str "map") = some (.bool false) := rfl
    refine go [optD o] o.toList ?_ (by simp) (by cases o <;> simp) (fun r hr => ?_) fun {N R E} hN => ?_
    · cases o <;> rfl
    · generalize hd : optD o = d at hr
      cases hr with
      | none => exact .inl rfl
      | zero => exact .inr (.inl rfl)
      | one => exact .inr (.inr (.inl rfl))
      | item h1 h2 => cases o <;> cases hd
      | num h1 =>
        cases o with
        | none => cases hd
        | some j => cases hd; exact .inr (.inr (.inr ⟨_, by simp, rfl⟩))
    · unfold rs_1
      simp -implicitDefEqProofs [canPut_eq, noAli_eq, e1, e2, -sEq_s]
      refine ⟨by omega, ?_⟩
      simpa [rsE] using hN
  | lock o =>
    have e1 : isTup (optD o) = some (.bool false) := by cases o <;> rfl
    have e2 : sEq (.str (Kd.str .lock)) (.str "map") = some (.bool false) := rfl
    refine go [optD o] o.toList ?_ (by simp) (by cases o <;> simp) (fun r hr => ?_) fun {N R E} hN => ?_
    · cases o <;> rfl
    · generalize hd : optD o = d at hr
      cases hr with
      | none => exact .inl rfl
      | zero => exact .inr (.inl rfl)
      | one => exact .inr (.inr (.inl rfl))
      | item h1 h2 => cases o <;> cases hd
      | num h1 =>
        cases o with
        | none => cases hd
        | some j => cases hd; exact .inr (.inr (.inr ⟨_, by simp, rfl⟩))
    · unfold rs_1
      simp -implicitDefEqProofs [canPut_eq, noAli_eq, e1, e2, -sEq_s]
      refine ⟨by omega, ?_⟩
      simpa [rsE] using hN
  | counter i =>
    have e2 : sEq (.str (Kd.str .counter)) (.str "map") = some (.bool false) := rfl
    refine go [.int i] [i] rfl (by simp) (by simp) (fun r hr => ?_) fun {N R E} hN => ?_
    · cases hr with
      | none => exact .inl rfl
      | zero => exact .inr (.inl rfl)
      | one => exact .inr (.inr (.inl rfl))
      | num h1 => exact .inr (.inr (.inr ⟨_, by simp, rfl⟩))
    · unfold rs_1
      simp -implicitDefEqProofs [canPut_eq, noAli_eq, e2, -sEq_s]
      refine ⟨by omega, ?_⟩
      simpa [rsE] using hN
  | set ns hl =>
    have e2 : sEq (.str (Kd.str .set)) (.str "map") = some (.bool false) := rfl
    refine go (ns.map .int) ns (nn_ints ns) (by simp; omega) (by omega) (fun r hr => ?_) fun {N R E} hN => ?_
    · generalize hd : PyData.tuple (ns.map .int) = d at hr
      cases hr with
      | none => exact .inl rfl
      | zero => exact .inr (.inl rfl)
      | one => exact .inr (.inr (.inl rfl))
      | item h1 h2 =>
        rename_i ns2 x
        injection hd with hd
        have : PyData.int x ∈ ns.map .int := by rw [hd]; exact List.mem_map.mpr ⟨x, h2, rfl⟩
        obtain ⟨y, hy, e⟩ := List.mem_map.mp this
        cases e
        exact .inr (.inr (.inr ⟨_, hy, rfl⟩))
      | num h1 => cases hd
    · unfold rs_1
      simp -implicitDefEqProofs [canPut_eq, noAli_eq, e2, -sEq_s]
      simpa [rsE] using hN
  | box ns hk hl hS =>
    obtain ⟨_, _, _, e2, _⟩ := box_not hk
    refine go (ns.map .int) ns (nn_ints ns) (by simp; omega) (by omega) (fun r hr => ?_) fun {N R E} hN => ?_
    · generalize hd : PyData.tuple (ns.map .int) = d at hr
      cases hr with
      | none => exact .inl rfl
      | zero => exact .inr (.inl rfl)
      | one => exact .inr (.inr (.inl rfl))
      | item h1 h2 =>
        rename_i ns2 x
        injection hd with hd
        have : PyData.int x ∈ ns.map .int := by rw [hd]; exact List.mem_map.mpr ⟨x, h2, rfl⟩
        obtain ⟨y, hy, e⟩ := List.mem_map.mp this
        cases e
        exact .inr (.inr (.inr ⟨_, hy, rfl⟩))
      | row h1 => cases hk
      | num h1 => cases hd
    · unfold rs_1
      simp -implicitDefEqProofs [canPut_eq, noAli_eq, e2, -sEq_s]
      simpa [rsE] using hN
  | map ns hl hu =>
    have e2 : sEq (.str (Kd.str .map)) (.str "map") = some (.bool true) := rfl
    have e3 : (ns.map prD).filterMap (fun d => sIx d (.int 1)) = (ns.map (·.2)).map .int := by
      clear hst go hu
      induction ns with
      | nil => rfl
      | cons n r ih =>
        rw [List.map_cons, List.filterMap_cons, ih (by simp at hl; omega)]
        rfl
    refine go ((ns.map (·.2)).map .int) (ns.map (·.2)) (nn_ints _) (by simp; omega) (by simp; omega) (fun r hr => ?_) fun {N R E} hN => ?_
    · generalize hd : PyData.tuple (ns.map prD) = d at hr
      cases hr with
      | none => exact .inl rfl
      | zero => exact .inr (.inl rfl)
      | one => exact .inr (.inr (.inl rfl))
      | item h1 h2 => exact absurd rfl h1
      | row h1 =>
        rename_i ns2 x
        injection hd with hd
        have : prD x ∈ ns.map prD := by rw [hd]; exact List.mem_map.mpr ⟨x, h1, rfl⟩
        obtain ⟨y, hy, e⟩ := List.mem_map.mp this
        unfold prD at e
        simp at e
        exact .inr (.inr (.inr ⟨y.2, List.mem_map.mpr ⟨y, hy, rfl⟩, by rw [e.2]⟩))
      | num h1 => cases hd
    · unfold rs_1
      simp -implicitDefEqProofs [canPut_eq, noAli_eq, e2, -sEq_s]
      refine RsP_compL (fun d => sIx d (.int 1)) rfl (by simp; omega) (fun d hd => ?_) ?_
      · obtain ⟨x, hx, rfl⟩ := List.mem_map.mp hd
        simp -implicitDefEqProofs [tgName, canPut_eq, noAli_eq, unw_nil, unw_val, unw_un, prD]
      · rw [e3]
        simp -implicitDefEqProofs [canPut_eq, noAli_eq]
        simpa [rsE] using hN
end
end DL
/-! De8: a drawn call. -/
namespace DL
open PySem PySem.Spec L2
open PyProof.Rows hiding St
theorem in5 (k : Kd) : sIn (.str k.str) (.tuple [.str "bag", .str "queue", .str "stack", .str "least", .str "register"]) = some (.bool (k.isBox || k.isReg)) := by cases k <;> rfl
theorem eqLock (k : Kd) : sEq (.str k.str) (.str "lock") = some (.bool (match k with | .lock => true | _ => false)) := by cases k <;> rfl
theorem pop_last {vs : List Int} {x : Int} : mPop (.list ((vs ++ [x]).map .int)) [] = some (.int x, .list (vs.map .int)) := by
  unfold mPop
  simp
/-- what is asked of a kind, and what is left of the values -/
def CallR_ (k : Kd) (n : Nat) (vs : List Int) (r : Rr) (os : List D) : Prop := ∃ (nm : Str) (ar : Option Int) (p' : D) (vs' : List Int), r = .v (.tuple [.str nm, optD ar]) ∧ os = [p', .list (vs'.map .int)] ∧ Ask k nm ar ∧ ((vs' = vs ∧ (k.isBox = true → ar = none)) ∨ ∃ x, vs = vs' ++ [x] ∧ ar = some x) ∧ Pot (n + 3) p'
theorem call_box {k : Kd} {n : Nat} {p : D} {vs : List Int} {c : Int} (hk : (k.isBox || k.isReg) = true) (hv : vs.length ≤ 12) (hp : Pot n p) (hn : n ≤ 900000) : RfP (f__law_call [.o p, .v (.str k.str), .o (.list (vs.map .int)), .v (.int c)]) (CallR_ k n vs) fun _ _ => False := by
  have hz := sizeLine_big
  have e1 := in5 k
  rw [hk] at e1
  have e2 := eqReg k
  have e3 := neNilL vs
  have pops : ∀ x : D, PyData.list (vs.map .int) = x → vs ≠ [] → ∃ (vs' : List Int) (y : Int), vs = vs' ++ [y] ∧ mPop x [] = some (.int y, .list (vs'.map .int)) := fun x hx hne => by
    refine ⟨vs.dropLast, vs.getLast hne, (List.dropLast_concat_getLast hne).symm, ?_⟩
    subst hx
    have := pop_last (vs := vs.dropLast) (x := vs.getLast hne)
    rw [List.dropLast_concat_getLast hne] at this
    exact this
  generalize hx : PyData.list (vs.map .int) = x at e3
  have hL : isListD x = true := by rw [← hx]; rfl
  replace pops := pops x hx
  refine RfP_run rfl ?_
  cases hr : k.isReg with
  | true =>
    rw [hr] at e2
    have aw : ∀ i, Ask k "write" (some i) := fun i => by cases k <;> first | (cases hr; done) | exact .regW i
    have ar : Ask k "read" none := by cases k <;> first | (cases hr; done) | exact .regR
    simp -implicitDefEqProofs [b__law_call, startEn, arSl, e1, e2, -sEq_s, canPut_eq, noAli_eq, CallP]
    repeat (refine ⟨by omega, ?_⟩)
    refine draw_then hp (by omega) (by omega) (by omega) fun a p1 h1 h2 hp1 => ?_
    by_cases q : a = 0
    · cases vs with
      | nil =>
        simp -implicitDefEqProofs at e3
        simp -implicitDefEqProofs [q, e3, canPut_eq, noAli_eq, outsOf]
        exact ⟨by omega, _, none, p1, [], rfl, (by rw [← hx]), ar, .inl ⟨rfl, fun _ => rfl⟩, hp1.mono (by omega)⟩
      | cons v w =>
        obtain ⟨vs', y, ev, ep⟩ := pops (by simp)
        simp -implicitDefEqProofs at e3
        simp -implicitDefEqProofs [q, e3, canPut_eq, noAli_eq, ownIs, hL, ep, outsOf]
        exact ⟨by omega, _, some y, p1, vs', rfl, rfl, aw y, .inr ⟨y, ev, rfl⟩, hp1.mono (by omega)⟩
    · simp -implicitDefEqProofs [q, canPut_eq, noAli_eq, outsOf]
      exact ⟨by omega, _, none, p1, vs, rfl, (by rw [← hx]), ar, .inl ⟨rfl, fun _ => rfl⟩, hp1.mono (by omega)⟩
  | false =>
    rw [hr] at e2
    have hb : k.isBox = true := by simpa [hr] using hk
    have aw : ∀ i, Ask k "put" (some i) := fun i => by cases k <;> first | (cases hb; done) | constructor
    have ar : Ask k "get" none := by cases k <;> first | (cases hb; done) | constructor
    simp -implicitDefEqProofs [b__law_call, startEn, arSl, e1, e2, -sEq_s, canPut_eq, noAli_eq, CallP]
    repeat (refine ⟨by omega, ?_⟩)
    refine draw_then hp (by omega) (by omega) (by omega) fun a p1 h1 h2 hp1 => ?_
    by_cases q : a = 0
    · cases vs with
      | nil =>
        simp -implicitDefEqProofs at e3
        simp -implicitDefEqProofs [q, e3, canPut_eq, noAli_eq, outsOf]
        exact ⟨by omega, _, none, p1, [], rfl, (by rw [← hx]), ar, .inl ⟨rfl, fun _ => rfl⟩, hp1.mono (by omega)⟩
      | cons v w =>
        obtain ⟨vs', y, ev, ep⟩ := pops (by simp)
        simp -implicitDefEqProofs at e3
        simp -implicitDefEqProofs [q, e3, canPut_eq, noAli_eq, ownIs, hL, ep, outsOf]
        exact ⟨by omega, _, some y, p1, vs', rfl, rfl, aw y, .inr ⟨y, ev, rfl⟩, hp1.mono (by omega)⟩
    · simp -implicitDefEqProofs [q, canPut_eq, noAli_eq, outsOf]
      exact ⟨by omega, _, none, p1, vs, rfl, (by rw [← hx]), ar, .inl ⟨rfl, fun _ => rfl⟩, hp1.mono (by omega)⟩
theorem call_cnt {n : Nat} {p : D} {vs : List Int} {c : Int} (hp : Pot n p) (hn : n ≤ 900000) : RfP (f__law_call [.o p, .v (.str (Kd.str .counter)), .o (.list (vs.map .int)), .v (.int c)]) (CallR_ .counter n vs) fun _ _ => False := by
  have hz := sizeLine_big
  have e1 := in5 .counter
  have e2 := eqCnt .counter
  generalize hx : PyData.list (vs.map .int) = x
  refine RfP_run rfl ?_
  simp -implicitDefEqProofs [b__law_call, startEn, arSl, e1, e2, -sEq_s, canPut_eq, noAli_eq, CallP, Kd.isBox, Kd.isReg, Kd.isCnt]
  repeat (refine ⟨by omega, ?_⟩)
  refine draw_then hp (by omega) (by omega) (by omega) fun a p1 h1 h2 hp1 => ?_
  simp -implicitDefEqProofs [CallP]
  by_cases q : 0 < a
  · simp -implicitDefEqProofs [q, CallP]
    refine draw_then hp1 (by omega) (by omega) (by omega) fun b p2 h3 h4 hp2 => ?_
    simp -implicitDefEqProofs [outsOf]
    exact ⟨by omega, _, some (1 + b), p2, vs, rfl, (by rw [← hx]), .cntA _, .inl ⟨rfl, fun z => nomatch z⟩, hp2.mono (by omega)⟩
  · simp -implicitDefEqProofs [q, outsOf]
    exact ⟨by omega, _, none, p1, vs, rfl, (by rw [← hx]), .cntR, .inl ⟨rfl, fun z => nomatch z⟩, hp1.mono (by omega)⟩
theorem call_lock {n : Nat} {p : D} {vs : List Int} {c : Int} (hp : Pot n p) (hn : n ≤ 900000) : RfP (f__law_call [.o p, .v (.str (Kd.str .lock)), .o (.list (vs.map .int)), .v (.int c)]) (CallR_ .lock n vs) fun _ _ => False := by
  have hz := sizeLine_big
  have e1 := in5 .lock
  have e2 := eqCnt .lock
  have e3 := eqLock .lock
  generalize hx : PyData.list (vs.map .int) = x
  refine RfP_run rfl ?_
  simp -implicitDefEqProofs [b__law_call, startEn, arSl, e1, e2, e3, -sEq_s, canPut_eq, noAli_eq, CallP, Kd.isBox, Kd.isReg, Kd.isCnt]
  repeat (refine ⟨by omega, ?_⟩)
  refine draw_then hp (by omega) (by omega) (by omega) fun a p1 h1 h2 hp1 => ?_
  have : a = 0 ∨ a = 1 := by omega
  rcases this with rfl | rfl
  · simp -implicitDefEqProofs [outsOf]
    exact ⟨by omega, _, none, p1, vs, rfl, (by rw [← hx]), .lockT, .inl ⟨rfl, fun _ => rfl⟩, hp1.mono (by omega)⟩
  · simp -implicitDefEqProofs [outsOf]
    exact ⟨by omega, _, none, p1, vs, rfl, (by rw [← hx]), .lockF, .inl ⟨rfl, fun _ => rfl⟩, hp1.mono (by omega)⟩
theorem call_set {n : Nat} {p : D} {vs : List Int} {c : Int} (hp : Pot n p) (hn : n ≤ 900000) : RfP (f__law_call [.o p, .v (.str (Kd.str .set)), .o (.list (vs.map .int)), .v (.int c)]) (CallR_ .set n vs) fun _ _ => False := by
  have hz := sizeLine_big
  have e1 := in5 .set
  have e2 := eqCnt .set
  have e3 := eqLock .set
  have e4 := eqSet .set
  generalize hx : PyData.list (vs.map .int) = x
  refine RfP_run rfl ?_
  simp -implicitDefEqProofs [b__law_call, startEn, arSl, e1, e2, e3, e4, -sEq_s, canPut_eq, noAli_eq, CallP, Kd.isBox, Kd.isReg, Kd.isCnt, Kd.isSet]
  repeat (refine ⟨by omega, ?_⟩)
  refine draw_then hp (by omega) (by omega) (by omega) fun a p1 h1 h2 hp1 => ?_
  have : a = 0 ∨ a = 1 ∨ a = 2 := by omega
  rcases this with rfl | rfl | rfl
  · simp -implicitDefEqProofs [CallP]
    refine draw_then hp1 (by omega) (by omega) (by omega) fun b p2 h3 h4 hp2 => ?_
    simp -implicitDefEqProofs [outsOf]
    exact ⟨by omega, _, some b, p2, vs, rfl, (by rw [← hx]), .setA b, .inl ⟨rfl, fun z => nomatch z⟩, hp2.mono (by omega)⟩
  · simp -implicitDefEqProofs [CallP]
    refine draw_then hp1 (by omega) (by omega) (by omega) fun b p2 h3 h4 hp2 => ?_
    simp -implicitDefEqProofs [outsOf]
    exact ⟨by omega, _, some b, p2, vs, rfl, (by rw [← hx]), .setD b, .inl ⟨rfl, fun z => nomatch z⟩, hp2.mono (by omega)⟩
  · simp -implicitDefEqProofs [CallP]
    refine draw_then hp1 (by omega) (by omega) (by omega) fun b p2 h3 h4 hp2 => ?_
    simp -implicitDefEqProofs [outsOf]
    exact ⟨by omega, _, some b, p2, vs, rfl, (by rw [← hx]), .setH b, .inl ⟨rfl, fun z => nomatch z⟩, hp2.mono (by omega)⟩
theorem call_map {n : Nat} {p : D} {vs : List Int} {c : Int} (hp : Pot n p) (hn : n ≤ 900000) : RfP (f__law_call [.o p, .v (.str (Kd.str .map)), .o (.list (vs.map .int)), .v (.int c)]) (CallR_ .map n vs) fun _ _ => False := by
  have hz := sizeLine_big
  have e1 := in5 .map
  have e2 := eqCnt .map
  have e3 := eqLock .map
  have e4 := eqSet .map
  have g1 : sEq (.str "put") (.str "put") = some (.bool true) := rfl
  have g2 : sEq (.str "drop") (.str "put") = some (.bool false) := rfl
  have g3 : sEq (.str "get") (.str "put") = some (.bool false) := rfl
  generalize hx : PyData.list (vs.map .int) = x
  refine RfP_run rfl ?_
  simp -implicitDefEqProofs [b__law_call, startEn, arSl, e1, e2, e3, e4, -sEq_s, canPut_eq, noAli_eq, CallP, Kd.isBox, Kd.isReg, Kd.isCnt, Kd.isSet]
  repeat (refine ⟨by omega, ?_⟩)
  refine draw_then hp (by omega) (by omega) (by omega) fun a p1 h1 h2 hp1 => ?_
  have : a = 0 ∨ a = 1 ∨ a = 2 := by omega
  rcases this with rfl | rfl | rfl
  · simp -implicitDefEqProofs [CallP]
    refine draw_then hp1 (by omega) (by omega) (by omega) fun b p2 h3 h4 hp2 => ?_
    have wd : wideB b 1000 = true := wide_of (a := 62) (b := 10) (nat_lt h3 (by omega)) (by decide) (by decide) (by decide) (by decide)
    simp -implicitDefEqProofs [canPut_eq, noAli_eq, g1, -sEq_s, CallP, wd]
    refine ⟨rfl, ?_⟩
    refine draw_then hp2 (by omega) (by omega) (by omega) fun b2 p3 h5 h6 hp3 => ?_
    simp -implicitDefEqProofs [outsOf]
    exact ⟨by omega, _, some _, p3, vs, rfl, (by rw [← hx]), .mapP _, .inl ⟨rfl, fun z => nomatch z⟩, hp3.mono (by omega)⟩
  · simp -implicitDefEqProofs [CallP]
    refine draw_then hp1 (by omega) (by omega) (by omega) fun b p2 h3 h4 hp2 => ?_
    simp -implicitDefEqProofs [canPut_eq, noAli_eq, g2, -sEq_s, outsOf]
    exact ⟨rfl, by omega, _, some b, p2, vs, rfl, (by rw [← hx]), .mapD b, .inl ⟨rfl, fun z => nomatch z⟩, hp2.mono (by omega)⟩
  · simp -implicitDefEqProofs [CallP]
    refine draw_then hp1 (by omega) (by omega) (by omega) fun b p2 h3 h4 hp2 => ?_
    simp -implicitDefEqProofs [canPut_eq, noAli_eq, g3, -sEq_s, outsOf]
    exact ⟨rfl, by omega, _, some b, p2, vs, rfl, (by rw [← hx]), .mapG b, .inl ⟨rfl, fun z => nomatch z⟩, hp2.mono (by omega)⟩
theorem call_ok {k : Kd} {n : Nat} {p : D} {vs : List Int} {c : Int} (hv : vs.length ≤ 12) (hp : Pot n p) (hn : n ≤ 900000) : RfP (f__law_call [.o p, .v (.str k.str), .o (.list (vs.map .int)), .v (.int c)]) (CallR_ k n vs) fun _ _ => False := by
  cases k
  · exact call_box rfl hv hp hn
  · exact call_box rfl hv hp hn
  · exact call_box rfl hv hp hn
  · exact call_box rfl hv hp hn
  · exact call_box rfl hv hp hn
  · exact call_cnt hp hn
  · exact call_set hp hn
  · exact call_map hp hn
  · exact call_lock hp hn
end DL
/-! De9: a play drawn. -/
namespace DL
open PySem PySem.Spec L2
open PyProof.Rows hiding St
theorem eqNilL (ns : List Int) : sEq (.list (ns.map .int)) (.list []) = some (.bool ns.isEmpty) := by
  have h1 := shaped_intsL ns
  have h2 := shaped_intsL []
  have e : eqD (.list (ns.map .int)) (.list []) = some (PyData.eqv (.list (ns.map .int)) (.list [])) := by
    show (if SeqAt.shaped (.list (ns.map .int)) = true ∧ SeqAt.shaped (.list []) = true then some (PyData.eqv (.list (ns.map .int)) (.list [])) else none) = _
    rw [if_pos ⟨h1, h2⟩]
  unfold sEq
  rw [e]
  cases ns with
  | nil => rfl
  | cons n r =>
    rw [List.map_cons]
    unfold PyData.eqv PyData.eqvAll
    rfl
theorem eqNil_flat {ds : List D} (hd : ∀ d ∈ ds, ∃ i : Int, d = .int i) : sEq (.list ds) (.list []) = some (.bool ds.isEmpty) := by
  obtain ⟨ms, e⟩ := map_of (f := PyData.int) (l := ds) hd
  rw [e, eqNilL, List.isEmpty_map]
@[irreducible] def py_0 : Bd := (bParN [3, 4] (xCons (dCallB sMin (aCons (dVar 2) (aCons (dOp sAdd (dC (.int 2)) (dCall f__law_draw [true, false] (aCons (dVar 0) (aCons (dOp sAdd (dVar 2) (dC (.int 2))) (aNil))))) (aNil)))) (xCons (dOp sIx (dLst (aCons (dC (.int 2)) (aCons (dC (.int 9)) (aCons (dC (.int 9)) (aCons (dC (.int 25)) (aNil)))))) (dCall f__law_draw [true, false] (aCons (dVar 0) (aCons (dC (.int 4)) (aNil))))) (xNil))))
@[irreducible] def py_1 : Bd := (bParN [5, 6, 7] (xConsO (oCall f__law_shuffled [true, false] (aCons (dVar 0) (aCons (dLst (aCons (dC (.int 3)) (aCons (dC (.int 1)) (aCons (dC (.int 7)) (aCons (dC (.int 5)) (aCons (dC (.int 0)) (aCons (dUn sNeg (dC (.int 2))) (aCons (dC (.int 9)) (aCons (dC (.int 11)) (aCons (dC (.int 4)) (aCons (dC (.int 8)) (aCons (dC (.int 12)) (aCons (dC (.int 6)) (aNil)))))))))))))) (aNil)))) (xConsO (oLst (aNil)) (xConsO (oLst (aNil)) (xNil)))))
@[irreducible] def py_2_0 : Bd := (bSet 9 (dOp sAdd (dOp sMul (dC (.int 10)) (dVar 8)) (dCall f__law_draw [true, false] (aCons (dVar 0) (aCons (dC (.int 5)) (aNil))))))
@[irreducible] def py_2_1 : Bd := (bParN [10, 11] (xCons (dOp sSub (dVar 9) (dCall f__law_draw [true, false] (aCons (dVar 0) (aCons (dVarF 4) (aNil))))) (xCons (dOp sAdd (dVar 9) (dCall f__law_draw [true, false] (aCons (dVar 0) (aCons (dVarF 4) (aNil))))) (xNil))))
@[irreducible] def py_2_2 : Bd := (bSetZ 12 (oComp [13] (iRange1 (aCons (dCallB sLen (aCons (dVar 6) (aNil))) (aNil))) (tgName 13) (tOf (dOp (sCmp fLt) (dOp sIx (dVar 6) (dVar 13)) (dVar 10))) (dVar 13)))
@[irreducible] def py_2_3 : Bd := (bIf (tOrD (tOf (dOp sEq (dVar 12) (dLst (aNil)))) (tAndD (tOf (dOp sEq (dCall f__law_draw [true, false] (aCons (dVar 0) (aCons (dC (.int 3)) (aNil)))) (dC (.int 0)))) (tOf (dOp (sCmp fLt) (dCallB sLen (aCons (dVar 6) (aNil))) (dC (.int 4)))))) (bSeq (bExpr (dMut isListD mAppend (dVar 6) (aCons (dVarF 11) aNil))) (bSet 13 (dOp sSub (dCallB sLen (aCons (dVar 6) (aNil))) (dC (.int 1))))) (bSeq (bSet 13 (dOp sIx (dVar 12) (dCall f__law_draw [true, false] (aCons (dVar 0) (aCons (dCallB sLen (aCons (dVar 12) (aNil))) (aNil)))))) (bAsg (dVarF 11) (hSub (dVar 6) (dVar 13)))))
@[irreducible] def py_2_4 : Bd := (bAsg (dCall f__law_call [true, false, true, false] (aCons (dVar 0) (aCons (dVarF 1) (aCons (dVar 5) (aCons (dVarF 13) (aNil)))))) (hTup 2 (hCons (hName 14) (hCons (hName 15) (hNil)))))
@[irreducible] def py_2_5 : Bd := (bExpr (dMut isListD mAppend (dVar 7) (aCons (dTup (aCons (dVarF 13) (aCons (dVarF 10) (aCons (dVarF 9) (aCons (dVarF 11) (aCons (dVarF 14) (aCons (dVarF 15) (aNil)))))))) aNil)))
@[irreducible] def py_2_b : Bd := (bSeq py_2_0 (bSeq py_2_1 (bSeq py_2_2 (bSeq py_2_3 (bSeq py_2_4 py_2_5)))))
@[irreducible] def py_2 : Bd := bFor (iRange1 (aCons (dVar 3) (aNil))) (tgName 8) py_2_b
@[irreducible] def py_3 : Bd := (bRet (dCallB sTuple (aCons (dFz (oCall f__law_shuffled [true, false] (aCons (dVar 0) (aCons (dVarF 7) (aNil))))) (aNil))))
theorem py_cut : b__law_play = (bSeq py_0 (bSeq py_1 (bSeq py_2 py_3))) := by
  unfold py_3 py_2 py_2_b py_2_5 py_2_4 py_2_3 py_2_2 py_2_1 py_2_0 py_1 py_0
  rfl
/-- a member of a play -/
structure Mem where
  c : Int
  s : Int
  pt : Int
  e : Int
  nm : Str
  ar : Option Int
def Mem.enc (m : Mem) : D := memD m.c m.s m.pt m.e m.nm m.ar
structure Mem.Ok (k : Kd) (m : Mem) : Prop where
  client : 0 ≤ m.c
  span : m.s ≤ m.e
  ask : Ask k m.nm m.ar
/-- the values put -/
def args (k : Kd) (ms : List Mem) : List Int := if k.isBox = true then ms.filterMap Mem.ar else []
theorem args_snoc {k : Kd} {ms : List Mem} {m : Mem} : args k (ms ++ [m]) = args k ms ++ (if k.isBox = true then m.ar.toList else []) := by
  unfold args
  cases k.isBox with
  | false => rfl
  | true =>
    simp only [if_true, List.filterMap_append]
    cases h : m.ar <;> simp [h]
/-- the play's slots within the loop -/
def pyE (k : Kd) (p : D) (many w : Int) (vs es : List Int) (ms : List Mem) (A : Nat → Option D) : En := [.own true p, .val (.str k.str), .val (.int 8), .val (.int many), .val (.int w), .own false (.list (vs.map .int)), .own false (.list (es.map .int)), .own false (.list (ms.map Mem.enc)), pl (A 8), pl (A 9), pl (A 10), pl (A 11), pl (A 12), pl (A 13), pl (A 14), pl (A 15)]
section
variable {k : Kd} {p : D} {many w : Int} {vs es : List Int} {ms : List Mem} {A : Nat → Option D} {n : Nat} {N : En → Prop} {R : En → Rr → Prop} {E : En → Ex → Prop}
def freeF (es : List Int) (s : Int) (d : D) : Option D := match d with
  | .int j => (match es[j.toNat]? with
    | some e => if e < s then some (.int j) else none
    | none => none)
  | _ => none
theorem free_ints {s : Int} : ∀ d ∈ (rng es.length).filterMap (freeF es s), ∃ j : Nat, j < es.length ∧ d = .int j := fun d hd => by
  obtain ⟨x, hx, e⟩ := List.mem_filterMap.mp hd
  obtain ⟨j, hj, rfl⟩ := rng_at hx
  unfold freeF at e
  dsimp only at e
  split at e
  · split at e
    · exact ⟨j, hj, (Option.some.inj e).symm⟩
    · cases e
  · cases e
theorem ixI {xs : List Int} {j : Nat} (h : j < xs.length) : atI (xs.map PyData.int) (j : Int) = some (.int xs[j]) := by
  rw [atI_n]
  simp [h]
theorem py_first {i : Nat} (hi : i < 8) (h8 : A 8 = some (.int (i : Nat))) (hp : Pot n p) (hn : n ≤ 800000) (hw : 0 < w) (hw2 : w ≤ 25) (hN : ∀ p pt s e A, s ≤ e → A 10 = some (.int s) → A 11 = some (.int e) → A 9 = some (.int pt) → Pot (n + 3) p → N (pyE k p many w vs es ms A)) : OutP ((bSeq py_2_0 py_2_1) (pyE k p many w vs es ms A)) N R E := by
  have wd : wideB 10 (i : Int) = true := wide_of (a := 4) (b := 62) (by decide) (nat_lt (by omega) (by omega)) (by decide) (by decide) (by decide)
  rw [OutP_seq]
  unfold py_2_0
  simp -implicitDefEqProofs [pyE, h8, wd, CallP]
  refine draw_then hp (by omega) (by omega) (by omega) fun a p1 h1 h2 hp1 => ?_
  unfold py_2_1
  simp -implicitDefEqProofs [canPut_eq, noAli_eq, CallP]
  refine draw_then hp1 (by omega) (by omega) (by omega) fun b p2 h3 h4 hp2 => ?_
  simp -implicitDefEqProofs [canPut_eq, noAli_eq, CallP]
  refine draw_then hp2 (by omega) (by omega) (by omega) fun c p3 h5 h6 hp3 => ?_
  simp -implicitDefEqProofs [canPut_eq, noAli_eq]
  refine ⟨rfl, ?_⟩
  have := hN p3 (10 * (i : Int) + a) (10 * (i : Int) + a - b) (10 * (i : Int) + a + c) (upd (upd (upd A 9 (some (.int (10 * (i : Int) + a)))) 10 (some (.int (10 * (i : Int) + a - b)))) 11 (some (.int (10 * (i : Int) + a + c)))) (by omega) rfl rfl rfl hp3
  simpa [pyE, upd, h8] using this
theorem py_free {s : Int} (hes : es.length ≤ 64) (h10 : A 10 = some (.int s)) (hN : N (pyE k p many w vs es ms (upd A 12 (some (.list ((rng es.length).filterMap (freeF es s))))))) : OutP (py_2_2 (pyE k p many w vs es ms A)) N R E := by
  have hz := sizeLine_big
  have hsm : small (es.length : Int) = true := small_n (by omega)
  unfold py_2_2
  simp -implicitDefEqProofs [pyE, hsm]
  refine RsP_compL (freeF es s) (wipe1 (a := A 13) rfl) (by simp [rng]; omega) (fun d hd => ?_) ?_
  · obtain ⟨j, hj, rfl⟩ := rng_at hd
    have e1 := ixI hj
    simp -implicitDefEqProofs [tgName, canPut_eq, noAli_eq, unw_nil, unw_val, unw_un, unw_pl, unw_own, e1, h10, freeF, hj]
  · simp -implicitDefEqProofs [canPut_eq, noAli_eq]
    simpa [pyE, upd, h10] using hN
theorem py_client {s e : Int} (hes : es.length ≤ 60) (h11 : A 11 = some (.int e)) (h12 : A 12 = some (.list ((rng es.length).filterMap (freeF es s)))) (hp : Pot n p) (hn : n ≤ 800000)
    (hN : ∀ p es2 c B, es2.length ≤ es.length + 1 → 0 ≤ c → Pot (n + 2) p → B = upd A 13 (some (.int c)) → N (pyE k p many w vs es2 ms B)) : OutP (py_2_3 (pyE k p many w vs es ms A)) N R E := by
  have hz := sizeLine_big
  have hfl : ((rng es.length).filterMap (freeF es s)).length ≤ es.length := by
    have := filterMap_le (f := freeF es s) (rng es.length)
    rw [rng_len] at this
    exact this
  have hfi := free_ints (es := es) (s := s)
  have e1 := eqNil_flat (ds := (rng es.length).filterMap (freeF es s)) fun d hd => by
    obtain ⟨j, _, rfl⟩ := hfi d hd
    exact ⟨_, rfl⟩
  generalize (rng es.length).filterMap (freeF es s) = fr at h12 hfl hfi e1
  -- a new client
  have new : ∀ p, Pot (n + 2) p → N (pyE k p many w vs (es ++ [e]) ms (upd A 13 (some (.int (es.length : Nat))))) := fun p hp => hN p _ _ _ (by simp) (by omega) hp rfl
  have newS : ∀ p, Pot (n + 2) p → OutP (bSeq (bExpr (dMut isListD mAppend (dVar 6) (aCons (dVarF 11) aNil))) (bSet 13 (dOp sSub (dCallB sLen (aCons (dVar 6) (aNil))) (dC (.int 1)))) (pyE k p many w vs es ms A)) N R E := fun p hp => by
    have ha : mAppend (.list (es.map .int)) [.int e] = some (.none, .list ((es ++ [e]).map .int)) := by
      show (if (es.map PyData.int).length < sizeLine then _ else _) = _
      rw [if_pos (by simp; omega)]
      simp
    simp -implicitDefEqProofs [pyE, h11, ownIs, isListD, ha, canPut_eq, noAli_eq, -List.map_append]
    have e3 : ((es.length : Int) + 1 - 1) = (es.length : Nat) := by omega
    have := new p hp
    simpa [pyE, upd, h11, e3] using this
  have oldS : ∀ p m, m ≤ n + 1 → Pot m p → 0 < fr.length → OutP (bSeq (bSet 13 (dOp sIx (dVar 12) (dCall f__law_draw [true, false] (aCons (dVar 0) (aCons (dCallB sLen (aCons (dVar 12) (aNil))) (aNil)))))) (bAsg (dVarF 11) (hSub (dVar 6) (dVar 13))) (pyE k p many w vs es ms A)) N R E := fun p m hm hp h0 => by
    simp -implicitDefEqProofs [pyE, h12, CallP]
    refine draw_then hp (by omega) (by omega) (by omega) fun a p1 h1 h2 hp1 => ?_
    obtain ⟨d, hd, ed⟩ := at_list h1 h2
    obtain ⟨j, hj, rfl⟩ := hfi d hd
    have ix := ixN_nat hj
    simp -implicitDefEqProofs [-sIx_l, ed, canPut_eq, noAli_eq, h11, ix]
    have := hN p1 (es.set j e) (j : Int) _ (by simp) (by omega) (hp1.mono (by omega)) rfl
    simpa [pyE, upd, h11, h12, List.map_set] using this
  unfold py_2_3
  generalize bSeq (bExpr (dMut isListD mAppend (dVar 6) (aCons (dVarF 11) aNil))) _ = B1 at newS ⊢
  generalize bSeq (bSet 13 (dOp sIx (dVar 12) (dCall f__law_draw [true, false] (aCons (dVar 0) (aCons (dCallB sLen (aCons (dVar 12) (aNil))) (aNil)))))) _ = B2 at oldS ⊢
  unfold pyE at newS oldS
  rw [h11, h12] at newS oldS
  cases fr with
  | nil =>
    simp -implicitDefEqProofs at e1
    simp -implicitDefEqProofs [pyE, h12, h11, e1]
    exact newS p (hp.mono (by omega))
  | cons f0 fr =>
    simp -implicitDefEqProofs at e1
    simp -implicitDefEqProofs [pyE, h12, h11, e1, CallP]
    refine draw_then hp (by omega) (by omega) (by omega) fun a p1 h1 h2 hp1 => ?_
    by_cases q : a = 0
    · by_cases q2 : es.length < 4
      · have q3 : (es.length : Int) < 4 := by omega
        simp -implicitDefEqProofs [q, q3]
        exact newS p1 (hp1.mono (by omega))
      · have q3 : ¬ (es.length : Int) < 4 := by omega
        simp -implicitDefEqProofs [q, q3]
        exact oldS p1 (n + 1) (by omega) hp1 (by simp)
    · simp -implicitDefEqProofs [q]
      exact oldS p1 (n + 1) (by omega) hp1 (by simp)
end
end DL
/-! De10: a play drawn, whole. -/
namespace DL
open PySem PySem.Spec L2
open PyProof.Rows hiding St
section
variable {k : Kd} {p : D} {many w : Int} {vs es : List Int} {ms : List Mem} {A : Nat → Option D} {n : Nat} {N : En → Prop} {R : En → Rr → Prop} {E : En → Ex → Prop}
theorem py_member {c s pt e : Int} (hc : 0 ≤ c) (hse : s ≤ e) (h9 : A 9 = some (.int pt)) (h10 : A 10 = some (.int s)) (h11 : A 11 = some (.int e)) (h13 : A 13 = some (.int c)) (hms : ms.length ≤ 60) (hv : vs.length ≤ 12) (hok : ∀ m ∈ ms, m.Ok k) (hnd : (args k ms ++ vs).Nodup) (hp : Pot n p) (hn : n ≤ 800000)
    (hN : ∀ p vs2 ms2 A, ms2.length = ms.length + 1 → vs2.length ≤ 12 → (∀ m ∈ ms2, m.Ok k) → (args k ms2 ++ vs2).Nodup → Pot (n + 3) p → N (pyE k p many w vs2 es ms2 A)) : OutP ((bSeq py_2_4 py_2_5) (pyE k p many w vs es ms A)) N R E := by
  have hz := sizeLine_big
  rw [OutP_seq]
  unfold py_2_4
  simp -implicitDefEqProofs [pyE, h9, h10, h11, h13, CallP]
  refine (call_ok (k := k) (c := c) hv hp (by omega)).mono (fun r os hq => ?_) fun _ _ z => z.elim
  obtain ⟨nm, ar, p', vs', rfl, rfl, ha, hcase, hp'⟩ := hq
  unfold py_2_5
  have hap : mAppend (.list (ms.map Mem.enc)) [.tuple [.int c, .int s, .int pt, .int e, .str nm, optD ar]] = some (.none, .list ((ms ++ [Mem.mk c s pt e nm ar]).map Mem.enc)) := by
    show (if (ms.map Mem.enc).length < sizeLine then _ else _) = _
    rw [if_pos (by simp; omega), List.map_append]
    rfl
  simp -implicitDefEqProofs [canPut_eq, noAli_eq, ownIs, isListD, hap, -List.map_append]
  refine ⟨by omega, ?_⟩
  have hl : vs'.length ≤ 12 := by
    rcases hcase with ⟨rfl, _⟩ | ⟨x, rfl, _⟩
    · exact hv
    · simp at hv
      omega
  have hd : (args k (ms ++ [Mem.mk c s pt e nm ar]) ++ vs').Nodup := by
    rw [args_snoc]
    rcases hcase with ⟨rfl, hb⟩ | ⟨x, rfl, rfl⟩
    · cases hk : k.isBox with
      | true =>
        have := hb hk
        subst this
        simpa using hnd
      | false => simpa using hnd
    · cases hk : k.isBox with
      | true =>
        have : ((args k ms ++ [x]) ++ vs').Perm (args k ms ++ (vs' ++ [x])) := by
          rw [List.append_assoc]
          exact List.Perm.append_left _ (List.perm_append_comm)
        simpa using this.nodup_iff.mpr hnd
      | false =>
        have : (args k ms ++ vs').Sublist (args k ms ++ (vs' ++ [x])) := List.Sublist.append (List.Sublist.refl _) (List.sublist_append_left _ _)
        simpa using hnd.sublist this
  have := hN p' vs' (ms ++ [Mem.mk c s pt e nm ar]) (upd (upd A 14 (some (.str nm))) 15 (some (optD ar))) (by simp) hl (fun m hm => by
    rcases List.mem_append.mp hm with z | z
    · exact hok m z
    · have e1 : m = ⟨c, s, pt, e, nm, ar⟩ := by simpa using z
      subst e1
      exact ⟨hc, hse, ha⟩) hd hp'
  simpa [pyE, upd, h9, h10, h11, h13] using this
def PyI (k : Kd) (many w : Int) (n i : Nat) (en : En) : Prop := ∃ (p : D) (vs es : List Int) (ms : List Mem) (A : Nat → Option D), en = pyE k p many w vs es ms A ∧ Pot (n + 9 * i) p ∧ ms.length = i ∧ es.length ≤ i ∧ vs.length ≤ 12 ∧ (∀ m ∈ ms, m.Ok k) ∧ (args k ms ++ vs).Nodup
theorem tg8y {d : D} {Q : En → Prop} : OpP (tgName 8 d (pyE k p many w vs es ms A)) Q = Q (pyE k p many w vs es ms (upd A 8 (some d))) := by simp [tgName, pyE, canPut_eq, noAli_eq, upd]
theorem py_turn {i : Nat} {en : En} (hi : i < 8) (hn : n ≤ 700000) (hw : 0 < w) (hw2 : w ≤ 25) (h : PyI k many w n i en) : OpP (tgName 8 (.int (i : Nat)) en) fun en1 => OutP (py_2_b en1) (PyI k many w n (i + 1)) R E := by
  obtain ⟨p, vs, es, ms, A, rfl, hp, hl, hes, hv, hok, hnd⟩ := h
  rw [tg8y]
  unfold py_2_b
  have h1 := py_first (k := k) (vs := vs) (es := es) (ms := ms) (many := many) (A := upd A 8 (some (.int (i : Nat)))) (R := R) (E := E) hi rfl hp (by omega) hw hw2 (N := fun en => OutP ((bSeq py_2_2 (bSeq py_2_3 (bSeq py_2_4 py_2_5))) en) (PyI k many w n (i + 1)) R E) fun p pt s e A hse h10 h11 h9 hp => ?_
  · simp only [OutP_seq] at h1 ⊢
    exact h1
  · rw [OutP_seq]
    refine py_free (s := s) (by omega) h10 ?_
    rw [OutP_seq]
    refine py_client (s := s) (e := e) (by omega) h11 rfl hp (by omega) fun p es2 c B hes2 hc hp hB => ?_
    refine py_member (c := c) (s := s) (pt := pt) (e := e) hc hse (by rw [hB]; exact h9) (by rw [hB]; exact h10) (by rw [hB]; exact h11) (by rw [hB]; rfl) (by omega) hv hok hnd hp (by omega) fun p vs2 ms2 A hl2 hv2 hok2 hnd2 hp => ?_
    exact ⟨p, vs2, es2, ms2, A, rfl, hp.mono (by omega), by omega, by omega, hv2, hok2, hnd2⟩
end
theorem perm_map {α β : Type} {f : α → β} {l1 l2 : List β} (h : l1.Perm l2) : ∀ {ms : List α}, l2 = ms.map f → ∃ ms' : List α, l1 = ms'.map f ∧ ms'.Perm ms := by
  induction h with
  | nil => intro ms e; exact ⟨[], rfl, by have := List.map_eq_nil_iff.mp e.symm; rw [this]⟩
  | cons x _ ih =>
    intro ms e
    cases ms with
    | nil => cases e
    | cons m ms =>
      injection e with e1 e2
      obtain ⟨ms', e3, hp⟩ := ih e2
      exact ⟨m :: ms', by rw [List.map_cons, ← e3, e1], hp.cons m⟩
  | swap x y l =>
    intro ms e
    cases ms with
    | nil => cases e
    | cons a ms =>
      cases ms with
      | nil => cases e
      | cons b ms =>
        injection e with e1 e2
        injection e2 with e2 e3
        exact ⟨b :: a :: ms, by rw [List.map_cons, List.map_cons, ← e3, e1, e2], .swap _ _ _⟩
  | trans _ _ ih1 ih2 =>
    intro ms e
    obtain ⟨m2, e2, p2⟩ := ih2 e
    obtain ⟨m1, e1, p1⟩ := ih1 e2
    exact ⟨m1, e1, p1.trans p2⟩
theorem args_perm {k : Kd} {a b : List Mem} (h : a.Perm b) : (args k a).Perm (args k b) := by
  unfold args
  cases k.isBox with
  | true => exact h.filterMap _
  | false => exact .refl _
end DL
/-! De11: the play's def. -/
namespace DL
open PySem PySem.Spec L2
open PyProof.Rows hiding St
def valL : List Int := [3, 1, 7, 5, 0, -2, 9, 11, 4, 8, 12, 6]
def PlayP (k : Kd) (n : Nat) (r : Rr) (os : List D) : Prop := ∃ (ms : List Mem) (p' T : D), r = .v T ∧ PyData.tuple (ms.map Mem.enc) = T ∧ os = [p'] ∧ ms.length ≤ 8 ∧ (∀ m ∈ ms, m.Ok k) ∧ (args k ms).Nodup ∧ Pot n p'
theorem rng_get {n i : Nat} (h : i < n) : (rng (n : Int))[i]? = some (.int (i : Nat)) := by
  unfold rng
  rw [List.getElem?_map, List.getElem?_range (by omega)]
  simp
theorem play_ok {k : Kd} {n : Nat} {p : D} (hp : Pot n p) (hn : n ≤ 600000) : RfP (f__law_play [.o p, .v (.str k.str), .v (.int 8)]) (PlayP k (n + 110)) fun _ _ => False := by
  have hz := sizeLine_big
  refine RfP_run rfl ?_
  rw [py_cut, OutP_seq]
  unfold py_0
  simp -implicitDefEqProofs [startEn, arSl, CallP]
  refine draw_then hp (by omega) (by omega) (by omega) fun a p1 h1 h2 hp1 => ?_
  obtain ⟨many, hm, em⟩ : ∃ m : Nat, m ≤ 8 ∧ (if 2 + a < 8 then 2 + a else 8) = (m : Int) := by
    by_cases q : 2 + a < 8
    · rw [if_pos q]; exact ⟨(2 + a).toNat, by omega, by omega⟩
    · rw [if_neg q]; exact ⟨8, by omega, rfl⟩
  simp -implicitDefEqProofs [em, CallP]
  refine ⟨by omega, ?_⟩
  refine draw_then hp1 (by omega) (by omega) (by omega) fun b p2 h3 h4 hp2 => ?_
  obtain ⟨w, hw, hw2, ew⟩ : ∃ w : Int, 0 < w ∧ w ≤ 25 ∧ atI [PyData.int 2, .int 9, .int 9, .int 25] b = some (.int w) := by
    have : b = 0 ∨ b = 1 ∨ b = 2 ∨ b = 3 := by omega
    rcases this with rfl | rfl | rfl | rfl
    · exact ⟨2, by omega, by omega, by simp⟩
    · exact ⟨9, by omega, by omega, by simp⟩
    · exact ⟨9, by omega, by omega, by simp⟩
    · exact ⟨25, by omega, by omega, by simp⟩
  simp -implicitDefEqProofs [ew, canPut_eq, noAli_eq]
  refine ⟨rfl, ?_⟩
  unfold py_1
  simp -implicitDefEqProofs [CallP]
  refine ⟨by omega, ?_⟩
  refine (shuffled_x (ds := valL.map .int) rfl (by decide) hp2 (by omega)).mono (fun r os hq => ?_) fun _ _ z => z.elim
  obtain ⟨es0, p3, rfl, rfl, hP, hp3⟩ := hq
  obtain ⟨vs, rfl, hv⟩ := perm_map hP (ms := valL) rfl
  have hvl : vs.length = 12 := hv.length_eq
  have hnd : vs.Nodup := hv.nodup_iff.mpr (by decide)
  simp -implicitDefEqProofs [canPut_eq, noAli_eq]
  repeat (first | (refine ⟨by omega, ?_⟩) | (refine ⟨rfl, ?_⟩))
  unfold py_2

  have hsm : small (many : Int) = true := small_n (by omega)
  simp -implicitDefEqProofs [hsm]
  generalize hB : py_3 = B
  refine OutP_forL _ (PyI k (many : Int) w (n + 14)) _ ⟨p3, vs, [], [], fun _ => none, rfl, hp3.mono (by simp [valL]), rfl, Nat.le_refl _, by omega, (fun m hm => nomatch hm), by simpa [args] using hnd⟩ (fun i d en ed hI => ?_) fun en hI => ?_
  · have hi := (List.getElem?_eq_some_iff.mp ed).1
    rw [rng_len] at hi
    have hd := rng_get hi
    rw [ed] at hd
    obtain rfl : d = .int (i : Nat) := Option.some.inj hd
    clear ed hd
    exact py_turn (by omega) (by omega) hw hw2 hI
  · rw [rng_len] at hI
    obtain ⟨p, vs, es, ms, A, rfl, hp, hl, hes, hv, hok, hnd⟩ := hI
    rw [← hB]
    unfold py_3
    simp -implicitDefEqProofs [pyE, canPut_eq, noAli_eq, CallP]
    have hdl : (ms.map Mem.enc).length = ms.length := List.length_map _
    generalize hds : ms.map Mem.enc = ds at hdl ⊢
    generalize hx : PyData.list ds = x
    refine (shuffled_x hx (by omega) hp (by omega)).mono (fun r os hq => ?_) fun _ _ z => z.elim
    obtain ⟨es0, p3, rfl, rfl, hP, hp3⟩ := hq
    obtain ⟨ms2, rfl, hm2⟩ := perm_map hP hds.symm
    simp -implicitDefEqProofs [outsOf]
    refine ⟨ms2, p3, _, rfl, rfl, rfl, by rw [hm2.length_eq]; omega, fun m hm => hok m (hm2.mem_iff.mp hm), ?_, hp3.mono (by omega)⟩
    exact (args_perm hm2).nodup_iff.mpr (List.nodup_append.mp hnd).1
end DL
/-! De12: a play, played. -/
namespace DL
open PySem PySem.Spec L2
open PyProof.Rows hiding St
@[irreducible] def pd_0 : Bd := (bParN [2, 3, 4] (xCons (dCallB sSorted (aCons (dFz (oComp [6] (iRange1 (aCons (dCallB sLen (aCons (dVar 1) (aNil))) (aNil))) (tgName 6) (tYesD) (dTup (aCons (dOp sIx (dOp sIx (dVar 1) (dVar 6)) (dC (.int 2))) (aCons (dVar 6) (aNil)))))) (aNil))) (xCons (dCall f__law_first [false] (aCons (dVarF 0) (aNil))) (xConsO (oDct) (xNil)))))
@[irreducible] def pd_1_0 : Bd := (bAsg (dCall f__law_result [false, false, false] (aCons (dVarF 0) (aCons (dVarF 3) (aCons (dOp sIx (dVar 1) (dVar 6)) (aNil))))) (hTup 2 (hCons (hName 7) (hCons (hName 3) (hNil)))))
@[irreducible] def pd_1_1 : Bd := (bDPut (dVar 4) (dVar 6) (dVarF 7))
@[irreducible] def pd_1_b : Bd := (bSeq pd_1_0 pd_1_1)
@[irreducible] def pd_1 : Bd := bFor (iOf itAll (dVarF 2)) (tgTup (tgCons (tgName 5) (tgCons (tgName 6) (tgNil)))) pd_1_b
@[irreducible] def pd_2 : Bd := (bRet (dCallB sTuple (aCons (dFz (oComp [6] (iRange1 (aCons (dCallB sLen (aCons (dVar 1) (aNil))) (aNil))) (tgName 6) (tYesD) (dOp sDIx (dVar 4) (dVar 6)))) (aNil))))
theorem pd_cut : b__law_played = (bSeq pd_0 (bSeq pd_1 pd_2)) := by
  unfold pd_2 pd_1 pd_1_b pd_1_1 pd_1_0 pd_0
  rfl
/-! ### a dict by its keys -/
theorem keyEq_int {a : D} {j : Int} : keyEq a (.int j) = true ↔ a = .int j := by
  cases a <;> simp [keyEq]
theorem valP_put {d : D} {j j' : Int} (ps : List (D × D)) : valP (putP ps (.int j) d) (.int j') = if j = j' then some d else valP ps (.int j') := by
  unfold putP
  have hmap : ∀ ps : List (D × D), (ps.any fun q => keyEq q.1 (.int j)) = true → valP (ps.map fun q => if keyEq q.1 (.int j) = true then (q.1, d) else q) (.int j') = if j = j' then some d else valP ps (.int j') := fun ps => by
    induction ps with
    | nil => intro h; cases h
    | cons q r ih =>
      intro h
      obtain ⟨a, b⟩ := q
      rw [List.map_cons]
      by_cases e : keyEq a (.int j) = true
      · have ea := keyEq_int.mp e
        subst ea
        rw [if_pos e]
        unfold valP
        by_cases e2 : j = j'
        · subst e2
          rw [if_pos e, if_pos rfl]
        · have n : ¬ keyEq (.int j) (.int j') = true := fun z => e2 (by simpa [keyEq] using z)
          rw [if_neg n, if_neg e2, if_neg n]
          by_cases h2 : (r.any fun q => keyEq q.1 (.int j)) = true
          · have := ih h2
            rw [if_neg e2] at this
            exact this
          · have : (r.map fun q => if keyEq q.1 (.int j) = true then (q.1, d) else q) = r := by
              rw [List.map_congr_left (g := id) fun q hq => ?_, List.map_id]
              rw [if_neg]
              · rfl
              · intro z
                exact h2 (List.any_eq_true.mpr ⟨q, hq, z⟩)
            rw [this]
      · rw [if_neg e]
        have h2 : (r.any fun q => keyEq q.1 (.int j)) = true := by
          rw [List.any_cons] at h
          simpa [e] using h
        have := ih h2
        unfold valP
        by_cases e3 : keyEq a (.int j') = true
        · have ea := keyEq_int.mp e3
          subst ea
          have e2 : ¬ j = j' := fun z => e (by subst z; exact e3)
          rw [if_pos e3, if_neg e2, if_pos e3]
        · rw [if_neg e3, this, if_neg e3]
  have happ : ∀ ps : List (D × D), ¬ (ps.any fun q => keyEq q.1 (.int j)) = true → valP (ps ++ [(.int j, d)]) (.int j') = if j = j' then some d else valP ps (.int j') := fun ps => by
    induction ps with
    | nil =>
      intro _
      show (if keyEq (.int j) (.int j') = true then some d else none) = _
      by_cases e2 : j = j'
      · subst e2
        rw [if_pos (by simp [keyEq]), if_pos rfl]
      · rw [if_neg (fun z => e2 (by simpa [keyEq] using z)), if_neg e2]
        rfl
    | cons q r ih =>
      intro h
      obtain ⟨a, b⟩ := q
      rw [List.any_cons] at h
      have h1 : ¬ keyEq a (.int j) = true := fun z => h (by simp [z])
      have h2 : ¬ (r.any fun q => keyEq q.1 (.int j)) = true := fun z => h (by simp [z])
      have := ih h2
      rw [List.cons_append]
      unfold valP
      by_cases e3 : keyEq a (.int j') = true
      · have ea := keyEq_int.mp e3
        subst ea
        have e2 : ¬ j = j' := fun z => h1 (by subst z; exact e3)
        rw [if_pos e3, if_neg e2, if_pos e3]
      · rw [if_neg e3, this, if_neg e3]
  by_cases h : (ps.any fun q => keyEq q.1 (.int j)) = true
  · rw [if_pos h]
    exact hmap ps h
  · rw [if_neg h]
    exact happ ps h
theorem noHead_put {ps : List (D × D)} {j : Int} {d : D} (h : noHead ps = true) : noHead (putP ps (.int j) d) = true := by
  unfold putP
  split
  · cases ps with
    | nil => rfl
    | cons q r =>
      obtain ⟨a, b⟩ := q
      rw [List.map_cons]
      cases a <;> first | (cases h; done) | skip
      all_goals
        split <;> rfl
  · cases ps with
    | nil => rfl
    | cons q r =>
      obtain ⟨a, b⟩ := q
      cases a <;> first | (cases h; done) | rfl
theorem putP_le (ps : List (D × D)) (k d : D) : (putP ps k d).length ≤ ps.length + 1 := by
  unfold putP
  split <;> simp
/-! ### what is left -/
theorem filterMap_one {α β : Type} {f : α → Option β} {x : β} : ∀ {ms : List α}, (ms.filterMap f).Nodup → ∀ {i j : Nat} {a b : α}, ms[i]? = some a → ms[j]? = some b → f a = some x → f b = some x → i = j
  | [], _, i, j, a, b, e, _, _, _ => by simp at e
  | m :: r, h, 0, 0, a, b, e1, e2, _, _ => rfl
  | m :: r, h, 0, j + 1, a, b, e1, e2, e3, e4 => by
    have : m = a := by simpa using e1
    subst this
    rw [List.filterMap_cons, e3] at h
    have := (List.nodup_cons.mp h).1
    exact absurd (List.mem_filterMap.mpr ⟨b, List.mem_of_getElem? (by simpa using e2), e4⟩) this
  | m :: r, h, i + 1, 0, a, b, e1, e2, e3, e4 => by
    have : m = b := by simpa using e2
    subst this
    rw [List.filterMap_cons, e4] at h
    have := (List.nodup_cons.mp h).1
    exact absurd (List.mem_filterMap.mpr ⟨a, List.mem_of_getElem? (by simpa using e1), e3⟩) this
  | m :: r, h, i + 1, j + 1, a, b, e1, e2, e3, e4 => by
    have h2 : (r.filterMap f).Nodup := by
      rw [List.filterMap_cons] at h
      cases q : f m with
      | none => rw [q] at h; exact h
      | some y => rw [q] at h; exact (List.nodup_cons.mp h).2
    exact congrArg (· + 1) (filterMap_one h2 (i := i) (j := j) (by simpa using e1) (by simpa using e2) e3 e4)
theorem map_of2 {α : Type} {f : α → D} {P : α → Prop} : ∀ {l : List D}, (∀ d ∈ l, ∃ i, d = f i ∧ P i) → ∃ ms : List α, l = ms.map f ∧ ∀ a ∈ ms, P a
  | [], _ => ⟨[], rfl, fun a ha => nomatch ha⟩
  | d :: l, h => by
    obtain ⟨i, rfl, hi⟩ := h d List.mem_cons_self
    obtain ⟨ms, e, hm⟩ := map_of2 fun x hx => h x (List.mem_cons_of_mem _ hx)
    exact ⟨i :: ms, congrArg (f i :: ·) e, fun a ha => by
      rcases List.mem_cons.mp ha with rfl | z
      · exact hi
      · exact hm a z⟩
theorem sort_perm (ns : List (Int × Int)) : ∃ qs : List (Int × Int), sortD (ns.map prD) = qs.map prD ∧ qs.Perm ns :=
  perm_map (List.mergeSort_perm (ns.map prD) (PySem.W.dataLe false fun d => d)) rfl
/-- a closed operation of a history -/
structure Op.Shut (o : Op) : Prop where
  ok : o.Ok
  shut : ∃ e, o.stop = some e
  lay : PyData.strOk o.name = true
end DL
/-! De13: a play played, whole. -/
namespace DL
open PySem PySem.Spec L2
open PyProof.Rows hiding St
theorem valP_mem {ps : List (D × D)} {k d : D} (h : valP ps k = some d) : ps ≠ [] := fun z => by rw [z] at h; cases h
/-- the slots within the loop -/
def pdE (k : Kd) (ms : List Mem) (rows : D) (st : D) (ps : List (D × D)) (a5 a6 a7 : Option D) : En := [.val (.str k.str), .val (.tuple (ms.map Mem.enc)), .val rows, .val st, .own false (.dict ps), pl a5, pl a6, pl a7]
def PdI (k : Kd) (ms : List Mem) (qs : List (Int × Int)) (i : Nat) (en : En) : Prop := ∃ (st : D) (ps : List (D × D)) (S : List Int) (a5 a6 a7 : Option D), en = pdE k ms (.list (qs.map prD)) st ps a5 a6 a7 ∧ noHead ps = true ∧ ps.length ≤ i ∧ SX k i S st ∧
  (k.isBox = true → ∀ x ∈ S, ∃ (j : Nat) (m : Mem) (q : Int × Int), q ∈ qs.take i ∧ q.2 = (j : Int) ∧ ms[j]? = some m ∧ m.ar = some x) ∧
  ∀ q ∈ qs.take i, ∃ o : Op, valP ps (.int q.2) = some o.enc ∧ o.Shut
section
variable {k : Kd} {ms : List Mem} {qs : List (Int × Int)} {R : En → Rr → Prop} {E : En → Ex → Prop}
theorem pd_turn {i : Nat} {en : En} {qi : Int × Int} (hqi : qs[i]? = some qi) (hl : ms.length ≤ 8) (hi8 : i < 8) (hin : ∃ j : Nat, j < ms.length ∧ qi.2 = (j : Int)) (hnd : (qs.map (·.2)).Nodup) (hok : ∀ m ∈ ms, m.Ok k) (ha : (args k ms).Nodup) (h : PdI k ms qs i en) :
    OpP (tgTup (tgCons (tgName 5) (tgCons (tgName 6) (tgNil))) (prD qi) en) fun en1 => OutP (pd_1_b en1) (PdI k ms qs (i + 1)) R E := by
  have hz := sizeLine_big
  obtain ⟨st, ps, S, a5, a6, a7, rfl, hh, hpl, hs, hS, hv⟩ := h
  obtain ⟨j, hj, ej⟩ := hin
  obtain ⟨pt0, j0⟩ := qi
  dsimp only at ej
  subst ej
  have hi := (List.getElem?_eq_some_iff.mp hqi).1
  obtain ⟨mj, hmj⟩ : ∃ m, ms[j]? = some m := ⟨ms[j], List.getElem?_eq_getElem hj⟩
  have hm : mj.Ok k := hok _ (List.mem_of_getElem? hmj)
  have hix : sIx (.tuple (ms.map Mem.enc)) (.int (j : Int)) = some mj.enc := by
    show atI (ms.map Mem.enc) (j : Int) = _
    rw [atI_n, List.getElem?_map, hmj]
    rfl
  have new : ∀ x, k.isBox = true → mj.ar = some x → x ∉ S := fun x hb hx z => by
    obtain ⟨j2, m2, q, hqm, eq2, em2, ea2⟩ := hS hb x z
    unfold args at ha
    rw [if_pos hb] at ha
    have : j = j2 := filterMap_one ha hmj em2 hx ea2
    subst this
    obtain ⟨n, hn, en⟩ := List.getElem_of_mem hqm
    rw [List.length_take] at hn
    rw [List.getElem_take] at en
    have h1 : n < (qs.map (·.2)).length := by rw [List.length_map]; omega
    have h2 : i < (qs.map (·.2)).length := by rw [List.length_map]; omega
    refine List.pairwise_iff_getElem.mp hnd n i h1 h2 (by omega) ?_
    have e3 : qs[i] = (pt0, (j : Int)) := (List.getElem?_eq_some_iff.mp hqi).2
    rw [List.getElem_map, List.getElem_map, en, eq2, e3]
  have hr := result_ok (c := mj.c) (s := mj.s) (pt := mj.pt) (e := mj.e) hs hm.ask (by omega) new
  have hr2 : RfP (f__law_result [.v (.str k.str), .v st, .v mj.enc]) (fun r os => os = [] ∧ ∃ (o : Op) (st' : D), r = .v (.tuple [o.enc, st']) ∧ o.Shut ∧ SX k (i + 1) (mj.ar.toList ++ S) st') fun _ _ => False := hr.mono (fun r os hq => by
    obtain ⟨h1, res, st', h2, h3⟩ := hq
    exact ⟨h1, ⟨mj.c, mj.s, some mj.e, mj.nm, mj.ar, res⟩, st', h2, ⟨⟨hm.client, (fun e2 he => by cases he; exact hm.span), (fun z => nomatch z), names_ok hm.ask⟩, ⟨_, rfl⟩, names_lay hm.ask⟩, h3⟩) fun _ _ z => z
  clear hr
  have hkey : (keyOf (.int (j : Int))).isSome = true := rfl
  unfold pd_1_b pd_1_0 pd_1_1
  generalize hT : PyData.tuple (ms.map Mem.enc) = T at hix
  generalize mj.enc = M at hix hr2
  unfold pdE
  rw [hT]
  simp -implicitDefEqProofs [prD, tgName, canPut_eq, noAli_eq, hix, CallP]
  refine hr2.mono (fun r os hq => ?_) fun _ _ z => z.elim
  obtain ⟨rfl, o, st', rfl, ho, hs'⟩ := hq
  simp -implicitDefEqProofs [canPut_eq, noAli_eq, hkey]
  refine ⟨hh, by omega, ?_⟩
  generalize hO : o.enc = O
  have hlen : (putP ps (.int (j : Int)) O).length ≤ i + 1 := Nat.le_trans (putP_le _ _ _) (by omega)
  have hh2 : noHead (putP ps (.int (j : Int)) O) = true := noHead_put hh
  have hv' : ∀ q ∈ qs.take (i + 1), ∃ o : Op, valP (putP ps (.int (j : Int)) O) (.int q.2) = some o.enc ∧ o.Shut := fun q hq2 => by
    rw [valP_put]
    by_cases e : (j : Int) = q.2
    · rw [if_pos e]
      exact ⟨o, by rw [hO], ho⟩
    · rw [if_neg e]
      rw [List.take_add_one, hqi] at hq2
      rcases List.mem_append.mp hq2 with z | z
      · exact hv q z
      · have : q = (pt0, (j : Int)) := by simpa using z
        exact absurd (by rw [this]) e
  have hS' : k.isBox = true → ∀ x ∈ mj.ar.toList ++ S, ∃ (j : Nat) (m : Mem) (q : Int × Int), q ∈ qs.take (i + 1) ∧ q.2 = (j : Int) ∧ ms[j]? = some m ∧ m.ar = some x := fun hb x hx => by
    rcases List.mem_append.mp hx with z | z
    · refine ⟨j, mj, (pt0, (j : Int)), ?_, rfl, hmj, by simpa using z⟩
      rw [List.take_add_one, hqi]
      simp
    · obtain ⟨j2, m2, q, hq1, hq2⟩ := hS hb x z
      exact ⟨j2, m2, q, (by rw [List.take_add_one]; exact List.mem_append_left _ hq1), hq2⟩
  generalize putP ps (.int (j : Int)) O = ps2 at hlen hh2 hv'
  refine ⟨st', ps2, mj.ar.toList ++ S, some (.int pt0), some (.int (j : Int)), some O, ?_, hh2, hlen, hs', hS', hv'⟩
  rw [← hT]
  rfl
end
end DL
/-! De14: played. -/
namespace DL
open PySem PySem.Spec L2
open PyProof.Rows hiding St
theorem first_sx (k : Kd) : RfP (f__law_first [.v (.str k.str)]) (fun r os => os = [] ∧ ∃ d, r = .v d ∧ SX k 0 [] d) fun _ _ => False := by
  cases k
  · exact ⟨rfl, _, rfl, .box [] rfl (Nat.le_refl _) fun x hx => nomatch hx⟩
  · exact ⟨rfl, _, rfl, .box [] rfl (Nat.le_refl _) fun x hx => nomatch hx⟩
  · exact ⟨rfl, _, rfl, .box [] rfl (Nat.le_refl _) fun x hx => nomatch hx⟩
  · exact ⟨rfl, _, rfl, .box [] rfl (Nat.le_refl _) fun x hx => nomatch hx⟩
  · exact ⟨rfl, _, rfl, .register none⟩
  · exact ⟨rfl, _, rfl, .counter 0⟩
  · exact ⟨rfl, _, rfl, .set [] (Nat.le_refl _)⟩
  · exact ⟨rfl, _, rfl, .map [] (Nat.le_refl _) List.nodup_nil⟩
  · exact ⟨rfl, _, rfl, .lock none⟩
def rowF (ms : List Mem) (d : D) : Option D := match d with
  | .int j => (ms[j.toNat]?).map fun m => .tuple [.int m.pt, .int j]
  | _ => none
def prsOf (ms : List Mem) : List (Int × Int) := (List.range ms.length).map fun (j : Nat) => ((ms[j]?.elim 0 Mem.pt), (j : Int))
theorem rows_is (ms : List Mem) : (rng ms.length).filterMap (rowF ms) = (prsOf ms).map prD := by
  unfold rng prsOf
  rw [Int.toNat_natCast, List.filterMap_map, List.map_map]
  have : ∀ l : List Nat, (∀ j ∈ l, j < ms.length) → l.filterMap (rowF ms ∘ fun i => PyData.int (0 + (i : Nat))) = l.map (prD ∘ fun (j : Nat) => ((ms[j]?.elim 0 Mem.pt), (j : Int))) := fun l => by
    induction l with
    | nil => intro _; rfl
    | cons j r ih =>
      intro h
      have hj := h j List.mem_cons_self
      rw [List.filterMap_cons, List.map_cons, ih fun x hx => h x (List.mem_cons_of_mem _ hx)]
      simp [rowF, prD, hj]
  exact this _ fun j hj => List.mem_range.mp hj
/-- a closed history -/
def HistS (n : Nat) (r : Rr) (os : List D) : Prop := ∃ h : List Op, r = .v (encH h) ∧ os = [] ∧ h.length ≤ n ∧ ∀ o ∈ h, o.Shut
theorem played_ok {k : Kd} {ms : List Mem} {T : D} (hT : PyData.tuple (ms.map Mem.enc) = T) (hl : ms.length ≤ 8) (hok : ∀ m ∈ ms, m.Ok k) (ha : (args k ms).Nodup) : RfP (f__law_played [.v (.str k.str), .v T]) (HistS 8) fun _ _ => False := by
  have hz := sizeLine_big
  obtain ⟨qs, f1, f2⟩ := sort_perm (prsOf ms)
  have cs := canSort_prs (prsOf ms)
  have hpl : (prsOf ms).length = ms.length := by simp [prsOf]
  have hql : qs.length = ms.length := by rw [f2.length_eq, hpl]
  have hin : ∀ q ∈ qs, ∃ j : Nat, j < ms.length ∧ q.2 = (j : Int) := fun q hq => by
    obtain ⟨j, hj, rfl⟩ := List.mem_map.mp (f2.mem_iff.mp hq)
    exact ⟨j, List.mem_range.mp hj, rfl⟩
  have hall : ∀ j, j < ms.length → ∃ q ∈ qs, q.2 = (j : Int) := fun j hj => ⟨_, f2.mem_iff.mpr (List.mem_map.mpr ⟨j, List.mem_range.mpr hj, rfl⟩), rfl⟩
  have hnd : (qs.map (·.2)).Nodup := by
    refine (f2.map _).nodup_iff.mpr ?_
    unfold prsOf
    rw [List.map_map]
    refine List.Pairwise.map _ (fun a b h z => h ?_) List.nodup_range
    have : (a : Int) = b := z
    omega
  have hix : ∀ j, (hj : j < ms.length) → sIx T (.int (j : Int)) = some ms[j].enc := fun j hj => by
    rw [← hT]
    show atI (ms.map Mem.enc) (j : Int) = _
    rw [atI_n]
    simp [hj]
  have hlen : sLen [T] = some (.int (ms.length : Nat)) := by
    rw [← hT, sLen_t, List.length_map]
  have hsm : small (ms.length : Int) = true := small_n (by omega)
  have hrow := rows_is ms
  refine RfP_run rfl ?_
  rw [pd_cut, OutP_seq]
  unfold pd_0
  simp -implicitDefEqProofs [startEn, arSl, hlen, hsm]
  refine RsP_compL (rowF ms) rfl (by simp [rng]; omega) (fun d hd => ?_) ?_
  · obtain ⟨j, hj, rfl⟩ := rng_at hd
    have e1 := hix j hj
    have e2 : sIx ms[j].enc (.int 2) = some (.int ms[j].pt) := rfl
    simp -implicitDefEqProofs [tgName, canPut_eq, noAli_eq, unw_nil, unw_val, unw_un, e1, e2, rowF, hj]
    omega
  · rw [hrow]
    simp -implicitDefEqProofs [cs, f1, CallP]
    refine (first_sx k).mono (fun r os hq => ?_) fun _ _ z => z.elim
    obtain ⟨rfl, st, rfl, hst⟩ := hq
    rw [show oDct = fun en => Rs.ok en (.dict []) from rfl]
    simp -implicitDefEqProofs [canPut_eq, noAli_eq]
    refine ⟨rfl, ?_⟩
    unfold pd_1
    simp -implicitDefEqProofs
    generalize hB : pd_2 = B
    refine OutP_forL _ (PdI k ms qs) _ ⟨st, [], [], none, none, none, by unfold pdE; rw [hT]; rfl, rfl, Nat.le_refl _, hst, (fun _ x hx => nomatch hx), fun q hq => nomatch hq⟩ (fun i d en ed hI => ?_) fun en hI => ?_
    · rw [List.getElem?_map] at ed
      cases eq : qs[i]? with
      | none => rw [eq] at ed; cases ed
      | some qi =>
        rw [eq] at ed
        obtain rfl : prD qi = d := by simpa using ed
        have hi := (List.getElem?_eq_some_iff.mp eq).1
        exact pd_turn eq hl (by omega) (hin qi (List.mem_of_getElem? eq)) hnd hok ha hI
    · rw [List.length_map] at hI
      obtain ⟨st, ps, S, a5, a6, a7, rfl, hh, hpl2, hs, hS, hv⟩ := hI
      rw [List.take_length] at hv
      rw [← hB]
      unfold pd_2 pdE
      rw [hT]
      simp -implicitDefEqProofs [hlen, hsm]
      refine RsP_compL (fun d => valP ps d) (wipe1 (a := a6) rfl) (by simp [rng]; omega) (fun d hd => ?_) ?_
      · obtain ⟨j, hj, rfl⟩ := rng_at hd
        obtain ⟨q, hq, eq2⟩ := hall j hj
        obtain ⟨o, eo, _⟩ := hv q hq
        rw [eq2] at eo
        have ed : sDIx (.dict ps) (.int (j : Int)) = some o.enc := by
          unfold sDIx
          dsimp only
          rw [if_pos ⟨rfl, hh⟩, eo]
        simp -implicitDefEqProofs [tgName, canPut_eq, noAli_eq, unw_nil, unw_val, unw_un, unw_pl, unw_own, ed, eo]
      · have hL : ∀ d ∈ (rng ms.length).filterMap (fun d => valP ps d), ∃ o : Op, d = o.enc ∧ o.Shut := fun d hd => by
          obtain ⟨x, hx, e⟩ := List.mem_filterMap.mp hd
          obtain ⟨j, hj, rfl⟩ := rng_at hx
          obtain ⟨q, hq, eq2⟩ := hall j hj
          obtain ⟨o, eo, ho⟩ := hv q hq
          rw [eq2] at eo
          rw [eo] at e
          exact ⟨o, (Option.some.inj e).symm, ho⟩
        obtain ⟨h, eh, ho⟩ := map_of2 hL
        have hhl : h.length ≤ ms.length := by
          have := filterMap_le (f := fun d => valP ps d) (rng ms.length)
          rw [rng_len, eh, List.length_map] at this
          exact this
        rw [eh]
        simp -implicitDefEqProofs [outsOf]
        exact ⟨h, rfl, rfl, by omega, ho⟩
end DL
/-! De15: bent. -/
namespace DL
open PySem PySem.Spec L2
open PyProof.Rows hiding St
@[irreducible] def bt_0 : Bd := (bIf (tOf (dOp sEq (dVar 1) (dTup (aNil)))) (bRet (dVarF 1)) (bNil))
@[irreducible] def bt_1 : Bd := (bParN [2, 3] (xCons (dCall f__law_draw [true, false] (aCons (dVar 0) (aCons (dCallB sLen (aCons (dVar 1) (aNil))) (aNil)))) (xCons (dCall f__law_draw [true, false] (aCons (dVar 0) (aCons (dC (.int 9)) (aNil)))) (xNil))))
@[irreducible] def bt_2 : Bd := (bSet 4 (dOp sIx (dVar 1) (dVar 2)))
@[irreducible] def bt_3 : Bd := (bSetZ 5 (oComp [6] (iRange1 (aCons (dCallB sLen (aCons (dVar 1) (aNil))) (aNil))) (tgName 6) (tAndD (tOf (dOp sEq (dOp sIx (dOp sIx (dVar 1) (dVar 6)) (dC (.int 3))) (dOp sIx (dVar 4) (dC (.int 3))))) (tOf (dOp sNe (dOp sIx (dOp sIx (dVar 1) (dVar 6)) (dC (.int 5))) (dOp sIx (dVar 4) (dC (.int 5)))))) (dVar 6)))
@[irreducible] def bt_4 : Bd := (bIf (tAndD (tOf (dOp (sCmp fLt) (dVar 3) (dC (.int 6)))) (tOf (dOp sNe (dVar 5) (dLst (aNil))))) (bSeq (bSet 6 (dCall f__law_pick [true, false] (aCons (dVar 0) (aCons (dVarF 5) (aNil))))) (bSeq (bSet 7 (dCall f__law_put [false, false, false] (aCons (dVarF 1) (aCons (dVarF 2) (aCons (dOp sAdd (dSl (dVar 4) (pNo) (pIs (dC (.int 5)))) (dTup (aCons (dOp sIx (dOp sIx (dVar 1) (dVar 6)) (dC (.int 5))) (aNil)))) (aNil)))))) (bRet (dIf (tOf (dOp sEq (dVar 3) (dC (.int 5)))) (dVarF 7) (dCall f__law_put [false, false, false] (aCons (dVarF 7) (aCons (dVarF 6) (aCons (dOp sAdd (dSl (dOp sIx (dVar 1) (dVar 6)) (pNo) (pIs (dC (.int 5)))) (dTup (aCons (dOp sIx (dVar 4) (dC (.int 5))) (aNil)))) (aNil))))))))) (bNil))
@[irreducible] def bt_5 : Bd := (bIf (tOf (dOp (sCmp fLt) (dVar 3) (dC (.int 7)))) (bSeq (bSet 8 (dOp sSub (dCall f__law_draw [true, false] (aCons (dVar 0) (aCons (dC (.int 41)) (aNil)))) (dC (.int 20)))) (bRet (dCall f__law_put [false, false, false] (aCons (dVarF 1) (aCons (dVarF 2) (aCons (dOp sAdd (dTup (aCons (dOp sIx (dVar 4) (dC (.int 0))) (aCons (dOp sAdd (dOp sIx (dVar 4) (dC (.int 1))) (dVar 8)) (aCons (dOp sAdd (dOp sIx (dVar 4) (dC (.int 2))) (dVar 8)) (aNil))))) (dSl (dVar 4) (pIs (dC (.int 3))) (pNo))) (aNil))))))) (bNil))
@[irreducible] def bt_6 : Bd := (bIf (tOf (dOp sEq (dVar 3) (dC (.int 7)))) (bRet (dCall f__law_put [false, false, false] (aCons (dVarF 1) (aCons (dVarF 2) (aCons (dOp sAdd (dTup (aCons (dOp sIx (dVar 4) (dC (.int 0))) (aCons (dOp sSub (dOp sIx (dVar 4) (dC (.int 1))) (dCall f__law_draw [true, false] (aCons (dVar 0) (aCons (dC (.int 20)) (aNil))))) (aCons (dOp sAdd (dOp sIx (dVar 4) (dC (.int 2))) (dCall f__law_draw [true, false] (aCons (dVar 0) (aCons (dC (.int 20)) (aNil))))) (aNil))))) (dSl (dVar 4) (pIs (dC (.int 3))) (pNo))) (aNil)))))) (bNil))
@[irreducible] def bt_7 : Bd := (bRet (dOp sAdd (dSl (dVar 1) (pNo) (pIs (dVar 2))) (dSl (dVar 1) (pIs (dOp sAdd (dVar 2) (dC (.int 1)))) (pNo))))
theorem bt_cut : b__law_bent = (bSeq bt_0 (bSeq bt_1 (bSeq bt_2 (bSeq bt_3 (bSeq bt_4 (bSeq bt_5 (bSeq bt_6 bt_7))))))) := by
  unfold bt_7 bt_6 bt_5 bt_4 bt_3 bt_2 bt_1 bt_0
  rfl
def putH (h : List Op) (k : Nat) (o : Op) : List Op := h.take k ++ [o] ++ h.drop (k + 1)
def HS (m : Nat) (h : List Op) : Prop := h.length ≤ m ∧ ∀ o ∈ h, o.Shut
theorem putH_len {h : List Op} {k : Nat} {o : Op} (hk : k < h.length) : (putH h k o).length = h.length := by
  unfold putH
  simp
  omega
theorem HS.put {m : Nat} {h : List Op} {k : Nat} {o : Op} (hs : HS m h) (hk : k < h.length) (ho : o.Shut) : HS m (putH h k o) := by
  refine ⟨by rw [putH_len hk]; exact hs.1, fun x hx => ?_⟩
  unfold putH at hx
  rcases List.mem_append.mp hx with z | z
  · rcases List.mem_append.mp z with z | z
    · exact hs.2 x (List.mem_of_mem_take z)
    · have : x = o := by simpa using z
      exact this ▸ ho
  · exact hs.2 x (List.mem_of_mem_drop z)
theorem HS.cut {m : Nat} {h : List Op} {k : Nat} (hs : HS m h) : HS m (h.take k ++ h.drop (k + 1)) := by
  refine ⟨?_, fun x hx => ?_⟩
  · have := hs.1
    simp
    omega
  · rcases List.mem_append.mp hx with z | z
    · exact hs.2 x (List.mem_of_mem_take z)
    · exact hs.2 x (List.mem_of_mem_drop z)
theorem Op.Shut.withRes {o : Op} (h : o.Shut) (r : Option Int) : ({ o with res := r } : Op).Shut := by
  obtain ⟨e, he⟩ := h.shut
  refine ⟨⟨h.ok.client, h.ok.stop, fun z => ?_, h.ok.name⟩, ⟨e, he⟩, h.lay⟩
  have : o.stop = none := z
  rw [he] at this
  cases this
theorem Op.Shut.atTimes {o : Op} (h : o.Shut) {a b : Int} (hab : a ≤ b) : ({ o with start := a, stop := some b } : Op).Shut :=
  ⟨⟨h.ok.client, fun e2 he => by cases he; exact hab, (fun z => nomatch z), h.ok.name⟩, ⟨b, rfl⟩, h.lay⟩
theorem put_ok {h : List Op} {k : Nat} {o : Op} (hk : k < h.length) (hl : h.length ≤ 60) : f__law_put [.v (encH h), .v (.int (k : Nat)), .v o.enc] = .ok (.v (encH (putH h k o))) [] := by
  have hz := sizeLine_big
  have e1 : sSl none (some (k : Int)) (encH h) = some (encH (h.take k)) := sl_H
  have e2 : sSl (some ((k : Int) + 1)) none (encH h) = some (encH (h.drop (k + 1))) := slf_H
  have e3 := one_H o
  have e4 : sAdd (encH (h.take k)) (encH [o]) = some (encH (h.take k ++ [o])) := add_H (by simp; omega)
  have e5 : sAdd (encH (h.take k ++ [o])) (encH (h.drop (k + 1))) = some (encH (putH h k o)) := add_H (by simp; omega)
  generalize hx : encH h = x at e1 e2
  generalize o.enc = y at e3
  refine Gives.eq (RfP_run rfl ?_)
  simp -implicitDefEqProofs [b__law_put, startEn, arSl, e1, e2, e3, e4, e5, outsOf]
  omega
theorem sNe_opt (a b : Option Int) : sNe (optD a) (optD b) = some (.bool (!decide (a = b))) := by
  have h := sEq_opt a b
  unfold sEq at h
  unfold sNe
  cases q : eqD (optD a) (optD b) with
  | none => rw [q] at h; cases h
  | some v =>
    rw [q] at h
    injection h with h
    injection h with h
    rw [← h]
    rfl
theorem neNil_flat {ds : List D} (hd : ∀ d ∈ ds, ∃ i : Int, d = .int i) : sNe (.list ds) (.list []) = some (.bool (!ds.isEmpty)) := by
  obtain ⟨ms, e⟩ := map_of (f := PyData.int) (l := ds) hd
  rw [e, neNilL, List.isEmpty_map]
def likeF (h : List Op) (one : Op) (d : D) : Option D := match d with
  | .int j => (match h[j.toNat]? with
    | some o => if (o.name == one.name && !decide (o.res = one.res)) = true then some (.int j) else none
    | none => none)
  | _ => none
def HistB (m n : Nat) (r : Rr) (os : List D) : Prop := ∃ h p', r = .v (encH h) ∧ os = [p'] ∧ HS m h ∧ Pot n p'
theorem sl5o (o : Op) : sSl none (some 5) o.enc = some (.tuple [.int o.client, .int o.start, optD o.stop, .str o.name, optD o.arg]) := rfl
theorem sl5l (a b c d e f : D) : sSl none (some 5) (.tuple [a, b, c, d, e, f]) = some (.tuple [a, b, c, d, e]) := rfl
theorem sl3l (a b c d e f : D) : sSl (some 3) none (.tuple [a, b, c, d, e, f]) = some (.tuple [d, e, f]) := rfl
theorem sl3o (o : Op) : sSl (some 3) none o.enc = some (.tuple [.str o.name, optD o.arg, optD o.res]) := rfl
theorem bent_ok {n m : Nat} {p : D} {h : List Op} (hh : HS m h) (hm : m ≤ 14) (hp : Pot n p) (hn : n ≤ 700000) : RfP (f__law_bent [.o p, .v (encH h)]) (HistB m (n + 5)) fun _ _ => False := by
  have hz := sizeLine_big
  have hl := hh.1
  have e1 := eq_nilH (h := h) fun o ho => (hh.2 o ho).lay
  have e2 := lenH h
  have hsm : small (h.length : Int) = true := small_n (by omega)
  have eat : ∀ j, (hj : j < h.length) → sIx (encH h) (.int (j : Int)) = some h[j].enc := fun j hj => at_H hj (by omega)
  have eput : ∀ (j : Nat) (o : Op), j < h.length → f__law_put [.v (encH h), .v (.int (j : Nat)), .v o.enc] = .ok (.v (encH (putH h j o))) [] := fun j o hj => put_ok hj (by omega)
  have esl : ∀ k : Nat, sSl none (some (k : Int)) (encH h) = some (encH (h.take k)) := fun k => sl_H
  have eslf : ∀ k : Nat, sSl (some ((k : Int) + 1)) none (encH h) = some (encH (h.drop (k + 1))) := fun k => slf_H
  generalize hx : encH h = x at e1 e2 eat eput esl eslf
  refine RfP_run rfl ?_
  rw [bt_cut, OutP_seq]
  unfold bt_0
  cases h with
  | nil =>
    simp -implicitDefEqProofs at e1
    simp -implicitDefEqProofs [startEn, arSl, e1, outsOf]
    exact ⟨[], p, by rw [hx], rfl, hh, hp.mono (by omega)⟩
  | cons o0 h0 =>
    generalize hg : o0 :: h0 = h at *
    have hpos : 0 < h.length := by rw [← hg]; simp
    have hne : h.isEmpty = false := by rw [← hg]; rfl
    rw [hne] at e1
    simp -implicitDefEqProofs [startEn, arSl, e1]
    unfold bt_1
    simp -implicitDefEqProofs [e2, CallP]
    refine draw_then hp (by omega) (by omega) (by omega) fun a p1 h1 h2 hp1 => ?_
    obtain ⟨k, rfl⟩ : ∃ k : Nat, a = (k : Int) := ⟨a.toNat, by omega⟩
    have hk : k < h.length := by omega
    simp -implicitDefEqProofs [CallP]
    refine draw_then hp1 (by omega) (by omega) (by omega) fun t p2 h3 h4 hp2 => ?_
    simp -implicitDefEqProofs [canPut_eq, noAli_eq]
    refine ⟨rfl, ?_⟩
    have ek := eat k hk
    have ho : h[k].Shut := hh.2 _ (List.getElem_mem hk)
    generalize hone : h[k] = one at ek ho
    unfold bt_2
    simp -implicitDefEqProofs [ek, canPut_eq, noAli_eq]
    unfold bt_3
    simp -implicitDefEqProofs [e2, hsm]
    refine RsP_compL (likeF h one) rfl (by simp [rng]; omega) (fun d hd => ?_) ?_
    · obtain ⟨j, hj, rfl⟩ := rng_at hd
      have ej := eat j hj
      have e3 := sNe_opt h[j].res one.res
      have e4 := enc3 h[j]
      have e5 := enc5 h[j]
      have e6 := enc3 one
      have e7 := enc5 one
      simp -implicitDefEqProofs [tgName, canPut_eq, noAli_eq, unw_nil, unw_val, unw_un, unw_own, ej, e3, e4, e5, e6, e7, likeF, hj]
      by_cases q : h[j].name = one.name <;> by_cases q2 : h[j].res = one.res <;> simp [q, q2]
    · have lks : ∀ d ∈ (rng h.length).filterMap (likeF h one), ∃ j : Nat, j < h.length ∧ d = .int j := fun d hd => by
        obtain ⟨y, hy, e⟩ := List.mem_filterMap.mp hd
        obtain ⟨j, hj, rfl⟩ := rng_at hy
        unfold likeF at e
        dsimp only at e
        split at e
        · split at e
          · exact ⟨j, hj, (Option.some.inj e).symm⟩
          · cases e
        · cases e
      have lkl : ((rng h.length).filterMap (likeF h one)).length ≤ h.length := by
        have := filterMap_le (f := likeF h one) (rng h.length)
        rw [rng_len] at this
        exact this
      have e3 := neNil_flat (ds := (rng h.length).filterMap (likeF h one)) fun d hd => by
        obtain ⟨j, _, rfl⟩ := lks d hd
        exact ⟨_, rfl⟩
      generalize (rng h.length).filterMap (likeF h one) = lk at lks lkl e3
      obtain ⟨c, s, st, nm, ar, rs⟩ := one
      obtain ⟨e, he⟩ := ho.shut
      dsimp only at he
      subst he
      have hse : s ≤ e := ho.ok.stop e rfl
      unfold Op.enc at ek
      dsimp only [optD_s] at ek
      have eput2 : ∀ (o : Op), f__law_put [.v x, .v (.int (k : Nat)), .v (.tuple [.int o.client, .int o.start, optD o.stop, .str o.name, optD o.arg, optD o.res])] = .ok (.v (encH (putH h k o))) [] := fun o => eput k o hk
      have tail : ∀ (N : En → Prop) (E : En → Ex → Prop), OutP (bSeq bt_5 (bSeq bt_6 bt_7) [.own true p2, .val x, .val (.int (k : Nat)), .val (.int t), .val (.tuple [.int c, .int s, .int e, .str nm, optD ar, optD rs]), .val (.list lk), .un, .un, .un]) N (fun en r => match outsOf en 0 [.o p, .v x] with
          | some os => HistB m (n + 5) r os
          | none => False) E := fun N E => by
        rw [OutP_seq]
        unfold bt_5
        by_cases c7 : t < 7
        · simp -implicitDefEqProofs [c7, CallP]
          refine draw_then hp2 (by omega) (by omega) (by omega) fun b p3 h5 h6 hp3 => ?_
          have ep := eput2 ⟨c, s + (b - 20), some (e + (b - 20)), nm, ar, rs⟩
          dsimp only [optD_s] at ep
          simp -implicitDefEqProofs [canPut_eq, noAli_eq, sl3l, -sSl_t, CallP, ep, outsOf]
          refine ⟨by omega, by omega, _, p3, rfl, rfl, hh.put hk (ho.atTimes (by omega)), hp3.mono (by omega)⟩
        · simp -implicitDefEqProofs [c7]
          unfold bt_6
          by_cases c8 : t = 7
          · simp -implicitDefEqProofs [c8, CallP]
            refine draw_then hp2 (by omega) (by omega) (by omega) fun b p3 h5 h6 hp3 => ?_
            simp -implicitDefEqProofs [CallP]
            refine draw_then hp3 (by omega) (by omega) (by omega) fun b2 p4 h7 h8 hp4 => ?_
            have ep := eput2 ⟨c, s - b, some (e + b2), nm, ar, rs⟩
            dsimp only [optD_s] at ep
            simp -implicitDefEqProofs [canPut_eq, noAli_eq, sl3l, -sSl_t, CallP, ep, outsOf]
            refine ⟨by omega, by omega, _, p4, rfl, rfl, hh.put hk (ho.atTimes (by omega)), hp4.mono (by omega)⟩
          · simp -implicitDefEqProofs [c8]
            unfold bt_7
            have ea : sAdd (encH (h.take k)) (encH (h.drop (k + 1))) = some (encH (h.take k ++ h.drop (k + 1))) := add_H (by simp; omega)
            simp -implicitDefEqProofs [esl, eslf, ea, outsOf]
            exact ⟨_, p2, rfl, rfl, hh.cut, hp2.mono (by omega)⟩
      simp -implicitDefEqProofs [Op.enc, canPut_eq, noAli_eq]
      unfold bt_4
      by_cases c6 : t < 6
      · cases lk with
        | nil =>
          simp -implicitDefEqProofs at e3
          simp -implicitDefEqProofs [c6, e3]
          have tl := tail (fun en => match outsOf en 0 [.o p, .v x] with
            | some os => HistB m (n + 5) (.v .none) os
            | none => False) (fun en _ => match outsOf en 0 [.o p, .v x] with
            | some os => False
            | none => False)
          simp only [OutP_seq] at tl
          exact tl
        | cons l0 ll =>
          simp -implicitDefEqProofs at e3
          simp -implicitDefEqProofs [c6, e3, CallP]
          refine pick_then hp2 (by omega) (by simp) (by omega) fun d p3 hd hp3 => ?_
          obtain ⟨j, hj, rfl⟩ := lks d hd
          have ej := eat j hj
          have hoj : h[j].Shut := hh.2 _ (List.getElem_mem hj)
          generalize h[j] = oj at ej hoj
          obtain ⟨cj, sj, stj, nmj, arj, rsj⟩ := oj
          have hoj2 := hoj.withRes rs
          unfold Op.enc at ej
          dsimp only at ej
          have ep := eput2 ⟨c, s, some e, nm, ar, rsj⟩
          dsimp only [optD_s] at ep
          have hput := hh.put hk (ho.withRes rsj)
          have ep2 : f__law_put [.v (encH (putH h k ⟨c, s, some e, nm, ar, rsj⟩)), .v (.int (j : Nat)), .v (.tuple [.int cj, .int sj, optD stj, .str nmj, optD arj, optD rs])] = .ok (.v (encH (putH (putH h k ⟨c, s, some e, nm, ar, rsj⟩) j ⟨cj, sj, stj, nmj, arj, rs⟩))) [] := put_ok (o := ⟨cj, sj, stj, nmj, arj, rs⟩) (by rw [putH_len hk]; exact hj) (by rw [putH_len hk]; omega)
          have hput2 := hput.put (k := j) (by rw [putH_len hk]; exact hj) hoj2
          dsimp only at hput hput2
          simp -implicitDefEqProofs [canPut_eq, noAli_eq, sl5l, -sSl_t, ej, CallP, ep]
          refine ⟨by omega, by omega, ?_⟩
          by_cases c5 : t = 5
          · simp -implicitDefEqProofs [c5, outsOf]
            exact ⟨_, p3, rfl, rfl, hput, hp3.mono (by omega)⟩
          · simp -implicitDefEqProofs [c5, ej, sl5l, -sSl_t, CallP, ep2, outsOf]
            exact ⟨by omega, by omega, _, p3, rfl, rfl, hput2, hp3.mono (by omega)⟩
      · simp -implicitDefEqProofs [c6]
        have tl := tail (fun en => match outsOf en 0 [.o p, .v x] with
          | some os => HistB m (n + 5) (.v .none) os
          | none => False) (fun en _ => match outsOf en 0 [.o p, .v x] with
          | some os => False
          | none => False)
        simp only [OutP_seq] at tl
        exact tl
end DL
/-! De16: a history drawn. -/
namespace DL
open PySem PySem.Spec L2
open PyProof.Rows hiding St
theorem history_ok {k : Kd} {n : Nat} {p : D} (hp : Pot n p) (hn : n ≤ 500000) : RfP (f__law_history [.o p, .v (.str k.str), .v (.int 8)]) (HistB 8 (n + 140)) fun _ _ => False := by
  have hz := sizeLine_big
  refine RfP_run rfl ?_
  unfold b__law_history
  generalize hB : bSet 3 (dCall f__law_bent [true, false] (aCons (dVar 0) (aCons (dVarF 3) (aNil)))) = B
  simp -implicitDefEqProofs [startEn, arSl, CallP]
  refine (play_ok hp (by omega)).mono (fun r os hq => ?_) fun _ _ z => z.elim
  obtain ⟨ms, p1, T, rfl, hT, rfl, hl, hok, ha, hp1⟩ := hq
  simp -implicitDefEqProofs [CallP]
  refine (played_ok hT hl hok ha).mono (fun r os hq => ?_) fun _ _ z => z.elim
  obtain ⟨h, rfl, rfl, hl2, hs⟩ := hq
  simp -implicitDefEqProofs [canPut_eq, noAli_eq, CallP]
  refine ⟨by omega, ?_⟩
  refine draw_then hp1 (by omega) (by omega) (by omega) fun a p2 h1 h2 hp2 => ?_
  obtain ⟨t, ht, e⟩ : ∃ t : Nat, t ≤ 4 ∧ atI [PyData.int 0, .int 1, .int 2, .int 3, .int 4] a = some (.int (t : Int)) := by
    have : a = 0 ∨ a = 1 ∨ a = 2 ∨ a = 3 ∨ a = 4 := by omega
    rcases this with rfl | rfl | rfl | rfl | rfl
    · exact ⟨0, by omega, by simp⟩
    · exact ⟨1, by omega, by simp⟩
    · exact ⟨2, by omega, by simp⟩
    · exact ⟨3, by omega, by simp⟩
    · exact ⟨4, by omega, by simp⟩
  simp -implicitDefEqProofs [e]
  refine ⟨small_n (by omega), ?_⟩
  refine OutP_forL _ (fun i en => ∃ h p a, en = [.own true p, .val (.str k.str), .val (.int 8), .val (encH h), pl a] ∧ HS 8 h ∧ Pot (n + 111 + 5 * i) p) _ ⟨h, p2, none, rfl, ⟨hl2, hs⟩, hp2.mono (by omega)⟩ (fun i d en ed hI => ?_) fun en hI => ?_
  · have hi : i < t := by
      have := (List.getElem?_eq_some_iff.mp ed).1
      rw [rng_len] at this
      exact this
    obtain ⟨h, p, a, rfl, hh, hp⟩ := hI
    rw [← hB]
    simp -implicitDefEqProofs [tgName, canPut_eq, noAli_eq, CallP]
    refine (bent_ok hh (by omega) hp (by omega)).mono (fun r os hq => ?_) fun _ _ z => z.elim
    obtain ⟨h2, p3, rfl, rfl, hh2, hp3⟩ := hq
    simp -implicitDefEqProofs [canPut_eq, noAli_eq]
    exact ⟨h2, p3, ⟨rfl, rfl, some d, rfl⟩, hh2, hp3.mono (by omega)⟩
  · rw [rng_len] at hI
    obtain ⟨h, p, a, rfl, hh, hp⟩ := hI
    simp -implicitDefEqProofs [outsOf]
    exact ⟨h, p, rfl, rfl, hh, hp.mono (by omega)⟩
end DL
/-! Dn2: rules for the forms of Dl22; folds over indexes. -/
namespace DL
open PySem PySem.Spec L2
open PyProof.Rows hiding St
section
variable {en : En} {fa fb fo : Ev} {av : Av} {P : En → Rv → Prop} {PD : En → D → Prop} {E : En → Ex → Prop}
@[simp] theorem RsP_oOp {sem : D → D → Option D} : RsP (oOp sem fa fb en) PD E = RsP (fa en) (fun en1 x => RsP (fb en1) (fun en2 y => OpP (res en2 x) fun d => OpP (res en2 y) fun e => OpP (sem d e) fun r => PD en2 r) E) E := by
  unfold oOp
  simp only [RsP_bind]
  congr 1
  funext en1 x
  congr 1
  funext en2 y
  cases res en2 x with
  | none => rfl
  | some d =>
    cases res en2 y with
    | none => rfl
    | some e =>
      simp only [OpP_some]
      cases sem d e <;> rfl
@[simp] theorem RsP_oMeth {q : D → Bool} {sem : D → List D → Option D} : RsP (oMeth q sem fa av en) PD E = RsP (fa en) (fun en1 x => OpP (res en1 x) fun d0 => q d0 = true ∧ RsP (av en1) (fun en2 xs => OpP (res en2 x) fun d => OpP (resAll en2 xs) fun ds => OpP (sem d ds) fun r => PD en2 r) E) E := by
  unfold oMeth
  simp only [RsP_bind]
  congr 1
  funext en1 x
  cases res en1 x with
  | none => rfl
  | some d0 =>
    simp only [OpP_some]
    split
    · rename_i h
      simp only [h, true_and, RsP_bind]
      congr 1
      funext en2 xs
      cases res en2 x with
      | none => rfl
      | some d =>
        cases resAll en2 xs with
        | none => rfl
        | some ds =>
          simp only [OpP_some]
          cases sem d ds <;> rfl
    · rename_i h
      simp [h]
@[simp] theorem RsP_range2 {PI : En → List D → Prop} : RsP (iRange2 av en) PI E = RsP (av en) (fun en1 xs => R2P xs fun i j => PI en1 (rng2 i j)) E := by
  unfold iRange2
  simp only [RsP_bind]
  congr 1
  funext en1 xs
  match xs with
  | [] => rfl
  | [.s _] => rfl
  | [.d d] => cases d <;> rfl
  | .s _ :: _ :: _ => rfl
  | [.d d, .s _] => cases d <;> rfl
  | [.d d, .d e] =>
    cases d <;> cases e <;> first | rfl | skip
    dsimp only [R2P_i]
    split
    · rename_i h; simp only [h, true_and, and_true, RsP_ok]; rfl
    · rename_i h; simp [h]
  | .d d :: .d e :: _ :: _ => cases d <;> cases e <;> rfl
  | .d d :: .s _ :: _ :: _ => cases d <;> rfl
end
theorem rng2_at {i j : Int} {k : Nat} {d : D} (h : (rng2 i j)[k]? = some d) : k < (j - i).toNat ∧ d = .int (i + (k : Nat)) := by
  unfold rng2 at h
  rw [List.getElem?_map] at h
  cases q : (List.range (j - i).toNat)[k]? with
  | none => rw [q] at h; cases h
  | some x =>
    rw [q] at h
    obtain ⟨h1, h2⟩ := List.getElem?_eq_some_iff.mp q
    cases h
    rw [List.length_range] at h1
    rw [List.getElem_range] at h2
    subst h2
    exact ⟨h1, rfl⟩
theorem rng2_len (i j : Int) : (rng2 i j).length = (j - i).toNat := by simp [rng2]
/-- a comprehension whose parts may change what is owned: by an invariant -/
theorem RsP_compS {vs : List Nat} {tg : Tg} {tt : Tv} {el : Ev} {P : En → D → Prop} {E : En → Ex → Prop} (I : Nat → En → List D → Prop) : ∀ (ds : List D) (k : Nat) (en : En) (acc : List D), I k en acc →
    (∀ (i : Nat) (d : D) (en : En) (acc : List D), ds[i]? = some d → I (k + i) en acc → ∃ en0, wipeE en vs = some en0 ∧ OpP (tg d en0) fun en1 => RsP (tt en1) (fun en2 b => if b = true then RsP (el en2) (fun en3 r => acc.length < sizeLine ∧ DP_ r fun y => OpP (unw en en3) fun en4 => I (k + i + 1) en4 (acc ++ [y])) (fun _ _ => False) else OpP (unw en en2) fun en4 => I (k + i + 1) en4 acc) fun _ _ => False) →
    (∀ en acc, I (k + ds.length) en acc → P en (.list acc)) → RsP (compL vs tg tt el ds en acc) P E
  | [], k, en, acc, h0, _, fin => fin en acc h0
  | d :: ds, k, en, acc, h0, step, fin => by
    obtain ⟨en0, ew, h1⟩ := step 0 d en acc rfl h0
    have next : ∀ en' acc', I (k + 1) en' acc' → RsP (compL vs tg tt el ds en' acc') P E := fun en' acc' h' =>
      RsP_compS I ds (k + 1) en' acc' h' (fun i d' en2 acc2 e hI => by
        have := step (i + 1) d' en2 acc2 (by simpa using e) (by rw [show k + (i + 1) = k + 1 + i by omega]; exact hI)
        rw [show k + (i + 1) + 1 = k + 1 + i + 1 by omega] at this
        exact this) fun en2 acc2 hI => fin en2 acc2 (by rw [List.length_cons, show k + (ds.length + 1) = k + 1 + ds.length by omega]; exact hI)
    unfold compL
    rw [ew]
    dsimp only
    cases q : tg d en0 with
    | none => rw [q] at h1; exact h1.elim
    | some en1 =>
      rw [q] at h1
      dsimp only [OpP_some] at h1 ⊢
      cases q2 : tt en1 with
      | no => rw [q2] at h1; exact h1.elim
      | ex en2 x => rw [q2] at h1; exact h1.elim
      | ok en2 b =>
        rw [q2] at h1
        cases b with
        | false =>
          dsimp only
          have h1 : OpP (unw en en2) fun en4 => I (k + 0 + 1) en4 acc := h1
          cases q3 : unw en en2 with
          | none => rw [q3] at h1; exact h1.elim
          | some en4 =>
            rw [q3] at h1
            exact next en4 acc h1
        | true =>
          dsimp only
          have h1 : RsP (el en2) (fun en3 r => acc.length < sizeLine ∧ DP_ r fun y => OpP (unw en en3) fun en4 => I (k + 0 + 1) en4 (acc ++ [y])) (fun _ _ => False) := h1
          cases q4 : el en2 with
          | no => rw [q4] at h1; exact h1.elim
          | ex en3 x => rw [q4] at h1; exact h1.elim
          | ok en3 r =>
            rw [q4] at h1
            obtain ⟨hl, h2⟩ := h1
            cases r with
            | s j => exact h2.elim
            | d y =>
              dsimp only
              rw [if_pos hl]
              have h2 : OpP (unw en en3) fun en4 => I (k + 0 + 1) en4 (acc ++ [y]) := h2
              cases q3 : unw en en3 with
              | none => rw [q3] at h2; exact h2.elim
              | some en4 =>
                rw [q3] at h2
                exact next en4 _ h2
@[simp] theorem isStrD_s {x : Str} : isStrD (.str x) = true := rfl
theorem strsOf_map : ∀ ys : List Str, strsOf (ys.map PyData.str) = some ys
  | [] => rfl
  | y :: r => by
    rw [List.map_cons]
    unfold strsOf
    rw [strsOf_map r]
    rfl
theorem join_l {a : Str} {ys : List Str} (h : joinOk a ys = true) : sJoin (.str a) [.list (ys.map PyData.str)] = some (.str (Txt.join a ys)) := by
  have : sJoin (.str a) [.list (ys.map PyData.str)] = (strsOf (ys.map PyData.str)).bind fun ys => if joinOk a ys = true then some (.str (Txt.join a ys)) else none := rfl
  rw [this, strsOf_map]
  simp [h]
theorem joinOk_of {a : Str} {ys : List Str} {m n : Nat} (h : ∀ y ∈ ys, y.length ≤ m) (hn : ys.length ≤ n) (ha : n * m + n * a.length ≤ 16777216) : joinOk a ys = true := by
  have : (ys.map (·.length)).sum ≤ ys.length * m := by
    clear hn
    induction ys with
    | nil => simp
    | cons y r ih =>
      have h1 := h y (List.mem_cons_self ..)
      have h2 := ih fun z hz => h z (List.mem_cons_of_mem _ hz)
      rw [List.map_cons, List.sum_cons, List.length_cons, Nat.succ_mul]
      omega
  unfold joinOk
  have h1 := Nat.mul_le_mul_right m hn
  have h2 := Nat.mul_le_mul_right a.length hn
  exact decide_eq_true (by omega)
/-- a fold over the indexes -/
theorem fold_range {α β : Type} {f : β → α → β} {h : List α} {s : β} : ∀ k : Nat, k ≤ h.length → (List.range k).foldl (fun s i => match h[i]? with
    | some o => f s o
    | none => s) s = (h.take k).foldl f s
  | 0, _ => rfl
  | k + 1, hk => by
    have hk2 : k < h.length := hk
    rw [List.range_succ, List.foldl_append, fold_range k (by omega), List.take_succ, List.foldl_append]
    simp [List.getElem?_eq_getElem hk2]
theorem set_range {α : Type} {g : Nat → α} {n q : Nat} {v : α} : ((List.range n).map g).set q v = (List.range n).map fun x => if x = q then v else g x := by
  apply List.ext_getElem?
  intro i
  rw [List.getElem?_set]
  by_cases hq : q = i
  · subst hq
    by_cases hl : q < n
    · simp [hl]
    · have : n ≤ q := by omega
      simp [hl, this]
  · rw [if_neg hq]
    simp only [List.getElem?_map]
    by_cases hl : i < n
    · have : ¬ i = q := fun z => hq z.symm
      simp [hl, this]
    · have : n ≤ i := by omega
      simp [this]
end DL
/-! Df1: letters, words, orders. -/
namespace DL
open PySem PySem.Spec L2
open PyProof.Rows hiding St
def letS (x : Str) : Str := ⟨#[x.cps.toList.headD 0]⟩
theorem name_len {x : Str} (h : nameOk x) : 1 ≤ x.length ∧ x.length ≤ 8 := by
  unfold nameOk at h
  by_cases hz : x.length ≤ sizeLine
  · by_cases hh : 1 ≤ x.length ∧ x.length ≤ 8
    · exact hh
    · exfalso
      have el : sLen [.str x] = some (.int x.length) := by simp [sLen, lenD, hz]
      have e : f_is_name [.v (.str x)] = .ok (.v (.bool false)) [] := by
        refine Gives.eq (RfP_run rfl ?_)
        simp -implicitDefEqProofs [b_is_name, startEn, arSl, outsOf, c_MOST_LETTERS, el]
        omega
      rw [h] at e
      cases e
  · exfalso
    have el : sLen [.str x] = none := by simp [sLen, lenD, hz]
    have e : f_is_name [.v (.str x)] = .no := by
      simp [f_is_name, runFn, b_is_name, startEn, arSl, bSeq, bIf, tOrD, tNotD, tOf, dUn, dVar, Rs.bind, op1, res, isStr, opB, toB, dChain, dC, dCallB, opN, aCons, aNil, resAll, el]
      rfl
    rw [h] at e
    cases e
theorem let_ok {x : Str} (h : nameOk x) : sIx (.str x) (.int 0) = some (.str (letS x)) := by
  obtain ⟨h1, h2⟩ := name_len h
  have hz := sizeLine_big
  obtain ⟨a⟩ := x
  obtain ⟨l⟩ := a
  cases l with
  | nil => simp [Str.length] at h1
  | cons c r =>
    have h3 : (Str.mk ⟨c :: r⟩).length ≤ sizeLine := by omega
    simp [sIx, letS, h3]
    simp [atI, ixN]
end DL
namespace DL
open PySem PySem.Spec L2
open PyProof.Rows hiding St
def wordF (d : D) : Option D := match d with
  | .int i => some (.str (toString i))
  | _ => none
def strI (i : Int) : Str := toString i
def wordsS (ns : List Int) : Str := Txt.join " " (ns.map strI)
theorem strI_len : ∀ i : Int, 0 ≤ i → i < 60 → (strI i).length ≤ 2 := by
  intro i h0 h1
  have h : ∀ k : _root_.Fin 60, (strI ((k : Nat) : Int)).length ≤ 2 := by decide +kernel
  have := h ⟨i.toNat, by omega⟩
  rwa [show ((i.toNat : Nat) : Int) = i by omega] at this
theorem words_eq (ns : List Int) : (ns.map PyData.int).filterMap wordF = (ns.map strI).map PyData.str := by
  induction ns with
  | nil => rfl
  | cons n r ih => rw [List.map_cons, List.map_cons, List.map_cons, List.filterMap_cons_some (f := wordF) (a := PyData.int n) (b := PyData.str (strI n)) rfl, ih]
theorem join_words {ns : List Int} (h : ∀ i ∈ ns, 0 ≤ i ∧ i < 60) (hl : ns.length ≤ 16) : sJoin (.str " ") [.list ((ns.map PyData.int).filterMap wordF)] = some (.str (wordsS ns)) := by
  rw [words_eq]
  refine join_l (joinOk_of (m := 2) (n := 16) (fun y hy => ?_) (by rw [List.length_map]; exact hl) (by decide +kernel))
  obtain ⟨i, hi, rfl⟩ := List.mem_map.mp hy
  exact strI_len i (h i hi).1 (h i hi).2
theorem small_log {i : Int} (h0 : 0 ≤ i) (h : i < 60) : i.natAbs.log2 < 1920 := by
  have := Nat.log2_le_self i.natAbs
  omega
theorem words_ok {ns : List Int} (h : ∀ i ∈ ns, 0 ≤ i ∧ i < 60) (hl : ns.length ≤ 16) : f_words_of [.v (.tuple (ns.map .int))] = .ok (.v (.str (wordsS ns))) [] := by
  have hz := sizeLine_big
  have ej := join_words h hl
  refine Gives.eq ?_
  generalize hx : PyData.tuple (ns.map PyData.int) = x
  refine RfP_run rfl ?_
  subst hx
  simp -implicitDefEqProofs [b_words_of, startEn, arSl, outsOf]
  refine RsP_compL wordF rfl (by rw [List.length_map]; omega) (fun d hd => ?_) ?_
  · obtain ⟨i, hi, rfl⟩ := List.mem_map.mp hd
    have := small_log (h i hi).1 (h i hi).2
    simp -implicitDefEqProofs [tgName, canPut_eq, noAli_eq, unw, sStr, this, wordF]
  · simp -implicitDefEqProofs [-List.filterMap_map, ej]
/-- a whole number from 0 on -/
def fromB (d : D) : Bool := match d with
  | .int i => decide (0 ≤ i)
  | _ => false
theorem from0 {d : D} (h : notDct d = true) : f_is_from [.v (.int 0), .v d] = .ok (.v (.bool (fromB d))) [] := by
  cases d <;> first | (cases h; done) | rfl
def fromF (d : D) : Option D := some (.bool (fromB d))
theorem bools_from : ∀ ds : List D, boolsD (ds.filterMap fromF) = some (ds.map fromB)
  | [] => rfl
  | d :: r => by
    rw [List.filterMap_cons_some (f := fromF) (a := d) (b := PyData.bool (fromB d)) rfl]
    show (boolsD (r.filterMap fromF)).map _ = _
    rw [bools_from r]
    rfl
theorem all_from (ds : List D) : sAll [.list (ds.filterMap fromF)] = some (.bool (ds.all fromB)) := by
  show (boolsD (ds.filterMap fromF)).map _ = _
  rw [bools_from]
  simp
theorem from_comp {ds : List D} (hn : ∀ d ∈ ds, notDct d = true) (hl : ds.length ≤ 64) {en : En} {Q : En → D → Prop} {E : En → Ex → Prop} {x : D} (he : en = [.val x, .un]) (p : Q en (.list (ds.filterMap fromF))) :
    RsP (compL [1] (tgName 1) tYesD (dCall f_is_from [false, false] (aCons (dC (.int 0)) (aCons (dVar 1) aNil))) ds en []) Q E := by
  have hz := sizeLine_big
  subst he
  refine RsP_compL fromF rfl (by omega) (fun d hd => ?_) p
  have e := from0 (hn d hd)
  simp -implicitDefEqProofs [tgName, canPut_eq, noAli_eq, unw, CallP, e, fromF]
theorem order_ok {ns : List Int} (h : ∀ i ∈ ns, 0 ≤ i ∧ i < 60) (hl : ns.length ≤ 16) : f_order_text [.v (.tuple (ns.map .int))] = .ok (.v (.str (wordsS ns))) [] := by
  have hz := sizeLine_big
  have ew := words_ok h hl
  have ea := all_from (ns.map PyData.int)
  have hall : (ns.map PyData.int).all fromB = true := by
    rw [List.all_eq_true]
    intro d hd
    obtain ⟨i, hi, rfl⟩ := List.mem_map.mp hd
    exact decide_eq_true (h i hi).1
  rw [hall] at ea
  refine Gives.eq ?_
  generalize hx : PyData.tuple (ns.map PyData.int) = x at ew
  refine RfP_run rfl ?_
  subst hx
  simp -implicitDefEqProofs [b_order_text, startEn, arSl, outsOf]
  refine from_comp (fun d hd => ?_) (by rw [List.length_map]; omega) rfl ?_
  · obtain ⟨i, hi, rfl⟩ := List.mem_map.mp hd
    rfl
  · simp -implicitDefEqProofs [-List.filterMap_map, ea, CallP, ew]
theorem order_no {ds : List D} (hn : ∀ d ∈ ds, notDct d = true) (hl : ds.length ≤ 64) (hb : ds.all fromB = false) : f_order_text [.v (.tuple ds)] = .ex ⟨"InvalidOrder", []⟩ [] := by
  have hz := sizeLine_big
  have ea := all_from ds
  rw [hb] at ea
  refine ex_of ?_
  generalize hx : PyData.tuple ds = x
  refine RfP_run rfl ?_
  subst hx
  simp -implicitDefEqProofs [b_order_text, startEn, arSl, outsOf]
  refine from_comp hn hl rfl ?_
  simp -implicitDefEqProofs [ea, bRaise, outsOf]
theorem order_nt {d : D} (h : isTup d = some (.bool false)) : f_order_text [.v d] = .ex ⟨"InvalidOrder", []⟩ [] := by
  refine ex_of (RfP_run rfl ?_)
  simp -implicitDefEqProofs [b_order_text, startEn, arSl, outsOf, h, bRaise]
theorem tell_ok {d R : D} (hf : f_order_text [.v d] = .ok (.v R) []) : f__law_told [.v d] = .ok (.v R) [] := by
  refine Gives.eq (RfP_run rfl ?_)
  unfold b__law_told
  rw [OutP_seq]
  refine OutP_tryM ?_
  simp -implicitDefEqProofs [startEn, arSl, CallP, hf, canPut_eq, noAli_eq, outsOf]
theorem tell_no {d : D} (hf : f_order_text [.v d] = .ex ⟨"InvalidOrder", []⟩ []) : f__law_told [.v d] = .ok (.v (.int 0)) [] := by
  refine Gives.eq (RfP_run rfl ?_)
  unfold b__law_told
  rw [OutP_seq]
  refine OutP_tryM ?_
  simp -implicitDefEqProofs [startEn, arSl, CallP, hf, canPut_eq, noAli_eq]
  refine ⟨_, rfl, ?_⟩
  simp -implicitDefEqProofs [canPut_eq, noAli_eq, outsOf]
end DL
/-! Df2: a client's line, plain. -/
namespace DL
open PySem PySem.Spec L2
open PyProof.Rows hiding St
/-- an operation goes on at a moment -/
def covers (o : Op) (m : Int) : Bool := decide (o.start ≤ m) && o.stop.elim true fun e => decide (m ≤ e)
/-- the sign of a client at a moment -/
def sgnS (h : List Op) (c m : Int) : Str := h.foldl (fun s o => if o.client == c && covers o m then letS o.name else s) "."
def lineS (h : List Op) (T : List Int) (c : Int) : Str := Txt.join "" (T.map fun m => sgnS h c m)
/-- one index of the client's, at a moment -/
def stepS (h : List Op) (m : Int) (s : Str) (d : D) : Str := match d with
  | .int i => (match h[i.toNat]? with
    | some o => if covers o m then letS o.name else s
    | none => s)
  | _ => s
theorem fold_sel (h : List Op) (c m : Int) : (sel h fun o => o.client == c).foldl (stepS h m) "." = sgnS h c m := by
  have e2 : (h.take h.length).foldl (fun s o => if o.client == c && covers o m then letS o.name else s) "." = sgnS h c m := by rw [List.take_length]; rfl
  rw [← e2, ← fold_range (h := h) (f := fun s o => if o.client == c && covers o m then letS o.name else s) (s := (".":Str)) h.length (Nat.le_refl _)]
  unfold sel
  rw [List.foldl_filterMap]
  unfold rng
  rw [List.foldl_map]
  simp only [Int.toNat_natCast]
  congr 1
  funext s i
  have e : ((0 : Int) + (i : Nat)) = ((i : Nat) : Int) := by omega
  rw [e]
  unfold byIdx
  simp only [Int.toNat_natCast]
  cases q : h[i]? with
  | none => rfl
  | some o =>
    dsimp only
    by_cases hc : o.client == c
    · simp [hc, stepS, q]
    · simp [hc]
/-- the signs, by their places -/
def sgnL (n : Nat) (g : Nat → Str) : List D := (List.range n).map fun q => PyData.str (g q)
theorem sgnL_len (n : Nat) (g : Nat → Str) : (sgnL n g).length = n := by simp [sgnL]
theorem sgnL_set {n q : Nat} {g : Nat → Str} {v : Str} : (sgnL n g).set q (.str v) = sgnL n fun x => if x = q then v else g x := by
  unfold sgnL
  rw [set_range]
  congr 1
  funext x
  by_cases hx : x = q
  · simp [hx]
  · simp [hx]
theorem sgnL_ext {n : Nat} {g g' : Nat → Str} (h : ∀ q, q < n → g q = g' q) : sgnL n g = sgnL n g' := by
  unfold sgnL
  refine List.map_congr_left fun q hq => ?_
  rw [h q (List.mem_range.mp hq)]
theorem lt_iff {T : List Int} (hT : T.Pairwise (· < ·)) {p q : Nat} {a b : Int} (ha : T[p]? = some a) (hb : T[q]? = some b) : a ≤ b ↔ p ≤ q := by
  obtain ⟨hp, rfl⟩ := List.getElem?_eq_some_iff.mp ha
  obtain ⟨hq, rfl⟩ := List.getElem?_eq_some_iff.mp hb
  have key := List.pairwise_iff_getElem.mp hT
  constructor
  · intro h
    apply Classical.byContradiction
    intro hc
    have := key q p hq hp (by omega)
    omega
  · intro h
    rcases Nat.lt_or_eq_of_le h with z | z
    · exact Int.le_of_lt (key p q hp hq z)
    · subst z; exact Int.le_refl _
theorem idx_int {m : Int} : ∀ {T : List Int} {k i : Nat}, T.Pairwise (· < ·) → T[i]? = some m → idxOf (.int m) (T.map PyData.int) k = some (k + i)
  | [], k, i, _, e => by cases e
  | t :: r, k, 0, hT, e => by
    cases e
    have : PyData.eqv (.int m) (.int m) = true := by simp [PyData.eqv]
    simp [idxOf, this]
  | t :: r, k, i + 1, hT, e => by
    have hm : m ∈ r := List.mem_of_getElem? e
    have hlt := (List.pairwise_cons.mp hT).1 m hm
    have : PyData.eqv (.int t) (.int m) = false := by
      have : t ≠ m := by omega
      simp [PyData.eqv, this]
    have ih := idx_int (T := r) (k := k + 1) (i := i) (List.pairwise_cons.mp hT).2 (by simpa using e)
    rw [List.map_cons]
    unfold idxOf
    rw [this, ih]
    simp
    omega
theorem index_ok {T : List Int} {m : Int} {i : Nat} (hT : T.Pairwise (· < ·)) (e : T[i]? = some m) : sIndex (.list (T.map .int)) [.int m] = some (.int (i : Nat)) := by
  have h1 := shaped_intsL T
  have h2 : SeqAt.shaped (.int m) = true := by simp [SeqAt.shaped, PyData.canLay0, PyData.depth]
  show (if SeqAt.shaped (.list (T.map .int)) = true ∧ SeqAt.shaped (.int m) = true then (idxOf (.int m) (T.map PyData.int) 0).map fun n => PyData.int (n : Nat) else none) = _
  rw [if_pos ⟨h1, h2⟩, idx_int hT e]
  simp
theorem join_sgn {n : Nat} {g : Nat → Str} (hg : ∀ q, (g q).length ≤ 1) (hn : n ≤ 64) : sJoin (.str "") [.list (sgnL n g)] = some (.str (Txt.join "" ((List.range n).map g))) := by
  have : sgnL n g = ((List.range n).map g).map PyData.str := by rw [List.map_map]; rfl
  rw [this]
  refine join_l (joinOk_of (m := 1) (n := 64) (fun y hy => ?_) (by simpa using hn) (by decide +kernel))
  obtain ⟨q, _, rfl⟩ := List.mem_map.mp hy
  exact hg q
theorem sgn_short (h : List Op) (c m : Int) : (sgnS h c m).length ≤ 1 := by
  have key : ∀ (l : List Op) (s : Str), s.length ≤ 1 → (l.foldl (fun s o => if o.client == c && covers o m then letS o.name else s) s).length ≤ 1 := by
    intro l
    induction l with
    | nil => exact fun s h => h
    | cons o r ih =>
      intro s hs
      rw [List.foldl_cons]
      refine ih _ ?_
      split
      · exact Nat.le_of_eq rfl
      · exact hs
  exact key h "." (Nat.le_of_eq (by decide))
end DL
/-! Df3: a client's line, walked. -/
namespace DL
open PySem PySem.Spec L2
open PyProof.Rows hiding St
@[irreducible] def ln_0 : Bd := (bSetO 3 (oOp sRepO (dLst (aCons (dC (.str ".")) (aNil))) (dCallB sLen (aCons (dVar 1) (aNil)))))
@[irreducible] def ln_1_0 : Bd := (bSet 5 (dOp sIx (dVar 0) (dVar 4)))
@[irreducible] def ln_1_1 : Bd := (bSet 6 (dIf (tOf (dOp sIs (dOp sIx (dVar 5) (dC c_END)) (dC .none))) (dOp sSub (dCallB sLen (aCons (dVar 1) (aNil))) (dC (.int 1))) (dMeth isListD sIndex (dVar 1) (aCons (dOp sIx (dVar 5) (dC c_END)) aNil))))
@[irreducible] def ln_1_2_0 : Bd := (bAsg (dOp sIx (dOp sIx (dVar 5) (dC c_NAME)) (dC (.int 0))) (hSub (dVar 3) (dVar 7)))
@[irreducible] def ln_1_2_b : Bd := ln_1_2_0
@[irreducible] def ln_1_2 : Bd := bFor (iRange2 (aCons (dMeth isListD sIndex (dVar 1) (aCons (dOp sIx (dVar 5) (dC c_START)) aNil)) (aCons (dOp sAdd (dVar 6) (dC (.int 1))) (aNil)))) (tgName 7) ln_1_2_b
@[irreducible] def ln_1_b : Bd := (bSeq ln_1_0 (bSeq ln_1_1 ln_1_2))
@[irreducible] def ln_1 : Bd := bFor (iOf itAll (dCall f_indexes_of_client [false, false] (aCons (dVarF 0) (aCons (dVarF 2) (aNil))))) (tgName 4) ln_1_b
@[irreducible] def ln_2 : Bd := (bRet (dMeth isStrD sJoin (dC (.str "")) (aCons (dVar 3) aNil)))
theorem ln_cut : b_line_of_client = (bSeq ln_0 (bSeq ln_1 ln_2)) := by
  unfold ln_2 ln_1 ln_1_b ln_1_2 ln_1_2_b ln_1_2_0 ln_1_1 ln_1_0 ln_0
  rfl
def lnE (H : D) (T : List Int) (c : Int) (L : List D) (a4 a5 a6 a7 : Option D) : En := [.val H, .val (.list (T.map .int)), .val (.int c), .own false (.list L), pl a4, pl a5, pl a6, pl a7]
section
variable {N : En → Prop} {R : En → Rr → Prop} {E : En → Ex → Prop} {h : List Op} {T : List Int} {c : Int} {L : List D} {a4 a5 a6 a7 : Option D}
theorem ln_0_ok (hT : T.length ≤ 64) (hN : N (lnE (encH h) T c (sgnL T.length fun _ => ".") none none none none)) : OutP (ln_0 [.val (encH h), .val (.list (T.map .int)), .val (.int c), .un, .un, .un, .un, .un]) N R E := by
  have hz := sizeLine_big
  have e1 : sRepO (.list [.str "."]) (.int ((T.length : Nat) : Int)) = some (.list (sgnL T.length fun _ => ".")) := by
    have : (List.replicate T.length [PyData.str "."]).flatten = sgnL T.length fun _ => "." := by
      unfold sgnL
      apply List.ext_getElem?
      intro i
      by_cases hi : i < T.length
      · simp [hi]
      · simp [show T.length ≤ i by omega]
    have e0 : sRepO (.list [.str "."]) (.int ((T.length : Nat) : Int)) = if -(2 ^ 63) ≤ ((T.length : Nat) : Int) ∧ ((T.length : Nat) : Int) < 2 ^ 63 ∧ [PyData.str "."].length * ((T.length : Nat) : Int).toNat ≤ sizeLine then some (.list (List.replicate ((T.length : Nat) : Int).toNat [PyData.str "."]).flatten) else none := rfl
    rw [e0, if_pos ⟨by omega, by omega, by simp; omega⟩, Int.toNat_natCast, this]
  have e2 : sLen [.list (T.map .int)] = some (.int ((T.length : Nat) : Int)) := by simp [sLen, lenD]
  unfold ln_0
  simp -implicitDefEqProofs [e1, e2, canPut_eq, noAli_eq]
  exact ⟨by omega, hN⟩
theorem ln_1_0_ok {i : Nat} {o : Op} (e : h[i]? = some o) (hl : h.length ≤ 64) (hN : N (lnE (encH h) T c L (some (.int (i : Nat))) (some o.enc) a6 a7)) : OutP (ln_1_0 (lnE (encH h) T c L (some (.int (i : Nat))) a5 a6 a7)) N R E := by
  obtain ⟨hi, rfl⟩ := List.getElem?_eq_some_iff.mp e
  have e1 := at_H hi (by omega)
  unfold ln_1_0 lnE
  unfold lnE at hN
  generalize encH h = x at e1 hN ⊢
  simp -implicitDefEqProofs [e1, canPut_eq, noAli_eq]
  exact hN
theorem enc2 (o : Op) : sIx o.enc (.int 2) = some (optD o.stop) := rfl
theorem enc1 (o : Op) : sIx o.enc (.int 1) = some (.int o.start) := rfl
theorem ln_1_1_ok {o : Op} {j : Nat} (hT : T.Pairwise (· < ·)) (hl : T.length ≤ 64) (hj : match o.stop with
    | none => j + 1 = T.length
    | some e => T[j]? = some e) (hN : N (lnE (encH h) T c L a4 (some o.enc) (some (.int (j : Nat))) a7)) : OutP (ln_1_1 (lnE (encH h) T c L a4 (some o.enc) a6 a7)) N R E := by
  have hz := sizeLine_big
  have e2 := enc2 o
  unfold ln_1_1 lnE
  unfold lnE at hN
  generalize o.enc = y at e2 hN ⊢
  generalize encH h = x at hN ⊢
  cases q : o.stop with
  | none =>
    rw [q] at e2 hj
    have e3 : sLen [.list (T.map .int)] = some (.int ((T.length : Nat) : Int)) := by simp [sLen, lenD]
    have e4 : ((T.length : Nat) : Int) - 1 = (j : Nat) := by
      have hj : j + 1 = T.length := hj
      omega
    simp -implicitDefEqProofs [c_END, e2, e3, e4, canPut_eq, noAli_eq]
    exact hN
  | some e =>
    rw [q] at e2 hj
    have e3 := index_ok hT hj
    simp -implicitDefEqProofs [c_END, e2, e3, canPut_eq, noAli_eq]
    exact ⟨rfl, hN⟩
theorem ln_1_2_0_ok {o : Op} {q : Nat} {g : Nat → Str} (hn : nameOk o.name) (hq : q < T.length) (hN : N (lnE (encH h) T c (sgnL T.length fun x => if x = q then letS o.name else g x) a4 (some o.enc) a6 (some (.int (q : Nat))))) :
    OutP (ln_1_2_0 (lnE (encH h) T c (sgnL T.length g) a4 (some o.enc) a6 (some (.int (q : Nat))))) N R E := by
  have e1 := enc3 o
  have e2 := let_ok hn
  have e3 : ixN (sgnL T.length g).length ((q : Nat) : Int) = some q := ixN_nat (by rw [sgnL_len]; exact hq)
  have e4 := sgnL_set (n := T.length) (q := q) (g := g) (v := letS o.name)
  unfold ln_1_2_0 lnE
  unfold lnE at hN
  rw [← e4] at hN
  generalize o.enc = y at e1 hN ⊢
  generalize encH h = x at hN ⊢
  generalize sgnL T.length g = L at e3 hN ⊢
  simp -implicitDefEqProofs [c_NAME, e1, e2, e3, canPut_eq, noAli_eq]
  exact hN
theorem ln_tg7 {H d : D} {P : En → Prop} (hN : P (lnE H T c L a4 a5 a6 (some d))) : OpP (tgName 7 d (lnE H T c L a4 a5 a6 a7)) P := by
  unfold lnE
  unfold lnE at hN
  simp -implicitDefEqProofs [tgName, canPut_eq, noAli_eq]
  exact hN
theorem ln_tg4 {H d : D} {P : En → Prop} (hN : P (lnE H T c L (some d) a5 a6 a7)) : OpP (tgName 4 d (lnE H T c L a4 a5 a6 a7)) P := by
  unfold lnE
  unfold lnE at hN
  simp -implicitDefEqProofs [tgName, canPut_eq, noAli_eq]
  exact hN
theorem ln_1_2_ok {o : Op} {i j : Nat} {g : Nat → Str} (hn : nameOk o.name) (hT : T.Pairwise (· < ·)) (hl : T.length ≤ 64) (hi : T[i]? = some o.start) (hj : j < T.length) (hij : i ≤ j)
    (hN : ∀ a7, N (lnE (encH h) T c (sgnL T.length fun x => if i ≤ x ∧ x ≤ j then letS o.name else g x) a4 (some o.enc) (some (.int (j : Nat))) a7)) : OutP (ln_1_2 (lnE (encH h) T c (sgnL T.length g) a4 (some o.enc) (some (.int (j : Nat))) a7)) N R E := by
  have hz := sizeLine_big
  have e1 := enc1 o
  have e3 := index_ok hT hi
  unfold ln_1_2
  generalize hB : ln_1_2_b = B
  unfold lnE
  generalize hL : sgnL T.length g = L
  generalize hy : o.enc = y at e1
  generalize hx : encH h = x
  simp -implicitDefEqProofs [c_START, e1, e3]
  have ex := congrArg (sgnL T.length) (show g = fun x => if i ≤ x ∧ x < i + 0 then letS o.name else g x by
    funext x
    rw [if_neg (by omega)])
  refine ⟨rfl, ⟨small_n (by omega), small_i (by omega) (by omega)⟩, ?_⟩
  have h0 : [Sl.val x, Sl.val (PyData.list (List.map PyData.int T)), Sl.val (PyData.int c), Sl.own false (PyData.list L), pl a4, Sl.val y, Sl.val (PyData.int (j : Nat)), pl a7] = lnE (encH h) T c (sgnL T.length fun x => if i ≤ x ∧ x < i + 0 then letS o.name else g x) a4 (some o.enc) (some (.int (j : Nat))) a7 := by
    rw [← ex, hL, ← hx, ← hy]; rfl
  rw [h0]
  refine OutP_forL _ (fun k en => ∃ a7, en = lnE (encH h) T c (sgnL T.length fun x => if i ≤ x ∧ x < i + k then letS o.name else g x) a4 (some o.enc) (some (.int (j : Nat))) a7) _ ⟨a7, rfl⟩ (fun k d en ed hI => ?_) fun en hI => ?_
  · obtain ⟨hk, rfl⟩ := rng2_at ed
    obtain ⟨a, rfl⟩ := hI
    have hk2 : i + k < T.length := by omega
    have e5 : ((i : Int) + (k : Nat)) = ((i + k : Nat) : Int) := by omega
    rw [e5]
    refine ln_tg7 ?_
    rw [← hB]
    unfold ln_1_2_b
    refine ln_1_2_0_ok hn hk2 ⟨_, congrArg (fun z => lnE (encH h) T c z a4 (some o.enc) (some (.int (j : Nat))) (some (.int ((i + k : Nat) : Int)))) (sgnL_ext fun q hq => ?_)⟩
    by_cases h1 : q = i + k
    · rw [if_pos h1, if_pos (by omega)]
    · rw [if_neg h1]
      by_cases h2 : i ≤ q ∧ q < i + k
      · rw [if_pos h2, if_pos (by omega)]
      · rw [if_neg h2, if_neg (by omega)]
  · obtain ⟨a, rfl⟩ := hI
    rw [rng2_len]
    have e7 : (sgnL T.length fun x => if i ≤ x ∧ x < i + ((j : Int) + 1 - (i : Int)).toNat then letS o.name else g x) = sgnL T.length fun x => if i ≤ x ∧ x ≤ j then letS o.name else g x := sgnL_ext fun q hq => by
      by_cases h2 : i ≤ q ∧ q ≤ j
      · rw [if_pos h2, if_pos (by omega)]
      · rw [if_neg h2, if_neg (by omega)]
    rw [e7]
    exact hN a
/-- the moments of a history -/
structure Moms (h : List Op) (T : List Int) : Prop where
  up : T.Pairwise (· < ·)
  few : T.length ≤ 64
  start : ∀ o ∈ h, o.start ∈ T
  stop : ∀ o ∈ h, ∀ e, o.stop = some e → e ∈ T
theorem covers_iff {o : Op} {i j : Nat} {q : Nat} {m : Int} (hT : T.Pairwise (· < ·)) (hi : T[i]? = some o.start) (hj : match o.stop with
    | none => j + 1 = T.length
    | some e => T[j]? = some e) (hq : T[q]? = some m) : covers o m = decide (i ≤ q ∧ q ≤ j) := by
  have h1 := lt_iff hT hi hq
  have hq2 := (List.getElem?_eq_some_iff.mp hq).1
  unfold covers
  cases r : o.stop with
  | none =>
    rw [r] at hj
    have hj : j + 1 = T.length := hj
    simp only [Option.elim_none, Bool.and_true]
    exact decide_eq_decide.mpr ⟨fun z => ⟨h1.mp z, by omega⟩, fun z => h1.mpr z.1⟩
  | some e =>
    rw [r] at hj
    have h2 := lt_iff hT hq hj
    simp only [Option.elim_some]
    rw [← Bool.decide_and]
    exact decide_eq_decide.mpr ⟨fun z => ⟨h1.mp z.1, h2.mp z.2⟩, fun z => ⟨h1.mpr z.1, h2.mpr z.2⟩⟩
theorem ln_1_b_ok {i : Nat} {o : Op} {ds : List D} (ok : ∀ o ∈ h, o.Ok) (hl : h.length ≤ 64) (hM : Moms h T) (e : h[i]? = some o)
    (hN : ∀ a5 a6 a7, N (lnE (encH h) T c (sgnL T.length fun q => (ds ++ [PyData.int (i : Nat)]).foldl (stepS h (T[q]?.getD 0)) ".") (some (.int (i : Nat))) a5 a6 a7)) :
    OutP (ln_1_b (lnE (encH h) T c (sgnL T.length fun q => ds.foldl (stepS h (T[q]?.getD 0)) ".") (some (.int (i : Nat))) a5 a6 a7)) N R E := by
  have ho := List.mem_of_getElem? e
  obtain ⟨i0, hi0⟩ := List.mem_iff_getElem?.mp (hM.start o ho)
  obtain ⟨j0, hj0, hjl, hij⟩ : ∃ j0 : Nat, (match o.stop with
    | none => j0 + 1 = T.length
    | some e => T[j0]? = some e) ∧ j0 < T.length ∧ i0 ≤ j0 := by
    have hil := (List.getElem?_eq_some_iff.mp hi0).1
    cases r : o.stop with
    | none => exact ⟨T.length - 1, by show _ = _; omega, by omega, by omega⟩
    | some z =>
      obtain ⟨j0, hj0⟩ := List.mem_iff_getElem?.mp (hM.stop o ho z r)
      exact ⟨j0, hj0, (List.getElem?_eq_some_iff.mp hj0).1, (lt_iff hM.up hi0 hj0).mp ((ok o ho).stop z r)⟩
  unfold ln_1_b
  rw [OutP_seq]
  refine ln_1_0_ok e hl ?_
  rw [OutP_seq]
  refine ln_1_1_ok hM.up hM.few hj0 ?_
  refine ln_1_2_ok (ok o ho).name hM.up hM.few hi0 hjl hij fun a => ?_
  have e7 : (sgnL T.length fun x => if i0 ≤ x ∧ x ≤ j0 then letS o.name else ds.foldl (stepS h (T[x]?.getD 0)) ".") = sgnL T.length fun q => (ds ++ [PyData.int (i : Nat)]).foldl (stepS h (T[q]?.getD 0)) "." := sgnL_ext fun q hq => by
    have hq2 := List.getElem?_eq_getElem hq
    rw [List.foldl_append]
    simp only [List.foldl_cons, List.foldl_nil, stepS, Int.toNat_natCast, e, hq2, Option.getD_some]
    rw [covers_iff hM.up hi0 hj0 hq2]
    by_cases h2 : i0 ≤ q ∧ q ≤ j0
    · simp [h2]
    · simp [h2]
  rw [e7]
  exact hN _ _ _
theorem ln_1_ok (ok : ∀ o ∈ h, o.Ok) (hl : h.length ≤ 64) (hM : Moms h T)
    (hN : ∀ a4 a5 a6 a7, N (lnE (encH h) T c (sgnL T.length fun q => sgnS h c (T[q]?.getD 0)) a4 a5 a6 a7)) :
    OutP (ln_1 (lnE (encH h) T c (sgnL T.length fun _ => ".") a4 a5 a6 a7)) N R E := by
  have hz := sizeLine_big
  have e1 := indexes_ok hl c
  unfold ln_1
  generalize hB : ln_1_b = B
  have key : OutP (forL (tgName 4) B (sel h fun o => o.client == c) (lnE (encH h) T c (sgnL T.length fun _ => ".") a4 a5 a6 a7)) N R E := by
    refine OutP_forL _ (fun k en => ∃ a4 a5 a6 a7, en = lnE (encH h) T c (sgnL T.length fun q => ((sel h fun o => o.client == c).take k).foldl (stepS h (T[q]?.getD 0)) ".") a4 a5 a6 a7) _ ⟨a4, a5, a6, a7, rfl⟩ (fun k d en ed hI => ?_) fun en hI => ?_
    · obtain ⟨b4, b5, b6, b7, rfl⟩ := hI
      obtain ⟨i, o, ei, _, rfl⟩ := sel_mem (List.mem_of_getElem? ed)
      refine ln_tg4 ?_
      rw [← hB]
      refine ln_1_b_ok ok hl hM ei fun c5 c6 c7 => ⟨some (.int (i : Nat)), c5, c6, c7, ?_⟩
      rw [List.take_succ, ed]
      rfl
    · obtain ⟨b4, b5, b6, b7, rfl⟩ := hI
      rw [List.take_length]
      have : (fun q : Nat => (sel h fun o => o.client == c).foldl (stepS h (T[q]?.getD 0)) ".") = fun q : Nat => sgnS h c (T[q]?.getD 0) := by
        funext q
        exact fold_sel h c _
      rw [this]
      exact hN _ _ _ _
  unfold lnE at key ⊢
  generalize encH h = x at e1 key ⊢
  generalize (sgnL T.length fun _ => ".") = L at key ⊢
  generalize sel h (fun o => o.client == c) = ds at e1 key ⊢
  simp -implicitDefEqProofs [CallP, e1]
  exact key
end
theorem start8 {x y z : D} : startEn 8 [.v x, .v y, .v z] = [.val x, .val y, .val z, .un, .un, .un, .un, .un] := rfl
theorem line_ok {h : List Op} {T : List Int} {c : Int} (ok : ∀ o ∈ h, o.Ok) (hl : h.length ≤ 64) (hM : Moms h T) : f_line_of_client [.v (encH h), .v (.list (T.map .int)), .v (.int c)] = .ok (.v (.str (lineS h T c))) [] := by
  have hz := sizeLine_big
  refine Gives.eq ?_
  generalize hx : encH h = x
  generalize ht : PyData.list (T.map PyData.int) = t
  refine RfP_run rfl ?_
  rw [ln_cut, OutP_seq, start8]
  subst hx
  subst ht
  refine ln_0_ok hM.few ?_
  rw [OutP_seq]
  refine ln_1_ok ok hl hM fun a4 a5 a6 a7 => ?_
  have ej := join_sgn (n := T.length) (g := fun q => sgnS h c (T[q]?.getD 0)) (fun q => sgn_short _ _ _) hM.few
  have el : (List.range T.length).map (fun q => sgnS h c (T[q]?.getD 0)) = T.map fun m => sgnS h c m := by
    apply List.ext_getElem?
    intro q
    by_cases hq : q < T.length
    · simp [hq]
    · simp [show T.length ≤ q by omega]
  rw [el] at ej
  unfold ln_2 lnE
  generalize encH h = x
  generalize (sgnL T.length fun q => sgnS h c (T[q]?.getD 0)) = L at ej ⊢
  unfold lineS
  simp -implicitDefEqProofs [ej, outsOf]
end DL
/-! Df4: moments, clients, the picture. -/
namespace DL
open PySem PySem.Spec L2
open PyProof.Rows hiding St
theorem insU_len (x : Int) : ∀ l : List Int, (insU x l).length ≤ l.length + 1
  | [] => by simp [insU]
  | y :: r => by
    have := insU_len x r
    unfold insU
    split
    · simp
    · split <;> simp <;> omega
theorem uniq_len : ∀ ns : List Int, (uniq ns).length ≤ ns.length
  | [] => Nat.le_refl _
  | n :: r => by
    have h1 := uniq_len r
    have h2 := insU_len n (uniq r)
    show (insU n (uniq r)).length ≤ _
    simp
    omega
def momM (h : List Op) : List Int := h.map Op.start ++ h.filterMap Op.stop
theorem momM_len {h : List Op} (hl : h.length ≤ 31) : (momM h).length < 64 := by
  have := List.length_filterMap_le Op.stop h
  unfold momM
  simp
  omega
theorem moms_ok {h : List Op} (hl : h.length ≤ 31) : Moms h (uniq (momM h)) where
  up := uniq_lt _
  few := Nat.le_trans (uniq_len _) (Nat.le_of_lt (momM_len hl))
  start o ho := uniq_mem.mpr (List.mem_append_left _ (List.mem_map.mpr ⟨o, ho, rfl⟩))
  stop o ho e he := uniq_mem.mpr (List.mem_append_right _ (List.mem_filterMap.mpr ⟨o, ho, he⟩))
def startF (d : D) : Option D := sIx d (.int 1)
def stopF (d : D) : Option D := match sIx d (.int 2) with
  | some (.int e) => some (.int e)
  | _ => none
def clientF (d : D) : Option D := sIx d (.int 0)
theorem starts_eq : ∀ h : List Op, (h.map Op.enc).filterMap startF = (h.map Op.start).map PyData.int
  | [] => rfl
  | o :: r => by
    rw [List.map_cons, List.map_cons, List.map_cons, List.filterMap_cons_some (f := startF) (a := o.enc) (b := PyData.int o.start) rfl, starts_eq r]
theorem clients_eq : ∀ h : List Op, (h.map Op.enc).filterMap clientF = (h.map Op.client).map PyData.int
  | [] => rfl
  | o :: r => by
    rw [List.map_cons, List.map_cons, List.map_cons, List.filterMap_cons_some (f := clientF) (a := o.enc) (b := PyData.int o.client) rfl, clients_eq r]
theorem stopF_eq (o : Op) : stopF o.enc = o.stop.map PyData.int := by
  unfold stopF
  rw [enc2]
  cases o.stop <;> rfl
theorem stops_eq : ∀ h : List Op, (h.map Op.enc).filterMap stopF = (h.filterMap Op.stop).map PyData.int
  | [] => rfl
  | o :: r => by
    have ih := stops_eq r
    rw [List.map_cons]
    have e := stopF_eq o
    cases q : o.stop with
    | none =>
      rw [q] at e
      rw [List.filterMap_cons_none (f := stopF) (a := o.enc) e, List.filterMap_cons_none q, ih]
    | some z =>
      rw [q] at e
      rw [List.filterMap_cons_some (f := stopF) (a := o.enc) e, List.filterMap_cons_some q, ih]
      rfl
theorem keys_sorted {ms cs : List Int} (hn : ms.Nodup) (hm : ∀ k, k ∈ ms ↔ k ∈ cs) (hl : ms.length < 64) : sSorted2 [.dict (keysF ms)] = some (.list ((uniq cs).map .int)) := by
  have hz := sizeLine_big
  have e7 : sSorted [.dict (keysF ms)] = none := rfl
  unfold sSorted2 sSortedD
  rw [e7]
  dsimp only
  rw [intsD_keys]
  dsimp only
  rw [if_pos (by omega), sort_uniq (cs := cs) hn hm]
theorem fold_ints : ∀ (cs ns : List Int), ns.Nodup → ∃ ms : List Int, ((cs.map PyData.int).foldl (fun a d => putP a d (.bool true)) (keysF ns)) = keysF ms ∧ ms.Nodup ∧ (∀ k, k ∈ ms ↔ k ∈ ns ∨ k ∈ cs) ∧ ms.length ≤ ns.length + cs.length
  | [], ns, hn => ⟨ns, rfl, hn, fun k => by simp, by simp⟩
  | c :: r, ns, hn => by
    rw [List.map_cons, List.foldl_cons, put_keys]
    obtain ⟨ms, e1, e2, e3, e4⟩ := fold_ints r (if c ∈ ns then ns else ns ++ [c]) (by
      split
      · exact hn
      · rename_i hc
        rw [List.nodup_append]
        exact ⟨hn, by simp, fun a ha b hb => by
          simp at hb
          subst hb
          intro z
          subst z
          exact hc ha⟩)
    refine ⟨ms, e1, e2, fun k => ?_, ?_⟩
    · rw [e3]
      split
      · rename_i hc
        constructor
        · rintro (z | z)
          · exact .inl z
          · exact .inr (List.mem_cons_of_mem _ z)
        · rintro (z | z)
          · exact .inl z
          · rcases List.mem_cons.mp z with z | z
            · exact .inl (z ▸ hc)
            · exact .inr z
      · simp [or_assoc]
    · split at e4
      · simp; omega
      · simp at e4 ⊢; omega
@[irreducible] def pc_0 : Bd := (bExpr (dCall f_check_history [false] (aCons (dVarF 0) (aNil))))
@[irreducible] def pc_1 : Bd := (bSetZ 1 (oComp [4] (iOf itAll (dVarF 0)) (tgName 4) (tOf (dOp sIsNot (dOp sIx (dVar 4) (dC c_END)) (dC .none))) (dOp sIx (dVar 4) (dC c_END))))
@[irreducible] def pc_2 : Bd := (bSet 2 (dCallB sSorted2 (aCons (dFz (oCompD [5] (iOf itAll (dOp sAdd (dFz (oComp [4] (iOf itAll (dVarF 0)) (tgName 4) (tYesD) (dOp sIx (dVar 4) (dC c_START)))) (dVar 1))) (tgName 5) (tYesD) (dVar 5) (dC (.bool true)))) (aNil))))
@[irreducible] def pc_3 : Bd := (bSet 3 (dCallB sSorted2 (aCons (dFz (oCompD [4] (iOf itAll (dVarF 0)) (tgName 4) (tYesD) (dOp sIx (dVar 4) (dC c_CLIENT)) (dC (.bool true)))) (aNil))))
@[irreducible] def pc_4 : Bd := (bRet (dFz (oComp [6] (iOf itAll (dVarF 3)) (tgName 6) (tYesD) (dCall f_line_of_client [false, false, false] (aCons (dVar 0) (aCons (dVar 2) (aCons (dVar 6) (aNil))))))))
theorem pc_cut : b_picture = (bSeq pc_0 (bSeq pc_1 (bSeq pc_2 (bSeq pc_3 pc_4)))) := by
  unfold pc_4 pc_3 pc_2 pc_1 pc_0
  rfl
section
variable {N : En → Prop} {R : En → Rr → Prop} {E : En → Ex → Prop} {h : List Op} {T C M : D} {a4 a5 a6 : Option D}
theorem opt_is {o : Option Int} : (o = none ∧ optD o = .none) ∨ ∃ e, o = some e ∧ optD o = .int e := by
  cases o with
  | none => exact .inl ⟨rfl, rfl⟩
  | some e => exact .inr ⟨e, rfl, rfl⟩
theorem sIsNot_int (e : Int) : sIsNot (.int e) .none = some (.bool true) := rfl
theorem sIsNot_non : sIsNot .none .none = some (.bool false) := rfl
theorem comp_stop {en en4 : En} {i : Nat} {ix : D} {Q : En → D → Prop} {hs : List D} (hix : ix = .int 2) (hw : wipeE en [i] = some en4) (hlen : hs.length ≤ 64) (hmem : ∀ d ∈ hs, ∃ o : Op, d = o.enc)
    (htg : ∀ d : D, ∃ en5, tgName i d en4 = some en5 ∧ unw en en5 = some en ∧ en5[i]? = some (.val d)) (p : Q en (.list (hs.filterMap stopF))) :
    RsP (compL [i] (tgName i) (tOf (dOp sIsNot (dOp sIx (dVar i) (dC ix)) (dC .none))) (dOp sIx (dVar i) (dC ix)) hs en []) Q E := by
  have hz := sizeLine_big
  subst hix
  refine RsP_compL stopF hw (by omega) (fun d hd => ?_) p
  obtain ⟨o, rfl⟩ := hmem d hd
  obtain ⟨en5, e1, e2, e3⟩ := htg o.enc
  have e4 := enc2 o
  have e5 := stopF_eq o
  generalize o.enc = y at *
  rw [e1, OpP_some]
  refine ⟨e2, ?_⟩
  rcases opt_is (o := o.stop) with ⟨q, q2⟩ | ⟨z, q, q2⟩
  · rw [q] at e5
    rw [q2] at e4
    simp -implicitDefEqProofs [e3, e4, sIsNot_non, e5]
  · rw [q] at e5
    rw [q2] at e4
    simp -implicitDefEqProofs [e3, e4, sIsNot_int, e5]
theorem pc_1_ok (hl : h.length ≤ 31) (hN : N [.val (encH h), .val (.list ((h.filterMap Op.stop).map .int)), .un, .un, .un, .un, .un]) : OutP (pc_1 [.val (encH h), .un, .un, .un, .un, .un, .un]) N R E := by
  have hz := sizeLine_big
  have e0 : itAll (encH h) = some (h.map Op.enc) := rfl
  have es := stops_eq h
  have hlen : (h.map Op.enc).length = h.length := List.length_map _
  have hmem : ∀ d ∈ h.map Op.enc, ∃ o : Op, d = o.enc := fun d hd => by
    obtain ⟨o, _, rfl⟩ := List.mem_map.mp hd
    exact ⟨o, rfl⟩
  generalize h.map Op.enc = hs at *
  unfold pc_1
  generalize encH h = x at *
  simp -implicitDefEqProofs [e0, c_END]
  refine comp_stop rfl rfl (by omega) hmem (fun d => ⟨[.val x, .un, .un, .un, .val d, .un, .un], rfl, rfl, rfl⟩) ?_
  rw [es]
  exact ⟨rfl, hN⟩
theorem comp_ix {en en4 : En} {i : Nat} {ix : D} {Q : En → D → Prop} {hs : List D} (hw : wipeE en [i] = some en4) (hlen : hs.length ≤ 64) (hmem : ∀ d ∈ hs, ∃ z, sIx d ix = some z)
    (htg : ∀ d : D, ∃ en5, tgName i d en4 = some en5 ∧ unw en en5 = some en ∧ en5[i]? = some (.val d)) (p : Q en (.list (hs.filterMap fun d => sIx d ix))) :
    RsP (compL [i] (tgName i) tYesD (dOp sIx (dVar i) (dC ix)) hs en []) Q E := by
  have hz := sizeLine_big
  refine RsP_compL (fun d => sIx d ix) hw (by omega) (fun d hd => ?_) p
  obtain ⟨z, e4⟩ := hmem d hd
  obtain ⟨en5, e1, e2, e3⟩ := htg d
  rw [e1, OpP_some]
  refine ⟨e2, ?_⟩
  simp -implicitDefEqProofs [e3, e4]
theorem compD_ints {en en4 : En} {i : Nat} {cs : List Int} (hw : wipeE en [i] = some en4) (hl : cs.length < 64)
    (htg : ∀ d : D, ∃ en5, tgName i d en4 = some en5 ∧ unw en en5 = some en ∧ en5[i]? = some (.val d)) :
    ∃ dd, compD [i] (tgName i) tYesD (dVar i) (dC (.bool true)) (cs.map .int) en [] = .ok en dd ∧ sSorted2 [dd] = some (.list ((uniq cs).map .int)) := by
  have hz := sizeLine_big
  obtain ⟨ms, e3, e4, e5, e6⟩ := fold_ints cs [] List.nodup_nil
  refine ⟨.dict (keysF ms), ?_, keys_sorted e4 (fun k => by rw [e5 k]; simp) (by simp at e6; omega)⟩
  rw [compD_pure (fun d => d) (fun _ => .bool true) hw _ _ (by simp; omega) fun d hd => ?_]
  · exact congrArg _ (congrArg _ e3)
  · obtain ⟨c, hc, rfl⟩ := List.mem_map.mp hd
    obtain ⟨en5, e1, e2, e3⟩ := htg (.int c)
    rw [e1, OpP_some]
    refine ⟨e2, ?_⟩
    exact ⟨rfl, by unfold dVar; rw [e3], rfl, rfl⟩
theorem add_ints (a b : List Int) (hl : a.length + b.length ≤ 64) : sAdd (.list (a.map .int)) (.list (b.map .int)) = some (.list ((a ++ b).map .int)) := by
  have hz := sizeLine_big
  rw [List.map_append]
  show szL (a.map PyData.int ++ b.map PyData.int) = _
  unfold szL
  rw [if_pos (by simp; omega)]
theorem pc_2_ok (hl : h.length ≤ 31) (hN : N [.val (encH h), .val (.list ((h.filterMap Op.stop).map .int)), .val (.list ((uniq (momM h)).map .int)), .un, .un, .un, .un]) : OutP (pc_2 [.val (encH h), .val (.list ((h.filterMap Op.stop).map .int)), .un, .un, .un, .un, .un]) N R E := by
  have hz := sizeLine_big
  have e0 : itAll (encH h) = some (h.map Op.enc) := rfl
  have es : (h.map Op.enc).filterMap (fun d => sIx d (.int 1)) = _ := starts_eq h
  have hlen : (h.map Op.enc).length = h.length := List.length_map _
  have hmem : ∀ d ∈ h.map Op.enc, ∃ z, sIx d (.int 1) = some z := fun d hd => by
    obtain ⟨o, _, rfl⟩ := List.mem_map.mp hd
    exact ⟨_, enc1 o⟩
  have ea := add_ints (h.map Op.start) (h.filterMap Op.stop) (by
    have := List.length_filterMap_le Op.stop h
    rw [List.length_map]
    omega)
  have hm := momM_len hl
  have em : h.map Op.start ++ h.filterMap Op.stop = momM h := rfl
  rw [em] at ea
  generalize momM h = M at *
  generalize h.map Op.enc = hs at *
  generalize h.map Op.start = ss at *
  generalize h.filterMap Op.stop = st at *
  generalize encH h = x at *
  obtain ⟨dd, ed1, ed2⟩ := compD_ints (en := [.val x, .val (.list (st.map .int)), .un, .un, .un, .un, .un]) (i := 5) (cs := M) rfl hm fun d => ⟨[.val x, .val (.list (st.map .int)), .un, .un, .un, .val d, .un], rfl, rfl, rfl⟩
  unfold pc_2
  simp -implicitDefEqProofs [e0, c_START, oCompD]
  refine comp_ix rfl (by omega) hmem (fun d => ⟨[.val x, .val (.list (st.map .int)), .un, .un, .val d, .un, .un], rfl, rfl, rfl⟩) ?_
  rw [es]
  simp -implicitDefEqProofs [ea, ed1, ed2, canPut_eq, noAli_eq]
  exact hN
theorem pc_3_ok {s t : D} (hl : h.length ≤ 31) (hN : N [.val (encH h), .val s, .val t, .val (.list ((uniq (h.map Op.client)).map .int)), .un, .un, .un]) : OutP (pc_3 [.val (encH h), .val s, .val t, .un, .un, .un, .un]) N R E := by
  have hz := sizeLine_big
  obtain ⟨ms, e3, e4, e5, e6⟩ := fold_keys h [] List.nodup_nil
  have hd : compD [4] (tgName 4) tYesD (dOp sIx (dVar 4) (dC c_CLIENT)) (dC (.bool true)) (h.map Op.enc) [.val (encH h), .val s, .val t, .un, .un, .un, .un] [] = .ok [.val (encH h), .val s, .val t, .un, .un, .un, .un] (.dict (keysF ms)) := by
    rw [compD_pure (fun d => (sIx d (.int 0)).getD .none) (fun _ => .bool true) rfl _ _ (by simp; omega) fun d hd => ?_]
    · exact congrArg _ (congrArg _ e3)
    · obtain ⟨o, ho, rfl⟩ := List.mem_map.mp hd
      simp -implicitDefEqProofs [tgName, canPut, noAli, unw]
      exact ⟨rfl, rfl, rfl, rfl⟩
  have hs := keys_sorted (cs := h.map Op.client) e4 (fun k => by rw [e5 k]; simp) (by simp at e6; omega)
  have e0 : itAll (encH h) = some (h.map Op.enc) := rfl
  generalize uniq (h.map Op.client) = us at hs hN
  generalize encH h = x at *
  unfold pc_3
  simp -implicitDefEqProofs [oCompD, e0, hd, hs, canPut_eq, noAli_eq]
  exact hN
end
def picD (h : List Op) : List D := (uniq (h.map Op.client)).map fun c => PyData.str (lineS h (uniq (momM h)) c)
def lineF (h : List Op) (d : D) : Option D := match d with
  | .int c => some (.str (lineS h (uniq (momM h)) c))
  | _ => none
theorem lines_eq (h : List Op) : ∀ cs : List Int, (cs.map PyData.int).filterMap (lineF h) = cs.map fun c => PyData.str (lineS h (uniq (momM h)) c)
  | [] => rfl
  | c :: r => by
    rw [List.map_cons, List.map_cons, List.filterMap_cons_some (f := lineF h) (a := PyData.int c) (b := PyData.str (lineS h (uniq (momM h)) c)) rfl, lines_eq h r]
theorem start7 {x : D} : startEn 7 [.v x] = [.val x, .un, .un, .un, .un, .un, .un] := rfl
theorem picture_ok {h : List Op} (ok : ∀ o ∈ h, o.Ok) (hl : h.length ≤ 31) : f_picture [.v (encH h)] = .ok (.v (.list (picD h))) [] := by
  have hz := sizeLine_big
  have e2 := check_ok ok
  refine Gives.eq ?_
  generalize hx : encH h = x at e2
  refine RfP_run rfl ?_
  rw [pc_cut, OutP_seq, start7]
  unfold pc_0
  simp -implicitDefEqProofs [CallP, e2]
  subst hx
  refine pc_1_ok hl ?_
  refine pc_2_ok hl ?_
  refine pc_3_ok hl ?_
  have hM := moms_ok hl
  have hline := fun c => line_ok (c := c) ok (by omega) hM
  have hcl : (uniq (h.map Op.client)).length ≤ 31 := Nat.le_trans (uniq_len _) (by rw [List.length_map]; exact hl)
  have hL := lines_eq h (uniq (h.map Op.client))
  have hp : (uniq (h.map Op.client)).map (fun c => PyData.str (lineS h (uniq (momM h)) c)) = picD h := rfl
  rw [hp] at hL
  generalize picD h = pd at hL ⊢
  have hlf : ∀ c, lineF h (.int c) = some (.str (lineS h (uniq (momM h)) c)) := fun c => rfl
  generalize lineF h = F at hL hlf
  generalize uniq (h.map Op.client) = us at *
  generalize (h.filterMap Op.stop) = st
  generalize (fun c => lineS h (uniq (momM h)) c) = G at *
  generalize uniq (momM h) = T at *
  generalize encH h = x at *
  unfold pc_4
  simp -implicitDefEqProofs
  refine RsP_compL F rfl (by rw [List.length_map]; omega) (fun d hd => ?_) ?_
  · obtain ⟨c, hc, rfl⟩ := List.mem_map.mp hd
    have e6 := hline c
    have e7 := hlf c
    simp -implicitDefEqProofs [tgName, canPut_eq, noAli_eq, unw, CallP, e6, e7]
  · rw [hL]
    simp -implicitDefEqProofs [outsOf]
end DL
/-! Df5: the law's own picture. -/
namespace DL
open PySem PySem.Spec L2
open PyProof.Rows hiding St
@[irreducible] def lp_0 : Bd := (bSet 1 (dUn sUniq (dOp sAdd (dFz (oComp [7] (iOf itAll (dVarF 0)) (tgName 7) (tYesD) (dOp sIx (dVar 7) (dC (.int 1))))) (dFz (oComp [7] (iOf itAll (dVarF 0)) (tgName 7) (tOf (dOp sIsNot (dOp sIx (dVar 7) (dC (.int 2))) (dC .none))) (dOp sIx (dVar 7) (dC (.int 2))))))))
@[irreducible] def lp_1 : Bd := (bSetO 2 (oLst (aNil)))
@[irreducible] def lp_2_0 : Bd := (bSetO 4 (oLst (aNil)))
@[irreducible] def lp_2_1_0 : Bd := (bSet 6 (dC (.str ".")))
@[irreducible] def lp_2_1_1_0 : Bd := (bIf (tAndD (tOf (dOp sEq (dOp sIx (dVar 7) (dC (.int 0))) (dVar 3))) (tAndD (tOf (dOp (sCmp fLe) (dOp sIx (dVar 7) (dC (.int 1))) (dVar 5))) (tOrD (tOf (dOp sIs (dOp sIx (dVar 7) (dC (.int 2))) (dC .none))) (tOf (dOp (sCmp fLe) (dVar 5) (dOp sIx (dVar 7) (dC (.int 2)))))))) (bSet 6 (dOp sIx (dOp sIx (dVar 7) (dC (.int 3))) (dC (.int 0)))) (bNil))
@[irreducible] def lp_2_1_1_b : Bd := lp_2_1_1_0
@[irreducible] def lp_2_1_1 : Bd := bFor (iOf itAll (dVarF 0)) (tgName 7) lp_2_1_1_b
@[irreducible] def lp_2_1_2 : Bd := (bExpr (dMut isListD mAppend (dVar 4) (aCons (dVarF 6) aNil)))
@[irreducible] def lp_2_1_b : Bd := (bSeq lp_2_1_0 (bSeq lp_2_1_1 lp_2_1_2))
@[irreducible] def lp_2_1 : Bd := bFor (iOf itAll (dVarF 1)) (tgName 5) lp_2_1_b
@[irreducible] def lp_2_2 : Bd := (bExpr (dMut isListD mAppend (dVar 2) (aCons (dMeth isStrD sJoin (dC (.str "")) (aCons (dVar 4) aNil)) aNil)))
@[irreducible] def lp_2_b : Bd := (bSeq lp_2_0 (bSeq lp_2_1 lp_2_2))
@[irreducible] def lp_2 : Bd := bFor (iOf itAll (dUn sUniq (dFz (oComp [7] (iOf itAll (dVarF 0)) (tgName 7) (tYesD) (dOp sIx (dVar 7) (dC (.int 0))))))) (tgName 3) lp_2_b
@[irreducible] def lp_3 : Bd := (bRet (dVarF 2))
theorem lp_cut : b__law_picture = (bSeq lp_0 (bSeq lp_1 (bSeq lp_2 lp_3))) := by
  unfold lp_3 lp_2 lp_2_b lp_2_2 lp_2_1 lp_2_1_b lp_2_1_2 lp_2_1_1 lp_2_1_1_b lp_2_1_1_0 lp_2_1_0 lp_2_0 lp_1 lp_0
  rfl
theorem uniq_ok {cs : List Int} (h : cs.length < 64) : sUniq (.list (cs.map .int)) = some (.list ((uniq cs).map .int)) := by
  unfold sUniq
  dsimp only
  rw [intsD_map]
  dsimp only
  rw [if_pos h]
/-- a slot with an owned list, if it is set -/
def ow : Option (List D) → Sl
  | none => .un
  | some l => .own false (.list l)
@[simp] theorem ow_none : ow none = .un := rfl
@[simp] theorem ow_some {l : List D} : ow (some l) = .own false (.list l) := rfl
def lpE (H : D) (T : D) (L : List D) (a3 : Option D) (s4 : Option (List D)) (a5 a6 a7 : Option D) : En := [.val H, .val T, .own false (.list L), pl a3, ow s4, pl a5, pl a6, pl a7]
section
variable {N : En → Prop} {R : En → Rr → Prop} {E : En → Ex → Prop} {h : List Op} {H T d : D} {L l : List D} {a3 a5 a6 a7 : Option D} {s4 : Option (List D)} {P : En → Prop}
theorem lp_tg3 (hN : P (lpE H T L (some d) s4 a5 a6 a7)) : OpP (tgName 3 d (lpE H T L a3 s4 a5 a6 a7)) P := by
  unfold lpE
  unfold lpE at hN
  cases s4
  · simp -implicitDefEqProofs [tgName, canPut_eq, noAli_eq]; exact hN
  · simp -implicitDefEqProofs [tgName, canPut_eq, noAli_eq]; exact hN
theorem lp_tg5 (hN : P (lpE H T L a3 (some l) (some d) a6 a7)) : OpP (tgName 5 d (lpE H T L a3 (some l) a5 a6 a7)) P := by
  unfold lpE
  unfold lpE at hN
  simp -implicitDefEqProofs [tgName, canPut_eq, noAli_eq]
  exact hN
theorem lp_tg7 (hN : P (lpE H T L a3 (some l) a5 a6 (some d))) : OpP (tgName 7 d (lpE H T L a3 (some l) a5 a6 a7)) P := by
  unfold lpE
  unfold lpE at hN
  simp -implicitDefEqProofs [tgName, canPut_eq, noAli_eq]
  exact hN
theorem lp_2_0_ok (hN : N (lpE H T L a3 (some []) a5 a6 a7)) : OutP (lp_2_0 (lpE H T L a3 s4 a5 a6 a7)) N R E := by
  have hz := sizeLine_big
  unfold lpE lp_2_0
  unfold lpE at hN
  cases s4
  · simp -implicitDefEqProofs [canPut_eq, noAli_eq]; exact hN
  · simp -implicitDefEqProofs [canPut_eq, noAli_eq]; exact hN
theorem lp_2_1_0_ok (hN : N (lpE H T L a3 (some l) a5 (some (.str ".")) a7)) : OutP (lp_2_1_0 (lpE H T L a3 (some l) a5 a6 a7)) N R E := by
  unfold lpE lp_2_1_0
  unfold lpE at hN
  simp -implicitDefEqProofs [canPut_eq, noAli_eq]
  exact hN
theorem lp_2_1_1_0_ok {o : Op} {c m : Int} {s : Str} (hn : nameOk o.name) (hN : N (lpE H T L (some (.int c)) (some l) (some (.int m)) (some (.str (if o.client == c && covers o m then letS o.name else s))) (some o.enc))) :
    OutP (lp_2_1_1_0 (lpE H T L (some (.int c)) (some l) (some (.int m)) (some (.str s)) (some o.enc))) N R E := by
  have e0 := enc_client o
  have e1 := enc1 o
  have e2 := enc2 o
  have e3 := enc3 o
  have e4 := let_ok hn
  unfold covers at hN
  unfold lpE lp_2_1_1_0
  unfold lpE at hN
  generalize o.enc = y at *
  rcases opt_is (o := o.stop) with ⟨q, q2⟩ | ⟨z, q, q2⟩
  · rw [q2] at e2
    rw [q] at hN
    simp -implicitDefEqProofs [e0, e1, e2, e3, e4, canPut_eq, noAli_eq]
    by_cases h1 : o.client = c
    · by_cases h2 : o.start ≤ m
      · simp [h1, h2] at hN ⊢
        exact hN
      · simp [h1, h2] at hN ⊢
        exact hN
    · simp [h1] at hN ⊢
      exact hN
  · rw [q2] at e2
    rw [q] at hN
    simp -implicitDefEqProofs [e0, e1, e2, e3, e4, canPut_eq, noAli_eq]
    by_cases h1 : o.client = c
    · by_cases h2 : o.start ≤ m
      · by_cases h3 : m ≤ z
        · simp [h1, h2, h3] at hN ⊢
          exact hN
        · simp [h1, h2, h3] at hN ⊢
          exact hN
      · simp [h1, h2] at hN ⊢
        exact hN
    · simp [h1] at hN ⊢
      exact hN
/-- the sign, up to some operations -/
def sgnF (c m : Int) (s : Str) (o : Op) : Str := if o.client == c && covers o m then letS o.name else s
theorem lp_2_1_1_ok {c m : Int} (ok : ∀ o ∈ h, o.Ok) (hN : ∀ a7, N (lpE (encH h) T L (some (.int c)) (some l) (some (.int m)) (some (.str (sgnS h c m))) a7)) :
    OutP (lp_2_1_1 (lpE (encH h) T L (some (.int c)) (some l) (some (.int m)) (some (.str ".")) a7)) N R E := by
  have e0 : itAll (encH h) = some (h.map Op.enc) := rfl
  unfold lp_2_1_1
  generalize hB : lp_2_1_1_b = B
  have key : OutP (forL (tgName 7) B (h.map Op.enc) (lpE (encH h) T L (some (.int c)) (some l) (some (.int m)) (some (.str ".")) a7)) N R E := by
    refine OutP_forL _ (fun k en => ∃ a7, en = lpE (encH h) T L (some (.int c)) (some l) (some (.int m)) (some (.str ((h.take k).foldl (sgnF c m) "."))) a7) _ ⟨a7, rfl⟩ (fun k d en ed hI => ?_) fun en hI => ?_
    · obtain ⟨b7, rfl⟩ := hI
      rw [List.getElem?_map] at ed
      cases q : h[k]? with
      | none => rw [q] at ed; cases ed
      | some o =>
        rw [q] at ed
        cases ed
        refine lp_tg7 ?_
        rw [← hB]
        unfold lp_2_1_1_b
        refine lp_2_1_1_0_ok (ok o (List.mem_of_getElem? q)).name ⟨some o.enc, ?_⟩
        rw [List.take_succ, q, List.foldl_append]
        rfl
    · obtain ⟨b7, rfl⟩ := hI
      rw [List.length_map, List.take_length]
      exact hN b7
  unfold lpE at key ⊢
  generalize h.map Op.enc = hs at *
  generalize encH h = x at *
  simp -implicitDefEqProofs [e0] at key ⊢
  exact key
theorem lp_2_1_2_ok {s : Str} (hl : l.length < 64) (hN : N (lpE H T L a3 (some (l ++ [.str s])) a5 (some (.str s)) a7)) : OutP (lp_2_1_2 (lpE H T L a3 (some l) a5 (some (.str s)) a7)) N R E := by
  have hz := sizeLine_big
  unfold lp_2_1_2 lpE
  unfold lpE at hN
  simp -implicitDefEqProofs [canPut_eq, noAli_eq]
  exact ⟨rfl, by omega, hN⟩
theorem lp_2_1_b_ok {c m : Int} (ok : ∀ o ∈ h, o.Ok) (hl : l.length < 64) (hN : ∀ a6 a7, N (lpE (encH h) T L (some (.int c)) (some (l ++ [.str (sgnS h c m)])) (some (.int m)) a6 a7)) :
    OutP (lp_2_1_b (lpE (encH h) T L (some (.int c)) (some l) (some (.int m)) a6 a7)) N R E := by
  unfold lp_2_1_b
  rw [OutP_seq]
  refine lp_2_1_0_ok ?_
  rw [OutP_seq]
  refine lp_2_1_1_ok ok fun b7 => ?_
  exact lp_2_1_2_ok hl (hN _ _)
theorem lp_2_1_ok {c : Int} {Tm : List Int} (ok : ∀ o ∈ h, o.Ok) (hT : Tm.length < 64) (hN : ∀ a5 a6 a7, N (lpE (encH h) (.list (Tm.map .int)) L (some (.int c)) (some (Tm.map fun m => PyData.str (sgnS h c m))) a5 a6 a7)) :
    OutP (lp_2_1 (lpE (encH h) (.list (Tm.map .int)) L (some (.int c)) (some []) a5 a6 a7)) N R E := by
  have hz := sizeLine_big
  unfold lp_2_1
  generalize hB : lp_2_1_b = B
  have key : OutP (forL (tgName 5) B (Tm.map .int) (lpE (encH h) (.list (Tm.map .int)) L (some (.int c)) (some []) a5 a6 a7)) N R E := by
    refine OutP_forL _ (fun k en => ∃ a5 a6 a7, en = lpE (encH h) (.list (Tm.map .int)) L (some (.int c)) (some ((Tm.take k).map fun m => PyData.str (sgnS h c m))) a5 a6 a7) _ ⟨a5, a6, a7, rfl⟩ (fun k d en ed hI => ?_) fun en hI => ?_
    · obtain ⟨b5, b6, b7, rfl⟩ := hI
      rw [List.getElem?_map] at ed
      cases q : Tm[k]? with
      | none => rw [q] at ed; cases ed
      | some m =>
        rw [q] at ed
        cases ed
        refine lp_tg5 ?_
        rw [← hB]
        refine lp_2_1_b_ok ok (by simp; omega) fun c6 c7 => ⟨some (.int m), c6, c7, ?_⟩
        rw [List.take_succ, q, List.map_append]
        rfl
    · obtain ⟨b5, b6, b7, rfl⟩ := hI
      rw [List.length_map, List.take_length]
      exact hN _ _ _
  unfold lpE at key ⊢
  have e0 : itAll (.list (Tm.map .int)) = some (Tm.map PyData.int) := rfl
  generalize Tm.map PyData.int = tm at *
  generalize encH h = x at *
  simp -implicitDefEqProofs [e0] at key ⊢
  exact key
theorem join_line {Tm : List Int} {c : Int} (hT : Tm.length ≤ 64) : sJoin (.str "") [.list (Tm.map fun m => PyData.str (sgnS h c m))] = some (.str (lineS h Tm c)) := by
  have : (Tm.map fun m => PyData.str (sgnS h c m)) = (Tm.map fun m => sgnS h c m).map PyData.str := by rw [List.map_map]; rfl
  rw [this]
  refine join_l (joinOk_of (m := 1) (n := 64) (fun y hy => ?_) (by rw [List.length_map]; exact hT) (by decide +kernel))
  obtain ⟨q, _, rfl⟩ := List.mem_map.mp hy
  exact sgn_short _ _ _
theorem lp_2_2_ok {c : Int} {Tm : List Int} (hT : Tm.length ≤ 64) (hL : L.length < 64) (hN : N (lpE H T (L ++ [.str (lineS h Tm c)]) a3 (some (Tm.map fun m => PyData.str (sgnS h c m))) a5 a6 a7)) :
    OutP (lp_2_2 (lpE H T L a3 (some (Tm.map fun m => PyData.str (sgnS h c m))) a5 a6 a7)) N R E := by
  have hz := sizeLine_big
  have ej := join_line (h := h) (c := c) hT
  generalize (Tm.map fun m => PyData.str (sgnS h c m)) = l at *
  unfold lp_2_2 lpE
  unfold lpE at hN
  simp -implicitDefEqProofs [ej, canPut_eq, noAli_eq]
  exact ⟨rfl, by omega, hN⟩
theorem lp_2_b_ok {c : Int} {Tm : List Int} (ok : ∀ o ∈ h, o.Ok) (hT : Tm.length < 64) (hL : L.length < 64) (hN : ∀ s4 a5 a6 a7, N (lpE (encH h) (.list (Tm.map .int)) (L ++ [.str (lineS h Tm c)]) (some (.int c)) s4 a5 a6 a7)) :
    OutP (lp_2_b (lpE (encH h) (.list (Tm.map .int)) L (some (.int c)) s4 a5 a6 a7)) N R E := by
  unfold lp_2_b
  rw [OutP_seq]
  refine lp_2_0_ok ?_
  rw [OutP_seq]
  refine lp_2_1_ok ok hT fun b5 b6 b7 => ?_
  exact lp_2_2_ok (Nat.le_of_lt hT) hL (hN _ _ _ _)
theorem lp_2_ok {Tm : List Int} (ok : ∀ o ∈ h, o.Ok) (hl : h.length ≤ 31) (hT : Tm.length < 64) (hN : ∀ a3 s4 a5 a6 a7, N (lpE (encH h) (.list (Tm.map .int)) ((uniq (h.map Op.client)).map fun c => PyData.str (lineS h Tm c)) a3 s4 a5 a6 a7)) :
    OutP (lp_2 (lpE (encH h) (.list (Tm.map .int)) [] none none none none none)) N R E := by
  have hz := sizeLine_big
  have e0 : itAll (encH h) = some (h.map Op.enc) := rfl
  have es : (h.map Op.enc).filterMap (fun d => sIx d (.int 0)) = _ := clients_eq h
  have hlen : (h.map Op.enc).length = h.length := List.length_map _
  have hmem : ∀ d ∈ h.map Op.enc, ∃ z, sIx d (.int 0) = some z := fun d hd => by
    obtain ⟨o, _, rfl⟩ := List.mem_map.mp hd
    exact ⟨_, enc_client o⟩
  have eu := uniq_ok (cs := h.map Op.client) (by rw [List.length_map]; omega)
  have hul : (uniq (h.map Op.client)).length ≤ 31 := Nat.le_trans (uniq_len _) (by rw [List.length_map]; exact hl)
  generalize uniq (h.map Op.client) = us at *
  unfold lp_2
  generalize hB : lp_2_b = B
  have key : OutP (forL (tgName 3) B (us.map .int) (lpE (encH h) (.list (Tm.map .int)) [] none none none none none)) N R E := by
    refine OutP_forL _ (fun k en => ∃ a3 s4 a5 a6 a7, en = lpE (encH h) (.list (Tm.map .int)) ((us.take k).map fun c => PyData.str (lineS h Tm c)) a3 s4 a5 a6 a7) _ ⟨none, none, none, none, none, rfl⟩ (fun k d en ed hI => ?_) fun en hI => ?_
    · obtain ⟨b3, b4, b5, b6, b7, rfl⟩ := hI
      rw [List.getElem?_map] at ed
      cases q : us[k]? with
      | none => rw [q] at ed; cases ed
      | some c =>
        rw [q] at ed
        cases ed
        refine lp_tg3 ?_
        rw [← hB]
        refine lp_2_b_ok ok hT (by simp; omega) fun c4 c5 c6 c7 => ⟨some (.int c), c4, c5, c6, c7, ?_⟩
        rw [List.take_succ, q, List.map_append]
        rfl
    · obtain ⟨b3, b4, b5, b6, b7, rfl⟩ := hI
      rw [List.length_map, List.take_length]
      exact hN _ _ _ _ _
  unfold lpE at key ⊢
  generalize h.map Op.enc = hs at *
  generalize h.map Op.client = cl at *
  generalize encH h = x at *
  simp -implicitDefEqProofs [e0]
  refine comp_ix rfl (by omega) hmem (fun d => ⟨[.val x, .val (.list (Tm.map .int)), .own false (.list []), .un, .un, .un, .un, .val d], rfl, rfl, rfl⟩) ?_
  rw [es]
  simp -implicitDefEqProofs [eu]
  simp -implicitDefEqProofs at key
  exact key
theorem lp_0_ok (hl : h.length ≤ 31) (hN : N [.val (encH h), .val (.list ((uniq (momM h)).map .int)), .un, .un, .un, .un, .un, .un]) : OutP (lp_0 [.val (encH h), .un, .un, .un, .un, .un, .un, .un]) N R E := by
  have hz := sizeLine_big
  have e0 : itAll (encH h) = some (h.map Op.enc) := rfl
  have es : (h.map Op.enc).filterMap (fun d => sIx d (.int 1)) = _ := starts_eq h
  have es2 := stops_eq h
  have hlen : (h.map Op.enc).length = h.length := List.length_map _
  have hmem : ∀ d ∈ h.map Op.enc, ∃ z, sIx d (.int 1) = some z := fun d hd => by
    obtain ⟨o, _, rfl⟩ := List.mem_map.mp hd
    exact ⟨_, enc1 o⟩
  have hmem2 : ∀ d ∈ h.map Op.enc, ∃ o : Op, d = o.enc := fun d hd => by
    obtain ⟨o, _, rfl⟩ := List.mem_map.mp hd
    exact ⟨o, rfl⟩
  have ea := add_ints (h.map Op.start) (h.filterMap Op.stop) (by
    have := List.length_filterMap_le Op.stop h
    rw [List.length_map]
    omega)
  have hm := momM_len hl
  have em : h.map Op.start ++ h.filterMap Op.stop = momM h := rfl
  rw [em] at ea
  generalize momM h = M at *
  have eu := uniq_ok hm
  generalize h.map Op.enc = hs at *
  generalize h.map Op.start = ss at *
  generalize h.filterMap Op.stop = st at *
  generalize encH h = x at *
  unfold lp_0
  simp -implicitDefEqProofs [e0]
  refine comp_ix rfl (by omega) hmem (fun d => ⟨[.val x, .un, .un, .un, .un, .un, .un, .val d], rfl, rfl, rfl⟩) ?_
  rw [es]
  simp -implicitDefEqProofs [e0]
  refine comp_stop rfl rfl (by omega) hmem2 (fun d => ⟨[.val x, .un, .un, .un, .un, .un, .un, .val d], rfl, rfl, rfl⟩) ?_
  rw [es2]
  simp -implicitDefEqProofs [ea, eu, canPut_eq, noAli_eq]
  exact hN
end
theorem notAli_ow {i : Nat} {o : Option (List D)} : notAli i (ow o) = true := by cases o <;> rfl
theorem start8x {x : D} : startEn 8 [.v x] = [.val x, .un, .un, .un, .un, .un, .un, .un] := rfl
theorem lawpic_ok {h : List Op} (ok : ∀ o ∈ h, o.Ok) (hl : h.length ≤ 31) : f__law_picture [.v (encH h)] = .ok (.v (.list (picD h))) [] := by
  have hz := sizeLine_big
  refine Gives.eq ?_
  generalize hx : encH h = x
  refine RfP_run rfl ?_
  rw [lp_cut, OutP_seq, start8x]
  subst hx
  refine lp_0_ok hl ?_
  rw [OutP_seq]
  unfold lp_1
  have hM := Nat.lt_of_le_of_lt (uniq_len (momM h)) (momM_len hl)
  simp -implicitDefEqProofs [canPut_eq, noAli_eq]
  refine lp_2_ok ok hl hM fun a3 s4 a5 a6 a7 => ?_
  have hp : (uniq (h.map Op.client)).map (fun c => PyData.str (lineS h (uniq (momM h)) c)) = picD h := rfl
  rw [hp]
  generalize picD h = pd
  generalize uniq (momM h) = T
  generalize encH h = x
  unfold lp_3 lpE
  simp -implicitDefEqProofs [outsOf, canPut_eq, noAli_eq, notAli_ow]
end DL
/-! Df6: a turn of the law. -/
namespace DL
open PySem PySem.Spec L2
open PyProof.Rows hiding St
@[irreducible] def lw_0_0 : Bd := (bSetO 2 (oCall f__law_pot [false, false] (aCons (dVarF 0) (aCons (dVarF 1) (aNil)))))
@[irreducible] def lw_0_1 : Bd := (bSet 3 (dCall f__law_history [true, false, false] (aCons (dVar 2) (aCons (dCall f__law_pick [true, false] (aCons (dVar 2) (aCons (dCall0 f__law_kinds) (aNil)))) (aCons (dC (.int 8)) (aNil))))))
@[irreducible] def lw_0_2 : Bd := (bSet 3 (dCallB sTuple (aCons (dFz (oComp [6] (iOf itAll (dVarF 3)) (tgName 6) (tYesD) (dIf (tOf (dOp sEq (dCall f__law_draw [true, false] (aCons (dVar 2) (aCons (dC (.int 6)) (aNil)))) (dC (.int 0)))) (dOp sAdd (dOp sAdd (dOp sAdd (dSl (dVar 6) (pNo) (pIs (dC (.int 2)))) (dTup (aCons (dC .none) (aNil)))) (dSl (dVar 6) (pIs (dC (.int 3))) (pIs (dC (.int 5))))) (dTup (aCons (dC .none) (aNil)))) (dVar 6)))) (aNil))))
@[irreducible] def lw_0_3 : Bd := (bIf (tNotD (tOf (dCall (f__law_same 12) [false, false] (aCons (dCall f_picture [false] (aCons (dVarF 3) (aNil))) (aCons (dCall f__law_picture [false] (aCons (dVarF 3) (aNil))) (aNil)))))) (bRet (dC (.bool false))) (bNil))
@[irreducible] def lw_0_4 : Bd := (bSet 4 (dCallB sTuple (aCons (dFz (oComp [7] (iRange1 (aCons (dCall f__law_draw [true, false] (aCons (dVar 2) (aCons (dC (.int 9)) (aNil)))) (aNil))) (tgName 7) (tYesD) (dCall f__law_draw [true, false] (aCons (dVar 2) (aCons (dC (.int 60)) (aNil)))))) (aNil))))
@[irreducible] def lw_0_5 : Bd := (bIf (tNotD (tOf (dCall (f__law_same 12) [false, false] (aCons (dCall f__law_told [false] (aCons (dVarF 4) (aNil))) (aCons (dMeth isStrD sJoin (dC (.str " ")) (aCons (dFz (oComp [7] (iOf itAll (dVarF 4)) (tgName 7) (tYesD) (dCallB sStr (aCons (dVar 7) (aNil))))) aNil)) (aNil)))))) (bRet (dC (.bool false))) (bNil))
@[irreducible] def lw_0_6 : Bd := (bSet 5 (dCall f__law_pick [true, false] (aCons (dVar 2) (aCons (dLst (aCons (dCallB sList (aCons (dVar 4) (aNil))) (aCons (dC .none) (aCons (dC (.int 0)) (aCons (dC (.str "0 1")) (aCons (dOp sAdd (dVar 4) (dTup (aCons (dUn sNeg (dC (.int 1))) (aNil)))) (aCons (dOp sAdd (dVar 4) (dTup (aCons (dC (.bool true)) (aNil)))) (aCons (dOp sAdd (dVar 4) (dTup (aCons (dC .none) (aNil)))) (aCons (dTup (aCons (dVarF 4) (aNil))) (aCons (dOp sAdd (dVar 4) (dTup (aCons (dC (.str "1")) (aNil)))) (aNil))))))))))) (aNil)))))
@[irreducible] def lw_0_7 : Bd := (bIf (tNotD (tOf (dCall (f__law_same 12) [false, false] (aCons (dCall f__law_told [false] (aCons (dVarF 5) (aNil))) (aCons (dC (.int 0)) (aNil)))))) (bRet (dC (.bool false))) (bNil))
@[irreducible] def lw_0_b : Bd := (bSeq lw_0_0 (bSeq lw_0_1 (bSeq lw_0_2 (bSeq lw_0_3 (bSeq lw_0_4 (bSeq lw_0_5 (bSeq lw_0_6 lw_0_7)))))))
@[irreducible] def lw_0 : Bd := bFor (iOf itAll (dCall f__law_turns [false, false, false, false] (aCons (dVarF 0) (aCons (dC (.int 0)) (aCons (dC (.int 4)) (aCons (dC (.int 20)) (aNil))))))) (tgName 1) lw_0_b
@[irreducible] def lw_1 : Bd := (bRet (dC (.bool true)))
theorem lw_cut : b_law = (bSeq lw_0 lw_1) := by
  unfold lw_1 lw_0 lw_0_b lw_0_7 lw_0_6 lw_0_5 lw_0_4 lw_0_3 lw_0_2 lw_0_1 lw_0_0
  rfl
def HK (h : List Op) : Prop := h.length ≤ 8 ∧ ∀ o ∈ h, o.Ok
def Op.left (o : Op) : Op := { o with stop := none, res := none }
theorem Op.left_ok {o : Op} (h : o.Ok) : o.left.Ok := ⟨h.client, (fun e he => by cases he), (fun _ => rfl), h.name⟩
theorem sl2 (o : Op) : sSl none (some 2) o.enc = some (.tuple [.int o.client, .int o.start]) := rfl
theorem sl35 (o : Op) : sSl (some 3) (some 5) o.enc = some (.tuple [.str o.name, optD o.arg]) := rfl
def lwE (s0 s1 p : D) (a3 a4 a5 a6 a7 : Option D) : En := [.val s0, .val s1, .own false p, pl a3, pl a4, pl a5, pl a6, pl a7]
section
variable {s0 s1 p : D} {h : List Op} {n : Nat} {N : En → Prop} {R : En → Rr → Prop} {E : En → Ex → Prop} {a3 a4 a5 a6 a7 : Option D}
theorem lw_0_2_ok (hh : HK h) (hp : Pot n p) (hn : n ≤ 600000) (hN : ∀ h p, HK h → Pot (n + 8) p → N (lwE s0 s1 p (some (encH h)) a4 a5 a6 a7)) : OutP (lw_0_2 (lwE s0 s1 p (some (encH h)) a4 a5 a6 a7)) N R E := by
  have hz := sizeLine_big
  have e0 : itAll (encH h) = some (h.map Op.enc) := rfl
  obtain ⟨hl, ok⟩ := hh
  unfold lw_0_2 lwE
  generalize hx : encH h = x at e0
  simp -implicitDefEqProofs [e0]
  refine RsP_compS (fun k en acc => ∃ (gs : List Op) (p : D), acc = gs.map Op.enc ∧ gs.length = k ∧ (∀ o ∈ gs, o.Ok) ∧ Pot (n + k) p ∧ en = lwE s0 s1 p (some x) a4 a5 a6 a7) _ 0 _ [] ⟨[], p, rfl, rfl, fun o ho => (nomatch ho), hp, rfl⟩ (fun i d en acc ed hI => ?_) fun en acc hI => ?_
  · obtain ⟨gs, p, rfl, hgl, hgo, hp, rfl⟩ := hI
    rw [List.getElem?_map] at ed
    cases q : h[i]? with
    | none => rw [q] at ed; cases ed
    | some o =>
      rw [q] at ed
      cases ed
      have hi := (List.getElem?_eq_some_iff.mp q).1
      have hok := ok o (List.mem_of_getElem? q)
      refine ⟨_, wipe1 (a := a6) rfl, ?_⟩
      have e1 := sl2 o
      have e2 := sl35 o
      have e3 : (Op.left o).enc = .tuple [.int o.client, .int o.start, .none, .str o.name, optD o.arg, .none] := rfl
      have hg1 : (o' : Op) → o'.Ok → ∀ z ∈ gs ++ [o'], z.Ok := fun o' ho' z hz => by
        rcases List.mem_append.mp hz with z | z
        · exact hgo _ z
        · rw [List.mem_singleton.mp z]; exact ho'
      have m1 : gs.map Op.enc ++ [o.enc] = (gs ++ [o]).map Op.enc := by simp
      have m2 : gs.map Op.enc ++ [o.left.enc] = (gs ++ [o.left]).map Op.enc := by simp
      rw [e3] at m2
      unfold lwE at *
      generalize o.enc = y at *
      simp -implicitDefEqProofs [tgName, canPut_eq, noAli_eq, CallP]
      refine draw_then hp (by omega) (by omega) (by omega) fun a p2 h1 h2 hp2 => ?_
      simp -implicitDefEqProofs
      rw [unw_val, unw_val, unw_own, unw_val, unw_pl, unw_pl, unw_pl, unw_pl, unw_nil]
      simp -implicitDefEqProofs only [Option.map_some, OpP_some]
      by_cases ha : a = 0
      · rw [if_pos ha, e1, OpP_some]
        simp -implicitDefEqProofs [e2]
        exact ⟨by omega, by omega, by omega, by omega, by omega, by omega, gs ++ [o.left], m2, by simp; omega, hg1 _ (Op.left_ok hok), hp2.mono (by omega)⟩
      · rw [if_neg ha]
        exact ⟨by omega, gs ++ [o], m1, by simp; omega, hg1 o hok, p2, hp2.mono (by omega), rfl⟩
  · obtain ⟨gs, p, rfl, hgl, hgo, hp, rfl⟩ := hI
    rw [List.length_map] at hgl hp
    have e5 : sTuple [.list (gs.map Op.enc)] = some (encH gs) := rfl
    simp -implicitDefEqProofs [lwE, e5, canPut_eq, noAli_eq]
    exact hN gs p ⟨by omega, hgo⟩ (hp.mono (by omega))
theorem same12 {d : D} (h1 : PyData.depth d < 12) (h2 : okS d = true) : f__law_same 12 [.v d, .v d] = .ok (.v (.bool true)) [] := (same_ok 12 d h1 h2).eq
theorem okSs_strs : ∀ (ys : List D), (∀ y ∈ ys, ∃ s : Str, y = .str s) → okSs ys = true
  | [], _ => rfl
  | y :: r, h => by
    obtain ⟨s, rfl⟩ := h y List.mem_cons_self
    show (okS (.str s) && okSs r) = true
    rw [okSs_strs r fun z hz => h z (List.mem_cons_of_mem _ hz)]
    rfl
theorem depth_strs : ∀ (ys : List D), (∀ y ∈ ys, ∃ s : Str, y = .str s) → PyData.depthAll ys = 0
  | [], _ => by simp [PyData.depthAll]
  | y :: r, h => by
    obtain ⟨s, rfl⟩ := h y List.mem_cons_self
    have := depth_strs r fun z hz => h z (List.mem_cons_of_mem _ hz)
    simp [PyData.depthAll, PyData.depth, this]
theorem same_pic {h : List Op} (hl : h.length ≤ 31) : f__law_same 12 [.v (.list (picD h)), .v (.list (picD h))] = .ok (.v (.bool true)) [] := by
  have hz := sizeLine_big
  have hs : ∀ y ∈ picD h, ∃ s : Str, y = .str s := fun y hy => by
    obtain ⟨c, _, rfl⟩ := List.mem_map.mp hy
    exact ⟨_, rfl⟩
  have hlen : (picD h).length ≤ 31 := by
    unfold picD
    rw [List.length_map]
    exact Nat.le_trans (uniq_len _) (by rw [List.length_map]; exact hl)
  refine same12 ?_ ?_
  · have := depth_strs _ hs
    simp [PyData.depth, this]
  · show (decide ((picD h).length ≤ sizeLine) && okSs (picD h)) = true
    rw [okSs_strs _ hs, decide_eq_true (by omega)]
    rfl
theorem lw_0_3_ok (hh : HK h) (hN : N (lwE s0 s1 p (some (encH h)) a4 a5 a6 a7)) : OutP (lw_0_3 (lwE s0 s1 p (some (encH h)) a4 a5 a6 a7)) N R E := by
  have e1 := picture_ok hh.2 (by have := hh.1; omega)
  have e2 := lawpic_ok hh.2 (by have := hh.1; omega)
  have e3 := same_pic (h := h) (by have := hh.1; omega)
  unfold lw_0_3 lwE
  unfold lwE at hN
  generalize picD h = pd at *
  generalize encH h = x at *
  simp -implicitDefEqProofs [CallP, e1, e2, e3]
  exact hN
def NK (ns : List Int) : Prop := ns.length ≤ 8 ∧ ∀ i ∈ ns, 0 ≤ i ∧ i < 60
theorem lw_0_4_ok (hp : Pot n p) (hn : n ≤ 600000) (hN : ∀ ns p, NK ns → Pot (n + 9) p → N (lwE s0 s1 p a3 (some (.tuple (ns.map .int))) a5 a6 a7)) : OutP (lw_0_4 (lwE s0 s1 p a3 a4 a5 a6 a7)) N R E := by
  have hz := sizeLine_big
  unfold lw_0_4 lwE
  simp -implicitDefEqProofs [CallP]
  refine draw_then hp (by omega) (by omega) (by omega) fun a p2 h1 h2 hp2 => ?_
  obtain ⟨m, rfl⟩ : ∃ m : Nat, a = (m : Int) := ⟨a.toNat, by omega⟩
  simp -implicitDefEqProofs
  refine ⟨small_n (by omega), ?_⟩
  refine RsP_compS (fun k en acc => ∃ (gs : List Int) (p : D), acc = gs.map PyData.int ∧ gs.length = k ∧ (∀ o ∈ gs, 0 ≤ o ∧ o < 60) ∧ Pot (n + 1 + k) p ∧ en = lwE s0 s1 p a3 a4 a5 a6 a7) _ 0 _ [] ⟨[], p2, rfl, rfl, fun o ho => (nomatch ho), hp2, rfl⟩ (fun i d en acc ed hI => ?_) fun en acc hI => ?_
  · obtain ⟨gs, p, rfl, hgl, hgo, hp, rfl⟩ := hI
    have hi := (List.getElem?_eq_some_iff.mp ed).1
    rw [rng_len] at hi
    refine ⟨_, wipe1 (a := a7) rfl, ?_⟩
    unfold lwE
    simp -implicitDefEqProofs [tgName, canPut_eq, noAli_eq, CallP]
    refine draw_then hp (by omega) (by omega) (by omega) fun b p3 h3 h4 hp3 => ?_
    simp -implicitDefEqProofs
    refine ⟨by omega, ?_⟩
    rw [unw_val, unw_val, unw_own, unw_pl, unw_pl, unw_pl, unw_pl, unw_pl, unw_nil]
    simp -implicitDefEqProofs only [Option.map_some, OpP_some]
    refine ⟨gs ++ [b], by simp, by simp; omega, fun o ho => ?_, p3, hp3.mono (by omega), rfl⟩
    rcases List.mem_append.mp ho with z | z
    · exact hgo _ z
    · rw [List.mem_singleton.mp z]; exact ⟨h3, h4⟩
  · obtain ⟨gs, p, rfl, hgl, hgo, hp, rfl⟩ := hI
    rw [rng_len] at hgl hp
    have e5 : sTuple [.list (gs.map PyData.int)] = some (.tuple (gs.map PyData.int)) := rfl
    simp -implicitDefEqProofs [lwE, e5, canPut_eq, noAli_eq]
    exact hN gs p ⟨by omega, hgo⟩ (hp.mono (by omega))
theorem lw_0_5_ok {ns : List Int} (hns : NK ns) (hN : N (lwE s0 s1 p a3 (some (.tuple (ns.map .int))) a5 a6 a7)) : OutP (lw_0_5 (lwE s0 s1 p a3 (some (.tuple (ns.map .int))) a5 a6 a7)) N R E := by
  have hz := sizeLine_big
  have e1 := tell_ok (order_ok hns.2 (by have := hns.1; omega))
  have e2 := join_words hns.2 (by have := hns.1; omega)
  have e3 : f__law_same 12 [.v (.str (wordsS ns)), .v (.str (wordsS ns))] = .ok (.v (.bool true)) [] := same12 (by simp [PyData.depth]) rfl
  have e0 : itAll (.tuple (ns.map PyData.int)) = some (ns.map PyData.int) := rfl
  have hl : (ns.map PyData.int).length ≤ 8 := by rw [List.length_map]; exact hns.1
  have hm : ∀ d ∈ ns.map PyData.int, ∃ i : Int, d = .int i ∧ 0 ≤ i ∧ i < 60 := fun d hd => by
    obtain ⟨i, hi, rfl⟩ := List.mem_map.mp hd
    exact ⟨i, rfl, hns.2 i hi⟩
  unfold lw_0_5 lwE
  unfold lwE at hN
  generalize wordsS ns = w at *
  generalize ns.map PyData.int = is at *
  generalize hx : PyData.tuple is = x at *
  simp -implicitDefEqProofs [CallP, e1, e0]
  refine RsP_compL wordF (wipe1 (a := a7) rfl) (by omega) (fun d hd => ?_) ?_
  · obtain ⟨i, rfl, h0, h1⟩ := hm d hd
    have hl2 := small_log h0 h1
    simp -implicitDefEqProofs [tgName, canPut_eq, noAli_eq, unw_val, unw_own, unw_pl, unw_nil, sStr, hl2, wordF]
  · rw [e2]
    simp -implicitDefEqProofs [e3]
    exact hN
/-- no order -/
def badO (is : List D) : List D := [.list is, .none, .int 0, .str "0 1", .tuple (is ++ [.int (-1)]), .tuple (is ++ [.bool true]), .tuple (is ++ [.none]), .tuple [.tuple is], .tuple (is ++ [.str "1"])]
theorem badO_no {ns : List Int} (hns : NK ns) : ∀ d ∈ badO (ns.map .int), f__law_told [.v d] = .ok (.v (.int 0)) [] := by
  have hl : (ns.map PyData.int).length ≤ 8 := by rw [List.length_map]; exact hns.1
  have hm : ∀ d ∈ ns.map PyData.int, notDct d = true := fun d hd => by
    obtain ⟨i, hi, rfl⟩ := List.mem_map.mp hd
    rfl
  generalize ns.map PyData.int = is at *
  have key : ∀ z : D, notDct z = true → fromB z = false → f__law_told [.v (.tuple (is ++ [z]))] = .ok (.v (.int 0)) [] := fun z h1 h2 => by
    refine tell_no (order_no (fun d hd => ?_) (by simp; omega) (by simp [h2]))
    rcases List.mem_append.mp hd with q | q
    · exact hm d q
    · rw [List.mem_singleton.mp q]; exact h1
  intro d hd
  simp only [badO, List.mem_cons, List.not_mem_nil, or_false] at hd
  rcases hd with rfl | rfl | rfl | rfl | rfl | rfl | rfl | rfl | rfl
  · exact tell_no (order_nt rfl)
  · exact tell_no (order_nt rfl)
  · exact tell_no (order_nt rfl)
  · exact tell_no (order_nt rfl)
  · exact key _ rfl rfl
  · exact key _ rfl rfl
  · exact key _ rfl rfl
  · exact tell_no (order_no (ds := [.tuple is]) (fun d hd => by rw [List.mem_singleton.mp hd]; rfl) (by simp) rfl)
  · exact key _ rfl rfl
theorem lw_0_6_ok {ns : List Int} (hns : NK ns) (hp : Pot n p) (hn : n ≤ 600000) (hN : ∀ d p, d ∈ badO (ns.map .int) → Pot (n + 1) p → N (lwE s0 s1 p a3 (some (.tuple (ns.map .int))) (some d) a6 a7)) : OutP (lw_0_6 (lwE s0 s1 p a3 (some (.tuple (ns.map .int))) a5 a6 a7)) N R E := by
  have hz := sizeLine_big
  have hl : (ns.map PyData.int).length ≤ 8 := by rw [List.length_map]; exact hns.1
  unfold lw_0_6 lwE
  unfold lwE at hN
  generalize ns.map PyData.int = is at *
  simp -implicitDefEqProofs [CallP]
  refine ⟨by omega, by omega, by omega, by omega, by omega, by omega, by omega, by omega, by omega, ?_⟩
  refine pick_then (ds := badO is) hp (by omega) (Nat.zero_lt_succ _) (by simp [badO]) fun d p1 hd hp1 => ?_
  simp -implicitDefEqProofs [canPut_eq, noAli_eq]
  exact hN d p1 hd hp1
theorem lw_0_7_ok {d : D} (hd : f__law_told [.v d] = .ok (.v (.int 0)) []) (hN : N (lwE s0 s1 p a3 a4 (some d) a6 a7)) : OutP (lw_0_7 (lwE s0 s1 p a3 a4 (some d) a6 a7)) N R E := by
  have e3 : f__law_same 12 [.v (.int 0), .v (.int 0)] = .ok (.v (.bool true)) [] := same12 (by simp [PyData.depth]) rfl
  unfold lw_0_7 lwE
  unfold lwE at hN
  simp -implicitDefEqProofs [CallP, hd, e3]
  exact hN
end
end DL
/-! Df7: the law. -/
namespace DL
open PySem PySem.Spec L2
open PyProof.Rows hiding St
theorem turns_ok {ns : List Int} (hn : ns.length ≤ 63) : ∃ m : Nat, m ≤ 20 ∧ f__law_turns [.v (scrD ns), .v (.int 0), .v (.int 4), .v (.int 20)] = .ok (.v (.list (rng (m : Int)))) [] := by
  have hlen : sLen [scrD ns] = some (.int (ns.length : Nat)) := by
    unfold scrD
    rw [sLen_scr, List.length_map]
  obtain ⟨m, hm, em⟩ : ∃ m : Nat, m ≤ 20 ∧ (if (if (20 : Int) < ns.length then 20 else (ns.length : Int)) > 4 then (if (20 : Int) < ns.length then 20 else (ns.length : Int)) else 4) = (m : Int) := by
    by_cases q : (20 : Int) < ns.length
    · rw [if_pos q]
      exact ⟨20, by omega, rfl⟩
    · rw [if_neg q]
      by_cases q2 : (ns.length : Int) > 4
      · rw [if_pos q2]
        exact ⟨ns.length, by omega, rfl⟩
      · rw [if_neg q2]
        exact ⟨4, by omega, rfl⟩
  have e1 : rgOk 0 (m : Int) = true := by
    unfold rgOk
    rw [decide_eq_true_iff]
    omega
  have e2 : rng2 0 (m : Int) = rng (m : Int) := by
    unfold rng2 rng
    rw [Int.sub_zero]
  refine ⟨m, hm, Gives.eq ?_⟩
  generalize scrD ns = x at hlen
  refine RfP_run rfl ?_
  simp -implicitDefEqProofs [b__law_turns, startEn, arSl, hlen, em, e1, e2, outsOf]
section
variable {s0 s1 p : D} {h : List Op} {n : Nat} {N : En → Prop} {R : En → Rr → Prop} {E : En → Ex → Prop} {a3 a4 a5 a6 a7 : Option D}
/-- the law's slots between the turns -/
def lwT (s0 : D) (s1 s2 : Sl) (a3 a4 a5 a6 a7 : Option D) : En := [.val s0, s1, s2, pl a3, pl a4, pl a5, pl a6, pl a7]
theorem tg1w {s1 s2 : Sl} {d : D} {Q : En → Prop} (h1 : s1 = .un ∨ ∃ d, s1 = .val d) : OpP (tgName 1 d (lwT s0 s1 s2 a3 a4 a5 a6 a7)) Q = Q (lwT s0 (.val d) s2 a3 a4 a5 a6 a7) := by
  rcases h1 with rfl | ⟨e, rfl⟩ <;> simp [tgName, lwT, canPut_eq]
theorem turnw {ns : List Int} {s2 : Sl} {k : Nat} (hk : k < 64) (h2 : s2 = .un ∨ ∃ p, s2 = .own false p) (hN : ∀ s2 a3 a4 a5 a6 a7, (s2 = .un ∨ ∃ p, s2 = .own false p) → N (lwT (scrD ns) (.val (.int (k : Nat))) s2 a3 a4 a5 a6 a7)) : OutP (lw_0_b (lwT (scrD ns) (.val (.int (k : Nat))) s2 a3 a4 a5 a6 a7)) N R E := by
  have hz := sizeLine_big
  unfold lw_0_b
  rw [OutP_seq]
  unfold lw_0_0
  rcases h2 with rfl | ⟨p0, rfl⟩
  all_goals
    simp -implicitDefEqProofs [lwT, CallP]
    refine (pot_ok ns hk).mono (fun r os hq => ?_) fun _ _ z => z.elim
    obtain ⟨rfl, p, rfl, hp⟩ := hq
    simp -implicitDefEqProofs [canPut_eq, noAli_eq]
    unfold lw_0_1
    simp -implicitDefEqProofs [CallP, kinds_ok]
    refine pick_then (ds := kindL) hp (by omega) (by decide) (by decide) fun d p1 hd hp1 => ?_
    obtain ⟨kd, rfl⟩ := kindL_at d hd
    simp -implicitDefEqProofs [CallP]
    refine (history_ok hp1 (by omega)).mono (fun r os hq => ?_) fun _ _ z => z.elim
    obtain ⟨h, p2, rfl, rfl, hh, hp2⟩ := hq
    simp -implicitDefEqProofs [canPut_eq, noAli_eq]
    refine lw_0_2_ok (a4 := a4) (a5 := a5) (a6 := a6) (a7 := a7) ⟨hh.1, fun o ho => (hh.2 o ho).ok⟩ hp2 (by omega) fun h p hh hp => ?_
    refine lw_0_3_ok hh ?_
    refine lw_0_4_ok hp (by omega) fun is p hns hp => ?_
    refine lw_0_5_ok hns ?_
    refine lw_0_6_ok hns hp (by omega) fun d p hd hp => ?_
    refine lw_0_7_ok (badO_no hns d hd) ?_
    exact hN (.own false p) _ _ _ _ _ (.inr ⟨p, rfl⟩)
end
theorem law_ok {ns : List Int} (hn : ns.length ≤ 63) : RfP (f_law [.v (scrD ns)]) (fun r os => r = .v (.bool true) ∧ os = []) fun _ _ => False := by
  have hz := sizeLine_big
  obtain ⟨m, hm, em⟩ := turns_ok hn
  refine RfP_run rfl ?_
  rw [lw_cut, OutP_seq]
  unfold lw_0
  simp -implicitDefEqProofs [startEn, arSl, CallP, em]
  refine OutP_forL _ (fun i en => ∃ s1 s2 a3 a4 a5 a6 a7, (s1 = .un ∨ ∃ d, s1 = .val d) ∧ (s2 = .un ∨ ∃ p, s2 = .own false p) ∧ en = lwT (scrD ns) s1 s2 a3 a4 a5 a6 a7) _ ⟨.un, .un, none, none, none, none, none, .inl rfl, .inl rfl, rfl⟩ (fun i d en ed hI => ?_) fun en hI => ?_
  · obtain ⟨s1, s2, a3, a4, a5, a6, a7, h1, h2, rfl⟩ := hI
    have hi := (List.getElem?_eq_some_iff.mp ed).1
    rw [rng_len] at hi
    have hd := rng_get hi
    rw [ed] at hd
    obtain rfl : d = .int (i : Nat) := Option.some.inj hd
    rw [tg1w h1]
    exact turnw (by omega) h2 fun s2 a3 a4 a5 a6 a7 h => ⟨_, s2, a3, a4, a5, a6, a7, .inr ⟨_, rfl⟩, h, rfl⟩
  · obtain ⟨s1, s2, a3, a4, a5, a6, a7, h1, h2, rfl⟩ := hI
    unfold lw_1
    simp -implicitDefEqProofs [lwT, outsOf]
end DL
namespace DL
open PySem PySem.Spec L2
open PyProof.Rows hiding St
theorem all_mk {P : Program} {w : World} {K : PySem.W.Frag} {mg : Str → Option Value} {fa : Addr} (hfa : mg "law" = some (.ref fa)) (B : Bt mg) (k_MOST_LETTERS : Konst K mg "MOST_LETTERS" c_MOST_LETTERS) (k_LETTERS : Konst K mg "LETTERS" c_LETTERS) (k_CLIENT : Konst K mg "CLIENT" c_CLIENT) (k_END : Konst K mg "END" c_END) (k_START : Konst K mg "START" c_START) (k_NAME : Konst K mg "NAME" c_NAME) (x_InvalidOrder : OwnX K mg "InvalidOrder") (g0_ : Cl1 K mg "InvalidOrder") (d_is_integer : Df K mg "is_integer" s_is_integer) (d_is_from : Df K mg "is_from" s_is_from) (d_is_tuple_of : Df K mg "is_tuple_of" s_is_tuple_of) (d_is_name : Df K mg "is_name" s_is_name) (d_is_optional : Df K mg "is_optional" s_is_optional) (d_is_operation : Df K mg "is_operation" s_is_operation) (d_history_fault : Df K mg "history_fault" s_history_fault) (d_check_history : Df K mg "check_history" s_check_history) (d_indexes_of_client : Df K mg "indexes_of_client" s_indexes_of_client) (d_words_of : Df K mg "words_of" s_words_of) (d_order_text : Df K mg "order_text" s_order_text) (d_line_of_client : Df K mg "line_of_client" s_line_of_client) (d_picture : Df K mg "picture" s_picture) (d__law_pot : Df K mg "_law_pot" s__law_pot) (d__law_draw : Df K mg "_law_draw" s__law_draw) (d__law_pick : Df K mg "_law_pick" s__law_pick) (d__law_same : Df K mg "_law_same" s__law_same) (d__law_turns : Df K mg "_law_turns" s__law_turns) (d__law_kinds : Df K mg "_law_kinds" s__law_kinds) (d__law_map_step : Df K mg "_law_map_step" s__law_map_step) (d__law_step : Df K mg "_law_step" s__law_step) (d__law_first : Df K mg "_law_first" s__law_first) (d__law_shuffled : Df K mg "_law_shuffled" s__law_shuffled) (d__law_call : Df K mg "_law_call" s__law_call) (d__law_play : Df K mg "_law_play" s__law_play) (d__law_result : Df K mg "_law_result" s__law_result) (d__law_played : Df K mg "_law_played" s__law_played) (d__law_put : Df K mg "_law_put" s__law_put) (d__law_bent : Df K mg "_law_bent" s__law_bent) (d__law_history : Df K mg "_law_history" s__law_history) (d__law_told : Df K mg "_law_told" s__law_told) (d__law_picture : Df K mg "_law_picture" s__law_picture) (d_law : Df K mg "law" s_law) : ∃ fd : FuncData, (∀ (s : Shared) (v : Value), BindsTo s fd ⟨[v], []⟩ [("script", v)]) ∧ ∀ base : Heap, FnOk P w K mg base (L2.CX P w) 14 fa fd ["script"] (spEnd K) := by
  obtain ⟨fz, fd_law, F_law, m_law⟩ := d_law
  have e := hfa.symm.trans m_law
  cases e
  obtain ⟨_, _, F_is_integer, m_is_integer⟩ := d_is_integer
  obtain ⟨_, _, F_is_from, m_is_from⟩ := d_is_from
  obtain ⟨_, _, F_is_tuple_of, m_is_tuple_of⟩ := d_is_tuple_of
  obtain ⟨_, _, F_is_name, m_is_name⟩ := d_is_name
  obtain ⟨_, _, F_is_optional, m_is_optional⟩ := d_is_optional
  obtain ⟨_, _, F_is_operation, m_is_operation⟩ := d_is_operation
  obtain ⟨_, _, F_history_fault, m_history_fault⟩ := d_history_fault
  obtain ⟨_, _, F_check_history, m_check_history⟩ := d_check_history
  obtain ⟨_, _, F_indexes_of_client, m_indexes_of_client⟩ := d_indexes_of_client
  obtain ⟨_, _, F_words_of, m_words_of⟩ := d_words_of
  obtain ⟨_, _, F_order_text, m_order_text⟩ := d_order_text
  obtain ⟨_, _, F_line_of_client, m_line_of_client⟩ := d_line_of_client
  obtain ⟨_, _, F_picture, m_picture⟩ := d_picture
  obtain ⟨_, _, F__law_pot, m__law_pot⟩ := d__law_pot
  obtain ⟨_, _, F__law_draw, m__law_draw⟩ := d__law_draw
  obtain ⟨_, _, F__law_pick, m__law_pick⟩ := d__law_pick
  obtain ⟨_, _, F__law_same, m__law_same⟩ := d__law_same
  obtain ⟨_, _, F__law_turns, m__law_turns⟩ := d__law_turns
  obtain ⟨_, _, F__law_kinds, m__law_kinds⟩ := d__law_kinds
  obtain ⟨_, _, F__law_map_step, m__law_map_step⟩ := d__law_map_step
  obtain ⟨_, _, F__law_step, m__law_step⟩ := d__law_step
  obtain ⟨_, _, F__law_first, m__law_first⟩ := d__law_first
  obtain ⟨_, _, F__law_shuffled, m__law_shuffled⟩ := d__law_shuffled
  obtain ⟨_, _, F__law_call, m__law_call⟩ := d__law_call
  obtain ⟨_, _, F__law_play, m__law_play⟩ := d__law_play
  obtain ⟨_, _, F__law_result, m__law_result⟩ := d__law_result
  obtain ⟨_, _, F__law_played, m__law_played⟩ := d__law_played
  obtain ⟨_, _, F__law_put, m__law_put⟩ := d__law_put
  obtain ⟨_, _, F__law_bent, m__law_bent⟩ := d__law_bent
  obtain ⟨_, _, F__law_history, m__law_history⟩ := d__law_history
  obtain ⟨_, _, F__law_told, m__law_told⟩ := d__law_told
  obtain ⟨_, _, F__law_picture, m__law_picture⟩ := d__law_picture
  obtain ⟨C_InvalidOrder, m_InvalidOrder, e_InvalidOrder⟩ := g0_
  refine ⟨fd_law, ?_, fun base => ?_⟩
  · obtain ⟨oc, od, kV, doc, pm, an, cdv, ct, osl, rfl, _, _⟩ := F_law.ex
    exact fun s v => .of_eq rfl
  · have c_is_integer := ok_is_integer (P := P) (w := w) (base := base) B F_is_integer m_is_integer
    have c_is_from := ok_is_from (P := P) (w := w) (base := base) B c_is_integer F_is_from m_is_from
    have c_is_tuple_of := ok_is_tuple_of (P := P) (w := w) (base := base) B F_is_tuple_of m_is_tuple_of
    have c_is_name := ok_is_name (P := P) (w := w) (base := base) B k_MOST_LETTERS k_LETTERS F_is_name m_is_name
    have c_is_optional := ok_is_optional (P := P) (w := w) (base := base) B c_is_integer F_is_optional m_is_optional
    have c_is_operation := ok_is_operation (P := P) (w := w) (base := base) B c_is_tuple_of c_is_from c_is_integer c_is_name c_is_optional F_is_operation m_is_operation
    have c_history_fault := ok_history_fault (P := P) (w := w) (base := base) B c_is_operation F_history_fault m_history_fault
    have c_check_history := ok_check_history (P := P) (w := w) (base := base) B c_history_fault F_check_history m_check_history
    have c_indexes_of_client := ok_indexes_of_client (P := P) (w := w) (base := base) B k_CLIENT F_indexes_of_client m_indexes_of_client
    have c_words_of := ok_words_of (P := P) (w := w) (base := base) B F_words_of m_words_of
    have c_order_text := ok_order_text (P := P) (w := w) (base := base) B c_words_of c_is_from x_InvalidOrder F_order_text m_order_text
    have c_line_of_client := ok_line_of_client (P := P) (w := w) (base := base) B k_END k_START k_NAME c_indexes_of_client F_line_of_client m_line_of_client
    have c_picture := ok_picture (P := P) (w := w) (base := base) B k_END k_CLIENT k_START c_check_history c_line_of_client F_picture m_picture
    have c__law_pot := ok__law_pot (P := P) (w := w) (base := base) B F__law_pot m__law_pot
    have c__law_draw := ok__law_draw (P := P) (w := w) (base := base) B F__law_draw m__law_draw
    have c__law_pick := ok__law_pick (P := P) (w := w) (base := base) B c__law_draw F__law_pick m__law_pick
    have c__law_same : Callee P w K mg base "_law_same" 13 (f__law_same 12) := ok__law_same (P := P) (w := w) (base := base) B F__law_same m__law_same 12
    have c__law_turns := ok__law_turns (P := P) (w := w) (base := base) B F__law_turns m__law_turns
    have c__law_kinds := ok__law_kinds (P := P) (w := w) (base := base) B F__law_kinds m__law_kinds
    have c__law_map_step := ok__law_map_step (P := P) (w := w) (base := base) B F__law_map_step m__law_map_step
    have c__law_step := ok__law_step (P := P) (w := w) (base := base) B c__law_map_step F__law_step m__law_step
    have c__law_first := ok__law_first (P := P) (w := w) (base := base) B F__law_first m__law_first
    have c__law_shuffled := ok__law_shuffled (P := P) (w := w) (base := base) B c__law_draw F__law_shuffled m__law_shuffled
    have c__law_call := ok__law_call (P := P) (w := w) (base := base) B c__law_draw F__law_call m__law_call
    have c__law_play := ok__law_play (P := P) (w := w) (base := base) B c__law_shuffled c__law_call c__law_draw F__law_play m__law_play
    have c__law_result := ok__law_result (P := P) (w := w) (base := base) B c__law_step F__law_result m__law_result
    have c__law_played := ok__law_played (P := P) (w := w) (base := base) B c__law_first c__law_result F__law_played m__law_played
    have c__law_put := ok__law_put (P := P) (w := w) (base := base) B F__law_put m__law_put
    have c__law_bent := ok__law_bent (P := P) (w := w) (base := base) B c__law_draw c__law_pick c__law_put F__law_bent m__law_bent
    have c__law_history := ok__law_history (P := P) (w := w) (base := base) B c__law_played c__law_play c__law_bent c__law_draw F__law_history m__law_history
    have c__law_told := ok__law_told (P := P) (w := w) (base := base) B c_order_text m_InvalidOrder e_InvalidOrder F__law_told m__law_told
    have c__law_picture := ok__law_picture (P := P) (w := w) (base := base) B F__law_picture m__law_picture
    exact end_fn (fn_law B c__law_turns c__law_pot c__law_history c__law_pick c__law_same c__law_kinds c_picture c__law_picture c__law_draw c__law_told F_law m_law) fun ns hl => law_ok hl
end DL
open PySem PySem.W PyProof.Rows
set_option maxHeartbeats 0 in
theorem PySem.Challenge.cw_linewitness_k83_orders_and_pictures_holds : PySem.Challenge.rw_linewitness_k83_orders_and_pictures.Holds := by
  w_on; o_law; k_head; (case hw => w_witness2)
  k_fill
  refine L2.walk_of (l := PySem.Challenge.rw_linewitness_k83_orders_and_pictures) (n := 63) (k := 14) (x := "script") (CX := fun w => L2.CX PySem.Challenge.pw_linewitness_k83_orders_and_pictures w) (sp := fun w => DL.spEnd _) rfl (by decide) rfl ⟨rfl, by decide, by decide⟩ (fun w h Y => PySem.W.kIn_of Y) ?F (fun _ _ a ns hl _ hS => ⟨a, ns, rfl, hS, hl, fun _ => rfl⟩) (fun w H s e s' h => by obtain ⟨_, _, _, _, _, _, _, _, _, _, _, _, z⟩ := h; exact z)
  case F =>
    intro w mg fa h KX G hmg
    refine' (fun ⟨fd, h1, h2⟩ => ⟨fd, h1, fun base _ _ => h2 base⟩ : (∃ fd : FuncData, (∀ (s : Shared) (v : Value), BindsTo s fd ⟨[v], []⟩ [("script", v)]) ∧ ∀ base : Heap, L2.FnOk _ w _ mg base _ _ fa fd ["script"] _) → _) (DL.all_mk hmg ?u_B ?u_k_MOST_LETTERS ?u_k_LETTERS ?u_k_CLIENT ?u_k_END ?u_k_START ?u_k_NAME ?u_x_InvalidOrder ?u_g0_ ?u_d_is_integer ?u_d_is_from ?u_d_is_tuple_of ?u_d_is_name ?u_d_is_optional ?u_d_is_operation ?u_d_history_fault ?u_d_check_history ?u_d_indexes_of_client ?u_d_words_of ?u_d_order_text ?u_d_line_of_client ?u_d_picture ?u_d__law_pot ?u_d__law_draw ?u_d__law_pick ?u_d__law_same ?u_d__law_turns ?u_d__law_kinds ?u_d__law_map_step ?u_d__law_step ?u_d__law_first ?u_d__law_shuffled ?u_d__law_call ?u_d__law_play ?u_d__law_result ?u_d__law_played ?u_d__law_put ?u_d__law_bent ?u_d__law_history ?u_d__law_told ?u_d__law_picture ?u_d_law)
    (case u_B => refine' DL.Bt.in_ KX G ?u1_z1 ?u1_z2 ?u1_z3 ?u1_z4 ?u1_z5 ?u1_z6 ?u1_z7 ?u1_z8 ?u1_z9 ?u1_z10 ?u1_z11 ?u1_z12 ?u1_z13 ?u1_z14 ?u1_z15 ?u1_z16 ?u1_z17 ?u1_z18; (case u1_z1 => k_is); (case u1_z2 => k_is); (case u1_z3 => k_is); (case u1_z4 => k_is); (case u1_z5 => k_is); (case u1_z6 => k_is); (case u1_z7 => k_is); (case u1_z8 => k_is); (case u1_z9 => k_is); (case u1_z10 => k_is); (case u1_z11 => k_is); (case u1_z12 => k_is); (case u1_z13 => k_is); (case u1_z14 => k_is); (case u1_z15 => k_is); (case u1_z16 => k_is); (case u1_z17 => k_is); (case u1_z18 => k_is))
    (case u_k_MOST_LETTERS => refine' DL.Konst.int_in KX G ?u2_a; (case u2_a => k_is))
    (case u_k_LETTERS => refine' DL.Konst.str_in KX G ?u3_a; (case u3_a => k_is))
    (case u_k_CLIENT => refine' DL.Konst.int_in KX G ?u4_a; (case u4_a => k_is))
    (case u_k_END => refine' DL.Konst.int_in KX G ?u5_a; (case u5_a => k_is))
    (case u_k_START => refine' DL.Konst.int_in KX G ?u6_a; (case u6_a => k_is))
    (case u_k_NAME => refine' DL.Konst.int_in KX G ?u7_a; (case u7_a => k_is))
    (case u_x_InvalidOrder => refine' DL.OwnX.in_ KX G ?u8_a ?u8_q ?u8_k ?u8_s ?u8_t; (case u8_a => k_is); (case u8_q => k_exc); (case u8_k => k_is); (case u8_s => k_is); (case u8_t => k_is))
    (case u_g0_ => refine' DL.Cl1.in_ KX G ?u9_a1 ?u9_s1 ?u9_d1 ?u9_t1 ?u9_p11; (case u9_a1 => k_is); (case u9_s1 => k_is); (case u9_d1 => k_is); (case u9_t1 => k_is); (case u9_p11 => first | rfl | k_is))
    (case u_d_is_integer => refine' DL.Df.mk KX G ?u10_a ?u10_l ?u10_c ?u10_k; (case u10_a => k_is); (case u10_l => k_is); (case u10_c => k_is); (case u10_k => k_is))
    (case u_d_is_from => refine' DL.Df.mk KX G ?u11_a ?u11_l ?u11_c ?u11_k; (case u11_a => k_is); (case u11_l => k_is); (case u11_c => k_is); (case u11_k => k_is))
    (case u_d_is_tuple_of => refine' DL.Df.mk KX G ?u12_a ?u12_l ?u12_c ?u12_k; (case u12_a => k_is); (case u12_l => k_is); (case u12_c => k_is); (case u12_k => k_is))
    (case u_d_is_name => refine' DL.Df.mk KX G ?u13_a ?u13_l ?u13_c ?u13_k; (case u13_a => k_is); (case u13_l => k_is); (case u13_c => k_is); (case u13_k => k_is))
    (case u_d_is_optional => refine' DL.Df.mk KX G ?u14_a ?u14_l ?u14_c ?u14_k; (case u14_a => k_is); (case u14_l => k_is); (case u14_c => k_is); (case u14_k => k_is))
    (case u_d_is_operation => refine' DL.Df.mk KX G ?u15_a ?u15_l ?u15_c ?u15_k; (case u15_a => k_is); (case u15_l => k_is); (case u15_c => k_is); (case u15_k => k_is))
    (case u_d_history_fault => refine' DL.Df.mk KX G ?u16_a ?u16_l ?u16_c ?u16_k; (case u16_a => k_is); (case u16_l => k_is); (case u16_c => k_is); (case u16_k => k_is))
    (case u_d_check_history => refine' DL.Df.mk KX G ?u17_a ?u17_l ?u17_c ?u17_k; (case u17_a => k_is); (case u17_l => k_is); (case u17_c => k_is); (case u17_k => k_is))
    (case u_d_indexes_of_client => refine' DL.Df.mk KX G ?u18_a ?u18_l ?u18_c ?u18_k; (case u18_a => k_is); (case u18_l => k_is); (case u18_c => k_is); (case u18_k => k_is))
    (case u_d_words_of => refine' DL.Df.mk KX G ?u19_a ?u19_l ?u19_c ?u19_k; (case u19_a => k_is); (case u19_l => k_is); (case u19_c => k_is); (case u19_k => k_is))
    (case u_d_order_text => refine' DL.Df.mk KX G ?u20_a ?u20_l ?u20_c ?u20_k; (case u20_a => k_is); (case u20_l => k_is); (case u20_c => k_is); (case u20_k => k_is))
    (case u_d_line_of_client => refine' DL.Df.mk KX G ?u21_a ?u21_l ?u21_c ?u21_k; (case u21_a => k_is); (case u21_l => k_is); (case u21_c => k_is); (case u21_k => k_is))
    (case u_d_picture => refine' DL.Df.mk KX G ?u22_a ?u22_l ?u22_c ?u22_k; (case u22_a => k_is); (case u22_l => k_is); (case u22_c => k_is); (case u22_k => k_is))
    (case u_d__law_pot => refine' DL.Df.mk KX G ?u23_a ?u23_l ?u23_c ?u23_k; (case u23_a => k_is); (case u23_l => k_is); (case u23_c => k_is); (case u23_k => k_is))
    (case u_d__law_draw => refine' DL.Df.mk KX G ?u24_a ?u24_l ?u24_c ?u24_k; (case u24_a => k_is); (case u24_l => k_is); (case u24_c => k_is); (case u24_k => k_is))
    (case u_d__law_pick => refine' DL.Df.mk KX G ?u25_a ?u25_l ?u25_c ?u25_k; (case u25_a => k_is); (case u25_l => k_is); (case u25_c => k_is); (case u25_k => k_is))
    (case u_d__law_same => refine' DL.Df.mk KX G ?u26_a ?u26_l ?u26_c ?u26_k; (case u26_a => k_is); (case u26_l => k_is); (case u26_c => k_is); (case u26_k => k_is))
    (case u_d__law_turns => refine' DL.Df.mk KX G ?u27_a ?u27_l ?u27_c ?u27_k; (case u27_a => k_is); (case u27_l => k_is); (case u27_c => k_is); (case u27_k => k_is))
    (case u_d__law_kinds => refine' DL.Df.mk KX G ?u28_a ?u28_l ?u28_c ?u28_k; (case u28_a => k_is); (case u28_l => k_is); (case u28_c => k_is); (case u28_k => k_is))
    (case u_d__law_map_step => refine' DL.Df.mk KX G ?u29_a ?u29_l ?u29_c ?u29_k; (case u29_a => k_is); (case u29_l => k_is); (case u29_c => k_is); (case u29_k => k_is))
    (case u_d__law_step => refine' DL.Df.mk KX G ?u30_a ?u30_l ?u30_c ?u30_k; (case u30_a => k_is); (case u30_l => k_is); (case u30_c => k_is); (case u30_k => k_is))
    (case u_d__law_first => refine' DL.Df.mk KX G ?u31_a ?u31_l ?u31_c ?u31_k; (case u31_a => k_is); (case u31_l => k_is); (case u31_c => k_is); (case u31_k => k_is))
    (case u_d__law_shuffled => refine' DL.Df.mk KX G ?u32_a ?u32_l ?u32_c ?u32_k; (case u32_a => k_is); (case u32_l => k_is); (case u32_c => k_is); (case u32_k => k_is))
    (case u_d__law_call => refine' DL.Df.mk KX G ?u33_a ?u33_l ?u33_c ?u33_k; (case u33_a => k_is); (case u33_l => k_is); (case u33_c => k_is); (case u33_k => k_is))
    (case u_d__law_play => refine' DL.Df.mk KX G ?u34_a ?u34_l ?u34_c ?u34_k; (case u34_a => k_is); (case u34_l => k_is); (case u34_c => k_is); (case u34_k => k_is))
    (case u_d__law_result => refine' DL.Df.mk KX G ?u35_a ?u35_l ?u35_c ?u35_k; (case u35_a => k_is); (case u35_l => k_is); (case u35_c => k_is); (case u35_k => k_is))
    (case u_d__law_played => refine' DL.Df.mk KX G ?u36_a ?u36_l ?u36_c ?u36_k; (case u36_a => k_is); (case u36_l => k_is); (case u36_c => k_is); (case u36_k => k_is))
    (case u_d__law_put => refine' DL.Df.mk KX G ?u37_a ?u37_l ?u37_c ?u37_k; (case u37_a => k_is); (case u37_l => k_is); (case u37_c => k_is); (case u37_k => k_is))
    (case u_d__law_bent => refine' DL.Df.mk KX G ?u38_a ?u38_l ?u38_c ?u38_k; (case u38_a => k_is); (case u38_l => k_is); (case u38_c => k_is); (case u38_k => k_is))
    (case u_d__law_history => refine' DL.Df.mk KX G ?u39_a ?u39_l ?u39_c ?u39_k; (case u39_a => k_is); (case u39_l => k_is); (case u39_c => k_is); (case u39_k => k_is))
    (case u_d__law_told => refine' DL.Df.mk KX G ?u40_a ?u40_l ?u40_c ?u40_k; (case u40_a => k_is); (case u40_l => k_is); (case u40_c => k_is); (case u40_k => k_is))
    (case u_d__law_picture => refine' DL.Df.mk KX G ?u41_a ?u41_l ?u41_c ?u41_k; (case u41_a => k_is); (case u41_l => k_is); (case u41_c => k_is); (case u41_k => k_is))
    (case u_d_law => refine' DL.Df.mk KX G ?u42_a ?u42_l ?u42_c ?u42_k; (case u42_a => k_is); (case u42_l => k_is); (case u42_c => k_is); (case u42_k => k_is))
