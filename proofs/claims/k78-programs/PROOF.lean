import PyProof.Rows.All
import KE.RegKSuper
import HandS.ForMost
import HandS.ForExc
import HandS.Deep
import HandS.Wide
import HandS.Flow
import HandS.ExcIs
import KE.GoesEnum
import HandS.TupAny
import HandS.TupMul
import HandS.IsInst
import HandS.DeepEq
import KE.SortData
import HandS.Text
import HandS.Style
import HandS.DictComp
import HandS.More
import KE.OsSort
import HandS.SetFor
import HandS.Strs
import HandS.Conv
import HandS.Dict
import HandS.Star
import HandS.TryMany
import HandS.RaiseMore
import HandS.ExcSuper
import HandS.ExcInit
import KE.KExcSuper
import KE.KSuper
import KE.GoesZip
import KE.GoesMore
import HandS.Small
import HandS.TryOnly
import PySem.Challenge.RW_linewitness_k78_programs_judged
set_option Elab.async false
set_option linter.all false
set_option maxRecDepth 100000
set_option autoImplicit false
/-! Dl1: deep data over the hand layer: what a value is (Dv), slots (Sl), results (Rs), the state's likeness (Rep). -/
namespace DL
open PySem PySem.Spec L2
open PyProof.Rows hiding St

abbrev D := PyData

def keyD : Key → D
  | .inl i => .int i
  | .inr s => .str s

mutual
inductive Dv (K : PySem.W.Frag) (F : Hp) : V → D → Prop
  | non : Dv K F .non .none
  | bl (b : Bool) : Dv K F (.bl b) (.bool b)
  | int (i : Int) : Dv K F (.int i) (.int i)
  | str (x : Str) : Dv K F (.str x) (.str x)
  | lst {a : Addr} {xs : List V} {ds : List D} : F a = some (.lst xs) → DvAll K F xs ds → Dv K F (.ref a) (.list ds)
  | scr {a : Addr} {ns : List Int} : SqL K F a (ns.map V.int) → Dv K F (.ref a) (.dict [(.none, .list (ns.map PyData.int))])
  | tup {a : Addr} {xs : List V} {ds : List D} : SqT K F a xs → DvAll K F xs ds → Dv K F (.ref a) (.tuple ds)
  | dct {a : Addr} {kvs : List (Key × V)} {ds : List D} : F a = some (.dK kvs) → DvAll K F (kvs.map (·.2)) ds → Dv K F (.ref a) (.dict ((kvs.map fun p => keyD p.1).zip ds))
  | dctT {a : Addr} {kvs : List (List Key × V)} {ds : List D} : F a = some (.dT kvs) → DvAll K F (kvs.map (·.2)) ds → Dv K F (.ref a) (.dict ((.none, .bool true) :: (kvs.map fun p => PyData.tuple (p.1.map keyD)).zip ds))
inductive DvAll (K : PySem.W.Frag) (F : Hp) : List V → List D → Prop
  | nil : DvAll K F [] []
  | cons {v : V} {vs : List V} {d : D} {ds : List D} : Dv K F v d → DvAll K F vs ds → DvAll K F (v :: vs) (d :: ds)
end

section
variable {K : PySem.W.Frag} {F F' H : Hp}
theorem sqL_mono {a : Addr} {xs : List V} (h : Same F F') (q : SqL K F a xs) : SqL K F' a xs := h.seq q
theorem sqT_mono {a : Addr} {xs : List V} (h : Same F F') (q : SqT K F a xs) : SqT K F' a xs := by
  rcases q with (q | ⟨o, q⟩) | q
  · exact .inl (.inl (h _ _ q))
  · exact .inl (.inr ⟨o, h _ _ q⟩)
  · exact .inr q
mutual
theorem Dv.mono (h : Same F F') : ∀ {v : V} {d : D}, Dv K F v d → Dv K F' v d
  | _, _, .non => .non
  | _, _, .bl b => .bl b
  | _, _, .int i => .int i
  | _, _, .str x => .str x
  | _, _, .lst q a => .lst (h _ _ q) (DvAll.mono h a)
  | _, _, .scr q => .scr (sqL_mono h q)
  | _, _, .tup q a => .tup (sqT_mono h q) (DvAll.mono h a)
  | _, _, .dct q a => .dct (h _ _ q) (DvAll.mono h a)
  | _, _, .dctT q a => .dctT (h _ _ q) (DvAll.mono h a)
theorem DvAll.mono (h : Same F F') : ∀ {vs : List V} {ds : List D}, DvAll K F vs ds → DvAll K F' vs ds
  | _, _, .nil => .nil
  | _, _, .cons a b => .cons (Dv.mono h a) (DvAll.mono h b)
end
theorem DvAll.length : ∀ {vs : List V} {ds : List D}, DvAll K F vs ds → vs.length = ds.length
  | _, _, .nil => rfl
  | _, _, .cons _ b => congrArg (· + 1) (DvAll.length b)
theorem DvAll.get : ∀ {vs : List V} {ds : List D}, DvAll K F vs ds → ∀ {i : Nat} {d : D}, ds[i]? = some d → ∃ v, vs[i]? = some v ∧ Dv K F v d
  | _, _, .nil, i, d, h => by simp at h
  | _, _, .cons a b, 0, d, h => by simp at h; subst h; exact ⟨_, rfl, a⟩
  | _, _, .cons a b, i + 1, d, h => by
    obtain ⟨v, e, q⟩ := DvAll.get b (i := i) (d := d) (by simpa using h)
    exact ⟨v, by simpa using e, q⟩
theorem DvAll.getV : ∀ {vs : List V} {ds : List D}, DvAll K F vs ds → ∀ {i : Nat} {v : V}, vs[i]? = some v → ∃ d, ds[i]? = some d ∧ Dv K F v d
  | _, _, .nil, i, d, h => by simp at h
  | _, _, .cons a b, 0, d, h => by simp at h; subst h; exact ⟨_, rfl, a⟩
  | _, _, .cons a b, i + 1, d, h => by
    obtain ⟨v, e, q⟩ := DvAll.getV b (i := i) (v := d) (by simpa using h)
    exact ⟨v, by simpa using e, q⟩
theorem DvAll.append : ∀ {vs ws : List V} {ds es : List D}, DvAll K F vs ds → DvAll K F ws es → DvAll K F (vs ++ ws) (ds ++ es)
  | _, _, _, _, .nil, h => h
  | _, _, _, _, .cons a b, h => .cons a (DvAll.append b h)
theorem DvAll.take (n : Nat) : ∀ {vs : List V} {ds : List D}, DvAll K F vs ds → DvAll K F (vs.take n) (ds.take n) := by
  induction n with
  | zero => intro vs ds _; exact .nil
  | succ n ih =>
    intro vs ds h
    cases h with
    | nil => exact .nil
    | cons a b => exact .cons a (ih b)
theorem DvAll.drop (n : Nat) : ∀ {vs : List V} {ds : List D}, DvAll K F vs ds → DvAll K F (vs.drop n) (ds.drop n) := by
  induction n with
  | zero => intro vs ds h; exact h
  | succ n ih =>
    intro vs ds h
    cases h with
    | nil => exact .nil
    | cons a b => exact ih b
theorem DvAll.set {v : V} {d : D} (q : Dv K F v d) : ∀ {vs : List V} {ds : List D} (i : Nat), DvAll K F vs ds → DvAll K F (vs.set i v) (ds.set i d)
  | _, _, _, .nil => .nil
  | _, _, 0, .cons a b => .cons q b
  | _, _, i + 1, .cons a b => .cons a (DvAll.set q i b)
theorem DvAll.eraseIdx : ∀ {vs : List V} {ds : List D} (i : Nat), DvAll K F vs ds → DvAll K F (vs.eraseIdx i) (ds.eraseIdx i)
  | _, _, _, .nil => .nil
  | _, _, 0, .cons a b => b
  | _, _, i + 1, .cons a b => .cons a (DvAll.eraseIdx i b)
/-- the script -/
theorem dv_scr {v : V} {ds : List D} (h : Dv K F v (.dict [(.none, .list ds)])) : ∃ (a : Addr) (ns : List Int), v = .ref a ∧ ds = ns.map PyData.int ∧ SqL K F a (ns.map V.int) := by
  generalize e : PyData.dict [(.none, .list ds)] = d at h
  cases h <;> first | (cases e; done) | skip
  · rename_i a ns q
    injection e with e
    injection e with e _
    injection e with _ e
    injection e with e
    exact ⟨a, ns, rfl, e, q⟩
  · rename_i a kvs es q _
    cases kvs with
    | nil => cases e
    | cons p r =>
      cases es with
      | nil => cases e
      | cons d es =>
        injection e with e
        injection e with e _
        injection e with e _
        obtain ⟨k, v⟩ := p
        cases k <;> cases e
theorem DvAll.one {v : V} {d : D} (h : Dv K F v d) : DvAll K F [v] [d] := .cons h .nil
theorem DvAll.ints : ∀ ns : List Int, DvAll K F (ns.map V.int) (ns.map PyData.int)
  | [] => .nil
  | n :: r => .cons (.int n) (DvAll.ints r)
end

/-! ### what stands at a slot; results -/
inductive Sl where
  | un
  | val (d : D)
  | own (fix : Bool) (d : D)
  | ali (j : Nat)
  | xs
abbrev En := List Sl
/-- an expression's result: data, or the owned thing of a slot -/
inductive Rv where
  | d (x : D)
  | s (i : Nat)
/-- a raised error: its class's name, its fields -/
structure Ex where
  cls : Str
  fs : List (Str × D)
inductive Rs (α : Type) where
  | ok (en : En) (a : α)
  | ex (en : En) (x : Ex)
  | no
def Rs.bind {α β : Type} (r : Rs α) (k : En → α → Rs β) : Rs β := match r with
  | .ok en a => k en a
  | .ex en x => .ex en x
  | .no => .no
abbrev Ev := En → Rs Rv
abbrev Tv := En → Rs Bool
abbrev Av := En → Rs (List Rv)
def slD (en : En) (i : Nat) : Option D := match en[i]? with
  | some (.own _ d) => some d
  | _ => none
def res (en : En) : Rv → Option D
  | .d x => some x
  | .s i => slD en i

/-! ### ghosts, likeness -/
structure Gh where
  F0 : Hp
  H0 : Hp
  Ps : List Addr
  Pl : List (Nat × Addr)
  Rw : List (Nat × Addr) := []

/-- an owned thing at p -/
inductive OwnAt (K : PySem.W.Frag) (F H : Hp) (p : Addr) : D → Prop
  | lst {vs : List V} {ds : List D} : H p = some (.lst vs) → DvAll K F vs ds → OwnAt K F H p (.list ds)
  | dct {kvs : List (Key × V)} {ds : List D} : H p = some (.dK kvs) → DvAll K F (kvs.map (·.2)) ds → OwnAt K F H p (.dict ((kvs.map fun p => keyD p.1).zip ds))
  | dctT {kvs : List (List Key × V)} {ds : List D} : H p = some (.dT kvs) → DvAll K F (kvs.map (·.2)) ds → OwnAt K F H p (.dict ((.none, .bool true) :: (kvs.map fun p => PyData.tuple (p.1.map keyD)).zip ds))
theorem OwnAt.ne {K : PySem.W.Frag} {F H : Hp} {p : Addr} {d : D} (h : OwnAt K F H p d) : H p ≠ none := by
  cases h with
  | lst e _ => rw [e]; exact fun z => by cases z
  | dct e _ => rw [e]; exact fun z => by cases z
  | dctT e _ => rw [e]; exact fun z => by cases z
theorem OwnAt.to {K : PySem.W.Frag} {F F' H H' : Hp} {p : Addr} {d : D} (h : OwnAt K F H p d) (e : H' p = H p) (s : Same F F') : OwnAt K F' H' p d := by
  cases h with
  | lst q a => exact .lst (e.trans q) (a.mono s)
  | dct q a => exact .dct (e.trans q) (a.mono s)
  | dctT q a => exact .dctT (e.trans q) (a.mono s)

structure Rep (K : PySem.W.Frag) (g : Gh) (F : Hp) (en : En) (σ : St) (H : Hp) : Prop where
  fz : Same F H
  fr : ∀ a o, g.H0 a = some o → a ∉ g.Ps → H a = some o
  al : ∀ p, p ∈ g.Ps → H p ≠ none
  nw : ∀ a, g.F0 a = none → g.H0 a ≠ none → a ∉ g.Ps → F a = none
  len : en.length = σ.length
  val : ∀ (i : Nat) (d : D), en[i]? = some (.val d) → ∃ v, σ[i]? = some (some v) ∧ Dv K F v d
  own : ∀ (i : Nat) (b : Bool) (d : D), en[i]? = some (.own b d) → ∃ p, σ[i]? = some (some (.ref p)) ∧ OwnAt K F H p d ∧ F p = none ∧ (p ∈ g.Ps ∨ g.H0 p = none)
  ali : ∀ (i j : Nat), en[i]? = some (.ali j) → σ[i]? = σ[j]? ∧ ∃ b d, en[j]? = some (.own b d)
  sep : ∀ (i j : Nat) (b c : Bool) (d e : D), i ≠ j → en[i]? = some (.own b d) → en[j]? = some (.own c e) → σ[i]? ≠ σ[j]?
  pl : ∀ (i : Nat) (p : Addr), (i, p) ∈ g.Pl → σ[i]? = some (some (.ref p)) ∧ ∃ d, en[i]? = some (.own true d)
  rw : ∀ (i : Nat) (a : Addr), (i, a) ∈ g.Rw → σ[i]? = some (some (.ref a)) ∧ en[i]? = some .xs

/-- the heap grows, and what is frozen anew is new -/
structure Ext (F H F' H' : Hp) : Prop where
  same : Same H H'
  le : Same F F'
  sub : Same F' H'
  new : ∀ a, F a = none → H a ≠ none → F' a = none
theorem Ext.refl {F H : Hp} (s : Same F H) : Ext F H F H := ⟨Same.refl _, Same.refl _, s, fun _ h _ => h⟩
theorem Ext.put {F H : Hp} (s : Same F H) {p : Addr} (hp : H p = none) (o : HO) : Ext F H (upd F p o) (upd H p o) := by
  have hF : F p = none := s.free hp
  refine ⟨same_updN hp, same_updN hF, fun a u e => ?_, fun a e1 e2 => ?_⟩
  · by_cases h : a = p
    · subst h; rw [upd_same] at e ⊢; exact e
    · rw [upd_ne h] at e ⊢; exact s _ _ e
  · by_cases h : a = p
    · subst h; exact absurd hp e2
    · rw [upd_ne h]; exact e1
where
  same_updN {H : Hp} {p : Addr} {o : HO} (h : H p = none) : Same H (upd H p o) := fun b x e => by
    rw [upd_ne (ne_of_none e h)]
    exact e
theorem Ext.trans {F H F1 H1 F2 H2 : Hp} (a : Ext F H F1 H1) (b : Ext F1 H1 F2 H2) : Ext F H F2 H2 :=
  ⟨a.same.trans b.same, a.le.trans b.le, b.sub, fun x e1 e2 => b.new x (a.new x e1 e2) (by
    cases q : H x with
    | none => exact absurd q e2
    | some o => rw [a.same _ _ q]; exact fun z => by cases z)⟩

theorem Ext.alive {F H F' H' : Hp} (x : Ext F H F' H') {p : Addr} (h : H p ≠ none) : H' p ≠ none := by
  cases q : H p with
  | none => exact absurd q h
  | some o => rw [x.same _ _ q]; exact fun z => by cases z
section
variable {K : PySem.W.Frag} {g : Gh} {F F' H H' : Hp} {en : En} {σ : St}
theorem Rep.ext (r : Rep K g F en σ H) (x : Ext F H F' H') : Rep K g F' en σ H' := by
  refine ⟨x.sub, fun a o e n => x.same _ _ (r.fr a o e n), fun p hp => x.alive (r.al p hp), fun a e0 e1 n => x.new a (r.nw a e0 e1 n) (by
    cases q : g.H0 a with
    | none => exact absurd q e1
    | some o => rw [r.fr a o q n]; exact fun z => by cases z), r.len, fun i d e => ?_, fun i b d e => ?_, r.ali, r.sep, r.pl, r.rw⟩
  · obtain ⟨v, e1, q⟩ := r.val i d e
    exact ⟨v, e1, q.mono x.le⟩
  · obtain ⟨p, e1, q, n, z⟩ := r.own i b d e
    refine ⟨p, e1, q.to ?_ x.le, x.new p n q.ne, z⟩
    cases h : H p with
    | none => exact absurd h q.ne
    | some o => exact x.same _ _ h
end

/-! ### how a result ends -/
abbrev XW := St → Hp → Hp → En → Ex → Prop
/-- the result's ways, at slots σ: from F on -/
def Fin (K : PySem.W.Frag) (g : Gh) (W : XW) (σ : St) (F : Hp) {α : Type} (r : Rs α) (P : Hp → Hp → En → α → Prop) : Prop := match r with
  | .ok en a => ∀ F' H', Same F F' → Rep K g F' en σ H' → P F' H' en a
  | .ex en x => ∀ F' H', Same F F' → Rep K g F' en σ H' → W σ F' H' en x
  | .no => False
section
variable {K : PySem.W.Frag} {g : Gh} {W : XW} {σ : St} {F F' : Hp} {α β : Type} {P P' : Hp → Hp → En → α → Prop}
theorem Fin.weak {r : Rs α} (s : Same F F') (h : Fin K g W σ F r P) : Fin K g W σ F' r P := by
  cases r with
  | ok en a => exact fun F2 H2 s2 => h F2 H2 (s.trans s2)
  | ex en a => exact fun F2 H2 s2 => h F2 H2 (s.trans s2)
  | no => exact h
theorem Fin.mono {r : Rs α} (h : Fin K g W σ F r P) (q : ∀ F' H' en a, Same F F' → Rep K g F' en σ H' → P F' H' en a → P' F' H' en a) : Fin K g W σ F r P' := by
  cases r with
  | ok en a => exact fun F2 H2 s2 r2 => q F2 H2 en a s2 r2 (h F2 H2 s2 r2)
  | ex en a => exact h
  | no => exact h
/-- in parts -/
theorem Fin.seq {r : Rs α} {k : En → α → Rs β} {P : Hp → Hp → En → β → Prop} (h : Fin K g W σ F (r.bind k) P) : Fin K g W σ F r fun F' _ en a => Fin K g W σ F' (k en a) P := by
  cases r with
  | ok en a => exact fun F2 H2 s2 r2 => Fin.weak s2 h
  | ex en a => exact h
  | no => exact h
end

/-- a value that an expression has -/
def RvOk (K : PySem.W.Frag) (F : Hp) (σ : St) (v : V) : Rv → Prop
  | .d x => Dv K F v x
  | .s i => σ[i]? = some (some v)
theorem RvOk.mono {K : PySem.W.Frag} {F F' : Hp} {σ : St} {v : V} {r : Rv} (s : Same F F') (h : RvOk K F σ v r) : RvOk K F' σ v r := by
  cases r with
  | d x => exact Dv.mono s h
  | s i => exact h
def RvAll (K : PySem.W.Frag) (F : Hp) (σ : St) : List V → List Rv → Prop
  | [], [] => True
  | v :: vs, r :: rs => RvOk K F σ v r ∧ RvAll K F σ vs rs
  | _, _ => False
theorem RvAll.mono {K : PySem.W.Frag} {F F' : Hp} {σ : St} (s : Same F F') : ∀ {vs : List V} {rs : List Rv}, RvAll K F σ vs rs → RvAll K F' σ vs rs
  | [], [], _ => trivial
  | v :: vs, r :: rs, h => ⟨RvOk.mono s h.1, RvAll.mono s h.2⟩

/-! ### the judgements -/
def liftE (K : PySem.W.Frag) (g : Gh) (W : XW) (f : Ev) : TE := fun σ H Q => ∃ F en, Rep K g F en σ H ∧ Fin K g W σ F (f en) fun F' H' _ r => ∀ v, RvOk K F' σ v r → Q v H'
def liftT (K : PySem.W.Frag) (g : Gh) (W : XW) (f : Tv) : TT := fun σ H Q => ∃ F en, Rep K g F en σ H ∧ Fin K g W σ F (f en) fun _ H' _ b => Q b H'
def liftA (K : PySem.W.Frag) (g : Gh) (W : XW) (f : Av) : TA := fun σ H Q => ∃ F en, Rep K g F en σ H ∧ Fin K g W σ F (f en) fun F' H' _ rs => ∀ vs, RvAll K F' σ vs rs → Q vs H'
/-- e means f -/
def DE (X : Cx) (g : Gh) (W : XW) (e : Expr) (f : Ev) : Prop := PE X e (liftE X.K g W f)
def DT (X : Cx) (g : Gh) (W : XW) (e : Expr) (f : Tv) : Prop := PT X e (liftT X.K g W f)
def DA (X : Cx) (g : Gh) (W : XW) (es : List Expr) (f : Av) : Prop := PA X es (liftA X.K g W f)
theorem PE.imp {X : Cx} {e : Expr} {t t' : TE} (h : PE X e t) (i : ∀ σ H Q, t' σ H Q → t σ H Q) : PE X e t' := ⟨fun pins s σ H Q I q => h.run pins s σ H Q I (i σ H Q q)⟩
theorem PT.imp {X : Cx} {e : Expr} {t t' : TT} (h : PT X e t) (i : ∀ σ H Q, t' σ H Q → t σ H Q) : PT X e t' := ⟨fun pins s σ H Q I q => h.run pins s σ H Q I (i σ H Q q)⟩
theorem PA.imp {X : Cx} {es : List Expr} {t t' : TA} (h : PA X es t) (i : ∀ σ H Q, t' σ H Q → t σ H Q) : PA X es t' := ⟨fun pos pins s σ H Q I q => h.run pos pins s σ H Q I (i σ H Q q)⟩
theorem PS.imp {X : Cx} {st : Stmt} {t t' : TS} (h : PS X st t) (i : ∀ D σ H, t' D σ H → t D σ H) : PS X st t' := ⟨fun pins s σ H D I q => h.run pins s σ H D I (i D σ H q)⟩
theorem PSs.imp {X : Cx} {st : List Stmt} {t t' : TS} (h : PSs X st t) (i : ∀ D σ H, t' D σ H → t D σ H) : PSs X st t' := ⟨fun pins s σ H D I q => h.run pins s σ H D I (i D σ H q)⟩
end DL
/-! Dl2: expressions by their parts. -/
namespace DL
open PySem PySem.Spec L2
open PyProof.Rows hiding St

/-! ### views -/
inductive Vw (K : PySem.W.Frag) (F H : Hp) : V → D → Prop
  | fz {v : V} {d : D} : Dv K F v d → Vw K F H v d
  | own {p : Addr} {d : D} : OwnAt K F H p d → F p = none → Vw K F H (.ref p) d
inductive VwAll (K : PySem.W.Frag) (F H : Hp) : List V → List D → Prop
  | nil : VwAll K F H [] []
  | cons {v : V} {vs : List V} {d : D} {ds : List D} : Vw K F H v d → VwAll K F H vs ds → VwAll K F H (v :: vs) (d :: ds)
section
variable {K : PySem.W.Frag} {g : Gh} {W : XW} {σ : St} {F F' H H' : Hp} {en : En}
theorem Rep.view (r : Rep K g F en σ H) {v : V} {x : Rv} {d : D} (h : RvOk K F σ v x) (e : res en x = some d) : Vw K F H v d := by
  cases x with
  | d y =>
    have e' : y = d := Option.some.inj e
    subst e'
    exact .fz h
  | s i =>
    have e' : slD en i = some d := e
    unfold slD at e'
    split at e'
    · rename_i _ d' q
      have := Option.some.inj e'
      subst this
      obtain ⟨p, e1, e2, e3, _⟩ := r.own i _ _ q
      have h' : σ[i]? = some (some v) := h
      rw [h'] at e1
      have := Option.some.inj (Option.some.inj e1)
      subst this
      exact .own e2 e3
    · cases e'
end

def resAll (en : En) : List Rv → Option (List D)
  | [] => some []
  | r :: rs => match res en r, resAll en rs with
    | some d, some ds => some (d :: ds)
    | _, _ => none
theorem Rep.viewAll {K : PySem.W.Frag} {g : Gh} {σ : St} {F H : Hp} {en : En} (r : Rep K g F en σ H) : ∀ {vs : List V} {xs : List Rv} {ds : List D}, RvAll K F σ vs xs → resAll en xs = some ds → VwAll K F H vs ds
  | [], [], ds, _, e => by
    have : [] = ds := Option.some.inj e
    subst this
    exact .nil
  | v :: vs, x :: xs, ds, h, e => by
    unfold resAll at e
    split at e
    · rename_i d1 ds1 e1 e2
      have := Option.some.inj e
      subst this
      exact .cons (r.view h.1 e1) (Rep.viewAll r h.2 e2)
    · cases e

/-! ### meanings -/
def dVar (i : Nat) : Ev := fun en => match en[i]? with
  | some (.val d) => .ok en (.d d)
  | some (.own _ _) => .ok en (.s i)
  | some (.ali j) => .ok en (.s j)
  | _ => .no
def dC (d : D) : Ev := fun en => .ok en (.d d)
def op1 (sem : D → Option D) (en : En) (x : Rv) : Rs Rv := match res en x with
  | some d => (match sem d with
    | some r => .ok en (.d r)
    | none => .no)
  | none => .no
def op2 (sem : D → D → Option D) (en : En) (x y : Rv) : Rs Rv := match res en x with
  | some d => (match res en y with
    | some e => (match sem d e with
      | some r => .ok en (.d r)
      | none => .no)
    | none => .no)
  | none => .no
def opB (sem : D → Option Bool) (en : En) (x : Rv) : Rs Bool := match res en x with
  | some d => (match sem d with
    | some r => .ok en r
    | none => .no)
  | none => .no
def opN (sem : List D → Option D) (en : En) (xs : List Rv) : Rs Rv := match resAll en xs with
  | some ds => (match sem ds with
    | some r => .ok en (.d r)
    | none => .no)
  | none => .no
def dOp (sem : D → D → Option D) (a b : Ev) : Ev := fun en => (a en).bind fun en1 x => (b en1).bind fun en2 y => op2 sem en2 x y
def dUn (sem : D → Option D) (a : Ev) : Ev := fun en => (a en).bind fun en1 x => op1 sem en1 x
def aNil : Av := fun en => .ok en []
def aCons (a : Ev) (b : Av) : Av := fun en => (a en).bind fun en1 x => (b en1).bind fun en2 xs => .ok en2 (x :: xs)
/-- a built-in by values -/
def dCallB (sem : List D → Option D) (a : Av) : Ev := fun en => (a en).bind fun en1 xs => opN sem en1 xs
def toB : D → Option Bool
  | .bool b => some b
  | _ => none
/-- a value that is a bool, as a test -/
def tOf (a : Ev) : Tv := fun en => (a en).bind fun en1 x => opB toB en1 x
def dAnd (a b : Ev) : Ev := fun en => (a en).bind fun en1 x => (opB toB en1 x).bind fun _ k => if k = true then b en1 else .ok en1 (.d (.bool false))
def dOr (a b : Ev) : Ev := fun en => (a en).bind fun en1 x => (opB toB en1 x).bind fun _ k => if k = true then .ok en1 (.d (.bool true)) else b en1
def dNot (a : Ev) : Ev := fun en => (a en).bind fun en1 x => (opB toB en1 x).bind fun _ k => .ok en1 (.d (.bool (!k)))
def dIf (c : Tv) (a b : Ev) : Ev := fun en => (c en).bind fun en1 k => if k = true then a en1 else b en1
def tAndD (a b : Tv) : Tv := fun en => (a en).bind fun en1 k => if k = true then b en1 else .ok en1 false
def tOrD (a b : Tv) : Tv := fun en => (a en).bind fun en1 k => if k = true then .ok en1 true else b en1
def tNotD (a : Tv) : Tv := fun en => (a en).bind fun en1 k => .ok en1 (!k)
/-- a op b op' c, by values -/
def dChain (sem sem' : D → D → Option D) (a b c : Ev) : Ev := fun en => (a en).bind fun en1 x => (b en1).bind fun en2 y => (op2 sem en2 x y).bind fun _ z => (opB toB en2 z).bind fun _ k =>
  if k = true then (c en2).bind fun en3 w => op2 sem' en3 y w else .ok en2 (.d (.bool false))
def freeD (en : En) : List Rv → Option (List D)
  | [] => some []
  | .d x :: rs => match freeD en rs with
    | some ds => some (x :: ds)
    | none => none
  | .s _ :: _ => none
def dTup (a : Av) : Ev := fun en => (a en).bind fun en1 xs => match freeD en1 xs with
  | some ds => if ds.length ≤ sizeLine then .ok en1 (.d (.tuple ds)) else .no
  | none => .no
def dLst (a : Av) : Ev := fun en => (a en).bind fun en1 xs => match freeD en1 xs with
  | some ds => if ds.length ≤ sizeLine then .ok en1 (.d (.list ds)) else .no
  | none => .no

/-! ### what an operator's rule must answer -/
def Give (K : PySem.W.Frag) (F H : Hp) (d : D) (Q : VK) : Prop := ∀ v F' H', Ext F H F' H' → Dv K F' v d → Q v H'
def Sem1 (K : PySem.W.Frag) (r : V → Hp → VK → Prop) (sem : D → Option D) : Prop := ∀ F H v d e Q, Same F H → Vw K F H v d → sem d = some e → Give K F H e Q → r v H Q
def Sem2 (K : PySem.W.Frag) (r : R2) (sem : D → D → Option D) : Prop := ∀ F H v u d e c Q, Same F H → Vw K F H v d → Vw K F H u e → sem d e = some c → Give K F H c Q → r v u H Q
def SemN (K : PySem.W.Frag) (r : List V → Hp → VK → Prop) (sem : List D → Option D) : Prop := ∀ F H vs ds c Q, Same F H → VwAll K F H vs ds → sem ds = some c → Give K F H c Q → r vs H Q

section
variable {X : Cx} {g : Gh} {W : XW} {pos : Pos} {a b c : Expr} {fa fb fc : Ev}
theorem Give.of {K : PySem.W.Frag} {F H : Hp} {d : D} {Q : VK} (s : Same F H) (h : Give K F H d Q) {v : V} (q : Dv K F v d) : Q v H := h v F H (Ext.refl s) q

/-- a value of an operator's rule, given on -/
theorem fin1 {K : PySem.W.Frag} {σ : St} {F1 H1 : Hp} {en1 : En} {rs : Rs Rv} {d : D} {Q : VK} (rp : Rep K g F1 en1 σ H1) (e : rs = .ok en1 (.d d))
    (h : Fin K g W σ F1 rs fun F' H' _ r => ∀ v, RvOk K F' σ v r → Q v H') : Give K F1 H1 d Q := by
  subst e
  intro v F' H' x q
  exact h F' H' x.le (rp.ext x) v q

theorem of_op2 {sem : D → D → Option D} {en : En} {x y : Rv} {P : Prop} (no : op2 sem en x y = .no → P) (ok : ∀ d e c, res en x = some d → res en y = some e → sem d e = some c → op2 sem en x y = .ok en (.d c) → P) : P := by
  unfold op2 at no ok
  cases e1 : res en x with
  | none => rw [e1] at no; exact no rfl
  | some d =>
    cases e2 : res en y with
    | none => rw [e1, e2] at no; exact no rfl
    | some e =>
      cases e3 : sem d e with
      | none => rw [e1, e2] at no; dsimp only at no; rw [e3] at no; exact no rfl
      | some c =>
        refine ok d e c e1 e2 e3 ?_
        rw [e1, e2]; dsimp only; rw [e3]
theorem of_op1 {sem : D → Option D} {en : En} {x : Rv} {P : Prop} (no : op1 sem en x = .no → P) (ok : ∀ d c, res en x = some d → sem d = some c → op1 sem en x = .ok en (.d c) → P) : P := by
  unfold op1 at no ok
  cases e1 : res en x with
  | none => rw [e1] at no; exact no rfl
  | some d =>
    cases e3 : sem d with
    | none => rw [e1] at no; dsimp only at no; rw [e3] at no; exact no rfl
    | some c =>
      refine ok d c e1 e3 ?_
      rw [e1]; dsimp only; rw [e3]
theorem of_opB {sem : D → Option Bool} {en : En} {x : Rv} {P : Prop} (no : opB sem en x = .no → P) (ok : ∀ d c, res en x = some d → sem d = some c → opB sem en x = .ok en c → P) : P := by
  unfold opB at no ok
  cases e1 : res en x with
  | none => rw [e1] at no; exact no rfl
  | some d =>
    cases e3 : sem d with
    | none => rw [e1] at no; dsimp only at no; rw [e3] at no; exact no rfl
    | some c =>
      refine ok d c e1 e3 ?_
      rw [e1]; dsimp only; rw [e3]
theorem of_opN {sem : List D → Option D} {en : En} {x : List Rv} {P : Prop} (no : opN sem en x = .no → P) (ok : ∀ d c, resAll en x = some d → sem d = some c → opN sem en x = .ok en (.d c) → P) : P := by
  unfold opN at no ok
  cases e1 : resAll en x with
  | none => rw [e1] at no; exact no rfl
  | some d =>
    cases e3 : sem d with
    | none => rw [e1] at no; dsimp only at no; rw [e3] at no; exact no rfl
    | some c =>
      refine ok d c e1 e3 ?_
      rw [e1]; dsimp only; rw [e3]
/-- a bool by view -/
theorem view_bl {K : PySem.W.Frag} {F H : Hp} {v : V} {d : D} {k : Bool} (w : Vw K F H v d) (e : toB d = some k) : v = .bl k := by
  cases d <;> first | (cases e; done) | skip
  have : _ = k := Option.some.inj e
  subst this
  cases w with
  | fz h => cases h; rfl
  | own h _ => cases h

theorem de_var {i : Nat} {x : Str} (hN : X.N[i]? = some x) (hv : Vis X.env.scope x) (hd : (x == ("__debug__" : Str)) = false := by decide) (hcd : (x == ("__classdict__" : Str)) = false := by decide) : DE X g W (.Name x pos) (dVar i) := by
  refine PE.imp (pe_var hN hv hd hcd) fun σ H Q h => ?_
  obtain ⟨F, en, rp, f⟩ := h
  unfold dVar at f
  split at f
  · rename_i d q
    obtain ⟨v, e, z⟩ := rp.val i d q
    exact ⟨v, e, f F H (Same.refl _) rp v z⟩
  · rename_i b d q
    obtain ⟨p, e, z⟩ := rp.own i b d q
    exact ⟨.ref p, e, f F H (Same.refl _) rp _ e⟩
  · rename_i j q
    obtain ⟨e, b, d, z⟩ := rp.ali i j q
    obtain ⟨p, e2, _⟩ := rp.own j b d z
    exact ⟨.ref p, e.trans e2, f F H (Same.refl _) rp _ e2⟩
  · exact f.elim
/-- a constant -/
theorem de_con {v : V} {d : D} (h : PE X a (tC v)) (q : ∀ F, Dv X.K F v d) : DE X g W a (dC d) := by
  refine PE.imp h fun σ H Q h => ?_
  obtain ⟨F, en, rp, f⟩ := h
  exact f F H (Same.refl _) rp v (q F)
theorem de_int {i j} : DE X g W (.Constant (.int i) j pos) (dC (.int i)) := de_con pe_int fun _ => .int i
theorem de_bl {b j} : DE X g W (.Constant (.bool b) j pos) (dC (.bool b)) := de_con pe_bl fun _ => .bl b
theorem de_non {j} : DE X g W (.Constant .none j pos) (dC .none) := de_con pe_non fun _ => .non
theorem de_str {x j} : DE X g W (.Constant (.str x) j pos) (dC (.str x)) := de_con pe_str fun _ => .str x

theorem de_op {op : Operator} {r : R2} {sem : D → D → Option D} (ho : OpR X (binaryOp op) r) (hs : Sem2 X.K r sem) (ha : DE X g W a fa) (hb : DE X g W b fb) : DE X g W (.BinOp a op b pos) (dOp sem fa fb) := by
  refine PE.imp (pe_op ho ha hb) fun σ H Q h => ?_
  obtain ⟨F, en, rp, f⟩ := h
  refine ⟨F, en, rp, (Fin.seq f).mono fun F1 H1 en1 x s1 r1 f1 v hv => ⟨F1, en1, r1, (Fin.seq f1).mono fun F2 H2 en2 y s2 r2 f2 u hu => ?_⟩⟩
  refine of_op2 (sem := sem) (en := en2) (x := x) (y := y) (fun e => by rw [e] at f2; exact f2.elim) fun d e c e1 e2 e3 e4 => ?_
  exact hs F2 H2 v u d e c Q r2.fz (r2.view (RvOk.mono s2 hv) e1) (r2.view hu e2) e3 (fin1 r2 e4 f2)
theorem de_un {op : UnaryOp} {r : V → Hp → VK → Prop} {sem : D → Option D} (ho : UnR X (unaryOp op) r) (hs : Sem1 X.K r sem) (ha : DE X g W a fa) : DE X g W (.UnaryOp op a pos) (dUn sem fa) := by
  refine PE.imp (pe_un ho ha) fun σ H Q h => ?_
  obtain ⟨F, en, rp, f⟩ := h
  refine ⟨F, en, rp, (Fin.seq f).mono fun F1 H1 en1 x s1 r1 f1 v hv => ?_⟩
  refine of_op1 (sem := sem) (en := en1) (x := x) (fun e => by rw [e] at f1; exact f1.elim) fun d c e1 e3 e4 => ?_
  exact hs F1 H1 v d c Q r1.fz (r1.view hv e1) e3 (fin1 r1 e4 f1)
theorem de_cmp {op : CmpOp} {r : R2} {sem : D → D → Option D} (ho : OpR X (compareOp op) r) (hs : Sem2 X.K r sem) (ha : DE X g W a fa) (hb : DE X g W b fb)
    (hm : behindInMarks op b = false := by first | exact nobehind _ (by decide) (by decide) | rfl) : DE X g W (.Compare a [op] [b] pos) (dOp sem fa fb) := by
  refine PE.imp (pe_cmpR ho ha hb hm) fun σ H Q h => ?_
  obtain ⟨F, en, rp, f⟩ := h
  refine ⟨F, en, rp, (Fin.seq f).mono fun F1 H1 en1 x s1 r1 f1 v hv => ⟨F1, en1, r1, (Fin.seq f1).mono fun F2 H2 en2 y s2 r2 f2 u hu => ?_⟩⟩
  refine of_op2 (sem := sem) (en := en2) (x := x) (y := y) (fun e => by rw [e] at f2; exact f2.elim) fun d e c e1 e2 e3 e4 => ?_
  exact hs F2 H2 v u d e c Q r2.fz (r2.view (RvOk.mono s2 hv) e1) (r2.view hu e2) e3 (fin1 r2 e4 f2)
theorem dt_cmp {op : CmpOp} {r : R2} {sem : D → D → Option D} (ho : OpR X (compareOp op) r) (hs : Sem2 X.K r sem) (ha : DE X g W a fa) (hb : DE X g W b fb)
    (hm : behindInMarks op b = false := by first | exact nobehind _ (by decide) (by decide) | rfl) : DT X g W (.Compare a [op] [b] pos) (tOf (dOp sem fa fb)) := by
  refine PT.imp (pt_cmpR ho ha hb hm) fun σ H Q h => ?_
  obtain ⟨F, en, rp, f⟩ := h
  have f := Fin.seq f
  refine ⟨F, en, rp, (Fin.seq f).mono fun F1 H1 en1 x s1 r1 f1 v hv => ⟨F1, en1, r1, (Fin.seq f1).mono fun F2 H2 en2 y s2 r2 f2 u hu => ?_⟩⟩
  refine of_op2 (sem := sem) (en := en2) (x := x) (y := y) (fun e => by rw [e] at f2; exact f2.elim) fun d e c e1 e2 e3 e4 => ?_
  rw [e4] at f2
  refine hs F2 H2 v u d e c _ r2.fz (r2.view (RvOk.mono s2 hv) e1) (r2.view hu e2) e3 fun w F3 H3 x3 q3 => ?_
  have f3 : Fin X.K g W σ F3 (opB toB en2 (.d c)) (fun _ H' _ b => Q b H') := f2 F3 H3 x3.le (r2.ext x3)
  refine of_opB (sem := toB) (en := en2) (x := .d c) (fun e => by rw [e] at f3; exact f3.elim) fun d' k' e5 e6 e7 => ?_
  have e5' : c = d' := Option.some.inj e5
  subst e5'
  rw [e7] at f3
  exact ⟨k', view_bl (.fz (H := H3) q3) e6, f3 F3 H3 (Same.refl _) (r2.ext x3)⟩
theorem de_chain {op op' : CmpOp} {r r' : R2} {sem sem' : D → D → Option D} (ho : OpR X (compareOp op) r) (hs : Sem2 X.K r sem) (ho' : OpR X (compareOp op') r') (hs' : Sem2 X.K r' sem') (ha : DE X g W a fa) (hb : DE X g W b fb) (hc : DE X g W c fc)
    (hm : lastMarks [op, op'] [b, c] = false := by with_unfolding_all rfl) : DE X g W (.Compare a [op, op'] [b, c] pos) (dChain sem sem' fa fb fc) := by
  refine PE.imp (pe_chain ho ho' ha hb hc hm) fun σ H Q h => ?_
  obtain ⟨F, en, rp, f⟩ := h
  refine ⟨F, en, rp, (Fin.seq f).mono fun F1 H1 en1 x s1 r1 f1 v hv => ⟨F1, en1, r1, (Fin.seq f1).mono fun F2 H2 en2 y s2 r2 f2 u hu => ?_⟩⟩
  have f2 := Fin.seq f2
  refine of_op2 (sem := sem) (en := en2) (x := x) (y := y) (fun e => by rw [e] at f2; exact f2.elim) fun d e c' e1 e2 e3 e4 => ?_
  rw [e4] at f2
  refine hs F2 H2 v u d e c' _ r2.fz (r2.view (RvOk.mono s2 hv) e1) (r2.view hu e2) e3 fun w F3 H3 x3 q3 => ?_
  have r3 := r2.ext x3
  have f3 := Fin.seq (f2 F3 H3 x3.le r3)
  refine of_opB (sem := toB) (en := en2) (x := .d c') (fun e => by rw [e] at f3; exact f3.elim) fun d' k' e5 e6 e7 => ?_
  have e5' : c' = d' := Option.some.inj e5
  subst e5'
  rw [e7] at f3
  have f4 := f3 F3 H3 (Same.refl _) r3
  refine ⟨k', view_bl (.fz (H := H3) q3) e6, ?_⟩
  cases k' with
  | false => exact f4 F3 H3 (Same.refl _) r3 _ (.bl false)
  | true =>
    rw [if_pos rfl] at f4 ⊢
    refine ⟨F3, en2, r3, (Fin.seq f4).mono fun F5 H5 en5 y5 s5 r5 f5 u5 hu5 => ?_⟩
    refine of_op2 (sem := sem') (en := en5) (x := y) (y := y5) (fun e => by rw [e] at f5; exact f5.elim) fun d e c e1 e2 e3 e4 => ?_
    exact hs' F5 H5 u u5 d e c Q r5.fz (r5.view (RvOk.mono (x3.le.trans s5) hu) e1) (r5.view hu5 e2) e3 (fin1 r5 e4 f5)

/-! ### tests -/
theorem dt_val (ha : DE X g W a fa) (he : ∀ whole, isTrue a X.env whole = (do let v ← whole; standAt a.pos; holding [v] (truthy v)) := by intro _; rfl) : DT X g W a (tOf fa) := by
  refine PT.imp (pt_val ha he) fun σ H Q h => ?_
  obtain ⟨F, en, rp, f⟩ := h
  refine ⟨F, en, rp, (Fin.seq f).mono fun F1 H1 en1 x s1 r1 f1 v hv => ?_⟩
  refine of_opB (sem := toB) (en := en1) (x := x) (fun e => by rw [e] at f1; exact f1.elim) fun d k e1 e2 e3 => ?_
  rw [e3] at f1
  exact ⟨k, view_bl (r1.view hv e1) e2, f1 F1 H1 (Same.refl _) r1⟩
theorem de_and {rest : List Expr} (ha : DE X g W a fa) (hb : DE X g W (.BoolOp .And (b :: rest) pos) fb) : DE X g W (.BoolOp .And (a :: b :: rest) pos) (dAnd fa fb) := by
  refine PE.imp (pe_and ha hb) fun σ H Q h => ?_
  obtain ⟨F, en, rp, f⟩ := h
  refine ⟨F, en, rp, (Fin.seq f).mono fun F1 H1 en1 x s1 r1 f1 v hv => ?_⟩
  have f1 := Fin.seq f1
  refine of_opB (sem := toB) (en := en1) (x := x) (fun e => by rw [e] at f1; exact f1.elim) fun d k e1 e2 e3 => ?_
  rw [e3] at f1
  have f2 := f1 F1 H1 (Same.refl _) r1
  refine ⟨k, view_bl (r1.view hv e1) e2, ?_⟩
  cases k with
  | false => exact f2 F1 H1 (Same.refl _) r1 _ (.bl false)
  | true => exact ⟨F1, en1, r1, f2⟩
theorem de_or {rest : List Expr} (ha : DE X g W a fa) (hb : DE X g W (.BoolOp .Or (b :: rest) pos) fb) : DE X g W (.BoolOp .Or (a :: b :: rest) pos) (dOr fa fb) := by
  refine PE.imp (pe_or ha hb) fun σ H Q h => ?_
  obtain ⟨F, en, rp, f⟩ := h
  refine ⟨F, en, rp, (Fin.seq f).mono fun F1 H1 en1 x s1 r1 f1 v hv => ?_⟩
  have f1 := Fin.seq f1
  refine of_opB (sem := toB) (en := en1) (x := x) (fun e => by rw [e] at f1; exact f1.elim) fun d k e1 e2 e3 => ?_
  rw [e3] at f1
  have f2 := f1 F1 H1 (Same.refl _) r1
  refine ⟨k, view_bl (r1.view hv e1) e2, ?_⟩
  cases k with
  | true => exact f2 F1 H1 (Same.refl _) r1 _ (.bl true)
  | false => exact ⟨F1, en1, r1, f2⟩
theorem de_one {op} (ha : DE X g W a fa) : DE X g W (.BoolOp op [a] pos) fa := pe_one ha
theorem de_not (ha : DE X g W a fa) : DE X g W (.UnaryOp .Not a pos) (dNot fa) := by
  refine PE.imp (pe_not ha) fun σ H Q h => ?_
  obtain ⟨F, en, rp, f⟩ := h
  refine ⟨F, en, rp, (Fin.seq f).mono fun F1 H1 en1 x s1 r1 f1 v hv => ?_⟩
  have f1 := Fin.seq f1
  refine of_opB (sem := toB) (en := en1) (x := x) (fun e => by rw [e] at f1; exact f1.elim) fun d k e1 e2 e3 => ?_
  rw [e3] at f1
  have f2 := f1 F1 H1 (Same.refl _) r1
  exact ⟨k, view_bl (r1.view hv e1) e2, f2 F1 H1 (Same.refl _) r1 _ (.bl _)⟩
variable {ta tb : Tv}
theorem de_if (hc : DT X g W c ta) (ha : DE X g W a fa) (hb : DE X g W b fb) : DE X g W (.IfExp c a b pos) (dIf ta fa fb) := by
  refine PE.imp (pe_ifExp hc ha hb) fun σ H Q h => ?_
  obtain ⟨F, en, rp, f⟩ := h
  refine ⟨F, en, rp, (Fin.seq f).mono fun F1 H1 en1 k s1 r1 f1 => ?_⟩
  cases k with
  | true => exact ⟨F1, en1, r1, f1⟩
  | false => exact ⟨F1, en1, r1, f1⟩
def DW (X : Cx) (g : Gh) (W : XW) (e : Expr) (f : Tv) : Prop := PW X e (liftT X.K g W f)
theorem PW.imp {X : Cx} {e : Expr} {t t' : TT} (h : PW X e t) (i : ∀ σ H Q, t' σ H Q → t σ H Q) : PW X e t' := ⟨fun w pins s σ H Q I q => h.run w pins s σ H Q I (i σ H Q q)⟩
theorem dw_and {rest : List Expr} (ha : DT X g W a ta) (hb : DW X g W (.BoolOp .And (b :: rest) pos) tb) : DW X g W (.BoolOp .And (a :: b :: rest) pos) (tAndD ta tb) := by
  refine PW.imp (pw_and ha hb) fun σ H Q h => ?_
  obtain ⟨F, en, rp, f⟩ := h
  refine ⟨F, en, rp, (Fin.seq f).mono fun F1 H1 en1 k s1 r1 f1 => ?_⟩
  cases k with
  | true => exact ⟨F1, en1, r1, f1⟩
  | false => exact f1 F1 H1 (Same.refl _) r1
theorem dw_or {rest : List Expr} (ha : DT X g W a ta) (hb : DW X g W (.BoolOp .Or (b :: rest) pos) tb) : DW X g W (.BoolOp .Or (a :: b :: rest) pos) (tOrD ta tb) := by
  refine PW.imp (pw_or ha hb) fun σ H Q h => ?_
  obtain ⟨F, en, rp, f⟩ := h
  refine ⟨F, en, rp, (Fin.seq f).mono fun F1 H1 en1 k s1 r1 f1 => ?_⟩
  cases k with
  | false => exact ⟨F1, en1, r1, f1⟩
  | true => exact f1 F1 H1 (Same.refl _) r1
theorem dw_and1 (ha : DT X g W a ta) : DW X g W (.BoolOp .And [a] pos) ta := pw_and1 ha
theorem dw_or1 (ha : DT X g W a ta) : DW X g W (.BoolOp .Or [a] pos) ta := pw_or1 ha
theorem dt_w (h : DW X g W a ta) : DT X g W a ta := PW.pt h
theorem dt_not (ha : DT X g W a ta) : DT X g W (.UnaryOp .Not a pos) (tNotD ta) := by
  refine PT.imp (pt_not ha) fun σ H Q h => ?_
  obtain ⟨F, en, rp, f⟩ := h
  exact ⟨F, en, rp, (Fin.seq f).mono fun F1 H1 en1 k s1 r1 f1 => f1 F1 H1 (Same.refl _) r1⟩

/-! ### argument lists, displays, built-ins -/
variable {es : List Expr} {av : Av}
theorem da_nil : DA X g W [] aNil := PA.imp pa_nil fun σ H Q h => by
  obtain ⟨F, en, rp, f⟩ := h
  exact f F H (Same.refl _) rp [] trivial
theorem da_cons (ha : DE X g W a fa) (hr : DA X g W es av) (hs : starEach (a :: es) X.env = (false, eval a X.env) :: starEach es X.env := by rfl) : DA X g W (a :: es) (aCons fa av) := by
  refine PA.imp (pa_cons ha hr hs) fun σ H Q h => ?_
  obtain ⟨F, en, rp, f⟩ := h
  refine ⟨F, en, rp, (Fin.seq f).mono fun F1 H1 en1 x s1 r1 f1 v hv => ⟨F1, en1, r1, (Fin.seq f1).mono fun F2 H2 en2 xs s2 r2 f2 vs hvs => ?_⟩⟩
  exact f2 F2 H2 (Same.refl _) r2 (v :: vs) ⟨RvOk.mono s2 hv, hvs⟩
theorem free_ok {K : PySem.W.Frag} {F : Hp} {σ : St} {en : En} : ∀ {vs : List V} {xs : List Rv} {ds : List D}, RvAll K F σ vs xs → freeD en xs = some ds → DvAll K F vs ds
  | [], [], ds, _, e => by
    have : [] = ds := Option.some.inj e
    subst this
    exact .nil
  | v :: vs, .d x :: xs, ds, h, e => by
    unfold freeD at e
    split at e
    · rename_i ds1 e1
      have := Option.some.inj e
      subst this
      exact .cons h.1 (free_ok h.2 e1)
    · cases e
  | v :: vs, .s x :: xs, ds, h, e => by cases e
theorem de_tup {x1} (h : DA X g W es av) : DE X g W (.Tuple es x1 pos) (dTup av) := by
  refine PE.imp (pe_tup h) fun σ H Q h => ?_
  obtain ⟨F, en, rp, f⟩ := h
  refine ⟨F, en, rp, (Fin.seq f).mono fun F1 H1 en1 xs s1 r1 f1 vs hvs => ?_⟩
  split at f1
  · rename_i ds e1
    split at f1
    · rename_i hl
      have q := free_ok hvs e1
      refine ⟨by rw [q.length]; exact hl, fun p hp => ?_⟩
      have x := Ext.put r1.fz hp (.tup vs)
      refine f1 _ _ x.le (r1.ext x) _ (.tup (xs := vs) ?_ (q.mono x.le))
      exact .inl (.inl upd_same)
    · exact f1.elim
  · exact f1.elim
theorem de_lst (h : DA X g W es av) : DE X g W (.List es pos) (dLst av) := by
  refine PE.imp (pe_lst h) fun σ H Q h => ?_
  obtain ⟨F, en, rp, f⟩ := h
  refine ⟨F, en, rp, (Fin.seq f).mono fun F1 H1 en1 xs s1 r1 f1 vs hvs => ?_⟩
  split at f1
  · rename_i ds e1
    split at f1
    · rename_i hl
      have q := free_ok hvs e1
      refine ⟨by rw [q.length]; exact hl, fun p hp => ?_⟩
      have x := Ext.put r1.fz hp (.lst vs)
      refine f1 _ _ x.le (r1.ext x) _ (.lst (xs := vs) ?_ (q.mono x.le))
      exact upd_same
    · exact f1.elim
  · exact f1.elim
theorem callN {K : PySem.W.Frag} {r : List V → Hp → VK → Prop} {sem : List D → Option D} (hs : SemN K r sem) {σ : St} {H : Hp} {Q : VK} (h : liftE K g W (dCallB sem av) σ H Q) : tCB r (liftA K g W av) σ H Q := by
  obtain ⟨F, en, rp, f⟩ := h
  refine ⟨F, en, rp, (Fin.seq f).mono fun F1 H1 en1 xs s1 r1 f1 vs hvs => ?_⟩
  refine of_opN (sem := sem) (en := en1) (x := xs) (fun e => by rw [e] at f1; exact f1.elim) fun d c e1 e3 e4 => ?_
  exact hs F1 H1 vs d c Q r1.fz (r1.viewAll hvs e1) e3 (fin1 r1 e4 f1)
theorem de_callB {id : String} {x : Str} {p : Pos} {r : List V → Hp → VK → Prop} {sem : List D → Option D} (hc : CallR X (.builtin id) r) (hs : SemN X.K r sem) (hg : Gl X x) (hm : X.mg x = none) (hv : bootBuiltins x = some (.builtin id)) (ha : DA X g W (a :: es) av)
    (hn : x ≠ "__name__" := by decide) (hdb : (x == ("__debug__" : Str)) = false := by decide) (he : starEach (a :: es) X.env = (false, eval a X.env) :: starEach es X.env := by rfl) (hpl : (backTo pos (starEach es X.env)).any (·.1) = false := by rfl) : DE X g W (.Call (.Name x p) (a :: es) [] pos) (dCallB sem av) :=
  PE.imp (pe_callB hc hg hm hv ha hn hdb he hpl) fun _ _ _ h => callN hs h
theorem de_callTy {T : String} {x : Str} {p : Pos} {r : List V → Hp → VK → Prop} {sem : List D → Option D} (hc : CallR X (.type T) r) (hs : SemN X.K r sem) (hg : Gl X x) (hm : X.mg x = none) (hv : bootBuiltins x = some (.type T)) (ha : DA X g W (a :: es) av)
    (hn : x ≠ "__name__" := by decide) (hdb : (x == ("__debug__" : Str)) = false := by decide) (he : starEach (a :: es) X.env = (false, eval a X.env) :: starEach es X.env := by rfl) (hpl : (backTo pos (starEach es X.env)).any (·.1) = false := by rfl) : DE X g W (.Call (.Name x p) (a :: es) [] pos) (dCallB sem av) :=
  PE.imp (pe_callTy hc hg hm hv ha hn hdb he hpl) fun _ _ _ h => callN hs h
end
end DL
/-! Dl3: stores, fresh things, calls, statements. -/
namespace DL
open PySem PySem.Spec L2
open PyProof.Rows hiding St

section
variable {K : PySem.W.Frag} {g : Gh} {W : XW} {σ : St} {F F' F1 F2 H H' H1 H2 : Hp} {en en1 en2 : En}
/-- p is not an owned thing's address -/
def Apart (en : En) (σ : St) (p : Addr) : Prop := ∀ (i : Nat) (b : Bool) (d : D), en[i]? = some (.own b d) → σ[i]? ≠ some (some (.ref p))
def IsOwn (en : En) (σ : St) (p : Addr) : Prop := ∃ (i : Nat) (b : Bool) (d : D), en[i]? = some (.own b d) ∧ σ[i]? = some (some (.ref p))
/-- the same state over another ghost: g' has the heap as it stands, the owned addresses -/
def Sub (g g' : Gh) (F H : Hp) (en : En) (σ : St) : Prop := g'.F0 = F ∧ g'.H0 = H ∧ (∀ p, p ∈ g'.Ps ↔ IsOwn en σ p) ∧ g'.Pl = g.Pl ∧ g'.Rw = g.Rw
theorem sub_ex (g : Gh) (F H : Hp) (en : En) (σ : St) : ∃ g' : Gh, Sub g g' F H en σ := by
  refine ⟨⟨F, H, (List.range en.length).filterMap fun i => match (en[i]? : Option Sl), (σ[i]? : Option (Option V)) with
    | some (Sl.own _ _), some (some (V.ref p)) => some p
    | _, _ => none, g.Pl, g.Rw⟩, rfl, rfl, fun p => ⟨fun h => ?_, fun h => ?_⟩, rfl, rfl⟩
  · obtain ⟨i, _, e⟩ := List.mem_filterMap.mp h
    split at e
    · rename_i b d q e1 e2
      have := Option.some.inj e
      subst this
      exact ⟨i, _, _, e1, e2⟩
    · cases e
  · obtain ⟨i, b, d, e1, e2⟩ := h
    refine List.mem_filterMap.mpr ⟨i, List.mem_range.mpr (List.getElem?_eq_some_iff.mp e1).1, ?_⟩
    rw [e1, e2]
theorem Rep.notFr (r : Rep K g F en σ H) {p : Addr} (h : H p = none) : p ∈ g.Ps ∨ g.H0 p = none := by
  by_cases h1 : p ∈ g.Ps
  · exact .inl h1
  · refine .inr ?_
    cases q : g.H0 p with
    | none => rfl
    | some o => rw [r.fr p o q h1] at h; cases h
theorem Rep.ownPs (r : Rep K g F en σ H) {p : Addr} (h : IsOwn en σ p) : (p ∈ g.Ps ∨ g.H0 p = none) ∧ F p = none ∧ H p ≠ none := by
  obtain ⟨i, b, d, e1, e2⟩ := h
  obtain ⟨q, e3, q1, q2, q3⟩ := r.own i b d e1
  rw [e2] at e3
  have : V.ref p = V.ref q := Option.some.inj (Option.some.inj e3)
  injection this with this
  subst this
  exact ⟨q3, q2, q1.ne⟩
theorem Rep.narrow {g' : Gh} (r : Rep K g F en σ H) (s : Sub g g' F H en σ) : Rep K g' F en σ H := by
  obtain ⟨s1, s2, s3, s4, s5⟩ := s
  refine ⟨r.fz, fun a o e _ => by rw [s2] at e; exact e, fun p hp => (r.ownPs ((s3 p).mp hp)).2.2, fun a e _ _ => by rw [s1] at e; exact e, r.len, r.val, fun i b d e => ?_, r.ali, r.sep, by rw [s4]; exact r.pl, by rw [s5]; exact r.rw⟩
  obtain ⟨p, e1, q, n, _⟩ := r.own i b d e
  exact ⟨p, e1, q, n, .inl ((s3 p).mpr ⟨i, b, d, e, e1⟩)⟩
/-- back -/
theorem Rep.widen {g' : Gh} {σ' : St} (r : Rep K g F en σ H) (s : Sub g g' F H en σ) (r2 : Rep K g' F2 en2 σ' H2) : Rep K g F2 en2 σ' H2 := by
  obtain ⟨s1, s2, s3, s4, s5⟩ := s
  have nown : ∀ a, a ∉ g.Ps → g.H0 a ≠ none → a ∉ g'.Ps := fun a n e q => by
    rcases (r.ownPs ((s3 a).mp q)).1 with z | z
    · exact n z
    · exact e z
  refine ⟨r2.fz, fun a o e n => r2.fr a o (by rw [s2]; exact r.fr a o e n) (nown a n (by rw [e]; exact fun z => by cases z)), fun p hp => ?_, fun a e0 e1 n => ?_, r2.len, r2.val, fun i b d e => ?_, r2.ali, r2.sep, by rw [← s4]; exact r2.pl, by rw [← s5]; exact r2.rw⟩
  · by_cases z : p ∈ g'.Ps
    · exact r2.al p z
    · cases q : H p with
      | none => exact absurd q (r.al p hp)
      | some o => rw [r2.fr p o (by rw [s2]; exact q) z]; exact fun z => by cases z
  · refine r2.nw a (by rw [s1]; exact r.nw a e0 e1 n) ?_ (nown a n e1)
    rw [s2]
    cases q : g.H0 a with
    | none => exact absurd q e1
    | some o => rw [r.fr a o q n]; exact fun z => by cases z
  · obtain ⟨p, e1, q, n, z⟩ := r2.own i b d e
    refine ⟨p, e1, q, n, ?_⟩
    rcases z with z | z
    · exact (r.ownPs ((s3 p).mp z)).1
    · rw [s2] at z
      exact r.notFr z
/-- a thing that is neither owned nor frozen stays as it is, over the narrower ghost -/
theorem Rep.stays {g' : Gh} {σ' : St} {p : Addr} {o : HO} (s : Sub g g' F H en σ) (r2 : Rep K g' F2 en2 σ' H2) (ho : H p = some o) (hF : F p = none) (ha : ¬ IsOwn en σ p) : H2 p = some o ∧ F2 p = none := by
  obtain ⟨s1, s2, s3, s4, s5⟩ := s
  have n : p ∉ g'.Ps := fun q => ha ((s3 p).mp q)
  exact ⟨r2.fr p o (by rw [s2]; exact ho) n, r2.nw p (by rw [s1]; exact hF) (by rw [s2, ho]; exact fun z => by cases z) n⟩
theorem Rep.staysApart {g' : Gh} {σ' : St} {p : Addr} {o : HO} (s : Sub g g' F H en σ) (r2 : Rep K g' F2 en2 σ' H2) (ho : H p = some o) (ha : ¬ IsOwn en σ p) : ¬ IsOwn en2 σ' p := fun q => by
  obtain ⟨s1, s2, s3, s4, s5⟩ := s
  rcases (r2.ownPs q).1 with z | z
  · exact ha ((s3 p).mp z)
  · rw [s2, ho] at z; cases z

/-! ### stores -/
def noAli (en : En) (i : Nat) : Bool := en.all fun s => match s with
  | .ali j => j != i
  | _ => true
/-- may slot i be overwritten? -/
def canPut (en : En) (i : Nat) : Bool := match en[i]? with
  | some (.own b _) => !b && noAli en i
  | some .xs => false
  | some _ => true
  | none => false
def putS (en : En) (i : Nat) (s : Sl) : Option En := if canPut en i = true then some (en.set i s) else none
theorem noAli_at {i j k : Nat} (h : noAli en i = true) (e : en[k]? = some (.ali j)) : j ≠ i := by
  have q := List.all_eq_true.mp h _ (List.mem_of_getElem? e)
  simpa using q
theorem Rep.lt (r : Rep K g F en σ H) {i : Nat} (h : canPut en i = true) : i < en.length ∧ i < σ.length := by
  unfold canPut at h
  cases q : en[i]? with
  | none => rw [q] at h; cases h
  | some s =>
    have := (List.getElem?_eq_some_iff.mp q).1
    exact ⟨this, by rw [← r.len]; exact this⟩
/-- no alias to slot i -/
theorem Rep.noAli (r : Rep K g F en σ H) {i : Nat} (h : canPut en i = true) {k j : Nat} (e : en[k]? = some (.ali j)) : j ≠ i := by
  intro z
  subst z
  obtain ⟨_, b, d, q⟩ := r.ali k j e
  unfold canPut at h
  rw [q] at h
  exact noAli_at (Bool.and_eq_true_iff.mp h).2 e rfl
/-- slot i gets v, as s -/
theorem Rep.put (r : Rep K g F en σ H) {i : Nat} {s : Sl} {v : V} (h : canPut en i = true)
    (hs : match s with
      | .un => True
      | .xs => False
      | .val d => Dv K F v d
      | .own _ d => ∃ p, v = .ref p ∧ OwnAt K F H p d ∧ F p = none ∧ (p ∈ g.Ps ∨ g.H0 p = none) ∧ ∀ j, j ≠ i → ∀ b e, en[j]? = some (.own b e) → σ[j]? ≠ some (some (.ref p))
      | .ali j => j ≠ i ∧ σ[j]? = some (some v) ∧ ∃ b d, en[j]? = some (.own b d)) : Rep K g F (en.set i s) (σ.set i (some v)) H := by
  obtain ⟨l1, l2⟩ := r.lt h
  have na := fun k j e => r.noAli (k := k) (j := j) h e
  have eq1 : ∀ {k : Nat} {t : Sl}, (en.set i s)[k]? = some t → (k = i ∧ t = s) ∨ (k ≠ i ∧ en[k]? = some t) := fun {k t} e => by
    by_cases hk : k = i
    · subst hk
      rw [List.getElem?_set_self l1] at e
      exact .inl ⟨rfl, (Option.some.inj e).symm⟩
    · rw [List.getElem?_set_ne (Ne.symm hk)] at e
      exact .inr ⟨hk, e⟩
  have at1 : (σ.set i (some v))[i]? = some (some v) := List.getElem?_set_self l2
  have at2 : ∀ {k : Nat}, k ≠ i → (σ.set i (some v))[k]? = σ[k]? := fun {k} hk => List.getElem?_set_ne (Ne.symm hk)
  refine ⟨r.fz, r.fr, r.al, r.nw, by simpa using r.len, fun k d e => ?_, fun k b d e => ?_, fun k j e => ?_, fun k j b c d e' hne e1 e2 => ?_, fun k p hm => ?_, fun k p hm => ?_⟩
  · rcases eq1 e with ⟨rfl, z⟩ | ⟨hk, z⟩
    · subst z
      exact ⟨v, at1, hs⟩
    · rw [at2 hk]; exact r.val k d z
  · rcases eq1 e with ⟨rfl, z⟩ | ⟨hk, z⟩
    · subst z
      obtain ⟨p, rfl, q1, q2, q3, _⟩ := hs
      exact ⟨p, at1, q1, q2, q3⟩
    · rw [at2 hk]; exact r.own k b d z
  · rcases eq1 e with ⟨rfl, z⟩ | ⟨hk, z⟩
    · subst z
      obtain ⟨q1, q2, b, d, q3⟩ := hs
      exact ⟨by rw [at1, at2 q1, q2], b, d, by rw [List.getElem?_set_ne (Ne.symm q1)]; exact q3⟩
    · obtain ⟨z1, b, d, z2⟩ := r.ali k j z
      have hj := na k j z
      exact ⟨by rw [at2 hk, at2 hj]; exact z1, b, d, by rw [List.getElem?_set_ne (Ne.symm hj)]; exact z2⟩
  · rcases eq1 e1 with ⟨rfl, z⟩ | ⟨hk, z⟩
    · rcases eq1 e2 with ⟨rfl, z2⟩ | ⟨hk2, z2⟩
      · exact absurd rfl hne
      · rw [at1, at2 hk2]
        subst z
        obtain ⟨p, rfl, _, _, _, q⟩ := hs
        exact fun w => q j hk2 _ _ z2 w.symm
    · rcases eq1 e2 with ⟨rfl, z2⟩ | ⟨hk2, z2⟩
      · rw [at1, at2 hk]
        subst z2
        obtain ⟨p, rfl, _, _, _, q⟩ := hs
        exact q k hk _ _ z
      · rw [at2 hk, at2 hk2]; exact r.sep k j b c d e' hne z z2
  · obtain ⟨z1, d, z2⟩ := r.pl k p hm
    have hk : k ≠ i := fun w => by
      subst w
      unfold canPut at h
      rw [z2] at h
      cases h
    exact ⟨by rw [at2 hk]; exact z1, d, by rw [List.getElem?_set_ne (Ne.symm hk)]; exact z2⟩
  · obtain ⟨z1, z2⟩ := r.rw k p hm
    have hk : k ≠ i := fun w => by
      subst w
      unfold canPut at h
      rw [z2] at h
      cases h
    exact ⟨by rw [at2 hk]; exact z1, by rw [List.getElem?_set_ne (Ne.symm hk)]; exact z2⟩
theorem Rep.putV (r : Rep K g F en σ H) {i : Nat} {v : V} {d : D} (h : putS en i (.val d) = some en1) (q : Dv K F v d) : Rep K g F en1 (σ.set i (some v)) H := by
  unfold putS at h
  split at h
  · rename_i c
    have := Option.some.inj h
    subst this
    exact r.put c q
  · cases h
/-- the owned thing at slot i is changed -/
theorem Rep.write (r : Rep K g F en σ H) {i : Nat} {b₀ : Bool} {d d' : D} {p : Addr} (e : en[i]? = some (.own b₀ d)) (ep : σ[i]? = some (some (.ref p))) (o : HO) (q : OwnAt K F (upd H p o) p d') : Rep K g F (en.set i (.own b₀ d')) σ (upd H p o) := by
  have li := (List.getElem?_eq_some_iff.mp e).1
  obtain ⟨p', e1, q1, q2, q3⟩ := r.own i b₀ d e
  rw [ep] at e1
  have : V.ref p = V.ref p' := Option.some.inj (Option.some.inj e1)
  injection this with this
  subst this
  have eq1 : ∀ {k : Nat} {t : Sl}, (en.set i (.own b₀ d'))[k]? = some t → (k = i ∧ t = .own b₀ d') ∨ (k ≠ i ∧ en[k]? = some t) := fun {k t} e => by
    by_cases hk : k = i
    · subst hk
      rw [List.getElem?_set_self li] at e
      exact .inl ⟨rfl, (Option.some.inj e).symm⟩
    · rw [List.getElem?_set_ne (Ne.symm hk)] at e
      exact .inr ⟨hk, e⟩
  have hold : ∀ {k : Nat} {b : Bool} {d : D}, (en.set i (.own b₀ d'))[k]? = some (.own b d) → ∃ d0, en[k]? = some (.own b d0) := fun {k b d} e2 => by
    rcases eq1 e2 with ⟨rfl, z⟩ | ⟨hk, z⟩
    · cases z; exact ⟨_, e⟩
    · exact ⟨_, z⟩
  refine ⟨fun a u e => ?_, fun a u e n => ?_, fun q hq => ?_, r.nw, by simpa using r.len, fun k d e => ?_, fun k b d e2 => ?_, fun k j e2 => ?_, fun k j b c d e' hne e1 e2 => ?_, fun k p' hm => ?_, fun k p' hm => ?_⟩
  · have : a ≠ p := fun z => by subst z; rw [q2] at e; cases e
    rw [upd_ne this]; exact r.fz a u e
  · have : a ≠ p := fun z => by
      subst z
      rcases q3 with z | z
      · exact n z
      · rw [z] at e; cases e
    rw [upd_ne this]; exact r.fr a u e n
  · by_cases h : q = p
    · subst h; rw [upd_same]; exact fun z => by cases z
    · rw [upd_ne h]; exact r.al q hq
  · rcases eq1 e with ⟨rfl, z⟩ | ⟨hk, z⟩
    · cases z
    · exact r.val k d z
  · rcases eq1 e2 with ⟨rfl, z⟩ | ⟨hk, z⟩
    · cases z
      exact ⟨p, ep, q, q2, q3⟩
    · obtain ⟨p2, z1, z2, z3, z4⟩ := r.own k b d z
      refine ⟨p2, z1, z2.to ?_ (Same.refl _), z3, z4⟩
      have : p2 ≠ p := fun w => by
        subst w
        exact r.sep k i b _ d _ hk z e (z1.trans ep.symm)
      rw [upd_ne this]
  · rcases eq1 e2 with ⟨rfl, z⟩ | ⟨hk, z⟩
    · cases z
    · obtain ⟨z1, b2, d2, z2⟩ := r.ali k j z
      refine ⟨z1, ?_⟩
      by_cases hj : j = i
      · subst hj
        exact ⟨_, _, List.getElem?_set_self li⟩
      · exact ⟨b2, d2, by rw [List.getElem?_set_ne (Ne.symm hj)]; exact z2⟩
  · obtain ⟨d1, z1⟩ := hold e1
    obtain ⟨d2, z2⟩ := hold e2
    exact r.sep k j b c d1 d2 hne z1 z2
  · obtain ⟨z1, d2, z2⟩ := r.pl k p' hm
    refine ⟨z1, ?_⟩
    by_cases hk : k = i
    · subst hk
      rw [e] at z2
      cases z2
      exact ⟨_, List.getElem?_set_self li⟩
    · exact ⟨d2, by rw [List.getElem?_set_ne (Ne.symm hk)]; exact z2⟩
  · obtain ⟨z1, z2⟩ := r.rw k p' hm
    refine ⟨z1, ?_⟩
    have hk : k ≠ i := fun w => by
      subst w
      rw [e] at z2
      cases z2
    rw [List.getElem?_set_ne (Ne.symm hk)]; exact z2
end

/-! ### fresh things -/
/-- v is a thing of d's, just made, at no slot, not frozen -/
structure New (K : PySem.W.Frag) (g : Gh) (F H : Hp) (en : En) (σ : St) (p : Addr) (d : D) : Prop where
  at_ : OwnAt K F H p d
  nf : F p = none
  nh : g.H0 p = none
  no : ¬ IsOwn en σ p
abbrev Ov := En → Rs D
def liftO (K : PySem.W.Frag) (g : Gh) (W : XW) (f : Ov) : TE := fun σ H Q => ∃ F en, Rep K g F en σ H ∧ Fin K g W σ F (f en) fun F' _ en' d => ∀ p H'', Rep K g F' en' σ H'' → New K g F' H'' en' σ p d → Q (.ref p) H''
def DO (X : Cx) (g : Gh) (W : XW) (e : Expr) (f : Ov) : Prop := PE X e (liftO X.K g W f)
/-- frozen: a value -/
def dFz (f : Ov) : Ev := fun en => (f en).bind fun en1 d => .ok en1 (.d d)
theorem OwnAt.dv {K : PySem.W.Frag} {F H : Hp} {p : Addr} {d : D} (h : OwnAt K F H p d) (hF : F p = none) : ∃ o, H p = some o ∧ Dv K (upd F p o) (.ref p) d := by
  have le : ∀ o, Same F (upd F p o) := fun o => Ext.put.same_updN hF
  cases h with
  | lst e a => exact ⟨_, e, .lst upd_same (a.mono (le _))⟩
  | dct e a => exact ⟨_, e, .dct upd_same (a.mono (le _))⟩
  | dctT e a => exact ⟨_, e, .dctT upd_same (a.mono (le _))⟩
theorem Rep.freeze {K : PySem.W.Frag} {g : Gh} {F H : Hp} {en : En} {σ : St} {p : Addr} {o : HO} (r : Rep K g F en σ H) (ho : H p = some o) (hn : g.H0 p = none) (no : ¬ IsOwn en σ p) (hF : F p = none) : Rep K g (upd F p o) en σ H := by
  have le : Same F (upd F p o) := Ext.put.same_updN hF
  refine ⟨fun a u e => ?_, r.fr, r.al, fun a e0 e1 n => ?_, r.len, fun i d e => ?_, fun i b d e => ?_, r.ali, r.sep, r.pl, r.rw⟩
  · by_cases h : a = p
    · subst h; rw [upd_same] at e; rw [← e]; exact ho
    · rw [upd_ne h] at e; exact r.fz a u e
  · have : a ≠ p := fun z => by subst z; exact e1 hn
    rw [upd_ne this]; exact r.nw a e0 e1 n
  · obtain ⟨v, e1, q⟩ := r.val i d e
    exact ⟨v, e1, q.mono le⟩
  · obtain ⟨q, e1, q1, q2, q3⟩ := r.own i b d e
    have : q ≠ p := fun z => by subst z; exact no ⟨i, b, d, e, e1⟩
    exact ⟨q, e1, q1.to rfl le, by rw [upd_ne this]; exact q2, q3⟩
section
variable {X : Cx} {g : Gh} {W : XW} {pos : Pos} {a b c : Expr} {es : List Expr} {av : Av}
theorem DO.fz {f : Ov} (q : DO X g W a f) : DE X g W a (dFz f) := by
  refine PE.imp q fun σ H Q hw => ?_
  obtain ⟨F, en, rp, f1⟩ := hw
  refine ⟨F, en, rp, (Fin.seq f1).mono fun F1 H1 en1 d s1 r1 f2 p H2 r2 n => ?_⟩
  obtain ⟨o, ho, dv⟩ := n.at_.dv n.nf
  exact f2 _ H2 (Ext.put.same_updN n.nf) (r2.freeze ho n.nh n.no n.nf) _ dv
theorem Rep.fresh {K : PySem.W.Frag} {F H : Hp} {en : En} {σ : St} {p : Addr} {o : HO} {d : D} (r : Rep K g F en σ H) (hp : H p = none) (q : OwnAt K F (upd H p o) p d) : Rep K g F en σ (upd H p o) ∧ New K g F (upd H p o) en σ p d := by
  have hF : F p = none := r.fz.free hp
  have no : ¬ IsOwn en σ p := fun z => (r.ownPs z).2.2 hp
  have h0 : g.H0 p = none := by
    rcases r.notFr hp with z | z
    · exact absurd hp (r.al p z)
    · exact z
  refine ⟨⟨fun a u e => ?_, fun a u e n => ?_, fun q hq => ?_, r.nw, r.len, r.val, fun i b d e => ?_, r.ali, r.sep, r.pl, r.rw⟩, q, hF, h0, no⟩
  · rw [upd_ne (ne_of_none e hF)]; exact r.fz a u e
  · rw [upd_ne (ne_of_none e h0)]; exact r.fr a u e n
  · by_cases h : q = p
    · subst h; rw [upd_same]; exact fun z => by cases z
    · rw [upd_ne h]; exact r.al q hq
  · obtain ⟨p', e1, q1, q2, q3⟩ := r.own i b d e
    refine ⟨p', e1, q1.to ?_ (Same.refl _), q2, q3⟩
    exact upd_ne fun z => by subst z; exact q1.ne hp
end
end DL
/-! Dl4: calls of defs, statements. -/
namespace DL
open PySem PySem.Spec L2
open PyProof.Rows hiding St

/-! ### what a def is worth -/
/-- an argument: data, or an owned thing that the def may change -/
inductive Ar where
  | v (d : D)
  | o (d : D)
/-- what a def hands back: data, or a thing just made -/
inductive Rr where
  | v (d : D)
  | o (d : D)
inductive Rf where
  | ok (r : Rr) (os : List D)
  | ex (x : Ex) (os : List D)
  | no
abbrev Fs := List Ar → Rf
def ArgsOk (K : PySem.W.Frag) (F H : Hp) : List V → List Ar → List Addr → Prop
  | [], [], [] => True
  | v :: vs, .v d :: as, ps => Dv K F v d ∧ ArgsOk K F H vs as ps
  | v :: vs, .o d :: as, p :: ps => v = .ref p ∧ OwnAt K F H p d ∧ F p = none ∧ ArgsOk K F H vs as ps
  | _, _, _ => False
def OutsOk (K : PySem.W.Frag) (F H : Hp) : List Addr → List D → Prop
  | [], [] => True
  | p :: ps, d :: ds => OwnAt K F H p d ∧ F p = none ∧ OutsOk K F H ps ds
  | _, _ => False
structure CallExt (F H : Hp) (ps : List Addr) (F' H' : Hp) : Prop where
  fr : ∀ a o, H a = some o → a ∉ ps → H' a = some o
  le : Same F F'
  sub : Same F' H'
  nw : ∀ a, F a = none → H a ≠ none → a ∉ ps → F' a = none
def ResOk (K : PySem.W.Frag) (H F' H' : Hp) (ps : List Addr) (v : V) : Rr → Prop
  | .v d => Dv K F' v d
  | .o d => ∃ p, v = .ref p ∧ OwnAt K F' H' p d ∧ F' p = none ∧ H p = none
/-- a raised error, seen -/
def ExRep (K : PySem.W.Frag) (mg : Str → Option Value) (F H : Hp) (x : Ex) (cls : Value) (dx : Option Addr) : Prop :=
  mg x.cls = some cls ∧ ((x.fs = [] ∧ dx = none) ∨ ∃ (a : Addr) (vs : List (Str × V)), x.fs ≠ [] ∧ dx = some a ∧ H a = some (.xd vs) ∧ F a = none ∧ vs.map (·.1) = x.fs.map (·.1) ∧ DvAll K F (vs.map (·.2)) (x.fs.map (·.2)))
def spF (K : PySem.W.Frag) (mg : Str → Option Value) (fs : Fs) : Sp := fun vs H Q E => ∃ (F : Hp) (as : List Ar) (ps : List Addr), Same F H ∧ ArgsOk K F H vs as ps ∧ ps.Nodup ∧ match fs as with
  | .ok r os => ∀ v F' H', CallExt F H ps F' H' → OutsOk K F' H' ps os → ResOk K H F' H' ps v r → Q v H'
  | .ex x os => ∀ F' H' cls dx, CallExt F H ps F' H' → OutsOk K F' H' ps os → ExRep K mg F' H' x cls dx → E cls dx H'
  | .no => False
/-- the wish about errors, from the layer's -/
def WH (K : PySem.W.Frag) (mg : Str → Option Value) (Wh : WX) : XW := fun σ F H _ x => ∀ cls dx, ExRep K mg F H x cls dx → Wh cls dx σ H

/-! ### arguments in a call: by value, or slot i by reference -/
inductive Ae where
  | e (f : Ev)
  | io (f : Ev)
inductive Aw where
  | v (d : D)
  | o (i : Nat)
def toAw (en : En) : Bool → Rv → Option Aw
  | false, .d x => some (.v x)
  | true, .s i => some (.o i)
  | _, _ => none
/-- the callee's arguments -/
def argsFor (en : En) : List Bool → List Rv → Option (List Ar × List Nat)
  | [], [] => some ([], [])
  | false :: bs, .d x :: rs => match argsFor en bs rs with
    | some (as, is) => some (.v x :: as, is)
    | none => none
  | true :: bs, .s i :: rs => match slD en i, argsFor en bs rs with
    | some d, some (as, is) => some (.o d :: as, i :: is)
    | _, _ => none
  | _, _ => none
def setOuts (en : En) : List Nat → List D → Option En
  | [], [] => some en
  | i :: is, d :: ds => match en[i]? with
    | some (.own b _) => setOuts (en.set i (.own b d)) is ds
    | _ => none
  | _, _ => none
/-- the call, then k with the result -/
def callR {α : Type} (fs : Fs) (bs : List Bool) (en : En) (rs : List Rv) (k : En → Rr → Rs α) : Rs α := match argsFor en bs rs with
  | some (as, is) => if is.Nodup then (match fs as with
    | .ok r os => (match setOuts en is os with
      | some en' => k en' r
      | none => .no)
    | .ex x os => (match setOuts en is os with
      | some en' => .ex en' x
      | none => .no)
    | .no => .no) else .no
  | none => .no
def dCall (fs : Fs) (bs : List Bool) (a : Av) : Ev := fun en => (a en).bind fun en1 rs => callR fs bs en1 rs fun en2 r => match r with
  | .v d => .ok en2 (.d d)
  | .o d => .no
def oCall (fs : Fs) (bs : List Bool) (a : Av) : Ov := fun en => (a en).bind fun en1 rs => callR fs bs en1 rs fun en2 r => match r with
  | .o d => .ok en2 d
  | .v d => .no

section
variable {K : PySem.W.Frag} {g : Gh} {σ : St} {F F' H H' : Hp} {en : En}
/-- the owned things that are handed in: their addresses -/
def AtAll (en : En) (σ : St) : List Nat → List Addr → Prop
  | [], [] => True
  | i :: is, p :: ps => (∃ b d, en[i]? = some (.own b d)) ∧ σ[i]? = some (some (.ref p)) ∧ AtAll en σ is ps
  | _, _ => False
theorem AtAll.mem : ∀ {is : List Nat} {ps : List Addr}, AtAll en σ is ps → ∀ {p : Addr}, p ∈ ps → ∃ i ∈ is, σ[i]? = some (some (.ref p)) ∧ ∃ b d, en[i]? = some (.own b d)
  | [], [], _, p, h => by cases h
  | i :: is, q :: ps, ⟨h1, h2, h3⟩, p, h => by
    rcases List.mem_cons.mp h with e | h
    · subst e; exact ⟨i, List.mem_cons_self, h2, h1⟩
    · obtain ⟨j, hj, z⟩ := AtAll.mem h3 h
      exact ⟨j, List.mem_cons_of_mem _ hj, z⟩
theorem AtAll.at : ∀ {is : List Nat} {ps : List Addr}, AtAll en σ is ps → ∀ {k : Nat}, k ∈ is → ∃ b d, en[k]? = some (.own b d)
  | [], [], _, k, h => by cases h
  | i :: is, q :: ps, ⟨h1, h2, h3⟩, k, h => by
    rcases List.mem_cons.mp h with e | h
    · subst e; exact h1
    · exact AtAll.at h3 h
theorem AtAll.nodup (r : Rep K g F en σ H) : ∀ {is : List Nat} {ps : List Addr}, AtAll en σ is ps → is.Nodup → ps.Nodup
  | [], [], _, _ => List.nodup_nil
  | i :: is, p :: ps, ⟨⟨b, d, h1⟩, h2, h3⟩, h => by
    obtain ⟨n1, n2⟩ := List.nodup_cons.mp h
    refine List.nodup_cons.mpr ⟨fun hm => ?_, AtAll.nodup r h3 n2⟩
    obtain ⟨j, hj, e, b', d', z⟩ := h3.mem hm
    have ne : i ≠ j := fun z => n1 (z ▸ hj)
    exact r.sep i j b b' d d' ne h1 z (h2.trans e.symm)
theorem argsFor_ok (r : Rep K g F en σ H) : ∀ {bs : List Bool} {rs : List Rv} {vs : List V} {as : List Ar} {is : List Nat}, RvAll K F σ vs rs → argsFor en bs rs = some (as, is) → ∃ ps, ArgsOk K F H vs as ps ∧ AtAll en σ is ps
  | [], [], [], as, is, _, e => by
    cases e
    exact ⟨[], trivial, trivial⟩
  | false :: bs, .d x :: rs, v :: vs, as, is, h, e => by
    unfold argsFor at e
    split at e
    · rename_i as' is' e1
      cases e
      obtain ⟨ps, q1, q2⟩ := argsFor_ok r h.2 e1
      exact ⟨ps, ⟨h.1, q1⟩, q2⟩
    · cases e
  | true :: bs, .s i :: rs, v :: vs, as, is, h, e => by
    unfold argsFor at e
    split at e
    · rename_i d as' is' e0 e1
      cases e
      obtain ⟨ps, q1, q2⟩ := argsFor_ok r h.2 e1
      unfold slD at e0
      split at e0
      · rename_i b d1 z
        have e0' := Option.some.inj e0
        subst e0'
        obtain ⟨p, e2, e3, e4, _⟩ := r.own i b _ z
        have h1 : σ[i]? = some (some v) := h.1
        rw [h1] at e2
        cases e2
        exact ⟨p :: ps, ⟨rfl, e3, e4, q1⟩, ⟨b, _, z⟩, h1, q2⟩
      · cases e0
    · cases e
  | [], _ :: _, _, _, _, _, e => by cases e
  | false :: _, [], _, _, _, _, e => by cases e
  | true :: _, [], _, _, _, _, e => by cases e
  | false :: _, .s _ :: _, _, _, _, _, e => by cases e
  | true :: _, .d _ :: _, _, _, _, _, e => by cases e
  | _, [], _ :: _, _, _, h, _ => h.elim
  | _, _ :: _, [], _, _, h, _ => h.elim
theorem setOuts_at : ∀ {is : List Nat} {ds : List D} {en en' : En}, setOuts en is ds = some en' → en'.length = en.length ∧ (∀ k, k ∉ is → en'[k]? = en[k]?) ∧ ∀ (k : Nat) (b : Bool) (d : D), en[k]? = some (.own b d) → ∃ d', en'[k]? = some (.own b d')
  | [], [], en, en', e => by
    cases e
    exact ⟨rfl, fun _ _ => rfl, fun k b d e => ⟨d, e⟩⟩
  | i :: is, d :: ds, en, en', e => by
    unfold setOuts at e
    split at e
    · rename_i b d0 z
      obtain ⟨h1, h2, h3⟩ := setOuts_at e
      refine ⟨by rw [h1, List.length_set], fun k hk => ?_, fun k b' d' e1 => ?_⟩
      · rw [h2 k fun m => hk (List.mem_cons_of_mem _ m), List.getElem?_set_ne fun m => hk (by rw [m]; exact List.mem_cons_self)]
      · have li := (List.getElem?_eq_some_iff.mp z).1
        by_cases hk : k = i
        · subst hk
          rw [z] at e1; cases e1
          exact h3 k b d (List.getElem?_set_self li)
        · exact h3 k b' d' (by rw [List.getElem?_set_ne (Ne.symm hk)]; exact e1)
    · cases e
  | [], _ :: _, _, _, e => by cases e
  | _ :: _, [], _, _, e => by cases e
theorem setOuts_own : ∀ {is : List Nat} {ps : List Addr} {ds : List D} {en0 en en' : En} {σ : St}, is.Nodup → AtAll en0 σ is ps → OutsOk K F' H' ps ds → setOuts en is ds = some en' → ∀ i ∈ is, ∃ p b d, σ[i]? = some (some (.ref p)) ∧ en'[i]? = some (.own b d) ∧ OwnAt K F' H' p d ∧ F' p = none
  | [], [], [], _, _, _, _, _, _, _, _ => fun i h => by cases h
  | i :: is, p :: ps, d :: ds, en0, en, en', σ, n, ⟨_, a2, a3⟩, ⟨o1, o2, o3⟩, e => by
    unfold setOuts at e
    split at e
    · rename_i b d0 z
      obtain ⟨n1, n2⟩ := List.nodup_cons.mp n
      intro j hj
      rcases List.mem_cons.mp hj with rfl | hj
      · have li := (List.getElem?_eq_some_iff.mp z).1
        have q := (setOuts_at e).2.1 j n1
        rw [List.getElem?_set_self li] at q
        exact ⟨p, b, d, a2, q, o1, o2⟩
      · exact setOuts_own n2 a3 o3 e j hj
    · cases e
  | [], _ :: _, _, _, _, _, _, _, h, _, _ => h.elim
  | _ :: _, [], _, _, _, _, _, _, h, _, _ => h.elim
  | [], [], _ :: _, _, _, _, _, _, _, h, _ => h.elim
  | _ :: _, _ :: _, [], _, _, _, _, _, _, h, _ => h.elim
theorem OutsOk.alive : ∀ {ps : List Addr} {os : List D}, OutsOk K F H ps os → ∀ {p : Addr}, p ∈ ps → H p ≠ none
  | [], [], _, p, h => by cases h
  | q :: ps, d :: os, o, p, h => by
    rcases List.mem_cons.mp h with e | h
    · subst e; exact o.1.ne
    · exact OutsOk.alive o.2.2 h
/-- behind a call -/
theorem Rep.call {is : List Nat} {ps : List Addr} {os : List D} {en' : En} (r : Rep K g F en σ H) (a : AtAll en σ is ps) (n : is.Nodup) (x : CallExt F H ps F' H') (o : OutsOk K F' H' ps os) (e : setOuts en is os = some en') : Rep K g F' en' σ H' := by
  obtain ⟨h1, h2, h3⟩ := setOuts_at e
  have h4 := setOuts_own n a o e
  have psOwn : ∀ {p}, p ∈ ps → IsOwn en σ p := fun hp => by
    obtain ⟨i, _, q, b, d, z⟩ := a.mem hp
    exact ⟨i, b, d, z, q⟩
  have inOwn : ∀ {k : Nat} {b : Bool} {d : D}, en'[k]? = some (.own b d) → ∃ d0, en[k]? = some (.own b d0) := fun {k b d} e1 => by
    by_cases hk : k ∈ is
    · cases q : en[k]? with
      | none =>
        have l1 := (List.getElem?_eq_some_iff.mp e1).1
        rw [h1] at l1
        exact absurd q (by rw [List.getElem?_eq_getElem l1]; exact fun z => by cases z)
      | some s =>
        obtain ⟨p, b', d', _, z, _⟩ := h4 k hk
        have am : ∃ b d, en[k]? = some (.own b d) := by
          exact a.at hk
        obtain ⟨b0, d0, z0⟩ := am
        obtain ⟨d1, z1⟩ := h3 k b0 d0 z0
        rw [e1] at z1
        cases z1
        exact ⟨d0, q ▸ z0⟩
    · rw [h2 k hk] at e1
      exact ⟨d, e1⟩
  have keep : ∀ {k : Nat} {s : Sl}, en'[k]? = some s → (∀ b d, s ≠ .own b d) → en[k]? = some s := fun {k s} e1 ns => by
    by_cases hk : k ∈ is
    · obtain ⟨p, b', d', _, z, _⟩ := h4 k hk
      rw [e1] at z
      cases z
      exact absurd rfl (ns _ _)
    · rw [h2 k hk] at e1
      exact e1
  have H'p : ∀ {p : Addr}, H p ≠ none → H' p ≠ none := fun {p} hp => by
    by_cases hm : p ∈ ps
    · clear h4 e inOwn keep psOwn
      revert hm
      clear a n h1 h2 h3 x
      induction ps generalizing os with
      | nil => intro h; cases h
      | cons q ps ih =>
        intro hm
        cases os with
        | nil => exact o.elim
        | cons d os =>
          rcases List.mem_cons.mp hm with rfl | hm
          · exact o.1.ne
          · exact ih o.2.2 hm
    · cases q : H p with
      | none => exact absurd q hp
      | some u => rw [x.fr p u q hm]; exact fun z => by cases z
  have nps : ∀ {b u}, g.H0 b = some u → b ∉ g.Ps → b ∉ ps := fun {b u} e1 n1 hm => by
    rcases (r.ownPs (psOwn hm)).1 with z | z
    · exact n1 z
    · rw [z] at e1; cases e1
  refine ⟨x.sub, fun b u e1 n1 => x.fr b u (r.fr b u e1 n1) (nps e1 n1), fun p hp => H'p (r.al p hp), fun b e0 e1 n1 => ?_, by rw [h1]; exact r.len, fun k d e1 => ?_, fun k b d e1 => ?_, fun k j e1 => ?_, fun k j b c d d' hne e1 e2 => ?_, fun k p hm => ?_, fun k p hm => ?_⟩
  · cases q : g.H0 b with
    | none => exact absurd q e1
    | some u => exact x.nw b (r.nw b e0 e1 n1) (by rw [r.fr b u q n1]; exact fun z => by cases z) (nps q n1)
  · obtain ⟨v, z, q⟩ := r.val k d (keep e1 fun _ _ z => by cases z)
    exact ⟨v, z, q.mono x.le⟩
  · by_cases hk : k ∈ is
    · obtain ⟨p, b', d', z1, z2, z3, z4⟩ := h4 k hk
      rw [e1] at z2
      cases z2
      obtain ⟨d0, e0⟩ := inOwn e1
      exact ⟨p, z1, z3, z4, (r.ownPs ⟨k, b, d0, e0, z1⟩).1⟩
    · have e1' := e1
      rw [h2 k hk] at e1'
      obtain ⟨p, z1, z2, z3, z4⟩ := r.own k b d e1'
      have np : p ∉ ps := fun hm => by
        obtain ⟨i, hi, q, b', d', z⟩ := a.mem hm
        have ne : k ≠ i := fun w => hk (w ▸ hi)
        exact r.sep k i b b' d d' ne e1' z (z1.trans q.symm)
      refine ⟨p, z1, z2.to ?_ x.le, x.nw p z3 z2.ne np, z4⟩
      cases q : H p with
      | none => exact absurd q z2.ne
      | some u => exact x.fr p u q np
  · obtain ⟨z1, b, d, z2⟩ := r.ali k j (keep e1 fun _ _ z => by cases z)
    obtain ⟨d', z3⟩ := h3 j b d z2
    exact ⟨z1, b, d', z3⟩
  · obtain ⟨d1, z1⟩ := inOwn e1
    obtain ⟨d2, z2⟩ := inOwn e2
    exact r.sep k j b c d1 d2 hne z1 z2
  · obtain ⟨z1, d, z2⟩ := r.pl k p hm
    obtain ⟨d', z3⟩ := h3 k true d z2
    exact ⟨z1, d', z3⟩
  · obtain ⟨z1, z2⟩ := r.rw k p hm
    refine ⟨z1, ?_⟩
    by_cases hk : k ∈ is
    · obtain ⟨b, d, z⟩ := a.at hk
      rw [z2] at z; cases z
    · rw [h2 k hk]; exact z2
end
end DL
/-! Dl5: the call's rules; statements. -/
namespace DL
open PySem PySem.Spec L2
open PyProof.Rows hiding St

/-- the def x, by what it is worth -/
structure Callee (P : Program) (w : World) (K : PySem.W.Frag) (mg : Str → Option Value) (base : Heap) (x : Str) (k : Nat) (fs : Fs) : Prop where
  ex : ∃ (f : Addr) (fd : FuncData) (ps : List Str), mg x = some (.ref f) ∧ FnOk P w K mg base (L2.CX P w) k f fd ps (spF K mg fs) ∧ PySem.W.keepIn K (.ref f) = true ∧ Binds K fd ps []

section
variable {K : PySem.W.Frag} {g : Gh} {W : XW} {σ : St} {F H : Hp} {en : En} {mg : Str → Option Value} {Wh : WX} {fs : Fs} {bs : List Bool}
/-- a call, in the layer's words -/
theorem call_sp {rs : List Rv} {vs : List V} {Q : VK} {kk : En → Rr → Rs Rv} (rp : Rep K g F en σ H) (hv : RvAll K F σ vs rs)
    (f : Fin K g (WH K mg Wh) σ F (callR fs bs en rs kk) fun F' H' _ r => ∀ v, RvOk K F' σ v r → Q v H')
    (hk : ∀ en' r, (∃ d, r = .v d ∧ kk en' r = .ok en' (.d d)) ∨ kk en' r = .no) : spF K mg fs vs H Q (WE Wh σ) := by
  unfold callR at f
  split at f
  · rename_i as is e1
    split at f
    · rename_i nd
      obtain ⟨ps, q1, q2⟩ := argsFor_ok rp hv e1
      refine ⟨F, as, ps, rp.fz, q1, q2.nodup rp nd, ?_⟩
      split at f
      · rename_i r os e2
        intro v F' H' x o ro
        split at f
        · rename_i en' e3
          have r2 := rp.call q2 nd x o e3
          rcases hk en' r with ⟨d, rfl, e4⟩ | e4
          · rw [e4] at f
            exact f F' H' x.le r2 v ro
          · rw [e4] at f; exact f.elim
        · exact f.elim
      · rename_i xx os e2
        intro F' H' cls dx x o er
        split at f
        · rename_i en' e3
          exact f F' H' x.le (rp.call q2 nd x o e3) cls dx er
        · exact f.elim
      · exact f.elim
    · exact f.elim
  · exact f.elim
theorem call_spO {rs : List Rv} {vs : List V} {Q : VK} {kk : En → Rr → Rs D} (rp : Rep K g F en σ H) (hv : RvAll K F σ vs rs)
    (f : Fin K g (WH K mg Wh) σ F (callR fs bs en rs kk) fun F' _ en' d => ∀ p H'', Rep K g F' en' σ H'' → New K g F' H'' en' σ p d → Q (.ref p) H'')
    (hk : ∀ en' r, (∃ d, r = .o d ∧ kk en' r = .ok en' d) ∨ kk en' r = .no) : spF K mg fs vs H Q (WE Wh σ) := by
  unfold callR at f
  split at f
  · rename_i as is e1
    split at f
    · rename_i nd
      obtain ⟨ps, q1, q2⟩ := argsFor_ok rp hv e1
      refine ⟨F, as, ps, rp.fz, q1, q2.nodup rp nd, ?_⟩
      split at f
      · rename_i r os e2
        intro v F' H' x o ro
        split at f
        · rename_i en' e3
          have r2 := rp.call q2 nd x o e3
          rcases hk en' r with ⟨d, rfl, e4⟩ | e4
          · rw [e4] at f
            obtain ⟨p, rfl, z1, z2, z3⟩ := ro
            have g0 : g.H0 p = none := by
              rcases rp.notFr z3 with z | z
              · exact absurd z3 (rp.al p z)
              · exact z
            refine f F' H' x.le r2 p H' r2 ⟨z1, z2, g0, fun w => ?_⟩
            obtain ⟨i, b, d', w1, w2⟩ := w
            have am : ∃ b d, en[i]? = some (.own b d) := by
              by_cases hi : i ∈ is
              · exact q2.at hi
              · rw [(setOuts_at e3).2.1 i hi] at w1
                exact ⟨b, d', w1⟩
            obtain ⟨b0, d0, e0⟩ := am
            exact (rp.ownPs ⟨i, b0, d0, e0, w2⟩).2.2 z3
          · rw [e4] at f; exact f.elim
        · exact f.elim
      · rename_i xx os e2
        intro F' H' cls dx x o er
        split at f
        · rename_i en' e3
          exact f F' H' x.le (rp.call q2 nd x o e3) cls dx er
        · exact f.elim
      · exact f.elim
    · exact f.elim
  · exact f.elim
end

section
variable {X : Cx} {g : Gh} {Wh : WX} {pos : Pos} {a : Expr} {es : List Expr} {av : Av} {fs : Fs} {x : Str} {j k : Nat} {p : Pos}
theorem de_call (bs : List Bool) (C : Callee X.prog X.w X.K X.mg X.base x j fs) (hj : j ≤ k) (hr : Room k X.A) (hg : Gl X x) (tk : Takes X Wh) (ha : DA X g (WH X.K X.mg Wh) (a :: es) av)
    (hdb : (x == ("__debug__" : Str)) = false := by decide) (he : starEach (a :: es) X.env = (false, eval a X.env) :: starEach es X.env := by rfl) (hpl : (backTo pos (starEach es X.env)).any (·.1) = false := by rfl) :
    DE X g (WH X.K X.mg Wh) (.Call (.Name x p) (a :: es) [] pos) (dCall fs bs av) := by
  obtain ⟨f, fd, ps, hm, F, hk, hb⟩ := C.ex
  refine PE.imp (pe_callS F (hr.mono hj) hg hm hk hb (fun σ => passAt tk σ) ha hdb he hpl) fun σ H Q h => ?_
  obtain ⟨F, en, rp, f⟩ := h
  refine ⟨F, en, rp, (Fin.seq f).mono fun F1 H1 en1 rs s1 r1 f1 vs hvs => call_sp r1 hvs f1 fun en' r => ?_⟩
  cases r with
  | v d => exact .inl ⟨d, rfl, rfl⟩
  | o d => exact .inr rfl
theorem do_call (bs : List Bool) (C : Callee X.prog X.w X.K X.mg X.base x j fs) (hj : j ≤ k) (hr : Room k X.A) (hg : Gl X x) (tk : Takes X Wh) (ha : DA X g (WH X.K X.mg Wh) (a :: es) av)
    (hdb : (x == ("__debug__" : Str)) = false := by decide) (he : starEach (a :: es) X.env = (false, eval a X.env) :: starEach es X.env := by rfl) (hpl : (backTo pos (starEach es X.env)).any (·.1) = false := by rfl) :
    DO X g (WH X.K X.mg Wh) (.Call (.Name x p) (a :: es) [] pos) (oCall fs bs av) := by
  obtain ⟨f, fd, ps, hm, F, hk, hb⟩ := C.ex
  refine PE.imp (pe_callS F (hr.mono hj) hg hm hk hb (fun σ => passAt tk σ) ha hdb he hpl) fun σ H Q h => ?_
  obtain ⟨F, en, rp, f⟩ := h
  refine ⟨F, en, rp, (Fin.seq f).mono fun F1 H1 en1 rs s1 r1 f1 vs hvs => call_spO r1 hvs f1 fun en' r => ?_⟩
  cases r with
  | o d => exact .inl ⟨d, rfl, rfl⟩
  | v d => exact .inr rfl
/-- a list display as a fresh thing -/
def oLst (a : Av) : Ov := fun en => (a en).bind fun en1 xs => match freeD en1 xs with
  | some ds => if ds.length ≤ sizeLine then .ok en1 (.list ds) else .no
  | none => .no
theorem do_lst {W : XW} (h : DA X g W es av) : DO X g W (.List es pos) (oLst av) := by
  refine PE.imp (pe_lst h) fun σ H Q h => ?_
  obtain ⟨F, en, rp, f⟩ := h
  refine ⟨F, en, rp, (Fin.seq f).mono fun F1 H1 en1 xs s1 r1 f1 vs hvs => ?_⟩
  split at f1
  · rename_i ds e1
    split at f1
    · rename_i hl
      have q := free_ok hvs e1
      refine ⟨by rw [q.length]; exact hl, fun p hp => ?_⟩
      obtain ⟨r2, n2⟩ := r1.fresh hp (d := .list ds) (.lst upd_same q)
      exact f1 F1 H1 (Same.refl _) r1 p _ r2 n2
    · exact f1.elim
  · exact f1.elim
def oDct : Ov := fun en => .ok en (.dict [])
def oDctT : Ov := fun en => .ok en (.dict [(.none, .bool true)])
theorem do_dctK {W : XW} : DO X g W (.Dict [] [] pos) oDct := by
  refine PE.imp pe_dnewK fun σ H Q h => ?_
  obtain ⟨F, en, rp, f⟩ := h
  intro p hp
  obtain ⟨r2, n2⟩ := rp.fresh hp (d := .dict []) (OwnAt.dct (kvs := []) (ds := []) upd_same .nil)
  exact f F H (Same.refl _) rp p _ r2 n2
theorem do_dctT {W : XW} : DO X g W (.Dict [] [] pos) oDctT := by
  refine PE.imp pe_dnewT fun σ H Q h => ?_
  obtain ⟨F, en, rp, f⟩ := h
  intro p hp
  obtain ⟨r2, n2⟩ := rp.fresh hp (d := .dict [(.none, .bool true)]) (OwnAt.dctT (kvs := []) (ds := []) upd_same .nil)
  exact f F H (Same.refl _) rp p _ r2 n2
end

/-! ### statements -/
inductive Out where
  | nx (en : En)
  | rt (en : En) (r : Rr)
  | bk (en : En)
  | ct (en : En)
  | ex (en : En) (x : Ex)
  | no
abbrev Bd := En → Out
/-- what the def hands back at v -/
def RetOk (K : PySem.W.Frag) (g : Gh) (F H : Hp) (v : V) : Rr → Prop
  | .v d => Dv K F v d
  | .o d => ∃ p, v = .ref p ∧ OwnAt K F H p d ∧ F p = none ∧ g.H0 p = none
def FinS (K : PySem.W.Frag) (g : Gh) (W : XW) (F : Hp) (o : Out) (E : Ends) : Prop := match o with
  | .nx en => ∀ σ F' H', Same F F' → Rep K g F' en σ H' → E.nx σ H'
  | .bk en => ∀ σ F' H', Same F F' → Rep K g F' en σ H' → E.bk σ H'
  | .ct en => ∀ σ F' H', Same F F' → Rep K g F' en σ H' → E.ct σ H'
  | .rt en r => ∀ v σ F' H', Same F F' → Rep K g F' en σ H' → RetOk K g F' H' v r → E.rt v H'
  | .ex en x => ∀ σ F' H', Same F F' → Rep K g F' en σ H' → W σ F' H' en x
  | .no => False
theorem FinS.weak {K : PySem.W.Frag} {g : Gh} {W : XW} {F F' : Hp} {o : Out} {E : Ends} (s : Same F F') (h : FinS K g W F o E) : FinS K g W F' o E := by
  cases o with
  | nx en => exact fun σ F2 H2 s2 => h σ F2 H2 (s.trans s2)
  | bk en => exact fun σ F2 H2 s2 => h σ F2 H2 (s.trans s2)
  | ct en => exact fun σ F2 H2 s2 => h σ F2 H2 (s.trans s2)
  | rt en r => exact fun v σ F2 H2 s2 => h v σ F2 H2 (s.trans s2)
  | ex en x => exact fun σ F2 H2 s2 => h σ F2 H2 (s.trans s2)
  | no => exact h
def liftS (K : PySem.W.Frag) (g : Gh) (W : XW) (b : Bd) : TS := fun E σ H => ∃ F en, Rep K g F en σ H ∧ FinS K g W F (b en) E
def DS (X : Cx) (g : Gh) (W : XW) (st : Stmt) (b : Bd) : Prop := PS X st (liftS X.K g W b)
def DSs (X : Cx) (g : Gh) (W : XW) (st : List Stmt) (b : Bd) : Prop := PSs X st (liftS X.K g W b)
def Out.next (o : Out) (k : En → Out) : Out := match o with
  | .nx en => k en
  | o => o
def Rs.out {α : Type} (r : Rs α) (k : En → α → Out) : Out := match r with
  | .ok en a => k en a
  | .ex en x => .ex en x
  | .no => .no
/-- an expression, then the rest of the statement -/
theorem FinS.of_out {K : PySem.W.Frag} {g : Gh} {W : XW} {σ : St} {F : Hp} {α : Type} {r : Rs α} {k : En → α → Out} {E : Ends} {P : Hp → Hp → En → α → Prop} (h : FinS K g W F (r.out k) E)
    (q : ∀ F' H' en a, Same F F' → Rep K g F' en σ H' → FinS K g W F' (k en a) E → P F' H' en a) : Fin K g W σ F r P := by
  cases r with
  | ok en a => exact fun F' H' s r => q F' H' en a s r (FinS.weak s h)
  | ex en x => exact fun F' H' s r => h σ F' H' s r
  | no => exact h

def bSeq (a b : Bd) : Bd := fun en => (a en).next b
def bNil : Bd := fun en => .nx en
def bExpr (f : Ev) : Bd := fun en => (f en).out fun en1 _ => .nx en1
def bRet (f : Ev) : Bd := fun en => (f en).out fun en1 x => match x with
  | .d d => .rt en1 (.v d)
  | .s _ => .no
def bRetO (f : Ov) : Bd := fun en => (f en).out fun en1 d => .rt en1 (.o d)
def bRetN : Bd := fun en => .rt en (.v .none)
def bIf (c : Tv) (a b : Bd) : Bd := fun en => (c en).out fun en1 k => if k = true then a en1 else b en1
def stV (en : En) (i : Nat) (x : Rv) : Option En := match x with
  | .d d => putS en i (.val d)
  | .s j => if j = i then none else (match en[j]? with
    | some (.own _ _) => putS en i (.ali j)
    | _ => none)
def Opt.out {α : Type} (o : Option α) (k : α → Out) : Out := match o with
  | some a => k a
  | none => .no
def bSet (i : Nat) (f : Ev) : Bd := fun en => (f en).out fun en1 x => Opt.out (stV en1 i x) .nx
def bSetO (i : Nat) (f : Ov) : Bd := fun en => (f en).out fun en1 d => Opt.out (putS en1 i (.own false d)) .nx

section
variable {K : PySem.W.Frag} {g : Gh} {W : XW} {σ : St} {F H : Hp} {en en1 : En}
theorem Rep.stV (r : Rep K g F en σ H) {i : Nat} {x : Rv} {v : V} (h : RvOk K F σ v x) (e : stV en i x = some en1) : Rep K g F en1 (σ.set i (some v)) H := by
  cases x with
  | d d => exact r.putV e h
  | s j =>
    unfold DL.stV at e
    dsimp only at e
    split at e
    · cases e
    · rename_i hj
      split at e
      · rename_i b d z
        unfold putS at e
        split at e
        · rename_i c
          have := Option.some.inj e
          subst this
          exact r.put c ⟨hj, h, b, d, z⟩
        · cases e
      · cases e
theorem Rep.stO (r : Rep K g F en σ H) {i : Nat} {p : Addr} {b : Bool} {d : D} (n : New K g F H en σ p d) (e : putS en i (.own b d) = some en1) : Rep K g F en1 (σ.set i (some (.ref p))) H := by
  unfold putS at e
  split at e
  · rename_i c
    have := Option.some.inj e
    subst this
    refine r.put c ⟨p, rfl, n.at_, n.nf, .inr n.nh, fun j _ b' d' e1 e2 => n.no ⟨j, b', d', e1, e2⟩⟩
  · cases e
end

section
variable {X : Cx} {g : Gh} {W : XW} {pos : Pos} {e c : Expr} {st : Stmt} {rest : List Stmt} {f : Ev} {t : Tv} {b b' : Bd}
theorem ds_nil : DSs X g W [] bNil := PSs.imp pss_nil fun E σ H h => by
  obtain ⟨F, en, rp, f⟩ := h
  exact f σ F H (Same.refl _) rp
theorem ds_cons (h1 : DS X g W st b) (h2 : DSs X g W rest b') : DSs X g W (st :: rest) (bSeq b b') := by
  refine PSs.imp (pss_cons h1 h2) fun E σ H h => ?_
  obtain ⟨F, en, rp, f⟩ := h
  refine ⟨F, en, rp, ?_⟩
  unfold bSeq Out.next at f
  split at f
  · rename_i en1 e1
    rw [e1]
    intro σ' F' H' s r
    exact ⟨F', en1, r, FinS.weak s f⟩
  · rename_i o ne
    cases q : b en with
    | nx en1 => exact absurd q (ne en1)
    | bk en1 => rw [q] at f; exact f
    | ct en1 => rw [q] at f; exact f
    | rt en1 r => rw [q] at f; exact f
    | ex en1 x => rw [q] at f; exact f
    | no => rw [q] at f; exact f
theorem ds_one (h1 : DS X g W st b) : DSs X g W [st] b := pss_one h1
theorem ds_pass : DS X g W (.Pass pos) bNil := PS.imp ps_pass fun E σ H h => by
  obtain ⟨F, en, rp, f⟩ := h
  exact f σ F H (Same.refl _) rp
theorem ds_expr (he : DE X g W e f) (hs : swapsWith e none pos.line X.env = pure false := by rfl) : DS X g W (.Expr e pos) (bExpr f) := by
  refine PS.imp (ps_expr he hs) fun E σ H h => ?_
  obtain ⟨F, en, rp, f⟩ := h
  exact ⟨F, en, rp, FinS.of_out f fun F' H' en' r s rp' k v hv => k σ F' H' (Same.refl _) rp'⟩
theorem ds_ret (he : DE X g W e f) : DS X g W (.Return (some e) pos) (bRet f) := by
  refine PS.imp (ps_ret he) fun E σ H h => ?_
  obtain ⟨F, en, rp, f⟩ := h
  refine ⟨F, en, rp, FinS.of_out f fun F' H' en' r s rp' k v hv => ?_⟩
  cases r with
  | d d => exact k v σ F' H' (Same.refl _) rp' hv
  | s i => exact k.elim
theorem ds_retO {f : Ov} (he : DO X g W e f) : DS X g W (.Return (some e) pos) (bRetO f) := by
  refine PS.imp (ps_ret he) fun E σ H h => ?_
  obtain ⟨F, en, rp, f⟩ := h
  refine ⟨F, en, rp, FinS.of_out f fun F' H' en' d s rp' k p H'' r2 n => ?_⟩
  exact k _ σ F' H'' (Same.refl _) r2 ⟨p, rfl, n.at_, n.nf, n.nh⟩
theorem ds_retN : DS X g W (.Return none pos) bRetN := PS.imp ps_retN fun E σ H h => by
  obtain ⟨F, en, rp, f⟩ := h
  exact f .non σ F H (Same.refl _) rp .non
theorem ds_if {a b : List Stmt} {ba bb : Bd} (hc : DT X g W c t) (ha : DSs X g W a ba) (hb : DSs X g W b bb) : DS X g W (.If c a b pos) (bIf t ba bb) := by
  refine PS.imp (ps_if hc ha hb) fun E σ H h => ?_
  obtain ⟨F, en, rp, f⟩ := h
  refine ⟨F, en, rp, FinS.of_out f fun F' H' en' k s rp' q => ?_⟩
  cases k with
  | true => exact ⟨F', en', rp', q⟩
  | false => exact ⟨F', en', rp', q⟩
theorem ds_set {i : Nat} {x : Str} {pos' : Pos} (hN : X.N.Nodup) (hi : X.N[i]? = some x) (hx : Loc X.env.scope x) (he : DE X g W e f) (hs : swapsWith e (some (.Name x pos')) pos.line X.env = pure false := by rfl) (hf : X.fn x = true ∨ X.env.scope.names.lookup x = some .local := by first | exact .inl rfl | exact .inr rfl | assumption) :
    DS X g W (.Assign [.Name x pos'] e pos) (bSet i f) := by
  refine PS.imp (ps_set hN hi hx he hs hf) fun E σ H h => ?_
  obtain ⟨F, en, rp, f⟩ := h
  refine ⟨F, en, rp, FinS.of_out f fun F' H' en' r s rp' k v hv => ?_⟩
  cases q : stV en' i r with
  | none => rw [q] at k; exact k.elim
  | some en2 =>
    rw [q] at k
    exact k _ F' H' (Same.refl _) (rp'.stV hv q)
theorem ds_setO {i : Nat} {x : Str} {pos' : Pos} {f : Ov} (hN : X.N.Nodup) (hi : X.N[i]? = some x) (hx : Loc X.env.scope x) (he : DO X g W e f) (hs : swapsWith e (some (.Name x pos')) pos.line X.env = pure false := by rfl) (hf : X.fn x = true ∨ X.env.scope.names.lookup x = some .local := by first | exact .inl rfl | exact .inr rfl | assumption) :
    DS X g W (.Assign [.Name x pos'] e pos) (bSetO i f) := by
  refine PS.imp (ps_set hN hi hx he hs hf) fun E σ H h => ?_
  obtain ⟨F, en, rp, f⟩ := h
  refine ⟨F, en, rp, FinS.of_out f fun F' H' en' d s rp' k p H'' r2 n => ?_⟩
  cases q : putS en' i (.own false d) with
  | none => rw [q] at k; exact k.elim
  | some en2 =>
    rw [q] at k
    exact k _ F' H'' (Same.refl _) (r2.stO n q)
end

/-! ### targets, for, while -/
abbrev Tg := D → En → Option En
def tgName (i : Nat) : Tg := fun d en => putS en i (.val d)
abbrev Tgs := List D → En → Option En
def tgNil : Tgs := fun ds en => match ds with
  | [] => some en
  | _ => none
def tgCons (t : Tg) (u : Tgs) : Tgs := fun ds en => match ds with
  | d :: r => (match t d en with
    | some en1 => u r en1
    | none => none)
  | [] => none
def tgTup (u : Tgs) : Tg := fun d en => match d with
  | .tuple ds => u ds en
  | _ => none
/-- only the slots at ts differ -/
def But (ts : List Nat) (σ σ' : St) : Prop := σ'.length = σ.length ∧ ∀ k : Nat, k ∉ ts → σ'[k]? = σ[k]?
theorem But.trans {ts us : List Nat} {σ σ1 σ2 : St} (a : But ts σ σ1) (b : But us σ1 σ2) : But (ts ++ us) σ σ2 := ⟨b.1.trans a.1, fun k hk => (b.2 k fun z => hk (List.mem_append.mpr (.inr z))).trans (a.2 k fun z => hk (List.mem_append.mpr (.inl z)))⟩
def liftG (K : PySem.W.Frag) (g : Gh) (t : Tg) (ts : List Nat) : TG := fun v σ H Q => ∃ F en d en', Rep K g F en σ H ∧ Dv K F v d ∧ t d en = some en' ∧ ∀ σ', Rep K g F en' σ' H → But ts σ σ' → Q σ' H
def liftGs (K : PySem.W.Frag) (g : Gh) (t : Tgs) (ts : List Nat) : TGs := fun vs σ H Q => ∃ F en ds en', Rep K g F en σ H ∧ DvAll K F vs ds ∧ t ds en = some en' ∧ ∀ σ', Rep K g F en' σ' H → But ts σ σ' → Q σ' H
def DG (X : Cx) (g : Gh) (tg : Expr) (t : Tg) (ts : List Nat) : Prop := PG X tg (liftG X.K g t ts)
def DGs (X : Cx) (g : Gh) (tg : List Expr) (t : Tgs) (ts : List Nat) : Prop := PGs X tg (liftGs X.K g t ts)
theorem PG.imp {X : Cx} {e : Expr} {t t' : TG} (h : PG X e t) (i : ∀ v σ H Q, t' v σ H Q → t v σ H Q) : PG X e t' := ⟨fun pins s σ H v u Q I r q => h.run pins s σ H v u Q I r (i v σ H Q q)⟩
theorem PGs.imp {X : Cx} {e : List Expr} {t t' : TGs} (h : PGs X e t) (i : ∀ v σ H Q, t' v σ H Q → t v σ H Q) : PGs X e t' := ⟨fun pins s σ H v u Q I r q => h.run pins s σ H v u Q I r (i v σ H Q q)⟩
section
variable {X : Cx} {g : Gh} {W : XW} {pos : Pos} {e : Expr} {es : List Expr} {t : Tg} {u : Tgs}
theorem dg_name {i : Nat} {x : Str} (hN : X.N.Nodup) (hi : X.N[i]? = some x) (hx : Loc X.env.scope x) (hf : X.fn x = true ∨ X.env.scope.names.lookup x = some .local := by first | exact .inl rfl | exact .inr rfl | assumption) : DG X g (.Name x pos) (tgName i) [i] := by
  refine PG.imp (pg_name hN hi hx hf) fun v σ H Q h => ?_
  obtain ⟨F, en, d, en', rp, q, e, k⟩ := h
  exact k _ (rp.putV e q) ⟨List.length_set, fun j hj => List.getElem?_set_ne fun z => hj (by simp [z])⟩
theorem dgs_nil : DGs X g [] tgNil [] := by
  refine PGs.imp pgs_nil fun v σ H Q h => ?_
  obtain ⟨F, en, ds, en', rp, q, e, k⟩ := h
  cases q with
  | nil =>
    have : en = en' := Option.some.inj e
    subst this
    exact ⟨rfl, k _ rp ⟨rfl, fun _ _ => rfl⟩⟩
  | cons a b => cases e
theorem dgs_cons {ts us : List Nat} (h1 : DG X g e t ts) (h2 : DGs X g es u us) (hs : (assignEach (e :: es) X.env).map (·.2) = assign e X.env :: (assignEach es X.env).map (·.2) := by rfl) : DGs X g (e :: es) (tgCons t u) (ts ++ us) := by
  refine PGs.imp (pgs_cons h1 h2 hs) fun v σ H Q h => ?_
  obtain ⟨F, en, ds, en', rp, q, e, k⟩ := h
  cases q with
  | nil => cases e
  | cons a b =>
    rename_i v vs d ds
    unfold tgCons at e
    dsimp only at e
    cases q1 : t d en with
    | none => rw [q1] at e; cases e
    | some en1 =>
      rw [q1] at e
      exact ⟨v, vs, rfl, F, en, d, en1, rp, a, q1, fun σ' r' b1 => ⟨F, en1, ds, en', r', b, e, fun σ2 r2 b2 => k σ2 r2 (b1.trans b2)⟩⟩
theorem dg_tup {k n : Nat} {ts : List Nat} (hc : X.calm = true) (h : DGs X g es u ts) (hn : (assignEach es X.env).length = n := by rfl) (hst : (assignEach es X.env).findIdx? (·.1) = none := by rfl) (hl : ∀ ds en en', u ds en = some en' → ds.length = n) : DG X g (.Tuple es k pos) (tgTup u) ts := by
  refine PG.imp (pg_tup hc h hn hst) fun v σ H Q h => ?_
  obtain ⟨F, en, d, en', rp, q, e, k⟩ := h
  cases q <;> first | (cases e; done) | skip
  rename_i a xs ds q1 q2
  exact ⟨a, xs, rfl, sqT_mono rp.fz q1, q2.length.trans (hl ds en en' e), F, en, ds, en', rp, q2, e, k⟩
theorem tgNil_len : ∀ ds en en', tgNil ds en = some en' → ds.length = 0 := fun ds en en' e => by
  cases ds with
  | nil => rfl
  | cons a b => cases e
theorem tgCons_len {t : Tg} {u : Tgs} {n : Nat} (h : ∀ ds en en', u ds en = some en' → ds.length = n) : ∀ ds en en', tgCons t u ds en = some en' → ds.length = n + 1 := fun ds en en' e => by
  cases ds with
  | nil => cases e
  | cons a b =>
    unfold tgCons at e
    dsimp only at e
    split at e
    · exact congrArg (· + 1) (h _ _ _ e)
    · cases e
end

/-- what a loop walks: data that stand still -/
def ItOk (K : PySem.W.Frag) (F : Hp) (G : Hp → Hp → Prop) (J : It) (ds : List D) : Prop := ∀ i F1 H1, Same F F1 → Same F1 H1 → G F1 H1 →
  (∀ x, ds[i]? = some x → J.go i H1 ∧ ∀ v H2, J.yld i H1 v H2 → ∃ F2, Ext F1 H1 F2 H2 ∧ Dv K F2 v x) ∧ (ds.length = i → J.stop i H1)
abbrev Iv := En → Rs (List D)
def liftI (K : PySem.W.Frag) (g : Gh) (W : XW) (f : Iv) : TI := fun σ H R => ∃ F en, Rep K g F en σ H ∧ Fin K g W σ F (f en) fun F' H' _ ds => ∀ J, ItOk K F' (fun _ _ => True) J ds → R J H'
def DI (X : Cx) (g : Gh) (W : XW) (tg iter : Expr) (f : Iv) : Prop := PI X tg iter (liftI X.K g W f)
theorem PI.imp {X : Cx} {tg iter : Expr} {t t' : TI} (h : PI X tg iter t) (i : ∀ σ H R, t' σ H R → t σ H R) : PI X tg iter t' := ⟨fun pins s σ H R I q => h.run pins s σ H R I (i σ H R q)⟩
/-- the turns -/
def forL (tg : Tg) (body : Bd) : List D → Bd
  | [], en => .nx en
  | d :: ds, en => match tg d en with
    | none => .no
    | some en1 => (match body en1 with
      | .nx en2 => forL tg body ds en2
      | .ct en2 => forL tg body ds en2
      | .bk en2 => .nx en2
      | o => o)
def bFor (it : Iv) (tg : Tg) (body : Bd) : Bd := fun en => (it en).out fun en1 ds => forL tg body ds en1
theorem ds_for {X : Cx} {g : Gh} {W : XW} {tg iter : Expr} {body : List Stmt} {pos : Pos} {it : Iv} {t : Tg} {ts : List Nat} {b : Bd} (hp : PassesOwn (model X.prog X.w) X.A X.env X.xe) (hc : X.calm = true) (hi : DI X g W tg iter it) (hg : DG X g tg t ts) (hb : DSs X g W body b)
    (hs : ∀ x, foldedSetIterable iter X.env x = pure x := by intro _; rfl) : DS X g W (.For tg iter body [] pos) (bFor it t b) := by
  refine PS.imp (ps_for hp hc hi hg hb hs) fun E σ H h => ?_
  obtain ⟨F, en, rp, f⟩ := h
  refine ⟨F, en, rp, FinS.of_out f fun F1 H1 en1 ds s1 r1 f1 J hJ => ?_⟩
  refine ⟨fun i m σ H => m = ds.length - i ∧ i ≤ ds.length ∧ ∃ F2 en2, Same F1 F2 ∧ Rep X.K g F2 en2 σ H ∧ FinS X.K g W F2 (forL t b (ds.drop i) en2) E, ⟨ds.length, by simp, Nat.zero_le _, F1, en1, Same.refl _, r1, f1⟩, ?_⟩
  rintro i m σ H ⟨rfl, hi, F2, en2, s2, r2, f2⟩
  obtain ⟨j1, j2⟩ := hJ i F2 H s2 r2.fz trivial
  by_cases hlt : i < ds.length
  · have e1 : ds[i]? = some ds[i] := List.getElem?_eq_getElem hlt
    obtain ⟨g1, g2⟩ := j1 _ e1
    have ed : ds.drop i = ds[i] :: ds.drop (i + 1) := List.drop_eq_getElem_cons hlt
    rw [ed] at f2
    unfold forL at f2
    refine .inr ⟨g1, fun σ' H' => ∃ F3 en3, Same F1 F3 ∧ Rep X.K g F3 en3 σ' H' ∧ FinS X.K g W F3 (forL t b (ds.drop (i + 1)) en3) E, fun σ' H' ⟨F3, en3, z1, z2, z3⟩ => ⟨ds.length - (i + 1), by omega, rfl, hlt, F3, en3, z1, z2, z3⟩, fun v H' y => ?_⟩
    obtain ⟨F3, x3, q3⟩ := g2 v H' y
    have r3 := r2.ext x3
    cases e2 : t ds[i] en2 with
    | none => rw [e2] at f2; exact f2.elim
    | some en3 =>
      rw [e2] at f2
      dsimp only at f2
      have f2 := FinS.weak x3.le f2
      refine ⟨F3, en2, ds[i], en3, r3, q3, e2, fun σ' r' _ => ⟨F3, en3, r', ?_⟩⟩
      cases e3 : b en3 with
      | nx en4 =>
        rw [e3] at f2
        exact fun σ4 F4 H4 s4 r4 => ⟨F4, en4, s2.trans (x3.le.trans s4), r4, FinS.weak s4 f2⟩
      | ct en4 =>
        rw [e3] at f2
        exact fun σ4 F4 H4 s4 r4 => ⟨F4, en4, s2.trans (x3.le.trans s4), r4, FinS.weak s4 f2⟩
      | bk en4 => rw [e3] at f2; exact f2
      | rt en4 r => rw [e3] at f2; exact f2
      | ex en4 x => rw [e3] at f2; exact f2
      | no => rw [e3] at f2; exact f2
  · have e1 : i = ds.length := by omega
    rw [List.drop_of_length_le (by omega)] at f2
    exact .inl ⟨j2 (by omega), f2 σ F2 H (Same.refl _) r2⟩
/-- while, at most so many turns -/
def whileN (c : Tv) (body : Bd) : Nat → Bd
  | 0, _ => .no
  | n + 1, en => (c en).out fun en1 k => if k = true then (match body en1 with
      | .nx en2 => whileN c body n en2
      | .ct en2 => whileN c body n en2
      | .bk en2 => .nx en2
      | o => o) else .nx en1
theorem ds_while {X : Cx} {g : Gh} {W : XW} {c : Expr} {body : List Stmt} {pos : Pos} {t : Tv} {b : Bd} (n : Nat) (hp : PassesOwn (model X.prog X.w) X.A X.env X.xe) (hc : DT X g W c t) (hb : DSs X g W body b) : DS X g W (.While c body [] pos) (whileN t b n) := by
  refine PS.imp (ps_while hp hc hb) fun E σ H h => ?_
  obtain ⟨F, en, rp, f⟩ := h
  refine ⟨fun m σ H => ∃ F2 en2, Rep X.K g F2 en2 σ H ∧ FinS X.K g W F2 (whileN t b m en2) E, ⟨n, F, en, rp, f⟩, ?_⟩
  rintro m σ H ⟨F2, en2, r2, f2⟩
  cases m with
  | zero => exact f2.elim
  | succ m =>
    refine ⟨F2, en2, r2, FinS.of_out f2 fun F3 H3 en3 k s3 r3 f3 => ?_⟩
    cases k with
    | false => exact f3 σ F3 H3 (Same.refl _) r3
    | true =>
      rw [if_pos rfl] at f3 ⊢
      refine ⟨fun σ' H' => ∃ F4 en4, Rep X.K g F4 en4 σ' H' ∧ FinS X.K g W F4 (whileN t b m en4) E, fun σ' H' z => ⟨m, Nat.lt_succ_self m, z⟩, F3, en3, r3, ?_⟩
      cases e3 : b en3 with
      | nx en4 =>
        rw [e3] at f3
        exact fun σ4 F4 H4 s4 r4 => ⟨F4, en4, r4, FinS.weak s4 f3⟩
      | ct en4 =>
        rw [e3] at f3
        exact fun σ4 F4 H4 s4 r4 => ⟨F4, en4, r4, FinS.weak s4 f3⟩
      | bk en4 => rw [e3] at f3; exact f3
      | rt en4 r => rw [e3] at f3; exact f3
      | ex en4 x => rw [e3] at f3; exact f3
      | no => rw [e3] at f3; exact f3
end DL
/-! Dl6: a def's worth from its body; raise; try .. except X as e. -/
namespace DL
open PySem PySem.Spec L2
open PyProof.Rows hiding St

def arSl : Ar → Sl
  | .v d => .val d
  | .o d => .own true d
def startEn (n : Nat) (as : List Ar) : En := as.map arSl ++ List.replicate (n - as.length) .un
def outsOf (en : En) : Nat → List Ar → Option (List D)
  | _, [] => some []
  | i, .v _ :: as => outsOf en (i + 1) as
  | i, .o _ :: as => match en[i]? with
    | some (.own true d) => (match outsOf en (i + 1) as with
      | some ds => some (d :: ds)
      | none => none)
    | _ => none
def endFn (as : List Ar) (o : Out) : Rf := match o with
  | .rt en r => (match outsOf en 0 as with
    | some os => .ok r os
    | none => .no)
  | .nx en => (match outsOf en 0 as with
    | some os => .ok (.v .none) os
    | none => .no)
  | .ex en x => (match outsOf en 0 as with
    | some os => .ex x os
    | none => .no)
  | _ => .no
/-- a def of m parameters and n names -/
def runFn (m n : Nat) (b : Bd) : Fs := fun as => if as.length = m then endFn as (b (startEn n as)) else .no

section
variable {K : PySem.W.Frag} {g : Gh} {F H : Hp}
theorem ArgsOk.length : ∀ {vs : List V} {as : List Ar} {ps : List Addr}, ArgsOk K F H vs as ps → vs.length = as.length
  | [], [], [], _ => rfl
  | _ :: vs, .v d :: as, ps, h => congrArg (· + 1) (ArgsOk.length h.2)
  | _ :: vs, .o d :: as, p :: ps, h => congrArg (· + 1) (ArgsOk.length h.2.2.2)
  | [], [], _ :: _, h => h.elim
  | [], .v _ :: _, _, h => h.elim
  | [], .o _ :: _, _, h => by cases h
  | _ :: _, [], _, h => by cases h
  | _ :: _, .o _ :: _, [], h => h.elim
/-- the places of the owned parameters -/
def parL : Nat → List Ar → List Addr → List (Nat × Addr)
  | i, .v _ :: as, ps => parL (i + 1) as ps
  | i, .o _ :: as, p :: ps => (i, p) :: parL (i + 1) as ps
  | _, _, _ => []
/-- the slots of the start, one by one -/
theorem start_at : ∀ {vs : List V} {as : List Ar} {ps : List Addr}, ArgsOk K F H vs as ps → ∀ (k : Nat) (s : Sl), (as.map arSl)[k]? = some s →
    ∃ v, vs[k]? = some v ∧ ((∃ d, s = .val d ∧ Dv K F v d) ∨ ∃ p d, s = .own true d ∧ v = .ref p ∧ p ∈ ps ∧ OwnAt K F H p d ∧ F p = none)
  | [], [], [], _, k, s, e => by simp at e
  | v :: vs, .v d :: as, ps, h, 0, s, e => by
    have : arSl (.v d) = s := by simpa using e
    subst this
    exact ⟨v, rfl, .inl ⟨d, rfl, h.1⟩⟩
  | v :: vs, .v d :: as, ps, h, k + 1, s, e => by
    obtain ⟨u, e1, q⟩ := start_at h.2 k s (by simpa using e)
    exact ⟨u, by simpa using e1, q⟩
  | v :: vs, .o d :: as, p :: ps, h, 0, s, e => by
    have : arSl (.o d) = s := by simpa using e
    subst this
    exact ⟨v, rfl, .inr ⟨p, d, rfl, h.1, List.mem_cons_self, h.2.1, h.2.2.1⟩⟩
  | v :: vs, .o d :: as, p :: ps, h, k + 1, s, e => by
    obtain ⟨u, e1, q⟩ := start_at h.2.2.2 k s (by simpa using e)
    refine ⟨u, by simpa using e1, ?_⟩
    rcases q with q | ⟨p', d', z1, z2, z3, z4⟩
    · exact .inl q
    · exact .inr ⟨p', d', z1, z2, List.mem_cons_of_mem _ z3, z4⟩
  | [], [], _ :: _, h, _, _, _ => h.elim
  | [], .v _ :: _, _, h, _, _, _ => h.elim
  | [], .o _ :: _, _, h, _, _, _ => by cases h
  | _ :: _, [], _, h, _, _, _ => by cases h
  | _ :: _, .o _ :: _, [], h, _, _, _ => h.elim
theorem start_sep : ∀ {vs : List V} {as : List Ar} {ps : List Addr}, ArgsOk K F H vs as ps → ps.Nodup → ∀ (i j : Nat) (b c : Bool) (d e : D), i ≠ j → (as.map arSl)[i]? = some (.own b d) → (as.map arSl)[j]? = some (.own c e) → vs[i]? ≠ vs[j]?
  | [], [], [], _, _, i, j, b, c, d, e, _, h1, _ => by simp at h1
  | v :: vs, .v d :: as, ps, h, n, 0, j, b, c, d', e, _, h1, _ => by simp [arSl] at h1
  | v :: vs, .v d :: as, ps, h, n, i + 1, 0, b, c, d', e, _, _, h2 => by simp [arSl] at h2
  | v :: vs, .v d :: as, ps, h, n, i + 1, j + 1, b, c, d', e, hne, h1, h2 => by
    have := start_sep h.2 n i j b c d' e (by omega) (by simpa using h1) (by simpa using h2)
    simpa using this
  | v :: vs, .o d :: as, p :: ps, h, n, 0, 0, b, c, d', e, hne, _, _ => absurd rfl hne
  | v :: vs, .o d :: as, p :: ps, h, n, 0, j + 1, b, c, d', e, hne, h1, h2 => by
    obtain ⟨n1, n2⟩ := List.nodup_cons.mp n
    obtain ⟨u, e1, q⟩ := start_at h.2.2.2 j _ (by simpa using h2)
    rcases q with ⟨d2, q, _⟩ | ⟨p', d2, q, z2, z3, _⟩
    · cases q
    · have hv := h.1
      subst z2 hv
      simp only [List.getElem?_cons_zero, List.getElem?_cons_succ, e1]
      intro z
      cases z
      exact n1 z3
  | v :: vs, .o d :: as, p :: ps, h, n, i + 1, 0, b, c, d', e, hne, h1, h2 => by
    obtain ⟨n1, n2⟩ := List.nodup_cons.mp n
    obtain ⟨u, e1, q⟩ := start_at h.2.2.2 i _ (by simpa using h1)
    rcases q with ⟨d2, q, _⟩ | ⟨p', d2, q, z2, z3, _⟩
    · cases q
    · have hv := h.1
      subst z2 hv
      simp only [List.getElem?_cons_zero, List.getElem?_cons_succ, e1]
      intro z
      cases z
      exact n1 z3
  | v :: vs, .o d :: as, p :: ps, h, n, i + 1, j + 1, b, c, d', e, hne, h1, h2 => by
    have := start_sep h.2.2.2 (List.nodup_cons.mp n).2 i j b c d' e (by omega) (by simpa using h1) (by simpa using h2)
    simpa using this
  | [], [], _ :: _, h, _, _, _, _, _, _, _, _, _, _ => h.elim
  | [], .v _ :: _, _, h, _, _, _, _, _, _, _, _, _, _ => h.elim
  | [], .o _ :: _, _, h, _, _, _, _, _, _, _, _, _, _ => by cases h
  | _ :: _, [], _, h, _, _, _, _, _, _, _, _, _, _ => by cases h
  | _ :: _, .o _ :: _, [], h, _, _, _, _, _, _, _, _, _, _ => h.elim
theorem parL_at : ∀ {vs : List V} {as : List Ar} {ps : List Addr}, ArgsOk K F H vs as ps → ∀ (m i : Nat) (p : Addr), (i, p) ∈ parL m as ps → m ≤ i ∧ vs[i - m]? = some (.ref p) ∧ ∃ d, (as.map arSl)[i - m]? = some (.own true d)
  | [], [], [], _, m, i, p, h => by cases h
  | v :: vs, .v d :: as, ps, h, m, i, p, hm => by
    obtain ⟨h1, h2, d', h3⟩ := parL_at h.2 (m + 1) i p hm
    have e : i - m = (i - (m + 1)) + 1 := by omega
    rw [e]
    exact ⟨by omega, by simpa using h2, d', by simpa using h3⟩
  | v :: vs, .o d :: as, q :: ps, h, m, i, p, hm => by
    rcases List.mem_cons.mp hm with e | hm
    · cases e
      have hv := h.1
      subst hv
      simp [arSl]
    · obtain ⟨h1, h2, d', h3⟩ := parL_at h.2.2.2 (m + 1) i p hm
      have e : i - m = (i - (m + 1)) + 1 := by omega
      rw [e]
      exact ⟨by omega, by simpa using h2, d', by simpa using h3⟩
  | [], [], _ :: _, h, _, _, _, _ => h.elim
  | [], .v _ :: _, _, h, _, _, _, _ => h.elim
  | [], .o _ :: _, _, h, _, _, _, _ => by cases h
  | _ :: _, [], _, h, _, _, _, _ => by cases h
  | _ :: _, .o _ :: _, [], h, _, _, _, _ => h.elim
theorem args_alive : ∀ {vs : List V} {as : List Ar} {ps : List Addr}, ArgsOk K F H vs as ps → ∀ p ∈ ps, H p ≠ none
  | [], [], [], _, p, h => by cases h
  | v :: vs, .v d :: as, ps, h, p, hm => args_alive h.2 p hm
  | v :: vs, .o d :: as, q :: ps, h, p, hm => by
    rcases List.mem_cons.mp hm with e | hm
    · subst e; exact h.2.1.ne
    · exact args_alive h.2.2.2 p hm
  | [], [], _ :: _, h, _, _ => h.elim
  | [], .v _ :: _, _, h, _, _ => h.elim
  | [], .o _ :: _, _, h, _, _ => by cases h
  | _ :: _, [], _, h, _, _ => by cases h
  | _ :: _, .o _ :: _, [], h, _, _ => h.elim
/-- the start's likeness -/
theorem rep_start {N : List Str} {vs : List V} {as : List Ar} {ps : List Addr} (s : Same F H) (a : ArgsOk K F H vs as ps) (n : ps.Nodup) : Rep K ⟨F, H, ps, parL 0 as ps, []⟩ F (startEn N.length as) (L2.start N vs) H := by
  have len := a.length
  have low : ∀ {k : Nat} {sl : Sl}, (startEn N.length as)[k]? = some sl → sl ≠ .un → (as.map arSl)[k]? = some sl := fun {k sl} e ne => by
    unfold startEn at e
    by_cases hk : k < (as.map arSl).length
    · rw [List.getElem?_append_left hk] at e; exact e
    · rw [List.getElem?_append_right (by omega)] at e
      have := List.mem_of_getElem? e
      exact absurd (List.eq_of_mem_replicate this) ne
  have slot : ∀ {k : Nat} {v : V}, vs[k]? = some v → (L2.start N vs)[k]? = some (some v) := fun {k v} e => by
    unfold L2.start
    have hk := (List.getElem?_eq_some_iff.mp e).1
    rw [List.getElem?_append_left (by simpa using hk), List.getElem?_map, e]
    rfl
  refine ⟨s, fun _ _ e _ => e, args_alive a, fun _ e _ _ => e, by unfold startEn L2.start; simp [len], fun k d e => ?_, fun k b d e => ?_, fun k j e => ?_, fun i j b c d e hne e1 e2 => ?_, fun i p hm => ?_, fun i p hm => by cases hm⟩
  · obtain ⟨v, e1, q⟩ := start_at a k _ (low e fun z => by cases z)
    rcases q with ⟨d', q, dv⟩ | ⟨p, d', q, _⟩
    · cases q; exact ⟨v, slot e1, dv⟩
    · cases q
  · obtain ⟨v, e1, q⟩ := start_at a k _ (low e fun z => by cases z)
    rcases q with ⟨d', q, dv⟩ | ⟨p, d', q, rfl, z1, z2, z3⟩
    · cases q
    · cases q; exact ⟨p, slot e1, z2, z3, .inl z1⟩
  · obtain ⟨v, e1, q⟩ := start_at a k _ (low e fun z => by cases z)
    rcases q with ⟨d', q, dv⟩ | ⟨p, d', q, _⟩ <;> cases q
  · have h1 := low e1 fun z => by cases z
    have h2 := low e2 fun z => by cases z
    obtain ⟨v, x1, _⟩ := start_at a i _ h1
    obtain ⟨u, x2, _⟩ := start_at a j _ h2
    rw [slot x1, slot x2]
    intro z
    exact start_sep a n i j b c d e hne h1 h2 (by rw [x1, x2]; exact Option.some.inj z)
  · obtain ⟨_, h2, d, h3⟩ := parL_at a 0 i p hm
    refine ⟨slot h2, d, ?_⟩
    unfold startEn
    rw [Nat.sub_zero] at h3
    rw [List.getElem?_append_left (List.getElem?_eq_some_iff.mp h3).1]
    exact h3
theorem outs_ok {g : Gh} {en : En} {σ : St} : ∀ {vs : List V} {as : List Ar} {ps : List Addr} {F0 H0 : Hp} {m : Nat} {os : List D}, ArgsOk K F0 H0 vs as ps → (∀ x ∈ parL m as ps, x ∈ g.Pl) → Rep K g F en σ H → outsOf en m as = some os → OutsOk K F H ps os
  | [], [], [], _, _, m, os, _, _, _, e => by
    cases e
    trivial
  | v :: vs, .v d :: as, ps, _, _, m, os, h, hp, r, e => outs_ok h.2 hp r e
  | v :: vs, .o d :: as, p :: ps, _, _, m, os, h, hp, r, e => by
    unfold outsOf at e
    split at e
    · rename_i d' e1
      split at e
      · rename_i ds e2
        cases e
        have hm := hp (m, p) List.mem_cons_self
        obtain ⟨z1, _⟩ := r.pl m p hm
        obtain ⟨q, z2, z3, z4, _⟩ := r.own m true d' e1
        rw [z1] at z2
        cases z2
        exact ⟨z3, z4, outs_ok h.2.2.2 (fun x hx => hp x (List.mem_cons_of_mem _ hx)) r e2⟩
      · cases e
    · cases e
  | [], [], _ :: _, _, _, _, _, h, _, _, _ => h.elim
  | [], .v _ :: _, _, _, _, _, _, h, _, _, _ => h.elim
  | [], .o _ :: _, _, _, _, _, _, h, _, _, _ => by cases h
  | _ :: _, [], _, _, _, _, _, h, _, _, _ => by cases h
  | _ :: _, .o _ :: _, [], _, _, _, _, h, _, _, _ => h.elim
end

/-- what may be changed stands at its slots -/
def Full (g : Gh) : Prop := ∀ p ∈ g.Ps, ∃ i, (i, p) ∈ g.Pl
section
variable {K : PySem.W.Frag}
theorem parL_full : ∀ {as : List Ar} {ps : List Addr} {F H : Hp} {vs : List V} (m : Nat), ArgsOk K F H vs as ps → ∀ p ∈ ps, ∃ i, (i, p) ∈ parL m as ps
  | [], [], _, _, [], _, _, p, h => by cases h
  | .v _ :: as, ps, F, H, v :: vs, m, a, p, h => by
    obtain ⟨i, hi⟩ := parL_full (m + 1) a.2 p h
    exact ⟨i, hi⟩
  | .o _ :: as, q :: ps, F, H, v :: vs, m, a, p, h => by
    rcases List.mem_cons.mp h with rfl | h
    · exact ⟨m, List.mem_cons_self⟩
    · obtain ⟨i, hi⟩ := parL_full (m + 1) a.2.2.2 p h
      exact ⟨i, List.mem_cons_of_mem _ hi⟩
  | [], _ :: _, _, _, [], _, h, _, _ => h.elim
  | .v _ :: _, _, _, _, [], _, h, _, _ => h.elim
  | .o _ :: _, _, _, _, [], _, h, _, _ => by cases h
  | [], _, _, _, _ :: _, _, h, _, _ => by cases h
  | .o _ :: _, [], _, _, _ :: _, _, h, _, _ => h.elim
end
/-- the wish of a def's own way out -/
abbrev WHf (K : PySem.W.Frag) (mg : Str → Option Value) (E : XK) : XW := WH K mg fun cls d _ H => E cls d H
section
variable {P : Program} {w : World} {K : PySem.W.Frag} {mg : Str → Option Value} {base : Heap}
/-- THE RULE for a def: what its body means is what it is worth -/
theorem mkFn {x qual : Str} {st : Stmt} {f : Addr} {fd : FuncData} {N ps : List Str} {k : Nat} {b : Bd} (F : Fun K x qual st f fd) (S : FnScope N ps (defScope st))
    (hb : ∀ (cdv : Value) (A : Around) (outer : List Env) (s : Shared) (H : Hp) (E : XK) (g : Gh), Full g → Room k (A.deeper (envOfC qual (defScope st) s.heap.objs.size f cdv)) →
      DSs (cxOf (L2.CX P w) P w K mg base N qual (defScope st) f cdv A outer s H E) g (WHf K mg E) (defBody st) b) : FnOk P w K mg base (L2.CX P w) (k + 1) f fd ps (spF K mg (runFn ps.length N.length b)) := by
  refine F.okX S (fun vs H Q E h => ?_) (fun cdv A outer s H vs Q E hr h => ?_)
  · obtain ⟨F, as, ps', _, a, _, m⟩ := h
    unfold runFn at m
    by_cases hl : as.length = ps.length
    · rw [a.length, hl]
    · rw [if_neg hl] at m; exact m.elim
  · obtain ⟨F, as, ps', sF, a, nd, m⟩ := h
    refine ⟨_, hb cdv A outer s H E ⟨F, H, ps', parL 0 as ps', []⟩ (fun p hp => parL_full 0 a p hp) hr, F, startEn N.length as, rep_start sF a nd, ?_⟩
    unfold runFn at m
    by_cases hl : as.length = ps.length
    · rw [if_pos hl] at m
      have ext : ∀ {en : En} {σ : St} {F' H' : Hp}, Same F F' → Rep K ⟨F, H, ps', parL 0 as ps', []⟩ F' en σ H' → CallExt F H ps' F' H' := fun s r => ⟨r.fr, s, r.fz, r.nw⟩
      have outs : ∀ {en : En} {σ : St} {F' H' : Hp} {os : List D}, Rep K ⟨F, H, ps', parL 0 as ps', []⟩ F' en σ H' → outsOf en 0 as = some os → OutsOk K F' H' ps' os := fun r e => outs_ok a (fun _ h => h) r e
      cases e1 : b (startEn N.length as) with
      | nx en =>
        rw [e1] at m
        unfold endFn at m
        dsimp only at m
        cases e2 : outsOf en 0 as with
        | none => rw [e2] at m; exact m.elim
        | some os =>
          rw [e2] at m
          exact fun σ' F' H' s r => m .non F' H' (ext s r) (outs r e2) .non
      | rt en rr =>
        rw [e1] at m
        unfold endFn at m
        dsimp only at m
        cases e2 : outsOf en 0 as with
        | none => rw [e2] at m; exact m.elim
        | some os =>
          rw [e2] at m
          refine fun v σ' F' H' s r q => m v F' H' (ext s r) (outs r e2) ?_
          cases rr with
          | v d => exact q
          | o d => exact q
      | ex en x =>
        rw [e1] at m
        unfold endFn at m
        dsimp only at m
        cases e2 : outsOf en 0 as with
        | none => rw [e2] at m; exact m.elim
        | some os =>
          rw [e2] at m
          exact fun σ' F' H' s r cls dx er => m F' H' cls dx (ext s r) (outs r e2) er
      | bk en => rw [e1] at m; exact m.elim
      | ct en => rw [e1] at m; exact m.elim
      | no => rw [e1] at m; exact m.elim
    · rw [if_neg hl] at m; exact m.elim
theorem Callee.mk' {x qual : Str} {st : Stmt} {f : Addr} {fd : FuncData} {ps : List Str} {k : Nat} {fs : Fs} (F : Fun K x qual st f fd) (hm : mg x = some (.ref f)) (h : FnOk P w K mg base (L2.CX P w) k f fd ps (spF K mg fs)) (hb : Binds K fd ps []) : Callee P w K mg base x k fs :=
  ⟨f, fd, ps, hm, h, F.kp, hb⟩
/-- a def's worth, told otherwise -/
theorem Callee.imp {x : Str} {k : Nat} {fs fs' : Fs} (C : Callee P w K mg base x k fs) (h : ∀ as, fs' as = .no ∨ fs as = fs' as) : Callee P w K mg base x k fs' := by
  obtain ⟨f, fd, ps, hm, F, kp, hb⟩ := C.ex
  refine ⟨f, fd, ps, hm, F.imp fun vs H Q E q => ?_, kp, hb⟩
  obtain ⟨F, as, ps', sF, a, nd, m⟩ := q
  refine ⟨F, as, ps', sF, a, nd, ?_⟩
  rcases h as with e | e
  · rw [e] at m; exact m.elim
  · rw [e]; exact m
theorem Callee.mono {x : Str} {j k : Nat} {fs : Fs} (C : Callee P w K mg base x j fs) (h : j ≤ k) : Callee P w K mg base x k fs := by
  obtain ⟨f, fd, ps, hm, F, kp, hb⟩ := C.ex
  exact ⟨f, fd, ps, hm, F.mono h, kp, hb⟩
end

/-! ### raise -/
/-- an own class of errors without own __init__ (or one whose own class above has none) -/
structure OwnX (K : PySem.W.Frag) (mg : Str → Option Value) (x : Str) : Prop where
  ex : ∃ C, mg x = some (.ref C) ∧ PySem.W.excIn K C [.type "ValueError", .type "Exception", .type "BaseException", .type "object"] "ValueError.__new__" = true ∧ PySem.W.keepIn K (.ref C) = true ∧
    PySem.W.subIn K (.ref C) (.type "BaseException") = some true ∧ PySem.W.typeIn K (.ref C) = some (.type "type")
def bRaise (x : Str) : Bd := fun en => .ex en ⟨x, []⟩
theorem ds_raise {X : Cx} {g : Gh} {Wh : WX} {x m : Str} {j : Nat} {p p2 pos pos' : Pos} (hc : X.calm = true) (O : OwnX X.K X.mg x) (tk : Takes X Wh) (hg : Gl X x) (hdb : (x == ("__debug__" : Str)) = false := by decide) :
    DS X g (WH X.K X.mg Wh) (.Raise (some (.Call (.Name x p) [.Constant (.str m) j p2] [] pos')) none pos) (bRaise x) := by
  obtain ⟨C, gC, q, kC, h1, h2⟩ := O.ex
  refine PS.imp (ps_raise hc tk (pmk_own PySem.F.excBase_ValueError q gC kC (raises_own h1 h2) hg hdb)) fun E σ H h => ?_
  obtain ⟨F, en, rp, f⟩ := h
  exact f σ F H (Same.refl _) rp (.ref C) none ⟨gC, .inl ⟨rfl, rfl⟩⟩
end DL
/-! Dit: for i, x in enumerate(a tuple). -/
namespace DL
open PySem PySem.Spec L2
open PyProof.Rows hiding St

/-! ### enumerate(v), of whatever begins -/
set_option maxHeartbeats 1000000 in
theorem meets_enum1 {v : Value} {o : Obj} {Hq : Heap → Prop} (Bg : Begins v o Hq) :
    Meets (Builtin.«enumerate.__new__» ⟨[Value.type "enumerate", v], []⟩) (fun _ R sh => Hq sh.heap ∧
      R (.ok (.ret (.ref (sh.heap.push o).objs.size))) { sh with heap := (sh.heap.push o).push { cls := .type "enumerate", data := .fields #[.none, .bool false, .ref sh.heap.objs.size, rawInt 0, .none, .none] } }) :=
  Meets.of_wp fun prog w A R sh hyp => by
    obtain ⟨hp, gg, dd, tk, os⟩ := sh
    obtain ⟨hq, hyp⟩ := hyp
    have hsub := sub_enumerate
    have qq : ∀ {B : Around} {E : Value → Shared → Prop} {Q : Value → Shared → Prop}, Q (.ref hp.objs.size) ⟨hp.push o, gg, dd, tk, os⟩ → wpAny (model prog w) B (pyIter v) Q E ⟨hp, gg, dd, tk, os⟩ :=
      fun z => Bg.iter prog w _ _ ⟨hp, gg, dd, tk, os⟩ _ hq z
    wp_walk using qq
    refine wpAny_stack_any fun stk => wpAny_pure ?_
    split
    · rename_i cc _ _ _ _ _
      cases (cc == Value.type "enumerate")
      · wp_walk using qq
        exact ⟨_, rfl, hyp⟩
      · wp_walk using qq
        exact ⟨_, rfl, hyp⟩
    · wp_walk using qq
      exact ⟨_, rfl, hyp⟩
section
variable {prog : Program} {w : World} {A : Around} {E : Value → Shared → Prop} {s : Shared}
theorem enum_begins1 {v : Value} {o : Obj} {Hq : Heap → Prop} {Q : Value → Shared → Prop} (Bg : Begins v o Hq) (h1 : Hq s.heap)
    (fin : ∀ h', IsEnum h' (s.heap.objs.size + 1) s.heap.objs.size 0 .none → h'.get? s.heap.objs.size = some o → h'.objs.size = s.heap.objs.size + 2 →
      (∀ c u, s.heap.get? c = some u → h'.get? c = some u) → Q (.ref (s.heap.objs.size + 1)) { s with heap := h' }) :
    wpAny (model prog w) A (call (Value.type "enumerate") [v]) Q E s := by
  refine callType_new F.called_enumerate (by decide) (F.typeCall_enumerate_1 v) (F.newCall_enumerate_1 v) (fun ob => F.args_object_init_2 ob v) F.entry_enumerate_new (meets_enum1 Bg) ⟨h1, ?_⟩
  have zz : (s.heap.push o).objs.size = s.heap.objs.size + 1 := Heap.size_push s.heap o
  show _ ∧ _
  rw [zz]
  have he : IsEnum ((s.heap.push o).push { cls := .type "enumerate", data := .fields #[.none, .bool false, .ref s.heap.objs.size, rawInt 0, .none, .none] }) (s.heap.objs.size + 1) s.heap.objs.size 0 .none := by
    have q := Heap.get?_push_size (s.heap.push o) (o := { cls := .type "enumerate", data := .fields #[.none, .bool false, .ref s.heap.objs.size, rawInt 0, .none, .none] }) rfl
    rw [zz] at q; exact q
  refine ⟨⟨_, he, rfl⟩, fin _ he (Heap.get?_push_of_some _ (Heap.get?_push_size _ Bg.free)) (by rw [Heap.size_push, zz]) fun c u z => Heap.get?_push_of_some _ (Heap.get?_push_of_some _ z)⟩
end

/-! ### over the layer -/
def IteT (K : PySem.W.Frag) (a : Addr) : It :=
  ⟨fun i H => ∃ (xs : List V) (x : V), SqT K H a xs ∧ xs[i]? = some x, fun i H v H' => ∃ T x, v = .ref T ∧ H T = none ∧ H' = upd H T (.tup [.int (i : Nat), x]) ∧ ∀ xs, SqT K H a xs → xs[i]? = some x,
    fun i H => ∃ xs : List V, SqT K H a xs ∧ xs.length = i⟩
theorem turn_enumT {P : Program} {w : World} {K : PySem.W.Frag} {elts : List Expr} {kk : Nat} {tpos : Pos} (a e it : Addr) :
    Turn P w K (.Tuple elts kk tpos) (IteT K a) [e, it] e (fun i h => (∃ old, IsEnum h e it ((i : Nat) : Int) old) ∧ h.IsTupleIter it a i ∧ e ≠ it ∧ a ≠ e ∧ a ≠ it) where
  mem := by simp
  obj := fun i h st b hb => by
    obtain ⟨⟨old, he⟩, ⟨o, ho, hc, hd⟩, _⟩ := st
    have z : b = e ∨ b = it := by simpa using hb
    rcases z with rfl | rfl
    · exact ⟨_, he, fun v q => nomatch q⟩
    · exact ⟨o, ho, fun v q => by rw [hd] at q; cases q⟩
  keep := fun i h h' st k => let ⟨⟨old, he⟩, hi, hne⟩ := st; ⟨⟨old, k e (by simp) _ he⟩, hi.at fun o q => k it (by simp) o q, hne⟩
  item := by
    intro X hP hw hK hc i pins s σ H E I hf st hg
    subst hP hw hK
    obtain ⟨⟨old, he⟩, hit, hne, hae, hai⟩ := st
    obtain ⟨xs, x, hq, hx⟩ := hg
    obtain ⟨its, rv, p, hz⟩ := I.tuple hq
    obtain ⟨u, hu, ru⟩ := rv.get hx
    have pt : s.heap.IsTuple a its.toArray := p
    have lt : i < its.toArray.size := by
      have := (List.getElem?_eq_some_iff.mp hu).1
      simpa using this
    have hel : e < s.heap.objs.size := Heap.lt_size he
    have hil : it < s.heap.objs.size := by obtain ⟨_, q, _⟩ := hit; exact Heap.lt_size q
    refine wpAny_pyNext_enum_itemC (Draws.tuple (A := X.A.in1) (I.ok.hd hc) it a hai its.toArray) he ⟨hit, pt⟩ lt hne (by simp; exact ⟨hne, fun z => hae z.symm⟩) fun y h' tk hP ho hst hT hsz hk => ?_
    have ey : u = y := by
      have q : its.toArray[i]? = some y := hP
      rw [← Array.getElem?_toList] at q
      rw [show its.toArray.toList = its from rfl, hu] at q
      exact Option.some.inj q
    subst ey
    refine ⟨_, rfl, wpAny_letOwnedTupleGo_enum (s := { s with heap := h', toks := tk + 1 }) ho fun h'' he' sb => ?_⟩
    have hT2 : h''.get? s.heap.objs.size = some { cls := .type "tuple", data := .seq #[.int i tk, u] } := (sb.2 _ (Nat.ne_of_gt hel)).trans hT
    have new : ObjOk X.prog X.w (upd H s.heap.objs.size (.tup [.int (i : Nat), x])) h'' s.heap.objs.size (.tup [.int (i : Nat), x]) :=
      ⟨by show 2 ≤ sizeLine; decide, [.int i tk, u], .cons ⟨_, rfl⟩ (.cons ru .nil), ⟨_, hT2, rfl, _, rfl⟩⟩
    have I1 : Inv X pins σ (upd H s.heap.objs.size (.tup [.int (i : Nat), x])) { s with heap := h'', toks := tk + 1 } :=
      I.turnedNew (ch := [e, it]) (fun b ob hb q => (sb.2 b (fun z => hb (by simp [z]))).trans (hk b ob (fun z => hb (by simp [z])) (fun z => hb (by simp [z])) q)) hf (Nat.le_refl _) new
    refine ⟨.ref s.heap.objs.size, _, I1, rfl, ⟨_, x, rfl, I.hok.fresh (Nat.le_refl _), rfl, fun ys hy => by rw [I.tuple_inj hy hq]; exact hx⟩, ⟨⟨u, ?_⟩, hst.1.at fun o q => (sb.2 it (Ne.symm hne)).trans q, hne, hae, hai⟩, fun b hb => ?_⟩
    · rw [show ((i + 1 : Nat) : Int) = (i : Int) + 1 from by omega]
      exact he'
    · have hb' : b < s.heap.objs.size := by
        have z : b = e ∨ b = it := by simpa using hb
        rcases z with rfl | rfl
        · exact hel
        · exact hil
      rw [upd_ne (Nat.ne_of_lt hb')]
      exact (hf b hb).1
  done := by
    intro X hP hw hK hc i pins s σ H E I hf st hg
    subst hP hw hK
    obtain ⟨⟨old, he⟩, hit, hne, hae, hai⟩ := st
    obtain ⟨xs, hq, hx⟩ := hg
    obtain ⟨its, rv, p, hz⟩ := I.tuple hq
    have pt : s.heap.IsTuple a its.toArray := p
    obtain ⟨f0, f1, f2, f3, f4, f5⟩ := hf it (by simp)
    have hl := rv.length
    have hn : its.toArray.size = i := by rw [← hx, hl]; simp
    exact wpAny_pyNext_enum_endD (Draws.tuple (prog := X.prog) (w := X.w) (A := X.A.in1) (I.ok.hd hc) it a hai its.toArray) he (by rw [hn]; exact ⟨hit, pt⟩) fun h' eb => ⟨rfl, I.turned (t' := s.toks) (fun b o hb q => eb b o hb q) f0 f1 f3 f4 f5⟩
  self := fun A i s Q E st h => let ⟨⟨_, he⟩, _⟩ := st; wpAny_pyIter_enum he h
def iEnumT (K : PySem.W.Frag) (ta : TA) : TI := fun σ H R => ta σ H fun vs H1 => ∃ a xs, vs = [.ref a] ∧ SqT K H1 a xs ∧ R (IteT K a) H1
theorem pi_enumT {X : Cx} {e : Expr} {ta : TA} {p pos tpos : Pos} {elts : List Expr} {kk : Nat} (hg : Gl X "enumerate") (hm : X.mg "enumerate" = none) (ha : PA X [e] ta) (hs : starEach [e] X.env = [(false, eval e X.env)] := by rfl) :
    PI X (.Tuple elts kk tpos) (.Call (.Name "enumerate" p) [e] [] pos) (iEnumT X.K ta) := by
  refine ⟨fun pins s σ H R I h => ?_⟩
  refine Call_ (ld_blt I hg hm boot_enumerate (PyProof.Rows.callWith_type1 (thn (ha.run pos pins s σ H _ I h) fun us s1 q0 => ?_) hs rfl))
  obtain ⟨vs, H1, I1, r1, a, xs, rfl, hq, q⟩ := q0
  cases r1 with
  | cons r rr =>
    cases rr
    cases r
    obtain ⟨its, rv, p', hz⟩ := I1.tuple hq
    have pt : s1.heap.IsTuple a its.toArray := p'
    have hal : a < s1.heap.objs.size := by obtain ⟨_, z, _⟩ := pt; exact Heap.lt_size z
    refine enum_begins1 (begins_tuple a its.toArray) pt fun h' he hit hsz hk => wpAny_pyIter_enum he ?_
    have I2 : Inv X pins σ H1 { s1 with heap := h' } := I1.kept (t' := s1.toks) hk
    refine ⟨s1.heap.objs.size + 1, [s1.heap.objs.size + 1, s1.heap.objs.size], _, _, H1, rfl, I2, turn_enumT a (s1.heap.objs.size + 1) s1.heap.objs.size, ⟨⟨.none, he⟩, ⟨_, hit, rfl, rfl⟩, Nat.succ_ne_self _, Nat.ne_of_lt (Nat.lt_succ_of_lt hal), Nat.ne_of_lt hal⟩, fun b hb => ?_, q⟩
    have hle : s1.heap.objs.size ≤ b := by
      have z : b = s1.heap.objs.size + 1 ∨ b = s1.heap.objs.size := by simpa using hb
      rcases z with rfl | rfl
      · exact Nat.le_add_right _ _
      · exact Nat.le_refl _
    exact I1.fpOk hle (I1.hok.fresh hle)
end DL
/-! Dl7: what is walked; list comprehensions. -/
namespace DL
open PySem PySem.Spec L2
open PyProof.Rows hiding St

theorem PI.or {X : Cx} {tg iter : Expr} {t u : TI} (h1 : PI X tg iter t) (h2 : PI X tg iter u) : PI X tg iter (fun σ H R => t σ H R ∨ u σ H R) := ⟨fun pins s σ H R I q => by
  rcases q with q | q
  · exact h1.run pins s σ H R I q
  · exact h2.run pins s σ H R I q⟩

/-! ### iterables -/
def iOf (sem : D → Option (List D)) (f : Ev) : Iv := fun en => (f en).bind fun en1 x => match x with
  | .d d => (match sem d with
    | some ds => .ok en1 ds
    | none => .no)
  | .s _ => .no
def itSeq : D → Option (List D)
  | .list ds => some ds
  | .tuple ds => some ds
  | .dict [(.none, .list ds)] => some ds
  | _ => none
def numbered (k : Nat) : List D → List D
  | [] => []
  | d :: ds => .tuple [.int k, d] :: numbered (k + 1) ds
def itEnum : D → Option (List D)
  | .list ds => some (numbered 0 ds)
  | .tuple ds => some (numbered 0 ds)
  | _ => none
def signs (x : Str) : List D := x.cps.toList.map fun c => .str ⟨#[c]⟩
def itStr : D → Option (List D)
  | .str x => some (signs x)
  | _ => none
theorem numbered_get : ∀ (ds : List D) (k i : Nat), (numbered k ds)[i]? = (ds[i]?).map fun d => .tuple [.int ((k + i : Nat) : Int), d]
  | [], _, _ => by simp [numbered]
  | d :: ds, k, 0 => by simp [numbered]
  | d :: ds, k, i + 1 => by
    have := numbered_get ds (k + 1) i
    simp only [numbered, List.getElem?_cons_succ, this]
    congr 1
    funext d
    rw [show k + 1 + i = k + (i + 1) by omega]
theorem numbered_len : ∀ (ds : List D) (k : Nat), (numbered k ds).length = ds.length
  | [], _ => rfl
  | d :: ds, k => congrArg (· + 1) (numbered_len ds (k + 1))
section
variable {K : PySem.W.Frag} {F : Hp} {a : Addr} {xs : List V} {ds : List D}
theorem it_list (q : SqL K F a xs) (h : DvAll K F xs ds) : ItOk K F (fun _ _ => True) (Itl K a) ds := fun i F1 H1 s1 s2 _ => by
  have q1 := sqL_mono (s1.trans s2) q
  refine ⟨fun x e => ?_, fun e => ⟨xs, q1, by rw [h.length]; omega⟩⟩
  obtain ⟨v, e1, dv⟩ := h.get e
  refine ⟨⟨xs, v, q1, e1⟩, fun w H2 y => ?_⟩
  obtain ⟨rfl, y⟩ := y
  have := (y xs q1).symm.trans e1
  cases this
  exact ⟨F1, Ext.refl s2, dv.mono s1⟩
theorem it_tup (q : SqT K F a xs) (h : DvAll K F xs ds) : ItOk K F (fun _ _ => True) (Itt K a) ds := fun i F1 H1 s1 s2 _ => by
  have q1 := sqT_mono (s1.trans s2) q
  refine ⟨fun x e => ?_, fun e => ⟨xs, q1, by rw [h.length]; omega⟩⟩
  obtain ⟨v, e1, dv⟩ := h.get e
  refine ⟨⟨xs, v, q1, e1⟩, fun w H2 y => ?_⟩
  obtain ⟨rfl, y⟩ := y
  have := (y xs q1).symm.trans e1
  cases this
  exact ⟨F1, Ext.refl s2, dv.mono s1⟩
theorem it_enumL (q : SqL K F a xs) (h : DvAll K F xs ds) : ItOk K F (fun _ _ => True) (Ite K a) (numbered 0 ds) := fun i F1 H1 s1 s2 _ => by
  have q1 := sqL_mono (s1.trans s2) q
  refine ⟨fun x e => ?_, fun e => ⟨xs, q1, by rw [h.length, ← numbered_len ds 0]; omega⟩⟩
  rw [numbered_get] at e
  cases e0 : ds[i]? with
  | none => rw [e0] at e; cases e
  | some d =>
    rw [e0] at e
    cases e
    obtain ⟨v, e1, dv⟩ := h.get e0
    refine ⟨⟨xs, v, q1, e1⟩, fun w H2 y => ?_⟩
    obtain ⟨T, x, rfl, hT, rfl, y⟩ := y
    have := (y xs q1).symm.trans e1
    cases this
    have x := Ext.put s2 hT (.tup [.int (i : Nat), v])
    refine ⟨_, x, .tup (xs := [.int (i : Nat), v]) (.inl (.inl upd_same)) ?_⟩
    rw [Nat.zero_add]
    exact .cons (.int _) (.cons ((dv.mono s1).mono x.le) .nil)
theorem it_enumT (q : SqT K F a xs) (h : DvAll K F xs ds) : ItOk K F (fun _ _ => True) (IteT K a) (numbered 0 ds) := fun i F1 H1 s1 s2 _ => by
  have q1 := sqT_mono (s1.trans s2) q
  refine ⟨fun x e => ?_, fun e => ⟨xs, q1, by rw [h.length, ← numbered_len ds 0]; omega⟩⟩
  rw [numbered_get] at e
  cases e0 : ds[i]? with
  | none => rw [e0] at e; cases e
  | some d =>
    rw [e0] at e
    cases e
    obtain ⟨v, e1, dv⟩ := h.get e0
    refine ⟨⟨xs, v, q1, e1⟩, fun w H2 y => ?_⟩
    obtain ⟨T, x, rfl, hT, rfl, y⟩ := y
    have := (y xs q1).symm.trans e1
    cases this
    have x := Ext.put s2 hT (.tup [.int (i : Nat), v])
    refine ⟨_, x, .tup (xs := [.int (i : Nat), v]) (.inl (.inl upd_same)) ?_⟩
    rw [Nat.zero_add]
    exact .cons (.int _) (.cons ((dv.mono s1).mono x.le) .nil)
theorem it_str (x : Str) : ItOk K F (fun _ _ => True) (Its x) (signs x) := fun i F1 H1 s1 s2 _ => by
  have e0 : (signs x)[i]? = (x.cps[i]?).map fun c => .str ⟨#[c]⟩ := by
    unfold signs
    rw [List.getElem?_map, Array.getElem?_toList]
  have el : (signs x).length = x.cps.size := by simp [signs]
  refine ⟨fun d e => ?_, fun e => ?_⟩
  · rw [e0] at e
    have li : i < x.cps.size := by
      cases q : x.cps[i]? with
      | none => rw [q] at e; cases e
      | some c => exact (Array.getElem?_eq_some_iff.mp q).1
    refine ⟨li, fun w H2 y => ?_⟩
    obtain ⟨rfl, c, e1, rfl⟩ := y
    rw [e1] at e
    cases e
    exact ⟨F1, Ext.refl s2, .str _⟩
  · show x.cps.size ≤ i
    omega
theorem it_range (lo : Int) (n : Nat) : ItOk K F (fun _ _ => True) (Itr lo n) ((List.range n).map fun i => .int (lo + (i : Nat))) := fun i F1 H1 s1 s2 _ => by
  refine ⟨fun d e => ?_, fun e => ?_⟩
  · rw [List.getElem?_map] at e
    by_cases h : i < n
    · rw [List.getElem?_range h] at e
      cases e
      refine ⟨h, fun w H2 y => ?_⟩
      obtain ⟨rfl, rfl⟩ := y
      exact ⟨F1, Ext.refl s2, .int _⟩
    · rw [List.getElem?_eq_none (by simpa using h)] at e
      cases e
  · show n ≤ i
    simp at e; omega
end
section
variable {X : Cx} {g : Gh} {W : XW} {tg e : Expr} {f : Ev} {pos : Pos}
theorem di_seq (h : DE X g W e f) : DI X g W tg e (iOf itSeq f) := by
  refine PI.imp (PI.or (pi_list (tg := tg) h) (pi_tup (tg := tg) h)) fun σ H R hw => ?_
  obtain ⟨F, en, rp, f1⟩ := hw
  unfold iOf at f1
  cases e2 : f en with
  | no => rw [e2] at f1; exact f1.elim
  | ex en1 x => exact .inl ⟨F, en, rp, by rw [e2] at f1 ⊢; exact f1⟩
  | ok en1 x =>
    rw [e2] at f1
    cases x with
    | s i => exact f1.elim
    | d d =>
      have f1 : Fin X.K g W σ F (match itSeq d with
        | some ds => Rs.ok en1 ds
        | none => Rs.no) _ := f1
      cases e3 : itSeq d with
      | none => rw [e3] at f1; exact f1.elim
      | some ds =>
      rw [e3] at f1
      unfold itSeq at e3
      split at e3 <;> (first | (cases e3; done) | (cases e3))
      · refine .inl ⟨F, en, rp, ?_⟩
        rw [e2]
        intro F1 H1 s1 r1 v hv
        cases hv with
        | lst q0 a =>
          have q : SqL X.K F1 _ _ := .inl (.inl q0)
          exact ⟨_, rfl, ⟨_, sqL_mono r1.fz q⟩, f1 F1 H1 s1 r1 _ (it_list q a)⟩
      · refine .inr ⟨F, en, rp, ?_⟩
        rw [e2]
        intro F1 H1 s1 r1 v hv
        cases hv with
        | tup q a => exact ⟨_, rfl, ⟨_, sqT_mono r1.fz q⟩, f1 F1 H1 s1 r1 _ (it_tup q a)⟩
      · refine .inl ⟨F, en, rp, ?_⟩
        rw [e2]
        intro F1 H1 s1 r1 v hv
        obtain ⟨a, ns, rfl, rfl, q⟩ := dv_scr hv
        exact ⟨_, rfl, ⟨_, sqL_mono r1.fz q⟩, f1 F1 H1 s1 r1 _ (it_list q (DvAll.ints ns))⟩
theorem di_str (h : DE X g W e f) : DI X g W tg e (iOf itStr f) := by
  refine PI.imp (pi_str (tg := tg) h) fun σ H R hw => ?_
  obtain ⟨F, en, rp, f1⟩ := hw
  refine ⟨F, en, rp, (Fin.seq f1).mono fun F1 H1 en1 x s1 r1 f2 v hv => ?_⟩
  cases x with
  | s i => exact f2.elim
  | d d =>
    cases d <;> first | exact f2.elim | skip
    rename_i z
    cases hv with
    | str _ => exact ⟨z, rfl, f2 F1 H1 (Same.refl _) r1 _ (it_str z)⟩
/-- enumerate(e) -/
theorem di_enum {p tpos : Pos} {elts : List Expr} {kk : Nat} (hg : Gl X "enumerate") (hm : X.mg "enumerate" = none) (h : DE X g W e f) (hs : starEach [e] X.env = [(false, eval e X.env)] := by rfl) : DI X g W (.Tuple elts kk tpos) (.Call (.Name "enumerate" p) [e] [] pos) (iOf itEnum f) := by
  refine PI.imp (PI.or (pi_enum (tpos := tpos) (elts := elts) (kk := kk) (p := p) (pos := pos) hg hm (pa_cons h pa_nil (by rw [hs]; rfl)) hs) (pi_enumT (tpos := tpos) (elts := elts) (kk := kk) (p := p) (pos := pos) hg hm (pa_cons h pa_nil (by rw [hs]; rfl)) hs)) fun σ H R hw => ?_
  obtain ⟨F, en, rp, f1⟩ := hw
  unfold iOf at f1
  cases e2 : f en with
  | no => rw [e2] at f1; exact f1.elim
  | ex en1 x => exact .inl ⟨F, en, rp, by rw [e2] at f1 ⊢; exact f1⟩
  | ok en1 x =>
    rw [e2] at f1
    cases x with
    | s i => exact f1.elim
    | d d =>
      cases d <;> first | exact f1.elim | skip
      · rename_i ds
        refine .inl ⟨F, en, rp, ?_⟩
        rw [e2]
        intro F1 H1 s1 r1 v hv
        cases hv with
        | lst q0 a =>
          have q : SqL X.K F1 _ _ := .inl (.inl q0)
          exact ⟨_, _, rfl, sqL_mono r1.fz q, f1 F1 H1 s1 r1 _ (it_enumL q a)⟩
      · rename_i ds
        refine .inr ⟨F, en, rp, ?_⟩
        rw [e2]
        intro F1 H1 s1 r1 v hv
        cases hv with
        | tup q a => exact ⟨_, _, rfl, sqT_mono r1.fz q, f1 F1 H1 s1 r1 _ (it_enumT q a)⟩
def small (i : Int) : Bool := decide (-(2 ^ 62) ≤ i) && decide (i < 2 ^ 62)
def iRange1 (a : Av) : Iv := fun en => (a en).bind fun en1 xs => match xs with
  | [.d (.int j)] => if small j = true then .ok en1 ((List.range j.toNat).map fun i => .int (0 + (i : Nat))) else .no
  | _ => .no
def iRange2 (a : Av) : Iv := fun en => (a en).bind fun en1 xs => match xs with
  | [.d (.int i), .d (.int j)] => if small i = true ∧ small j = true then .ok en1 ((List.range (j - i).toNat).map fun k => .int (i + (k : Nat))) else .no
  | _ => .no
theorem small_of {i : Int} (h : small i = true) : -(2 ^ 62) ≤ i ∧ i < 2 ^ 62 := by
  unfold small at h
  obtain ⟨h1, h2⟩ := Bool.and_eq_true_iff.mp h
  exact ⟨of_decide_eq_true h1, of_decide_eq_true h2⟩
theorem rv_int {K : PySem.W.Frag} {F : Hp} {σ : St} {v : V} {i : Int} (h : RvOk K F σ v (.d (.int i))) : v = .int i := by
  cases h; rfl
theorem di_range1 {p : Pos} {av : Av} (hg : Gl X "range") (hm : X.mg "range" = none) (ha : DA X g W [e] av) (hs : starEach [e] X.env = [(false, eval e X.env)] := by rfl) : DI X g W tg (.Call (.Name "range" p) [e] [] pos) (iRange1 av) := by
  refine PI.imp (pi_range1 (tg := tg) hg hm ha hs) fun σ H R hw => ?_
  obtain ⟨F, en, rp, f1⟩ := hw
  refine ⟨F, en, rp, (Fin.seq f1).mono fun F1 H1 en1 xs s1 r1 f2 vs hvs => ?_⟩
  split at f2
  · rename_i j
    split at f2
    · rename_i hj
      match vs, hvs with
      | [v], hvs =>
        have := rv_int hvs.1
        subst this
        exact ⟨j, rfl, (small_of hj).1, (small_of hj).2, f2 F1 H1 (Same.refl _) r1 _ (it_range 0 j.toNat)⟩
    · exact f2.elim
  · exact f2.elim
theorem di_range2 {b : Expr} {p : Pos} {av : Av} (hg : Gl X "range") (hm : X.mg "range" = none) (ha : DA X g W [e, b] av) (hs : starEach [e, b] X.env = [(false, eval e X.env), (false, eval b X.env)] := by rfl) (hs2 : starEach [b] X.env = [(false, eval b X.env)] := by rfl) : DI X g W tg (.Call (.Name "range" p) [e, b] [] pos) (iRange2 av) := by
  refine PI.imp (pi_range2 (tg := tg) hg hm ha hs hs2) fun σ H R hw => ?_
  obtain ⟨F, en, rp, f1⟩ := hw
  refine ⟨F, en, rp, (Fin.seq f1).mono fun F1 H1 en1 xs s1 r1 f2 vs hvs => ?_⟩
  split at f2
  · rename_i i j
    split at f2
    · rename_i hj
      match vs, hvs with
      | [v, u], hvs =>
        have := rv_int hvs.1
        subst this
        have := rv_int hvs.2.1
        subst this
        exact ⟨i, j, rfl, ⟨(small_of hj.1).1, (small_of hj.1).2, (small_of hj.2).1, (small_of hj.2).2⟩, f2 F1 H1 (Same.refl _) r1 _ (it_range i (j - i).toNat)⟩
    · exact f2.elim
  · exact f2.elim
end

/-! ### list comprehensions -/
/-- the block's names are cleared -/
def wipeE (en : En) : List Nat → Option En
  | [] => some en
  | i :: is => match wipeE en is with
    | some e1 => (match e1[i]? with
      | some (.val _) => some (e1.set i .un)
      | some .un => some (e1.set i .un)
      | _ => none)
    | none => none
/-- the slots of en, the owned things' data from en3 -/
def unw : En → En → Option En
  | [], [] => some []
  | s :: en, t :: en3 => match unw en en3 with
    | some r => (match s with
      | .own b _ => (match t with
        | .own c d => if b = c then some (.own b d :: r) else none
        | _ => none)
      | s => some (s :: r))
    | none => none
  | _, _ => none
theorem unw_at : ∀ {en en3 en4 : En}, unw en en3 = some en4 → en4.length = en.length ∧ en3.length = en.length ∧ ∀ (k : Nat) (s : Sl), en4[k]? = some s →
    (∃ b d0 d, en[k]? = some (.own b d0) ∧ en3[k]? = some (.own b d) ∧ s = .own b d) ∨ (en[k]? = some s ∧ ∀ b d, s ≠ .own b d)
  | [], [], en4, e => by
    cases e
    exact ⟨rfl, rfl, fun k s e => by simp at e⟩
  | s :: en, t :: en3, en4, e => by
    unfold unw at e
    split at e
    · rename_i r e1
      obtain ⟨h1, h2, h3⟩ := unw_at e1
      split at e
      · rename_i b d0
        split at e
        · rename_i c d
          split at e
          · rename_i hbc
            subst hbc
            cases e
            refine ⟨by simp [h1], by simp [h2], fun k s' e' => ?_⟩
            cases k with
            | zero =>
              have : Sl.own b d = s' := by simpa using e'
              exact .inl ⟨b, d0, d, rfl, rfl, this.symm⟩
            | succ k => exact h3 k s' (by simpa using e')
          · cases e
        · cases e
      · rename_i ns
        cases e
        refine ⟨by simp [h1], by simp [h2], fun k s' e' => ?_⟩
        cases k with
        | zero =>
          have : s = s' := by simpa using e'
          subst this
          exact .inr ⟨rfl, fun b d z => ns b d z⟩
        | succ k => exact h3 k s' (by simpa using e')
    · cases e
  | [], _ :: _, _, e => by cases e
  | _ :: _, [], _, e => by cases e
theorem wipe_get : ∀ {vs : List Nat} {σ : St} {k : Nat}, k ∉ vs → (wipe σ vs)[k]? = σ[k]?
  | [], _, _, _ => rfl
  | v :: vs, σ, k, h => by
    unfold wipe
    rw [List.getElem?_set_ne fun z => h (by simp [z])]
    exact wipe_get fun z => h (List.mem_cons_of_mem _ z)
theorem wipe_same {vs : List Nat} {σ σ' : St} (b : But vs (wipe σ vs) σ') : wipe σ' vs = wipe σ vs := by
  have key : ∀ {us : List Nat} {σ : St} {k : Nat}, k ∈ us → k < σ.length → (wipe σ us)[k]? = some none := by
    intro us
    induction us with
    | nil => intro σ k h; cases h
    | cons u us ih =>
      intro σ k h hl
      unfold wipe
      by_cases e : k = u
      · subst e
        rw [List.getElem?_set_self (by rw [wipe_length]; exact hl)]
      · rw [List.getElem?_set_ne (Ne.symm e)]
        rcases List.mem_cons.mp h with z | z
        · exact absurd z e
        · exact ih z hl
  refine List.ext_getElem? fun k => ?_
  by_cases hk : k ∈ vs
  · by_cases hl : k < σ.length
    · rw [key hk (by rw [b.1, wipe_length]; exact hl), key hk hl]
    · rw [List.getElem?_eq_none (by rw [wipe_length, b.1, wipe_length]; omega), List.getElem?_eq_none (by rw [wipe_length]; omega)]
  · rw [wipe_get hk, b.2 k hk]
section
variable {K : PySem.W.Frag} {g g' : Gh} {F F2 F3 H H2 H3 : Hp} {en en1 en2 en3 en4 : En} {σ σ3 : St} {vs : List Nat}
theorem wipeE_at : ∀ {vs : List Nat} {en1 : En}, wipeE en vs = some en1 → en1.length = en.length ∧ (∀ k, k ∉ vs → en1[k]? = en[k]?) ∧ (∀ k ∈ vs, en1[k]? = some .un ∧ ∀ s, en[k]? = some s → (s = .un ∨ ∃ d, s = .val d))
  | [], en1, e => by
    cases e
    exact ⟨rfl, fun _ _ => rfl, fun k h => by cases h⟩
  | i :: is, en1, e => by
    unfold wipeE at e
    split at e
    · rename_i e1 q
      obtain ⟨h1, h2, h3⟩ := wipeE_at q
      have fin : ∀ s, e1[i]? = some s → (s = .un ∨ ∃ d, s = .val d) → some (e1.set i .un) = some en1 → en1.length = en.length ∧ (∀ k, k ∉ i :: is → en1[k]? = en[k]?) ∧ (∀ k ∈ i :: is, en1[k]? = some .un ∧ ∀ s, en[k]? = some s → (s = .un ∨ ∃ d, s = .val d)) := by
        intro s es hs e
        cases e
        have li := (List.getElem?_eq_some_iff.mp es).1
        refine ⟨by rw [List.length_set, h1], fun k hk => ?_, fun k hk => ?_⟩
        · rw [List.getElem?_set_ne fun z => hk (by simp [z]), h2 k fun z => hk (List.mem_cons_of_mem _ z)]
        · by_cases hi : k = i
          · subst hi
            refine ⟨List.getElem?_set_self li, fun s' e' => ?_⟩
            by_cases hm : k ∈ is
            · exact (h3 k hm).2 s' e'
            · rw [← h2 k hm, es] at e'
              cases e'
              exact hs
          · have hm : k ∈ is := by
              rcases List.mem_cons.mp hk with z | z
              · exact absurd z hi
              · exact z
            exact ⟨by rw [List.getElem?_set_ne (Ne.symm hi)]; exact (h3 k hm).1, (h3 k hm).2⟩
      split at e
      · rename_i d z
        exact fin _ z (.inr ⟨d, rfl⟩) e
      · rename_i z
        exact fin _ z (.inl rfl) e
      · cases e
    · cases e
/-- into the block: over a ghost of the heap as it stands, the block's names cleared -/
theorem Rep.block (r : Rep K g F en σ H) (s : Sub g g' F H en σ) (hw : wipeE en vs = some en1) (hp : g'.Pl = g.Pl) : Rep K { g' with Pl := [], Rw := [] } F en1 (wipe σ vs) H := by
  obtain ⟨s1, s2, s3, s4, s5⟩ := s
  obtain ⟨h1, h2, h3⟩ := wipeE_at hw
  have out : ∀ {k : Nat} {s : Sl}, en1[k]? = some s → s ≠ .un → k ∉ vs ∧ en[k]? = some s := fun {k s} e ne => by
    by_cases hk : k ∈ vs
    · rw [(h3 k hk).1] at e
      cases e
      exact absurd rfl ne
    · exact ⟨hk, by rw [← h2 k hk]; exact e⟩
  refine ⟨r.fz, fun a o e _ => by rw [s2] at e; exact e, fun p hp => (r.ownPs ((s3 p).mp hp)).2.2, fun a e _ _ => by rw [s1] at e; exact e, by rw [h1, wipe_length]; exact r.len, fun k d e => ?_, fun k b d e => ?_, fun k j e => ?_, fun i j b c d e hne e1 e2 => ?_, (fun _ _ z => by cases z), (fun _ _ z => by cases z)⟩
  · obtain ⟨hk, e'⟩ := out e fun z => by cases z
    rw [wipe_get hk]
    exact r.val k d e'
  · obtain ⟨hk, e'⟩ := out e fun z => by cases z
    rw [wipe_get hk]
    obtain ⟨p, e1, q, n, _⟩ := r.own k b d e'
    exact ⟨p, e1, q, n, .inl ((s3 p).mpr ⟨k, b, d, e', e1⟩)⟩
  · obtain ⟨hk, e'⟩ := out e fun z => by cases z
    obtain ⟨z1, b, d, z2⟩ := r.ali k j e'
    have hj : j ∉ vs := fun hm => by
      rcases (h3 j hm).2 _ z2 with z | ⟨_, z⟩ <;> cases z
    exact ⟨by rw [wipe_get hk, wipe_get hj]; exact z1, b, d, by rw [h2 j hj]; exact z2⟩
  · obtain ⟨hi, q1⟩ := out e1 fun z => by cases z
    obtain ⟨hj, q2⟩ := out e2 fun z => by cases z
    rw [wipe_get hi, wipe_get hj]
    exact r.sep i j b c d e hne q1 q2
theorem wipeE_own (hw : wipeE en vs = some en1) (k : Nat) (b : Bool) (d : D) (e : en[k]? = some (.own b d)) : k ∉ vs := fun hm => by
  rcases ((wipeE_at hw).2.2 k hm).2 _ e with z | ⟨_, z⟩ <;> cases z
/-- out of the block -/
theorem Rep.unblock {g3 : Gh} (r : Rep K g F en σ H) (s : Sub g g' F H en σ) (hw : ∀ (k : Nat) (b : Bool) (d : D), en[k]? = some (.own b d) → k ∉ vs) (hg : g3 = { g' with Pl := [], Rw := [] }) (r3 : Rep K g3 F3 en3 σ3 H3) (hb : wipe σ3 vs = wipe σ vs) (le : Same F F3) (hu : unw en en3 = some en4) : Rep K g F3 en4 σ H3 := by
  subst hg
  obtain ⟨s1, s2, s3, s4, s5⟩ := s
  obtain ⟨u1, u2, u3⟩ := unw_at hu
  have nown : ∀ a, a ∉ g.Ps → g.H0 a ≠ none → a ∉ g'.Ps := fun a n e q => by
    rcases (r.ownPs ((s3 a).mp q)).1 with z | z
    · exact n z
    · exact e z
  have at3 : ∀ {k : Nat}, k ∉ vs → σ3[k]? = σ[k]? := fun {k} hk => by
    have := congrArg (fun x : St => x[k]?) hb
    simpa [wipe_get hk] using this
  have ownOut : ∀ {k : Nat} {b : Bool} {d : D}, en[k]? = some (.own b d) → k ∉ vs := fun {k b d} e => hw k b d e
  refine ⟨r3.fz, fun a o e n => r3.fr a o (by show g'.H0 a = _; rw [s2]; exact r.fr a o e n) (nown a n (by rw [e]; exact fun z => by cases z)), fun p hp => ?_, fun a e0 e1 n => ?_, by rw [u1]; exact r.len, fun k d e => ?_, fun k b d e => ?_, fun k j e => ?_, fun i j b c d e hne e1 e2 => ?_, fun k p hm => ?_, fun k p hm => ?_⟩
  · by_cases z : p ∈ g'.Ps
    · exact r3.al p z
    · cases q : H p with
      | none => exact absurd q (r.al p hp)
      | some o => rw [r3.fr p o (by show g'.H0 p = _; rw [s2]; exact q) z]; exact fun z => by cases z
  · refine r3.nw a (by show g'.F0 a = _; rw [s1]; exact r.nw a e0 e1 n) ?_ (nown a n e1)
    show g'.H0 a ≠ none
    rw [s2]
    cases q : g.H0 a with
    | none => exact absurd q e1
    | some o => rw [r.fr a o q n]; exact fun z => by cases z
  · rcases u3 k _ e with ⟨_, _, _, _, _, z⟩ | ⟨z, _⟩
    · cases z
    · obtain ⟨v, e1, q⟩ := r.val k d z
      exact ⟨v, e1, q.mono le⟩
  · rcases u3 k _ e with ⟨b', d0, d', z1, z2, z⟩ | ⟨_, z⟩
    · cases z
      obtain ⟨p, e1, q1, q2, _⟩ := r3.own k b d z2
      rw [at3 (ownOut z1)] at e1
      exact ⟨p, e1, q1, q2, (r.ownPs ⟨k, b, d0, z1, e1⟩).1⟩
    · exact absurd rfl (z b d)
  · rcases u3 k _ e with ⟨_, _, _, _, _, z⟩ | ⟨z, _⟩
    · cases z
    · obtain ⟨z1, b, d, z2⟩ := r.ali k j z
      refine ⟨z1, ?_⟩
      have lj : j < en4.length := by rw [u1]; exact (List.getElem?_eq_some_iff.mp z2).1
      rcases u3 j _ (List.getElem?_eq_getElem lj) with ⟨b', d0, d', w1, _, w3⟩ | ⟨w1, w2⟩
      · rw [z2] at w1
        cases w1
        exact ⟨b, d', by rw [List.getElem?_eq_getElem lj, w3]⟩
      · rw [z2] at w1
        have := Option.some.inj w1
        exact absurd this.symm (w2 b d)
  · have old : ∀ {k : Nat} {b : Bool} {d : D}, en4[k]? = some (.own b d) → ∃ d0, en[k]? = some (.own b d0) := fun {k b d} e => by
      rcases u3 k _ e with ⟨b', d0, d', z1, _, z⟩ | ⟨_, z⟩
      · cases z; exact ⟨d0, z1⟩
      · exact absurd rfl (z b d)
    obtain ⟨d1, z1⟩ := old e1
    obtain ⟨d2, z2⟩ := old e2
    exact r.sep i j b c d1 d2 hne z1 z2
  · obtain ⟨z1, d, z2⟩ := r.pl k p hm
    refine ⟨z1, ?_⟩
    have lj : k < en4.length := by rw [u1]; exact (List.getElem?_eq_some_iff.mp z2).1
    rcases u3 k _ (List.getElem?_eq_getElem lj) with ⟨b', d0, d', w1, _, w3⟩ | ⟨w1, w2⟩
    · rw [z2] at w1
      cases w1
      exact ⟨d', by rw [List.getElem?_eq_getElem lj, w3]⟩
    · rw [z2] at w1
      have := Option.some.inj w1
      exact absurd this.symm (w2 true d)
  · obtain ⟨z1, z2⟩ := r.rw k p hm
    refine ⟨z1, ?_⟩
    have lj : k < en4.length := by rw [u1]; exact (List.getElem?_eq_some_iff.mp z2).1
    rcases u3 k _ (List.getElem?_eq_getElem lj) with ⟨b', d0, d', w1, _, w3⟩ | ⟨w1, w2⟩
    · rw [z2] at w1
      cases w1
    · rw [z2] at w1
      rw [List.getElem?_eq_getElem lj]
      exact w1.symm
end

/-- the turns of a comprehension -/
def compL (vs : List Nat) (tg : Tg) (tt : Tv) (el : Ev) : List D → En → List D → Rs D
  | [], en, acc => .ok en (.list acc)
  | d :: ds, en, acc => match wipeE en vs with
    | none => .no
    | some en0 => (match tg d en0 with
      | none => .no
      | some en1 => (match tt en1 with
        | .ok en2 false => (match unw en en2 with
          | some en4 => compL vs tg tt el ds en4 acc
          | none => .no)
        | .ok en2 true => (match el en2 with
          | .ok en3 (.d y) => if acc.length < sizeLine then (match unw en en3 with
            | some en4 => compL vs tg tt el ds en4 (acc ++ [y])
            | none => .no) else .no
          | _ => .no)
        | _ => .no))
def oComp (vs : List Nat) (it : Iv) (tg : Tg) (tt : Tv) (el : Ev) : Ov := fun en => (it en).bind fun en1 ds => compL vs tg tt el ds en1 []
def tYesD : Tv := fun en => .ok en true
/-- what may be written besides: neither frozen nor owned nor the caller's -/
theorem Rep.scratch {K : PySem.W.Frag} {g : Gh} {F H : Hp} {en : En} {σ : St} {p : Addr} (o : HO) (r : Rep K g F en σ H) (hF : F p = none) (no : ¬ IsOwn en σ p) (h0 : g.H0 p = none) : Rep K g F en σ (upd H p o) := by
  refine ⟨fun a u e => ?_, fun a u e n => ?_, fun q hq => ?_, r.nw, r.len, r.val, fun i b d e => ?_, r.ali, r.sep, r.pl, r.rw⟩
  · rw [upd_ne (ne_of_none e hF)]; exact r.fz a u e
  · rw [upd_ne (ne_of_none e h0)]; exact r.fr a u e n
  · by_cases h : q = p
    · subst h; rw [upd_same]; exact fun z => by cases z
    · rw [upd_ne h]; exact r.al q hq
  · obtain ⟨p', e1, q1, q2, q3⟩ := r.own i b d e
    refine ⟨p', e1, q1.to (upd_ne fun z => ?_) (Same.refl _), q2, q3⟩
    subst z
    exact no ⟨i, b, d, e, e1⟩
/-- the wish of a block: nothing is raised -/
abbrev W0 (K : PySem.W.Frag) (mg : Str → Option Value) : XW := WH K mg fun _ _ _ _ => False
/-- a clause's tests -/
def DTs (X : Cx) (g : Gh) (W : XW) (ifs : List Expr) (t : Tv) : Prop := PTs X ifs (liftT X.K g W t)
theorem dts_nil {X : Cx} {g : Gh} {W : XW} : DTs X g W [] tYesD := ⟨fun pins s σ H Q I h => by
  obtain ⟨F, en, rp, f⟩ := h
  exact pts_nil.run pins s σ H Q I (f F H (Same.refl _) rp)⟩
theorem dts_one {X : Cx} {g : Gh} {W : XW} {c : Expr} {t : Tv} (h : DT X g W c t) : DTs X g W [c] t := pts_one h
theorem New.list {K : PySem.W.Frag} {g : Gh} {F H : Hp} {en : En} {σ : St} {p : Addr} {vs : List V} {ds : List D} (e : H p = some (.lst vs)) (a : DvAll K F vs ds) (hF : F p = none) (h0 : g.H0 p = none) (no : ¬ IsOwn en σ p) : New K g F H en σ p (.list ds) := ⟨.lst e a, hF, h0, no⟩
section
variable {X : Cx} {g : Gh} {W : XW} {elt tg iter : Expr} {ifs : List Expr} {scope : Scope} {own : List (Str × Nat)} {pos : Pos} {it : Iv} {t : Tg} {ts : List Nat} {tt : Tv} {el : Ev}
/-- the reading of a comprehension -/
theorem comp_tLc (hsub : ∀ i ∈ ts, i ∈ own.map (·.2)) {σ : St} {H : Hp} {Q : VK} (h : liftO X.K g W (oComp (own.map (·.2)) it t tt el) σ H Q) :
    tLc (liftI X.K g W it) (fun v σ H Q => ∃ g', liftG X.K g' t ts v σ H Q) (fun σ H Q => ∃ g', liftT X.K g' (W0 X.K X.mg) tt σ H Q) (fun σ H Q => ∃ g', liftE X.K g' (W0 X.K X.mg) el σ H Q) (own.map (·.2)) σ H Q := by
  obtain ⟨F, en, rp, f⟩ := h
  refine ⟨F, en, rp, (Fin.seq f).mono fun F1 H1 en1 ds s1 r1 f1 J hJ L hL => ?_⟩
  generalize hvs : own.map (·.2) = vs at f1 hsub ⊢
  have z0 := r1.fresh hL (d := .list []) (.lst (vs := []) (ds := []) upd_same .nil)
  refine ⟨fun i m H => m = ds.length - i ∧ i ≤ ds.length ∧ ∃ F2 en2 aV aD, Same F1 F2 ∧ Rep X.K g F2 en2 σ H ∧ H L = some (.lst aV) ∧ DvAll X.K F2 aV aD ∧ F2 L = none ∧ g.H0 L = none ∧ ¬ IsOwn en2 σ L ∧
    Fin X.K g W σ F2 (compL vs t tt el (ds.drop i) en2 aD) (fun F' _ en' d => ∀ p H'', Rep X.K g F' en' σ H'' → New X.K g F' H'' en' σ p d → Q (.ref p) H''),
    ⟨ds.length, by simp, Nat.zero_le _, F1, en1, [], [], Same.refl _, z0.1, upd_same, .nil, z0.2.nf, z0.2.nh, z0.2.no, f1⟩, ?_⟩
  rintro i m H ⟨rfl, hi, F2, en2, aV, aD, s2, r2, eL, aA, nF, n0, nO, f2⟩
  obtain ⟨j1, j2⟩ := hJ i F2 H s2 r2.fz trivial
  by_cases hlt : i < ds.length
  · have e1 : ds[i]? = some ds[i] := List.getElem?_eq_getElem hlt
    obtain ⟨g1, g2⟩ := j1 _ e1
    have ed : ds.drop i = ds[i] :: ds.drop (i + 1) := List.drop_eq_getElem_cons hlt
    rw [ed] at f2
    unfold compL at f2
    refine .inr ⟨g1, fun H' => ∃ F5 en5 aV aD, Same F1 F5 ∧ Rep X.K g F5 en5 σ H' ∧ H' L = some (.lst aV) ∧ DvAll X.K F5 aV aD ∧ F5 L = none ∧ g.H0 L = none ∧ ¬ IsOwn en5 σ L ∧
      Fin X.K g W σ F5 (compL vs t tt el (ds.drop (i + 1)) en5 aD) (fun F' _ en' d => ∀ p H'', Rep X.K g F' en' σ H'' → New X.K g F' H'' en' σ p d → Q (.ref p) H''),
      fun H' z => ⟨ds.length - (i + 1), by omega, rfl, hlt, z⟩, fun v H' y => ?_⟩
    obtain ⟨F3, x3, q3⟩ := g2 v H' y
    have r3 := r2.ext x3
    have eL3 : H' L = some (.lst aV) := x3.same _ _ eL
    have nF3 : F3 L = none := x3.new L nF (by rw [eL]; exact fun z => by cases z)
    cases e2 : wipeE en2 vs with
    | none => rw [e2] at f2; exact f2.elim
    | some en0 =>
      rw [e2] at f2
      dsimp only at f2
      cases e3 : t ds[i] en0 with
      | none => rw [e3] at f2; exact f2.elim
      | some en3 =>
        rw [e3] at f2
        dsimp only at f2
        obtain ⟨g', hs⟩ := sub_ex g F3 H' en2 σ
        have rb := r3.block hs e2 hs.2.2.2.1
        refine ⟨_, F3, en0, ds[i], en3, rb, q3, e3, fun σ' r' b => ?_⟩
        have hw : wipe σ' vs = wipe σ vs := wipe_same ⟨b.1, fun k hk => b.2 k fun z => hk (hsub k z)⟩
        refine ⟨hw, { g' with Pl := [], Rw := [] }, F3, en3, r', ?_⟩
        -- what stands at L stays
        have keep : ∀ {F4 H4 : Hp} {en4 : En} {σ4 : St}, Rep X.K { g' with Pl := [], Rw := [] } F4 en4 σ4 H4 → H4 L = some (.lst aV) ∧ F4 L = none := fun {F4 H4 en4 σ4} r4 => by
          obtain ⟨a1, a2, a3, _⟩ := hs
          have n : L ∉ g'.Ps := fun q => nO ((a3 L).mp q)
          exact ⟨r4.fr L _ (by show g'.H0 L = _; rw [a2]; exact eL3) n, r4.nw L (by show g'.F0 L = _; rw [a1]; exact nF3) (by show g'.H0 L ≠ none; rw [a2, eL3]; exact fun z => by cases z) n⟩
        have notO : ∀ {en4 en5 : En}, unw en2 en4 = some en5 → ¬ IsOwn en5 σ L := fun {en4 en5} hu z => by
          obtain ⟨k, b, d, z1, z2⟩ := z
          rcases (unw_at hu).2.2 k _ z1 with ⟨b', d0, d', w1, _, w⟩ | ⟨_, w⟩
          · exact nO ⟨k, b', d0, w1, z2⟩
          · exact w b d rfl
        cases e4 : tt en3 with
        | no => rw [e4] at f2; exact f2.elim
        | ex en4 x => rw [e4] at f2; exact f2.elim
        | ok en4 k =>
          rw [e4] at f2
          intro F4 H4 s4 r4
          cases k with
          | false =>
            dsimp only at f2
            rw [if_neg Bool.false_ne_true]
            cases e5 : unw en2 en4 with
            | none => rw [e5] at f2; exact f2.elim
            | some en5 =>
              rw [e5] at f2
              obtain ⟨k1, k2⟩ := keep r4
              exact ⟨F4, en5, aV, aD, s2.trans (x3.le.trans s4), r3.unblock hs (wipeE_own e2) rfl r4 hw s4 e5, k1, aA.mono (x3.le.trans s4), k2, n0, notO e5, Fin.weak (x3.le.trans s4) f2⟩
          | true =>
            dsimp only at f2
            rw [if_pos rfl]
            refine ⟨{ g' with Pl := [], Rw := [] }, F4, en4, r4, ?_⟩
            cases e5 : el en4 with
            | no => rw [e5] at f2; exact f2.elim
            | ex en5 x => rw [e5] at f2; exact f2.elim
            | ok en5 rv =>
              rw [e5] at f2
              cases rv with
              | s i => exact f2.elim
              | d y =>
                intro F5 H5 s5 r5 v5 hv5
                dsimp only at f2
                split at f2
                · rename_i hl
                  cases e6 : unw en2 en5 with
                  | none => rw [e6] at f2; exact f2.elim
                  | some en6 =>
                    rw [e6] at f2
                    obtain ⟨k1, k2⟩ := keep r5
                    have le := x3.le.trans (s4.trans s5)
                    have r6 := r3.unblock hs (wipeE_own e2) rfl r5 hw (s4.trans s5) e6
                    refine ⟨aV, k1, by rw [aA.length]; exact hl, F5, en6, aV ++ [v5], aD ++ [y], s2.trans le, r6.scratch _ k2 (notO e6) n0, upd_same, (aA.mono le).append (.one hv5), k2, n0, notO e6, Fin.weak le f2⟩
                · exact f2.elim
  · have e1 : i = ds.length := by omega
    rw [List.drop_of_length_le (by omega)] at f2
    exact .inl ⟨j2 (by omega), f2 F2 H (Same.refl _) r2 L H r2 (.list eL aA nF n0 nO)⟩
theorem do_comp (hc : X.calm = true) (hN : X.N.Nodup) (hi : DI X g W tg iter it) (ok : BlkOk X.N X.env.scope scope own) (hsub : ∀ i ∈ ts, i ∈ own.map (·.2))
    (hg : ∀ (s : Shared) (H : Hp) (C : Addr) (cl : List (Str × Addr)) (fp : List Addr) (g' : Gh), DG (X.blk s H scope (compEnvC scope cl C X.env) fp) g' tg t ts)
    (ht : ∀ (s : Shared) (H : Hp) (C : Addr) (cl : List (Str × Addr)) (fp : List Addr) (g' : Gh), DTs (X.blk s H scope (compEnvC scope cl C X.env) fp) g' (W0 X.K X.mg) ifs tt)
    (he : ∀ (s : Shared) (H : Hp) (C : Addr) (cl : List (Str × Addr)) (fp : List Addr) (g' : Gh), DE (X.blk s H scope (compEnvC scope cl C X.env) fp) g' (W0 X.K X.mg) elt el)
    (hs : ∀ x, foldedSetIterable iter X.env x = pure x := by intro _; rfl) : DO X g W (.ListComp elt [⟨tg, iter, ifs, 0⟩] scope pos) (oComp (own.map (·.2)) it t tt el) := by
  refine PE.imp (pe_lc (g := fun v σ H Q => ∃ g', liftG X.K g' t ts v σ H Q) (tt := fun σ H Q => ∃ g', liftT X.K g' (W0 X.K X.mg) tt σ H Q) (te := fun σ H Q => ∃ g', liftE X.K g' (W0 X.K X.mg) el σ H Q) hc hN hi ok
    (fun s H C cl fp => ⟨fun pins s' σ H v u Q I r ⟨g', q⟩ => (hg s _ C cl fp g').run pins s' σ H v u Q I r q⟩) (fun s H C cl fp => ⟨fun pins s' σ H Q I ⟨g', q⟩ => (ht s _ C cl fp g').run pins s' σ H Q I q⟩)
    (fun s H C cl fp => ⟨fun pins s' σ H Q I ⟨g', q⟩ => (he s _ C cl fp g').run pins s' σ H Q I q⟩) hs) fun σ H Q h => comp_tLc hsub h
/-- y = [..] -/
theorem ds_setC {i : Nat} {y : Str} {py spos : Pos} (hc : X.calm = true) (hN : X.N.Nodup) (hy : X.N[i]? = some y) (hyl : X.env.scope.names.lookup y = some .local) (hsw : swapsWith (.ListComp elt [⟨tg, iter, ifs, 0⟩] scope pos) (some (.Name y py)) spos.line X.env = pure true)
    (hi : DI X g W tg iter it) (ok : BlkOk X.N X.env.scope scope own) (hsub : ∀ i ∈ ts, i ∈ own.map (·.2))
    (hg : ∀ (s : Shared) (H : Hp) (C : Addr) (cl : List (Str × Addr)) (fp : List Addr) (g' : Gh), DG (X.blk s H scope (compEnvC scope cl C X.env) fp) g' tg t ts)
    (ht : ∀ (s : Shared) (H : Hp) (C : Addr) (cl : List (Str × Addr)) (fp : List Addr) (g' : Gh), DTs (X.blk s H scope (compEnvC scope cl C X.env) fp) g' (W0 X.K X.mg) ifs tt)
    (he : ∀ (s : Shared) (H : Hp) (C : Addr) (cl : List (Str × Addr)) (fp : List Addr) (g' : Gh), DE (X.blk s H scope (compEnvC scope cl C X.env) fp) g' (W0 X.K X.mg) elt el)
    (hs : ∀ x, foldedSetIterable iter X.env x = pure x := by intro _; rfl) : DS X g W (.Assign [.Name y py] (.ListComp elt [⟨tg, iter, ifs, 0⟩] scope pos) spos) (bSetO i (oComp (own.map (·.2)) it t tt el)) := by
  refine PS.imp (ps_setLc (g := fun v σ H Q => ∃ g', liftG X.K g' t ts v σ H Q) (tt := fun σ H Q => ∃ g', liftT X.K g' (W0 X.K X.mg) tt σ H Q) (te := fun σ H Q => ∃ g', liftE X.K g' (W0 X.K X.mg) el σ H Q) hc hN hy hyl hsw hi ok
    (fun s H C cl fp => ⟨fun pins s' σ H v u Q I r ⟨g', q⟩ => (hg s _ C cl fp g').run pins s' σ H v u Q I r q⟩) (fun s H C cl fp => ⟨fun pins s' σ H Q I ⟨g', q⟩ => (ht s _ C cl fp g').run pins s' σ H Q I q⟩)
    (fun s H C cl fp => ⟨fun pins s' σ H Q I ⟨g', q⟩ => (he s _ C cl fp g').run pins s' σ H Q I q⟩) hs) fun E σ H h => ?_
  refine comp_tLc (W := W) (g := g) hsub ?_
  obtain ⟨F, en, rp, f⟩ := h
  refine ⟨F, en, rp, FinS.of_out f fun F' H' en' d s rp' k p H'' r2 n => ?_⟩
  cases q : putS en' i (.own false d) with
  | none => rw [q] at k; exact k.elim
  | some en2 =>
    rw [q] at k
    exact k _ F' H'' (Same.refl _) (r2.stO n q)
end
end DL
/-! Dl8: operators by data. -/
namespace DL
open PySem PySem.Spec L2
open PyProof.Rows hiding St

/-! ### what is seen of a value -/
section
variable {K : PySem.W.Frag} {F H : Hp} {v : V} {Q : VK}
theorem vw_non (h : Vw K F H v .none) : v = .non := by
  cases h with
  | fz h => cases h; rfl
  | own h _ => cases h
theorem vw_bl {b : Bool} (h : Vw K F H v (.bool b)) : v = .bl b := by
  cases h with
  | fz h => cases h; rfl
  | own h _ => cases h
theorem vw_int {i : Int} (h : Vw K F H v (.int i)) : v = .int i := by
  cases h with
  | fz h => cases h; rfl
  | own h _ => cases h
theorem vw_str {x : Str} (h : Vw K F H v (.str x)) : v = .str x := by
  cases h with
  | fz h => cases h; rfl
  | own h _ => cases h
theorem vw_lst {ds : List D} (s : Same F H) (h : Vw K F H v (.list ds)) : ∃ (a : Addr) (xs : List V), v = .ref a ∧ H a = some (.lst xs) ∧ DvAll K F xs ds := by
  cases h with
  | fz h =>
    cases h with
    | lst q a => exact ⟨_, _, rfl, s _ _ q, a⟩
  | own h _ =>
    cases h with
    | lst q a => exact ⟨_, _, rfl, q, a⟩
theorem vw_tup {ds : List D} (s : Same F H) (h : Vw K F H v (.tuple ds)) : ∃ (a : Addr) (xs : List V), v = .ref a ∧ SqT K H a xs ∧ DvAll K F xs ds ∧ Dv K F v (.tuple ds) := by
  cases h with
  | fz h =>
    cases h with
    | tup q a => exact ⟨_, _, rfl, sqT_mono s q, a, .tup q a⟩
  | own h _ => cases h
theorem vw_scr {ds : List D} (s : Same F H) (h : Vw K F H v (.dict [(.none, .list ds)])) : ∃ (a : Addr) (ns : List Int), v = .ref a ∧ ds = ns.map PyData.int ∧ SqL K H a (ns.map V.int) := by
  cases h with
  | fz h =>
    obtain ⟨a, ns, e1, e2, q⟩ := dv_scr h
    exact ⟨a, ns, e1, e2, sqL_mono s q⟩
  | own h _ =>
    generalize e : PyData.dict [(.none, .list ds)] = d at h
    cases h <;> first | (cases e; done) | skip
    · rename_i kvs es q _
      cases kvs with
      | nil => cases e
      | cons p r =>
        cases es with
        | nil => cases e
        | cons d es =>
          injection e with e
          injection e with e _
          injection e with e _
          obtain ⟨k, v⟩ := p
          cases k <;> cases e
theorem give_tup {xs : List V} {ds : List D} (s : Same F H) (g : Give K F H (.tuple ds) Q) (a : DvAll K F xs ds) : ∀ p, H p = none → Q (.ref p) (upd H p (.tup xs)) := fun p hp =>
  let x := Ext.put s hp (.tup xs)
  g _ _ _ x (.tup (.inl (.inl upd_same)) (a.mono x.le))
theorem give_lst {xs : List V} {ds : List D} (s : Same F H) (g : Give K F H (.list ds) Q) (a : DvAll K F xs ds) : ∀ p, H p = none → Q (.ref p) (upd H p (.lst xs)) := fun p hp =>
  let x := Ext.put s hp (.lst xs)
  g _ _ _ x (.lst upd_same (a.mono x.le))
end

theorem OpR.or {X : Cx} {f : Value → Value → Sem Value} {r r' : R2} (h : OpR X f r) (h' : OpR X f r') : OpR X f (fun x y H Q => r x y H Q ∨ r' x y H Q) := by
  intro pins s σ H x y v u Q I rx ry q
  rcases q with q | q
  · exact h pins s σ H x y v u Q I rx ry q
  · exact h' pins s σ H x y v u Q I rx ry q
theorem CallR.or {X : Cx} {f : Value} {r r' : List V → Hp → VK → Prop} (h : CallR X f r) (h' : CallR X f r') : CallR X f (fun xs H Q => r xs H Q ∨ r' xs H Q) := by
  intro pins s σ H xs us Q I rx q
  rcases q with q | q
  · exact h pins s σ H xs us Q I rx q
  · exact h' pins s σ H xs us Q I rx q

/-! ### + - * // % ** -/
def szT (ds : List D) : Option D := if ds.length ≤ sizeLine then some (.tuple ds) else none
def szL (ds : List D) : Option D := if ds.length ≤ sizeLine then some (.list ds) else none
def sAdd : D → D → Option D
  | .int i, .int j => some (.int (i + j))
  | .str x, .str y => if x.length + y.length ≤ sizeLine then some (.str (x ++ y)) else none
  | .tuple a, .tuple b => szT (a ++ b)
  | .list a, .list b => szL (a ++ b)
  | _, _ => none
def sSub : D → D → Option D
  | .int i, .int j => some (.int (i - j))
  | _, _ => none
def wideB (i j : Int) : Bool := decide (i.natAbs.log2 + j.natAbs.log2 < 1000000)
def sMul : D → D → Option D
  | .int i, .int j => if wideB i j = true then some (.int (i * j)) else none
  | .list a, .int k => if -(2 ^ 63) ≤ k ∧ k < 2 ^ 63 ∧ a.length * k.toNat ≤ sizeLine then some (.list (List.replicate k.toNat a).flatten) else none
  | .tuple a, .int k => if a ≠ [] ∧ 2 ≤ k ∧ k ≤ 1000 ∧ a.length ≤ 1000 then some (.tuple (List.replicate k.toNat a).flatten) else none
  | _, _ => none
def sFdiv : D → D → Option D
  | .int i, .int j => if 0 < j ∧ j.natAbs.log2 < 9000 then some (.int (i / j)) else none
  | _, _ => none
def sMod : D → D → Option D
  | .int i, .int j => if 0 < j then some (.int (i % j)) else none
  | _, _ => none
def sPow : D → D → Option D
  | .int i, .int j => if 0 ≤ j ∧ j ≤ 1000000 ∧ i.natAbs < 2 ^ 64 then some (.int (i ^ j.toNat)) else none
  | _, _ => none
section
variable {X : Cx}
theorem DvAll.rep {K : PySem.W.Frag} {F : Hp} {vs : List V} {ds : List D} (h : DvAll K F vs ds) : ∀ n : Nat, DvAll K F (List.replicate n vs).flatten (List.replicate n ds).flatten
  | 0 => .nil
  | n + 1 => by
    rw [List.replicate_succ, List.replicate_succ, List.flatten_cons, List.flatten_cons]
    exact h.append (DvAll.rep h n)
def rAddAll (K : PySem.W.Frag) : R2 := fun x y H Q => rI0 (fun i j => .int (i + j)) x y H Q ∨ (∃ i j, x = .str i ∧ y = .str j ∧ i.length + j.length ≤ sizeLine ∧ Q (.str (i ++ j)) H) ∨ rCatA K x y H Q ∨ rCat x y H Q
theorem or_add : OpR X (binaryOp .Add) (rAddAll X.K) := OpR.or op_add (OpR.or op_add_str (OpR.or op_catA op_cat))
theorem se_add {K : PySem.W.Frag} : Sem2 K (rAddAll K) sAdd := by
  intro F H v u d e c Q s hv hu hs g
  unfold sAdd at hs
  split at hs
  · cases hs
    exact .inl ⟨_, _, vw_int hv, vw_int hu, Give.of s g (.int _)⟩
  · split at hs
    · rename_i hl
      cases hs
      exact .inr (.inl ⟨_, _, vw_str hv, vw_str hu, hl, Give.of s g (.str _)⟩)
    · cases hs
  · unfold szT at hs
    split at hs
    · rename_i hl
      cases hs
      obtain ⟨a, xs, rfl, q1, a1, dv1⟩ := vw_tup s hv
      obtain ⟨b, ys, rfl, q2, a2, dv2⟩ := vw_tup s hu
      rw [List.length_append] at hl
      refine .inr (.inr (.inl ⟨a, b, xs, ys, rfl, rfl, q1, q2, by rw [a1.length, a2.length]; exact hl, fun e => ?_, fun _ e => ?_, fun _ _ => give_tup s g (a1.append a2)⟩))
      · subst e
        cases a1
        exact Give.of s g dv2
      · subst e
        cases a2
        rw [List.append_nil] at g
        exact Give.of s g dv1
    · cases hs
  · unfold szL at hs
    split at hs
    · rename_i hl
      cases hs
      obtain ⟨a, xs, rfl, q1, a1⟩ := vw_lst s hv
      obtain ⟨b, ys, rfl, q2, a2⟩ := vw_lst s hu
      rw [List.length_append] at hl
      exact .inr (.inr (.inr ⟨a, b, xs, ys, rfl, rfl, q1, q2, by rw [a1.length, a2.length]; exact hl, give_lst s g (a1.append a2)⟩))
    · cases hs
  · cases hs
theorem or_sub : OpR X (binaryOp .Sub) (rI0 fun i j => .int (i - j)) := op_sub
theorem se_sub {K : PySem.W.Frag} : Sem2 K (rI0 fun i j => .int (i - j)) sSub := by
  intro F H v u d e c Q s hv hu hs g
  unfold sSub at hs
  split at hs
  · cases hs
    exact ⟨_, _, vw_int hv, vw_int hu, Give.of s g (.int _)⟩
  · cases hs
def rMulAll (K : PySem.W.Frag) : R2 := fun x y H Q => rI CMulW (fun i j => .int (i * j)) x y H Q ∨ rRep x y H Q ∨ rRepT K x y H Q
theorem or_mul : OpR X (binaryOp .Mult) (rMulAll X.K) := OpR.or op_mulW (OpR.or op_rep op_repT)
theorem se_mul {K : PySem.W.Frag} : Sem2 K (rMulAll K) sMul := by
  intro F H v u d e c Q s hv hu hs g
  unfold sMul at hs
  split at hs
  · split at hs
    · rename_i hw
      cases hs
      exact .inl ⟨_, _, vw_int hv, vw_int hu, by unfold wideB at hw; have z := of_decide_eq_true hw; exact z, Give.of s g (.int _)⟩
    · cases hs
  · split at hs
    · rename_i hl
      cases hs
      obtain ⟨a, xs, rfl, q1, a1⟩ := vw_lst s hv
      exact .inr (.inl ⟨a, _, xs, rfl, vw_int hu, q1, hl.1, hl.2.1, by rw [a1.length]; exact hl.2.2, give_lst s g (a1.rep _)⟩)
    · cases hs
  · split at hs
    · rename_i hl
      cases hs
      obtain ⟨a, xs, rfl, q1, a1, _⟩ := vw_tup s hv
      exact .inr (.inr ⟨a, _, xs, rfl, vw_int hu, q1, fun z => hl.1 (by subst z; cases a1; rfl), hl.2.1, hl.2.2.1, by rw [a1.length]; exact hl.2.2.2, give_tup s g (a1.rep _)⟩)
    · cases hs
  · cases hs
theorem or_fdiv : OpR X (binaryOp .FloorDiv) (rI CDivW fun i j => .int (i / j)) := op_fdivW
theorem se_fdiv {K : PySem.W.Frag} : Sem2 K (rI CDivW fun i j => .int (i / j)) sFdiv := by
  intro F H v u d e c Q s hv hu hs g
  unfold sFdiv at hs
  split at hs
  · split at hs
    · rename_i hw
      cases hs
      exact ⟨_, _, vw_int hv, vw_int hu, hw, Give.of s g (.int _)⟩
    · cases hs
  · cases hs
theorem or_mod : OpR X (binaryOp .Mod) (rI (fun _ j => 0 < j) fun i j => .int (i % j)) := op_mod
theorem se_mod {K : PySem.W.Frag} : Sem2 K (rI (fun _ j => 0 < j) fun i j => .int (i % j)) sMod := by
  intro F H v u d e c Q s hv hu hs g
  unfold sMod at hs
  split at hs
  · split at hs
    · rename_i hw
      cases hs
      exact ⟨_, _, vw_int hv, vw_int hu, hw, Give.of s g (.int _)⟩
    · cases hs
  · cases hs
theorem or_pow : OpR X (binaryOp .Pow) (rI CPow fun i j => .int (i ^ j.toNat)) := op_pow
theorem se_pow {K : PySem.W.Frag} : Sem2 K (rI CPow fun i j => .int (i ^ j.toNat)) sPow := by
  intro F H v u d e c Q s hv hu hs g
  unfold sPow at hs
  split at hs
  · split at hs
    · rename_i hw
      cases hs
      exact ⟨_, _, vw_int hv, vw_int hu, hw, Give.of s g (.int _)⟩
    · cases hs
  · cases hs
def sNeg : D → Option D
  | .int i => some (.int (-i))
  | _ => none
theorem or_neg : UnR X (unaryOp .USub) (rU fun i => .int (-i)) := un_neg
theorem se_neg {K : PySem.W.Frag} : Sem1 K (rU fun i => .int (-i)) sNeg := by
  intro F H v d e Q s hv hs g
  unfold sNeg at hs
  split at hs
  · cases hs
    exact ⟨_, vw_int hv, Give.of s g (.int _)⟩
  · cases hs

/-! ### comparisons -/
def sCmp (f : Int → Int → Bool) : D → D → Option D
  | .int i, .int j => some (.bool (f i j))
  | _, _ => none
theorem se_cmp {K : PySem.W.Frag} {f : Int → Int → Bool} : Sem2 K (rI0 fun i j => .bl (f i j)) (sCmp f) := by
  intro F H v u d e c Q s hv hu hs g
  unfold sCmp at hs
  split at hs
  · cases hs
    exact ⟨_, _, vw_int hv, vw_int hu, Give.of s g (.bl _)⟩
  · cases hs
abbrev fLt (i j : Int) : Bool := decide (i < j)
abbrev fLe (i j : Int) : Bool := decide (i ≤ j)
abbrev fGt (i j : Int) : Bool := decide (i > j)
abbrev fGe (i j : Int) : Bool := decide (i ≥ j)
theorem or_lt : OpR X (compareOp .Lt) (rI0 fun i j => .bl (fLt i j)) := op_lt
theorem or_le : OpR X (compareOp .LtE) (rI0 fun i j => .bl (fLe i j)) := op_le
theorem or_gt : OpR X (compareOp .Gt) (rI0 fun i j => .bl (fGt i j)) := op_gt
theorem or_ge : OpR X (compareOp .GtE) (rI0 fun i j => .bl (fGe i j)) := op_ge
end

/-! ### == != -/
section
variable {K : PySem.W.Frag} {F H : Hp}
mutual
theorem dv_dp (s : Same F H) : ∀ (d : D) (v : V), d.canLay0 = true → Dv K F v d → Dp K H v d
  | .none, _, _, h => by cases h; exact .non
  | .bool b, _, _, h => by cases h; exact .bl b
  | .int i, _, _, h => by cases h; exact .int i
  | .str x, _, _, h => by cases h; exact .str x
  | .list ds, _, c, h => by
    cases h with
    | lst q a => exact .lst (.inl (.inl (s _ _ q))) (dvAll_dp s ds _ (by simpa [PyData.canLay0] using c) a)
  | .tuple ds, _, c, h => by
    cases h with
    | tup q a => exact .tup (sqT_mono s q) (dvAll_dp s ds _ (by simpa [PyData.canLay0] using c) a)
  | .dict _, _, c, _ => by simp [PyData.canLay0] at c
theorem dvAll_dp (s : Same F H) : ∀ (ds : List D) (vs : List V), PyData.canLayAll0 ds = true → DvAll K F vs ds → DpAll K H vs ds
  | [], _, _, h => by cases h; exact .nil
  | d :: ds, _, c, h => by
    cases h with
    | cons a b =>
      have c' : d.canLay0 = true ∧ PyData.canLayAll0 ds = true := by simpa [PyData.canLayAll0] using c
      exact .cons (dv_dp s d _ c'.1 a) (dvAll_dp s ds _ c'.2 b)
end
theorem vw_dp {v : V} {d : D} (s : Same F H) (c : d.canLay0 = true) (h : Vw K F H v d) : Dp K H v d := by
  cases h with
  | fz h => exact dv_dp s d v c h
  | own h _ =>
    cases h with
    | lst q a => exact .lst (.inl (.inl q)) (dvAll_dp s _ _ (by simpa [PyData.canLay0] using c) a)
    | dct q a => simp [PyData.canLay0] at c
    | dctT q a => simp [PyData.canLay0] at c
end
/-- == as the language tells it; ints and texts of any size, deep data of a form -/
def eqD : D → D → Option Bool
  | .none, .none => some true
  | .int i, .int j => some (i == j)
  | .bool i, .bool j => some (i == j)
  | .str i, .str j => some (i == j)
  | .none, .int _ => some false
  | .int _, .none => some false
  | .none, .str _ => some false
  | .str _, .none => some false
  | .none, .bool _ => some false
  | .bool _, .none => some false
  | .int _, .str _ => some false
  | .str _, .int _ => some false
  | .bool _, .str _ => some false
  | .str _, .bool _ => some false
  | d, e => if SeqAt.shaped d = true ∧ SeqAt.shaped e = true then some (PyData.eqv d e) else none
def sEq (d e : D) : Option D := (eqD d e).map .bool
def sNe (d e : D) : Option D := (eqD d e).map fun b => .bool (!b)
section
variable {X : Cx} {K : PySem.W.Frag}
theorem eq_walk {F H : Hp} {v u : V} {d e : D} {b : Bool} (s : Same F H) (hv : Vw K F H v d) (hu : Vw K F H u e) (hs : eqD d e = some b) :
    (scal v u = true ∧ decide (v = u) = b) ∨ (∃ d e, Dp K H v d ∧ Dp K H u e ∧ SeqAt.shaped d = true ∧ SeqAt.shaped e = true ∧ PyData.eqv d e = b) := by
  unfold eqD at hs
  split at hs
  · cases hs; left; rw [vw_non hv, vw_non hu]; exact ⟨rfl, decide_eq_true rfl⟩
  · cases hs; left; rw [vw_int hv, vw_int hu]; exact ⟨rfl, dec_int⟩
  · cases hs; left; rw [vw_bl hv, vw_bl hu]; exact ⟨rfl, dec_bl⟩
  · cases hs; left; rw [vw_str hv, vw_str hu]; exact ⟨rfl, dec_str⟩
  · cases hs; left; rw [vw_non hv, vw_int hu]; exact ⟨rfl, decide_eq_false fun z => by cases z⟩
  · cases hs; left; rw [vw_int hv, vw_non hu]; exact ⟨rfl, decide_eq_false fun z => by cases z⟩
  · cases hs; left; rw [vw_non hv, vw_str hu]; exact ⟨rfl, decide_eq_false fun z => by cases z⟩
  · cases hs; left; rw [vw_str hv, vw_non hu]; exact ⟨rfl, decide_eq_false fun z => by cases z⟩
  · cases hs; left; rw [vw_non hv, vw_bl hu]; exact ⟨rfl, decide_eq_false fun z => by cases z⟩
  · cases hs; left; rw [vw_bl hv, vw_non hu]; exact ⟨rfl, decide_eq_false fun z => by cases z⟩
  · cases hs; left; rw [vw_int hv, vw_str hu]; exact ⟨rfl, decide_eq_false fun z => by cases z⟩
  · cases hs; left; rw [vw_str hv, vw_int hu]; exact ⟨rfl, decide_eq_false fun z => by cases z⟩
  · cases hs; left; rw [vw_bl hv, vw_str hu]; exact ⟨rfl, decide_eq_false fun z => by cases z⟩
  · cases hs; left; rw [vw_str hv, vw_bl hu]; exact ⟨rfl, decide_eq_false fun z => by cases z⟩
  · split at hs
    · rename_i hc
      cases hs
      exact .inr ⟨d, e, vw_dp s (SeqAt.canLay_of_shaped hc.1) hv, vw_dp s (SeqAt.canLay_of_shaped hc.2) hu, hc.1, hc.2, rfl⟩
    · cases hs
def rEqAll (K : PySem.W.Frag) : R2 := fun x y H Q => rEq x y H Q ∨ rEqD K x y H Q
def rNeAll (K : PySem.W.Frag) : R2 := fun x y H Q => rNe x y H Q ∨ rNeD K x y H Q
theorem or_eq (hu : X.A.units + 64 < cLine) : OpR X (compareOp .Eq) (rEqAll X.K) := OpR.or op_eq (op_eqD hu)
theorem or_ne (hu : X.A.units + 64 < cLine) : OpR X (compareOp .NotEq) (rNeAll X.K) := OpR.or op_ne (op_neD hu)
theorem se_eq : Sem2 K (rEqAll K) sEq := by
  intro F H v u d e c Q s hv hu hs g
  obtain ⟨b, e1, rfl⟩ := Option.map_eq_some_iff.mp hs
  rcases eq_walk s hv hu e1 with ⟨q1, q2⟩ | ⟨d', e', q1, q2, q3, q4, q5⟩
  · exact .inl ⟨q1, q2 ▸ Give.of s g (.bl _)⟩
  · exact .inr ⟨d', e', q1, q2, q3, q4, q5 ▸ Give.of s g (.bl _)⟩
theorem se_ne : Sem2 K (rNeAll K) sNe := by
  intro F H v u d e c Q s hv hu hs g
  obtain ⟨b, e1, rfl⟩ := Option.map_eq_some_iff.mp hs
  rcases eq_walk s hv hu e1 with ⟨q1, q2⟩ | ⟨d', e', q1, q2, q3, q4, q5⟩
  · exact .inl ⟨q1, q2 ▸ Give.of s g (.bl _)⟩
  · exact .inr ⟨d', e', q1, q2, q3, q4, q5 ▸ Give.of s g (.bl _)⟩

/-! ### is None -/
def isNone : D → Bool
  | .none => true
  | _ => false
def sIs : D → D → Option D
  | d, .none => some (.bool (isNone d))
  | _, _ => none
def sIsNot : D → D → Option D
  | d, .none => some (.bool (!isNone d))
  | _, _ => none
theorem vw_isN {F H : Hp} {v : V} {d : D} (h : Vw K F H v d) : decide (v = .non) = isNone d := by
  cases h with
  | fz h => cases h <;> first | rfl | exact decide_eq_false fun z => by cases z
  | own h _ => cases h <;> exact decide_eq_false fun z => by cases z
def rIsN : R2 := fun x y H Q => y = .non ∧ Q (.bl (decide (x = .non))) H
def rNotN : R2 := fun x y H Q => y = .non ∧ Q (.bl (!decide (x = .non))) H
theorem or_is : OpR X (compareOp .Is) rIsN := op_isN
theorem or_isnot : OpR X (compareOp .IsNot) rNotN := op_notN
theorem se_is : Sem2 K rIsN sIs := by
  intro F H v u d e c Q s hv hu hs g
  unfold sIs at hs
  split at hs
  · cases hs
    exact ⟨vw_non hu, vw_isN hv ▸ Give.of s g (.bl _)⟩
  · cases hs
theorem se_isnot : Sem2 K rNotN sIsNot := by
  intro F H v u d e c Q s hv hu hs g
  unfold sIsNot at hs
  split at hs
  · cases hs
    exact ⟨vw_non hu, vw_isN hv ▸ Give.of s g (.bl _)⟩
  · cases hs
end
end DL
/-! Dsort: sorted(..) of a list or tuple of data. -/
namespace DL
open PySem PySem.Spec PySem.W L2
open PyProof.Rows hiding St

/-- the object's items, a list's or a tuple's -/
def HasSeq (h : Heap) (p : Addr) (us : List Value) : Prop := ∃ (o : Obj) (k : Nat) (T : String), h.get? p = some o ∧ o.cls = .type T ∧ (T = "list" ∨ T = "tuple") ∧ o.data = .seq us.toArray k
section
variable {prog : Program} {w : World} {A : Around} {E : Value → Shared → Prop} {s : Shared} {p : Addr} {us : List Value}
/-- the heap behind collect -/
def gath (h : Heap) (us : List Value) : Heap := (h.push (seqObj "list" #[] 0)).update h.objs.size (Obj.mapSeq (· ++ us.toArray))
theorem collect_both {Q : List Value → Shared → Prop} (hp : HasSeq s.heap p us) (hz : us.length ≤ sizeLine) (q : Q us { s with heap := gath s.heap us }) : wpAny (model prog w) A (collect (.ref p)) Q E s := by
  obtain ⟨o, k, T, ho, hc, hT, hd⟩ := hp
  have old : (s.heap.push (seqObj "list" #[] 0)).get? p = some o := Heap.get?_push_of_some _ ho
  have nw : (s.heap.push (seqObj "list" #[] 0)).get? s.heap.objs.size = some (seqObj "list" #[] 0) := Heap.get?_push_size _ rfl
  have sz : ((#[] : Array Value) ++ us.toArray).size ≤ sizeLine + 1 := by rw [Array.size_append, List.size_toArray, List.size_toArray, List.length_nil]; omega
  have isT : (Value.type T == Value.type "list" || Value.type T == Value.type "tuple") = true := by
    rcases hT with rfl | rfl <;> rfl
  unfold collect
  refine wpAny_bind (wpAny_runValue (codeAny_builtin entry_proto_collect' ?_))
  show wpAny _ _ (newList [] >>= fun l => again (.builtin "list.__iadd__" ⟨[l, .ref p], []⟩)) _ _ s
  refine wpAny_bind (wpAny_newList (wpAny_pure ?_))
  refine ⟨Code.quiet_builtin _ (by decide +kernel), ?_⟩
  refine codeAny_builtin entry_list_iadd' ?_
  show wpAny _ _ (Builtin.List.listExtendWith (.ref s.heap.objs.size) (.ref p) (.ref s.heap.objs.size)) _ _ { s with heap := s.heap.push (seqObj "list" #[] 0) }
  unfold Builtin.List.listExtendWith
  refine wpAny_bind (wpAny_typeOf (T := T) ⟨o, old, hc⟩ ?_)
  rw [if_pos (by rw [Bool.or_assoc, isT, Bool.or_true])]
  refine wpAny_bind (listItems_at old hd ?_)
  refine wpAny_bind (listItems_at (xs := #[]) (n := 0) nw rfl ?_)
  rw [if_neg (by simp)]
  refine wpAny_bind (listUpdate_at (xs := #[]) (n := 0) nw rfl ?_ (Nat.zero_le _) sz)
  refine wpAny_pure ?_
  have e : ((#[] : Array Value) ++ us.toArray).toList = us := by simp
  show wpAny (model prog w) A (load s.heap.objs.size >>= fun o => match o.data with
    | .seq xs _ => pure xs.toList
    | _ => unsupported "internal:collect") Q E { s with heap := gath s.heap us }
  refine wpAny_bind (wpAny_load (get?_update_seq nw _) ?_)
  show wpAny _ _ (pure ((#[] : Array Value) ++ us.toArray).toList) Q E { s with heap := gath s.heap us }
  rw [e]
  exact wpAny_pure q
theorem gath_size (h : Heap) (us : List Value) : (gath h us).objs.size = h.objs.size + 1 := by
  unfold gath
  rw [Heap.size_update, size_push']
/-- sorted(p): the items' data, in their order -/
theorem sorted_both {ds : List PyData} {R : Value → PyData → Prop} {Q : Value → Shared → Prop} (hp : HasSeq s.heap p us) (hz : us.length ≤ sizeLine) (e : EachIs R us ds) (er : EachIs (fun v d => ∃ as, Reads s.heap v d as) us ds)
    (hal : AllAlike ds) (hk : Sortable ds) (hu : ∀ d, d ∈ ds → A.units + 2 + d.depth < cLine)
    (q : ∀ out, EachIs R out (ds.mergeSort (dataLe false fun d => d)) → Q (.ref (s.heap.objs.size + 1)) { s with heap := sortedAll s.heap us out.toArray }) : wpAny (model prog w) A (call (.builtin "sorted") [.ref p]) Q E s := by
  have er' : EachIs (fun v d => ∃ as, Reads (sortingHeap (copyHeap s.heap us) (s.heap.objs.size + 1) us) v d as) us ds := er.mono fun _ _ z => z.elim fun as r => ⟨as, PyProof.Rows.Reads.keeps (fun _ _ => sorting_copy_old) r⟩
  have S := SortsAt.data (prog := prog) (w := w) (A := A.in1.in1) (s := { s with heap := sortingHeap (copyHeap s.heap us) (s.heap.objs.size + 1) us }) er' hal hk hu
  have em : ds.map (fun d => d) = ds := List.map_id' ds
  have out := sortVals_data (h' := sortingHeap (copyHeap s.heap us) (s.heap.objs.size + 1) us) (enc := fun d => d) false e er' (by rw [em]; exact hal)
  rw [em] at out
  refine Calls.call_function_entry kind_sorted plain_sorted entry_sorted (args_sorted1 _) ?_
  unfold Builtin.«sorted»
  refine wpAny_bind (m := checkCount "sorted" 1 1 _) (wpAny_pure ?_)
  refine wpAny_bind (collect_both hp hz ?_)
  refine wpAny_bind (wpAny_newList ?_ hz)
  show wpAny _ _ _ _ _ { s with heap := copyHeap s.heap us }
  rw [gath_size]
  refine wpAny_bind (wpAny_holding (wpAny_call_entry slot_list_sort ⟨_, copyHeap_at s.heap us, rfl⟩ entry_list_sort ?_ (args_list_sort _)))
  refine list_sort_vals (s := { s with heap := copyHeap s.heap us }) (copyHeap_at s.heap us) S hz ⟨_, rfl, wpAny_pure ⟨_, rfl, ?_⟩⟩
  exact q _ out
end

/-! ### over the layer -/
/-- sorted(x): R is what is known of the items -/
def rSortD (K : PySem.W.Frag) : List V → Hp → VK → Prop := fun vs H Q => ∃ (a : Addr) (xs : List V) (ds : List D) (R : V → D → Prop), vs = [.ref a] ∧ (SqL K H a xs ∨ SqT K H a xs) ∧ DpAll K H xs ds ∧ EachIs R xs ds ∧ AllAlike ds ∧ Sortable ds ∧ (∀ d ∈ ds, d.depth ≤ 60) ∧
  ∀ ys p, EachIs R ys (ds.mergeSort (dataLe false fun d => d)) → H p = none → Q (.ref p) (upd H p (.lst ys))
theorem vals_each {P : Value → D → Prop} {R : V → D → Prop} : ∀ {xs : List V} {us : List Value} {ds : List D}, Vals xs us → EachIs R xs ds → (∀ x u d, RelV x u → R x d → P u d) → EachIs P us ds
  | _, _, _, .nil, .nil, _ => .nil
  | _, _, _, .cons r t, .cons h k, f => .cons (f _ _ _ r h) (vals_each t k f)
theorem each_vals {R : V → D → Prop} : ∀ {us : List Value} {ds : List D}, EachIs (fun u d => ∃ x, RelV x u ∧ R x d) us ds → ∃ xs, Vals xs us ∧ EachIs R xs ds
  | _, _, .nil => ⟨[], .nil, .nil⟩
  | _, _, .cons ⟨x, r, h⟩ t => by
    obtain ⟨xs, q1, q2⟩ := each_vals t
    exact ⟨x :: xs, .cons r q1, .cons h q2⟩
section
variable {X : Cx}
theorem reads_each {pins : List (Addr × Obj)} {σ : St} {H : Hp} {s : Shared} (I : Inv X pins σ H s) : ∀ {xs : List V} {us : List Value} {ds : List D}, Vals xs us → DpAll X.K H xs ds → EachIs (fun v d => ∃ as, Reads s.heap v d as) us ds
  | _, _, _, .nil, .nil => .nil
  | _, _, _, .cons r t, .cons h k => .cons (Dp.reads I _ _ _ h r) (reads_each I t k)
theorem cr_sortD (hu : X.A.units + 64 < cLine) : CallR X (.builtin "sorted") (rSortD X.K) := by
  intro pins s σ H vs us Q I r h
  obtain ⟨a, xs, ds, R, rfl, hs, hd, hR, hal, hk, hdp, q⟩ := h
  obtain ⟨u, rfl, rx⟩ := vals1 r
  cases rx
  have go : ∀ its : List Value, Vals xs its → HasSeq s.heap a its → xs.length ≤ sizeLine → wpAny (model X.prog X.w) X.A (call (.builtin "sorted") [.ref a]) (EP X pins σ Q) X.xe s := fun its rv hp hz => by
    have hl := rv.length
    refine sorted_both (R := fun v d => ∃ x, RelV x v ∧ R x d) hp (by omega) (vals_each rv hR fun x u d r h => ⟨x, r, h⟩) (reads_each I rv hd) hal hk (fun d hm => by have := hdp d hm; omega) fun out ho => ?_
    obtain ⟨ys, v1, v2⟩ := each_vals ho
    obtain ⟨ep, he⟩ := PyProof.Rows.sortedAll_at s.heap its out.toArray
    have hlen : ys.length ≤ sizeLine := by
      have e1 := v2.length
      rw [List.length_mergeSort] at e1
      have e2 := hR.length
      omega
    exact ⟨.ref _, upd H (s.heap.objs.size + 1) (.lst ys), I.laid (t' := s.toks) (fun _ _ => PyProof.Rows.sortedAll_old) (Nat.le_succ _) ⟨hlen, out, ep, v1, he⟩, rfl, q ys _ v2 (I.hok.fresh (Nat.le_succ _))⟩
  rcases hs with hs | hs
  · obtain ⟨its, rv, pl, hz⟩ := I.list hs
    obtain ⟨o, ho, hc, n, he⟩ := pl.isList
    exact go its rv ⟨o, n, _, ho, hc, .inl rfl, he⟩ (by have := rv.length; simpa using (this ▸ hz))
  · obtain ⟨its, rv, pl, hz⟩ := I.tuple hs
    obtain ⟨o, ho, hc, n, he⟩ := pl
    exact go its rv ⟨o, n, _, ho, hc, .inr rfl, he⟩ (by have := rv.length; simpa using (this ▸ hz))
end
end DL
/-! Dl9: in, subscripts, slices, built-ins by data. -/
namespace DL
open PySem PySem.Spec L2
open PyProof.Rows hiding St

/-! ### in, not in -/
def flatD : D → Bool
  | .none => true
  | .bool _ => true
  | .int _ => true
  | .str _ => true
  | _ => false
def inB : D → D → Option Bool
  | .str x, .str z => match x.cps.toList with
    | [c] => some (decide (c ∈ z.cps.toList))
    | _ => none
  | x, .tuple ds => if flatD x = true ∧ ds.all flatD = true then some (ds.any fun z => PyData.eqv z x) else none
  | x, .list ds => if flatD x = true ∧ ds.all flatD = true then some (ds.any fun z => PyData.eqv z x) else
      if SeqAt.shaped x = true ∧ SeqAt.shaped (.list ds) = true then some (ds.any fun z => PyData.eqv z x) else none
  | _, _ => none
def sIn (x y : D) : Option D := (inB x y).map .bool
def sNotIn (x y : D) : Option D := (inB x y).map fun b => .bool (!b)
section
variable {K : PySem.W.Frag} {F H : Hp}
theorem dv_flat {v : V} {d : D} (h : Dv K F v d) (f : flatD d = true) : flatV v = true := by
  cases h <;> first | rfl | cases f
theorem dv_eqv {u v : V} {d e : D} (h : Dv K F u d) (f : flatD d = true) (k : Dv K F v e) (g : flatD e = true) : eqV u v = PyData.eqv d e := by
  cases h <;> (first | (cases f; done) | skip) <;> cases k <;> first | (cases g; done) | (unfold L2.eqV PyData.eqv; rfl)
theorem vw_flat {v : V} {d : D} (h : Vw K F H v d) (f : flatD d = true) : Dv K F v d := by
  cases h with
  | fz h => exact h
  | own h _ => cases h <;> cases f
theorem all_flat : ∀ {vs : List V} {ds : List D}, DvAll K F vs ds → ds.all flatD = true → vs.all flatV = true
  | _, _, .nil, _ => rfl
  | _, _, .cons a b, f => by
    rw [List.all_cons, Bool.and_eq_true] at f ⊢
    exact ⟨dv_flat a f.1, all_flat b f.2⟩
theorem any_flat {v : V} {d : D} (k : Dv K F v d) (g : flatD d = true) : ∀ {vs : List V} {ds : List D}, DvAll K F vs ds → ds.all flatD = true → inV v vs = ds.any fun z => PyData.eqv z d
  | _, _, .nil, _ => rfl
  | _, _, .cons a b, f => by
    rw [List.all_cons, Bool.and_eq_true] at f
    unfold inV
    rw [List.any_cons, List.any_cons, dv_eqv a f.1 k g]
    exact congrArg _ (any_flat k g b f.2)
theorem in_walk {v u : V} {d e : D} {b : Bool} (s : Same F H) (hv : Vw K F H v d) (hu : Vw K F H u e) (hs : inB d e = some b) :
    (∃ p xs, u = .ref p ∧ (SqL K H p xs ∨ SqT K H p xs) ∧ flatV v = true ∧ xs.all flatV = true ∧ inV v xs = b) ∨ (∃ (c : Nat) (z : Str), v = .str ⟨#[c]⟩ ∧ u = .str z ∧ decide (c ∈ z.cps.toList) = b) ∨
      (∃ d ds, Dp K H v d ∧ Dp K H u (.list ds) ∧ SeqAt.shaped d = true ∧ SeqAt.shaped (.list ds) = true ∧ (ds.any fun z => PyData.eqv z d) = b) := by
  unfold inB at hs
  split at hs
  · rename_i x z
    split at hs
    · rename_i c e
      cases hs
      refine .inr (.inl ⟨c, z, ?_, vw_str hu, rfl⟩)
      rw [vw_str hv]
      obtain ⟨⟨l⟩⟩ := x
      have e' : l = [c] := e
      subst e'
      rfl
    · cases hs
  · split at hs
    · rename_i hc
      cases hs
      obtain ⟨a, xs, rfl, q, al, _⟩ := vw_tup s hu
      have k := vw_flat hv hc.1
      exact .inl ⟨a, xs, rfl, .inr q, dv_flat k hc.1, all_flat al hc.2, any_flat k hc.1 al hc.2⟩
    · cases hs
  · split at hs
    · rename_i hc
      cases hs
      obtain ⟨a, xs, rfl, q, al⟩ := vw_lst s hu
      have k := vw_flat hv hc.1
      exact .inl ⟨a, xs, rfl, .inl (.inl (.inl q)), dv_flat k hc.1, all_flat al hc.2, any_flat k hc.1 al hc.2⟩
    · split at hs
      · rename_i hc
        cases hs
        exact .inr (.inr ⟨_, _, vw_dp s (SeqAt.canLay_of_shaped hc.1) hv, vw_dp s (SeqAt.canLay_of_shaped hc.2) hu, hc.1, hc.2, rfl⟩)
      · cases hs
  · cases hs
def rInSg (f : Bool → Bool) : R2 := fun x y H Q => ∃ (c : Nat) (z : Str), x = .str ⟨#[c]⟩ ∧ y = .str z ∧ Q (.bl (f (decide (c ∈ z.cps.toList)))) H
def rInAll (K : PySem.W.Frag) : R2 := fun x y H Q => rIn K false x y H Q ∨ rInSg (fun b => b) x y H Q ∨ rInD K x y H Q
def rNotInAll (K : PySem.W.Frag) : R2 := fun x y H Q => rIn K true x y H Q ∨ rInSg (fun b => !b) x y H Q ∨ rNotInD K x y H Q
theorem se_in : Sem2 K (rInAll K) sIn := by
  intro F H v u d e c Q s hv hu hs g
  obtain ⟨b, e1, rfl⟩ := Option.map_eq_some_iff.mp hs
  rcases in_walk s hv hu e1 with ⟨p, xs, rfl, q, f1, f2, e2⟩ | ⟨c, z, rfl, rfl, e2⟩ | ⟨d, ds, q1, q2, q3, q4, e2⟩
  · exact .inl ⟨p, xs, rfl, q, f1, f2, by rw [if_neg Bool.false_ne_true, e2]; exact Give.of s g (.bl _)⟩
  · exact .inr (.inl ⟨c, z, rfl, rfl, by rw [e2]; exact Give.of s g (.bl _)⟩)
  · exact .inr (.inr ⟨d, ds, q1, q2, q3, q4, by rw [e2]; exact Give.of s g (.bl _)⟩)
theorem se_notin : Sem2 K (rNotInAll K) sNotIn := by
  intro F H v u d e c Q s hv hu hs g
  obtain ⟨b, e1, rfl⟩ := Option.map_eq_some_iff.mp hs
  rcases in_walk s hv hu e1 with ⟨p, xs, rfl, q, f1, f2, e2⟩ | ⟨c, z, rfl, rfl, e2⟩ | ⟨d, ds, q1, q2, q3, q4, e2⟩
  · exact .inl ⟨p, xs, rfl, q, f1, f2, by rw [if_pos rfl, e2]; exact Give.of s g (.bl _)⟩
  · exact .inr (.inl ⟨c, z, rfl, rfl, by rw [e2]; exact Give.of s g (.bl _)⟩)
  · exact .inr (.inr ⟨d, ds, q1, q2, q3, q4, by rw [e2]; exact Give.of s g (.bl _)⟩)
end
section
variable {X : Cx}
theorem or_in (hu : X.A.units + 65 < cLine) : OpR X (compareOp .In) (rInAll X.K) := OpR.or op_in_seq (OpR.or op_in_sign (op_inD hu))
theorem or_notin (hu : X.A.units + 65 < cLine) : OpR X (compareOp .NotIn) (rNotInAll X.K) := OpR.or op_notIn_seq (OpR.or op_notIn_sign (op_notInD hu))
theorem u64 {k : Nat} {A : Around} (r : Room k A) : A.units + 64 < cLine := r.units
theorem u65 {k : Nat} {A : Around} (r : Room k A) : A.units + 65 < cLine := by have := r.un; omega
end

/-! ### subscripts -/
def sIx : D → D → Option D
  | .list ds, .int i => atI ds i
  | .tuple ds, .int i => atI ds i
  | .str z, .int i => if z.length ≤ sizeLine then (atI z.cps.toList i).map fun c => .str ⟨#[c]⟩ else none
  | .dict [(.none, .list ds)], .int i => atI ds i
  | _, _ => none
theorem at_all {K : PySem.W.Frag} {F : Hp} {vs : List V} {ds : List D} {i : Int} {d : D} (a : DvAll K F vs ds) (e : atI ds i = some d) : ∃ v, atI vs i = some v ∧ Dv K F v d := by
  unfold atI at e ⊢
  rw [a.length]
  cases q : ixN ds.length i with
  | none => rw [q] at e; cases e
  | some j =>
    rw [q] at e
    exact a.get e
theorem se_ix {K : PySem.W.Frag} : Sem2 K (rIx K) sIx := by
  intro F H v u d e c Q s hv hu hs g
  unfold sIx at hs
  split at hs
  · obtain ⟨a, xs, rfl, q, al⟩ := vw_lst s hv
    obtain ⟨x, e1, dv⟩ := at_all al hs
    exact .inl ⟨a, xs, _, x, rfl, vw_int hu, .inl (.inl q), e1, Give.of s g dv⟩
  · obtain ⟨a, xs, rfl, q, al, _⟩ := vw_tup s hv
    obtain ⟨x, e1, dv⟩ := at_all al hs
    exact .inr (.inl ⟨a, xs, _, x, rfl, vw_int hu, q, e1, Give.of s g dv⟩)
  · split at hs
    · rename_i hz
      obtain ⟨x, e1, rfl⟩ := Option.map_eq_some_iff.mp hs
      exact .inr (.inr ⟨_, _, x, vw_str hv, vw_int hu, hz, e1, Give.of s g (.str _)⟩)
    · cases hs
  · obtain ⟨a, ns, rfl, rfl, q⟩ := vw_scr s hv
    obtain ⟨x, e1, dv⟩ := at_all (DvAll.ints (K := K) (F := F) ns) hs
    exact .inl ⟨a, _, _, x, rfl, vw_int hu, q, e1, Give.of s g dv⟩
  · cases hs
section
variable {X : Cx} {g : Gh} {W : XW} {pos p2 : Pos} {a b : Expr} {fa fb : Ev}
theorem de_ix (ha : DE X g W a fa) (hb : DE X g W b fb) (hs : PlainIx b := by exact fun _ _ => rfl) : DE X g W (.Subscript a b pos) (dOp sIx fa fb) := by
  refine PE.imp (pe_ix ix_seq ha hb hs) fun σ H Q h => ?_
  obtain ⟨F, en, rp, f⟩ := h
  refine ⟨F, en, rp, (Fin.seq f).mono fun F1 H1 en1 x s1 r1 f1 v hv => ⟨F1, en1, r1, (Fin.seq f1).mono fun F2 H2 en2 y s2 r2 f2 u hu => ?_⟩⟩
  refine of_op2 (sem := sIx) (en := en2) (x := x) (y := y) (fun e => by rw [e] at f2; exact f2.elim) fun d e c e1 e2 e3 e4 => ?_
  exact se_ix F2 H2 v u d e c Q r2.fz (r2.view (RvOk.mono s2 hv) e1) (r2.view hu e2) e3 (fin1 r2 e4 f2)

/-! ### slices -/
abbrev Pv := En → Rs (Option Int)
def liftP (K : PySem.W.Frag) (g : Gh) (W : XW) (f : Pv) : TO := fun σ H Q => ∃ F en, Rep K g F en σ H ∧ Fin K g W σ F (f en) fun _ H' _ o => Q o H'
def DP (X : Cx) (g : Gh) (W : XW) (e : Option Expr) (f : Pv) : Prop := PO X e (liftP X.K g W f)
def pNo : Pv := fun en => .ok en none
def pIs (f : Ev) : Pv := fun en => (f en).bind fun en1 x => match x with
  | .d (.int i) => .ok en1 (some i)
  | _ => .no
theorem PO.imp {X : Cx} {e : Option Expr} {t t' : TO} (h : PO X e t) (i : ∀ σ H Q, t' σ H Q → t σ H Q) : PO X e t' := ⟨fun pins s σ H Q I q => h.run pins s σ H Q I (i σ H Q q)⟩
theorem dp_no : DP X g W none pNo := PO.imp po_none fun σ H Q h => by
  obtain ⟨F, en, rp, f⟩ := h
  exact f F H (Same.refl _) rp
theorem dp_is (ha : DE X g W a fa) : DP X g W (some a) (pIs fa) := PO.imp (po_some ha) fun σ H Q h => by
  obtain ⟨F, en, rp, f⟩ := h
  refine ⟨F, en, rp, (Fin.seq f).mono fun F1 H1 en1 x s1 r1 f1 v hv => ?_⟩
  split at f1
  · rename_i i
    exact ⟨i, rv_int hv, f1 F1 H1 (Same.refl _) r1⟩
  · exact f1.elim
def cutD (xs : List D) (lo hi : Option Int) : List D := (xs.drop (HT.sIx xs.length 0 lo)).take (HT.sIx xs.length xs.length hi - HT.sIx xs.length 0 lo)
theorem DvAll.cut {K : PySem.W.Frag} {F : Hp} {vs : List V} {ds : List D} (a : DvAll K F vs ds) (lo hi : Option Int) : DvAll K F (cutV vs lo hi) (cutD ds lo hi) := by
  unfold cutV cutD
  rw [a.length]
  exact (a.drop _).take _
def sSl (lo hi : Option Int) : D → Option D
  | .list ds => some (.list (cutD ds lo hi))
  | .tuple ds => some (.tuple (cutD ds lo hi))
  | .str z => if z.length ≤ sizeLine then some (.str (cutS z lo hi)) else none
  | _ => none
def rSlAll (K : PySem.W.Frag) : V → Option Int → Option Int → Hp → VK → Prop := fun x lo hi H Q => rSlL K x lo hi H Q ∨ rSlA K x lo hi H Q ∨ rSlS x lo hi H Q
theorem sl_all : SlR X (rSlAll X.K) := sl_list.or (sl_tupA.or sl_str)
def dSl (f : Ev) (lo hi : Pv) : Ev := fun en => (f en).bind fun en1 x => (lo en1).bind fun en2 l => (hi en2).bind fun en3 h => op1 (sSl l h) en3 x
theorem se_sl {K : PySem.W.Frag} {lo hi : Option Int} : Sem1 K (fun x H Q => rSlAll K x lo hi H Q) (sSl lo hi) := by
  intro F H v d e Q s hv hs g
  unfold sSl at hs
  split at hs
  · cases hs
    obtain ⟨a, xs, rfl, q, al⟩ := vw_lst s hv
    exact .inl ⟨a, xs, rfl, .inl (.inl q), give_lst s g (al.cut lo hi)⟩
  · cases hs
    obtain ⟨a, xs, rfl, q, al, dv⟩ := vw_tup s hv
    refine .inr (.inl ⟨a, xs, rfl, q, fun z => ?_, fun _ => give_tup s g (al.cut lo hi)⟩)
    rename_i ds
    have e : cutD ds lo hi = ds := by
      unfold cutD
      rw [← al.length, z.1, z.2, List.drop_zero, Nat.sub_zero]
      exact List.take_of_length_le (by rw [al.length]; exact Nat.le_refl _)
    rw [e] at g
    exact Give.of s g dv
  · split at hs
    · rename_i hz
      cases hs
      exact .inr (.inr ⟨_, vw_str hv, hz, Give.of s g (.str _)⟩)
    · cases hs
  · cases hs
theorem de_sl {lo hi : Option Expr} {fl fh : Pv} (ha : DE X g W a fa) (hl : DP X g W lo fl) (hh : DP X g W hi fh) : DE X g W (.Subscript a (.Slice lo hi none p2) pos) (dSl fa fl fh) := by
  refine PE.imp (pe_slice sl_all ha hl hh) fun σ H Q h => ?_
  obtain ⟨F, en, rp, f⟩ := h
  refine ⟨F, en, rp, (Fin.seq f).mono fun F1 H1 en1 x s1 r1 f1 v hv => ⟨F1, en1, r1, (Fin.seq f1).mono fun F2 H2 en2 l s2 r2 f2 => ⟨F2, en2, r2, (Fin.seq f2).mono fun F3 H3 en3 h s3 r3 f3 => ?_⟩⟩⟩
  refine of_op1 (sem := sSl l h) (en := en3) (x := x) (fun e => by rw [e] at f3; exact f3.elim) fun d c e1 e3 e4 => ?_
  exact se_sl F3 H3 v d c Q r3.fz (r3.view (RvOk.mono (s2.trans s3) hv) e1) e3 (fin1 r3 e4 f3)
end

/-! ### built-ins -/
def lenD : D → Option Nat
  | .list ds => some ds.length
  | .tuple ds => some ds.length
  | .str z => if z.length ≤ sizeLine then some z.length else none
  | .dict [(.none, .list ds)] => some ds.length
  | _ => none
def sLen : List D → Option D
  | [d] => (lenD d).map fun n => .int (n : Nat)
  | _ => none
section
variable {K : PySem.W.Frag}
theorem vwAll1 {F H : Hp} {vs : List V} {d : D} (h : VwAll K F H vs [d]) : ∃ v, vs = [v] ∧ Vw K F H v d := by
  cases h with
  | cons a b => cases b; exact ⟨_, rfl, a⟩
theorem vwAll2 {F H : Hp} {vs : List V} {d e : D} (h : VwAll K F H vs [d, e]) : ∃ v u, vs = [v, u] ∧ Vw K F H v d ∧ Vw K F H u e := by
  cases h with
  | cons a b =>
    obtain ⟨u, rfl, q⟩ := vwAll1 b
    exact ⟨_, _, rfl, a, q⟩
def rLen1 (K : PySem.W.Frag) : List V → Hp → VK → Prop := fun xs H Q => ∃ x n, xs = [x] ∧ LenV K x H n ∧ Q (.int (n : Nat)) H
theorem se_len : SemN K (rLen1 K) sLen := by
  intro F H vs ds c Q s hv hs g
  unfold sLen at hs
  split at hs
  · rename_i d
    obtain ⟨v, rfl, q⟩ := vwAll1 hv
    obtain ⟨n, e1, rfl⟩ := Option.map_eq_some_iff.mp hs
    refine ⟨v, n, rfl, ?_, Give.of s g (.int _)⟩
    unfold lenD at e1
    split at e1
    · cases e1
      obtain ⟨a, xs, rfl, q1, al⟩ := vw_lst s q
      exact .inl ⟨xs, .inl (.inl q1), al.length.symm⟩
    · cases e1
      obtain ⟨a, xs, rfl, q1, al, _⟩ := vw_tup s q
      exact .inr ⟨xs, q1, al.length.symm⟩
    · split at e1
      · rename_i hz
        cases e1
        rw [vw_str q]
        exact ⟨hz, rfl⟩
      · cases e1
    · cases e1
      obtain ⟨a, ns, rfl, rfl, q1⟩ := vw_scr s q
      exact .inl ⟨_, q1, by simp⟩
    · cases e1
  · cases hs
theorem cr_len {X : Cx} : CallR X (.builtin "len") (rLen1 X.K) := call_len
def sInt : List D → Option D
  | [.int i] => some (.int i)
  | [.bool b] => some (.int (if b then 1 else 0))
  | _ => none
def rInt1 : List V → Hp → VK → Prop := fun xs H Q => (∃ i, xs = [.int i] ∧ Q (.int i) H) ∨ ∃ k, xs = [.bl k] ∧ Q (.int (if k then 1 else 0)) H
theorem cr_int {X : Cx} : CallR X (.type "int") rInt1 := call_int1
theorem se_int : SemN K rInt1 sInt := by
  intro F H vs ds c Q s hv hs g
  unfold sInt at hs
  split at hs
  · cases hs
    obtain ⟨v, rfl, q⟩ := vwAll1 hv
    rw [vw_int q]
    exact .inl ⟨_, rfl, Give.of s g (.int _)⟩
  · cases hs
    obtain ⟨v, rfl, q⟩ := vwAll1 hv
    rw [vw_bl q]
    exact .inr ⟨_, rfl, Give.of s g (.int _)⟩
  · cases hs
def sAbs : List D → Option D
  | [.int i] => some (.int (if i < 0 then -i else i))
  | _ => none
def rAbs1 : List V → Hp → VK → Prop := fun xs H Q => ∃ i, xs = [.int i] ∧ Q (.int (if i < 0 then -i else i)) H
theorem cr_abs {X : Cx} : CallR X (.builtin "abs") rAbs1 := call_abs
theorem se_abs : SemN K rAbs1 sAbs := by
  intro F H vs ds c Q s hv hs g
  unfold sAbs at hs
  split at hs
  · cases hs
    obtain ⟨v, rfl, q⟩ := vwAll1 hv
    rw [vw_int q]
    exact ⟨_, rfl, Give.of s g (.int _)⟩
  · cases hs
/-- the ints of a list of them -/
def intsD : List D → Option (List Int)
  | [] => some []
  | .int i :: ds => (intsD ds).map fun r => i :: r
  | _ :: _ => none
def boolsD : List D → Option (List Bool)
  | [] => some []
  | .bool i :: ds => (boolsD ds).map fun r => i :: r
  | _ :: _ => none
theorem intsD_eq : ∀ {ds : List D} {ns : List Int}, intsD ds = some ns → ds = ns.map PyData.int
  | [], _, e => by cases e; rfl
  | d :: ds, ns, e => by
    cases d <;> first | (cases e; done) | skip
    obtain ⟨r, e1, rfl⟩ := Option.map_eq_some_iff.mp e
    rw [intsD_eq e1]
    rfl
theorem intsD_map : ∀ ns : List Int, intsD (ns.map PyData.int) = some ns
  | [] => rfl
  | n :: r => by
    show (intsD (r.map PyData.int)).map _ = _
    rw [intsD_map r]
    rfl
theorem boolsD_eq : ∀ {ds : List D} {ns : List Bool}, boolsD ds = some ns → ds = ns.map PyData.bool
  | [], _, e => by cases e; rfl
  | d :: ds, ns, e => by
    cases d <;> first | (cases e; done) | skip
    obtain ⟨r, e1, rfl⟩ := Option.map_eq_some_iff.mp e
    rw [boolsD_eq e1]
    rfl
theorem boolsD_map : ∀ ns : List Bool, boolsD (ns.map PyData.bool) = some ns
  | [] => rfl
  | n :: r => by
    show (boolsD (r.map PyData.bool)).map _ = _
    rw [boolsD_map r]
    rfl
theorem vals_ints_of {F : Hp} : ∀ {ns : List Int} {vs : List V}, DvAll K F vs (ns.map PyData.int) → vs = ns.map V.int
  | [], _, h => by cases h; rfl
  | n :: r, _, h => by
    cases h with
    | cons a b => cases a; rw [vals_ints_of b]; rfl
theorem vals_bools_of {F : Hp} : ∀ {ns : List Bool} {vs : List V}, DvAll K F vs (ns.map PyData.bool) → vs = ns.map V.bl
  | [], _, h => by cases h; rfl
  | n :: r, _, h => by
    cases h with
    | cons a b => cases a; rw [vals_bools_of b]; rfl
def maxL : List Int → Int
  | [] => 0
  | n :: r => r.foldl (fun a b => if b > a then b else a) n
def minL : List Int → Int
  | [] => 0
  | n :: r => r.foldl (fun a b => if b < a then b else a) n
theorem maxF : ∀ (r : List Int) (n : Int), (∀ y ∈ n :: r, y ≤ r.foldl (fun a b => if b > a then b else a) n) ∧ r.foldl (fun a b => if b > a then b else a) n ∈ n :: r
  | [], n => by simp
  | m :: r, n => by
    obtain ⟨h1, h2⟩ := maxF r (if m > n then m else n)
    refine ⟨fun y hy => ?_, ?_⟩
    · have h0 := h1 _ List.mem_cons_self
      rcases List.mem_cons.mp hy with rfl | hy
      · refine Int.le_trans ?_ h0
        split <;> omega
      · rcases List.mem_cons.mp hy with rfl | hy
        · refine Int.le_trans ?_ h0
          split <;> omega
        · exact h1 y (List.mem_cons_of_mem _ hy)
    · rcases List.mem_cons.mp h2 with e | h2
      · rw [List.foldl_cons, e]
        split <;> simp
      · exact List.mem_cons_of_mem _ (List.mem_cons_of_mem _ h2)
theorem minF : ∀ (r : List Int) (n : Int), (∀ y ∈ n :: r, r.foldl (fun a b => if b < a then b else a) n ≤ y) ∧ r.foldl (fun a b => if b < a then b else a) n ∈ n :: r
  | [], n => by simp
  | m :: r, n => by
    obtain ⟨h1, h2⟩ := minF r (if m < n then m else n)
    refine ⟨fun y hy => ?_, ?_⟩
    · have h0 := h1 _ List.mem_cons_self
      rcases List.mem_cons.mp hy with rfl | hy
      · refine Int.le_trans h0 ?_
        split <;> omega
      · rcases List.mem_cons.mp hy with rfl | hy
        · refine Int.le_trans h0 ?_
          split <;> omega
        · exact h1 y (List.mem_cons_of_mem _ hy)
    · rcases List.mem_cons.mp h2 with e | h2
      · rw [List.foldl_cons, e]
        split <;> simp
      · exact List.mem_cons_of_mem _ (List.mem_cons_of_mem _ h2)
theorem maxL_ge {ns : List Int} {y : Int} (h : y ∈ ns) : y ≤ maxL ns := by
  cases ns with
  | nil => cases h
  | cons n r => exact (maxF r n).1 y h
theorem maxL_mem {ns : List Int} (h : ns ≠ []) : maxL ns ∈ ns := by
  cases ns with
  | nil => exact absurd rfl h
  | cons n r => exact (maxF r n).2
theorem minL_le {ns : List Int} {y : Int} (h : y ∈ ns) : minL ns ≤ y := by
  cases ns with
  | nil => cases h
  | cons n r => exact (minF r n).1 y h
theorem minL_mem {ns : List Int} (h : ns ≠ []) : minL ns ∈ ns := by
  cases ns with
  | nil => exact absurd rfl h
  | cons n r => exact (minF r n).2
def sMax : List D → Option D
  | [.int i, .int j] => some (.int (if j > i then j else i))
  | [.list ds] => match intsD ds with
    | some ns => if 0 < ns.length then some (.int (maxL ns)) else none
    | none => none
  | _ => none
def sMin : List D → Option D
  | [.int i, .int j] => some (.int (if j < i then j else i))
  | [.list ds] => match intsD ds with
    | some ns => if 0 < ns.length then some (.int (minL ns)) else none
    | none => none
  | _ => none
def rMax2 : List V → Hp → VK → Prop := fun xs H Q => ∃ i j, xs = [.int i, .int j] ∧ Q (.int (if j > i then j else i)) H
def rMin2 : List V → Hp → VK → Prop := fun xs H Q => ∃ i j, xs = [.int i, .int j] ∧ Q (.int (if j < i then j else i)) H
def rMaxAll (K : PySem.W.Frag) : List V → Hp → VK → Prop := fun xs H Q => rMax2 xs H Q ∨ rMax K xs H Q
def rMinAll (K : PySem.W.Frag) : List V → Hp → VK → Prop := fun xs H Q => rMin2 xs H Q ∨ rMin K xs H Q
theorem cr_max' {X : Cx} (hc : X.calm = true) : CallR X (.builtin "max") (rMaxAll X.K) := CallR.or (call_max2 hc) (cr_max hc)
theorem cr_min' {X : Cx} (hc : X.calm = true) : CallR X (.builtin "min") (rMinAll X.K) := CallR.or (call_min2 hc) (cr_min hc)
theorem se_max : SemN K (rMaxAll K) sMax := by
  intro F H vs ds c Q s hv hs g
  unfold sMax at hs
  split at hs
  · cases hs
    obtain ⟨v, u, rfl, q1, q2⟩ := vwAll2 hv
    rw [vw_int q1, vw_int q2]
    exact .inl ⟨_, _, rfl, Give.of s g (.int _)⟩
  · split at hs
    · rename_i ds ns e1
      split at hs
      · rename_i hl
        cases hs
        obtain ⟨v, rfl, q⟩ := vwAll1 hv
        obtain ⟨a, xs, rfl, q1, al⟩ := vw_lst s q
        rw [intsD_eq e1] at al
        have := vals_ints_of al
        subst this
        refine .inr ⟨a, ns, rfl, .inl (.inl q1), hl, fun m hm hy => ?_⟩
        have hne : ns ≠ [] := by
          intro z
          subst z
          simp at hl
        have : m = maxL ns := Int.le_antisymm (maxL_ge hm) (hy _ (maxL_mem hne))
        subst this
        exact Give.of s g (.int _)
      · cases hs
    · cases hs
  · cases hs
theorem se_min : SemN K (rMinAll K) sMin := by
  intro F H vs ds c Q s hv hs g
  unfold sMin at hs
  split at hs
  · cases hs
    obtain ⟨v, u, rfl, q1, q2⟩ := vwAll2 hv
    rw [vw_int q1, vw_int q2]
    exact .inl ⟨_, _, rfl, Give.of s g (.int _)⟩
  · split at hs
    · rename_i ds ns e1
      split at hs
      · rename_i hl
        cases hs
        obtain ⟨v, rfl, q⟩ := vwAll1 hv
        obtain ⟨a, xs, rfl, q1, al⟩ := vw_lst s q
        rw [intsD_eq e1] at al
        have := vals_ints_of al
        subst this
        refine .inr ⟨a, ns, rfl, .inl (.inl q1), hl, fun m hm hy => ?_⟩
        have hne : ns ≠ [] := by
          intro z
          subst z
          simp at hl
        have : m = minL ns := Int.le_antisymm (hy _ (minL_mem hne)) (minL_le hm)
        subst this
        exact Give.of s g (.int _)
      · cases hs
    · cases hs
  · cases hs
def sSum : List D → Option D
  | [.list ds] => (intsD ds).map fun ns => .int ns.sum
  | _ => none
theorem se_sum : SemN K (rSum K) sSum := by
  intro F H vs ds c Q s hv hs g
  unfold sSum at hs
  split at hs
  · obtain ⟨ns, e1, rfl⟩ := Option.map_eq_some_iff.mp hs
    obtain ⟨v, rfl, q⟩ := vwAll1 hv
    obtain ⟨a, xs, rfl, q1, al⟩ := vw_lst s q
    rw [intsD_eq e1] at al
    have := vals_ints_of al
    subst this
    exact ⟨a, ns, rfl, .inl (.inl q1), Give.of s g (.int _)⟩
  · cases hs
def sAll : List D → Option D
  | [.list ds] => (boolsD ds).map fun ns => .bool (ns.all id)
  | _ => none
def sAny : List D → Option D
  | [.list ds] => (boolsD ds).map fun ns => .bool (ns.any id)
  | _ => none
theorem se_all : SemN K (rAll K) sAll := by
  intro F H vs ds c Q s hv hs g
  unfold sAll at hs
  split at hs
  · obtain ⟨ns, e1, rfl⟩ := Option.map_eq_some_iff.mp hs
    obtain ⟨v, rfl, q⟩ := vwAll1 hv
    obtain ⟨a, xs, rfl, q1, al⟩ := vw_lst s q
    rw [boolsD_eq e1] at al
    have := vals_bools_of al
    subst this
    exact ⟨a, ns, rfl, .inl (.inl q1), Give.of s g (.bl _)⟩
  · cases hs
theorem se_any : SemN K (rAny K) sAny := by
  intro F H vs ds c Q s hv hs g
  unfold sAny at hs
  split at hs
  · obtain ⟨ns, e1, rfl⟩ := Option.map_eq_some_iff.mp hs
    obtain ⟨v, rfl, q⟩ := vwAll1 hv
    obtain ⟨a, xs, rfl, q1, al⟩ := vw_lst s q
    rw [boolsD_eq e1] at al
    have := vals_bools_of al
    subst this
    exact ⟨a, ns, rfl, .inl (.inl q1), Give.of s g (.bl _)⟩
  · cases hs
/-- sorted -/
def nonTup : D → Bool
  | .none => false
  | .tuple _ => false
  | _ => true
def fullTup : D → Bool
  | .tuple (_ :: _) => true
  | _ => false
def canSort (ds : List D) : Bool := (ds.all fun d => ds.all fun e => PySem.W.alike d e) && (ds.all fullTup || ds.all nonTup) && PyData.canLayAll0 ds && ds.all fun d => decide (d.depth ≤ 60)
def sortD (ds : List D) : List D := ds.mergeSort (PySem.W.dataLe false fun d => d)
def sSorted : List D → Option D
  | [.list ds] => if canSort ds = true then some (.list (sortD ds)) else none
  | [.tuple ds] => if canSort ds = true then some (.list (sortD ds)) else none
  | _ => none
theorem canSort_of {ds : List D} (h : canSort ds = true) : PySem.W.AllAlike ds ∧ PySem.W.Sortable ds ∧ PyData.canLayAll0 ds = true ∧ ∀ d ∈ ds, d.depth ≤ 60 := by
  unfold canSort at h
  rw [Bool.and_eq_true, Bool.and_eq_true, Bool.and_eq_true] at h
  obtain ⟨⟨⟨h1, h2⟩, h3⟩, h4⟩ := h
  refine ⟨fun d hd e he => List.all_eq_true.mp (List.all_eq_true.mp h1 d hd) e he, ?_, h3, fun d hd => of_decide_eq_true (List.all_eq_true.mp h4 d hd)⟩
  rcases Bool.or_eq_true_iff.mp h2 with h | h
  · refine .inl fun d hd => ?_
    have := List.all_eq_true.mp h d hd
    unfold fullTup at this
    split at this
    · exact ⟨_, _, rfl⟩
    · cases this
  · refine .inr fun d hd => ?_
    have := List.all_eq_true.mp h d hd
    constructor
    · intro z
      subst z
      exact Bool.noConfusion this
    · intro xs z
      subst z
      exact Bool.noConfusion this
theorem dvAll_each {F : Hp} : ∀ {vs : List V} {ds : List D}, DvAll K F vs ds → PySem.W.EachIs (Dv K F) vs ds
  | _, _, .nil => .nil
  | _, _, .cons a b => .cons a (dvAll_each b)
theorem each_dvAll {F : Hp} : ∀ {vs : List V} {ds : List D}, PySem.W.EachIs (Dv K F) vs ds → DvAll K F vs ds
  | _, _, .nil => .nil
  | _, _, .cons a b => .cons a (each_dvAll b)
theorem se_sorted : SemN K (rSortD K) sSorted := by
  intro F H vs ds c Q s hv hs g
  unfold sSorted at hs
  split at hs
  · split at hs
    · rename_i ds hc
      cases hs
      obtain ⟨v, rfl, q⟩ := vwAll1 hv
      obtain ⟨a, xs, rfl, q1, al⟩ := vw_lst s q
      obtain ⟨c1, c2, c3, c4⟩ := canSort_of hc
      exact ⟨a, xs, ds, Dv K F, rfl, .inl (.inl (.inl q1)), dvAll_dp s ds xs c3 al, dvAll_each al, c1, c2, c4, fun ys p ho hp => give_lst s g (each_dvAll ho) p hp⟩
    · cases hs
  · split at hs
    · rename_i ds hc
      cases hs
      obtain ⟨v, rfl, q⟩ := vwAll1 hv
      obtain ⟨a, xs, rfl, q1, al, _⟩ := vw_tup s q
      obtain ⟨c1, c2, c3, c4⟩ := canSort_of hc
      exact ⟨a, xs, ds, Dv K F, rfl, .inr q1, dvAll_dp s ds xs c3 al, dvAll_each al, c1, c2, c4, fun ys p ho hp => give_lst s g (each_dvAll ho) p hp⟩
    · cases hs
  · cases hs
/-- tuple(..), list(..) -/
def sTuple : List D → Option D
  | [.list ds] => some (.tuple ds)
  | [.tuple ds] => some (.tuple ds)
  | _ => none
def sList : List D → Option D
  | [.list ds] => some (.list ds)
  | [.tuple ds] => some (.list ds)
  | _ => none
def rTuple1 (K : PySem.W.Frag) : List V → Hp → VK → Prop := fun xs H Q => ∃ p ys, xs = [.ref p] ∧ ((SqL K H p ys ∧ ∀ l, H l = none → Q (.ref l) (upd H l (.tup ys))) ∨ (SqT K H p ys ∧ Q (.ref p) H))
def rList1 (K : PySem.W.Frag) : List V → Hp → VK → Prop := fun xs H Q => ∃ p ys, xs = [.ref p] ∧ (SqL K H p ys ∨ SqT K H p ys) ∧ ∀ l, H l = none → Q (.ref l) (upd H l (.lst ys))
theorem cr_tuple {X : Cx} : CallR X (.type "tuple") (rTuple1 X.K) := call_tuple_of
theorem cr_list {X : Cx} : CallR X (.type "list") (rList1 X.K) := call_list_of
theorem se_tuple : SemN K (rTuple1 K) sTuple := by
  intro F H vs ds c Q s hv hs g
  unfold sTuple at hs
  split at hs
  · cases hs
    obtain ⟨v, rfl, q⟩ := vwAll1 hv
    obtain ⟨a, xs, rfl, q1, al⟩ := vw_lst s q
    exact ⟨a, xs, rfl, .inl ⟨.inl (.inl q1), give_tup s g al⟩⟩
  · cases hs
    obtain ⟨v, rfl, q⟩ := vwAll1 hv
    obtain ⟨a, xs, rfl, q1, al, dv⟩ := vw_tup s q
    exact ⟨a, xs, rfl, .inr ⟨q1, Give.of s g dv⟩⟩
  · cases hs
theorem se_list : SemN K (rList1 K) sList := by
  intro F H vs ds c Q s hv hs g
  unfold sList at hs
  split at hs
  · cases hs
    obtain ⟨v, rfl, q⟩ := vwAll1 hv
    obtain ⟨a, xs, rfl, q1, al⟩ := vw_lst s q
    exact ⟨a, xs, rfl, .inl (.inl (.inl q1)), give_lst s g al⟩
  · cases hs
    obtain ⟨v, rfl, q⟩ := vwAll1 hv
    obtain ⟨a, xs, rfl, q1, al, dv⟩ := vw_tup s q
    exact ⟨a, xs, rfl, .inr q1, give_lst s g al⟩
  · cases hs
end
end DL
/-! Dl10: isinstance, the module's constants, methods of lists, targets, several targets at once. -/
namespace DL
open PySem PySem.Spec L2
open PyProof.Rows hiding St

/-! ### isinstance -/
def tyD : D → String
  | .none => "NoneType"
  | .bool _ => "bool"
  | .int _ => "int"
  | .str _ => "str"
  | .list _ => "list"
  | .tuple _ => "tuple"
  | .dict _ => "dict"
def notDct : D → Bool
  | .dict _ => false
  | _ => true
theorem vw_ty {K : PySem.W.Frag} {F H : Hp} {v : V} {d : D} (s : Same F H) (h : Vw K F H v d) (n : notDct d = true) : TyX K H v (.type (tyD d)) := by
  have tt : ∀ {a : Addr} {xs : List V}, SqT K H a xs → TyX K H (.ref a) (.type "tuple") := fun {a xs} q => by
    rcases q with (q | ⟨o, q⟩) | ⟨o, its, k, q, c, _⟩
    · exact .base (.tup q)
    · exact .fTuple q
    · exact .kTuple q c
  cases d with
  | none => rw [vw_non h]; exact .base .non
  | bool b => rw [vw_bl h]; exact .base (.bl b)
  | int i => rw [vw_int h]; exact .base (.int i)
  | str x => rw [vw_str h]; exact .base (.str x)
  | list ds =>
    obtain ⟨a, xs, rfl, q, _⟩ := vw_lst s h
    exact .base (.lst q)
  | tuple ds =>
    obtain ⟨a, xs, rfl, q, _⟩ := vw_tup s h
    exact tt q
  | dict kvs => cases n
def isInt : D → Option D
  | .int _ => some (.bool true)
  | .bool _ => some (.bool true)
  | .dict _ => none
  | _ => some (.bool false)
def isBool : D → Option D
  | .bool _ => some (.bool true)
  | .dict _ => none
  | _ => some (.bool false)
def isStr : D → Option D
  | .str _ => some (.bool true)
  | .dict _ => none
  | _ => some (.bool false)
def isTup : D → Option D
  | .tuple _ => some (.bool true)
  | .dict _ => none
  | _ => some (.bool false)
def isLst : D → Option D
  | .list _ => some (.bool true)
  | .dict _ => none
  | _ => some (.bool false)
def Tells (T : String) (f : D → Option D) : Prop := ∀ d e, f d = some e → notDct d = true ∧ ∃ b, e = .bool b ∧ kitB (tyD d) T = some b
theorem tells_int : Tells "int" isInt := fun d e h => by
  cases d <;> cases h <;> exact ⟨rfl, _, rfl, by simp only [tyD]; decide +kernel⟩
theorem tells_bool : Tells "bool" isBool := fun d e h => by
  cases d <;> cases h <;> exact ⟨rfl, _, rfl, by simp only [tyD]; decide +kernel⟩
theorem tells_str : Tells "str" isStr := fun d e h => by
  cases d <;> cases h <;> exact ⟨rfl, _, rfl, by simp only [tyD]; decide +kernel⟩
theorem tells_tup : Tells "tuple" isTup := fun d e h => by
  cases d <;> cases h <;> exact ⟨rfl, _, rfl, by simp only [tyD]; decide +kernel⟩
theorem tells_lst : Tells "list" isLst := fun d e h => by
  cases d <;> cases h <;> exact ⟨rfl, _, rfl, by simp only [tyD]; decide +kernel⟩
section
variable {X : Cx} {g : Gh} {W : XW} {pos : Pos} {a b : Expr} {fa fb : Ev}
theorem de_isi {T : String} {x : Str} {f : D → Option D} {p p2 : Pos} (hT : Tells T f) (hg : Gl X "isinstance") (hm : X.mg "isinstance" = none) (hgT : Gl X x) (hmT : X.mg x = none) (hv : bootBuiltins x = some (.type T)) (ha : DE X g W a fa)
    (hn : x ≠ "__name__" := by decide) (hd : (x == ("__debug__" : Str)) = false := by decide)
    (h1 : starEach [a, .Name x p2] X.env = (false, eval a X.env) :: starEach [.Name x p2] X.env := by rfl) (h2 : starEach [.Name x p2] X.env = (false, eval (.Name x p2) X.env) :: starEach [] X.env := by rfl)
    (hpl : (backTo pos (starEach [.Name x p2] X.env)).any (·.1) = false := by rfl) : DE X g W (.Call (.Name "isinstance" p) [a, .Name x p2] [] pos) (dUn f fa) := by
  refine PE.imp (pe_callB call_isi hg hm PyProof.Rows.boot_isinstance (pa_cons ha (pa_cons (pe_bltn (v := .ty T) hgT hmT hv rfl hn hd) pa_nil h2) h1) (by decide) (by decide) h1 hpl) fun σ H Q h => ?_
  obtain ⟨F, en, rp, f⟩ := h
  refine ⟨F, en, rp, (Fin.seq f).mono fun F1 H1 en1 x s1 r1 f1 v hv => ?_⟩
  refine of_op1 (en := en1) (x := x) (fun e => by rw [e] at f1; exact f1.elim) fun d c e1 e3 e4 => ?_
  obtain ⟨nd, b, rfl, kb⟩ := hT d c e3
  exact ⟨v, .ty T, _, _, b, rfl, .ty T, vw_ty r1.fz (r1.view hv e1) nd, kit_ty kb, (fin1 r1 e4 f1).of r1.fz (.bl b)⟩

/-! ### the module's constants -/
theorem de_glob {x : Str} {v : V} {u : Value} {d : D} (hg : Gl X x) (hm : X.mg x = some u) (r : RelV v u) (q : ∀ F, Dv X.K F v d) (hd : (x == ("__debug__" : Str)) = false := by decide) : DE X g W (.Name x pos) (dC d) :=
  de_con (pe_glob hg hm r hd) q
/-- what stands at a module's name -/
structure Konst (K : PySem.W.Frag) (mg : Str → Option Value) (x : Str) (d : D) : Prop where
  ex : ∃ (v : V) (u : Value), mg x = some u ∧ RelV v u ∧ ∀ F, Dv K F v d
theorem Konst.int {K : PySem.W.Frag} {mg : Str → Option Value} {x : Str} {i : Int} {t : Tok} (h : mg x = some (.int i t)) : Konst K mg x (.int i) := ⟨.int i, _, h, ⟨t, rfl⟩, fun _ => .int i⟩
theorem Konst.str {K : PySem.W.Frag} {mg : Str → Option Value} {x : Str} {i : Str} {t : Tok} (h : mg x = some (.str i t)) : Konst K mg x (.str i) := ⟨.str i, _, h, ⟨t, rfl⟩, fun _ => .str i⟩
theorem de_k {x : Str} {d : D} (k : Konst X.K X.mg x d) (hg : Gl X x) (hd : (x == ("__debug__" : Str)) = false := by decide) : DE X g W (.Name x pos) (dC d) := by
  obtain ⟨v, u, h1, h2, h3⟩ := k.ex
  exact de_glob hg h1 h2 h3 hd
/-- what is never reached -/
def dNo : Ev := fun _ => .no
def bNo : Bd := fun _ => .no
theorem de_no : DE X g W a dNo := ⟨fun pins s σ H Q I h => by
  obtain ⟨F, en, rp, f⟩ := h
  exact f.elim⟩
theorem ds_no {st : Stmt} : DS X g W st bNo := ⟨fun pins s σ H D I h => by
  obtain ⟨F, en, rp, f⟩ := h
  exact f.elim⟩

/-! ### methods of owned lists -/
/-- o.m(args): the owned thing at o is changed -/
def isListD : D → Bool
  | .list _ => true
  | _ => false
def isDictD : D → Bool
  | .dict _ => true
  | _ => false
def ownIs (q : D → Bool) (en : En) (i : Nat) : Bool := match en[i]? with
  | some (.own _ d) => q d
  | _ => false
def mutK (sem : D → List D → Option (D × D)) (i : Nat) (en2 : En) (xs : List Rv) : Rs Rv := match freeD en2 xs with
  | some ds => (match en2[i]? with
    | some (.own b d) => (match sem d ds with
      | some (r, d') => .ok (en2.set i (.own b d')) (.d r)
      | none => .no)
    | _ => .no)
  | none => .no
def dMut (q : D → Bool) (sem : D → List D → Option (D × D)) (o : Ev) (av : Av) : Ev := fun en => (o en).bind fun en1 x => match x with
  | .s i => if ownIs q en1 i = true then (av en1).bind fun en2 xs => mutK sem i en2 xs else .no
  | .d _ => .no
def mAppend : D → List D → Option (D × D)
  | .list ds, [y] => if ds.length < sizeLine then some (.none, .list (ds ++ [y])) else none
  | _, _ => none
def mExtend : D → List D → Option (D × D)
  | .list ds, [.list es] => if ds.length + es.length ≤ sizeLine then some (.none, .list (ds ++ es)) else none
  | _, _ => none
def mPopAt : D → List D → Option (D × D)
  | .list ds, [.int i] => if -(2 ^ 63) ≤ i ∧ i < 2 ^ 63 then (match seqIndex? i ds.length with
    | some k => (match ds[k]? with
      | some y => some (y, .list (ds.eraseIdx k))
      | none => none)
    | none => none) else none
  | _, _ => none
/-- how a method's rule answers -/
def SemM (K : PySem.W.Frag) (r : V → List V → Hp → VK → Prop) (sem : D → List D → Option (D × D)) : Prop := ∀ F H (p : Addr) d vs ds e d' Q, Same F H → OwnAt K F H p d → DvAll K F vs ds → sem d ds = some (e, d') →
  (∀ v o, Dv K F v e → OwnAt K F (upd H p o) p d' → Q v (upd H p o)) → r (.ref p) vs H Q
theorem dvAll1 {K : PySem.W.Frag} {F : Hp} {vs : List V} {d : D} (h : DvAll K F vs [d]) : ∃ v, vs = [v] ∧ Dv K F v d := by
  cases h with
  | cons a b => cases b; exact ⟨_, rfl, a⟩
theorem own_lst {K : PySem.W.Frag} {F H : Hp} {p : Addr} {ds : List D} (h : OwnAt K F H p (.list ds)) : ∃ xs, H p = some (.lst xs) ∧ DvAll K F xs ds := by
  cases h with
  | lst q a => exact ⟨_, q, a⟩
theorem sm_append {K : PySem.W.Frag} : SemM K rAppend mAppend := by
  intro F H p d vs ds e d' Q s ow al hs k
  unfold mAppend at hs
  split at hs
  · split at hs
    · rename_i hl
      cases hs
      obtain ⟨xs, q, a⟩ := own_lst ow
      obtain ⟨v, rfl, dv⟩ := dvAll1 al
      exact ⟨p, xs, v, rfl, rfl, q, by rw [a.length]; exact hl, k _ _ .non (.lst upd_same (a.append (.one dv)))⟩
    · cases hs
  · cases hs
theorem sm_extend {K : PySem.W.Frag} : SemM K rExtend mExtend := by
  intro F H p d vs ds e d' Q s ow al hs k
  unfold mExtend at hs
  split at hs
  · split at hs
    · rename_i hl
      cases hs
      obtain ⟨xs, q, a⟩ := own_lst ow
      obtain ⟨v, rfl, dv⟩ := dvAll1 al
      cases dv with
      | lst q2 a2 => exact ⟨p, _, xs, _, rfl, rfl, q, s _ _ q2, by rw [a.length, a2.length]; exact hl, k _ _ .non (.lst upd_same (a.append a2))⟩
    · cases hs
  · cases hs
theorem DvAll.at {K : PySem.W.Frag} {F : Hp} {vs : List V} {ds : List D} (a : DvAll K F vs ds) {k : Nat} {d : D} (e : ds[k]? = some d) : ∃ v, vs[k]? = some v ∧ Dv K F v d := a.get e
theorem sm_popAt {K : PySem.W.Frag} : SemM K rPopAt mPopAt := by
  intro F H p d vs ds e d' Q s ow al hs k
  unfold mPopAt at hs
  split at hs
  · split at hs
    · rename_i hb
      split at hs
      · rename_i j ej
        split at hs
        · rename_i y ey
          cases hs
          obtain ⟨xs, q, a⟩ := own_lst ow
          obtain ⟨v, rfl, dv⟩ := dvAll1 al
          cases dv
          obtain ⟨x, ex, dx⟩ := a.at ey
          exact ⟨p, xs, _, j, x, rfl, rfl, q, hb.1, hb.2, by rw [a.length]; exact ej, ex, k _ _ dx (.lst upd_same (a.eraseIdx j))⟩
        · cases hs
      · cases hs
    · cases hs
  · cases hs
/-- what a receiver is -/
def IsA (K : PySem.W.Frag) (q : D → Bool) (T : String) : Prop := ∀ F H (p : Addr) d, OwnAt K F H p d → q d = true → tyV K T (.ref p) H
theorem isA_list {K : PySem.W.Frag} : IsA K isListD "list" := fun F H p d ow h => by
  cases ow with
  | lst q _ => exact .inl ⟨rfl, _, .inl (.inl q)⟩
  | dct q _ => cases h
  | dctT q _ => cases h
theorem isA_dict {K : PySem.W.Frag} : IsA K isDictD "dict" := fun F H p d ow h => by
  cases ow with
  | lst q _ => cases h
  | dct q _ => exact .inr (.inr (.inl ⟨rfl, .inl ⟨_, q⟩⟩))
  | dctT q _ => exact .inr (.inr (.inl ⟨rfl, .inr ⟨_, q⟩⟩))
theorem mut_walk {q : D → Bool} {T : String} {r : V → List V → Hp → VK → Prop} {sem : D → List D → Option (D × D)} {av : Av} (hq : IsA X.K q T) (hs : SemM X.K r sem) {σ : St} {H : Hp} {Q : VK} (h : liftE X.K g W (dMut q sem fa av) σ H Q) : tBM X.K T r (liftE X.K g W fa) (liftA X.K g W av) σ H Q := by
  obtain ⟨F, en, rp, f⟩ := h
  refine ⟨F, en, rp, (Fin.seq f).mono fun F1 H1 en1 x s1 r1 f1 v hv => ?_⟩
  cases x with
  | d d => exact f1.elim
  | s i =>
    have e0 : σ[i]? = some (some v) := hv
    dsimp only at f1
    split at f1
    · rename_i hi
      unfold ownIs at hi
      split at hi
      · rename_i b d e1
        obtain ⟨p, e2, ow, _⟩ := r1.own i b d e1
        rw [e0] at e2
        cases e2
        refine ⟨hq F1 H1 p d ow hi, F1, en1, r1, (Fin.seq f1).mono fun F2 H2 en2 xs s2 r2 f2 vs hvs => ?_⟩
        unfold mutK at f2
        split at f2
        · rename_i ds e3
          split at f2
          · rename_i b2 d2 e4
            split at f2
            · rename_i rr d' e5
              obtain ⟨p', e6, ow2, _⟩ := r2.own i b2 d2 e4
              rw [e0] at e6
              cases e6
              exact hs F2 H2 p d2 vs ds rr d' Q r2.fz ow2 (free_ok hvs e3) e5 fun v' o dv ow' => f2 F2 _ (Same.refl _) (r2.write e4 e0 o ow') v' dv
            · exact f2.elim
          · exact f2.elim
        · exact f2.elim
      · cases hi
    · exact f1.elim
/-- o.append(e), o.extend(e), o.pop(e), .. -/
theorem de_mut {q : D → Bool} {T id : String} {r : V → List V → Hp → VK → Prop} {sem : D → List D → Option (D × D)} {name : Str} {apos : Pos} {es : List Expr} {av : Av} (hq : IsA X.K q T) (hs : SemM X.K r sem) (pa : PlainAttrs T) (slot : Slot T name id) (hty : typeOf (.builtin id) = pure (.type "method_descriptor")) (hm : MtR X id r)
    (ho : DE X g W a fa) (ha : DA X g W (b :: es) av) (hbase : attributeBase a name X.env (eval a X.env) = eval a X.env := by rfl)
    (hfew : ((backTo pos (starEach (b :: es) X.env)).all (fun x => !x.1) && (backToKw pos (keywordEach [] X.env)).all (fun x => x.1.isSome)
      && decide ((b :: es).length + ([] : List Keyword).length + (if ([] : List Keyword).isEmpty then 0 else 1) < 30)) = true := by rfl)
    (hline : (apos.endLine == pos.line) = true := by rfl) (h1 : starEach (b :: es) X.env = (false, eval b X.env) :: starEach es X.env := by rfl) (hpl : (backTo pos (starEach es X.env)).any (·.1) = false := by rfl) :
    DE X g W (.Call (.Attribute a name apos) (b :: es) [] pos) (dMut q sem fa av) :=
  PE.imp (pe_bm pa slot hty hm ho ha hbase hfew hline h1 hpl) fun _ _ _ h => mut_walk hq hs h
theorem de_append {apos : Pos} (ho : DE X g W a fa) (hb : DE X g W b fb) (hbase : attributeBase a "append" X.env (eval a X.env) = eval a X.env := by rfl)
    (hfew : ((backTo pos (starEach [b] X.env)).all (fun x => !x.1) && (backToKw pos (keywordEach [] X.env)).all (fun x => x.1.isSome)
      && decide ([b].length + ([] : List Keyword).length + (if ([] : List Keyword).isEmpty then 0 else 1) < 30)) = true := by rfl)
    (hline : (apos.endLine == pos.line) = true := by rfl) (h1 : starEach [b] X.env = (false, eval b X.env) :: starEach [] X.env := by rfl) :
    DE X g W (.Call (.Attribute a "append" apos) [b] [] pos) (dMut isListD mAppend fa (aCons fb aNil)) :=
  de_mut isA_list sm_append PySem.F.plainAttrs_list PySem.F.slot_list_append PySem.F.type_list_append mt_append ho (da_cons hb da_nil h1) hbase hfew hline h1
theorem de_extend {apos : Pos} (ho : DE X g W a fa) (hb : DE X g W b fb) (hbase : attributeBase a "extend" X.env (eval a X.env) = eval a X.env := by rfl)
    (hfew : ((backTo pos (starEach [b] X.env)).all (fun x => !x.1) && (backToKw pos (keywordEach [] X.env)).all (fun x => x.1.isSome)
      && decide ([b].length + ([] : List Keyword).length + (if ([] : List Keyword).isEmpty then 0 else 1) < 30)) = true := by rfl)
    (hline : (apos.endLine == pos.line) = true := by rfl) (h1 : starEach [b] X.env = (false, eval b X.env) :: starEach [] X.env := by rfl) :
    DE X g W (.Call (.Attribute a "extend" apos) [b] [] pos) (dMut isListD mExtend fa (aCons fb aNil)) :=
  de_mut isA_list sm_extend PySem.F.plainAttrs_list PySem.F.slot_list_extend PySem.F.type_list_extend mt_extend ho (da_cons hb da_nil h1) hbase hfew hline h1
theorem de_popAt {apos : Pos} (ho : DE X g W a fa) (hb : DE X g W b fb) (hbase : attributeBase a "pop" X.env (eval a X.env) = eval a X.env := by rfl)
    (hfew : ((backTo pos (starEach [b] X.env)).all (fun x => !x.1) && (backToKw pos (keywordEach [] X.env)).all (fun x => x.1.isSome)
      && decide ([b].length + ([] : List Keyword).length + (if ([] : List Keyword).isEmpty then 0 else 1) < 30)) = true := by rfl)
    (hline : (apos.endLine == pos.line) = true := by rfl) (h1 : starEach [b] X.env = (false, eval b X.env) :: starEach [] X.env := by rfl) :
    DE X g W (.Call (.Attribute a "pop" apos) [b] [] pos) (dMut isListD mPopAt fa (aCons fb aNil)) :=
  de_mut isA_list sm_popAt PySem.F.plainAttrs_list PySem.F.slot_list_pop PySem.F.type_list_pop mt_popAt ho (da_cons hb da_nil h1) hbase hfew hline h1
end
end DL
/-! Dl11: targets with places, several targets at once, owned things read as values. -/
namespace DL
open PySem PySem.Spec L2
open PyProof.Rows hiding St

/-! ### targets of an assignment -/
abbrev Th := D → Bd
abbrev Ths := List D → Bd
abbrev onlyNx (Q : St → Hp → Prop) : Ends := ⟨Q, fun _ _ => False, fun _ _ => False, fun _ _ => False⟩
def liftH (K : PySem.W.Frag) (g : Gh) (W : XW) (t : Th) : TG := fun v σ H Q => ∃ F en d, Rep K g F en σ H ∧ Dv K F v d ∧ FinS K g W F (t d en) (onlyNx Q)
def liftHs (K : PySem.W.Frag) (g : Gh) (W : XW) (t : Ths) : TGs := fun vs σ H Q => ∃ F en ds, Rep K g F en σ H ∧ DvAll K F vs ds ∧ FinS K g W F (t ds en) (onlyNx Q)
def DH (X : Cx) (g : Gh) (W : XW) (tg : Expr) (t : Th) : Prop := PG X tg (liftH X.K g W t)
def DHs (X : Cx) (g : Gh) (W : XW) (tg : List Expr) (t : Ths) : Prop := PGs X tg (liftHs X.K g W t)
def hName (i : Nat) : Th := fun d en => Opt.out (putS en i (.val d)) .nx
def hNil : Ths := fun ds en => match ds with
  | [] => .nx en
  | _ => .no
def hCons (t : Th) (u : Ths) : Ths := fun ds en => match ds with
  | d :: r => (t d en).next fun en1 => u r en1
  | [] => .no
def hTup (n : Nat) (u : Ths) : Th := fun d en => match d with
  | .tuple ds => if ds.length = n then u ds en else .no
  | _ => .no
def hSub (fo fi : Ev) : Th := fun d en => (fo en).out fun en1 x => match x with
  | .s i => (fi en1).out fun en2 y => match y, en2[i]? with
    | .d (.int k), some (.own b (.list ds)) => (match ixN ds.length k with
      | some j => .nx (en2.set i (.own b (.list (ds.set j d))))
      | none => .no)
    | _, _ => .no
  | .d _ => .no
def Out.nxOnly (o : Out) : Out := match o with
  | .nx en => .nx en
  | .ex en x => .ex en x
  | _ => .no
def bAsg (f : Ev) (t : Th) : Bd := fun en => (f en).out fun en1 x => match x with
  | .d d => (t d en1).nxOnly
  | .s _ => .no
section
variable {K : PySem.W.Frag} {g : Gh} {W : XW} {F : Hp} {Q Q' : St → Hp → Prop}
theorem FinS.nxMono {o : Out} (h : FinS K g W F o (onlyNx Q)) (q : ∀ en σ F' H', o = .nx en → Same F F' → Rep K g F' en σ H' → Q σ H' → Q' σ H') : FinS K g W F o (onlyNx Q') := by
  cases o with
  | nx en => exact fun σ F' H' s r => q en σ F' H' rfl s r (h σ F' H' s r)
  | rt en r =>
    intro v σ F' H' s rp ro
    exact (h v σ F' H' s rp ro).elim
  | bk en =>
    intro σ F' H' s rp
    exact (h σ F' H' s rp).elim
  | ct en =>
    intro σ F' H' s rp
    exact (h σ F' H' s rp).elim
  | ex en x => exact h
  | no => exact h
/-- one, then the next -/
theorem FinS.next {o : Out} {k : En → Out} (h : FinS K g W F (o.next k) (onlyNx Q)) : FinS K g W F o (onlyNx fun σ H => ∃ F' en, Same F F' ∧ Rep K g F' en σ H ∧ FinS K g W F' (k en) (onlyNx Q)) := by
  cases o with
  | nx en => exact fun σ F' H' s r => ⟨F', en, s, r, FinS.weak s h⟩
  | rt en r =>
    intro v σ F' H' s rp ro
    exact (h v σ F' H' s rp ro).elim
  | bk en =>
    intro σ F' H' s rp
    exact (h σ F' H' s rp).elim
  | ct en =>
    intro σ F' H' s rp
    exact (h σ F' H' s rp).elim
  | ex en x => exact h
  | no => exact h
end
section
variable {X : Cx} {g : Gh} {W : XW} {pos : Pos} {e o i : Expr} {es : List Expr} {t : Th} {u : Ths} {f fo fi : Ev}
theorem dh_name {i : Nat} {x : Str} (hN : X.N.Nodup) (hi : X.N[i]? = some x) (hx : Loc X.env.scope x) (hf : X.fn x = true ∨ X.env.scope.names.lookup x = some .local := by first | exact .inl rfl | exact .inr rfl | assumption) : DH X g W (.Name x pos) (hName i) := by
  refine PG.imp (pg_name hN hi hx hf) fun v σ H Q h => ?_
  obtain ⟨F, en, d, rp, dv, f⟩ := h
  unfold hName at f
  cases q : putS en i (.val d) with
  | none => rw [q] at f; exact f.elim
  | some en1 =>
    rw [q] at f
    exact f _ F H (Same.refl _) (rp.putV q dv)
theorem dhs_nil : DHs X g W [] hNil := by
  refine PGs.imp pgs_nil fun v σ H Q h => ?_
  obtain ⟨F, en, ds, rp, dv, f⟩ := h
  cases dv with
  | nil => exact ⟨rfl, f σ F H (Same.refl _) rp⟩
  | cons a b => exact f.elim
theorem dhs_cons (h1 : DH X g W e t) (h2 : DHs X g W es u) (hs : (assignEach (e :: es) X.env).map (·.2) = assign e X.env :: (assignEach es X.env).map (·.2) := by rfl) : DHs X g W (e :: es) (hCons t u) := by
  refine PGs.imp (pgs_cons h1 h2 hs) fun v σ H Q h => ?_
  obtain ⟨F, en, ds, rp, dv, f⟩ := h
  cases dv with
  | nil => exact f.elim
  | cons a b =>
    refine ⟨_, _, rfl, F, en, _, rp, a, (FinS.next f).nxMono fun en1 σ1 F1 H1 e1 s1 r1 q => ?_⟩
    obtain ⟨F2, en2, s2, r2, f2⟩ := q
    exact ⟨F2, en2, _, r2, b.mono s2, f2⟩
theorem dh_tup {k n : Nat} (hc : X.calm = true) (h : DHs X g W es u) (hn : (assignEach es X.env).length = n := by rfl) (hst : (assignEach es X.env).findIdx? (·.1) = none := by rfl) : DH X g W (.Tuple es k pos) (hTup n u) := by
  refine PG.imp (pg_tup hc h hn hst) fun v σ H Q h => ?_
  obtain ⟨F, en, d, rp, dv, f⟩ := h
  unfold hTup at f
  split at f
  · split at f
    · rename_i hl
      obtain ⟨a, xs, rfl, q1, al, _⟩ := vw_tup rp.fz (.fz (H := H) dv)
      exact ⟨a, xs, rfl, q1, al.length.trans hl, F, en, _, rp, al, f⟩
    · exact f.elim
  · exact f.elim
/-- what is behind an evaluation in a target -/
theorem FinS.of_outNx {K : PySem.W.Frag} {σ : St} {F : Hp} {α : Type} {r : Rs α} {k : En → α → Out} {Q : St → Hp → Prop} {P : Hp → Hp → En → α → Prop} (h : FinS K g W F (r.out k) (onlyNx Q))
    (q : ∀ F' H' en a, Same F F' → Rep K g F' en σ H' → FinS K g W F' (k en a) (onlyNx Q) → P F' H' en a) : Fin K g W σ F r P := FinS.of_out h q
theorem dh_sub (ho : DE X g W o fo) (hi : DE X g W i fi)
    (ha : ∀ v, assign (.Subscript o i pos) X.env v = (do
      let ov ← holding [v] (eval o X.env)
      let iv ← holding [v, ov] (eval i X.env)
      standAt pos
      holding [v, ov, iv] (setItem ov iv v)
      release [v, ov, iv] []) := by intro _; rfl) : DH X g W (.Subscript o i pos) (hSub fo fi) := by
  refine PG.imp (pg_sub ho hi set_list ha) fun v σ H Q h => ?_
  obtain ⟨F, en, d, rp, dv, f⟩ := h
  refine ⟨F, en, rp, FinS.of_outNx f fun F1 H1 en1 x s1 r1 f1 ov hov => ?_⟩
  cases x with
  | d _ => exact f1.elim
  | s n =>
    have e0 : σ[n]? = some (some ov) := hov
    refine ⟨F1, en1, r1, FinS.of_outNx f1 fun F2 H2 en2 y s2 r2 f2 iv hiv => ?_⟩
    split at f2
    · rename_i k b ds e1
      split at f2
      · rename_i j ej
        obtain ⟨p, e2, ow, nF, _⟩ := r2.own n b _ e1
        rw [e0] at e2
        cases e2
        obtain ⟨xs, q1, al⟩ := own_lst ow
        refine ⟨p, xs, k, j, rfl, rv_int hiv, q1, by rw [al.length]; exact ej, ?_⟩
        exact f2 σ F2 _ (Same.refl _) (r2.write e1 e0 _ (.lst upd_same (al.set (dv.mono (s1.trans s2)) j)))
      · exact f2.elim
    · exact f2.elim
theorem ds_asg (he : DE X g W e f) (hg : DH X g W o t) (hs : swapsWithSole [o] e pos.line X.env = pure false := by rfl) (hw : swappedStores [o] e X.env = pure none := by rfl)
    (h1 : (assignEach [o] X.env).map (·.2) = [assign o X.env] := by rfl) : DS X g W (.Assign [o] e pos) (bAsg f t) := by
  refine PS.imp (ps_asg he hg hs hw h1) fun E σ H h => ?_
  obtain ⟨F, en, rp, f⟩ := h
  refine ⟨F, en, rp, FinS.of_out f fun F1 H1 en1 x s1 r1 f1 v hv => ?_⟩
  cases x with
  | s n => exact f1.elim
  | d d =>
    refine ⟨F1, en1, d, r1, hv, ?_⟩
    have f1 : FinS X.K g W F1 (t d en1).nxOnly E := f1
    cases q : t d en1 with
    | nx en2 => rw [q] at f1; exact f1
    | ex en2 x => rw [q] at f1; exact f1
    | no => rw [q] at f1; exact f1
    | rt en2 r => rw [q] at f1; exact f1.elim
    | bk en2 => rw [q] at f1; exact f1.elim
    | ct en2 => rw [q] at f1; exact f1.elim

/-! ### parts that may be fresh -/
inductive Fx where
  | d (x : D)
  | o (x : D)
  | s (i : Nat)
abbrev Af := En → Rs (List Fx)
/-- the values of such parts -/
def FxAll (K : PySem.W.Frag) (g : Gh) (F H : Hp) (en : En) (σ : St) : List V → List Fx → List Addr → Prop
  | [], [], [] => True
  | v :: vs, .d x :: xs, ps => Dv K F v x ∧ FxAll K g F H en σ vs xs ps
  | v :: vs, .o x :: xs, p :: ps => v = .ref p ∧ New K g F H en σ p x ∧ p ∉ ps ∧ FxAll K g F H en σ vs xs ps
  | v :: vs, .s i :: xs, ps => σ[i]? = some (some v) ∧ FxAll K g F H en σ vs xs ps
  | _, _, _ => False
def liftX (K : PySem.W.Frag) (g : Gh) (W : XW) (f : Af) : TA := fun σ H Q => ∃ F en, Rep K g F en σ H ∧ Fin K g W σ F (f en) fun F' _ en' xs => ∀ vs ps H'', Rep K g F' en' σ H'' → FxAll K g F' H'' en' σ vs xs ps → Q vs H''
def DX (X : Cx) (g : Gh) (W : XW) (es : List Expr) (f : Af) : Prop := PA X es (liftX X.K g W f)
def xNil : Af := fun en => .ok en []
def xCons (f : Ev) (r : Af) : Af := fun en => (f en).bind fun en1 x => (r en1).bind fun en2 xs => .ok en2 ((match x with
  | .d d => Fx.d d
  | .s i => Fx.s i) :: xs)
def xConsO (f : Ov) (r : Af) : Af := fun en => (f en).bind fun en1 d => (r en1).bind fun en2 xs => .ok en2 (.o d :: xs)
theorem dx_nil : DX X g W [] xNil := PA.imp pa_nil fun σ H Q h => by
  obtain ⟨F, en, rp, f⟩ := h
  exact f F H (Same.refl _) rp [] [] H rp trivial
theorem dx_cons {f : Ev} {r : Af} (ha : DE X g W e f) (hr : DX X g W es r) (hs : starEach (e :: es) X.env = (false, eval e X.env) :: starEach es X.env := by rfl) : DX X g W (e :: es) (xCons f r) := by
  refine PA.imp (pa_cons ha hr hs) fun σ H Q h => ?_
  obtain ⟨F, en, rp, f⟩ := h
  refine ⟨F, en, rp, (Fin.seq f).mono fun F1 H1 en1 x s1 r1 f1 v hv => ⟨F1, en1, r1, (Fin.seq f1).mono fun F2 H2 en2 xs s2 r2 f2 vs ps H3 r3 hvs => ?_⟩⟩
  refine f2 F2 H3 (Same.refl _) r3 (v :: vs) ps H3 r3 ?_
  cases x with
  | d d => exact ⟨Dv.mono s2 hv, hvs⟩
  | s i => exact ⟨hv, hvs⟩
theorem FxAll.fresh {K : PySem.W.Frag} {F H : Hp} {en : En} {σ : St} : ∀ {vs : List V} {xs : List Fx} {ps : List Addr}, FxAll K g F H en σ vs xs ps → ∀ p ∈ ps, g.H0 p = none
  | [], [], [], _, p, h => by cases h
  | v :: vs, .d x :: xs, ps, h, p, hp => FxAll.fresh h.2 p hp
  | v :: vs, .s x :: xs, ps, h, p, hp => FxAll.fresh h.2 p hp
  | v :: vs, .o x :: xs, q :: ps, h, p, hp => by
    rcases List.mem_cons.mp hp with rfl | hp
    · exact h.2.1.nh
    · exact FxAll.fresh h.2.2.2 p hp
  | [], [], _ :: _, h, _, _ => h.elim
  | [], _ :: _, _, h, _, _ => h.elim
  | _ :: _, [], _, h, _, _ => h.elim
  | _ :: _, .o _ :: _, [], h, _, _ => h.elim
/-- over a wider ghost -/
theorem FxAll.widen {K : PySem.W.Frag} {g' : Gh} {F F1 H H1 : Hp} {en en1 : En} {σ : St} (r : Rep K g F1 en1 σ H1) (sb : Sub g g' F1 H1 en1 σ) : ∀ {vs : List V} {xs : List Fx} {ps : List Addr}, FxAll K g' F H en σ vs xs ps → FxAll K g F H en σ vs xs ps
  | [], [], [], _ => trivial
  | v :: vs, .d x :: xs, ps, h => ⟨h.1, FxAll.widen r sb h.2⟩
  | v :: vs, .s x :: xs, ps, h => ⟨h.1, FxAll.widen r sb h.2⟩
  | v :: vs, .o x :: xs, q :: ps, h => by
    refine ⟨h.1, ⟨h.2.1.at_, h.2.1.nf, ?_, h.2.1.no⟩, h.2.2.1, FxAll.widen r sb h.2.2.2⟩
    have e : H1 q = none := by have := h.2.1.nh; rw [sb.2.1] at this; exact this
    rcases r.notFr e with z | z
    · exact absurd e (r.al q z)
    · exact z
  | [], [], _ :: _, h => h.elim
  | [], _ :: _, _, h => h.elim
  | _ :: _, [], _, h => h.elim
  | _ :: _, .o _ :: _, [], h => h.elim
theorem dx_consO {f : Ov} {r : Af} (ha : DO X g W e f) (hr : ∀ g', DX X g' W es r) (hs : starEach (e :: es) X.env = (false, eval e X.env) :: starEach es X.env := by rfl) : DX X g W (e :: es) (xConsO f r) := by
  have hr' : PA X es (fun σ H Q => ∃ g', liftX X.K g' W r σ H Q) := ⟨fun pos pins s σ H Q I ⟨g', q⟩ => (hr g').run pos pins s σ H Q I q⟩
  refine PA.imp (pa_cons ha hr' hs) fun σ H Q h => ?_
  obtain ⟨F, en, rp, f⟩ := h
  refine ⟨F, en, rp, (Fin.seq f).mono fun F1 H0 en1 x s1 r0 f1 p H1 r1 n => ?_⟩
  obtain ⟨g', sb⟩ := sub_ex g F1 H1 en1 σ
  refine ⟨g', F1, en1, r1.narrow sb, ?_⟩
  obtain ⟨o, ho, _⟩ := n.at_.dv n.nf
  cases e1 : r en1 with
  | no => rw [e1] at f1; exact f1.elim
  | ex en2 x => rw [e1] at f1; exact fun F2 H2 s2 r2 => f1 F2 H2 s2 (r1.widen sb r2)
  | ok en2 xs =>
    rw [e1] at f1
    intro F2 H2' s2 _ vs ps H2 r2 hvs
    have w2 := r1.widen sb r2
    obtain ⟨k1, k2⟩ := Rep.stays sb r2 ho n.nf n.no
    have k3 := Rep.staysApart sb r2 ho n.no
    have np : p ∉ ps := fun hp => by
      have := hvs.fresh p hp
      rw [sb.2.1, ho] at this
      cases this
    exact f1 F2 H2 s2 w2 (.ref p :: vs) (p :: ps) H2 w2 ⟨rfl, ⟨n.at_.to (k1.trans ho.symm) s2, k2, n.nh, k3⟩, np, hvs.widen r1 sb⟩

/-! ### several names at once -/
def fxSl : Fx → Sl
  | .d d => .val d
  | .o d => .own false d
  | .s i => .ali i
/-- slot i gets a part -/
def setF (en : En) (i : Nat) (x : Fx) : Option En := match x with
  | .d d => putS en i (.val d)
  | .o d => putS en i (.own false d)
  | .s j => if j = i then none else (match en[j]? with
    | some (.own _ _) => putS en i (.ali j)
    | _ => none)
def setFs (en : En) : List Nat → List Fx → Option En
  | [], [] => some en
  | i :: is, x :: xs => match setF en i x with
    | some en1 => setFs en1 is xs
    | none => none
  | _, _ => none
def bPar (is : List Nat) (a : Af) : Bd := fun en => (a en).out fun en1 xs => Opt.out (setFs en1 is xs) .nx
def setV : St → List Nat → List V → St
  | σ, i :: is, v :: vs => setV (σ.set i (some v)) is vs
  | σ, _, _ => σ
/-- no alias among the parts stands at a slot that is set -/
def aliOk (is : List Nat) (xs : List Fx) : Bool := xs.all fun x => match x with
  | .s j => !is.contains j
  | _ => true
theorem FxAll.step {K : PySem.W.Frag} {F H : Hp} {en en1 : En} {σ σ1 : St} : ∀ {vs : List V} {xs : List Fx} {ps : List Addr}, (∀ q ∈ ps, IsOwn en1 σ1 q → IsOwn en σ q) → (∀ j, Fx.s j ∈ xs → σ1[j]? = σ[j]?) → FxAll K g F H en σ vs xs ps → FxAll K g F H en1 σ1 vs xs ps
  | [], [], [], _, _, _ => trivial
  | v :: vs, .d x :: xs, ps, h1, h2, h => ⟨h.1, FxAll.step h1 (fun j hj => h2 j (List.mem_cons_of_mem _ hj)) h.2⟩
  | v :: vs, .s j :: xs, ps, h1, h2, h => ⟨(h2 j List.mem_cons_self).trans h.1, FxAll.step h1 (fun j hj => h2 j (List.mem_cons_of_mem _ hj)) h.2⟩
  | v :: vs, .o x :: xs, q :: ps, h1, h2, h => ⟨h.1, ⟨h.2.1.at_, h.2.1.nf, h.2.1.nh, fun z => h.2.1.no (h1 q List.mem_cons_self z)⟩, h.2.2.1, FxAll.step (fun q hq => h1 q (List.mem_cons_of_mem _ hq)) (fun j hj => h2 j (List.mem_cons_of_mem _ hj)) h.2.2.2⟩
  | [], [], _ :: _, _, _, h => h.elim
  | [], _ :: _, _, _, _, h => h.elim
  | _ :: _, [], _, _, _, h => h.elim
  | _ :: _, .o _ :: _, [], _, _, h => h.elim
theorem putS_at {en en1 : En} {i : Nat} {s : Sl} (h : putS en i s = some en1) : en1 = en.set i s ∧ i < en.length := by
  unfold putS at h
  split at h
  · rename_i c
    cases h
    refine ⟨rfl, ?_⟩
    unfold canPut at c
    cases q : en[i]? with
    | none => rw [q] at c; cases c
    | some t => exact (List.getElem?_eq_some_iff.mp q).1
  · cases h
/-- what is owned behind a store -/
theorem isOwn_put {en en1 : En} {σ : St} {i : Nat} {s : Sl} {v : V} {q : Addr} (h : putS en i s = some en1) (ne : (∀ b d, s ≠ .own b d) ∨ v ≠ .ref q) (z : IsOwn en1 (σ.set i (some v)) q) : IsOwn en σ q := by
  obtain ⟨rfl, hl⟩ := putS_at h
  obtain ⟨k, b, d, e1, e2⟩ := z
  by_cases hk : k = i
  · subst hk
    rw [List.getElem?_set_self hl] at e1
    rcases ne with n | n
    · exact absurd (Option.some.inj e1) (n b d)
    · by_cases hs : k < σ.length
      · rw [List.getElem?_set_self hs] at e2
        exact absurd (Option.some.inj (Option.some.inj e2)) n
      · rw [List.getElem?_eq_none (by simpa using hs)] at e2
        cases e2
  · rw [List.getElem?_set_ne (Ne.symm hk)] at e1 e2
    exact ⟨k, b, d, e1, e2⟩
/-- all are set -/
theorem set_all {K : PySem.W.Frag} {F H : Hp} : ∀ {is : List Nat} {xs : List Fx} {vs : List V} {ps : List Addr} {en en' : En} {σ : St}, Rep K g F en σ H → FxAll K g F H en σ vs xs ps → aliOk is xs = true → setFs en is xs = some en' → Rep K g F en' (setV σ is vs) H
  | [], [], [], _, en, en', σ, r, _, _, e => by
    cases e
    exact r
  | i :: is, x :: xs, v :: vs, ps, en, en', σ, r, h, ok, e => by
    unfold setFs at e
    cases e1 : setF en i x with
    | none => rw [e1] at e; cases e
    | some en1 =>
      rw [e1] at e
      have okx : aliOk is xs = true := List.all_eq_true.mpr fun y hy => by
        have := List.all_eq_true.mp ok y (List.mem_cons_of_mem _ hy)
        cases y with
        | s j => simp at this ⊢; exact this.2
        | _ => rfl
      have oks : ∀ j, Fx.s j ∈ xs → j ≠ i := fun j hj => by
        have := List.all_eq_true.mp ok _ (List.mem_cons_of_mem _ hj)
        simp at this
        exact this.1
      have oth : ∀ j, Fx.s j ∈ xs → (σ.set i (some v))[j]? = σ[j]? := fun j hj => List.getElem?_set_ne (Ne.symm (oks j hj))
      show Rep K g F en' (setV (σ.set i (some v)) is vs) H
      cases x with
      | d d => exact set_all (r.putV e1 h.1) (h.2.step (fun q _ z => isOwn_put e1 (.inl fun _ _ w => by cases w) z) oth) okx e
      | s j =>
        have r1 : Rep K g F en1 (σ.set i (some v)) H := r.stV (x := .s j) (v := v) h.1 e1
        refine set_all r1 (h.2.step (fun q _ z => ?_) oth) okx e
        unfold setF at e1
        dsimp only at e1
        split at e1
        · cases e1
        · split at e1
          · exact isOwn_put e1 (.inl fun _ _ w => by cases w) z
          · cases e1
      | o d =>
        cases ps with
        | nil => exact h.elim
        | cons p ps =>
          obtain ⟨rfl, n, np, h⟩ := h
          refine set_all (r.stO n e1) (h.step (fun q hq z => isOwn_put e1 (.inr fun w => ?_) z) oth) okx e
          cases w
          exact np hq
  | [], _ :: _, _, _, _, _, _, _, _, _, e => by cases e
  | _ :: _, [], _, _, _, _, _, _, _, _, e => by cases e
  | [], [], _ :: _, _, _, _, _, _, h, _, _ => h.elim
  | _ :: _, _ :: _, [], _, _, _, _, _, h, _, _ => by cases h
end
section
variable {X : Cx} {g : Gh} {W : XW} {pos : Pos} {es : List Expr} {af : Af}
theorem setFs_len : ∀ {is : List Nat} {xs : List Fx} {en en' : En}, setFs en is xs = some en' → xs.length = is.length := by
  intro is
  induction is with
  | nil => intro xs en en' e; cases xs <;> first | rfl | cases e
  | cons i is ih =>
    intro xs en en' e
    cases xs with
    | nil => cases e
    | cons x xs =>
      unfold setFs at e
      split at e
      · exact congrArg (· + 1) (ih e)
      · cases e
theorem FxAll.length {K : PySem.W.Frag} {F H : Hp} {en : En} {σ : St} : ∀ {vs : List V} {xs : List Fx} {ps : List Addr}, FxAll K g F H en σ vs xs ps → vs.length = xs.length := by
  intro vs
  induction vs with
  | nil => intro xs ps h; cases xs <;> first | rfl | exact h.elim
  | cons v vs ih =>
    intro xs ps h
    cases xs with
    | nil => exact h.elim
    | cons x xs =>
      cases x with
      | d d => exact congrArg (· + 1) (ih h.2)
      | s d => exact congrArg (· + 1) (ih h.2)
      | o d =>
        cases ps with
        | nil => exact h.elim
        | cons p ps => exact congrArg (· + 1) (ih h.2.2.2)
theorem FxAll.heap {K : PySem.W.Frag} {F H H' : Hp} {en : En} {σ : St} (k : ∀ q o, H q = some o → H' q = some o) : ∀ {vs : List V} {xs : List Fx} {ps : List Addr}, FxAll K g F H en σ vs xs ps → FxAll K g F H' en σ vs xs ps
  | [], [], [], _ => trivial
  | v :: vs, .d x :: xs, ps, h => ⟨h.1, FxAll.heap k h.2⟩
  | v :: vs, .s j :: xs, ps, h => ⟨h.1, FxAll.heap k h.2⟩
  | v :: vs, .o x :: xs, q :: ps, h => by
    refine ⟨h.1, ⟨h.2.1.at_.to ?_ (Same.refl _), h.2.1.nf, h.2.1.nh, h.2.1.no⟩, h.2.2.1, FxAll.heap k h.2.2.2⟩
    obtain ⟨o, ho, _⟩ := h.2.1.at_.dv h.2.1.nf
    rw [ho, k q o ho]
  | [], [], _ :: _, h => h.elim
  | [], _ :: _, _, h => h.elim
  | _ :: _, [], _, h => h.elim
  | _ :: _, .o _ :: _, [], h => h.elim
/-- a parallel assignment's parts, behind their evaluation -/
theorem par_end {K : PySem.W.Frag} {F1 H2 : Hp} {en1 : En} {is : List Nat} {σ : St} {xs : List Fx} {vs : List V} {ps : List Addr} {E : Ends} (r2 : Rep K g F1 en1 σ H2) (hvs : FxAll K g F1 H2 en1 σ vs xs ps)
    (f1 : FinS K g W F1 (if aliOk is xs = true then Opt.out (setFs en1 is xs) .nx else .no) E) : E.nx (setV σ is vs) H2 ∧ vs.length = is.length := by
  split at f1
  · rename_i ok
    cases q : setFs en1 is xs with
    | none => rw [q] at f1; exact f1.elim
    | some en2 =>
      rw [q] at f1
      exact ⟨f1 _ F1 H2 (Same.refl _) (set_all r2 hvs ok q), by rw [hvs.length, setFs_len q]⟩
  · exact f1.elim
theorem par_walk {is : List Nat} {σ : St} {H : Hp} {E : Ends} (h : liftS X.K g W (fun en => (af en).out fun en1 xs => if aliOk is xs = true then Opt.out (setFs en1 is xs) .nx else .no) E σ H) : liftX X.K g W af σ H fun vs H1 => E.nx (setV σ is vs) H1 ∧ vs.length = is.length := by
  obtain ⟨F, en, rp, f⟩ := h
  exact ⟨F, en, rp, FinS.of_out f fun F1 H1 en1 xs s1 r1 f1 vs ps H2 r2 hvs => par_end r2 hvs f1⟩
def bParN (is : List Nat) (a : Af) : Bd := fun en => (a en).out fun en1 xs => if aliOk is xs = true then Opt.out (setFs en1 is xs) .nx else .no
theorem ds_par2 {i j : Nat} {x y : Str} {a b : Expr} {px py pt : Pos} {kt k2 : Nat} {pt2 : Pos} (hc : X.calm = true) (hN : X.N.Nodup) (hi : X.N[i]? = some x) (hj : X.N[j]? = some y) (hij : i ≠ j)
    (hx : X.env.scope.names.lookup x = some .local) (hy : X.env.scope.names.lookup y = some .local) (ha : DX X g W [a, b] af)
    (hw : swappedStores [.Tuple [.Name x px, .Name y py] kt pt] (.Tuple [a, b] k2 pt2) X.env = pure (some [x, y]) := by rfl)
    (hs : swapsWithSole [.Tuple [.Name x px, .Name y py] kt pt] (.Tuple [a, b] k2 pt2) pos.line X.env = pure false := by rfl) :
    DS X g W (.Assign [.Tuple [.Name x px, .Name y py] kt pt] (.Tuple [a, b] k2 pt2) pos) (bParN [i, j] af) := by
  refine PS.imp (ps_par hc hN hi hj hij hx hy ha hw hs) fun E σ H h => ?_
  obtain ⟨F, en, rp, f⟩ := par_walk h
  refine ⟨F, en, rp, f.mono fun F1 H1 en1 xs s1 r1 f1 vs ps H2 r2 hvs => ?_⟩
  obtain ⟨q, l⟩ := f1 vs ps H2 r2 hvs
  match vs, l with
  | [v, w], _ => exact ⟨v, w, rfl, q⟩
theorem ds_par3 {i j l : Nat} {x y z : Str} {a b c : Expr} {px py pz pt : Pos} {kt k2 : Nat} {pt2 : Pos} (hc : X.calm = true) (hN : X.N.Nodup) (hi : X.N[i]? = some x) (hj : X.N[j]? = some y) (hl : X.N[l]? = some z) (hij : i ≠ j) (hil : i ≠ l) (hjl : j ≠ l)
    (hx : X.env.scope.names.lookup x = some .local) (hy : X.env.scope.names.lookup y = some .local) (hz : X.env.scope.names.lookup z = some .local) (ha : DX X g W [a, b, c] af)
    (hw : swappedStores [.Tuple [.Name x px, .Name y py, .Name z pz] kt pt] (.Tuple [a, b, c] k2 pt2) X.env = pure (some [x, y, z]) := by rfl)
    (hs : swapsWithSole [.Tuple [.Name x px, .Name y py, .Name z pz] kt pt] (.Tuple [a, b, c] k2 pt2) pos.line X.env = pure false := by rfl) :
    DS X g W (.Assign [.Tuple [.Name x px, .Name y py, .Name z pz] kt pt] (.Tuple [a, b, c] k2 pt2) pos) (bParN [i, j, l] af) := by
  refine PS.imp (ps_par3 hc hN hi hj hl hij hil hjl hx hy hz ha hw hs) fun E σ H h => ?_
  obtain ⟨F, en, rp, f⟩ := par_walk h
  refine ⟨F, en, rp, f.mono fun F1 H1 en1 xs s1 r1 f1 vs ps H2 r2 hvs => ?_⟩
  obtain ⟨q, l⟩ := f1 vs ps H2 r2 hvs
  match vs, l with
  | [u, v, w], _ => exact ⟨u, v, w, rfl, q⟩
/-- names as targets, one behind the other -/
def DNs (X : Cx) (is : List Nat) (es : List Expr) : Prop := PGs X es (fun vs σ H Q => vs.length = is.length ∧ Q (setV σ is vs) H)
theorem dn_nil : DNs X [] [] := PGs.imp pgs_nil fun vs σ H Q h => by
  obtain ⟨l, q⟩ := h
  cases vs with
  | nil => exact ⟨rfl, q⟩
  | cons a b => cases l
theorem dn_cons {i : Nat} {is : List Nat} {x : Str} {p : Pos} (hN : X.N.Nodup) (hi : X.N[i]? = some x) (hx : Loc X.env.scope x) (hr : DNs X is es) (hf : X.fn x = true ∨ X.env.scope.names.lookup x = some .local := by first | exact .inl rfl | exact .inr rfl | assumption)
    (hs : (assignEach (.Name x p :: es) X.env).map (·.2) = assign (.Name x p) X.env :: (assignEach es X.env).map (·.2) := by rfl) : DNs X (i :: is) (.Name x p :: es) :=
  PGs.imp (pgs_cons (pg_name hN hi hx hf) hr hs) fun vs σ H Q h => by
    obtain ⟨l, q⟩ := h
    cases vs with
    | nil => cases l
    | cons v vs => exact ⟨v, vs, rfl, by simpa using l, q⟩
/-- names, from a tuple of parts: by the tuple -/
theorem ds_parN {is : List Nat} {ts : List Expr} {kt k2 : Nat} {pt pt2 : Pos} (hc : X.calm = true) (ha : DX X g W es af) (hd : DNs X is ts) (hz : es.length ≤ sizeLine := by decide) (hl : is.length = es.length := by rfl)
    (hs : swapsWithSole [.Tuple ts kt pt] (.Tuple es k2 pt2) pos.line X.env = pure false := by rfl) (hw : swappedStores [.Tuple ts kt pt] (.Tuple es k2 pt2) X.env = pure none := by rfl)
    (h1 : (assignEach [.Tuple ts kt pt] X.env).map (·.2) = [assign (.Tuple ts kt pt) X.env] := by rfl) (hn : (assignEach ts X.env).length = is.length := by rfl) (hst : (assignEach ts X.env).findIdx? (·.1) = none := by rfl) :
    DS X g W (.Assign [.Tuple ts kt pt] (.Tuple es k2 pt2) pos) (bParN is af) := by
  refine PS.imp (ps_asg (pe_tup ha) (pg_tup hc hd hn hst) hs hw h1) fun E σ H h => ?_
  obtain ⟨F, en, rp, f⟩ := h
  refine ⟨F, en, rp, FinS.of_out f fun F1 H1 en1 xs s1 r1 f1 vs ps H2 r2 hvs => ?_⟩
  have f1 : FinS X.K g W F1 (if aliOk is xs = true then Opt.out (setFs en1 is xs) .nx else .no) E := f1
  refine ⟨by rw [(par_end r2 hvs f1).2, hl]; exact hz, fun p hp => ?_⟩
  have nF : F1 p = none := r2.fz.free hp
  have no : ¬ IsOwn en1 σ p := fun z => (r2.ownPs z).2.2 hp
  have h0 : g.H0 p = none := by
    rcases r2.notFr hp with z | z
    · exact absurd hp (r2.al p z)
    · exact z
  have r3 := r2.scratch (.tup vs) nF no h0
  have hv3 := hvs.heap (H' := upd H2 p (.tup vs)) fun q o e => by rw [upd_ne (ne_of_none e hp)]; exact e
  obtain ⟨q, l⟩ := par_end r3 hv3 f1
  exact ⟨p, vs, rfl, .inl (.inl upd_same), l, l, q⟩
end
end DL
/-! Dl12: an owned thing read as a value; chains as tests; defs with that. -/
namespace DL
open PySem PySem.Spec L2
open PyProof.Rows hiding St

/-- slot i, as a value: what it owns is frozen -/
def dVarF (i : Nat) : Ev := fun en => match en[i]? with
  | some (.val d) => .ok en (.d d)
  | some (.own false d) => if canPut en i = true then .ok (en.set i (.val d)) (.d d) else .no
  | _ => .no
section
variable {K : PySem.W.Frag} {g : Gh} {F H : Hp} {en : En} {σ : St}
theorem Rep.thaw (hf : Full g) (r : Rep K g F en σ H) {i : Nat} {d : D} (e : en[i]? = some (.own false d)) (hc : canPut en i = true) : ∃ (p : Addr) (o : HO), σ[i]? = some (some (.ref p)) ∧ H p = some o ∧ F p = none ∧ Dv K (upd F p o) (.ref p) d ∧ Rep K g (upd F p o) (en.set i (.val d)) σ H := by
  obtain ⟨p, e1, ow, nF, hp⟩ := r.own i false d e
  obtain ⟨o, ho, dv⟩ := ow.dv nF
  have h0 : g.H0 p = none := by
    rcases hp with z | z
    · obtain ⟨j, hj⟩ := hf p z
      obtain ⟨q1, d', q2⟩ := r.pl j p hj
      by_cases hij : i = j
      · subst hij
        rw [e] at q2
        cases q2
      · exact absurd (e1.trans q1.symm) (r.sep i j false true d d' hij e q2)
    · exact z
  have le : Same F (upd F p o) := Ext.put.same_updN nF
  have li := (List.getElem?_eq_some_iff.mp e).1
  have eq1 : ∀ {k : Nat} {t : Sl}, (en.set i (.val d))[k]? = some t → (k = i ∧ t = .val d) ∨ (k ≠ i ∧ en[k]? = some t) := fun {k t} e => by
    by_cases hk : k = i
    · subst hk
      rw [List.getElem?_set_self li] at e
      exact .inl ⟨rfl, (Option.some.inj e).symm⟩
    · rw [List.getElem?_set_ne (Ne.symm hk)] at e
      exact .inr ⟨hk, e⟩
  refine ⟨p, o, e1, ho, nF, dv, ⟨fun a u q => ?_, r.fr, r.al, fun a q0 q1 n => ?_, by simpa using r.len, fun k d' q => ?_, fun k b d' q => ?_, fun k j q => ?_, fun k j b c d' e' hne q1 q2 => ?_, fun k q hm => ?_, fun k q hm => ?_⟩⟩
  · by_cases h : a = p
    · subst h; rw [upd_same] at q; rw [← q]; exact ho
    · rw [upd_ne h] at q; exact r.fz a u q
  · have : a ≠ p := fun z => by subst z; exact q1 h0
    rw [upd_ne this]; exact r.nw a q0 q1 n
  · rcases eq1 q with ⟨rfl, z⟩ | ⟨hk, z⟩
    · cases z
      exact ⟨.ref p, e1, dv⟩
    · obtain ⟨v, z1, z2⟩ := r.val k d' z
      exact ⟨v, z1, z2.mono le⟩
  · rcases eq1 q with ⟨rfl, z⟩ | ⟨hk, z⟩
    · cases z
    · obtain ⟨p', z1, z2, z3, z4⟩ := r.own k b d' z
      have : p' ≠ p := fun w => by
        subst w
        exact r.sep k i b false d' d hk z e (z1.trans e1.symm)
      exact ⟨p', z1, z2.to rfl le, by rw [upd_ne this]; exact z3, z4⟩
  · rcases eq1 q with ⟨rfl, z⟩ | ⟨hk, z⟩
    · cases z
    · obtain ⟨z1, b, d', z2⟩ := r.ali k j z
      have hj : j ≠ i := r.noAli hc z
      exact ⟨z1, b, d', by rw [List.getElem?_set_ne (Ne.symm hj)]; exact z2⟩
  · rcases eq1 q1 with ⟨rfl, z⟩ | ⟨hk, z⟩
    · cases z
    · rcases eq1 q2 with ⟨rfl, z2⟩ | ⟨hk2, z2⟩
      · cases z2
      · exact r.sep k j b c d' e' hne z z2
  · obtain ⟨z1, d', z2⟩ := r.pl k q hm
    have hk : k ≠ i := fun w => by
      subst w
      rw [e] at z2
      cases z2
    exact ⟨z1, d', by rw [List.getElem?_set_ne (Ne.symm hk)]; exact z2⟩
  · obtain ⟨z1, z2⟩ := r.rw k q hm
    have hk : k ≠ i := fun w => by
      subst w
      rw [e] at z2
      cases z2
    exact ⟨z1, by rw [List.getElem?_set_ne (Ne.symm hk)]; exact z2⟩
end
section
variable {X : Cx} {g : Gh} {W : XW} {pos : Pos} {a b c : Expr} {fa fb fc : Ev}
theorem de_varF (hf : Full g) {i : Nat} {x : Str} (hN : X.N[i]? = some x) (hv : Vis X.env.scope x) (hd : (x == ("__debug__" : Str)) = false := by decide) (hcd : (x == ("__classdict__" : Str)) = false := by decide) : DE X g W (.Name x pos) (dVarF i) := by
  refine PE.imp (pe_var hN hv hd hcd) fun σ H Q h => ?_
  obtain ⟨F, en, rp, f⟩ := h
  unfold dVarF at f
  split at f
  · rename_i d q
    obtain ⟨v, e, z⟩ := rp.val i d q
    exact ⟨v, e, f F H (Same.refl _) rp v z⟩
  · rename_i d q
    split at f
    · rename_i hc
      obtain ⟨p, o, e1, ho, nF, dv, r2⟩ := rp.thaw hf q hc
      exact ⟨.ref p, e1, f _ H (Ext.put.same_updN nF) r2 _ dv⟩
    · exact f.elim
  · exact f.elim
/-- a op b op' c as a test -/
theorem dt_chain {op op' : CmpOp} {r r' : R2} {sem sem' : D → D → Option D} (ho : OpR X (compareOp op) r) (hs : Sem2 X.K r sem) (ho' : OpR X (compareOp op') r') (hs' : Sem2 X.K r' sem') (ha : DE X g W a fa) (hb : DE X g W b fb) (hc : DE X g W c fc)
    (hm : lastMarks [op, op'] [b, c] = false := by with_unfolding_all rfl) : DT X g W (.Compare a [op, op'] [b, c] pos) (tOf (dChain sem sem' fa fb fc)) := by
  refine PT.imp (pt_chain ho ho' ha hb hc hm) fun σ H Q h => ?_
  obtain ⟨F, en, rp, f⟩ := h
  have f := Fin.seq f
  refine ⟨F, en, rp, (Fin.seq f).mono fun F1 H1 en1 x s1 r1 f1 v hv => ⟨F1, en1, r1, (Fin.seq f1).mono fun F2 H2 en2 y s2 r2 f2 u hu => ?_⟩⟩
  have f2 := Fin.seq f2
  refine of_op2 (sem := sem) (en := en2) (x := x) (y := y) (fun e => by rw [e] at f2; exact f2.elim) fun d e c' e1 e2 e3 e4 => ?_
  rw [e4] at f2
  refine hs F2 H2 v u d e c' _ r2.fz (r2.view (RvOk.mono s2 hv) e1) (r2.view hu e2) e3 fun w F3 H3 x3 q3 => ?_
  have r3 := r2.ext x3
  have f3 := Fin.seq (f2 F3 H3 x3.le r3)
  refine of_opB (sem := toB) (en := en2) (x := .d c') (fun e => by rw [e] at f3; exact f3.elim) fun d' k' e5 e6 e7 => ?_
  have e5' : c' = d' := Option.some.inj e5
  subst e5'
  rw [e7] at f3
  have f4 := f3 F3 H3 (Same.refl _) r3
  refine ⟨k', view_bl (.fz (H := H3) q3) e6, ?_⟩
  cases k' with
  | false => exact ⟨false, rfl, f4 F3 H3 (Same.refl _) r3 F3 H3 (Same.refl _) r3⟩
  | true =>
    rw [if_pos rfl] at f4 ⊢
    refine ⟨F3, en2, r3, (Fin.seq f4).mono fun F5 H5 en5 y5 s5 r5 f5 u5 hu5 => ?_⟩
    refine of_op2 (sem := sem') (en := en5) (x := y) (y := y5) (fun e => by rw [e] at f5; exact f5.elim) fun d e c e1 e2 e3 e4 => ?_
    rw [e4] at f5
    refine hs' F5 H5 u u5 d e c _ r5.fz (r5.view (RvOk.mono (x3.le.trans s5) hu) e1) (r5.view hu5 e2) e3 fun w6 F6 H6 x6 q6 => ?_
    have r6 := r5.ext x6
    have f6 : Fin X.K g W σ F6 (opB toB en5 (.d c)) (fun _ H' _ b => Q b H') := f5 F6 H6 x6.le r6
    refine of_opB (sem := toB) (en := en5) (x := .d c) (fun e => by rw [e] at f6; exact f6.elim) fun d' k' e5 e6 e7 => ?_
    have e5' : c = d' := Option.some.inj e5
    subst e5'
    rw [e7] at f6
    exact ⟨k', view_bl (.fz (H := H6) q6) e6, f6 F6 H6 (Same.refl _) r6⟩
end
end DL
/-! Dl13: the rules by short names, for printed derivations. -/
namespace DL
open PySem PySem.Spec L2
open PyProof.Rows hiding St

/-- no own name stands at a built-in's -/
structure Bt (mg : Str → Option Value) : Prop where
  len : mg "len" = none
  int : mg "int" = none
  bool : mg "bool" = none
  str : mg "str" = none
  list : mg "list" = none
  tuple : mg "tuple" = none
  set : mg "set" = none
  dict : mg "dict" = none
  abs : mg "abs" = none
  all : mg "all" = none
  any : mg "any" = none
  sum : mg "sum" = none
  max : mg "max" = none
  min : mg "min" = none
  sorted : mg "sorted" = none
  range : mg "range" = none
  enumerate : mg "enumerate" = none
  isinstance : mg "isinstance" = none
section
variable {X : Cx} {g : Gh} {W : XW} {pos p p2 : Pos} {a b c : Expr} {es : List Expr} {fa fb fc : Ev} {av : Av} {k : Nat} {x : Str}
/-! names, constants -/
theorem v_ (i : Nat) (hN : X.N[i]? = some x := by rfl) (hv : Vis X.env.scope x := by first | exact .inl rfl | exact .inr (.inl rfl) | exact .inr (.inr rfl)) (hd : (x == ("__debug__" : Str)) = false := by decide) (hcd : (x == ("__classdict__" : Str)) = false := by decide) : DE X g W (.Name x pos) (dVar i) := de_var hN hv hd hcd
theorem vf_ (hf : Full g) (i : Nat) (hN : X.N[i]? = some x := by rfl) (hv : Vis X.env.scope x := by first | exact .inl rfl | exact .inr (.inl rfl) | exact .inr (.inr rfl)) (hd : (x == ("__debug__" : Str)) = false := by decide) (hcd : (x == ("__classdict__" : Str)) = false := by decide) : DE X g W (.Name x pos) (dVarF i) := de_varF hf hN hv hd hcd
theorem k_ {d : D} (q : Konst X.K X.mg x d) (hg : Gl X x := by rfl) (hd : (x == ("__debug__" : Str)) = false := by decide) : DE X g W (.Name x pos) (dC d) := de_k q hg hd
/-! operators -/
theorem e_add (ha : DE X g W a fa) (hb : DE X g W b fb) : DE X g W (.BinOp a .Add b pos) (dOp sAdd fa fb) := de_op or_add se_add ha hb
theorem e_sub (ha : DE X g W a fa) (hb : DE X g W b fb) : DE X g W (.BinOp a .Sub b pos) (dOp sSub fa fb) := de_op or_sub se_sub ha hb
theorem e_mul (ha : DE X g W a fa) (hb : DE X g W b fb) : DE X g W (.BinOp a .Mult b pos) (dOp sMul fa fb) := de_op or_mul se_mul ha hb
theorem e_fdiv (ha : DE X g W a fa) (hb : DE X g W b fb) : DE X g W (.BinOp a .FloorDiv b pos) (dOp sFdiv fa fb) := de_op or_fdiv se_fdiv ha hb
theorem e_mod (ha : DE X g W a fa) (hb : DE X g W b fb) : DE X g W (.BinOp a .Mod b pos) (dOp sMod fa fb) := de_op or_mod se_mod ha hb
theorem e_pow (ha : DE X g W a fa) (hb : DE X g W b fb) : DE X g W (.BinOp a .Pow b pos) (dOp sPow fa fb) := de_op or_pow se_pow ha hb
theorem e_neg (ha : DE X g W a fa) : DE X g W (.UnaryOp .USub a pos) (dUn sNeg fa) := de_un or_neg se_neg ha
theorem c_lt (ha : DE X g W a fa) (hb : DE X g W b fb) : DE X g W (.Compare a [.Lt] [b] pos) (dOp (sCmp fLt) fa fb) := de_cmp or_lt se_cmp ha hb (nomark _)
theorem c_le (ha : DE X g W a fa) (hb : DE X g W b fb) : DE X g W (.Compare a [.LtE] [b] pos) (dOp (sCmp fLe) fa fb) := de_cmp or_le se_cmp ha hb (nomark _)
theorem c_gt (ha : DE X g W a fa) (hb : DE X g W b fb) : DE X g W (.Compare a [.Gt] [b] pos) (dOp (sCmp fGt) fa fb) := de_cmp or_gt se_cmp ha hb (nomark _)
theorem c_ge (ha : DE X g W a fa) (hb : DE X g W b fb) : DE X g W (.Compare a [.GtE] [b] pos) (dOp (sCmp fGe) fa fb) := de_cmp or_ge se_cmp ha hb (nomark _)
theorem c_eq (hr : Room k X.A) (ha : DE X g W a fa) (hb : DE X g W b fb) : DE X g W (.Compare a [.Eq] [b] pos) (dOp sEq fa fb) := de_cmp (or_eq (u64 hr)) se_eq ha hb (nomark _)
theorem c_ne (hr : Room k X.A) (ha : DE X g W a fa) (hb : DE X g W b fb) : DE X g W (.Compare a [.NotEq] [b] pos) (dOp sNe fa fb) := de_cmp (or_ne (u64 hr)) se_ne ha hb (nomark _)
theorem c_is (ha : DE X g W a fa) (hb : DE X g W b fb) : DE X g W (.Compare a [.Is] [b] pos) (dOp sIs fa fb) := de_cmp or_is se_is ha hb (nomark _)
theorem c_isn (ha : DE X g W a fa) (hb : DE X g W b fb) : DE X g W (.Compare a [.IsNot] [b] pos) (dOp sIsNot fa fb) := de_cmp or_isnot se_isnot ha hb (nomark _)
theorem c_in (hr : Room k X.A) (ha : DE X g W a fa) (hb : DE X g W b fb) (hm : behindInMarks .In b = false := by with_unfolding_all rfl) : DE X g W (.Compare a [.In] [b] pos) (dOp sIn fa fb) := de_cmp (or_in (u65 hr)) se_in ha hb hm
theorem c_nin (hr : Room k X.A) (ha : DE X g W a fa) (hb : DE X g W b fb) (hm : behindInMarks .NotIn b = false := by with_unfolding_all rfl) : DE X g W (.Compare a [.NotIn] [b] pos) (dOp sNotIn fa fb) := de_cmp (or_notin (u65 hr)) se_notin ha hb hm
theorem t_lt (ha : DE X g W a fa) (hb : DE X g W b fb) : DT X g W (.Compare a [.Lt] [b] pos) (tOf (dOp (sCmp fLt) fa fb)) := dt_cmp or_lt se_cmp ha hb (nomark _)
theorem t_le (ha : DE X g W a fa) (hb : DE X g W b fb) : DT X g W (.Compare a [.LtE] [b] pos) (tOf (dOp (sCmp fLe) fa fb)) := dt_cmp or_le se_cmp ha hb (nomark _)
theorem t_gt (ha : DE X g W a fa) (hb : DE X g W b fb) : DT X g W (.Compare a [.Gt] [b] pos) (tOf (dOp (sCmp fGt) fa fb)) := dt_cmp or_gt se_cmp ha hb (nomark _)
theorem t_ge (ha : DE X g W a fa) (hb : DE X g W b fb) : DT X g W (.Compare a [.GtE] [b] pos) (tOf (dOp (sCmp fGe) fa fb)) := dt_cmp or_ge se_cmp ha hb (nomark _)
theorem t_eq (hr : Room k X.A) (ha : DE X g W a fa) (hb : DE X g W b fb) : DT X g W (.Compare a [.Eq] [b] pos) (tOf (dOp sEq fa fb)) := dt_cmp (or_eq (u64 hr)) se_eq ha hb (nomark _)
theorem t_ne (hr : Room k X.A) (ha : DE X g W a fa) (hb : DE X g W b fb) : DT X g W (.Compare a [.NotEq] [b] pos) (tOf (dOp sNe fa fb)) := dt_cmp (or_ne (u64 hr)) se_ne ha hb (nomark _)
theorem t_is (ha : DE X g W a fa) (hb : DE X g W b fb) : DT X g W (.Compare a [.Is] [b] pos) (tOf (dOp sIs fa fb)) := dt_cmp or_is se_is ha hb (nomark _)
theorem t_isn (ha : DE X g W a fa) (hb : DE X g W b fb) : DT X g W (.Compare a [.IsNot] [b] pos) (tOf (dOp sIsNot fa fb)) := dt_cmp or_isnot se_isnot ha hb (nomark _)
theorem t_in (hr : Room k X.A) (ha : DE X g W a fa) (hb : DE X g W b fb) (hm : behindInMarks .In b = false := by with_unfolding_all rfl) : DT X g W (.Compare a [.In] [b] pos) (tOf (dOp sIn fa fb)) := dt_cmp (or_in (u65 hr)) se_in ha hb hm
theorem t_nin (hr : Room k X.A) (ha : DE X g W a fa) (hb : DE X g W b fb) (hm : behindInMarks .NotIn b = false := by with_unfolding_all rfl) : DT X g W (.Compare a [.NotIn] [b] pos) (tOf (dOp sNotIn fa fb)) := dt_cmp (or_notin (u65 hr)) se_notin ha hb hm
/-! chains -/
theorem c_lele (ha : DE X g W a fa) (hb : DE X g W b fb) (hc : DE X g W c fc) (hm : lastMarks [.LtE, .LtE] [b, c] = false := by with_unfolding_all rfl) : DE X g W (.Compare a [.LtE, .LtE] [b, c] pos) (dChain (sCmp fLe) (sCmp fLe) fa fb fc) := de_chain or_le se_cmp or_le se_cmp ha hb hc hm
theorem c_lelt (ha : DE X g W a fa) (hb : DE X g W b fb) (hc : DE X g W c fc) (hm : lastMarks [.LtE, .Lt] [b, c] = false := by with_unfolding_all rfl) : DE X g W (.Compare a [.LtE, .Lt] [b, c] pos) (dChain (sCmp fLe) (sCmp fLt) fa fb fc) := de_chain or_le se_cmp or_lt se_cmp ha hb hc hm
theorem c_ltlt (ha : DE X g W a fa) (hb : DE X g W b fb) (hc : DE X g W c fc) (hm : lastMarks [.Lt, .Lt] [b, c] = false := by with_unfolding_all rfl) : DE X g W (.Compare a [.Lt, .Lt] [b, c] pos) (dChain (sCmp fLt) (sCmp fLt) fa fb fc) := de_chain or_lt se_cmp or_lt se_cmp ha hb hc hm
theorem t_lele (ha : DE X g W a fa) (hb : DE X g W b fb) (hc : DE X g W c fc) (hm : lastMarks [.LtE, .LtE] [b, c] = false := by with_unfolding_all rfl) : DT X g W (.Compare a [.LtE, .LtE] [b, c] pos) (tOf (dChain (sCmp fLe) (sCmp fLe) fa fb fc)) := dt_chain or_le se_cmp or_le se_cmp ha hb hc hm
theorem t_lelt (ha : DE X g W a fa) (hb : DE X g W b fb) (hc : DE X g W c fc) (hm : lastMarks [.LtE, .Lt] [b, c] = false := by with_unfolding_all rfl) : DT X g W (.Compare a [.LtE, .Lt] [b, c] pos) (tOf (dChain (sCmp fLe) (sCmp fLt) fa fb fc)) := dt_chain or_le se_cmp or_lt se_cmp ha hb hc hm
theorem t_ltlt (ha : DE X g W a fa) (hb : DE X g W b fb) (hc : DE X g W c fc) (hm : lastMarks [.Lt, .Lt] [b, c] = false := by with_unfolding_all rfl) : DT X g W (.Compare a [.Lt, .Lt] [b, c] pos) (tOf (dChain (sCmp fLt) (sCmp fLt) fa fb fc)) := dt_chain or_lt se_cmp or_lt se_cmp ha hb hc hm
theorem t_v (ha : DE X g W a fa) (he : ∀ whole, isTrue a X.env whole = (do let v ← whole; standAt a.pos; holding [v] (truthy v)) := by intro _; rfl) : DT X g W a (tOf fa) := dt_val ha he
/-! built-ins -/
theorem b_len (B : Bt X.mg) (ha : DA X g W [a] av) (hg : Gl X "len" := by rfl) (he : starEach [a] X.env = (false, eval a X.env) :: starEach [] X.env := by rfl) (hpl : (backTo pos (starEach [] X.env)).any (·.1) = false := by rfl) : DE X g W (.Call (.Name "len" p) [a] [] pos) (dCallB sLen av) := de_callB cr_len se_len hg B.len PySem.boot_len ha (by decide) (by decide) he hpl
theorem b_int (B : Bt X.mg) (ha : DA X g W [a] av) (hg : Gl X "int" := by rfl) (he : starEach [a] X.env = (false, eval a X.env) :: starEach [] X.env := by rfl) (hpl : (backTo pos (starEach [] X.env)).any (·.1) = false := by rfl) : DE X g W (.Call (.Name "int" p) [a] [] pos) (dCallB sInt av) := de_callTy cr_int se_int hg B.int (by decide +kernel) ha (by decide) (by decide) he hpl
theorem b_abs (B : Bt X.mg) (ha : DA X g W [a] av) (hg : Gl X "abs" := by rfl) (he : starEach [a] X.env = (false, eval a X.env) :: starEach [] X.env := by rfl) (hpl : (backTo pos (starEach [] X.env)).any (·.1) = false := by rfl) : DE X g W (.Call (.Name "abs" p) [a] [] pos) (dCallB sAbs av) := de_callB cr_abs se_abs hg B.abs (by decide +kernel) ha (by decide) (by decide) he hpl
theorem b_all (hc : X.calm = true) (B : Bt X.mg) (ha : DA X g W [a] av) (hg : Gl X "all" := by rfl) (he : starEach [a] X.env = (false, eval a X.env) :: starEach [] X.env := by rfl) (hpl : (backTo pos (starEach [] X.env)).any (·.1) = false := by rfl) : DE X g W (.Call (.Name "all" p) [a] [] pos) (dCallB sAll av) := de_callB (cr_all hc) se_all hg B.all (by decide +kernel) ha (by decide) (by decide) he hpl
theorem b_any (hc : X.calm = true) (B : Bt X.mg) (ha : DA X g W [a] av) (hg : Gl X "any" := by rfl) (he : starEach [a] X.env = (false, eval a X.env) :: starEach [] X.env := by rfl) (hpl : (backTo pos (starEach [] X.env)).any (·.1) = false := by rfl) : DE X g W (.Call (.Name "any" p) [a] [] pos) (dCallB sAny av) := de_callB (cr_any hc) se_any hg B.any (by decide +kernel) ha (by decide) (by decide) he hpl
theorem b_sum (hc : X.calm = true) (B : Bt X.mg) (ha : DA X g W [a] av) (hg : Gl X "sum" := by rfl) (he : starEach [a] X.env = (false, eval a X.env) :: starEach [] X.env := by rfl) (hpl : (backTo pos (starEach [] X.env)).any (·.1) = false := by rfl) : DE X g W (.Call (.Name "sum" p) [a] [] pos) (dCallB sSum av) := de_callB (cr_sum hc) se_sum hg B.sum (by decide +kernel) ha (by decide) (by decide) he hpl
theorem b_max (hc : X.calm = true) (B : Bt X.mg) (ha : DA X g W (a :: es) av) (hg : Gl X "max" := by rfl) (he : starEach (a :: es) X.env = (false, eval a X.env) :: starEach es X.env := by rfl) (hpl : (backTo pos (starEach es X.env)).any (·.1) = false := by rfl) : DE X g W (.Call (.Name "max" p) (a :: es) [] pos) (dCallB sMax av) := de_callB (cr_max' hc) se_max hg B.max (by decide +kernel) ha (by decide) (by decide) he hpl
theorem b_min (hc : X.calm = true) (B : Bt X.mg) (ha : DA X g W (a :: es) av) (hg : Gl X "min" := by rfl) (he : starEach (a :: es) X.env = (false, eval a X.env) :: starEach es X.env := by rfl) (hpl : (backTo pos (starEach es X.env)).any (·.1) = false := by rfl) : DE X g W (.Call (.Name "min" p) (a :: es) [] pos) (dCallB sMin av) := de_callB (cr_min' hc) se_min hg B.min (by decide +kernel) ha (by decide) (by decide) he hpl
theorem b_sorted (hr : Room k X.A) (B : Bt X.mg) (ha : DA X g W [a] av) (hg : Gl X "sorted" := by rfl) (he : starEach [a] X.env = (false, eval a X.env) :: starEach [] X.env := by rfl) (hpl : (backTo pos (starEach [] X.env)).any (·.1) = false := by rfl) : DE X g W (.Call (.Name "sorted" p) [a] [] pos) (dCallB sSorted av) := de_callB (cr_sortD (u64 hr)) se_sorted hg B.sorted (by decide +kernel) ha (by decide) (by decide) he hpl
theorem b_tuple (B : Bt X.mg) (ha : DA X g W [a] av) (hg : Gl X "tuple" := by rfl) (he : starEach [a] X.env = (false, eval a X.env) :: starEach [] X.env := by rfl) (hpl : (backTo pos (starEach [] X.env)).any (·.1) = false := by rfl) : DE X g W (.Call (.Name "tuple" p) [a] [] pos) (dCallB sTuple av) := de_callTy cr_tuple se_tuple hg B.tuple (by decide +kernel) ha (by decide) (by decide) he hpl
theorem b_list (B : Bt X.mg) (ha : DA X g W [a] av) (hg : Gl X "list" := by rfl) (he : starEach [a] X.env = (false, eval a X.env) :: starEach [] X.env := by rfl) (hpl : (backTo pos (starEach [] X.env)).any (·.1) = false := by rfl) : DE X g W (.Call (.Name "list" p) [a] [] pos) (dCallB sList av) := de_callTy cr_list se_list hg B.list (by decide +kernel) ha (by decide) (by decide) he hpl
theorem b_isInt (B : Bt X.mg) (ha : DE X g W a fa) (hg : Gl X "isinstance" := by rfl) (hgT : Gl X "int" := by rfl) (h1 : starEach [a, .Name "int" p2] X.env = (false, eval a X.env) :: starEach [.Name "int" p2] X.env := by rfl) (h2 : starEach [.Name "int" p2] X.env = (false, eval (.Name "int" p2) X.env) :: starEach [] X.env := by rfl)
    (hpl : (backTo pos (starEach [.Name "int" p2] X.env)).any (·.1) = false := by rfl) : DE X g W (.Call (.Name "isinstance" p) [a, .Name "int" p2] [] pos) (dUn isInt fa) := de_isi tells_int hg B.isinstance hgT B.int (by decide +kernel) ha (by decide) (by decide) h1 h2 hpl
theorem b_isBool (B : Bt X.mg) (ha : DE X g W a fa) (hg : Gl X "isinstance" := by rfl) (hgT : Gl X "bool" := by rfl) (h1 : starEach [a, .Name "bool" p2] X.env = (false, eval a X.env) :: starEach [.Name "bool" p2] X.env := by rfl) (h2 : starEach [.Name "bool" p2] X.env = (false, eval (.Name "bool" p2) X.env) :: starEach [] X.env := by rfl)
    (hpl : (backTo pos (starEach [.Name "bool" p2] X.env)).any (·.1) = false := by rfl) : DE X g W (.Call (.Name "isinstance" p) [a, .Name "bool" p2] [] pos) (dUn isBool fa) := de_isi tells_bool hg B.isinstance hgT B.bool (by decide +kernel) ha (by decide) (by decide) h1 h2 hpl
theorem b_isStr (B : Bt X.mg) (ha : DE X g W a fa) (hg : Gl X "isinstance" := by rfl) (hgT : Gl X "str" := by rfl) (h1 : starEach [a, .Name "str" p2] X.env = (false, eval a X.env) :: starEach [.Name "str" p2] X.env := by rfl) (h2 : starEach [.Name "str" p2] X.env = (false, eval (.Name "str" p2) X.env) :: starEach [] X.env := by rfl)
    (hpl : (backTo pos (starEach [.Name "str" p2] X.env)).any (·.1) = false := by rfl) : DE X g W (.Call (.Name "isinstance" p) [a, .Name "str" p2] [] pos) (dUn isStr fa) := de_isi tells_str hg B.isinstance hgT B.str (by decide +kernel) ha (by decide) (by decide) h1 h2 hpl
theorem b_isTuple (B : Bt X.mg) (ha : DE X g W a fa) (hg : Gl X "isinstance" := by rfl) (hgT : Gl X "tuple" := by rfl) (h1 : starEach [a, .Name "tuple" p2] X.env = (false, eval a X.env) :: starEach [.Name "tuple" p2] X.env := by rfl) (h2 : starEach [.Name "tuple" p2] X.env = (false, eval (.Name "tuple" p2) X.env) :: starEach [] X.env := by rfl)
    (hpl : (backTo pos (starEach [.Name "tuple" p2] X.env)).any (·.1) = false := by rfl) : DE X g W (.Call (.Name "isinstance" p) [a, .Name "tuple" p2] [] pos) (dUn isTup fa) := de_isi tells_tup hg B.isinstance hgT B.tuple (by decide +kernel) ha (by decide) (by decide) h1 h2 hpl
theorem b_isList (B : Bt X.mg) (ha : DE X g W a fa) (hg : Gl X "isinstance" := by rfl) (hgT : Gl X "list" := by rfl) (h1 : starEach [a, .Name "list" p2] X.env = (false, eval a X.env) :: starEach [.Name "list" p2] X.env := by rfl) (h2 : starEach [.Name "list" p2] X.env = (false, eval (.Name "list" p2) X.env) :: starEach [] X.env := by rfl)
    (hpl : (backTo pos (starEach [.Name "list" p2] X.env)).any (·.1) = false := by rfl) : DE X g W (.Call (.Name "isinstance" p) [a, .Name "list" p2] [] pos) (dUn isLst fa) := de_isi tells_lst hg B.isinstance hgT B.list (by decide +kernel) ha (by decide) (by decide) h1 h2 hpl
/-- list(..) as an owned thing -/
def oCallB (sem : List D → Option D) (a : Av) : Ov := fun en => (a en).bind fun en1 xs => match resAll en1 xs with
  | some ds => (match sem ds with
    | some r => .ok en1 r
    | none => .no)
  | none => .no
def SemO (K : PySem.W.Frag) (r : List V → Hp → VK → Prop) (sem : List D → Option D) : Prop := ∀ F H vs ds c (Q : VK), Same F H → VwAll K F H vs ds → sem ds = some c → (∀ p o, H p = none → OwnAt K F (upd H p o) p c → Q (.ref p) (upd H p o)) → r vs H Q
theorem so_list : SemO X.K (rList1 X.K) sList := by
  intro F H vs ds c Q s hv hs k
  unfold sList at hs
  split at hs
  · cases hs
    obtain ⟨v, rfl, q⟩ := vwAll1 hv
    obtain ⟨a, xs, rfl, q1, al⟩ := vw_lst s q
    exact ⟨a, xs, rfl, .inl (.inl (.inl q1)), fun l hl => k l _ hl (.lst upd_same al)⟩
  · cases hs
    obtain ⟨v, rfl, q⟩ := vwAll1 hv
    obtain ⟨a, xs, rfl, q1, al, dv⟩ := vw_tup s q
    exact ⟨a, xs, rfl, .inr q1, fun l hl => k l _ hl (.lst upd_same al)⟩
  · cases hs
theorem so_sorted : SemO X.K (rSortD X.K) sSorted := by
  intro F H vs ds c Q s hv hs k
  unfold sSorted at hs
  split at hs
  · split at hs
    · rename_i ds hc
      cases hs
      obtain ⟨v, rfl, q⟩ := vwAll1 hv
      obtain ⟨a, xs, rfl, q1, al⟩ := vw_lst s q
      obtain ⟨c1, c2, c3, c4⟩ := canSort_of hc
      exact ⟨a, xs, ds, Dv X.K F, rfl, .inl (.inl (.inl q1)), dvAll_dp s ds xs c3 al, dvAll_each al, c1, c2, c4, fun ys p ho hp => k p _ hp (.lst upd_same (each_dvAll ho))⟩
    · cases hs
  · split at hs
    · rename_i ds hc
      cases hs
      obtain ⟨v, rfl, q⟩ := vwAll1 hv
      obtain ⟨a, xs, rfl, q1, al, _⟩ := vw_tup s q
      obtain ⟨c1, c2, c3, c4⟩ := canSort_of hc
      exact ⟨a, xs, ds, Dv X.K F, rfl, .inr q1, dvAll_dp s ds xs c3 al, dvAll_each al, c1, c2, c4, fun ys p ho hp => k p _ hp (.lst upd_same (each_dvAll ho))⟩
    · cases hs
  · cases hs
theorem callO {r : List V → Hp → VK → Prop} {sem : List D → Option D} (hs : SemO X.K r sem) {σ : St} {H : Hp} {Q : VK} (h : liftO X.K g W (oCallB sem av) σ H Q) : tCB r (liftA X.K g W av) σ H Q := by
  obtain ⟨F, en, rp, f⟩ := h
  refine ⟨F, en, rp, (Fin.seq f).mono fun F1 H1 en1 xs s1 r1 f1 vs hvs => ?_⟩
  cases e1 : resAll en1 xs with
  | none => rw [e1] at f1; exact f1.elim
  | some ds =>
    rw [e1] at f1
    dsimp only at f1
    cases e2 : sem ds with
    | none => rw [e2] at f1; exact f1.elim
    | some c =>
      rw [e2] at f1
      refine hs F1 H1 vs ds c Q r1.fz (r1.viewAll hvs e1) e2 fun p o hp ow => ?_
      obtain ⟨r2, n2⟩ := r1.fresh hp ow
      exact f1 F1 H1 (Same.refl _) r1 p _ r2 n2
theorem bo_list (B : Bt X.mg) (ha : DA X g W [a] av) (hg : Gl X "list" := by rfl) (he : starEach [a] X.env = (false, eval a X.env) :: starEach [] X.env := by rfl) (hpl : (backTo pos (starEach [] X.env)).any (·.1) = false := by rfl) : DO X g W (.Call (.Name "list" p) [a] [] pos) (oCallB sList av) :=
  PE.imp (pe_callTy cr_list hg B.list (by decide +kernel) ha (by decide) (by decide) he hpl) fun _ _ _ h => callO so_list h
theorem bo_sorted (hr : Room k X.A) (B : Bt X.mg) (ha : DA X g W [a] av) (hg : Gl X "sorted" := by rfl) (he : starEach [a] X.env = (false, eval a X.env) :: starEach [] X.env := by rfl) (hpl : (backTo pos (starEach [] X.env)).any (·.1) = false := by rfl) : DO X g W (.Call (.Name "sorted" p) [a] [] pos) (oCallB sSorted av) :=
  PE.imp (pe_callB (cr_sortD (u64 hr)) hg B.sorted (by decide +kernel) ha (by decide) (by decide) he hpl) fun _ _ _ h => callO so_sorted h
end
section
variable {X : Cx} {g : Gh} {Wh : WX} {pos p : Pos} {a : Expr} {es : List Expr} {av : Av} {fs : Fs} {x : Str} {j k : Nat}
/-! calls of defs -/
theorem f_ (bs : List Bool) (C : Callee X.prog X.w X.K X.mg X.base x j fs) (hr : Room k X.A) (tk : Takes X Wh) (ha : DA X g (WH X.K X.mg Wh) (a :: es) av) (hj : j ≤ k := by first | decide | exact Nat.le_refl _ | omega) (hg : Gl X x := by rfl)
    (hdb : (x == ("__debug__" : Str)) = false := by decide) (he : starEach (a :: es) X.env = (false, eval a X.env) :: starEach es X.env := by rfl) (hpl : (backTo pos (starEach es X.env)).any (·.1) = false := by rfl) :
    DE X g (WH X.K X.mg Wh) (.Call (.Name x p) (a :: es) [] pos) (dCall fs bs av) := de_call bs C hj hr hg tk ha hdb he hpl
theorem fo_ (bs : List Bool) (C : Callee X.prog X.w X.K X.mg X.base x j fs) (hr : Room k X.A) (tk : Takes X Wh) (ha : DA X g (WH X.K X.mg Wh) (a :: es) av) (hj : j ≤ k := by first | decide | exact Nat.le_refl _ | omega) (hg : Gl X x := by rfl)
    (hdb : (x == ("__debug__" : Str)) = false := by decide) (he : starEach (a :: es) X.env = (false, eval a X.env) :: starEach es X.env := by rfl) (hpl : (backTo pos (starEach es X.env)).any (·.1) = false := by rfl) :
    DO X g (WH X.K X.mg Wh) (.Call (.Name x p) (a :: es) [] pos) (oCall fs bs av) := do_call bs C hj hr hg tk ha hdb he hpl
end
section
variable {X : Cx} {g : Gh} {W : XW} {pos : Pos} {e : Expr} {f : Ev} {fo : Ov} {x : Str}
/-! statements -/
theorem set_ (i : Nat) {pos' : Pos} (hN : X.N.Nodup) (he : DE X g W e f) (hi : X.N[i]? = some x := by rfl) (hx : Loc X.env.scope x := by first | exact .inl rfl | exact .inr rfl) (hs : swapsWith e (some (.Name x pos')) pos.line X.env = pure false := by rfl) (hf : X.fn x = true ∨ X.env.scope.names.lookup x = some .local := by first | exact .inl rfl | exact .inr rfl) :
    DS X g W (.Assign [.Name x pos'] e pos) (bSet i f) := ds_set hN hi hx he hs hf
theorem setO_ (i : Nat) {pos' : Pos} (hN : X.N.Nodup) (he : DO X g W e fo) (hi : X.N[i]? = some x := by rfl) (hx : Loc X.env.scope x := by first | exact .inl rfl | exact .inr rfl) (hs : swapsWith e (some (.Name x pos')) pos.line X.env = pure false := by rfl) (hf : X.fn x = true ∨ X.env.scope.names.lookup x = some .local := by first | exact .inl rfl | exact .inr rfl) :
    DS X g W (.Assign [.Name x pos'] e pos) (bSetO i fo) := ds_setO hN hi hx he hs hf
theorem gn_ (i : Nat) (hN : X.N.Nodup) (hi : X.N[i]? = some x := by rfl) (hx : Loc X.env.scope x := by first | exact .inl rfl | exact .inr rfl) (hf : X.fn x = true ∨ X.env.scope.names.lookup x = some .local := by first | exact .inl rfl | exact .inr rfl) : DG X g (.Name x pos) (tgName i) [i] := dg_name hN hi hx hf
theorem hn_ (i : Nat) (hN : X.N.Nodup) (hi : X.N[i]? = some x := by rfl) (hx : Loc X.env.scope x := by first | exact .inl rfl | exact .inr rfl) (hf : X.fn x = true ∨ X.env.scope.names.lookup x = some .local := by first | exact .inl rfl | exact .inr rfl) : DH X g W (.Name x pos) (hName i) := dh_name hN hi hx hf
theorem dn_ (i : Nat) {is : List Nat} {es : List Expr} {p : Pos} (hN : X.N.Nodup) (hr : DNs X is es) (hi : X.N[i]? = some x := by rfl) (hx : Loc X.env.scope x := by first | exact .inl rfl | exact .inr rfl) (hf : X.fn x = true ∨ X.env.scope.names.lookup x = some .local := by first | exact .inl rfl | exact .inr rfl)
    (hs : (assignEach (.Name x p :: es) X.env).map (·.2) = assign (.Name x p) X.env :: (assignEach es X.env).map (·.2) := by rfl) : DNs X (i :: is) (.Name x p :: es) := dn_cons hN hi hx hr hf hs
end
end DL
/-! Dl14: walks over lists, tuples, texts alike; comprehensions as plain values. -/
namespace DL
open PySem PySem.Spec L2
open PyProof.Rows hiding St

theorem dss_no {X : Cx} {g : Gh} {W : XW} {st : List Stmt} : DSs X g W st bNo := ⟨fun pins s σ H D I h => by
  obtain ⟨F, en, rp, f⟩ := h
  exact f.elim⟩
def itAll : D → Option (List D)
  | .str x => some (signs x)
  | d => itSeq d
section
variable {X : Cx} {g : Gh} {W : XW} {tg e : Expr} {f : Ev} {pos : Pos}
theorem di_all (h : DE X g W e f) : DI X g W tg e (iOf itAll f) := by
  refine PI.imp (PI.or (di_seq (tg := tg) h) (di_str (tg := tg) h)) fun σ H R hw => ?_
  obtain ⟨F, en, rp, f1⟩ := hw
  unfold iOf at f1
  cases e2 : f en with
  | no => rw [e2] at f1; exact f1.elim
  | ex en1 x => exact .inl ⟨F, en, rp, by unfold iOf; rw [e2] at f1 ⊢; exact f1⟩
  | ok en1 x =>
    rw [e2] at f1
    cases x with
    | s i => exact f1.elim
    | d d =>
      by_cases hs : ∃ x, d = .str x
      · obtain ⟨x, rfl⟩ := hs
        exact .inr ⟨F, en, rp, by unfold iOf; rw [e2]; exact f1⟩
      · have : itAll d = itSeq d := by
          cases d <;> first | rfl | exact absurd ⟨_, rfl⟩ hs
        refine .inl ⟨F, en, rp, ?_⟩
        unfold iOf
        rw [e2]
        have f1 : Fin X.K g W σ F (match itAll d with
          | some ds => Rs.ok en1 ds
          | none => Rs.no) _ := f1
        rw [this] at f1
        exact f1
end
/-- y = [..], frozen at once -/
def bSetZ (i : Nat) (f : Ov) : Bd := fun en => (f en).out fun en1 d => Opt.out (putS en1 i (.val d)) .nx
section
variable {X : Cx} {g : Gh} {W : XW} {elt tg iter : Expr} {ifs : List Expr} {scope : Scope} {own : List (Str × Nat)} {pos : Pos} {it : Iv} {t : Tg} {ts : List Nat} {tt : Tv} {el : Ev}
theorem ds_setZ {i : Nat} {y : Str} {py spos : Pos} (hc : X.calm = true) (hN : X.N.Nodup) (hy : X.N[i]? = some y) (hyl : X.env.scope.names.lookup y = some .local) (hsw : swapsWith (.ListComp elt [⟨tg, iter, ifs, 0⟩] scope pos) (some (.Name y py)) spos.line X.env = pure true)
    (hi : DI X g W tg iter it) (ok : BlkOk X.N X.env.scope scope own) (hsub : ∀ i ∈ ts, i ∈ own.map (·.2))
    (hg : ∀ (s : Shared) (H : Hp) (C : Addr) (cl : List (Str × Addr)) (fp : List Addr) (g' : Gh), DG (X.blk s H scope (compEnvC scope cl C X.env) fp) g' tg t ts)
    (ht : ∀ (s : Shared) (H : Hp) (C : Addr) (cl : List (Str × Addr)) (fp : List Addr) (g' : Gh), DTs (X.blk s H scope (compEnvC scope cl C X.env) fp) g' (W0 X.K X.mg) ifs tt)
    (he : ∀ (s : Shared) (H : Hp) (C : Addr) (cl : List (Str × Addr)) (fp : List Addr) (g' : Gh), DE (X.blk s H scope (compEnvC scope cl C X.env) fp) g' (W0 X.K X.mg) elt el)
    (hs : ∀ x, foldedSetIterable iter X.env x = pure x := by intro _; rfl) : DS X g W (.Assign [.Name y py] (.ListComp elt [⟨tg, iter, ifs, 0⟩] scope pos) spos) (bSetZ i (oComp (own.map (·.2)) it t tt el)) := by
  refine PS.imp (ps_setLc (g := fun v σ H Q => ∃ g', liftG X.K g' t ts v σ H Q) (tt := fun σ H Q => ∃ g', liftT X.K g' (W0 X.K X.mg) tt σ H Q) (te := fun σ H Q => ∃ g', liftE X.K g' (W0 X.K X.mg) el σ H Q) hc hN hy hyl hsw hi ok
    (fun s H C cl fp => ⟨fun pins s' σ H v u Q I r ⟨g', q⟩ => (hg s _ C cl fp g').run pins s' σ H v u Q I r q⟩) (fun s H C cl fp => ⟨fun pins s' σ H Q I ⟨g', q⟩ => (ht s _ C cl fp g').run pins s' σ H Q I q⟩)
    (fun s H C cl fp => ⟨fun pins s' σ H Q I ⟨g', q⟩ => (he s _ C cl fp g').run pins s' σ H Q I q⟩) hs) fun E σ H h => ?_
  refine comp_tLc (W := W) (g := g) hsub ?_
  obtain ⟨F, en, rp, f⟩ := h
  refine ⟨F, en, rp, FinS.of_out f fun F' H' en' d s rp' k p H'' r2 n => ?_⟩
  cases q : putS en' i (.val d) with
  | none => rw [q] at k; exact k.elim
  | some en2 =>
    rw [q] at k
    obtain ⟨o, ho, dv⟩ := n.at_.dv n.nf
    exact k _ _ H'' (Ext.put.same_updN n.nf) ((r2.freeze ho n.nh n.no n.nf).putV q dv)
/-- [..] as a value -/
theorem z_ (h : DO X g W (.ListComp elt [⟨tg, iter, ifs, 0⟩] scope pos) (oComp (own.map (·.2)) it t tt el)) : DE X g W (.ListComp elt [⟨tg, iter, ifs, 0⟩] scope pos) (dFz (oComp (own.map (·.2)) it t tt el)) := h.fz
end
end DL
/-! Dcomp: list comprehensions of two clauses. -/
namespace DL
open PySem PySem.Spec L2
open PyProof.Rows hiding St

/-- the inner turns -/
def compIn (vs : List Nat) (tg : Tg) (tt : Tv) (el : Ev) : List D → En → List D → Rs (List D)
  | [], en, acc => .ok en acc
  | d :: ds, en, acc => match wipeE en vs with
    | none => .no
    | some en0 => (match tg d en0 with
      | none => .no
      | some en1 => (match tt en1 with
        | .ok en2 false => (match unw en en2 with
          | some en4 => compIn vs tg tt el ds en4 acc
          | none => .no)
        | .ok en2 true => (match el en2 with
          | .ok en3 (.d y) => if acc.length < sizeLine then (match unw en en3 with
            | some en4 => compIn vs tg tt el ds en4 (acc ++ [y])
            | none => .no) else .no
          | _ => .no)
        | _ => .no))
/-- what is owned in the block is owned outside -/
def ownSub : En → En → Bool
  | [], [] => true
  | s :: en, t :: en3 => (match t with
    | .own _ _ => (match s with
      | .own _ _ => true
      | _ => false)
    | _ => true) && ownSub en en3
  | _, _ => false
def compL2 (vs vs1 : List Nat) (tg : Tg) (tt : Tv) (it1 : Iv) (tg1 : Tg) (tt1 : Tv) (el : Ev) : List D → En → List D → Rs D
  | [], en, acc => .ok en (.list acc)
  | d :: ds, en, acc => match wipeE en vs with
    | none => .no
    | some en0 => (match tg d en0 with
      | none => .no
      | some en1 => (match tt en1 with
        | .ok en2 false => (match unw en en2 with
          | some en4 => compL2 vs vs1 tg tt it1 tg1 tt1 el ds en4 acc
          | none => .no)
        | .ok en2 true => (match it1 en2 with
          | .ok en3 ds1 => if ownSub en en3 = true then (match unw en en3 with
            | some _ => (match compIn vs1 tg1 tt1 el ds1 en3 acc with
              | .ok en4 acc' => (match unw en en4 with
                | some en5 => compL2 vs vs1 tg tt it1 tg1 tt1 el ds en5 acc'
                | none => .no)
              | _ => .no)
            | none => .no) else .no
          | _ => .no)
        | _ => .no))
def oComp2 (vs vs1 : List Nat) (it : Iv) (tg : Tg) (tt : Tv) (it1 : Iv) (tg1 : Tg) (tt1 : Tv) (el : Ev) : Ov := fun en => (it en).bind fun en1 ds => compL2 vs vs1 tg tt it1 tg1 tt1 el ds en1 []

theorem unw_unw : ∀ {en eb eo eb' : En}, unw en eb = some eo → unw eo eb' = unw en eb'
  | [], [], eo, eb', e => by
    cases e
    rfl
  | s :: en, t :: eb, eo, eb', e => by
    unfold unw at e
    split at e
    · rename_i r e1
      cases eb' with
      | nil =>
        split at e
        · split at e
          · split at e <;> cases e
            rfl
          · cases e
        · cases e; rfl
      | cons u eb' =>
        have ih := unw_unw (eb' := eb') e1
        split at e
        · rename_i b d0
          split at e
          · rename_i c d
            split at e
            · rename_i hbc
              cases e
              unfold unw
              rw [ih]
            · cases e
          · cases e
        · rename_i ns
          cases e
          unfold unw
          rw [ih]
    · cases e
  | [], _ :: _, _, _, e => by cases e
  | _ :: _, [], _, _, e => by cases e
theorem unw_ex : ∀ {en eb : En}, en.length = eb.length → (∀ (k : Nat) (b : Bool) (d : D), en[k]? = some (.own b d) → ∃ d', eb[k]? = some (.own b d')) → ∃ eo, unw en eb = some eo
  | [], [], _, _ => ⟨[], rfl⟩
  | s :: en, t :: eb, hl, h => by
    obtain ⟨r, e⟩ := unw_ex (en := en) (eb := eb) (by simpa using hl) fun k b d e => by
      obtain ⟨d', z⟩ := h (k + 1) b d (by simpa using e)
      exact ⟨d', by simpa using z⟩
    unfold unw
    rw [e]
    cases s with
    | own b d =>
      obtain ⟨d', z⟩ := h 0 b d rfl
      have : t = .own b d' := by simpa using z
      subst this
      dsimp only
      rw [if_pos rfl]
      exact ⟨_, rfl⟩
    | un => exact ⟨_, rfl⟩
    | val d => exact ⟨_, rfl⟩
    | ali j => exact ⟨_, rfl⟩
    | xs => exact ⟨_, rfl⟩
  | [], _ :: _, hl, _ => by cases hl
  | _ :: _, [], hl, _ => by cases hl
theorem ownSub_at : ∀ {en en3 : En}, ownSub en en3 = true → ∀ (k : Nat) (b : Bool) (d : D), en3[k]? = some (.own b d) → ∃ c e, en[k]? = some (.own c e)
  | [], [], _, k, b, d, h => by simp at h
  | s :: en, t :: en3, h, 0, b, d, e => by
    have : t = .own b d := by simpa using e
    subst this
    unfold ownSub at h
    rw [Bool.and_eq_true] at h
    cases s <;> first | (exact absurd h.1 Bool.false_ne_true) | exact ⟨_, _, rfl⟩
  | s :: en, t :: en3, h, k + 1, b, d, e => by
    unfold ownSub at h
    rw [Bool.and_eq_true] at h
    obtain ⟨c, e', z⟩ := ownSub_at h.2 k b d (by simpa using e)
    exact ⟨c, e', by simpa using z⟩
  | [], _ :: _, h, _, _, _, _ => by cases h
  | _ :: _, [], h, _, _, _, _ => by cases h

section
variable {K : PySem.W.Frag} {g g' : Gh} {F F' H H' : Hp} {en en3 en4 eb eo : En} {σ σ2 : St} {vs : List Nat}
/-- own behind unw -/
theorem isOwn_unw (hu : unw en en3 = some en4) {p : Addr} (z : IsOwn en4 σ p) : IsOwn en σ p := by
  obtain ⟨k, b, d, z1, z2⟩ := z
  rcases (unw_at hu).2.2 k _ z1 with ⟨b', d0, d', w1, _, w⟩ | ⟨_, w⟩
  · exact ⟨k, b', d0, w1, z2⟩
  · exact absurd rfl (w b d)
theorem isOwn_unw2 (hu : unw en en3 = some en4) {p : Addr} (z : IsOwn en σ p) : IsOwn en4 σ p := by
  obtain ⟨k, b, d, z1, z2⟩ := z
  obtain ⟨u1, _, u3⟩ := unw_at hu
  have lk : k < en4.length := by rw [u1]; exact (List.getElem?_eq_some_iff.mp z1).1
  rcases u3 k _ (List.getElem?_eq_getElem lk) with ⟨b', d0, d', w1, _, w⟩ | ⟨w1, w2⟩
  · exact ⟨k, b', d', by rw [List.getElem?_eq_getElem lk, w], z2⟩
  · rw [z1] at w1
    have := Option.some.inj w1
    exact absurd this.symm (w2 b d)
/-- a ghost of the heap as it stands -/
structure Hereg (g : Gh) (F H : Hp) (en : En) (σ : St) : Prop where
  f0 : g.F0 = F
  h0 : g.H0 = H
  ps : ∀ p, p ∈ g.Ps ↔ IsOwn en σ p
  pl : g.Pl = []
  rw : g.Rw = []
theorem Rep.here (r : Rep K g F en σ H) : ∃ g2, Hereg g2 F H en σ ∧ Rep K g2 F en σ H := by
  obtain ⟨g', s⟩ := sub_ex g F H en σ
  have r' := r.narrow s
  obtain ⟨s1, s2, s3, s4, s5⟩ := s
  refine ⟨{ g' with Pl := [], Rw := [] }, ⟨s1, s2, s3, rfl, rfl⟩, ⟨r'.fz, r'.fr, r'.al, r'.nw, r'.len, r'.val, r'.own, r'.ali, r'.sep, (fun _ _ z => by cases z), (fun _ _ z => by cases z)⟩⟩
/-- the same, where a thing apart has been written -/
theorem Rep.regh (r : Rep K g F en σ H) {p : Addr} (o : HO) (hF : F p = none) (no : ¬ IsOwn en σ p) : ∃ g2, Hereg g2 F (upd H p o) en σ ∧ Rep K g2 F en σ (upd H p o) := by
  obtain ⟨g', s1, s2, s3, s4, s5⟩ := sub_ex g F H en σ
  refine ⟨⟨F, upd H p o, g'.Ps, [], []⟩, ⟨rfl, rfl, s3, rfl, rfl⟩, ⟨fun a u e => ?_, fun a u e _ => e, fun q hq => ?_, fun a e _ _ => e, r.len, r.val, fun i b d e => ?_, r.ali, r.sep, (fun _ _ z => by cases z), (fun _ _ z => by cases z)⟩⟩
  · rw [upd_ne (ne_of_none e hF)]; exact r.fz a u e
  · by_cases h : q = p
    · subst h; rw [upd_same]; exact fun z => by cases z
    · rw [upd_ne h]; exact (r.ownPs ((s3 q).mp hq)).2.2
  · obtain ⟨p', e1, q1, q2, _⟩ := r.own i b d e
    refine ⟨p', e1, q1.to (upd_ne fun z => ?_) (Same.refl _), q2, .inl ((s3 p').mpr ⟨i, b, d, e, e1⟩)⟩
    subst z
    exact no ⟨i, b, d, e, e1⟩
theorem Hereg.sub {g2 : Gh} (h : Hereg g2 F H eb σ2) (hp : ∀ p, IsOwn eb σ2 p ↔ IsOwn eo σ p) : Sub g { g2 with Pl := g.Pl, Rw := g.Rw } F H eo σ := ⟨h.f0, h.h0, fun p => (h.ps p).trans (hp p), rfl, rfl⟩
theorem Hereg.eta {g2 : Gh} {Pl : List (Nat × Addr)} {Rw : List (Nat × Addr)} (h : Hereg g2 F H eb σ2) : g2 = { ({ g2 with Pl := Pl, Rw := Rw } : Gh) with Pl := [], Rw := [] } := by
  obtain ⟨a, b, c, d, e⟩ := g2
  have h1 : d = [] := h.pl
  have h2 : e = [] := h.rw
  subst h1 h2
  rfl
theorem wipe_out' {σ σ2 : St} (hw : wipe σ2 vs = wipe σ vs) {k : Nat} (hk : k ∉ vs) : σ2[k]? = σ[k]? := by
  have := congrArg (fun x : St => x[k]?) hw
  simpa [wipe_get hk] using this
/-- what a thing apart keeps over such a ghost -/
theorem Hereg.keep {g2 : Gh} (h : Hereg g2 F H eb σ2) {p : Addr} {o : HO} (ho : H p = some o) (hF : F p = none) (no : ¬ IsOwn eb σ2 p) {σ' : St} (r : Rep K g2 F' en3 σ' H') : H' p = some o ∧ F' p = none := by
  have n : p ∉ g2.Ps := fun q => no ((h.ps p).mp q)
  exact ⟨r.fr p o (by rw [h.h0]; exact ho) n, r.nw p (by rw [h.f0]; exact hF) (by rw [h.h0, ho]; exact fun z => by cases z) n⟩
end
section
variable {X : Cx} {g : Gh} {W : XW} {elt tg iter tg1 iter1 : Expr} {ifs ifs1 : List Expr} {scope : Scope} {own : List (Str × Nat)} {pos : Pos} {it it1 : Iv} {t t1 : Tg} {ts ts1 : List Nat} {tt tt1 : Tv} {el : Ev} {vs vs1 : List Nat}
/-- the inner loop's reading, at the block's state -/
theorem inner_walk (hv1 : ∀ i ∈ vs1, i ∈ vs) (hs1 : ∀ i ∈ ts1, i ∈ vs1) {σ σ2 : St} {H4 : Hp} {F4 : Hp} {J1 : It} {ds1 : List D} {L : Addr} {en eb : En} {aV : List V} {aD : List D} {en4 : En} {acc' : List D} {Nx : Hp → Prop} {g2 : Gh}
    (hw : wipe σ2 vs = wipe σ vs) (hown : ∀ (k : Nat) (b : Bool) (d : D), en[k]? = some (.own b d) → k ∉ vs) (os : ∀ (k : Nat) (b : Bool) (d : D), eb[k]? = some (.own b d) → ∃ c e, en[k]? = some (.own c e))
    (hJ : ItOk X.K F4 (fun _ _ => True) J1 ds1) (h2 : Hereg g2 F4 H4 eb σ2) (rb : Rep X.K g2 F4 eb σ2 H4) {eo : En} (ho : unw en eb = some eo) (ro : Rep X.K g F4 eo σ H4)
    (eL : H4 L = some (.lst aV)) (aA : DvAll X.K F4 aV aD) (nF : F4 L = none) (n0 : g.H0 L = none) (nO : ¬ IsOwn eo σ L)
    (f : compIn vs1 t1 tt1 el ds1 eb aD = .ok en4 acc')
    (fin : ∀ F5 H5 eo5 aV5, Same F4 F5 → unw en en4 = some eo5 → Rep X.K g F5 eo5 σ H5 → H5 L = some (.lst aV5) → DvAll X.K F5 aV5 acc' → F5 L = none → ¬ IsOwn eo5 σ L → Nx H5) :
    ∃ W1 : Nat → Nat → Hp → Prop, (∃ m, W1 0 m H4) ∧ ∀ j k H, W1 j k H →
      (J1.stop j H ∧ Nx H) ∨ (J1.go j H ∧ ∃ Nx1 : Hp → Prop, (∀ H', Nx1 H' → ∃ k', k' < k ∧ W1 (j + 1) k' H') ∧ ∀ x H', J1.yld j H x H' → (fun v σ H Q => ∃ g', liftG X.K g' t1 ts1 v σ H Q) x (wipe σ2 vs1) H' fun σ3 H5 => wipe σ3 vs1 = wipe σ2 vs1 ∧ (fun σ H Q => ∃ g', liftT X.K g' (W0 X.K X.mg) tt1 σ H Q) σ3 H5 fun b H6 =>
        if b = true then (fun σ H Q => ∃ g', liftE X.K g' (W0 X.K X.mg) el σ H Q) σ3 H6 fun y H7 => ∃ acc, H7 L = some (.lst acc) ∧ acc.length < sizeLine ∧ Nx1 (upd H7 L (.lst (acc ++ [y]))) else Nx1 H6) := by
  have own2 : ∀ {eb eo : En}, (∀ (k : Nat) (b : Bool) (d : D), eb[k]? = some (.own b d) → ∃ c e, en[k]? = some (.own c e)) → unw en eb = some eo → ∀ p, IsOwn eb σ2 p ↔ IsOwn eo σ p := fun {eb eo} os hu p => by
    constructor
    · rintro ⟨k, b, d, z1, z2⟩
      obtain ⟨c, e, z3⟩ := os k b d z1
      refine isOwn_unw2 hu ⟨k, c, e, z3, ?_⟩
      rw [← wipe_out' hw (hown k c e z3)]
      exact z2
    · rintro ⟨k, b, d, z1, z2⟩
      rcases (unw_at hu).2.2 k _ z1 with ⟨b', d0, d', w1, w2, w⟩ | ⟨_, w⟩
      · exact ⟨k, b', d', w2, by rw [wipe_out' hw (hown k b' d0 w1)]; exact z2⟩
      · exact absurd rfl (w b d)
  refine ⟨fun j m H => m = ds1.length - j ∧ j ≤ ds1.length ∧ ∃ F5 eb5 eo5 g5 aV5 aD5, Same F4 F5 ∧ Hereg g5 F5 H eb5 σ2 ∧ Rep X.K g5 F5 eb5 σ2 H ∧ unw en eb5 = some eo5 ∧ Rep X.K g F5 eo5 σ H ∧ (∀ (k : Nat) (b : Bool) (d : D), eb5[k]? = some (.own b d) → ∃ c e, en[k]? = some (.own c e)) ∧
    H L = some (.lst aV5) ∧ DvAll X.K F5 aV5 aD5 ∧ F5 L = none ∧ ¬ IsOwn eo5 σ L ∧ compIn vs1 t1 tt1 el (ds1.drop j) eb5 aD5 = .ok en4 acc', ⟨ds1.length, by simp, Nat.zero_le _, F4, eb, eo, g2, aV, aD, Same.refl _, h2, rb, ho, ro, os, eL, aA, nF, nO, f⟩, ?_⟩
  rintro j m H ⟨rfl, hj, F5, eb5, eo5, g5, aV5, aD5, s5, h5, rb5, hu5, ro5, os5, eL5, aA5, nF5, nO5, f5⟩
  obtain ⟨j1, j2⟩ := hJ j F5 H s5 rb5.fz trivial
  by_cases hlt : j < ds1.length
  · have e1 : ds1[j]? = some ds1[j] := List.getElem?_eq_getElem hlt
    obtain ⟨g1, gy⟩ := j1 _ e1
    have ed : ds1.drop j = ds1[j] :: ds1.drop (j + 1) := List.drop_eq_getElem_cons hlt
    rw [ed] at f5
    unfold compIn at f5
    refine .inr ⟨g1, fun H' => ∃ F6 eb6 eo6 g6 aV6 aD6, Same F4 F6 ∧ Hereg g6 F6 H' eb6 σ2 ∧ Rep X.K g6 F6 eb6 σ2 H' ∧ unw en eb6 = some eo6 ∧ Rep X.K g F6 eo6 σ H' ∧ (∀ (k : Nat) (b : Bool) (d : D), eb6[k]? = some (.own b d) → ∃ c e, en[k]? = some (.own c e)) ∧
      H' L = some (.lst aV6) ∧ DvAll X.K F6 aV6 aD6 ∧ F6 L = none ∧ ¬ IsOwn eo6 σ L ∧ compIn vs1 t1 tt1 el (ds1.drop (j + 1)) eb6 aD6 = .ok en4 acc', fun H' z => ⟨ds1.length - (j + 1), by omega, rfl, hlt, z⟩, fun v H' y => ?_⟩
    obtain ⟨F3, x3, q3⟩ := gy v H' y
    have rb3 := rb5.ext x3
    have ro3 := ro5.ext x3
    have eL3 : H' L = some (.lst aV5) := x3.same _ _ eL5
    have nF3 : F3 L = none := x3.new L nF5 (by rw [eL5]; exact fun z => by cases z)
    obtain ⟨gh, hh, rh⟩ := rb3.here
    have noB : ¬ IsOwn eb5 σ2 L := fun z => nO5 ((own2 os5 hu5 L).mp z)
    cases e2 : wipeE eb5 vs1 with
    | none => rw [e2] at f5; cases f5
    | some en0 =>
      rw [e2] at f5
      dsimp only at f5
      cases e3 : t1 ds1[j] en0 with
      | none => rw [e3] at f5; cases f5
      | some en3 =>
        rw [e3] at f5
        dsimp only at f5
        have hsub : Sub gh gh F3 H' eb5 σ2 := ⟨hh.f0, hh.h0, hh.ps, rfl, rfl⟩
        have geta : gh = { gh with Pl := [], Rw := [] } := hh.eta (Pl := gh.Pl) (Rw := gh.Rw)
        have rk := rh.block hsub e2 rfl
        rw [← geta] at rk
        refine ⟨gh, F3, en0, ds1[j], en3, rk, q3, e3, fun σ' r' b => ?_⟩
        have hw1 : wipe σ' vs1 = wipe σ2 vs1 := wipe_same ⟨b.1, fun k hk => b.2 k fun z => hk (hs1 k z)⟩
        refine ⟨hw1, gh, F3, en3, r', ?_⟩
        -- behind a turn
        have back : ∀ {F6 H6 : Hp} {en6 : En} {σ6 : St} {eb7 : En}, Same F3 F6 → Rep X.K gh F6 en6 σ6 H6 → wipe σ6 vs1 = wipe σ2 vs1 → unw eb5 en6 = some eb7 → ∃ eo7, unw en eb7 = some eo7 ∧ Rep X.K gh F6 eb7 σ2 H6 ∧ Rep X.K g F6 eo7 σ H6 ∧ (∀ (k : Nat) (b : Bool) (d : D), eb7[k]? = some (.own b d) → ∃ c e, en[k]? = some (.own c e)) ∧ H6 L = some (.lst aV5) ∧ F6 L = none ∧ ¬ IsOwn eo7 σ L ∧ ¬ IsOwn eb7 σ2 L := fun {F6 H6 en6 σ6 eb7} s6 r6 hw6 hu => by
          have rb7 : Rep X.K gh F6 eb7 σ2 H6 := rh.unblock hsub (wipeE_own e2) geta r6 hw6 s6 hu
          have os7 : ∀ (k : Nat) (b : Bool) (d : D), eb7[k]? = some (.own b d) → ∃ c e, en[k]? = some (.own c e) := fun k b d e => by
            rcases (unw_at hu).2.2 k _ e with ⟨b', d0, d', w1, _, w⟩ | ⟨_, w⟩
            · exact os5 k b' d0 w1
            · exact absurd rfl (w b d)
          -- the own slots of the block go out
          have ex : ∃ eo7, unw en eb7 = some eo7 := by
            refine unw_ex (by rw [(unw_at hu).1, (unw_at hu5).2.1]) fun k b d e => ?_
            obtain ⟨u1, u2, u3⟩ := unw_at hu5
            have lk : k < eo5.length := by rw [u1]; exact (List.getElem?_eq_some_iff.mp e).1
            rcases u3 k _ (List.getElem?_eq_getElem lk) with ⟨b', d0, d', w1, w2, w⟩ | ⟨w1, w2⟩
            · rw [e] at w1
              cases w1
              obtain ⟨v1, v2, v3⟩ := unw_at hu
              have lk2 : k < eb7.length := by rw [v1]; exact (List.getElem?_eq_some_iff.mp w2).1
              rcases v3 k _ (List.getElem?_eq_getElem lk2) with ⟨b2, d2, d3, y1, _, y⟩ | ⟨y1, y2⟩
              · rw [w2] at y1
                cases y1
                exact ⟨d3, by rw [List.getElem?_eq_getElem lk2, y]⟩
              · rw [w2] at y1
                have := Option.some.inj y1
                exact absurd this.symm (y2 _ _)
            · rw [e] at w1
              have := Option.some.inj w1
              exact absurd this.symm (w2 _ _)
          obtain ⟨eo7, hu7⟩ := ex
          have hs3 : Sub g { gh with Pl := g.Pl, Rw := g.Rw } F3 H' eo5 σ := hh.sub (own2 os5 hu5)
          have ro7 : Rep X.K g F6 eo7 σ H6 := ro3.unblock hs3 (fun k b d e => by
            rcases (unw_at hu5).2.2 k _ e with ⟨b', d0, d', w1, _, w⟩ | ⟨_, w⟩
            · exact hown k b' d0 w1
            · exact absurd rfl (w b d)) (hh.eta) rb7 hw s6 (by rw [unw_unw hu5]; exact hu7)
          obtain ⟨k1, k2⟩ := hh.keep eL3 nF3 noB r6
          have nb7 : ¬ IsOwn eb7 σ2 L := fun z => noB (isOwn_unw hu z)
          exact ⟨eo7, hu7, rb7, ro7, os7, k1, k2, fun z => nb7 ((own2 os7 hu7 L).mpr z), nb7⟩
        cases e4 : tt1 en3 with
        | no => rw [e4] at f5; cases f5
        | ex en6 x => rw [e4] at f5; cases f5
        | ok en6 k =>
          rw [e4] at f5
          intro F6 H6 s6 r6
          cases k with
          | false =>
            dsimp only at f5
            rw [if_neg Bool.false_ne_true]
            cases e5 : unw eb5 en6 with
            | none => rw [e5] at f5; cases f5
            | some eb7 =>
              rw [e5] at f5
              obtain ⟨eo7, hu7, rb7, ro7, os7, k1, k2, n7, nb7⟩ := back s6 r6 hw1 e5
              obtain ⟨g7, h7, rb7'⟩ := rb7.here
              exact ⟨F6, eb7, eo7, g7, aV5, aD5, s5.trans (x3.le.trans s6), h7, rb7', hu7, ro7, os7, k1, aA5.mono (x3.le.trans s6), k2, n7, f5⟩
          | true =>
            dsimp only at f5
            rw [if_pos rfl]
            refine ⟨gh, F6, en6, r6, ?_⟩
            cases e5 : el en6 with
            | no => rw [e5] at f5; cases f5
            | ex en7 x => rw [e5] at f5; cases f5
            | ok en7 rv =>
              rw [e5] at f5
              cases rv with
              | s i => cases f5
              | d yd =>
                intro F7 H7 s7 r7 v7 hv7
                dsimp only at f5
                split at f5
                · rename_i hl
                  cases e6 : unw eb5 en7 with
                  | none => rw [e6] at f5; cases f5
                  | some eb7 =>
                    rw [e6] at f5
                    obtain ⟨eo7, hu7, rb7, ro7, os7, k1, k2, n7, nb7⟩ := back (s6.trans s7) r7 hw1 e6
                    have le := x3.le.trans (s6.trans s7)
                    obtain ⟨g7, h7, rb7'⟩ := rb7.regh (.lst (aV5 ++ [v7])) k2 nb7
                    exact ⟨aV5, k1, by rw [aA5.length]; exact hl, F7, eb7, eo7, g7, aV5 ++ [v7], aD5 ++ [yd], s5.trans le, h7, rb7', hu7, ro7.scratch _ k2 n7 n0, os7, upd_same, (aA5.mono le).append (.one hv7), k2, n7, f5⟩
                · cases f5
  · have e1 : j = ds1.length := by omega
    rw [List.drop_of_length_le (by omega)] at f5
    have f5 : Rs.ok eb5 aD5 = Rs.ok en4 acc' := f5
    cases f5
    exact .inl ⟨j2 (by omega), fin F5 H eo5 aV5 s5 hu5 ro5 eL5 aA5 nF5 nO5⟩
/-- the reading of a comprehension of two clauses -/
theorem comp_tLc2 (hsub : ∀ i ∈ ts, i ∈ own.map (·.2)) (hv : ∀ i ∈ vs1, i ∈ own.map (·.2)) (hsub1 : ∀ i ∈ ts1, i ∈ vs1) {σ : St} {H : Hp} {Q : VK} (h : liftO X.K g W (oComp2 (own.map (·.2)) vs1 it t tt it1 t1 tt1 el) σ H Q) :
    tLc2 (liftI X.K g W it) (fun v σ H Q => ∃ g', liftG X.K g' t ts v σ H Q) (fun σ H Q => ∃ g', liftT X.K g' (W0 X.K X.mg) tt σ H Q) (fun σ H R => ∃ g', liftI X.K g' (W0 X.K X.mg) it1 σ H R) (fun v σ H Q => ∃ g', liftG X.K g' t1 ts1 v σ H Q) (fun σ H Q => ∃ g', liftT X.K g' (W0 X.K X.mg) tt1 σ H Q) (fun σ H Q => ∃ g', liftE X.K g' (W0 X.K X.mg) el σ H Q) (own.map (·.2)) vs1 σ H Q := by
  obtain ⟨F, en, rp, f⟩ := h
  refine ⟨F, en, rp, (Fin.seq f).mono fun F1 H1 en1 ds s1 r1 f1 J hJ L hL => ?_⟩
  generalize hvs : own.map (·.2) = vs at f1 hsub hv ⊢
  have z0 := r1.fresh hL (d := .list []) (.lst (vs := []) (ds := []) upd_same .nil)
  refine ⟨fun i m H => m = ds.length - i ∧ i ≤ ds.length ∧ ∃ F2 en2 aV aD, Same F1 F2 ∧ Rep X.K g F2 en2 σ H ∧ H L = some (.lst aV) ∧ DvAll X.K F2 aV aD ∧ F2 L = none ∧ g.H0 L = none ∧ ¬ IsOwn en2 σ L ∧
    Fin X.K g W σ F2 (compL2 vs vs1 t tt it1 t1 tt1 el (ds.drop i) en2 aD) (fun F' _ en' d => ∀ p H'', Rep X.K g F' en' σ H'' → New X.K g F' H'' en' σ p d → Q (.ref p) H''),
    ⟨ds.length, by simp, Nat.zero_le _, F1, en1, [], [], Same.refl _, z0.1, upd_same, .nil, z0.2.nf, z0.2.nh, z0.2.no, f1⟩, ?_⟩
  rintro i m H ⟨rfl, hi, F2, en2, aV, aD, s2, r2, eL, aA, nF, n0, nO, f2⟩
  obtain ⟨j1, j2⟩ := hJ i F2 H s2 r2.fz trivial
  by_cases hlt : i < ds.length
  · have e1 : ds[i]? = some ds[i] := List.getElem?_eq_getElem hlt
    obtain ⟨g1, g2⟩ := j1 _ e1
    have ed : ds.drop i = ds[i] :: ds.drop (i + 1) := List.drop_eq_getElem_cons hlt
    rw [ed] at f2
    unfold compL2 at f2
    refine .inr ⟨g1, fun H' => ∃ F5 en5 aV aD, Same F1 F5 ∧ Rep X.K g F5 en5 σ H' ∧ H' L = some (.lst aV) ∧ DvAll X.K F5 aV aD ∧ F5 L = none ∧ g.H0 L = none ∧ ¬ IsOwn en5 σ L ∧
      Fin X.K g W σ F5 (compL2 vs vs1 t tt it1 t1 tt1 el (ds.drop (i + 1)) en5 aD) (fun F' _ en' d => ∀ p H'', Rep X.K g F' en' σ H'' → New X.K g F' H'' en' σ p d → Q (.ref p) H''),
      fun H' z => ⟨ds.length - (i + 1), by omega, rfl, hlt, z⟩, fun v H' y => ?_⟩
    obtain ⟨F3, x3, q3⟩ := g2 v H' y
    have r3 := r2.ext x3
    have eL3 : H' L = some (.lst aV) := x3.same _ _ eL
    have nF3 : F3 L = none := x3.new L nF (by rw [eL]; exact fun z => by cases z)
    cases e2 : wipeE en2 vs with
    | none => rw [e2] at f2; exact f2.elim
    | some en0 =>
      rw [e2] at f2
      dsimp only at f2
      cases e3 : t ds[i] en0 with
      | none => rw [e3] at f2; exact f2.elim
      | some en3 =>
        rw [e3] at f2
        dsimp only at f2
        obtain ⟨gh, hh, rh⟩ := r3.here
        have hs : Sub g { gh with Pl := g.Pl, Rw := g.Rw } F3 H' en2 σ := ⟨hh.f0, hh.h0, hh.ps, rfl, rfl⟩
        have geta : gh = { ({ gh with Pl := g.Pl, Rw := g.Rw } : Gh) with Pl := [], Rw := [] } := hh.eta
        have rb := r3.block hs e2 rfl
        rw [← geta] at rb
        refine ⟨gh, F3, en0, ds[i], en3, rb, q3, e3, fun σ' r' b => ?_⟩
        have hw : wipe σ' vs = wipe σ vs := wipe_same ⟨b.1, fun k hk => b.2 k fun z => hk (hsub k z)⟩
        refine ⟨hw, gh, F3, en3, r', ?_⟩
        cases e4 : tt en3 with
        | no => rw [e4] at f2; exact f2.elim
        | ex en4 x => rw [e4] at f2; exact f2.elim
        | ok en4 k =>
          rw [e4] at f2
          intro F4 H4 s4 r4
          cases k with
          | false =>
            dsimp only at f2
            rw [if_neg Bool.false_ne_true]
            cases e5 : unw en2 en4 with
            | none => rw [e5] at f2; exact f2.elim
            | some en5 =>
              rw [e5] at f2
              obtain ⟨k1, k2⟩ := hh.keep eL3 nF3 nO r4
              exact ⟨F4, en5, aV, aD, s2.trans (x3.le.trans s4), r3.unblock hs (wipeE_own e2) geta r4 hw s4 e5, k1, aA.mono (x3.le.trans s4), k2, n0, fun z => nO (isOwn_unw e5 z), Fin.weak (x3.le.trans s4) f2⟩
          | true =>
            dsimp only at f2
            rw [if_pos rfl]
            refine ⟨gh, F4, en4, r4, ?_⟩
            cases e5 : it1 en4 with
            | no => rw [e5] at f2; exact f2.elim
            | ex en5 x => rw [e5] at f2; exact f2.elim
            | ok en5 ds1 =>
              rw [e5] at f2
              dsimp only at f2
              split at f2
              · rename_i hos
                cases e6 : unw en2 en5 with
                | none => rw [e6] at f2; exact f2.elim
                | some eo =>
                  rw [e6] at f2
                  dsimp only at f2
                  cases e7 : compIn vs1 t1 tt1 el ds1 en5 aD with
                  | no => rw [e7] at f2; exact f2.elim
                  | ex en6 x => rw [e7] at f2; exact f2.elim
                  | ok en6 acc' =>
                    rw [e7] at f2
                    dsimp only at f2
                    cases e8 : unw en2 en6 with
                    | none => rw [e8] at f2; exact f2.elim
                    | some en7 =>
                      rw [e8] at f2
                      intro F5 H5 s5 r5 J1 hJ1
                      have le := x3.le.trans (s4.trans s5)
                      have ro := r3.unblock hs (wipeE_own e2) geta r5 hw (s4.trans s5) e6
                      obtain ⟨k1, k2⟩ := hh.keep eL3 nF3 nO r5
                      obtain ⟨gb, hb, rb5⟩ := r5.here
                      refine inner_walk (X := X) (g := g) (vs := vs) hv hsub1 hw (wipeE_own e2) (fun k b d e => ownSub_at hos k b d e) hJ1 hb rb5 e6 ro k1 (aA.mono le) k2 n0 (fun z => nO (isOwn_unw e6 z)) e7 fun F6 H6 eo6 aV6 s6 hu6 r6 l1 l2 l3 l4 => ?_
                      rw [e8] at hu6
                      cases hu6
                      exact ⟨F6, en7, aV6, acc', s2.trans (le.trans s6), r6, l1, l2, l3, n0, l4, Fin.weak (le.trans s6) f2⟩
              · exact f2.elim
  · have e1 : i = ds.length := by omega
    rw [List.drop_of_length_le (by omega)] at f2
    exact .inl ⟨j2 (by omega), f2 F2 H (Same.refl _) r2 L H r2 (.list eL aA nF n0 nO)⟩
theorem do_comp2 (hc : X.calm = true) (hN : X.N.Nodup) (hi : DI X g W tg iter it) (ok : BlkOk X.N X.env.scope scope own) (hsub : ∀ i ∈ ts, i ∈ own.map (·.2)) (hv : ∀ i ∈ vs1, i ∈ own.map (·.2)) (hsub1 : ∀ i ∈ ts1, i ∈ vs1)
    (hg : ∀ (s : Shared) (H : Hp) (C : Addr) (cl : List (Str × Addr)) (fp : List Addr) (g' : Gh), DG (X.blk s H scope (compEnvC scope cl C X.env) fp) g' tg t ts)
    (ht : ∀ (s : Shared) (H : Hp) (C : Addr) (cl : List (Str × Addr)) (fp : List Addr) (g' : Gh), DTs (X.blk s H scope (compEnvC scope cl C X.env) fp) g' (W0 X.K X.mg) ifs tt)
    (hi1 : ∀ (s : Shared) (H : Hp) (C : Addr) (cl : List (Str × Addr)) (fp : List Addr) (g' : Gh), DI (X.blk s H scope (compEnvC scope cl C X.env) fp) g' (W0 X.K X.mg) tg1 iter1 it1)
    (hg1 : ∀ (s : Shared) (H : Hp) (C : Addr) (cl : List (Str × Addr)) (fp : List Addr) (g' : Gh), DG (X.blk s H scope (compEnvC scope cl C X.env) fp) g' tg1 t1 ts1)
    (ht1 : ∀ (s : Shared) (H : Hp) (C : Addr) (cl : List (Str × Addr)) (fp : List Addr) (g' : Gh), DTs (X.blk s H scope (compEnvC scope cl C X.env) fp) g' (W0 X.K X.mg) ifs1 tt1)
    (he : ∀ (s : Shared) (H : Hp) (C : Addr) (cl : List (Str × Addr)) (fp : List Addr) (g' : Gh), DE (X.blk s H scope (compEnvC scope cl C X.env) fp) g' (W0 X.K X.mg) elt el)
    (hs : ∀ x, foldedSetIterable iter X.env x = pure x := by intro _; rfl) (hs1 : ∀ env x, foldedSetIterable iter1 env x = pure x := by intro _ _; rfl) : DO X g W (.ListComp elt [⟨tg, iter, ifs, 0⟩, ⟨tg1, iter1, ifs1, 0⟩] scope pos) (oComp2 (own.map (·.2)) vs1 it t tt it1 t1 tt1 el) := by
  refine PE.imp (pe_lc2 (vs1 := vs1) (g := fun v σ H Q => ∃ g', liftG X.K g' t ts v σ H Q) (tt := fun σ H Q => ∃ g', liftT X.K g' (W0 X.K X.mg) tt σ H Q) (wi1 := fun σ H R => ∃ g', liftI X.K g' (W0 X.K X.mg) it1 σ H R) (g1 := fun v σ H Q => ∃ g', liftG X.K g' t1 ts1 v σ H Q) (tt1 := fun σ H Q => ∃ g', liftT X.K g' (W0 X.K X.mg) tt1 σ H Q) (te := fun σ H Q => ∃ g', liftE X.K g' (W0 X.K X.mg) el σ H Q) hc hN hi ok hv
    (fun s H C cl fp => ⟨fun pins s' σ H v u Q I r ⟨g', q⟩ => (hg s _ C cl fp g').run pins s' σ H v u Q I r q⟩) (fun s H C cl fp => ⟨fun pins s' σ H Q I ⟨g', q⟩ => (ht s _ C cl fp g').run pins s' σ H Q I q⟩)
    (fun s H C cl fp => ⟨fun pins s' σ H R I ⟨g', q⟩ => (hi1 s _ C cl fp g').run pins s' σ H R I q⟩)
    (fun s H C cl fp => ⟨fun pins s' σ H v u Q I r ⟨g', q⟩ => (hg1 s _ C cl fp g').run pins s' σ H v u Q I r q⟩) (fun s H C cl fp => ⟨fun pins s' σ H Q I ⟨g', q⟩ => (ht1 s _ C cl fp g').run pins s' σ H Q I q⟩)
    (fun s H C cl fp => ⟨fun pins s' σ H Q I ⟨g', q⟩ => (he s _ C cl fp g').run pins s' σ H Q I q⟩) hs hs1) fun σ H Q h => comp_tLc2 hsub hv hsub1 h
end
end DL
/-! Ddict: dicts as data. -/
namespace DL
open PySem PySem.Spec L2
open PyProof.Rows hiding St

def keyOf : D → Option Key
  | .int i => some (.inl i)
  | .str x => some (.inr x)
  | _ => none
def keyEq : D → D → Bool
  | .int i, .int j => i == j
  | .str i, .str j => i == j
  | _, _ => false
/-- a key is put -/
def putP (ps : List (D × D)) (k d : D) : List (D × D) := if (ps.any fun q => keyEq q.1 k) = true then ps.map (fun q => if keyEq q.1 k = true then (q.1, d) else q) else ps ++ [(k, d)]
theorem keyOf_eq {d : D} {k : Key} (h : keyOf d = some k) : d = keyD k := by
  cases d <;> cases h <;> rfl
theorem keyEq_key (a b : Key) : keyEq (keyD a) (keyD b) = decide (a = b) := by
  cases a <;> cases b
  · rename_i i j
    show (i == j) = _
    rw [Bool.eq_iff_iff]
    simp
  · rfl
  · rfl
  · rename_i i j
    show (i == j) = _
    rw [Bool.eq_iff_iff]
    simp
/-- what a dict holds -/
inductive DvKV (K : PySem.W.Frag) (F : Hp) : List (Key × V) → List (D × D) → Prop
  | nil : DvKV K F [] []
  | cons {k : Key} {v : V} {d : D} {kvs : List (Key × V)} {ps : List (D × D)} : Dv K F v d → DvKV K F kvs ps → DvKV K F ((k, v) :: kvs) ((keyD k, d) :: ps)
section
variable {K : PySem.W.Frag} {F F' H : Hp}
theorem DvKV.mono (s : Same F F') : ∀ {kvs : List (Key × V)} {ps : List (D × D)}, DvKV K F kvs ps → DvKV K F' kvs ps
  | _, _, .nil => .nil
  | _, _, .cons a b => .cons (a.mono s) (DvKV.mono s b)
theorem DvKV.split : ∀ {kvs : List (Key × V)} {ps : List (D × D)}, DvKV K F kvs ps → ∃ ds, DvAll K F (kvs.map (·.2)) ds ∧ (kvs.map fun p => keyD p.1).zip ds = ps
  | _, _, .nil => ⟨[], .nil, rfl⟩
  | _, _, .cons a b => by
    obtain ⟨ds, h1, h2⟩ := DvKV.split b
    exact ⟨_ :: ds, .cons a h1, by rw [List.map_cons, List.zip_cons_cons, h2]⟩
theorem DvKV.of : ∀ {kvs : List (Key × V)} {ds : List D}, DvAll K F (kvs.map (·.2)) ds → DvKV K F kvs ((kvs.map fun p => keyD p.1).zip ds)
  | [], _, h => by cases h; exact .nil
  | (k, v) :: r, _, h => by
    cases h with
    | cons a b => exact .cons a (DvKV.of b)
theorem DvKV.length : ∀ {kvs : List (Key × V)} {ps : List (D × D)}, DvKV K F kvs ps → kvs.length = ps.length
  | _, _, .nil => rfl
  | _, _, .cons _ b => congrArg (· + 1) (DvKV.length b)
theorem DvKV.any {k : Key} : ∀ {kvs : List (Key × V)} {ps : List (D × D)}, DvKV K F kvs ps → (kvs.any fun q => decide (q.1 = k)) = ps.any fun q => keyEq q.1 (keyD k)
  | _, _, .nil => rfl
  | _, _, .cons a b => by
    rw [List.any_cons, List.any_cons, keyEq_key, DvKV.any b]
theorem DvKV.mapPut {k : Key} {v : V} {d : D} (h : Dv K F v d) : ∀ {kvs : List (Key × V)} {ps : List (D × D)}, DvKV K F kvs ps → DvKV K F (kvs.map fun kv => if kv.1 = k then (kv.1, v) else kv) (ps.map fun q => if keyEq q.1 (keyD k) = true then (q.1, d) else q)
  | _, _, .nil => .nil
  | _, _, .cons (k := k') a b => by
    rw [List.map_cons, List.map_cons, keyEq_key]
    by_cases e : k' = k
    · rw [if_pos e, if_pos (decide_eq_true e)]
      exact .cons h (DvKV.mapPut h b)
    · rw [if_neg e, if_neg (by rw [decide_eq_false e]; exact Bool.false_ne_true)]
      exact .cons a (DvKV.mapPut h b)
theorem DvKV.append : ∀ {kvs kvs' : List (Key × V)} {ps ps' : List (D × D)}, DvKV K F kvs ps → DvKV K F kvs' ps' → DvKV K F (kvs ++ kvs') (ps ++ ps')
  | _, _, _, _, .nil, h => h
  | _, _, _, _, .cons a b, h => .cons a (DvKV.append b h)
theorem DvKV.put {k : Key} {v : V} {d : D} (h : Dv K F v d) {kvs : List (Key × V)} {ps : List (D × D)} (a : DvKV K F kvs ps) : DvKV K F (putK kvs k v) (putP ps (keyD k) d) := by
  unfold putK putP
  rw [a.any (k := k)]
  split
  · exact a.mapPut h
  · exact a.append (.cons h .nil)
theorem DvKV.own {kvs : List (Key × V)} {ps : List (D × D)} {p : Addr} (a : DvKV K F kvs ps) (e : H p = some (.dK kvs)) : OwnAt K F H p (.dict ps) := by
  obtain ⟨ds, h1, h2⟩ := a.split
  rw [← h2]
  exact .dct e h1
theorem DvKV.dv {kvs : List (Key × V)} {ps : List (D × D)} {p : Addr} (a : DvKV K F kvs ps) (e : F p = some (.dK kvs)) : Dv K F (.ref p) (.dict ps) := by
  obtain ⟨ds, h1, h2⟩ := a.split
  rw [← h2]
  exact .dct e h1
end

/-! ### dict comprehensions -/
def compD (vs : List Nat) (tg : Tg) (tt : Tv) (ek ev : Ev) : List D → En → List (D × D) → Rs D
  | [], en, acc => .ok en (.dict acc)
  | d :: ds, en, acc => match wipeE en vs with
    | none => .no
    | some en0 => (match tg d en0 with
      | none => .no
      | some en1 => (match tt en1 with
        | .ok en2 false => (match unw en en2 with
          | some en4 => compD vs tg tt ek ev ds en4 acc
          | none => .no)
        | .ok en2 true => (match ek en2 with
          | .ok en3 (.d y) => (match keyOf y with
            | some _ => (match ev en3 with
              | .ok en5 (.d z) => if acc.length < sizeLine then (match unw en en5 with
                | some en4 => compD vs tg tt ek ev ds en4 (putP acc y z)
                | none => .no) else .no
              | _ => .no)
            | none => .no)
          | _ => .no)
        | _ => .no))
def oCompD (vs : List Nat) (it : Iv) (tg : Tg) (tt : Tv) (ek ev : Ev) : Ov := fun en => (it en).bind fun en1 ds => compD vs tg tt ek ev ds en1 []
section
variable {X : Cx} {g : Gh} {W : XW} {kx vx tg iter : Expr} {ifs : List Expr} {scope : Scope} {own : List (Str × Nat)} {pos : Pos} {it : Iv} {t : Tg} {ts : List Nat} {tt : Tv} {ek ev : Ev}
theorem comp_tDc (hsub : ∀ i ∈ ts, i ∈ own.map (·.2)) {σ : St} {H : Hp} {Q : VK} (h : liftO X.K g W (oCompD (own.map (·.2)) it t tt ek ev) σ H Q) :
    tDc (liftI X.K g W it) (fun v σ H Q => ∃ g', liftG X.K g' t ts v σ H Q) (fun σ H Q => ∃ g', liftT X.K g' (W0 X.K X.mg) tt σ H Q) (fun σ H Q => ∃ g', liftE X.K g' (W0 X.K X.mg) ek σ H Q) (fun σ H Q => ∃ g', liftE X.K g' (W0 X.K X.mg) ev σ H Q) (own.map (·.2)) σ H Q := by
  obtain ⟨F, en, rp, f⟩ := h
  refine ⟨F, en, rp, (Fin.seq f).mono fun F1 H1 en1 ds s1 r1 f1 J hJ L hL => ?_⟩
  generalize hvs : own.map (·.2) = vs at f1 hsub ⊢
  have z0 := r1.fresh hL (d := .dict []) (OwnAt.dct (kvs := []) (ds := []) upd_same .nil)
  refine ⟨fun i m H => m = ds.length - i ∧ i ≤ ds.length ∧ ∃ F2 en2 aV aD, Same F1 F2 ∧ Rep X.K g F2 en2 σ H ∧ H L = some (.dK aV) ∧ DvKV X.K F2 aV aD ∧ F2 L = none ∧ g.H0 L = none ∧ ¬ IsOwn en2 σ L ∧
    Fin X.K g W σ F2 (compD vs t tt ek ev (ds.drop i) en2 aD) (fun F' _ en' d => ∀ p H'', Rep X.K g F' en' σ H'' → New X.K g F' H'' en' σ p d → Q (.ref p) H''),
    ⟨ds.length, by simp, Nat.zero_le _, F1, en1, [], [], Same.refl _, z0.1, upd_same, .nil, z0.2.nf, z0.2.nh, z0.2.no, f1⟩, ?_⟩
  rintro i m H ⟨rfl, hi, F2, en2, aV, aD, s2, r2, eL, aA, nF, n0, nO, f2⟩
  obtain ⟨j1, j2⟩ := hJ i F2 H s2 r2.fz trivial
  by_cases hlt : i < ds.length
  · have e1 : ds[i]? = some ds[i] := List.getElem?_eq_getElem hlt
    obtain ⟨g1, g2⟩ := j1 _ e1
    have ed : ds.drop i = ds[i] :: ds.drop (i + 1) := List.drop_eq_getElem_cons hlt
    rw [ed] at f2
    unfold compD at f2
    refine .inr ⟨g1, fun H' => ∃ F5 en5 aV aD, Same F1 F5 ∧ Rep X.K g F5 en5 σ H' ∧ H' L = some (.dK aV) ∧ DvKV X.K F5 aV aD ∧ F5 L = none ∧ g.H0 L = none ∧ ¬ IsOwn en5 σ L ∧
      Fin X.K g W σ F5 (compD vs t tt ek ev (ds.drop (i + 1)) en5 aD) (fun F' _ en' d => ∀ p H'', Rep X.K g F' en' σ H'' → New X.K g F' H'' en' σ p d → Q (.ref p) H''),
      fun H' z => ⟨ds.length - (i + 1), by omega, rfl, hlt, z⟩, fun v H' y => ?_⟩
    obtain ⟨F3, x3, q3⟩ := g2 v H' y
    have r3 := r2.ext x3
    have eL3 : H' L = some (.dK aV) := x3.same _ _ eL
    have nF3 : F3 L = none := x3.new L nF (by rw [eL]; exact fun z => by cases z)
    cases e2 : wipeE en2 vs with
    | none => rw [e2] at f2; exact f2.elim
    | some en0 =>
      rw [e2] at f2
      dsimp only at f2
      cases e3 : t ds[i] en0 with
      | none => rw [e3] at f2; exact f2.elim
      | some en3 =>
        rw [e3] at f2
        dsimp only at f2
        obtain ⟨gh, hh, rh⟩ := r3.here
        have hs : Sub g { gh with Pl := g.Pl, Rw := g.Rw } F3 H' en2 σ := ⟨hh.f0, hh.h0, hh.ps, rfl, rfl⟩
        have geta : gh = { ({ gh with Pl := g.Pl, Rw := g.Rw } : Gh) with Pl := [], Rw := [] } := hh.eta
        have rb := r3.block hs e2 rfl
        rw [← geta] at rb
        refine ⟨gh, F3, en0, ds[i], en3, rb, q3, e3, fun σ' r' b => ?_⟩
        have hw : wipe σ' vs = wipe σ vs := wipe_same ⟨b.1, fun k hk => b.2 k fun z => hk (hsub k z)⟩
        refine ⟨hw, gh, F3, en3, r', ?_⟩
        cases e4 : tt en3 with
        | no => rw [e4] at f2; exact f2.elim
        | ex en4 x => rw [e4] at f2; exact f2.elim
        | ok en4 k =>
          rw [e4] at f2
          intro F4 H4 s4 r4
          cases k with
          | false =>
            dsimp only at f2
            rw [if_neg Bool.false_ne_true]
            cases e5 : unw en2 en4 with
            | none => rw [e5] at f2; exact f2.elim
            | some en5 =>
              rw [e5] at f2
              obtain ⟨k1, k2⟩ := hh.keep eL3 nF3 nO r4
              exact ⟨F4, en5, aV, aD, s2.trans (x3.le.trans s4), r3.unblock hs (wipeE_own e2) geta r4 hw s4 e5, k1, aA.mono (x3.le.trans s4), k2, n0, fun z => nO (isOwn_unw e5 z), Fin.weak (x3.le.trans s4) f2⟩
          | true =>
            dsimp only at f2
            rw [if_pos rfl]
            refine ⟨gh, F4, en4, r4, ?_⟩
            cases e5 : ek en4 with
            | no => rw [e5] at f2; exact f2.elim
            | ex en5 x => rw [e5] at f2; exact f2.elim
            | ok en5 rv =>
              rw [e5] at f2
              cases rv with
              | s i => exact f2.elim
              | d y =>
                intro F5 H5 s5 r5 v5 hv5
                dsimp only at f2
                cases e6 : keyOf y with
                | none => rw [e6] at f2; exact f2.elim
                | some kk =>
                  rw [e6] at f2
                  dsimp only at f2
                  refine ⟨gh, F5, en5, r5, ?_⟩
                  cases e7 : ev en5 with
                  | no => rw [e7] at f2; exact f2.elim
                  | ex en6 x => rw [e7] at f2; exact f2.elim
                  | ok en6 rz =>
                    rw [e7] at f2
                    cases rz with
                    | s i => exact f2.elim
                    | d z =>
                      intro F6 H6 s6 r6 v6 hv6
                      dsimp only at f2
                      split at f2
                      · rename_i hl
                        cases e8 : unw en2 en6 with
                        | none => rw [e8] at f2; exact f2.elim
                        | some en7 =>
                          rw [e8] at f2
                          have ek := keyOf_eq e6
                          subst ek
                          obtain ⟨k1, k2⟩ := hh.keep eL3 nF3 nO r6
                          have le := x3.le.trans (s4.trans (s5.trans s6))
                          have r8 := r3.unblock hs (wipeE_own e2) geta r6 hw (s4.trans (s5.trans s6)) e8
                          have n8 : ¬ IsOwn en7 σ L := fun z => nO (isOwn_unw e8 z)
                          have ekv : v5 = kV kk := by
                            have h5 : Dv X.K F5 v5 (keyD kk) := hv5
                            cases kk <;> cases h5 <;> rfl
                          refine ⟨aV, kk, ekv, k1, by rw [aA.length]; exact hl, F6, en7, putK aV kk v6, putP aD (keyD kk) z, s2.trans le, r8.scratch _ k2 n8 n0, upd_same, (aA.mono le).put hv6, k2, n0, n8, Fin.weak le f2⟩
                      · exact f2.elim
  · have e1 : i = ds.length := by omega
    rw [List.drop_of_length_le (by omega)] at f2
    exact .inl ⟨j2 (by omega), f2 F2 H (Same.refl _) r2 L H r2 ⟨aA.own eL, nF, n0, nO⟩⟩
theorem do_dc (hc : X.calm = true) (hN : X.N.Nodup) (hi : DI X g W tg iter it) (ok : BlkOk X.N X.env.scope scope own) (hsub : ∀ i ∈ ts, i ∈ own.map (·.2))
    (hg : ∀ (s : Shared) (H : Hp) (C : Addr) (cl : List (Str × Addr)) (fp : List Addr) (g' : Gh), DG (X.blk s H scope (compEnvC scope cl C X.env) fp) g' tg t ts)
    (ht : ∀ (s : Shared) (H : Hp) (C : Addr) (cl : List (Str × Addr)) (fp : List Addr) (g' : Gh), DTs (X.blk s H scope (compEnvC scope cl C X.env) fp) g' (W0 X.K X.mg) ifs tt)
    (hk : ∀ (s : Shared) (H : Hp) (C : Addr) (cl : List (Str × Addr)) (fp : List Addr) (g' : Gh), DE (X.blk s H scope (compEnvC scope cl C X.env) fp) g' (W0 X.K X.mg) kx ek)
    (he : ∀ (s : Shared) (H : Hp) (C : Addr) (cl : List (Str × Addr)) (fp : List Addr) (g' : Gh), DE (X.blk s H scope (compEnvC scope cl C X.env) fp) g' (W0 X.K X.mg) vx ev)
    (hs : ∀ x, foldedSetIterable iter X.env x = pure x := by intro _; rfl) : DO X g W (.DictComp kx vx [⟨tg, iter, ifs, 0⟩] scope pos) (oCompD (own.map (·.2)) it t tt ek ev) := by
  refine PE.imp (pe_dc (g := fun v σ H Q => ∃ g', liftG X.K g' t ts v σ H Q) (tt := fun σ H Q => ∃ g', liftT X.K g' (W0 X.K X.mg) tt σ H Q) (tk := fun σ H Q => ∃ g', liftE X.K g' (W0 X.K X.mg) ek σ H Q) (tv := fun σ H Q => ∃ g', liftE X.K g' (W0 X.K X.mg) ev σ H Q) hc hN hi ok
    (fun s H C cl fp => ⟨fun pins s' σ H v u Q I r ⟨g', q⟩ => (hg s _ C cl fp g').run pins s' σ H v u Q I r q⟩) (fun s H C cl fp => ⟨fun pins s' σ H Q I ⟨g', q⟩ => (ht s _ C cl fp g').run pins s' σ H Q I q⟩)
    (fun s H C cl fp => ⟨fun pins s' σ H Q I ⟨g', q⟩ => (hk s _ C cl fp g').run pins s' σ H Q I q⟩)
    (fun s H C cl fp => ⟨fun pins s' σ H Q I ⟨g', q⟩ => (he s _ C cl fp g').run pins s' σ H Q I q⟩) hs) fun σ H Q h => comp_tDc hsub h
end

/-! ### sorted(d), keys that are ints -/
def sSortedD : List D → Option D
  | [.dict ps] => match intsD (ps.map (·.1)) with
    | some ns => if ns.length < 64 then some (.list ((ns.mergeSort fun a b => decide (a ≤ b)).map .int)) else none
    | none => none
  | _ => none
def sSorted2 (ds : List D) : Option D := match sSorted ds with
  | some d => some d
  | none => sSortedD ds
def rSortDI : List V → Hp → VK → Prop := fun xs H Q => ∃ (a : Addr) (kvs : List (Key × V)) (ks : List Int), xs = [.ref a] ∧ Rd H a (.dK kvs) ∧ kvs.map (·.1) = ks.map Sum.inl ∧ ks.length < 64 ∧
    ∀ (ys : List Int) (p : Addr), ys.Perm ks → ys.Pairwise (· ≤ ·) → H p = none → Q (.ref p) (upd H p (.lst (ys.map V.int)))
theorem DvKV.keys {K : PySem.W.Frag} {F : Hp} : ∀ {kvs : List (Key × V)} {ps : List (D × D)} {ns : List Int}, DvKV K F kvs ps → ps.map (·.1) = ns.map PyData.int → kvs.map (·.1) = ns.map Sum.inl
  | _, _, [], .nil, _ => rfl
  | _, _, n :: r, .cons (k := k) a b, e => by
    rw [List.map_cons, List.map_cons] at e
    injection e with e1 e2
    cases k with
    | inl i =>
      cases e1
      rw [List.map_cons, List.map_cons, DvKV.keys b e2]
    | inr x => cases e1
  | _, _, [], .cons _ _, e => by cases e
  | _, _, _ :: _, .nil, e => by cases e
theorem vw_dict {K : PySem.W.Frag} {F H : Hp} {v : V} {ps : List (D × D)} (s : Same F H) (h : Vw K F H v (.dict ps)) : (∃ (a : Addr) (kvs : List (Key × V)), v = .ref a ∧ H a = some (.dK kvs) ∧ DvKV K F kvs ps) ∨ (∃ ns : List Int, ps = [(.none, .list (ns.map PyData.int))]) ∨ ∃ (a : Addr) (kvs : List (List Key × V)) (ds : List D), v = .ref a ∧ H a = some (.dT kvs) ∧ DvAll K F (kvs.map (·.2)) ds ∧ ps = (.none, .bool true) :: (kvs.map fun p => PyData.tuple (p.1.map keyD)).zip ds := by
  cases h with
  | fz h =>
    cases h with
    | scr q => exact .inr (.inl ⟨_, rfl⟩)
    | dct q a => exact .inl ⟨_, _, rfl, s _ _ q, DvKV.of a⟩
    | dctT q a => exact .inr (.inr ⟨_, _, _, rfl, s _ _ q, a, rfl⟩)
  | own h _ =>
    cases h with
    | dct q a => exact .inl ⟨_, _, rfl, q, DvKV.of a⟩
    | dctT q a => exact .inr (.inr ⟨_, _, _, rfl, q, a, rfl⟩)
theorem se_sortedD {K : PySem.W.Frag} : SemN K rSortDI sSortedD := by
  intro F H vs ds c Q s hv hs g
  unfold sSortedD at hs
  split at hs
  · rename_i ps
    split at hs
    · rename_i ns e1
      split at hs
      · rename_i hl
        cases hs
        obtain ⟨v, rfl, q⟩ := vwAll1 hv
        have ek := intsD_eq e1
        rcases vw_dict s q with ⟨a, kvs, rfl, q1, kv⟩ | ⟨ms, rfl⟩ | ⟨a, kvs, es, rfl, q1, al, rfl⟩
        · refine ⟨a, kvs, ns, rfl, .inl q1, kv.keys ek, hl, fun ys p hp hw hn => ?_⟩
          have e2 := PySem.W.os_sorted_mergeSort hp hw
          rw [e2]
          exact give_lst s g (DvAll.ints _) p hn
        · cases ns with
          | nil => cases ek
          | cons n r => cases ek
        · cases ns with
          | nil => cases ek
          | cons n r => cases ek
      · cases hs
    · cases hs
  · cases hs
theorem CallR.imp {X : Cx} {f : Value} {r r' : List V → Hp → VK → Prop} (h : CallR X f r) (i : ∀ xs H Q, r' xs H Q → r xs H Q) : CallR X f r' := fun pins s σ H xs us Q I rx q => h pins s σ H xs us Q I rx (i _ _ _ q)
theorem cr_sorted2 {X : Cx} (hc : X.calm = true) (hu : X.A.units + 64 < cLine) : CallR X (.builtin "sorted") (fun xs H Q => rSortD X.K xs H Q ∨ rSortDI xs H Q) := CallR.or (cr_sortD hu) (call_sortedDI hc)
theorem se_sorted2 {K : PySem.W.Frag} : SemN K (fun xs H Q => rSortD K xs H Q ∨ rSortDI xs H Q) sSorted2 := by
  intro F H vs ds c Q s hv hs g
  unfold sSorted2 at hs
  split at hs
  · rename_i d e
    cases hs
    exact .inl (se_sorted F H vs ds _ Q s hv e g)
  · exact .inr (se_sortedD F H vs ds c Q s hv hs g)
theorem b_sorted2 {X : Cx} {g : Gh} {W : XW} {pos p : Pos} {a : Expr} {av : Av} {k : Nat} (hc : X.calm = true) (hr : Room k X.A) (B : Bt X.mg) (ha : DA X g W [a] av) (hg : Gl X "sorted" := by rfl) (he : starEach [a] X.env = (false, eval a X.env) :: starEach [] X.env := by rfl) (hpl : (backTo pos (starEach [] X.env)).any (·.1) = false := by rfl) : DE X g W (.Call (.Name "sorted" p) [a] [] pos) (dCallB sSorted2 av) := de_callB (cr_sorted2 hc (u64 hr)) se_sorted2 hg B.sorted (by decide +kernel) ha (by decide) (by decide) he hpl
end DL
/-! Dl15: what leaves a def's body. -/
namespace DL
open PySem PySem.Spec L2
open PyProof.Rows hiding St
theorem takesF {P : Program} {w : World} {K : PySem.W.Frag} {mg : Str → Option Value} {base : Heap} {N : List Str} {qual : Str} {sc : Scope} {f : Addr} {cdv : Value} {A : Around} {outer : List Env} {s : Shared} {H : Hp} {E : XK} :
    Takes (cxOf (L2.CX P w) P w K mg base N qual sc f cdv A outer s H E) (fun cls d _ H' => E cls d H') := takes_of rfl rfl rfl rfl
end DL
/-! Dexc: try .. except X as e; isinstance of e; calls with keywords. -/
namespace DL
open PySem PySem.Spec L2
open PyProof.Rows hiding St

section
variable {K : PySem.W.Frag} {g : Gh} {F H : Hp} {en : En} {σ : St}
/-- the exception at slot i -/
theorem Rep.putX (r : Rep K g F en σ H) {i : Nat} {a : Addr} (h : canPut en i = true) : Rep K { g with Rw := (i, a) :: g.Rw } F (en.set i .xs) (σ.set i (some (.ref a))) H ∧ ∀ k p, (k, p) ∈ g.Rw → k ≠ i := by
  obtain ⟨l1, l2⟩ := r.lt h
  have na := fun k j e => r.noAli (k := k) (j := j) h e
  have nrw : ∀ k p, (k, p) ∈ g.Rw → k ≠ i := fun k p hm w => by
    subst w
    obtain ⟨_, z2⟩ := r.rw k p hm
    unfold canPut at h
    rw [z2] at h
    cases h
  have eq1 : ∀ {k : Nat} {t : Sl}, (en.set i .xs)[k]? = some t → (k = i ∧ t = .xs) ∨ (k ≠ i ∧ en[k]? = some t) := fun {k t} e => by
    by_cases hk : k = i
    · subst hk
      rw [List.getElem?_set_self l1] at e
      exact .inl ⟨rfl, (Option.some.inj e).symm⟩
    · rw [List.getElem?_set_ne (Ne.symm hk)] at e
      exact .inr ⟨hk, e⟩
  have at2 : ∀ {k : Nat}, k ≠ i → (σ.set i (some (.ref a)))[k]? = σ[k]? := fun {k} hk => List.getElem?_set_ne (Ne.symm hk)
  refine ⟨⟨r.fz, r.fr, r.al, r.nw, by simpa using r.len, fun k d e => ?_, fun k b d e => ?_, fun k j e => ?_, fun k j b c d e' hne e1 e2 => ?_, fun k p hm => ?_, fun k p hm => ?_⟩, nrw⟩
  · rcases eq1 e with ⟨_, z⟩ | ⟨hk, z⟩
    · cases z
    · rw [at2 hk]; exact r.val k d z
  · rcases eq1 e with ⟨_, z⟩ | ⟨hk, z⟩
    · cases z
    · rw [at2 hk]; exact r.own k b d z
  · rcases eq1 e with ⟨_, z⟩ | ⟨hk, z⟩
    · cases z
    · obtain ⟨z1, b, d, z2⟩ := r.ali k j z
      have hj := na k j z
      exact ⟨by rw [at2 hk, at2 hj]; exact z1, b, d, by rw [List.getElem?_set_ne (Ne.symm hj)]; exact z2⟩
  · rcases eq1 e1 with ⟨_, z⟩ | ⟨hk, z⟩
    · cases z
    · rcases eq1 e2 with ⟨_, z2⟩ | ⟨hk2, z2⟩
      · cases z2
      · rw [at2 hk, at2 hk2]; exact r.sep k j b c d e' hne z z2
  · obtain ⟨z1, d, z2⟩ := r.pl k p hm
    have hk : k ≠ i := fun w => by
      subst w
      unfold canPut at h
      rw [z2] at h
      cases h
    exact ⟨by rw [at2 hk]; exact z1, d, by rw [List.getElem?_set_ne (Ne.symm hk)]; exact z2⟩
  · rcases List.mem_cons.mp hm with e | hm
    · cases e
      exact ⟨List.getElem?_set_self l2, List.getElem?_set_self l1⟩
    · obtain ⟨z1, z2⟩ := r.rw k p hm
      have hk := nrw k p hm
      exact ⟨by rw [at2 hk]; exact z1, by rw [List.getElem?_set_ne (Ne.symm hk)]; exact z2⟩
/-- it goes -/
theorem Rep.dropX {a : Addr} {i : Nat} (r : Rep K { g with Rw := (i, a) :: g.Rw } F en σ H) (nrw : ∀ k p, (k, p) ∈ g.Rw → k ≠ i) : Rep K g F (en.set i .un) (σ.set i none) H := by
  obtain ⟨hx1, hx2⟩ := r.rw i a List.mem_cons_self
  have l1 := (List.getElem?_eq_some_iff.mp hx2).1
  have eq1 : ∀ {k : Nat} {t : Sl}, (en.set i .un)[k]? = some t → (k = i ∧ t = .un) ∨ (k ≠ i ∧ en[k]? = some t) := fun {k t} e => by
    by_cases hk : k = i
    · subst hk
      rw [List.getElem?_set_self l1] at e
      exact .inl ⟨rfl, (Option.some.inj e).symm⟩
    · rw [List.getElem?_set_ne (Ne.symm hk)] at e
      exact .inr ⟨hk, e⟩
  have at2 : ∀ {k : Nat}, k ≠ i → (σ.set i none)[k]? = σ[k]? := fun {k} hk => List.getElem?_set_ne (Ne.symm hk)
  refine ⟨r.fz, r.fr, r.al, r.nw, by simpa using r.len, fun k d e => ?_, fun k b d e => ?_, fun k j e => ?_, fun k j b c d e' hne e1 e2 => ?_, fun k p hm => ?_, fun k p hm => ?_⟩
  · rcases eq1 e with ⟨_, z⟩ | ⟨hk, z⟩
    · cases z
    · rw [at2 hk]; exact r.val k d z
  · rcases eq1 e with ⟨_, z⟩ | ⟨hk, z⟩
    · cases z
    · rw [at2 hk]; exact r.own k b d z
  · rcases eq1 e with ⟨_, z⟩ | ⟨hk, z⟩
    · cases z
    · obtain ⟨z1, b, d, z2⟩ := r.ali k j z
      have hj : j ≠ i := fun w => by
        subst w
        rw [hx2] at z2
        cases z2
      exact ⟨by rw [at2 hk, at2 hj]; exact z1, b, d, by rw [List.getElem?_set_ne (Ne.symm hj)]; exact z2⟩
  · rcases eq1 e1 with ⟨_, z⟩ | ⟨hk, z⟩
    · cases z
    · rcases eq1 e2 with ⟨_, z2⟩ | ⟨hk2, z2⟩
      · cases z2
      · rw [at2 hk, at2 hk2]; exact r.sep k j b c d e' hne z z2
  · obtain ⟨z1, d, z2⟩ := r.pl k p hm
    have hk : k ≠ i := fun w => by
      subst w
      rw [hx2] at z2
      cases z2
    exact ⟨by rw [at2 hk]; exact z1, d, by rw [List.getElem?_set_ne (Ne.symm hk)]; exact z2⟩
  · obtain ⟨z1, z2⟩ := r.rw k p (List.mem_cons_of_mem _ hm)
    have hk := nrw k p hm
    exact ⟨by rw [at2 hk]; exact z1, by rw [List.getElem?_set_ne (Ne.symm hk)]; exact z2⟩
end

/-- a class of errors, as an except clause asks it -/
structure XCls (K : PySem.W.Frag) (mg : Str → Option Value) (x : Str) (C : Addr) : Prop where
  m : mg x = some (.ref C)
  exm : PySem.W.exmOne K (.ref C) (.ref C) = some true
  ask : ExcC K C
def bTry (nm : Str) (i : Nat) (body suite : Bd) : Bd := fun en => match body en with
  | .ex en1 x => if x.cls = nm ∧ x.fs = [] ∧ canPut en1 i = true then (match suite (en1.set i .xs) with
      | .nx e2 => .nx (e2.set i .un)
      | .rt e2 (.v d) => .rt (e2.set i .un) (.v d)
      | _ => .no) else .no
  | o => o
section
variable {X : Cx} {g : Gh} {Wh : WX} {x n : Str} {C : Addr} {i : Nat} {body suite : List Stmt} {b₀ : Stmt} {np pos pos' : Pos} {bb sb : Bd}
theorem ds_try (hs : X.stack = X.env :: X.outer) (hf : X.env.frame = some X.env.locals) (hN : X.N.Nodup) (hi : X.N[i]? = some n) (hln : X.env.kindOf n = some .local) (XC : XCls X.K X.mg x C) (hg : Gl X x) (hdb : (x == ("__debug__" : Str)) = false) (tk : Takes X Wh)
    (hb : ∀ (W : WX) (pn : List (Addr × Obj)) (xe : Value → Shared → Prop), Takes (X.tr pn xe) W → PassesOwn (model X.prog X.w) X.A X.env xe → DSs (X.tr pn xe) g (WH X.K X.mg W) body bb)
    (hsu : ∀ (a : Addr) (oe : Obj) (pn : List (Addr × Obj)) (g' : Gh), (i, a) ∈ g'.Rw → Zc (.ref C) none oe → (∃ vs, oe.data = .fields vs) → DSs (X.suite a ((a, oe) :: pn)) g' (W0 X.K X.mg) (b₀ :: suite) sb) :
    DS X g (WH X.K X.mg Wh) (.Try body [.ExceptHandler (some (.Name x np)) (some n) (b₀ :: suite) pos'] [] [] pos) (bTry x i bb sb) := by
  refine PS.imp (ps_try_as hs hf hN hi hln ⟨hg, hdb, .inl XC.m⟩ tk (tb := fun W => liftS X.K g (WH X.K X.mg W) bb) (ts := fun a cls d E σ H => cls = .ref C ∧ d = none ∧ liftS X.K { g with Rw := (i, a) :: g.Rw } (W0 X.K X.mg) sb E σ H) hb (fun a oe cls d pn hz hf => ⟨fun pins s σ H D I ⟨e1, e2, q⟩ => by
    subst e1 e2
    exact (hsu a oe pn _ List.mem_cons_self hz hf).run pins s σ H D I q⟩)) fun E σ H h => ?_
  obtain ⟨F, en, rp, f⟩ := h
  refine ⟨F, en, rp, ?_⟩
  unfold bTry at f
  cases e1 : bb en with
  | nx en1 => rw [e1] at f; exact f
  | rt en1 r => rw [e1] at f; exact f
  | bk en1 => rw [e1] at f; exact f
  | ct en1 => rw [e1] at f; exact f
  | no => rw [e1] at f; exact f
  | ex en1 xx =>
    rw [e1] at f
    dsimp only at f
    split at f
    · rename_i hc
      obtain ⟨h1, h2, h3⟩ := hc
      intro σ1 F1 H1 s1 r1 cls dx er
      obtain ⟨m1, m2⟩ := er
      have ec : cls = .ref C := by
        rw [h1, XC.m] at m1
        exact (Option.some.inj m1).symm
      subst ec
      have ed : dx = none := by
        rcases m2 with ⟨_, z⟩ | ⟨a, vs, z, _⟩
        · exact z
        · exact absurd h2 z
      subst ed
      refine ⟨true, XC.exm, fun _ a ha => ⟨rfl, rfl, ?_⟩, fun z => by cases z⟩
      obtain ⟨r2, nrw⟩ := r1.putX (a := a) h3
      refine ⟨F1, _, r2, ?_⟩
      cases e2 : sb (en1.set i .xs) with
      | nx e3 =>
        rw [e2] at f
        exact fun σ2 F2 H2 s2 r3 => f _ F2 H2 (s1.trans s2) (r3.dropX nrw)
      | rt e3 rr =>
        rw [e2] at f
        cases rr with
        | v d => exact fun v σ2 F2 H2 s2 r3 ro => f v _ F2 H2 (s1.trans s2) (r3.dropX nrw) ro
        | o d => exact f.elim
      | bk e3 => rw [e2] at f; exact f.elim
      | ct e3 => rw [e2] at f; exact f.elim
      | ex e3 x3 => rw [e2] at f; exact f.elim
      | no => rw [e2] at f; exact f.elim
    · exact f.elim
/-- isinstance(e, Y) of the exception that the suite holds -/
def xIsE (i : Nat) (b : Bool) : Ev := fun en => match en[i]? with
  | some .xs => .ok en (.d (.bool b))
  | _ => .no
theorem de_isE {a : Addr} {oe : Obj} {pn : List (Addr × Obj)} {W : XW} {y : Str} {C2 : Addr} {b : Bool} {p p1 p2 : Pos} (hm : (i, a) ∈ g.Rw) (XC : XCls X.K X.mg x C) (hz : Zc (.ref C) none oe) (hf : ∃ vs, oe.data = .fields vs) (hN : X.N[i]? = some n) (hv : Vis X.env.scope n) (hy : X.mg y = some (.ref C2)) (kit : PySem.W.kitOne X.K (.ref C) (.ref C2) = some b) (hg1 : Gl X "isinstance") (B : Bt X.mg) (hg2 : Gl X y)
    (hd : (n == ("__debug__" : Str)) = false := by decide) (hcd : (n == ("__classdict__" : Str)) = false := by decide) (hdy : (y == ("__debug__" : Str)) = false := by decide)
    (h1 : starEach [.Name n p1, .Name y p2] X.env = (false, eval (.Name n p1) X.env) :: starEach [.Name y p2] X.env := by rfl) (h2 : starEach [.Name y p2] X.env = (false, eval (.Name y p2) X.env) :: starEach [] X.env := by rfl)
    (hpl : (backTo pos (starEach [.Name y p2] X.env)).any (·.1) = false := by rfl) : DE (X.suite a ((a, oe) :: pn)) g W (.Call (.Name "isinstance" p) [.Name n p1, .Name y p2] [] pos) (xIsE i b) := by
  refine PE.imp (pe_callB (X := X.suite a ((a, oe) :: pn)) (call_isE XC.ask hz hf) hg1 B.isinstance PyProof.Rows.boot_isinstance (pa_cons (pe_var (X := X.suite a ((a, oe) :: pn)) hN hv hd hcd) (pa_cons (pe_glob (v := .ref C2) (X := X.suite a ((a, oe) :: pn)) hg2 hy rfl hdy) pa_nil h2) h1) (by decide) (by decide) h1 hpl) fun σ H Q h => ?_
  obtain ⟨F, en, rp, f⟩ := h
  obtain ⟨z1, z2⟩ := rp.rw i a hm
  unfold xIsE at f
  rw [z2] at f
  exact ⟨.ref a, z1, .ref C2, .ref C2, b, rfl, fun u r => r, kit, f F H (Same.refl _) rp _ (.bl b)⟩
end

/-! ### calls with keywords, in the parameters' order -/
section
variable {X : Cx} {g : Gh} {W : XW} {pos : Pos} {e : Expr} {es : List Expr} {fe : Ev} {av : Av} {kws : List Keyword}
def DK (X : Cx) (g : Gh) (W : XW) (kws : List Keyword) (f : Av) : Prop := PK X kws (liftA X.K g W f)
theorem PK.imp {X : Cx} {es : List Keyword} {t t' : TA} (h : PK X es t) (i : ∀ σ H Q, t' σ H Q → t σ H Q) : PK X es t' := ⟨fun pos pins s σ H Q I q => h.run pos pins s σ H Q I (i σ H Q q)⟩
theorem dk_nil : DK X g W [] aNil := PK.imp pk_nil fun σ H Q h => by
  obtain ⟨F, en, rp, f⟩ := h
  exact f F H (Same.refl _) rp [] trivial
theorem dk_cons {nm : Option Str} {kpos : Pos} (ha : DE X g W e fe) (hr : DK X g W kws av) : DK X g W (⟨nm, e, kpos⟩ :: kws) (aCons fe av) := PK.imp (pk_cons ha hr) fun σ H Q h => by
  obtain ⟨F, en, rp, f⟩ := h
  refine ⟨F, en, rp, (Fin.seq f).mono fun F1 H1 en1 x s1 r1 f1 v hv => ⟨F1, en1, r1, (Fin.seq f1).mono fun F2 H2 en2 xs s2 r2 f2 vs hvs => ?_⟩⟩
  exact f2 F2 H2 (Same.refl _) r2 (v :: vs) ⟨RvOk.mono s2 hv, hvs⟩
/-- positional ones, then the keywords' -/
def aPlus (a b : Av) : Av := fun en => (a en).bind fun en1 xs => (b en1).bind fun en2 ys => .ok en2 (xs ++ ys)
end
theorem RvAll.append {K : PySem.W.Frag} {F : Hp} {σ : St} : ∀ {vs us : List V} {xs ys : List Rv}, RvAll K F σ vs xs → RvAll K F σ us ys → RvAll K F σ (vs ++ us) (xs ++ ys)
  | [], _, [], _, _, h => h
  | _ :: vs, us, _ :: xs, ys, h, k => ⟨h.1, RvAll.append h.2 k⟩
  | [], _, _ :: _, _, h, _ => h.elim
  | _ :: _, _, [], _, h, _ => h.elim
/-- f(a, .., k = b, ..), m positional ones -/
structure KwOk (K : PySem.W.Frag) (fd : FuncData) (ps ks : List Str) (m : Nat) : Prop where
  to : ∀ (s : Shared) (us ws : List Value), K.In s.heap → us.length = m → ws.length = ks.length → us.length + ws.length = ps.length → BindsTo s fd ⟨us, ks.zip ws⟩ (ps.zip (us ++ ws))
structure CalleeK (P : Program) (w : World) (K : PySem.W.Frag) (mg : Str → Option Value) (base : Heap) (x : Str) (ks : List Str) (m k : Nat) (fs : Fs) : Prop where
  ex : ∃ (f : Addr) (fd : FuncData) (ps : List Str), mg x = some (.ref f) ∧ FnOk P w K mg base (L2.CX P w) k f fd ps (spF K mg fs) ∧ PySem.W.keepIn K (.ref f) = true ∧ KwOk K fd ps ks m ∧ ps.length = m + ks.length
def dCallK (fs : Fs) (bs : List Bool) (m n : Nat) (a b : Av) : Ev := fun en => (a en).bind fun en1 xs => (b en1).bind fun en2 ys => if xs.length = m ∧ ys.length = n then callR fs bs en2 (xs ++ ys) (fun en3 r => match r with
  | .v d => .ok en3 (.d d)
  | .o _ => .no) else .no
theorem RvAll.length {K : PySem.W.Frag} {F : Hp} {σ : St} : ∀ {vs : List V} {xs : List Rv}, RvAll K F σ vs xs → vs.length = xs.length
  | [], [], _ => rfl
  | _ :: vs, _ :: xs, h => congrArg (· + 1) (RvAll.length h.2)
  | [], _ :: _, h => h.elim
  | _ :: _, [], h => h.elim
theorem FnOk.runS {X : Cx} {k : Nat} {f : Addr} {fd : FuncData} {ps ks : List Str} {m : Nat} {sp : Sp} {E : XK} {pins : List (Addr × Obj)} {σ : St} {H : Hp} {s : Shared} {Q : VK} {us ws : List Value} {vs zs : List V} (F : FnOk X.prog X.w X.K X.mg X.base (L2.CX X.prog X.w) k f fd ps sp) (hr : Room k X.A) (hb : KwOk X.K fd ps ks m) (hx : PassesAt (L2.CX X.prog X.w) X σ E)
    (I : Inv X pins σ H s) (r : Vals vs us) (rz : Vals zs ws) (l1 : us.length = m) (l2 : ws.length = ks.length) (h : sp (vs ++ zs) H Q E) : wpAny (model X.prog X.w) X.A (call (.ref f) us (ks.zip ws)) (EP X pins σ Q) X.xe s := by
  have r2 := r.append rz
  have hl := F.len _ _ _ _ h
  have q1 := r.length
  have q2 := rz.length
  rw [List.length_append] at hl
  refine wpAny_call (codeAny_mono (F.run X.A X.stack s H ⟨us, ks.zip ws⟩ (us ++ ws) (vs ++ zs) Q E hr I.env0 (hb.to s us ws I.kIn l1 l2 (by omega)) r2 h) fun r s' hq => ?_)
  match r, hq with
  | .error e, hq => exact hx pins H s e s' I hq
  | .ok (.ret u), hq => exact I.after hq
  | .ok .next, hq => exact False.elim hq
  | .ok .brk, hq => exact False.elim hq
  | .ok .cont, hq => exact False.elim hq
section
variable {X : Cx} {g : Gh} {Wh : WX} {pos p : Pos} {a : Expr} {es : List Expr} {kws : List Keyword} {av bv : Av} {fs : Fs} {x : Str} {ks : List Str} {m j k : Nat}
theorem de_callK (bs : List Bool) (C : CalleeK X.prog X.w X.K X.mg X.base x ks m j fs) (hr : Room k X.A) (tk : Takes X Wh) (ha : DA X g (WH X.K X.mg Wh) (a :: es) av) (hk : DK X g (WH X.K X.mg Wh) kws bv) (hj : j ≤ k := by first | decide | exact Nat.le_refl _ | omega) (hg : Gl X x := by rfl)
    (hall : (backToKw pos (keywordEach kws X.env)).all (·.1.isSome) = true := by rfl) (hks : (backToKw pos (keywordEach kws X.env)).filterMap (·.1) = ks := by rfl)
    (hdb : (x == ("__debug__" : Str)) = false := by decide) (he : starEach (a :: es) X.env = (false, eval a X.env) :: starEach es X.env := by rfl)
    (hpl : ((backTo pos (starEach (a :: es) X.env)).any (·.1) || (backToKw pos (keywordEach kws X.env)).any (·.1.isNone)) = false := by rfl) :
    DE X g (WH X.K X.mg Wh) (.Call (.Name x p) (a :: es) kws pos) (dCallK fs bs m ks.length av bv) := by
  obtain ⟨f, fd, ps, hm, F, kp, kb, lp⟩ := C.ex
  refine ⟨fun pins s σ H Q I h => ?_⟩
  refine wpAny_Call_Name_kw (ld_glob I hg hm ?_ hdb)
  obtain ⟨F0, en, rp, f0⟩ := h
  have A1 := ha.run pos pins s σ H (fun vs H1 => ∃ F1 en1 xs, Rep X.K g F1 en1 σ H1 ∧ RvAll X.K F1 σ vs xs ∧ Fin X.K g (WH X.K X.mg Wh) σ F1 ((bv en1).bind fun en2 ys => if xs.length = m ∧ ys.length = ks.length then callR fs bs en2 (xs ++ ys) (fun en3 r => match r with
      | .v d => Rs.ok en3 (Rv.d d)
      | .o _ => .no) else .no) fun F' H' _ r => ∀ v, RvOk X.K F' σ v r → Q v H') I ⟨F0, en, rp, (Fin.seq f0).mono fun F1 H1 en1 xs s1 r1 f1 vs hvs => ⟨F1, en1, xs, r1, hvs, f1⟩⟩
  refine PySem.W.callWith_KW (h₀ := X.base) I.ok.mod.kin kp hall (thn A1 fun us s1 ⟨vs, H1, I1, r, F1, en1, xs, r1, hvs, f1⟩ => ?_) hpl he
  have A2 := hk.run pos pins s1 σ H1 (fun zs H2 => ∃ F2 en2 ys, Same F1 F2 ∧ Rep X.K g F2 en2 σ H2 ∧ RvAll X.K F2 σ zs ys ∧ Fin X.K g (WH X.K X.mg Wh) σ F2 (if xs.length = m ∧ ys.length = ks.length then callR fs bs en2 (xs ++ ys) (fun en3 r => match r with
      | .v d => Rs.ok en3 (Rv.d d)
      | .o _ => .no) else .no) fun F' H' _ r => ∀ v, RvOk X.K F' σ v r → Q v H') I1 ⟨F1, en1, r1, (Fin.seq f1).mono fun F2 H2 en2 ys s2 r2 f2 zs hzs => ⟨F2, en2, ys, s2, r2, hzs, f2⟩⟩
  refine thn A2 fun ws s2 ⟨zs, H2, I2, rz, F2, en2, ys, s12, r2, hzs, f2⟩ => ⟨I2.kIn, ?_⟩
  rw [hks]
  split at f2
  · rename_i hl
    refine FnOk.runS F (hr.mono hj) kb (passAt tk σ) I2 r rz (by show us.length = m; rw [← r.length, hvs.length]; exact hl.1) (by rw [← rz.length, hzs.length]; exact hl.2) ?_
    exact call_sp r2 (RvAll.append (hvs.mono s12) hzs) f2 fun en' r => by
      cases r with
      | v d => exact .inl ⟨d, rfl, rfl⟩
      | o d => exact .inr rfl
  · exact f2.elim
end
end DL
/-! Dset: sorted(set(a list of ints)). -/
namespace DL
open PySem PySem.Spec L2
open PyProof.Rows hiding St

/-- an empty set, just made -/
abbrev eSet (w : World) : Obj := { cls := .type "set", dict := none, data := .set #[] 0 (.fresh 0 0 (!w.params.followText "set-order")) }
section
variable {P : Program} {w : World} {A : Around} {E : Value → Shared → Prop} {s : Shared}
/-- what set.__init__ has made of a list of ints -/
def MadeSet (w : World) (s : Shared) (ns : List Int) (r : Value) (s₂ : Shared) : Prop := r = .none ∧ ∃ (h' : Heap) (tk c : Nat), s₂ = { s with heap := h', toks := tk } ∧ SetR w h' s.heap.objs.size (fun j => decide (j ∈ ns)) c ∧ c ≤ ns.length ∧ ∀ b o, s.heap.get? b = some o → h'.get? b = some o
set_option maxHeartbeats 4000000 in
theorem set_of_list {l : Addr} {items : Array Value} (ns : List Int) {Q : Value → Shared → Prop} (hh : A.handled = none) (hl : s.heap.IsList l items) (hit : IntsAre items.toList ns) (hb : ns.length + 1 < scanBound)
    (q : ∀ (h' : Heap) (tk c : Nat), SetR w h' s.heap.objs.size (fun j => decide (j ∈ ns)) c → c ≤ ns.length → (∀ b o, s.heap.get? b = some o → h'.get? b = some o) → Q (.ref s.heap.objs.size) { s with heap := h', toks := tk }) : wpAny (model P w) A (call (.type "set") [.ref l]) Q E s := by
  have hisz : items.size = ns.length := by have z := IntsAre.length hit; rw [Array.length_toList] at z; exact z
  obtain ⟨c0, tl0, hmro0⟩ := F.called_set.mro
  have made0 := F.called_set.made
  have sub0 := F.called_set.sub
  refine wpAny_call (codeAny_of_tree ?_)
  show wpAny _ _ (callAny (.type "set") _) _ _ _
  refine wpAny_pure ⟨Code.quiet_builtin _ (by decide +kernel), codeAny_builtin F.entry_type_call ?_⟩
  rw [Around.under_plain (weight_type_call_type "set" [.ref l] []) rfl]
  have nt0 := F.called_set.notType
  have cc0 := F.called_set.canCreate
  have tc0 := F.typeCall_set_1 (.ref l)
  repeat (any_goals (first | assumption | wp_step))
  refine codeAny_mono (code_set_led1 (.ref l) (E := E) (Q₁ := fun obj s₁ => obj = .ref s.heap.objs.size ∧ s₁ = { s with heap := s.heap.push (eSet w) }) ⟨rfl, rfl⟩) fun r s₁ hr => ?_
  match r, hr with
  | .error e, hr => exact hr
  | .ok .next, hr => exact hr.elim
  | .ok .brk, hr => exact hr.elim
  | .ok .cont, hr => exact hr.elim
  | .ok (.ret obj), hr =>
    obtain ⟨rfl, rfl⟩ := hr
    have hS : (s.heap.push (eSet w)).get? s.heap.objs.size = some (eSet w) := Heap.get?_push_size _ rfl
    have hT : Shared.TypeIs { s with heap := s.heap.push (eSet w) } (.ref s.heap.objs.size) "set" := ⟨_, hS, rfl⟩
    have li0 := F.called_set.init.lookup
    have bi0 := F.called_set.init.bind (.ref s.heap.objs.size)
    repeat (any_goals (first | assumption | wp_step))
    refine codeAny_mono (codeAny_call_builtin (R := wants (MadeSet w s ns) E) F.called_set.init.plain F.entry_set_init (check_set_init_1 hT ?_)) fun r₂ s₂ hr₂ => ?_
    · obtain ⟨ol, hol, hcl, nl, hdl⟩ := hl
      obtain ⟨ocls, odict, odata, oslots⟩ := ol
      simp only at hcl hdl
      subst hcl hdl
      have hol' : (s.heap.push (eSet w)).get? l = some { cls := .type "list", dict := odict, data := .seq items nl, slots := oslots } := Heap.get?_push_of_some _ hol
      have ls0 := F.sub_list_set
      have lf0 := F.sub_list_frozenset
      have ne0 : (Value.type "list" == Value.type "dict") = false := by decide
      have hl1 : (s.heap.push (eSet w)).IsList l items := ⟨_, hol', rfl, nl, rfl⟩
      unfold Builtin.«set.__init__» noKeywords Builtin.Frozenset.updateFrom
      generalize hPI : pyIter = PI
      wp_walk
      subst hPI
      refine wpAny_pyIter_list hl1 ?_
      refine wpAny_bind (wpAny_runValue ?_)
      have lS : l < s.heap.objs.size := Heap.lt_size hol
      have hd0 : A.in1.in1.in1.handled = none := by simp [hh]
      have neI : l ≠ (s.heap.push (eSet w)).objs.size := by rw [Heap.size_push]; exact Nat.ne_of_lt (Nat.lt_succ_of_lt lS)
      have Sf : s.heap.objs.size ∉ [(s.heap.push (eSet w)).objs.size, l] := by
        rw [Heap.size_push]
        simp only [List.mem_cons, List.mem_singleton, List.not_mem_nil, or_false, not_or]
        exact ⟨Nat.ne_of_lt (Nat.lt_succ_self _), Nat.ne_of_gt lS⟩
      have val0 : ∀ (i : Nat) (v : Value), items[i]? = some v → ∃ k t, ns[i]? = some k ∧ v = .int k t := fun i v hv => by
        have hi : i < ns.length := by rw [← hisz]; exact (Array.getElem?_eq_some_iff.mp hv).1
        obtain ⟨t, e⟩ := PyProof.Rows.IntsAre.int_at hit i v (by rw [Array.getElem?_toList]; exact hv)
        exact ⟨ns[i], t, List.getElem?_eq_getElem hi, by rw [e, List.getD_eq_getElem?_getD, List.getElem?_eq_getElem hi]; rfl⟩
      refine set_update_ints ((Walks.list hd0 _ l neI items).toS) s.heap.objs.size Sf ns hisz hb val0 (items.size - 0) 0 _ (by omega) (Nat.zero_le _) ⟨⟨_, Heap.get?_push_size _ rfl, rfl, rfl⟩, (hl1.push _)⟩ ?hS0 ?hR
      case hS0 => exact ⟨0, Nat.le_refl 0, setR_new_at (Heap.get?_push_of_some _ hS)⟩
      case hR =>
        intro s' c' hm hc' hS'
        obtain ⟨h', g2, d', tk', os'⟩ := s'
        have eg : g2 = s.gens := hm.gens
        have ed : d' = s.drawn := hm.drawn
        have eo : os' = s.os := hm.os
        subst eg ed eo
        show wpAny _ _ _ _ _ _
        refine wpAny_pure ?_
        show wpAny _ _ (ret Value.none) _ _ _
        rw [hisz] at hc'
        refine wpAny_pure ⟨rfl, h', tk', c', rfl, hS', hc', fun b o e => ?_⟩
        have b0 : b < s.heap.objs.size := Heap.lt_size e
        have b1 : b ≠ s.heap.objs.size := Nat.ne_of_lt b0
        have b2 : b ≠ (s.heap.push (eSet w)).objs.size := by rw [Heap.size_push]; exact Nat.ne_of_lt (Nat.lt_succ_of_lt b0)
        refine hm.heap b o ?_ (Heap.get?_push_of_some _ (Heap.get?_push_of_some _ e))
        simp only [List.mem_cons, List.mem_singleton, List.not_mem_nil, or_false, not_or]
        exact ⟨b1, b2⟩
    · match r₂, hr₂ with
      | .error e, hr₂ => exact hr₂
      | .ok .next, hr₂ => exact hr₂.elim
      | .ok .brk, hr₂ => exact hr₂.elim
      | .ok .cont, hr₂ => exact hr₂.elim
      | .ok (.ret r), hr₂ =>
        obtain ⟨rfl, h', tk, c', rfl, hS', hc', hk'⟩ := hr₂
        repeat (any_goals (first | assumption | wp_step))
        exact q _ _ _ hS' hc' hk'
end
end DL
/-! Dset2: sorted(set(..)) by data. -/
namespace DL
open PySem PySem.Spec L2
open PyProof.Rows hiding St

def insU (x : Int) : List Int → List Int
  | [] => [x]
  | y :: r => if x < y then x :: y :: r else if x = y then y :: r else y :: insU x r
/-- the different ones, ascending -/
def uniq (ns : List Int) : List Int := ns.foldr insU []
theorem insU_mem {x k : Int} : ∀ {l : List Int}, k ∈ insU x l ↔ k = x ∨ k ∈ l
  | [] => by simp [insU]
  | y :: r => by
    unfold insU
    split
    · simp
    · split
      · rename_i h
        subst h
        simp
      · simp only [List.mem_cons, insU_mem (l := r)]
        constructor
        · rintro (h | h | h)
          · exact .inr (.inl h)
          · exact .inl h
          · exact .inr (.inr h)
        · rintro (h | h | h)
          · exact .inr (.inl h)
          · exact .inl h
          · exact .inr (.inr h)
theorem insU_lt {x : Int} : ∀ {l : List Int}, l.Pairwise (· < ·) → (insU x l).Pairwise (· < ·)
  | [], _ => by simp [insU]
  | y :: r, h => by
    obtain ⟨h1, h2⟩ := List.pairwise_cons.mp h
    unfold insU
    split
    · rename_i hx
      refine List.pairwise_cons.mpr ⟨fun z hz => ?_, h⟩
      rcases List.mem_cons.mp hz with rfl | hz
      · exact hx
      · exact Int.lt_trans hx (h1 z hz)
    · split
      · exact h
      · refine List.pairwise_cons.mpr ⟨fun z hz => ?_, insU_lt h2⟩
        rcases insU_mem.mp hz with rfl | hz
        · omega
        · exact h1 z hz
theorem uniq_mem {k : Int} : ∀ {ns : List Int}, k ∈ uniq ns ↔ k ∈ ns
  | [] => by simp [uniq]
  | n :: r => by
    show k ∈ insU n (uniq r) ↔ _
    rw [insU_mem, uniq_mem (ns := r), List.mem_cons]
theorem uniq_lt : ∀ ns : List Int, (uniq ns).Pairwise (· < ·)
  | [] => List.Pairwise.nil
  | n :: r => insU_lt (uniq_lt r)
theorem lt_unique : ∀ {a b : List Int}, a.Pairwise (· < ·) → b.Pairwise (· < ·) → (∀ k, k ∈ a ↔ k ∈ b) → a = b
  | [], [], _, _, _ => rfl
  | [], y :: b, _, _, h => by
    have := (h y).mpr List.mem_cons_self
    cases this
  | x :: a, [], _, _, h => by
    have := (h x).mp List.mem_cons_self
    cases this
  | x :: a, y :: b, ha, hb, h => by
    obtain ⟨a1, a2⟩ := List.pairwise_cons.mp ha
    obtain ⟨b1, b2⟩ := List.pairwise_cons.mp hb
    have e : x = y := by
      rcases List.mem_cons.mp ((h x).mp List.mem_cons_self) with e | e
      · exact e
      · rcases List.mem_cons.mp ((h y).mpr List.mem_cons_self) with e2 | e2
        · exact e2.symm
        · have := b1 x e
          have := a1 y e2
          omega
    subst e
    rw [lt_unique a2 b2 fun k => ?_]
    constructor
    · intro hk
      rcases List.mem_cons.mp ((h k).mp (List.mem_cons_of_mem _ hk)) with e | e
      · have := a1 k hk
        omega
      · exact e
    · intro hk
      rcases List.mem_cons.mp ((h k).mpr (List.mem_cons_of_mem _ hk)) with e | e
      · have := b1 k hk
        omega
      · exact e
def rSetI (K : PySem.W.Frag) (w : World) : List V → Hp → VK → Prop := fun xs H Q => ∃ (a : Addr) (ns : List Int), xs = [.ref a] ∧ SqL K H a (ns.map V.int) ∧ ns.length + 1 < scanBound ∧
  ∀ p c, c ≤ ns.length → H p = none → Q (.ref p) (upd H p (SetO w p (fun j => decide (j ∈ ns)) c))
section
variable {X : Cx}
theorem cr_setI (hc : X.calm = true) : CallR X (.type "set") (rSetI X.K X.w) := by
  intro pins s σ H xs us Q I r h
  obtain ⟨a, ns, rfl, hs, hb, q⟩ := h
  obtain ⟨u, rfl, rx⟩ := vals1 r
  cases rx
  obtain ⟨its, rv, hl, hz⟩ := I.list hs
  refine set_of_list ns (I.ok.hd hc) hl.isList (by simpa using rv.ints) hb fun h' tk c R hc' kp => ?_
  exact ⟨.ref s.heap.objs.size, _, I.laid (t' := tk) kp (Nat.le_refl _) (setO_new R), rfl, q _ c hc' (I.hok.fresh (Nat.le_refl _))⟩
/-- sorted(set(e)) -/
def sUniq : D → Option D
  | .list ds => match intsD ds with
    | some ns => if ns.length < 64 then some (.list ((uniq ns).map .int)) else none
    | none => none
  | _ => none
variable {g : Gh} {W : XW} {e : Expr} {f : Ev} {p p2 pos pos2 : Pos}
theorem de_sortedSet (hc : X.calm = true) (B : Bt X.mg) (he : DE X g W e f) (hg : Gl X "sorted" := by rfl) (hg2 : Gl X "set" := by rfl)
    (h1 : starEach [.Call (.Name "set" p2) [e] [] pos2] X.env = (false, eval (.Call (.Name "set" p2) [e] [] pos2) X.env) :: starEach [] X.env := by rfl) (h2 : starEach [e] X.env = (false, eval e X.env) :: starEach [] X.env := by rfl)
    (hpl : (backTo pos (starEach [] X.env)).any (·.1) = false := by rfl) (hpl2 : (backTo pos2 (starEach [] X.env)).any (·.1) = false := by rfl) :
    DE X g W (.Call (.Name "sorted" p) [.Call (.Name "set" p2) [e] [] pos2] [] pos) (dUn sUniq f) := by
  refine PE.imp (pe_callB (cr_sortedSet hc) hg B.sorted PyProof.Rows.boot_sorted (pa_cons (pe_callTy (cr_setI hc) hg2 B.set (by decide +kernel) (pa_cons he pa_nil h2) (by decide) (by decide) h2 hpl2) pa_nil h1) (by decide) (by decide) h1 hpl) fun σ H Q h => ?_
  obtain ⟨F, en, rp, f⟩ := h
  refine ⟨F, en, rp, (Fin.seq f).mono fun F1 H1 en1 x s1 r1 f1 v hv => ?_⟩
  refine of_op1 (en := en1) (x := x) (fun e => by rw [e] at f1; exact f1.elim) fun d c e1 e3 e4 => ?_
  unfold sUniq at e3
  split at e3
  · split at e3
    · rename_i ns en
      split at e3
      · rename_i hl
        cases e3
        obtain ⟨a, xs, rfl, q1, al⟩ := vw_lst r1.fz (r1.view hv e1)
        rw [intsD_eq en] at al
        have := vals_ints_of al
        subst this
        refine ⟨a, ns, rfl, .inl (.inl q1), by unfold scanBound; omega, fun p c hc hp => ?_⟩
        have x1 := Ext.put r1.fz hp (SetO X.w p (fun j => decide (j ∈ ns)) c)
        refine ⟨p, _, c, rfl, upd_same, by omega, fun ms p' hm hk hlen hp' => ?_⟩
        have e5 : ms = uniq ns := lt_unique hm (uniq_lt ns) fun k => by
          rw [hk k, uniq_mem, decide_eq_true_iff]
        subst e5
        have x2 := Ext.put x1.sub hp' (.lst ((uniq ns).map V.int))
        exact (fin1 r1 e4 f1) _ _ _ (x1.trans x2) (.lst upd_same (DvAll.ints _))
      · cases e3
    · cases e3
  · cases e3
end
end DL
/-! Dl16: the last short names. -/
namespace DL
open PySem PySem.Spec L2
open PyProof.Rows hiding St
theorem Fun.kw {K : PySem.W.Frag} {x qual : Str} {st : Stmt} {f : Addr} {fd : FuncData} {ps ks : List Str} {m : Nat} (F : Fun K x qual st f fd)
    (h : ∀ (kV doc pm : Value) (an : Option Addr) (cdv ct : Value) (us ws : List Value), us.length = m → ws.length = ks.length → bindArgs (PySem.W.fnOf x qual (defArgs st) (defBody st) (defScope st) .none kV doc pm an cdv ct) ⟨us, ks.zip ws⟩ = pure (ps.zip (us ++ ws))) : KwOk K fd ps ks m := by
  obtain ⟨oc, od, kV, doc, pm, an, cdv, ct, osl, rfl, lk, hcd⟩ := F.ex
  exact ⟨fun s us ws _ h1 h2 _ => .of_eq (h kV doc pm an cdv ct us ws h1 h2)⟩
theorem CalleeK.of {P : Program} {w : World} {K : PySem.W.Frag} {mg : Str → Option Value} {base : Heap} {x qual : Str} {st : Stmt} {f : Addr} {fd : FuncData} {ps ks : List Str} {m k : Nat} {fs : Fs} (F : Fun K x qual st f fd) (hm : mg x = some (.ref f)) (h : FnOk P w K mg base (L2.CX P w) k f fd ps (spF K mg fs)) (hk : KwOk K fd ps ks m) (hl : ps.length = m + ks.length) : CalleeK P w K mg base x ks m k fs := ⟨f, fd, ps, hm, h, F.kp, hk, hl⟩
end DL
/-! Dm1: running meanings: what a result keeps. -/
namespace DL
open PySem PySem.Spec L2
open PyProof.Rows hiding St

def RsP {α : Type} (r : Rs α) (P : En → α → Prop) (E : En → Ex → Prop) : Prop := match r with
  | .ok en a => P en a
  | .ex en x => E en x
  | .no => False
def OutP (o : Out) (N : En → Prop) (R : En → Rr → Prop) (E : En → Ex → Prop) : Prop := match o with
  | .nx en => N en
  | .rt en r => R en r
  | .ex en x => E en x
  | _ => False
def RfP (r : Rf) (P : Rr → List D → Prop) (E : Ex → List D → Prop) : Prop := match r with
  | .ok r os => P r os
  | .ex x os => E x os
  | .no => False
section
variable {α β : Type} {P P' : En → α → Prop} {E E' : En → Ex → Prop} {N N' : En → Prop} {R R' : En → Rr → Prop}
@[simp] theorem RsP_ok {en : En} {a : α} : RsP (.ok en a) P E = P en a := rfl
@[simp] theorem RsP_ex {en : En} {x : Ex} : RsP (.ex en x) P E = E en x := rfl
@[simp] theorem RsP_no : RsP (.no : Rs α) P E = False := rfl
@[simp] theorem OutP_nx {en : En} : OutP (.nx en) N R E = N en := rfl
@[simp] theorem OutP_rt {en : En} {r : Rr} : OutP (.rt en r) N R E = R en r := rfl
@[simp] theorem OutP_ex {en : En} {x : Ex} : OutP (.ex en x) N R E = E en x := rfl
@[simp] theorem OutP_no : OutP .no N R E = False := rfl
@[simp] theorem RsP_bind {r : Rs β} {k : En → β → Rs α} : RsP (r.bind k) P E = RsP r (fun en a => RsP (k en a) P E) E := by cases r <;> rfl
@[simp] theorem OutP_out {r : Rs α} {k : En → α → Out} : OutP (r.out k) N R E = RsP r (fun en a => OutP (k en a) N R E) E := by cases r <;> rfl
@[simp] theorem OutP_next {o : Out} {k : En → Out} : OutP (o.next k) N R E = OutP o (fun en => OutP (k en) N R E) R E := by cases o <;> rfl
theorem RsP.mono {r : Rs α} (h : RsP r P E) (p : ∀ en a, P en a → P' en a) (e : ∀ en x, E en x → E' en x) : RsP r P' E' := by
  cases r with
  | ok en a => exact p en a h
  | ex en x => exact e en x h
  | no => exact h
theorem OutP.mono {o : Out} (h : OutP o N R E) (n : ∀ en, N en → N' en) (r : ∀ en x, R en x → R' en x) (e : ∀ en x, E en x → E' en x) : OutP o N' R' E' := by
  cases o with
  | nx en => exact n en h
  | rt en x => exact r en x h
  | ex en x => exact e en x h
  | _ => exact h
theorem RfP.mono {r : Rf} {P P' : Rr → List D → Prop} {E E' : Ex → List D → Prop} (h : RfP r P E) (p : ∀ x os, P x os → P' x os) (e : ∀ x os, E x os → E' x os) : RfP r P' E' := by
  cases r with
  | ok x os => exact p x os h
  | ex x os => exact e x os h
  | no => exact h
/-- the worth of a def that never raises -/
theorem RfP.ok {r : Rf} {P : Rr → List D → Prop} (h : RfP r P fun _ _ => False) : ∃ x os, r = .ok x os ∧ P x os := by
  cases r with
  | ok x os => exact ⟨x, os, rfl, h⟩
  | ex x os => exact h.elim
  | no => exact h.elim
end
/-- a call -/
@[simp] theorem RsP_call {α : Type} {fs : Fs} {bs : List Bool} {en : En} {rs : List Rv} {k : En → Rr → Rs α} {P : En → α → Prop} {E : En → Ex → Prop} : RsP (callR fs bs en rs k) P E = match argsFor en bs rs with
    | some (as, is) => is.Nodup ∧ RfP (fs as) (fun r os => match setOuts en is os with
      | some en' => RsP (k en' r) P E
      | none => False) (fun x os => match setOuts en is os with
      | some en' => E en' x
      | none => False)
    | none => False := by
  unfold callR
  cases argsFor en bs rs with
  | none => rfl
  | some p =>
    obtain ⟨as, is⟩ := p
    dsimp only
    by_cases h : is.Nodup
    · rw [if_pos h]
      cases fs as with
      | ok r os =>
        dsimp only [RfP]
        cases setOuts en is os with
        | none => simp
        | some e => simp [h]
      | ex x os =>
        dsimp only [RfP]
        cases setOuts en is os with
        | none => simp
        | some e => simp [h]
      | no => simp [RfP]
    · rw [if_neg h]
      simp [h]
theorem RfP_run {m n : Nat} {b : Bd} {as : List Ar} {P : Rr → List D → Prop} {E : Ex → List D → Prop} (hl : as.length = m) (h : OutP (b (startEn n as)) (fun en => match outsOf en 0 as with
      | some os => P (.v .none) os
      | none => False) (fun en r => match outsOf en 0 as with
      | some os => P r os
      | none => False) (fun en x => match outsOf en 0 as with
      | some os => E x os
      | none => False)) : RfP (runFn m n b as) P E := by
  unfold runFn
  rw [if_pos hl]
  unfold endFn
  cases q : b (startEn n as) with
  | nx en =>
    rw [q] at h
    simp only [OutP_nx] at h
    dsimp only
    cases e : outsOf en 0 as with
    | some os => rw [e] at h; exact h
    | none => rw [e] at h; exact h.elim
  | rt en r =>
    rw [q] at h
    simp only [OutP_rt] at h
    dsimp only
    cases e : outsOf en 0 as with
    | some os => rw [e] at h; exact h
    | none => rw [e] at h; exact h.elim
  | ex en x =>
    rw [q] at h
    simp only [OutP_ex] at h
    dsimp only
    cases e : outsOf en 0 as with
    | some os => rw [e] at h; exact h
    | none => rw [e] at h; exact h.elim
  | bk en => rw [q] at h; exact h.elim
  | ct en => rw [q] at h; exact h.elim
  | no => rw [q] at h; exact h.elim

/-! ### options -/
def OpP {α : Type} (o : Option α) (P : α → Prop) : Prop := match o with
  | some a => P a
  | none => False
@[simp] theorem OpP_some {α : Type} {a : α} {P : α → Prop} : OpP (some a) P = P a := rfl
@[simp] theorem OpP_none {α : Type} {P : α → Prop} : OpP none P = False := rfl
@[simp] theorem OpP_ite {α : Type} {c : Prop} [Decidable c] {a : α} {P : α → Prop} : OpP (if c then some a else none) P = (c ∧ P a) := by
  by_cases h : c <;> simp [h]
@[simp] theorem OpP_map {α β : Type} {f : α → β} {o : Option α} {P : β → Prop} : OpP (o.map f) P = OpP o fun a => P (f a) := by cases o <;> rfl
theorem OpP.ex {α : Type} {o : Option α} {P : α → Prop} (h : OpP o P) : ∃ a, o = some a ∧ P a := by
  cases o with
  | none => exact h.elim
  | some a => exact ⟨a, rfl, h⟩
section
variable {α : Type} {en : En} {i j : Nat} {d e : D} {b : Bool}
@[simp] theorem slD_eq : slD en i = match en[i]? with
  | some (.own _ d) => some d
  | _ => none := rfl
def VarP (en : En) (i : Nat) (s : Option Sl) (P : En → Rv → Prop) : Prop := match s with
  | some (.val d) => P en (.d d)
  | some (.own _ _) => P en (.s i)
  | some (.ali j) => P en (.s j)
  | _ => False
variable {P : En → Rv → Prop} {E : En → Ex → Prop} {N : En → Prop} {R : En → Rr → Prop} {PB : En → Bool → Prop} {PA : En → List Rv → Prop} {PD : En → D → Prop} {PI : En → List D → Prop}
@[simp] theorem VarP_val : VarP en i (some (.val d)) P = P en (.d d) := rfl
@[simp] theorem VarP_own : VarP en i (some (.own b d)) P = P en (.s i) := rfl
@[simp] theorem VarP_ali : VarP en i (some (.ali j)) P = P en (.s j) := rfl
@[simp] theorem RsP_var : RsP (dVar i en) P E = VarP en i en[i]? P := by
  unfold dVar
  cases q : en[i]? with
  | none => rfl
  | some s => cases s <;> rfl
def VarF (en : En) (i : Nat) (s : Option Sl) (P : En → Rv → Prop) : Prop := match s with
  | some (.val d) => P en (.d d)
  | some (.own false d) => canPut en i = true ∧ P (en.set i (.val d)) (.d d)
  | _ => False
@[simp] theorem VarF_val : VarF en i (some (.val d)) P = P en (.d d) := rfl
@[simp] theorem VarF_own : VarF en i (some (.own false d)) P = (canPut en i = true ∧ P (en.set i (.val d)) (.d d)) := rfl
@[simp] theorem RsP_varF : RsP (dVarF i en) P E = VarF en i en[i]? P := by
  unfold dVarF
  cases q : en[i]? with
  | none => rfl
  | some s =>
    cases s with
    | own b d =>
      cases b with
      | true => rfl
      | false =>
        dsimp only
        by_cases h : canPut en i = true <;> simp [h, VarF]
    | _ => rfl
@[simp] theorem RsP_con : RsP (dC d en) P E = P en (.d d) := rfl
/-! operators -/
@[simp] theorem RsP_op {sem : D → D → Option D} {fa fb : Ev} : RsP (dOp sem fa fb en) P E = RsP (fa en) (fun en1 x => RsP (fb en1) (fun en2 y => RsP (op2 sem en2 x y) P E) E) E := by unfold dOp; simp only [RsP_bind, RsP_ok, OutP_out, OutP_next, OutP_rt, OutP_nx]
@[simp] theorem RsP_un {sem : D → Option D} {fa : Ev} : RsP (dUn sem fa en) P E = RsP (fa en) (fun en1 x => RsP (op1 sem en1 x) P E) E := by unfold dUn; simp only [RsP_bind, RsP_ok, OutP_out, OutP_next, OutP_rt, OutP_nx]
@[simp] theorem RsP_op2dd {sem : D → D → Option D} : RsP (op2 sem en (.d d) (.d e)) P E = OpP (sem d e) fun r => P en (.d r) := by
  unfold op2
  simp only [res]
  cases sem d e <;> rfl
@[simp] theorem RsP_op2sd {sem : D → D → Option D} {y : Rv} : RsP (op2 sem en (.s i) y) P E = OpP (slD en i) fun d => RsP (op2 sem en (.d d) y) P E := by
  unfold op2
  simp only [res]
  cases slD en i <;> rfl
@[simp] theorem RsP_op2ds {sem : D → D → Option D} : RsP (op2 sem en (.d d) (.s i)) P E = OpP (slD en i) fun e => RsP (op2 sem en (.d d) (.d e)) P E := by
  unfold op2
  simp only [res]
  cases slD en i <;> rfl
@[simp] theorem RsP_op1d {sem : D → Option D} : RsP (op1 sem en (.d d)) P E = OpP (sem d) fun r => P en (.d r) := by
  unfold op1
  simp only [res]
  cases sem d <;> rfl
@[simp] theorem RsP_op1s {sem : D → Option D} : RsP (op1 sem en (.s i)) P E = OpP (slD en i) fun d => RsP (op1 sem en (.d d)) P E := by
  unfold op1
  simp only [res]
  cases slD en i <;> rfl
@[simp] theorem RsP_opBd {sem : D → Option Bool} : RsP (opB sem en (.d d)) PB E = OpP (sem d) fun r => PB en r := by
  unfold opB
  simp only [res]
  cases sem d <;> rfl
@[simp] theorem RsP_opN {sem : List D → Option D} {xs : List Rv} : RsP (opN sem en xs) P E = OpP (resAll en xs) fun ds => OpP (sem ds) fun r => P en (.d r) := by
  unfold opN
  cases resAll en xs with
  | none => rfl
  | some ds => dsimp only [OpP_some]; cases sem ds <;> rfl
@[simp] theorem resAll_nil : resAll en [] = some [] := rfl
@[simp] theorem resAll_cons {x : Rv} {xs : List Rv} {Q : List D → Prop} : OpP (resAll en (x :: xs)) Q = OpP (res en x) fun d => OpP (resAll en xs) fun ds => Q (d :: ds) := by
  show OpP (match res en x, resAll en xs with
    | some d, some ds => some (d :: ds)
    | _, _ => none) Q = _
  cases res en x with
  | none => rfl
  | some d => cases resAll en xs <;> rfl
@[simp] theorem res_d : res en (.d d) = some d := rfl
@[simp] theorem res_s : res en (.s i) = slD en i := rfl
@[simp] theorem RsP_tOf {fa : Ev} : RsP (tOf fa en) PB E = RsP (fa en) (fun en1 x => RsP (opB toB en1 x) PB E) E := by unfold tOf; simp only [RsP_bind, RsP_ok, OutP_out, OutP_next, OutP_rt, OutP_nx]
@[simp] theorem toB_bool : toB (.bool b) = some b := rfl
theorem RsP_ite {r r' : Rs α} {c : Bool} {Q : En → α → Prop} : RsP (if c = true then r else r') Q E = (if c = true then RsP r Q E else RsP r' Q E) := by cases c <;> rfl
theorem OutP_ite {r r' : Out} {c : Bool} : OutP (if c = true then r else r') N R E = (if c = true then OutP r N R E else OutP r' N R E) := by cases c <;> rfl
@[simp] theorem RsP_tAnd {ta tb : Tv} : RsP (tAndD ta tb en) PB E = RsP (ta en) (fun en1 k => if k = true then RsP (tb en1) PB E else PB en1 false) E := by
  unfold tAndD
  simp only [RsP_bind, RsP_ite, RsP_ok]
@[simp] theorem RsP_tOr {ta tb : Tv} : RsP (tOrD ta tb en) PB E = RsP (ta en) (fun en1 k => if k = true then PB en1 true else RsP (tb en1) PB E) E := by
  unfold tOrD
  simp only [RsP_bind, RsP_ite, RsP_ok]
@[simp] theorem RsP_tNot {ta : Tv} : RsP (tNotD ta en) PB E = RsP (ta en) (fun en1 k => PB en1 (!k)) E := by unfold tNotD; simp only [RsP_bind, RsP_ok, OutP_out, OutP_next, OutP_rt, OutP_nx]
@[simp] theorem RsP_and {fa fb : Ev} : RsP (dAnd fa fb en) P E = RsP (fa en) (fun en1 x => RsP (opB toB en1 x) (fun _ k => if k = true then RsP (fb en1) P E else P en1 (.d (.bool false))) E) E := by
  unfold dAnd
  simp only [RsP_bind, RsP_ite, RsP_ok]
@[simp] theorem RsP_or {fa fb : Ev} : RsP (dOr fa fb en) P E = RsP (fa en) (fun en1 x => RsP (opB toB en1 x) (fun _ k => if k = true then P en1 (.d (.bool true)) else RsP (fb en1) P E) E) E := by
  unfold dOr
  simp only [RsP_bind, RsP_ite, RsP_ok]
@[simp] theorem RsP_not {fa : Ev} : RsP (dNot fa en) P E = RsP (fa en) (fun en1 x => RsP (opB toB en1 x) (fun _ k => P en1 (.d (.bool (!k)))) E) E := by unfold dNot; simp only [RsP_bind, RsP_ok, OutP_out, OutP_next, OutP_rt, OutP_nx]
@[simp] theorem RsP_if {tc : Tv} {fa fb : Ev} : RsP (dIf tc fa fb en) P E = RsP (tc en) (fun en1 k => if k = true then RsP (fa en1) P E else RsP (fb en1) P E) E := by
  unfold dIf
  simp only [RsP_bind, RsP_ite]
@[simp] theorem RsP_chain {sem sem' : D → D → Option D} {fa fb fc : Ev} : RsP (dChain sem sem' fa fb fc en) P E = RsP (fa en) (fun en1 x => RsP (fb en1) (fun en2 y => RsP (op2 sem en2 x y) (fun _ z => RsP (opB toB en2 z) (fun _ k => if k = true then RsP (fc en2) (fun en3 w => RsP (op2 sem' en3 y w) P E) E else P en2 (.d (.bool false))) E) E) E) E := by
  unfold dChain
  simp only [RsP_bind, RsP_ite, RsP_ok]
/-! arguments -/
@[simp] theorem RsP_aNil : RsP (aNil en) PA E = PA en [] := rfl
@[simp] theorem RsP_aCons {fa : Ev} {av : Av} : RsP (aCons fa av en) PA E = RsP (fa en) (fun en1 x => RsP (av en1) (fun en2 xs => PA en2 (x :: xs)) E) E := by unfold aCons; simp only [RsP_bind, RsP_ok, OutP_out, OutP_next, OutP_rt, OutP_nx]
@[simp] theorem freeD_nil : freeD en [] = some [] := rfl
@[simp] theorem freeD_d {rs : List Rv} : freeD en (.d d :: rs) = (freeD en rs).map fun ds => d :: ds := by
  show (match freeD en rs with
    | some ds => some (d :: ds)
    | none => none) = _
  cases freeD en rs <;> rfl
@[simp] theorem RsP_tup {av : Av} : RsP (dTup av en) P E = RsP (av en) (fun en1 xs => OpP (freeD en1 xs) fun ds => ds.length ≤ sizeLine ∧ P en1 (.d (.tuple ds))) E := by
  unfold dTup
  simp only [RsP_bind]
  congr 1
  funext en1 xs
  cases freeD en1 xs with
  | none => rfl
  | some ds => dsimp only; by_cases h : ds.length ≤ sizeLine <;> simp [h]
@[simp] theorem RsP_lst {av : Av} : RsP (dLst av en) P E = RsP (av en) (fun en1 xs => OpP (freeD en1 xs) fun ds => ds.length ≤ sizeLine ∧ P en1 (.d (.list ds))) E := by
  unfold dLst
  simp only [RsP_bind]
  congr 1
  funext en1 xs
  cases freeD en1 xs with
  | none => rfl
  | some ds => dsimp only; by_cases h : ds.length ≤ sizeLine <;> simp [h]
@[simp] theorem RsP_oLst {av : Av} : RsP (oLst av en) PD E = RsP (av en) (fun en1 xs => OpP (freeD en1 xs) fun ds => ds.length ≤ sizeLine ∧ PD en1 (.list ds)) E := by
  unfold oLst
  simp only [RsP_bind]
  congr 1
  funext en1 xs
  cases freeD en1 xs with
  | none => rfl
  | some ds => dsimp only; by_cases h : ds.length ≤ sizeLine <;> simp [h]
@[simp] theorem RsP_callB {sem : List D → Option D} {av : Av} : RsP (dCallB sem av en) P E = RsP (av en) (fun en1 xs => OpP (resAll en1 xs) fun ds => OpP (sem ds) fun r => P en1 (.d r)) E := by unfold dCallB; simp only [RsP_bind, RsP_ok, OutP_out, OutP_next, OutP_rt, OutP_nx, RsP_opN]
@[simp] theorem RsP_oCallB {sem : List D → Option D} {av : Av} : RsP (oCallB sem av en) PD E = RsP (av en) (fun en1 xs => OpP (resAll en1 xs) fun ds => OpP (sem ds) fun r => PD en1 r) E := by
  unfold oCallB
  simp only [RsP_bind]
  congr 1
  funext en1 xs
  cases resAll en1 xs with
  | none => rfl
  | some ds => dsimp only [OpP_some]; cases sem ds <;> rfl
@[simp] theorem RsP_fz {fo : Ov} : RsP (dFz fo en) P E = RsP (fo en) (fun en1 d => P en1 (.d d)) E := by unfold dFz; simp only [RsP_bind, RsP_ok, OutP_out, OutP_next, OutP_rt, OutP_nx]
/-- what a value argument is -/
def RrP (r : Rr) (P : D → Prop) : Prop := match r with
  | .v d => P d
  | .o _ => False
def RrO (r : Rr) (P : D → Prop) : Prop := match r with
  | .o d => P d
  | .v _ => False
@[simp] theorem RrP_v {Q : D → Prop} : RrP (.v d) Q = Q d := rfl
@[simp] theorem RrO_o {Q : D → Prop} : RrO (.o d) Q = Q d := rfl
def CallP (fs : Fs) (bs : List Bool) (en : En) (rs : List Rv) (K : En → Rr → Prop) (E : En → Ex → Prop) : Prop := OpP (argsFor en bs rs) fun p => p.2.Nodup ∧ RfP (fs p.1) (fun r os => OpP (setOuts en p.2 os) fun en' => K en' r) (fun x os => OpP (setOuts en p.2 os) fun en' => E en' x)
theorem RsP_callR {fs : Fs} {bs : List Bool} {rs : List Rv} {k : En → Rr → Rs α} {Q : En → α → Prop} : RsP (callR fs bs en rs k) Q E = CallP fs bs en rs (fun en' r => RsP (k en' r) Q E) E := by
  rw [RsP_call]
  unfold CallP
  cases argsFor en bs rs with
  | none => rfl
  | some p =>
    obtain ⟨as, is⟩ := p
    dsimp only [OpP_some]
    congr 1
    congr 1
    · funext r os; cases setOuts en is os <;> rfl
    · funext r os; cases setOuts en is os <;> rfl
@[simp] theorem RsP_dCall {fs : Fs} {bs : List Bool} {av : Av} : RsP (dCall fs bs av en) P E = RsP (av en) (fun en1 rs => CallP fs bs en1 rs (fun en2 r => RrP r fun d => P en2 (.d d)) E) E := by
  unfold dCall
  simp only [RsP_bind, RsP_callR]
  congr 1
  funext en1 rs
  congr 1
  funext en2 r
  cases r <;> rfl
@[simp] theorem RsP_oCall {fs : Fs} {bs : List Bool} {av : Av} : RsP (oCall fs bs av en) PD E = RsP (av en) (fun en1 rs => CallP fs bs en1 rs (fun en2 r => RrO r fun d => PD en2 d) E) E := by
  unfold oCall
  simp only [RsP_bind, RsP_callR]
  congr 1
  funext en1 rs
  congr 1
  funext en2 r
  cases r <;> rfl
@[simp] theorem RsP_dCallK {fs : Fs} {bs : List Bool} {m n : Nat} {av bv : Av} : RsP (dCallK fs bs m n av bv en) P E = RsP (av en) (fun en1 xs => RsP (bv en1) (fun en2 ys => (xs.length = m ∧ ys.length = n) ∧ CallP fs bs en2 (xs ++ ys) (fun en3 r => RrP r fun d => P en3 (.d d)) E) E) E := by
  unfold dCallK
  simp only [RsP_bind]
  congr 1
  funext en1 xs
  congr 1
  funext en2 ys
  by_cases h : xs.length = m ∧ ys.length = n
  · rw [if_pos h, RsP_callR]
    simp only [h, and_self, true_and]
    congr 1
    funext en3 r
    cases r <;> rfl
  · rw [if_neg h]
    simp [h]
@[simp] theorem argsFor_nil : argsFor en [] [] = some ([], []) := rfl
@[simp] theorem argsFor_f {bs : List Bool} {rs : List Rv} : argsFor en (false :: bs) (.d d :: rs) = (argsFor en bs rs).map fun p => (.v d :: p.1, p.2) := by
  show (match argsFor en bs rs with
    | some (as, is) => some (Ar.v d :: as, is)
    | none => none) = _
  cases argsFor en bs rs <;> rfl
@[simp] theorem argsFor_t {bs : List Bool} {rs : List Rv} {Q : List Ar × List Nat → Prop} : OpP (argsFor en (true :: bs) (.s i :: rs)) Q = OpP (slD en i) fun d => OpP (argsFor en bs rs) fun p => Q (.o d :: p.1, i :: p.2) := by
  show OpP (match slD en i, argsFor en bs rs with
    | some d, some (as, is) => some (Ar.o d :: as, i :: is)
    | _, _ => none) Q = _
  cases slD en i with
  | none => rfl
  | some d => cases argsFor en bs rs <;> rfl
@[simp] theorem setOuts_nil : setOuts en [] [] = some en := rfl
def SetO1 (en : En) (s : Option Sl) (i : Nat) (is : List Nat) (d : D) (ds : List D) (Q : En → Prop) : Prop := match s with
  | some (.own b _) => OpP (setOuts (en.set i (.own b d)) is ds) Q
  | _ => False
@[simp] theorem SetO1_own {is : List Nat} {ds : List D} {Q : En → Prop} : SetO1 en (some (.own b e)) i is d ds Q = OpP (setOuts (en.set i (.own b d)) is ds) Q := rfl
@[simp] theorem setOuts_cons {is : List Nat} {ds : List D} {Q : En → Prop} : OpP (setOuts en (i :: is) (d :: ds)) Q = SetO1 en en[i]? i is d ds Q := by
  show OpP (match en[i]? with
    | some (.own b _) => setOuts (en.set i (.own b d)) is ds
    | _ => none) Q = _
  cases q : en[i]? with
  | none => rfl
  | some s => cases s <;> rfl
/-! slices -/
variable {PO : En → Option Int → Prop}
@[simp] theorem RsP_pNo : RsP (pNo en) PO E = PO en none := rfl
def IntP (x : Rv) (Q : Int → Prop) : Prop := match x with
  | .d (.int i) => Q i
  | _ => False
@[simp] theorem IntP_int {k : Int} {Q : Int → Prop} : IntP (.d (.int k)) Q = Q k := rfl
@[simp] theorem RsP_pIs {fa : Ev} : RsP (pIs fa en) PO E = RsP (fa en) (fun en1 x => IntP x fun k => PO en1 (some k)) E := by
  unfold pIs
  simp only [RsP_bind]
  congr 1
  funext en1 x
  cases x with
  | s i => rfl
  | d d => cases d <;> rfl
@[simp] theorem RsP_sl {fa : Ev} {lo hi : Pv} : RsP (dSl fa lo hi en) P E = RsP (fa en) (fun en1 x => RsP (lo en1) (fun en2 l => RsP (hi en2) (fun en3 h => RsP (op1 (sSl l h) en3 x) P E) E) E) E := by unfold dSl; simp only [RsP_bind, RsP_ok, OutP_out, OutP_next, OutP_rt, OutP_nx]
/-! statements -/
@[simp] theorem OutP_seq {a b : Bd} : OutP (bSeq a b en) N R E = OutP (a en) (fun en1 => OutP (b en1) N R E) R E := by unfold bSeq; simp only [RsP_bind, RsP_ok, OutP_out, OutP_next, OutP_rt, OutP_nx]
@[simp] theorem OutP_nil : OutP (bNil en) N R E = N en := rfl
@[simp] theorem OutP_expr {f : Ev} : OutP (bExpr f en) N R E = RsP (f en) (fun en1 _ => N en1) E := by unfold bExpr; simp only [RsP_bind, RsP_ok, OutP_out, OutP_next, OutP_rt, OutP_nx]
def DP_ (x : Rv) (Q : D → Prop) : Prop := match x with
  | .d d => Q d
  | .s _ => False
@[simp] theorem DP_d {Q : D → Prop} : DP_ (.d d) Q = Q d := rfl
@[simp] theorem OutP_ret {f : Ev} : OutP (bRet f en) N R E = RsP (f en) (fun en1 x => DP_ x fun d => R en1 (.v d)) E := by
  unfold bRet
  simp only [OutP_out]
  congr 1
  funext en1 x
  cases x <;> rfl
@[simp] theorem OutP_retO {f : Ov} : OutP (bRetO f en) N R E = RsP (f en) (fun en1 d => R en1 (.o d)) E := by unfold bRetO; simp only [RsP_bind, RsP_ok, OutP_out, OutP_next, OutP_rt, OutP_nx]
@[simp] theorem OutP_retN : OutP (bRetN en) N R E = R en (.v .none) := rfl
@[simp] theorem OutP_if {t : Tv} {a b : Bd} : OutP (bIf t a b en) N R E = RsP (t en) (fun en1 k => if k = true then OutP (a en1) N R E else OutP (b en1) N R E) E := by
  unfold bIf
  simp only [OutP_out, OutP_ite]
@[simp] theorem OutP_opt {o : Option α} {k : α → Out} : OutP (Opt.out o k) N R E = OpP o fun a => OutP (k a) N R E := by cases o <;> rfl
@[simp] theorem OutP_set {f : Ev} : OutP (bSet i f en) N R E = RsP (f en) (fun en1 x => OpP (stV en1 i x) N) E := by unfold bSet; simp only [RsP_bind, RsP_ok, OutP_out, OutP_next, OutP_rt, OutP_nx, OutP_opt]
@[simp] theorem OutP_setO {f : Ov} : OutP (bSetO i f en) N R E = RsP (f en) (fun en1 d => OpP (putS en1 i (.own false d)) N) E := by unfold bSetO; simp only [RsP_bind, RsP_ok, OutP_out, OutP_next, OutP_rt, OutP_nx, OutP_opt]
@[simp] theorem OutP_setZ {f : Ov} : OutP (bSetZ i f en) N R E = RsP (f en) (fun en1 d => OpP (putS en1 i (.val d)) N) E := by unfold bSetZ; simp only [RsP_bind, RsP_ok, OutP_out, OutP_next, OutP_rt, OutP_nx, OutP_opt]
@[simp] theorem stV_d : stV en i (.d d) = putS en i (.val d) := rfl
@[simp] theorem OpP_put {s : Sl} {Q : En → Prop} : OpP (putS en i s) Q = (canPut en i = true ∧ Q (en.set i s)) := by
  unfold putS
  simp
/-! targets -/
@[simp] theorem OutP_asg {f : Ev} {t : Th} : OutP (bAsg f t en) N R E = RsP (f en) (fun en1 x => DP_ x fun d => OutP (t d en1).nxOnly N R E) E := by
  unfold bAsg
  simp only [OutP_out]
  congr 1
  funext en1 x
  cases x <;> rfl
/-- of a target: only on -/
@[simp] theorem OutP_nxOnly {o : Out} : OutP o.nxOnly N R E = OutP o N (fun _ _ => False) E := by cases o <;> rfl
@[simp] theorem OutP_hName : OutP (hName i d en) N R E = OpP (putS en i (.val d)) N := by unfold hName; simp only [RsP_bind, RsP_ok, OutP_out, OutP_next, OutP_rt, OutP_nx, OutP_opt]
@[simp] theorem OutP_hNil : OutP (hNil [] en) N R E = N en := rfl
@[simp] theorem OutP_hCons {t : Th} {u : Ths} {r : List D} : OutP (hCons t u (d :: r) en) N R E = OutP (t d en) (fun en1 => OutP (u r en1) N R E) R E := by
  show OutP ((t d en).next fun en1 => u r en1) N R E = _
  simp
@[simp] theorem OutP_hTup {n : Nat} {u : Ths} {ds : List D} : OutP (hTup n u (.tuple ds) en) N R E = (ds.length = n ∧ OutP (u ds en) N R E) := by
  show OutP (if ds.length = n then u ds en else .no) N R E = _
  by_cases h : ds.length = n <;> simp [h]
def SubP (en : En) (s : Option Sl) (i : Nat) (k : Int) (d : D) (N : En → Prop) : Prop := match s with
  | some (.own b (.list ds)) => OpP (ixN ds.length k) fun j => N (en.set i (.own b (.list (ds.set j d))))
  | _ => False
@[simp] theorem SubP_own {k : Int} {ds : List D} : SubP en (some (.own b (.list ds))) i k d N = OpP (ixN ds.length k) fun j => N (en.set i (.own b (.list (ds.set j d)))) := rfl
def SP_ (x : Rv) (Q : Nat → Prop) : Prop := match x with
  | .s i => Q i
  | .d _ => False
@[simp] theorem SP_s {Q : Nat → Prop} : SP_ (.s i) Q = Q i := rfl
@[simp] theorem OutP_hSub {fo fi : Ev} : OutP (hSub fo fi d en) N R E = RsP (fo en) (fun en1 x => SP_ x fun i => RsP (fi en1) (fun en2 y => IntP y fun k => SubP en2 en2[i]? i k d N) E) E := by
  unfold hSub
  simp only [OutP_out]
  congr 1
  funext en1 x
  cases x with
  | d _ => rfl
  | s i =>
    dsimp only [SP_s]
    rw [OutP_out]
    congr 1
    funext en2 y
    cases y with
    | s j => rfl
    | d y =>
      cases y <;> first | rfl | skip
      rename_i k
      dsimp only [IntP_int]
      cases q : en2[i]? with
      | none => rfl
      | some s =>
        cases s with
        | own b c =>
          cases c <;> first | rfl | skip
          rename_i ds
          dsimp only [SubP_own]
          cases ixN ds.length k <;> rfl
        | _ => rfl
/-! methods -/
def MutP (en : En) (s : Option Sl) (i : Nat) (sem : D → List D → Option (D × D)) (ds : List D) (P : En → Rv → Prop) : Prop := match s with
  | some (.own b d) => OpP (sem d ds) fun p => P (en.set i (.own b p.2)) (.d p.1)
  | _ => False
@[simp] theorem MutP_own {sem : D → List D → Option (D × D)} {ds : List D} : MutP en (some (.own b d)) i sem ds P = OpP (sem d ds) fun p => P (en.set i (.own b p.2)) (.d p.1) := rfl
@[simp] theorem RsP_mutK {sem : D → List D → Option (D × D)} {xs : List Rv} : RsP (mutK sem i en xs) P E = OpP (freeD en xs) fun ds => MutP en en[i]? i sem ds P := by
  unfold mutK
  cases freeD en xs with
  | none => rfl
  | some ds =>
    dsimp only [OpP_some]
    cases q : en[i]? with
    | none => rfl
    | some s =>
      cases s with
      | own b d =>
        dsimp only [MutP_own]
        cases sem d ds with
        | none => rfl
        | some p => rfl
      | _ => rfl
@[simp] theorem RsP_mut {q : D → Bool} {sem : D → List D → Option (D × D)} {fo : Ev} {av : Av} : RsP (dMut q sem fo av en) P E = RsP (fo en) (fun en1 x => SP_ x fun i => ownIs q en1 i = true ∧ RsP (av en1) (fun en2 xs => RsP (mutK sem i en2 xs) P E) E) E := by
  unfold dMut
  simp only [RsP_bind]
  congr 1
  funext en1 x
  cases x with
  | d _ => rfl
  | s i =>
    dsimp only [SP_s]
    by_cases h : ownIs q en1 i = true
    · rw [if_pos h, RsP_bind]
      simp [h]
    · rw [if_neg h]
      simp [h]
end
/-! ### semantics at constructors -/
section
variable {i j : Int} {x y : Str} {a b : List D} {p q : Bool} {d : D}
@[simp] theorem sAdd_i : sAdd (.int i) (.int j) = some (.int (i + j)) := rfl
@[simp] theorem sAdd_t : sAdd (.tuple a) (.tuple b) = if (a ++ b).length ≤ sizeLine then some (.tuple (a ++ b)) else none := rfl
@[simp] theorem sAdd_l : sAdd (.list a) (.list b) = if (a ++ b).length ≤ sizeLine then some (.list (a ++ b)) else none := rfl
@[simp] theorem sSub_i : sSub (.int i) (.int j) = some (.int (i - j)) := rfl
@[simp] theorem sMul_i : sMul (.int i) (.int j) = if wideB i j = true then some (.int (i * j)) else none := rfl
@[simp] theorem sFdiv_i : sFdiv (.int i) (.int j) = if 0 < j ∧ j.natAbs.log2 < 9000 then some (.int (i / j)) else none := rfl
@[simp] theorem sMod_i : sMod (.int i) (.int j) = if 0 < j then some (.int (i % j)) else none := rfl
@[simp] theorem sPow_i : sPow (.int i) (.int j) = if 0 ≤ j ∧ j ≤ 1000000 ∧ i.natAbs < 2 ^ 64 then some (.int (i ^ j.toNat)) else none := rfl
@[simp] theorem sNeg_i : sNeg (.int i) = some (.int (-i)) := rfl
@[simp] theorem sCmp_i {f : Int → Int → Bool} : sCmp f (.int i) (.int j) = some (.bool (f i j)) := rfl
@[simp] theorem sEq_i : sEq (.int i) (.int j) = some (.bool (i == j)) := rfl
@[simp] theorem sEq_s : sEq (.str x) (.str y) = some (.bool (x == y)) := rfl
@[simp] theorem sEq_b : sEq (.bool p) (.bool q) = some (.bool (p == q)) := rfl
@[simp] theorem sNe_i : sNe (.int i) (.int j) = some (.bool (!(i == j))) := rfl
@[simp] theorem sNe_s : sNe (.str x) (.str y) = some (.bool (!(x == y))) := rfl
@[simp] theorem sNe_b : sNe (.bool p) (.bool q) = some (.bool (!(p == q))) := rfl
@[simp] theorem sIs_n : sIs d .none = some (.bool (isNone d)) := by cases d <;> rfl
@[simp] theorem sIsNot_n : sIsNot d .none = some (.bool (!isNone d)) := by cases d <;> rfl
@[simp] theorem isNone_n : isNone .none = true := rfl
@[simp] theorem isNone_i : isNone (.int i) = false := rfl
@[simp] theorem isNone_s : isNone (.str x) = false := rfl
@[simp] theorem isNone_t : isNone (.tuple a) = false := rfl
@[simp] theorem isNone_l : isNone (.list a) = false := rfl
@[simp] theorem isNone_b : isNone (.bool p) = false := rfl
@[simp] theorem sIx_l : sIx (.list a) (.int i) = atI a i := rfl
@[simp] theorem sIx_t : sIx (.tuple a) (.int i) = atI a i := rfl
@[simp] theorem sIx_scr : sIx (.dict [(.none, .list a)]) (.int i) = atI a i := rfl
@[simp] theorem sLen_l : sLen [.list a] = some (.int (a.length : Nat)) := rfl
@[simp] theorem sLen_t : sLen [.tuple a] = some (.int (a.length : Nat)) := rfl
@[simp] theorem sLen_scr : sLen [.dict [(.none, .list a)]] = some (.int (a.length : Nat)) := rfl
@[simp] theorem sInt_i : sInt [.int i] = some (.int i) := rfl
@[simp] theorem sInt_b : sInt [.bool p] = some (.int (if p then 1 else 0)) := rfl
@[simp] theorem sAbs_i : sAbs [.int i] = some (.int (if i < 0 then -i else i)) := rfl
@[simp] theorem sMax_2 : sMax [.int i, .int j] = some (.int (if j > i then j else i)) := rfl
@[simp] theorem sMin_2 : sMin [.int i, .int j] = some (.int (if j < i then j else i)) := rfl
@[simp] theorem sTuple_l : sTuple [.list a] = some (.tuple a) := rfl
@[simp] theorem sTuple_t : sTuple [.tuple a] = some (.tuple a) := rfl
@[simp] theorem sList_l : sList [.list a] = some (.list a) := rfl
@[simp] theorem sList_t : sList [.tuple a] = some (.list a) := rfl
@[simp] theorem mAppend_l : mAppend (.list a) [d] = if a.length < sizeLine then some (.none, .list (a ++ [d])) else none := rfl
@[simp] theorem mExtend_l : mExtend (.list a) [.list b] = if a.length + b.length ≤ sizeLine then some (.none, .list (a ++ b)) else none := rfl
theorem atI_n {xs : List D} {k : Nat} : atI xs (k : Int) = xs[k]? := by
  unfold atI ixN
  rw [if_pos (by omega)]
  by_cases h : k < xs.length
  · rw [if_pos (by omega)]
    simp
  · rw [if_neg (by omega), List.getElem?_eq_none (by omega)]
    rfl
@[simp] theorem atI_2 {xs : List D} : atI xs 2 = xs[2]? := atI_n (k := 2)
@[simp] theorem atI_3 {xs : List D} : atI xs 3 = xs[3]? := atI_n (k := 3)
@[simp] theorem atI_4 {xs : List D} : atI xs 4 = xs[4]? := atI_n (k := 4)
@[simp] theorem atI_5 {xs : List D} : atI xs 5 = xs[5]? := atI_n (k := 5)
@[simp] theorem atI_0 {xs : List D} : atI xs 0 = xs[0]? := atI_n (k := 0)
@[simp] theorem atI_1 {xs : List D} : atI xs 1 = xs[1]? := atI_n (k := 1)
theorem ixN_n {n k : Nat} (h : k < n) : ixN n (k : Int) = some k := by
  unfold ixN
  rw [if_pos (by omega), if_pos (by omega)]
  simp
end
end DL
/-! Dend: from the layer's words to a law's row. -/
namespace DL
open PySem PySem.Spec L2
open PyProof.Rows hiding St
section
variable {P : Program} {w : World} {K : PySem.W.Frag} {mg : Str → Option Value} {h : Heap}
/-- the law's promise -/
def spEnd (K : PySem.W.Frag) : Sp := fun vs H Q _ => ∃ (a : Addr) (ns : List Int), vs = [.ref a] ∧ SqL K H a (ns.map V.int) ∧ ns.length ≤ 63 ∧ ∀ H', Q (.bl true) H'
theorem end_fn {base : Heap} {k : Nat} {f : Addr} {fd : FuncData} {ps : List Str} {fs : Fs} (F : FnOk P w K mg base (L2.CX P w) k f fd ps (spF K mg fs))
    (h : ∀ ns : List Int, ns.length ≤ 63 → RfP (fs [.v (.dict [(.none, .list (ns.map .int))])]) (fun r os => r = .v (.bool true) ∧ os = []) fun _ _ => False) : FnOk P w K mg base (L2.CX P w) k f fd ps (spEnd K) := by
  refine F.imp fun vs H Q E z => ?_
  obtain ⟨a, ns, rfl, hS, hl, q⟩ := z
  obtain ⟨r, os, e, rfl, rfl⟩ := (h ns hl).ok
  refine ⟨H, [.v (.dict [(.none, .list (ns.map .int))])], [], Same.refl H, ⟨.scr hS, trivial⟩, List.nodup_nil, ?_⟩
  rw [e]
  intro v F' H' _ _ hr
  cases hr
  exact q H'
/-- a def that stands in the module -/
def Df (K : PySem.W.Frag) (mg : Str → Option Value) (x : Str) (st : Stmt) : Prop := ∃ (f : Addr) (fd : FuncData), Fun K x x st f fd ∧ mg x = some (.ref f)
theorem Df.mk {x : Str} {st : Stmt} {f : Addr} {oc : Value} {od an : Option Addr} {osl : Array (Option Value)} {kV doc pm cdv ct : Value} (X : K.In h) (G : h.Ns mainGlobals mg) (a : PySem.W.nsIn K mainGlobals x = some (some (.ref f)))
    (l : K.lookup f = some ⟨oc, od, .func (PySem.W.fnOf x x (defArgs st) (defBody st) (defScope st) .none kV doc pm an cdv ct), osl⟩) (c : PySem.W.codeIn K cdv x = true) (k : PySem.W.keepIn K (.ref f) = true) : Df K mg x st :=
  ⟨f, _, fun_mk l c k, PySem.W.mg_of X G a⟩
theorem Konst.int_in {x : Str} {i : Int} {t : Tok} (X : K.In h) (G : h.Ns mainGlobals mg) (a : PySem.W.nsIn K mainGlobals x = some (some (.int i t))) : Konst K mg x (.int i) := .int (PySem.W.mg_of X G a)
theorem Konst.str_in {x : Str} {i : Str} {t : Tok} (X : K.In h) (G : h.Ns mainGlobals mg) (a : PySem.W.nsIn K mainGlobals x = some (some (.str i t))) : Konst K mg x (.str i) := .str (PySem.W.mg_of X G a)
theorem Bt.in_ (X : K.In h) (G : h.Ns mainGlobals mg) (z1 : PySem.W.nsIn K mainGlobals "len" = some none) (z2 : PySem.W.nsIn K mainGlobals "int" = some none) (z3 : PySem.W.nsIn K mainGlobals "bool" = some none) (z4 : PySem.W.nsIn K mainGlobals "str" = some none)
    (z5 : PySem.W.nsIn K mainGlobals "list" = some none) (z6 : PySem.W.nsIn K mainGlobals "tuple" = some none) (z7 : PySem.W.nsIn K mainGlobals "set" = some none) (z8 : PySem.W.nsIn K mainGlobals "dict" = some none) (z9 : PySem.W.nsIn K mainGlobals "abs" = some none)
    (z10 : PySem.W.nsIn K mainGlobals "all" = some none) (z11 : PySem.W.nsIn K mainGlobals "any" = some none) (z12 : PySem.W.nsIn K mainGlobals "sum" = some none) (z13 : PySem.W.nsIn K mainGlobals "max" = some none) (z14 : PySem.W.nsIn K mainGlobals "min" = some none)
    (z15 : PySem.W.nsIn K mainGlobals "sorted" = some none) (z16 : PySem.W.nsIn K mainGlobals "range" = some none) (z17 : PySem.W.nsIn K mainGlobals "enumerate" = some none) (z18 : PySem.W.nsIn K mainGlobals "isinstance" = some none) : Bt mg :=
  .mk (PySem.W.mg_none_of X G z1) (PySem.W.mg_none_of X G z2) (PySem.W.mg_none_of X G z3) (PySem.W.mg_none_of X G z4) (PySem.W.mg_none_of X G z5) (PySem.W.mg_none_of X G z6) (PySem.W.mg_none_of X G z7) (PySem.W.mg_none_of X G z8) (PySem.W.mg_none_of X G z9)
    (PySem.W.mg_none_of X G z10) (PySem.W.mg_none_of X G z11) (PySem.W.mg_none_of X G z12) (PySem.W.mg_none_of X G z13) (PySem.W.mg_none_of X G z14) (PySem.W.mg_none_of X G z15) (PySem.W.mg_none_of X G z16) (PySem.W.mg_none_of X G z17) (PySem.W.mg_none_of X G z18)
theorem OwnX.in_ {x : Str} {C : Addr} (X : K.In h) (G : h.Ns mainGlobals mg) (a : PySem.W.nsIn K mainGlobals x = some (some (.ref C))) (q : PySem.W.excIn K C [.type "ValueError", .type "Exception", .type "BaseException", .type "object"] "ValueError.__new__" = true)
    (k : PySem.W.keepIn K (.ref C) = true) (s : PySem.W.subIn K (.ref C) (.type "BaseException") = some true) (t : PySem.W.typeIn K (.ref C) = some (.type "type")) : OwnX K mg x := ⟨C, PySem.W.mg_of X G a, q, k, s, t⟩
/-- a class that is caught, and one above it that is asked for -/
def XY (K : PySem.W.Frag) (mg : Str → Option Value) (x y : Str) : Prop := ∃ C Y, XCls K mg x C ∧ mg y = some (.ref Y) ∧ PySem.W.kitOne K (.ref C) (.ref Y) = some true
theorem XCls.in_ {x : Str} {C : Addr} (X : K.In h) (G : h.Ns mainGlobals mg) (a : PySem.W.nsIn K mainGlobals x = some (some (.ref C))) (hs : PySem.W.subIn K (.ref C) (.type "BaseException") = some true) (hd : PySem.W.hasDictIn K C = true) (ht : PySem.W.typeIn K (.ref C) = some (.type "type")) (sf : PySem.W.subIn K (.ref C) (.ref C) = some true)
    (hg : PySem.W.findIn K (.ref C) "__getattribute__" = some (some (.builtin "BaseException.__getattribute__"))) (hk : PySem.W.findIn K (.ref C) "__getattr__" = some none) (ha : PySem.W.findIn K (.ref C) "__class__" = some (some (.builtin "object.__class__")))
    (hn : PySem.W.specialIn K (.builtin "object.__class__") "__get__" = some (some (.builtin "getset_descriptor.__get__"))) (tk : PySem.W.takesIn K (.builtin "object.__class__") = some true) (hm : PySem.W.mroIn K C (.type "object") = some true) : XCls K mg x C :=
  ⟨PySem.W.mg_of X G a, PySem.W.exm_ref hs hd ht sf, ⟨hg, hk, hs, hd, ha, hn, tk, hm⟩⟩
theorem XY.in_ {x y : Str} {C Y : Addr} (X : K.In h) (G : h.Ns mainGlobals mg) (xc : XCls K mg x C) (b : PySem.W.nsIn K mainGlobals y = some (some (.ref Y))) (k : PySem.W.kitOne K (.ref C) (.ref Y) = some true) : XY K mg x y :=
  ⟨C, Y, xc, PySem.W.mg_of X G b, k⟩
end
end DL
/-! Dl17: pop without a place, starred items, list(range(..)), index of a list, a dict's items. -/
namespace DL
open PySem PySem.Spec L2
open PyProof.Rows hiding St
section
variable {X : Cx} {g : Gh} {W : XW} {a b : Expr} {es : List Expr} {fa fb : Ev} {av : Av} {pos p p2 pos2 apos : Pos}
/-! ### xs.pop() -/
def mPop : D → List D → Option (D × D)
  | .list ds, [] => (match ds[ds.length - 1]? with
    | some y => some (y, .list ds.dropLast)
    | none => none)
  | _, _ => none
theorem DvAll.dropLast {K : PySem.W.Frag} {F : Hp} : ∀ {vs : List V} {ds : List D}, DvAll K F vs ds → DvAll K F vs.dropLast ds.dropLast
  | _, _, .nil => .nil
  | _, _, .cons a .nil => .nil
  | _, _, .cons a (.cons b c) => .cons a (DvAll.dropLast (.cons b c))
theorem sm_pop {K : PySem.W.Frag} : SemM K rPop mPop := by
  intro F H p d vs ds e d' Q s ow al hs k
  unfold mPop at hs
  split at hs
  · split at hs
    · rename_i y ey
      cases hs
      obtain ⟨xs, q, a⟩ := own_lst ow
      cases al
      obtain ⟨x, ex, dx⟩ := a.at ey
      exact ⟨p, xs, x, rfl, rfl, q, by rw [a.length]; exact ex, k _ _ dx (.lst upd_same a.dropLast)⟩
    · cases hs
  · cases hs
theorem de_pop0 (ho : DE X g W a fa) (hbase : attributeBase a "pop" X.env (eval a X.env) = eval a X.env := by rfl) (hline : (apos.endLine == pos.line) = true := by rfl) :
    DE X g W (.Call (.Attribute a "pop" apos) [] [] pos) (dMut isListD mPop fa aNil) :=
  PE.imp (pe_bm0 PySem.F.plainAttrs_list PySem.F.slot_list_pop PySem.F.type_list_pop mt_pop ho hbase hline) fun σ H Q h => by
    obtain ⟨F, en, rp, f⟩ := mut_walk (X := X) isA_list sm_pop h
    refine ⟨F, en, rp, f.mono fun F1 H1 en1 x s1 r1 q v hv => ?_⟩
    obtain ⟨h1, F2, en2, r2, f2⟩ := q v hv
    exact ⟨h1, f2 F2 H1 (Same.refl _) r2 [] trivial⟩
/-! ### list(range(a, b)) -/
def rgOk (a b : Int) : Bool := decide (-(2 ^ 62) ≤ a ∧ a < 2 ^ 62 ∧ -(2 ^ 62) ≤ b ∧ b < 2 ^ 62 ∧ (b - a).toNat ≤ 2 ^ 24)
def oLRg2 (fa fb : Ev) : Ov := fun en => (fa en).bind fun en1 x => (fb en1).bind fun en2 y => match x, y with
  | .d (.int i), .d (.int j) => if rgOk i j = true then .ok en2 (.list ((List.range (j - i).toNat).map fun k => .int (i + (k : Nat)))) else .no
  | _, _ => .no
theorem dv_rg {K : PySem.W.Frag} {F : Hp} (i : Int) : ∀ ks : List Nat, DvAll K F (ks.map fun k => V.int (i + (k : Nat))) (ks.map fun k => PyData.int (i + (k : Nat)))
  | [] => .nil
  | k :: ks => .cons (.int _) (dv_rg i ks)
theorem do_listRg2 (hc : X.calm = true) (B : Bt X.mg) (ha : DE X g W a fa) (hb : DE X g W b fb) (hg : Gl X "list" := by rfl) (hg2 : Gl X "range" := by rfl)
    (na : starEach [a, b] X.env = (false, eval a X.env) :: starEach [b] X.env := by rfl) (nb : starEach [b] X.env = (false, eval b X.env) :: starEach [] X.env := by rfl) (hp : (backTo pos2 (starEach [b] X.env)).any (·.1) = false := by rfl)
    (nc : starEach [.Call (.Name "range" p2) [a, b] [] pos2] X.env = (false, eval (.Call (.Name "range" p2) [a, b] [] pos2) X.env) :: starEach [] X.env := by rfl) :
    DO X g W (.Call (.Name "list" p) [.Call (.Name "range" p2) [a, b] [] pos2] [] pos) (oLRg2 fa fb) := by
  refine PE.imp (pe_listRg hc hg B.list (prg_2 hg2 B.range ha hb na nb hp) nc) fun σ H Q h => ?_
  obtain ⟨F, en, rp, f⟩ := h
  refine ⟨F, en, rp, (Fin.seq f).mono fun F1 H1 en1 x s1 r1 f1 v hv => ⟨F1, en1, r1, (Fin.seq f1).mono fun F2 H2 en2 y s2 r2 f2 u hu => ?_⟩⟩
  split at f2
  · rename_i i j
    split at f2
    · rename_i hr
      cases hv
      cases hu
      unfold rgOk at hr
      refine ⟨_, _, rfl, rfl, by simpa [RgOk] using hr, fun q hq => ?_⟩
      obtain ⟨r3, n3⟩ := r2.fresh hq (d := .list ((List.range (j - i).toNat).map fun k => .int (i + (k : Nat)))) (.lst upd_same (dv_rg i _))
      exact f2 F2 H2 (Same.refl _) r2 q _ r3 n3
    · exact f2.elim
  · exact f2.elim
/-! ### f(*t, ..), (*t, ..) -/
def aStar (fa : Ev) (r : Av) : Av := fun en => (fa en).bind fun en1 x => match x with
  | .d (.tuple ds) => (r en1).bind fun en2 xs => .ok en2 (ds.map Rv.d ++ xs)
  | _ => .no
theorem rvAll_of {K : PySem.W.Frag} {F : Hp} {σ : St} : ∀ {vs : List V} {ds : List D}, DvAll K F vs ds → RvAll K F σ vs (ds.map Rv.d)
  | _, _, .nil => trivial
  | _, _, .cons a b => ⟨a, rvAll_of b⟩
theorem da_star (ha : DE X g W a fa) (hr : DA X g W es av) (hs : starEach (.Starred a p :: es) X.env = (true, eval a X.env) :: starEach es X.env := by rfl) : DA X g W (.Starred a p :: es) (aStar fa av) := by
  refine PA.imp (StX.pa_star ha hr hs) fun σ H Q h => ?_
  obtain ⟨F, en, rp, f⟩ := h
  refine ⟨F, en, rp, (Fin.seq f).mono fun F1 H1 en1 x s1 r1 f1 v hv => ?_⟩
  split at f1
  · rename_i ds
    cases hv with
    | tup q al =>
      refine ⟨_, _, rfl, .inl (sqT_mono r1.fz q), F1, en1, r1, (Fin.seq f1).mono fun F2 H2 en2 xs s2 r2 f2 vs hvs => ?_⟩
      exact f2 F2 H2 (Same.refl _) r2 _ (RvAll.append (rvAll_of (al.mono s2)) hvs)
  · exact f1.elim
end
end DL
/-! Dl18: a dict by its keys: d[k], d.get(k, x), d[k] = v. -/
namespace DL
open PySem PySem.Spec L2
open PyProof.Rows hiding St
/-- what stands at the key k -/
def valP : List (D × D) → D → Option D
  | [], _ => none
  | (j, d) :: r, k => if keyEq j k = true then some d else valP r k
theorem DvKV.val {K : PySem.W.Frag} {F : Hp} {k : Key} : ∀ {kvs : List (Key × V)} {ps : List (D × D)}, DvKV K F kvs ps → (∀ d, valP ps (keyD k) = some d → ∃ v, valV kvs k = some v ∧ Dv K F v d) ∧ (valP ps (keyD k) = none → valV kvs k = none)
  | _, _, .nil => ⟨fun d e => (nomatch e), fun _ => rfl⟩
  | _, _, .cons (k := j) (v := v) (d := d0) (kvs := kvs) (ps := ps) a b => by
    obtain ⟨h1, h2⟩ := DvKV.val (k := k) b
    unfold valP
    rw [keyEq_key]
    by_cases e : j = k
    · rw [if_pos (decide_eq_true e)]
      exact ⟨fun d q => ⟨v, valV_pos (p := (j, v)) e, by cases q; exact a⟩, fun q => by cases q⟩
    · rw [if_neg (by rw [decide_eq_false e]; exact Bool.false_ne_true)]
      exact ⟨fun d q => by
        obtain ⟨u, e1, e2⟩ := h1 d q
        exact ⟨u, (valV_neg (p := (j, v)) e).trans e1, e2⟩, fun q => (valV_neg (p := (j, v)) e).trans (h2 q)⟩
def noHead : List (D × D) → Bool
  | (.none, _) :: _ => false
  | _ => true
def sDIx : D → D → Option D
  | .dict ps, k => if (keyOf k).isSome = true ∧ noHead ps = true then valP ps k else none
  | _, _ => none
section
variable {X : Cx} {g : Gh} {W : XW} {a b c : Expr} {fa fb fc : Ev} {pos p apos pos' : Pos}
theorem vw_dK {K : PySem.W.Frag} {F H : Hp} {v : V} {ps : List (D × D)} (s : Same F H) (h : Vw K F H v (.dict ps)) (n : noHead ps = true) : ∃ (a : Addr) (kvs : List (Key × V)), v = .ref a ∧ H a = some (.dK kvs) ∧ DvKV K F kvs ps := by
  rcases vw_dict s h with ⟨a, kvs, rfl, q, kv⟩ | ⟨ms, rfl⟩ | ⟨a, kvs, es, rfl, q, al, rfl⟩
  · exact ⟨a, kvs, rfl, q, kv⟩
  · cases n
  · cases n
theorem key_v {K : PySem.W.Frag} {F H : Hp} {v : V} {k : Key} (h : Vw K F H v (keyD k)) : v = kV k := by
  cases k with
  | inl i => exact vw_int h
  | inr x => exact vw_str h
theorem de_dix {j : Nat} (hr : Room j X.A) (ha : DE X g W a fa) (hb : DE X g W b fb) (hs : NoSl b := by exact fun _ _ => rfl) : DE X g W (.Subscript a b pos) (dOp sDIx fa fb) := by
  refine PE.imp (pe_dget (hu_of hr) ha hb hs) fun σ H Q h => ?_
  obtain ⟨F, en, rp, f⟩ := h
  refine ⟨F, en, rp, (Fin.seq f).mono fun F1 H1 en1 x s1 r1 f1 v hv => ⟨F1, en1, r1, (Fin.seq f1).mono fun F2 H2 en2 y s2 r2 f2 u hu => ?_⟩⟩
  refine of_op2 (sem := sDIx) (en := en2) (x := x) (y := y) (fun e => by rw [e] at f2; exact f2.elim) fun d e c e1 e2 e3 e4 => ?_
  have hd := r2.view (RvOk.mono s2 hv) e1
  have he := r2.view hu e2
  unfold sDIx at e3
  split at e3
  · rename_i ps k
    split at e3
    · rename_i hh
      obtain ⟨k2, hk⟩ := Option.isSome_iff_exists.mp hh.1
      have := keyOf_eq hk
      subst this
      obtain ⟨p, kvs, rfl, q, kv⟩ := vw_dK r2.fz hd hh.2
      have := key_v he
      subst this
      obtain ⟨w, e5, e6⟩ := kv.val.1 _ e3
      exact ⟨p, w, rfl, e5 ▸ DGet.k q, (fin1 r2 e4 f2).of r2.fz e6⟩
    · cases e3
  · cases e3
/-! ### d.get(k, x) -/
def sDGet (d k z : D) : Option D := match d with
  | .dict ps => if (keyOf k).isSome = true ∧ noHead ps = true then some ((valP ps k).getD z) else none
  | _ => none
def dDGet (fa fb fc : Ev) : Ev := fun en => (fa en).bind fun en1 x => match res en1 x with
  | some (.dict ps) => if noHead ps = true then (fb en1).bind fun en2 y => (fc en2).bind fun en3 z => (match res en3 x, y, z with
      | some d, .d k, .d e => (match sDGet d k e with
        | some r => .ok en3 (.d r)
        | none => .no)
      | _, _, _ => .no) else .no
  | _ => .no
theorem de_dget {j : Nat} (hr : Room j X.A) (ha : DE X g W a fa) (hb : DE X g W b fb) (hc : DE X g W c fc) (m : M2 X a "get" apos b c pos := by exact ⟨rfl, rfl, rfl, rfl⟩) : DE X g W (.Call (.Attribute a "get" apos) [b, c] [] pos) (dDGet fa fb fc) := by
  refine PE.imp (pe_dget2 (hu_of hr) ha hb hc m) fun σ H Q h => ?_
  obtain ⟨F, en, rp, f⟩ := h
  refine ⟨F, en, rp, (Fin.seq f).mono fun F1 H1 en1 x s1 r1 f1 v hv => ?_⟩
  cases e0 : res en1 x with
  | none => rw [e0] at f1; exact f1.elim
  | some d0 =>
    rw [e0] at f1
    cases d0 with
    | dict ps =>
      dsimp only at f1
      split at f1
      · rename_i hh
        obtain ⟨p, kvs, rfl, q, kv⟩ := vw_dK r1.fz (r1.view hv e0) hh
        refine ⟨p, rfl, .inl ⟨kvs, .inl q⟩, F1, en1, r1, (Fin.seq f1).mono fun F2 H2 en2 y s2 r2 f2 u hu => ⟨F2, en2, r2, (Fin.seq f2).mono fun F3 H3 en3 z s3 r3 f3 t ht => ?_⟩⟩
        split at f3
        · rename_i d k e e1
          split at f3
          · rename_i r er
            unfold sDGet at er
            split at er
            · rename_i ps2
              split at er
              · rename_i h2
                cases er
                obtain ⟨k2, hk⟩ := Option.isSome_iff_exists.mp h2.1
                have := keyOf_eq hk
                subst this
                obtain ⟨p2, kvs2, e5, q2, kv2⟩ := vw_dK r3.fz (r3.view (RvOk.mono (s2.trans s3) hv) e1) h2.2
                cases e5
                have := key_v (H := H3) (F := F3) (.fz (Dv.mono s3 hu))
                subst this
                refine ⟨valV kvs2 k2, DGet.k q2, ?_⟩
                cases qv : valP ps2 (keyD k2) with
                | none =>
                  rw [kv2.val.2 qv]
                  exact f3 F3 H3 (Same.refl _) r3 t (by rw [qv]; exact ht)
                | some d2 =>
                  obtain ⟨w, e6, e7⟩ := kv2.val.1 _ qv
                  rw [e6]
                  exact f3 F3 H3 (Same.refl _) r3 w (by rw [qv]; exact e7)
              · cases er
            · cases er
          · exact f3.elim
        · exact f3.elim
      · exact f1.elim
    | _ => exact f1.elim
/-! ### d[k] = v -/
def bDPut (fo fk fv : Ev) : Bd := fun en => (fv en).out fun en1 x => (fo en1).out fun en2 o => (fk en2).out fun en3 y => match x, o, y with
  | .d d, .s i, .d k => (match en3[i]? with
    | some (.own b (.dict ps)) => if (keyOf k).isSome = true ∧ noHead ps = true ∧ ps.length < sizeLine then .nx (en3.set i (.own b (.dict (putP ps k d)))) else .no
    | _ => .no)
  | _, _, _ => .no
theorem own_dK {K : PySem.W.Frag} {F H : Hp} {p : Addr} {ps : List (D × D)} (h : OwnAt K F H p (.dict ps)) (n : noHead ps = true) : ∃ kvs, H p = some (.dK kvs) ∧ DvKV K F kvs ps := by
  cases h with
  | dct q a => exact ⟨_, q, DvKV.of a⟩
  | dctT q a => cases n
theorem ds_dput {j : Nat} (hr : Room j X.A) (ho : DE X g W a fa) (hk : DE X g W b fb) (hv : DE X g W c fc) (hs : swapsWith c (some (.Subscript a b pos')) pos.line X.env = pure false := by rfl) : DS X g W (.Assign [.Subscript a b pos'] c pos) (bDPut fa fb fc) := by
  refine PS.imp (ps_dput (hu_of hr) ho hk hv hs) fun E σ H h => ?_
  obtain ⟨F, en, rp, f⟩ := h
  refine ⟨F, en, rp, FinS.of_out f fun F1 H1 en1 x s1 r1 f1 v hv => ⟨F1, en1, r1, FinS.of_out f1 fun F2 H2 en2 o s2 r2 f2 u hu => ⟨F2, en2, r2, FinS.of_out f2 fun F3 H3 en3 y s3 r3 f3 w hw => ?_⟩⟩⟩
  split at f3
  · rename_i d i k
    split at f3
    · rename_i bb ps e1
      split at f3
      · rename_i hh
        obtain ⟨k2, hk2⟩ := Option.isSome_iff_exists.mp hh.1
        have := keyOf_eq hk2
        subst this
        obtain ⟨p, e2, ow, _⟩ := r3.own i bb _ e1
        have hu' : σ[i]? = some (some u) := hu
        rw [hu'] at e2
        cases e2
        obtain ⟨kvs, q, kv⟩ := own_dK ow hh.2.1
        have := key_v (H := H3) (F := F3) (.fz hw)
        subst this
        refine ⟨p, _, rfl, DPut.k q (by rw [kv.length]; exact hh.2.2), ?_⟩
        exact f3 _ F3 _ (Same.refl _) (r3.write e1 hu' _ ((kv.put (Dv.mono (s2.trans s3) hv)).own upd_same))
      · exact f3.elim
    · exact f3.elim
  · exact f3.elim
end
end DL
/-! Dl19: a written dict. -/
namespace DL
open PySem PySem.Spec L2
open PyProof.Rows hiding St
/-- the pairs, one behind the other -/
def pairsM : List (D × Ev) → En → List (D × D) → Rs (List (D × D))
  | [], en, acc => .ok en acc
  | (k, fv) :: r, en, acc => (match fv en with
    | .ok en1 (.d d) => (match unw en en1 with
      | some en2 => pairsM r en2 (putP acc k d)
      | none => .no)
    | _ => .no)
def oDisp (l : List (D × Ev)) : Ov := fun en => (pairsM l en []).bind fun en1 ps => .ok en1 (.dict ps)
/-- keys that are numbers or texts as written; the values' meanings -/
inductive DPs (X : Cx) : List (Option Expr) → List Expr → List (Key × Ev) → Prop
  | nil : DPs X [] [] []
  | cons {ke v : Expr} {k : Key} {fv : Ev} {keys : List (Option Expr)} {vals : List Expr} {l : List (Key × Ev)} (hk : PE X ke fun _ H Q => Q (kV k) H) (hv : ∀ g', DE X g' (W0 X.K X.mg) v fv) (r : DPs X keys vals l) : DPs X (some ke :: keys) (v :: vals) ((k, fv) :: l)
def keysL (l : List (Key × Ev)) : List (D × Ev) := l.map fun p => (keyD p.1, p.2)
def trsL (K : PySem.W.Frag) (W : XW) (l : List (Key × Ev)) : List (TE × TE) := l.map fun p => ((fun _ H Q => Q (kV p.1) H), fun σ H Q => ∃ g', liftE K g' W p.2 σ H Q)
theorem DPs.pps {X : Cx} {pos : Pos} : ∀ {keys : List (Option Expr)} {vals : List Expr} {l : List (Key × Ev)}, DPs X keys vals l → PPs X pos keys vals (trsL X.K (W0 X.K X.mg) l)
  | _, _, _, .nil => pps_nil
  | _, _, _, .cons hk hv r => pps_cons hk ⟨fun pins s σ H Q I ⟨g', q⟩ => (hv g').run pins s σ H Q I q⟩ r.pps
theorem pairs_walk {K : PySem.W.Frag} {g : Gh} {W W' : XW} {σ : St} {L : Addr} {P : Hp → Hp → En → List (D × D) → Prop} : ∀ (l : List (Key × Ev)) {F H : Hp} {en : En} {acc : List (D × D)} {kv : List (Key × V)} (C : List (V × V) → Hp → Prop),
    Rep K g F en σ H → H L = some (.dK []) → F L = none → g.H0 L = none → ¬ IsOwn en σ L → DvKV K F kv acc → Fin K g W' σ F (pairsM (keysL l) en acc) P →
    (∀ (kvs : List (Key × V)) (F2 H2 : Hp) (en2 : En) (acc2 : List (D × D)), kvs.length = l.length → Rep K g F2 en2 σ H2 → H2 L = some (.dK []) → F2 L = none → ¬ IsOwn en2 σ L → DvKV K F2 (mergeK kv kvs) acc2 → P F2 H2 en2 acc2 → C (kvs.map fun q => (kV q.1, q.2)) H2) →
    tPairs (trsL K W l) σ H C
  | [], F, H, en, acc, kv, C, r, e, nF, n0, nO, a, f, hC => hC [] F H en acc rfl r e nF nO a (f F H (Same.refl _) r)
  | (k, fv) :: l, F, H, en, acc, kv, C, r, e, nF, n0, nO, a, f, hC => by
    obtain ⟨g', hs⟩ := sub_ex g F H en σ
    have rb := r.block (vs := []) hs rfl hs.2.2.2.1
    have f' : Fin K g W' σ F (match fv en with
      | .ok en1 (.d d) => (match unw en en1 with
        | some en2 => pairsM (keysL l) en2 (putP acc (keyD k) d)
        | none => .no)
      | _ => .no) P := f
    have keep : ∀ {F4 H4 : Hp} {en4 : En} {σ4 : St}, Rep K { g' with Pl := [], Rw := [] } F4 en4 σ4 H4 → H4 L = some (.dK []) ∧ F4 L = none := fun {F4 H4 en4 σ4} r4 => by
      obtain ⟨a1, a2, a3, _⟩ := hs
      have n : L ∉ g'.Ps := fun q => nO ((a3 L).mp q)
      exact ⟨r4.fr L _ (by show g'.H0 L = _; rw [a2]; exact e) n, r4.nw L (by show g'.F0 L = _; rw [a1]; exact nF) (by show g'.H0 L ≠ none; rw [a2, e]; exact fun z => by cases z) n⟩
    refine ⟨{ g' with Pl := [], Rw := [] }, F, en, rb, ?_⟩
    show Fin K { g' with Pl := [], Rw := [] } W σ F (fv en) _
    cases e1 : fv en with
    | no => rw [e1] at f'; exact f'.elim
    | ex en1 x => rw [e1] at f'; exact f'.elim
    | ok en1 rv =>
      rw [e1] at f'
      cases rv with
      | s i => exact f'.elim
      | d d =>
        dsimp only at f'
        intro F4 H4 s4 r4 v hv
        cases e2 : unw en en1 with
        | none => rw [e2] at f'; exact f'.elim
        | some en2 =>
          rw [e2] at f'
          obtain ⟨k1, k2⟩ := keep r4
          have hw : ∀ (j : Nat) (b : Bool) (d : D), en[j]? = some (.own b d) → j ∉ ([] : List Nat) := fun _ _ _ _ z => by cases z
          have r5 := r.unblock hs hw rfl r4 rfl s4 e2
          have nO2 : ¬ IsOwn en2 σ L := fun z => by
            obtain ⟨j, b, d, z1, z2⟩ := z
            rcases (unw_at e2).2.2 j _ z1 with ⟨b', d0, d', w1, _, w⟩ | ⟨_, w⟩
            · exact nO ⟨j, b', d0, w1, z2⟩
            · exact w b d rfl
          exact pairs_walk l (fun ps H3 => C ((kV k, v) :: ps) H3) r5 k1 k2 n0 nO2 ((a.mono s4).put hv) (Fin.weak s4 f') fun kvs F2 H2 en3 acc2 hl r6 e6 nF6 nO6 a6 p6 => hC ((k, v) :: kvs) F2 H2 en3 acc2 (congrArg (· + 1) hl) r6 e6 nF6 nO6 a6 p6
section
variable {X : Cx} {g : Gh} {W : XW} {pos : Pos}
theorem do_disp {keys : List (Option Expr)} {vals : List Expr} {l : List (Key × Ev)} (h : DPs X keys vals l) (hall : keys.all (·.isSome) = true := by rfl) (hl : keys.length = vals.length := by rfl) (h0 : keys ≠ [] := by exact fun z => by cases z) (h15 : keys.length ≤ 15 := by decide) (hn : l.length ≤ 15 := by decide) :
    DO X g W (.Dict keys vals pos) (oDisp (keysL l)) := by
  refine PE.imp (pe_disp h.pps hall hl h0 h15) fun σ H Q h => ?_
  obtain ⟨F, en, rp, f⟩ := h
  intro p hp
  obtain ⟨r2, n2⟩ := rp.fresh hp (d := .dict []) (OwnAt.dct (kvs := []) (ds := []) upd_same .nil)
  refine pairs_walk (W := W0 X.K X.mg) l _ r2 upd_same n2.nf n2.nh n2.no .nil (Fin.seq f) fun kvs F2 H2 en2 acc2 hl r6 e6 nF6 nO6 a6 p6 => ?_
  exact ⟨e6, kvs, rfl, by rw [hl]; exact hn, p6 F2 H2 (Same.refl _) r6 p _ (r6.scratch _ nF6 nO6 n2.nh) ⟨a6.own upd_same, nF6, n2.nh, nO6⟩⟩
end
end DL
/-! Dl20: methods of values; several except clauses without names. -/
namespace DL
open PySem PySem.Spec L2
open PyProof.Rows hiding St
section
variable {X : Cx} {g : Gh} {W : XW} {a b c : Expr} {es : List Expr} {fa fb fc : Ev} {av : Av} {pos p apos pos' : Pos}
/-! ### v.m(..), v a value -/
def dMeth (q : D → Bool) (sem : D → List D → Option D) (fo : Ev) (av : Av) : Ev := fun en => (fo en).bind fun en1 x => match res en1 x with
  | some d0 => if q d0 = true then (av en1).bind fun en2 xs => (match res en2 x, resAll en2 xs with
      | some d, some ds => (match sem d ds with
        | some r => .ok en2 (.d r)
        | none => .no)
      | _, _ => .no) else .no
  | none => .no
/-- the receiver's type, by its datum -/
def IsT (K : PySem.W.Frag) (q : D → Bool) (T : String) : Prop := ∀ F H v d, Same F H → Vw K F H v d → q d = true → tyV K T v H
def SemV (K : PySem.W.Frag) (r : V → List V → Hp → VK → Prop) (sem : D → List D → Option D) : Prop := ∀ F H v d vs ds c Q, Same F H → Vw K F H v d → VwAll K F H vs ds → sem d ds = some c → Give K F H c Q → r v vs H Q
theorem isT_list {K : PySem.W.Frag} : IsT K isListD "list" := fun F H v d s h q => by
  cases h with
  | fz h =>
    cases h with
    | lst q' _ => exact .inl ⟨rfl, _, .inl (.inl (s _ _ q'))⟩
    | _ => cases q
  | own h _ =>
    cases h with
    | lst q' _ => exact .inl ⟨rfl, _, .inl (.inl q')⟩
    | dct _ _ => cases q
    | dctT _ _ => cases q
theorem de_meth {q : D → Bool} {T id : String} {r : V → List V → Hp → VK → Prop} {sem : D → List D → Option D} {name : Str} (hq : IsT X.K q T) (hs : SemV X.K r sem) (pa : PlainAttrs T) (slot : Slot T name id) (hty : typeOf (.builtin id) = pure (.type "method_descriptor")) (hm : MtR X id r)
    (ho : DE X g W a fa) (ha : DA X g W (b :: es) av) (hbase : attributeBase a name X.env (eval a X.env) = eval a X.env := by rfl)
    (hfew : ((backTo pos (starEach (b :: es) X.env)).all (fun x => !x.1) && (backToKw pos (keywordEach [] X.env)).all (fun x => x.1.isSome)
      && decide ((b :: es).length + ([] : List Keyword).length + (if ([] : List Keyword).isEmpty then 0 else 1) < 30)) = true := by rfl)
    (hline : (apos.endLine == pos.line) = true := by rfl) (h1 : starEach (b :: es) X.env = (false, eval b X.env) :: starEach es X.env := by rfl) (hpl : (backTo pos (starEach es X.env)).any (·.1) = false := by rfl) :
    DE X g W (.Call (.Attribute a name apos) (b :: es) [] pos) (dMeth q sem fa av) :=
  PE.imp (pe_bm pa slot hty hm ho ha hbase hfew hline h1 hpl) fun σ H Q h => by
    obtain ⟨F, en, rp, f⟩ := h
    refine ⟨F, en, rp, (Fin.seq f).mono fun F1 H1 en1 x s1 r1 f1 v hv => ?_⟩
    cases e0 : res en1 x with
    | none => rw [e0] at f1; exact f1.elim
    | some d0 =>
      rw [e0] at f1
      dsimp only at f1
      split at f1
      · rename_i hq0
        refine ⟨hq F1 H1 v d0 r1.fz (r1.view hv e0) hq0, F1, en1, r1, (Fin.seq f1).mono fun F2 H2 en2 xs s2 r2 f2 vs hvs => ?_⟩
        split at f2
        · rename_i d ds e1 e2
          split at f2
          · rename_i rr e3
            exact hs F2 H2 v d vs ds rr Q r2.fz (r2.view (RvOk.mono s2 hv) e1) (r2.viewAll hvs e2) e3 (fin1 r2 rfl f2)
          · exact f2.elim
        · exact f2.elim
      · exact f1.elim
/-! ### xs.index(y) -/
def idxOf (d : D) : List D → Nat → Option Nat
  | [], _ => none
  | z :: r, n => if PyData.eqv z d = true then some n else idxOf d r (n + 1)
def sIndex : D → List D → Option D
  | .list ds, [d] => if SeqAt.shaped (.list ds) = true ∧ SeqAt.shaped d = true then (idxOf d ds 0).map fun n => .int (n : Nat) else none
  | _, _ => none
theorem idxOf_at {d : D} : ∀ {ds : List D} {m n : Nat}, idxOf d ds m = some n → ∃ j z, n = m + j ∧ ds[j]? = some z ∧ PyData.eqv z d = true ∧ ∀ (k : Nat) (z' : D), k < j → ds[k]? = some z' → PyData.eqv z' d = false
  | [], _, _, e => by cases e
  | z :: r, m, n, e => by
    unfold idxOf at e
    by_cases h : PyData.eqv z d = true
    · rw [if_pos h] at e
      cases e
      exact ⟨0, z, rfl, rfl, h, fun k z' hk => absurd hk (Nat.not_lt_zero _)⟩
    · rw [if_neg h] at e
      obtain ⟨j, y, e1, e2, e3, e4⟩ := idxOf_at e
      refine ⟨j + 1, y, by omega, e2, e3, fun k z' hk ez => ?_⟩
      cases k with
      | zero =>
        have : z = z' := by simpa using ez
        subst this
        simpa using h
      | succ k => exact e4 k z' (by omega) (by simpa using ez)
theorem shaped_lay {d : D} (h : SeqAt.shaped d = true) : d.canLay0 = true := by
  unfold SeqAt.shaped at h
  exact (Bool.and_eq_true_iff.mp h).1
theorem sv_index {K : PySem.W.Frag} : SemV K (rIndexD K) sIndex := by
  intro F H v d vs ds c Q s hv hvs hs gv
  unfold sIndex at hs
  split at hs
  · rename_i xs d2
    split at hs
    · rename_i hh
      cases hvs with
      | cons h1 h2 =>
        cases h2
        rename_i u
        cases q : idxOf d2 xs 0 with
        | none => rw [q] at hs; cases hs
        | some n =>
          rw [q] at hs
          cases hs
          obtain ⟨j, z, e1, e2, e3, e4⟩ := idxOf_at q
          have p1 := vw_dp s (shaped_lay hh.1) hv
          have p2 := vw_dp s (shaped_lay hh.2) h1
          obtain ⟨a, rfl⟩ : ∃ a, v = .ref a := by
            cases hv with
            | fz h => cases h; exact ⟨_, rfl⟩
            | own h _ => exact ⟨_, rfl⟩
          have : n = j := by omega
          subst this
          exact ⟨a, u, d2, xs, n, z, rfl, rfl, p1, p2, hh.1, hh.2, e2, e3, e4, gv.of s (.int _)⟩
    · cases hs
  · cases hs
theorem de_index {j : Nat} (hr : Room j X.A) (ho : DE X g W a fa) (hb : DE X g W b fb) (hbase : attributeBase a "index" X.env (eval a X.env) = eval a X.env := by rfl)
    (hfew : ((backTo pos (starEach [b] X.env)).all (fun x => !x.1) && (backToKw pos (keywordEach [] X.env)).all (fun x => x.1.isSome)
      && decide ([b].length + ([] : List Keyword).length + (if ([] : List Keyword).isEmpty then 0 else 1) < 30)) = true := by rfl)
    (hline : (apos.endLine == pos.line) = true := by rfl) (h1 : starEach [b] X.env = (false, eval b X.env) :: starEach [] X.env := by rfl) :
    DE X g W (.Call (.Attribute a "index" apos) [b] [] pos) (dMeth isListD sIndex fa (aCons fb aNil)) :=
  de_meth isT_list sv_index PySem.F.plainAttrs_list PySem.F.slot_list_index PySem.F.type_list_index (mt_indexD (u65 hr)) ho (da_cons hb da_nil h1) hbase hfew hline h1
/-! ### except clauses, one behind the other, without names -/
def findC : List (Str × Bd) → Str → Option Bd
  | [], _ => none
  | (n, b) :: r, x => if n = x then some b else findC r x
def bTryM (cl : List (Str × Bd)) (body : Bd) : Bd := fun en => match body en with
  | .ex en1 x => if x.fs = [] then (match findC cl x.cls with
      | some sb => (match sb en1 with
        | .ex _ _ => .no
        | o => o)
      | none => .no) else .no
  | o => o
inductive ClsM (X : Cx) : List ExceptHandler → List (Str × Addr × Bd) → Prop
  | nil : ClsM X [] []
  | cons {x : Str} {C : Addr} {sb : Bd} {b₀ : Stmt} {suite : List Stmt} {np pos' : Pos} {hds : List ExceptHandler} {l : List (Str × Addr × Bd)} (m : X.mg x = some (.ref C)) (hg : Gl X x) (hdb : (x == ("__debug__" : Str)) = false) (self : PySem.W.exmOne X.K (.ref C) (.ref C) = some true)
      (hsu : ∀ (a : Addr) (oe : Obj) (pn : List (Addr × Obj)) (g' : Gh), DSs (X.suite a ((a, oe) :: pn)) g' (W0 X.K X.mg) (b₀ :: suite) sb) (r : ClsM X hds l) : ClsM X (.ExceptHandler (some (.Name x np)) none (b₀ :: suite) pos' :: hds) ((x, C, sb) :: l)
def tsM (K : PySem.W.Frag) (W : XW) (C : Addr) (sb : Bd) : Addr → Value → Option Addr → TS := fun _ cls d E σ H => ∃ g', cls = .ref C ∧ d = none ∧ liftS K g' W sb E σ H
theorem ClsM.ok {X : Cx} : ∀ {hds : List ExceptHandler} {l : List (Str × Addr × Bd)}, ClsM X hds l → HdsOk X hds (l.map fun p => (.ref p.2.1, tsM X.K (W0 X.K X.mg) p.2.1 p.2.2))
  | _, _, .nil => .nil
  | _, _, .cons m hg hdb self hsu r => .cons ⟨hg, hdb, .inl m⟩ (fun a oe cls d pn _ _ => ⟨fun pins s σ H D I ⟨g', _, _, q⟩ => (hsu a oe pn g').run pins s σ H D I q⟩) r.ok
def namesL (l : List (Str × Addr × Bd)) : List (Str × Bd) := l.map fun p => (p.1, p.2.2)
theorem ClsM.mem {X : Cx} : ∀ {hds : List ExceptHandler} {l : List (Str × Addr × Bd)}, ClsM X hds l → ∀ p ∈ l, X.mg p.1 = some (.ref p.2.1)
  | _, _, .nil => fun p hp => nomatch hp
  | _, _, .cons m hg hdb self hsu r => fun p hp => by
    rcases List.mem_cons.mp hp with rfl | hp
    · exact m
    · exact r.mem p hp
theorem findC_mem {nm : Str} {sb : Bd} : ∀ {l : List (Str × Addr × Bd)}, findC (namesL l) nm = some sb → ∃ p ∈ l, p.1 = nm
  | [], h => nomatch h
  | (x, C, b) :: l, h => by
    unfold namesL findC at h
    by_cases e : x = nm
    · exact ⟨_, List.mem_cons_self, e⟩
    · have h' : (if x = nm then some b else findC (namesL l) nm) = some sb := h
      rw [if_neg e] at h'
      obtain ⟨p, hp, e2⟩ := findC_mem h'
      exact ⟨p, List.mem_cons_of_mem _ hp, e2⟩
theorem wMany_find {X : Cx} {Wout : WX} {D : Ends} {nm : Str} {sb : Bd} {C : Addr} {σ : St} {H : Hp} (hm : X.mg nm = some (.ref C)) (h : ∀ a, H a = none → tsM X.K (W0 X.K X.mg) C sb a (.ref C) none D σ H) :
    ∀ {hds : List ExceptHandler} {l : List (Str × Addr × Bd)}, ClsM X hds l → findC (namesL l) nm = some sb → (∀ p ∈ l, ∀ q ∈ l, p.1 ≠ q.1 → PySem.W.exmOne X.K (.ref q.2.1) (.ref p.2.1) = some false) →
      wMany X.K Wout D (l.map fun p => (.ref p.2.1, tsM X.K (W0 X.K X.mg) p.2.1 p.2.2)) (.ref C) none σ H
  | _, _, .nil, e, _ => by cases e
  | _, _, .cons (x := x) (C := C0) (sb := b0) (l := l) m hg hdb self hsu r, e, ap => by
    have e' : (if x = nm then some b0 else findC (namesL l) nm) = some sb := e
    by_cases q : x = nm
    · rw [if_pos q] at e'
      cases e'
      subst q
      rw [m] at hm
      cases hm
      exact ⟨true, self, fun _ a ha => h a ha, fun z => by cases z⟩
    · rw [if_neg q] at e'
      obtain ⟨p, hp, ep⟩ := findC_mem e'
      have hpm := r.mem p hp
      rw [ep, hm] at hpm
      have eC : C = p.2.1 := by
        have := Option.some.inj hpm
        injection this
      have hx := ap _ List.mem_cons_self p (List.mem_cons_of_mem _ hp) (fun z => q (z.trans ep))
      refine ⟨false, (by rw [eC]; exact hx), (fun z => nomatch z), fun _ => ?_⟩
      exact wMany_find hm h r e' fun p hp q hq => ap p (List.mem_cons_of_mem _ hp) q (List.mem_cons_of_mem _ hq)
theorem ds_tryM {Wh : WX} {body : List Stmt} {h₀ : ExceptHandler} {hds : List ExceptHandler} {l : List (Str × Addr × Bd)} {bb : Bd} (hs : X.stack = X.env :: X.outer) (hf : X.env.frame = some X.env.locals) (tk : Takes X Wh)
    (hb : ∀ (W : WX) (pn : List (Addr × Obj)) (xe : Value → Shared → Prop), Takes (X.tr pn xe) W → PassesOwn (model X.prog X.w) X.A X.env xe → DSs (X.tr pn xe) g (WH X.K X.mg W) body bb)
    (hc : ClsM X (h₀ :: hds) l) (ap : ∀ p ∈ l, ∀ q ∈ l, p.1 ≠ q.1 → PySem.W.exmOne X.K (.ref q.2.1) (.ref p.2.1) = some false) :
    DS X g (WH X.K X.mg Wh) (.Try body (h₀ :: hds) [] [] pos) (bTryM (namesL l) bb) := by
  refine PS.imp (ps_try_many hs hf tk (tb := fun W => liftS X.K g (WH X.K X.mg W) bb) hb hc.ok) fun E σ H h => ?_
  obtain ⟨F, en, rp, f⟩ := h
  refine ⟨F, en, rp, ?_⟩
  unfold bTryM at f
  cases e1 : bb en with
  | nx en1 => rw [e1] at f; exact f
  | rt en1 r => rw [e1] at f; exact f
  | bk en1 => rw [e1] at f; exact f
  | ct en1 => rw [e1] at f; exact f
  | no => rw [e1] at f; exact f
  | ex en1 xx =>
    rw [e1] at f
    dsimp only at f
    split at f
    · rename_i hx
      split at f
      · rename_i sb es
        intro σ1 F1 H1 s1 r1 cls dx er
        obtain ⟨m1, m2⟩ := er
        have ed : dx = none := by
          rcases m2 with ⟨_, z⟩ | ⟨a, vs, z, _⟩
          · exact z
          · exact absurd hx z
        subst ed
        obtain ⟨p, hp, ep⟩ := findC_mem es
        have hpm := hc.mem p hp
        rw [ep, m1] at hpm
        have eC := Option.some.inj hpm
        subst eC
        refine wMany_find m1 (fun a _ => ⟨g, rfl, rfl, F1, en1, r1, ?_⟩) hc es ap
        cases e2 : sb en1 with
        | nx e3 => rw [e2] at f; exact fun σ2 F2 H2 s2 r3 => f σ2 F2 H2 (s1.trans s2) r3
        | rt e3 rr => rw [e2] at f; exact fun v σ2 F2 H2 s2 r3 ro => f v σ2 F2 H2 (s1.trans s2) r3 ro
        | bk e3 => rw [e2] at f; exact fun σ2 F2 H2 s2 r3 => f σ2 F2 H2 (s1.trans s2) r3
        | ct e3 => rw [e2] at f; exact fun σ2 F2 H2 s2 r3 => f σ2 F2 H2 (s1.trans s2) r3
        | ex e3 x3 => rw [e2] at f; exact f.elim
        | no => rw [e2] at f; exact f.elim
      · exact f.elim
    · exact f.elim
end
end DL
/-! Dl21: a local thing handed back; results of calls handed on. -/
namespace DL
open PySem PySem.Spec L2
open PyProof.Rows hiding St
section
variable {K : PySem.W.Frag} {g : Gh} {F H : Hp} {en : En} {σ : St}
theorem Rep.give (hf : Full g) (r : Rep K g F en σ H) {i : Nat} {d : D} (e : en[i]? = some (.own false d)) (hc : canPut en i = true) : ∃ p : Addr, σ[i]? = some (some (.ref p)) ∧ Rep K g F (en.set i .un) σ H ∧ New K g F H (en.set i .un) σ p d := by
  obtain ⟨p, e1, ow, nF, hp⟩ := r.own i false d e
  have h0 : g.H0 p = none := hp.elim (fun z => by
      obtain ⟨j, hj⟩ := hf p z
      obtain ⟨q1, d', q2⟩ := r.pl j p hj
      by_cases hij : i = j
      · subst hij
        rw [e] at q2
        cases q2
      · exact absurd (e1.trans q1.symm) (r.sep i j false true d d' hij e q2)) fun z => z
  have li := (List.getElem?_eq_some_iff.mp e).1
  have at_ : ∀ {k : Nat} {t : Sl}, (en.set i .un)[k]? = some t → (k = i ∧ t = .un) ∨ (k ≠ i ∧ en[k]? = some t) := fun {k t} q => by
    by_cases hk : k = i
    · subst hk
      rw [List.getElem?_set_self li] at q
      exact .inl ⟨rfl, (Option.some.inj q).symm⟩
    · rw [List.getElem?_set_ne (Ne.symm hk)] at q
      exact .inr ⟨hk, q⟩
  have keep : ∀ {k : Nat} {t : Sl}, k ≠ i → en[k]? = some t → (en.set i .un)[k]? = some t := fun hk q => by
    rw [List.getElem?_set_ne (Ne.symm hk)]
    exact q
  refine ⟨p, e1, ⟨r.fz, r.fr, r.al, r.nw, by simpa using r.len, fun k d' q => ?_, fun k b d' q => ?_, fun k j q => ?_, fun k j b c d' e' hne q1 q2 => ?_, fun k q hm => ?_, fun k q hm => ?_⟩, ⟨ow, nF, h0, fun z => ?_⟩⟩
  · rcases at_ q with ⟨_, z⟩ | ⟨_, z⟩
    · cases z
    · exact r.val k d' z
  · rcases at_ q with ⟨_, z⟩ | ⟨_, z⟩
    · cases z
    · exact r.own k b d' z
  · rcases at_ q with ⟨_, z⟩ | ⟨_, z⟩
    · cases z
    · obtain ⟨z1, b, d', z2⟩ := r.ali k j z
      exact ⟨z1, b, d', keep (r.noAli hc z) z2⟩
  · rcases at_ q1 with ⟨_, z⟩ | ⟨_, z⟩
    · cases z
    · rcases at_ q2 with ⟨_, z2⟩ | ⟨_, z2⟩
      · cases z2
      · exact r.sep k j b c d' e' hne z z2
  · obtain ⟨z1, d', z2⟩ := r.pl k q hm
    exact ⟨z1, d', keep (fun w => by subst w; rw [e] at z2; cases z2) z2⟩
  · obtain ⟨z1, z2⟩ := r.rw k q hm
    exact ⟨z1, keep (fun w => by subst w; rw [e] at z2; cases z2) z2⟩
  · obtain ⟨k, b, d', z1, z2⟩ := z
    rcases at_ z1 with ⟨_, z⟩ | ⟨hk, z⟩
    · cases z
    · exact r.sep k i b false d' d hk z e (z2.trans e1.symm)
end
/-- slot i's own thing, handed on -/
def oVar (i : Nat) : Ov := fun en => match en[i]? with
  | some (.own false d) => if canPut en i = true then .ok (en.set i .un) d else .no
  | _ => .no
section
variable {X : Cx} {g : Gh} {W : XW} {pos : Pos} {x : Str}
theorem do_var (hf : Full g) (i : Nat) (hN : X.N[i]? = some x := by rfl) (hv : Vis X.env.scope x := by first | exact .inl rfl | exact .inr (.inl rfl) | exact .inr (.inr rfl)) (hd : (x == ("__debug__" : Str)) = false := by decide) (hcd : (x == ("__classdict__" : Str)) = false := by decide) : DO X g W (.Name x pos) (oVar i) := by
  refine PE.imp (pe_var hN hv hd hcd) fun σ H Q h => ?_
  obtain ⟨F, en, rp, f⟩ := h
  unfold oVar at f
  split at f
  · rename_i d q
    split at f
    · rename_i hc
      obtain ⟨p, e1, r2, n2⟩ := rp.give hf q hc
      exact ⟨.ref p, e1, f F H (Same.refl _) r2 p H r2 n2⟩
    · exact f.elim
  · exact f.elim
/-- f() -/
def dCall0 (fs : Fs) : Ev := fun en => match fs [] with
  | .ok (.v d) [] => .ok en (.d d)
  | _ => .no
theorem f0_ {fs : Fs} {j k : Nat} {p : Pos} (C : Callee X.prog X.w X.K X.mg X.base x j fs) (hr : Room k X.A) (hj : j ≤ k := by first | decide | exact Nat.le_refl _ | omega) (hg : Gl X x := by rfl) (hdb : (x == ("__debug__" : Str)) = false := by decide) : DE X g W (.Call (.Name x p) [] [] pos) (dCall0 fs) := by
  obtain ⟨f, fd, ps, hm, F, hk, hb⟩ := C.ex
  refine PE.imp (pe_call0 (E := fun _ _ _ => False) F (hr.mono hj) hg hm hk hb .nil (fun _ _ _ _ _ _ _ h => by obtain ⟨_, _, _, _, _, _, _, _, _, _, _, _, z⟩ := h; exact z.elim) hdb) fun σ H Q h => ?_
  obtain ⟨F1, en, rp, f1⟩ := h
  unfold dCall0 at f1
  refine ⟨F1, [], [], rp.fz, trivial, List.nodup_nil, ?_⟩
  split at f1
  · rename_i d e
    rw [e]
    intro v F' H' x _ hr
    have ex : Ext F1 H F' H' := ⟨fun a o q => x.fr a o q (fun z => nomatch z), x.le, x.sub, fun a h1 h2 => x.nw a h1 h2 fun z => nomatch z⟩
    exact f1 F' H' x.le (rp.ext ex) v hr
  · exact f1.elim
end
section
variable {K : PySem.W.Frag} {x1 x2 x3 : Str} {C1 C2 C3 : Addr} {b1 b2 b3 : Bd}
theorem ap_all1 : ∀ p ∈ [(x1, C1, b1)], ∀ q ∈ [(x1, C1, b1)], p.1 ≠ q.1 → PySem.W.exmOne K (.ref q.2.1) (.ref p.2.1) = some false := by
  intro p hp q hq h
  simp only [List.mem_cons, List.not_mem_nil, or_false] at hp hq
  subst hp hq
  exact absurd rfl h
theorem ap_all2 (h12 : PySem.W.exmOne K (.ref C2) (.ref C1) = some false) (h21 : PySem.W.exmOne K (.ref C1) (.ref C2) = some false) : ∀ p ∈ [(x1, C1, b1), (x2, C2, b2)], ∀ q ∈ [(x1, C1, b1), (x2, C2, b2)], p.1 ≠ q.1 → PySem.W.exmOne K (.ref q.2.1) (.ref p.2.1) = some false := by
  intro p hp q hq h
  simp only [List.mem_cons, List.not_mem_nil, or_false] at hp hq
  rcases hp with rfl | rfl <;> rcases hq with rfl | rfl <;> first | exact absurd rfl h | assumption
theorem ap_all3 (h12 : PySem.W.exmOne K (.ref C2) (.ref C1) = some false) (h13 : PySem.W.exmOne K (.ref C3) (.ref C1) = some false) (h21 : PySem.W.exmOne K (.ref C1) (.ref C2) = some false) (h23 : PySem.W.exmOne K (.ref C3) (.ref C2) = some false) (h31 : PySem.W.exmOne K (.ref C1) (.ref C3) = some false) (h32 : PySem.W.exmOne K (.ref C2) (.ref C3) = some false) :
    ∀ p ∈ [(x1, C1, b1), (x2, C2, b2), (x3, C3, b3)], ∀ q ∈ [(x1, C1, b1), (x2, C2, b2), (x3, C3, b3)], p.1 ≠ q.1 → PySem.W.exmOne K (.ref q.2.1) (.ref p.2.1) = some false := by
  intro p hp q hq h
  simp only [List.mem_cons, List.not_mem_nil, or_false] at hp hq
  rcases hp with rfl | rfl | rfl <;> rcases hq with rfl | rfl | rfl <;> first | exact absurd rfl h | assumption
end
end DL
/-! Dend2: classes that clauses without names ask for. -/
namespace DL
open PySem PySem.Spec L2
open PyProof.Rows hiding St
section
variable {K : PySem.W.Frag} {mg : Str → Option Value} {h : Heap} {x y z : Str}
/-- what a clause asks of one class -/
def ClA (K : PySem.W.Frag) (C : Addr) : Prop := PySem.W.subIn K (.ref C) (.type "BaseException") = some true ∧ PySem.W.hasDictIn K C = true ∧ PySem.W.typeIn K (.ref C) = some (.type "type")
theorem ClA.exm {C : Addr} {cls : Value} {b : Bool} (c : ClA K C) (s : PySem.W.subIn K cls (.ref C) = some b) : PySem.W.exmOne K cls (.ref C) = some b := PySem.W.exm_ref c.1 c.2.1 c.2.2 s
def Cl1 (K : PySem.W.Frag) (mg : Str → Option Value) (x : Str) : Prop := ∃ C1 : Addr, mg x = some (.ref C1) ∧ PySem.W.exmOne K (.ref C1) (.ref C1) = some true
theorem Cl1.in_ {C1 : Addr} (X : K.In h) (G : h.Ns mainGlobals mg) (a1 : PySem.W.nsIn K mainGlobals x = some (some (.ref C1)))
    (s1 : PySem.W.subIn K (.ref C1) (.type "BaseException") = some true) (d1 : PySem.W.hasDictIn K C1 = true) (t1 : PySem.W.typeIn K (.ref C1) = some (.type "type"))
    (p11 : PySem.W.subIn K (.ref C1) (.ref C1) = some true) : Cl1 K mg x :=
  have c1 : ClA K C1 := ⟨s1, d1, t1⟩
  ⟨C1, PySem.W.mg_of X G a1, c1.exm p11⟩
def Cl2 (K : PySem.W.Frag) (mg : Str → Option Value) (x y : Str) : Prop := ∃ C1 C2 : Addr, mg x = some (.ref C1) ∧ mg y = some (.ref C2) ∧
  PySem.W.exmOne K (.ref C1) (.ref C1) = some true ∧ PySem.W.exmOne K (.ref C2) (.ref C2) = some true ∧
  PySem.W.exmOne K (.ref C2) (.ref C1) = some false ∧ PySem.W.exmOne K (.ref C1) (.ref C2) = some false
theorem Cl2.in_ {C1 C2 : Addr} (X : K.In h) (G : h.Ns mainGlobals mg) (a1 : PySem.W.nsIn K mainGlobals x = some (some (.ref C1))) (a2 : PySem.W.nsIn K mainGlobals y = some (some (.ref C2)))
    (s1 : PySem.W.subIn K (.ref C1) (.type "BaseException") = some true) (d1 : PySem.W.hasDictIn K C1 = true) (t1 : PySem.W.typeIn K (.ref C1) = some (.type "type"))
    (s2 : PySem.W.subIn K (.ref C2) (.type "BaseException") = some true) (d2 : PySem.W.hasDictIn K C2 = true) (t2 : PySem.W.typeIn K (.ref C2) = some (.type "type"))
    (p11 : PySem.W.subIn K (.ref C1) (.ref C1) = some true) (p22 : PySem.W.subIn K (.ref C2) (.ref C2) = some true)
    (p21 : PySem.W.subIn K (.ref C2) (.ref C1) = some false) (p12 : PySem.W.subIn K (.ref C1) (.ref C2) = some false) : Cl2 K mg x y :=
  have c1 : ClA K C1 := ⟨s1, d1, t1⟩
  have c2 : ClA K C2 := ⟨s2, d2, t2⟩
  ⟨C1, C2, PySem.W.mg_of X G a1, PySem.W.mg_of X G a2, c1.exm p11, c2.exm p22, c1.exm p21, c2.exm p12⟩
def Cl3 (K : PySem.W.Frag) (mg : Str → Option Value) (x y z : Str) : Prop := ∃ C1 C2 C3 : Addr, mg x = some (.ref C1) ∧ mg y = some (.ref C2) ∧ mg z = some (.ref C3) ∧
  PySem.W.exmOne K (.ref C1) (.ref C1) = some true ∧ PySem.W.exmOne K (.ref C2) (.ref C2) = some true ∧ PySem.W.exmOne K (.ref C3) (.ref C3) = some true ∧
  PySem.W.exmOne K (.ref C2) (.ref C1) = some false ∧ PySem.W.exmOne K (.ref C3) (.ref C1) = some false ∧ PySem.W.exmOne K (.ref C1) (.ref C2) = some false ∧
  PySem.W.exmOne K (.ref C3) (.ref C2) = some false ∧ PySem.W.exmOne K (.ref C1) (.ref C3) = some false ∧ PySem.W.exmOne K (.ref C2) (.ref C3) = some false
theorem Cl3.in_ {C1 C2 C3 : Addr} (X : K.In h) (G : h.Ns mainGlobals mg) (a1 : PySem.W.nsIn K mainGlobals x = some (some (.ref C1))) (a2 : PySem.W.nsIn K mainGlobals y = some (some (.ref C2))) (a3 : PySem.W.nsIn K mainGlobals z = some (some (.ref C3)))
    (s1 : PySem.W.subIn K (.ref C1) (.type "BaseException") = some true) (d1 : PySem.W.hasDictIn K C1 = true) (t1 : PySem.W.typeIn K (.ref C1) = some (.type "type"))
    (s2 : PySem.W.subIn K (.ref C2) (.type "BaseException") = some true) (d2 : PySem.W.hasDictIn K C2 = true) (t2 : PySem.W.typeIn K (.ref C2) = some (.type "type"))
    (s3 : PySem.W.subIn K (.ref C3) (.type "BaseException") = some true) (d3 : PySem.W.hasDictIn K C3 = true) (t3 : PySem.W.typeIn K (.ref C3) = some (.type "type"))
    (p11 : PySem.W.subIn K (.ref C1) (.ref C1) = some true) (p22 : PySem.W.subIn K (.ref C2) (.ref C2) = some true) (p33 : PySem.W.subIn K (.ref C3) (.ref C3) = some true)
    (p21 : PySem.W.subIn K (.ref C2) (.ref C1) = some false) (p31 : PySem.W.subIn K (.ref C3) (.ref C1) = some false) (p12 : PySem.W.subIn K (.ref C1) (.ref C2) = some false)
    (p32 : PySem.W.subIn K (.ref C3) (.ref C2) = some false) (p13 : PySem.W.subIn K (.ref C1) (.ref C3) = some false) (p23 : PySem.W.subIn K (.ref C2) (.ref C3) = some false) : Cl3 K mg x y z :=
  have c1 : ClA K C1 := ⟨s1, d1, t1⟩
  have c2 : ClA K C2 := ⟨s2, d2, t2⟩
  have c3 : ClA K C3 := ⟨s3, d3, t3⟩
  ⟨C1, C2, C3, PySem.W.mg_of X G a1, PySem.W.mg_of X G a2, PySem.W.mg_of X G a3, c1.exm p11, c2.exm p22, c3.exm p33, c1.exm p21, c1.exm p31, c2.exm p12, c2.exm p32, c3.exm p13, c3.exm p23⟩
end
end DL
/-! Dl22: texts: sep.join(xs), text.split(sep), str(x), int(text); [..] * n owned. -/
namespace DL
open PySem PySem.Spec L2
open PyProof.Rows hiding St
section
variable {X : Cx} {g : Gh} {W : XW} {a b c : Expr} {es : List Expr} {fa fb fc : Ev} {av : Av} {pos p apos pos' : Pos}
def isStrD : D → Bool
  | .str _ => true
  | _ => false
theorem isT_str {K : PySem.W.Frag} : IsT K isStrD "str" := fun F H v d s h q => by
  cases d <;> first | (cases q; done) | skip
  rw [vw_str h]
  rfl
def strsOf : List D → Option (List Str)
  | [] => some []
  | .str x :: r => (strsOf r).map (x :: ·)
  | _ => none
theorem strsOf_eq : ∀ {ds : List D} {ys : List Str}, strsOf ds = some ys → ds = ys.map PyData.str
  | [], ys, e => by cases e; rfl
  | d :: r, ys, e => by
    cases d <;> first | (cases e; done) | skip
    rename_i x
    unfold strsOf at e
    cases q : strsOf r with
    | none => rw [q] at e; cases e
    | some zs =>
      rw [q] at e
      cases e
      rw [strsOf_eq q]
      rfl
theorem dvAll_strs {K : PySem.W.Frag} {F : Hp} : ∀ {ys : List Str} {vs : List V}, DvAll K F vs (ys.map PyData.str) → vs = ys.map V.str
  | [], vs, h => by cases h; rfl
  | y :: r, vs, h => by
    cases h with
    | cons h1 h2 =>
      cases h1
      rw [dvAll_strs h2]
      rfl
def joinOk (a : Str) (ys : List Str) : Bool := decide ((ys.map (·.length)).sum + ys.length * a.length ≤ 16777216)
def sJoin : D → List D → Option D
  | .str a, [.list ds] => (strsOf ds).bind fun ys => if joinOk a ys = true then some (.str (Txt.join a ys)) else none
  | .str a, [.tuple ds] => (strsOf ds).bind fun ys => if joinOk a ys = true then some (.str (Txt.join a ys)) else none
  | _, _ => none
def rJoin (K : PySem.W.Frag) : V → List V → Hp → VK → Prop := fun x xs H Q => ∃ a p, ∃ ys : List Str, x = .str a ∧ xs = [.ref p] ∧ (SqL K H p (ys.map V.str) ∨ SqT K H p (ys.map V.str)) ∧ (ys.map (·.length)).sum + ys.length * a.length ≤ 16777216 ∧ Q (.str (Txt.join a ys)) H
theorem mt_join' : MtR X "str.join" (rJoin X.K) := mt_join
theorem sv_join {K : PySem.W.Frag} : SemV K (rJoin K) sJoin := by
  intro F H v d vs ds c Q s hv hvs hs gv
  unfold sJoin at hs
  split at hs
  · rename_i a es
    cases q : strsOf es with
    | none => rw [q] at hs; cases hs
    | some ys =>
      rw [q] at hs
      simp only [Option.bind_some] at hs
      split at hs
      · rename_i hj
        cases hs
        obtain ⟨u, rfl, h1⟩ := vwAll1 hvs
        obtain ⟨l, xs, rfl, q1, al⟩ := vw_lst s h1
        have := strsOf_eq q
        subst this
        have := dvAll_strs al
        subst this
        exact ⟨a, l, ys, vw_str hv, rfl, .inl (.inl (.inl q1)), of_decide_eq_true hj, gv.of s (.str _)⟩
      · cases hs
  · rename_i a es
    cases q : strsOf es with
    | none => rw [q] at hs; cases hs
    | some ys =>
      rw [q] at hs
      simp only [Option.bind_some] at hs
      split at hs
      · rename_i hj
        cases hs
        obtain ⟨u, rfl, h1⟩ := vwAll1 hvs
        obtain ⟨l, xs, rfl, q1, al, _⟩ := vw_tup s h1
        have := strsOf_eq q
        subst this
        have := dvAll_strs al
        subst this
        exact ⟨a, l, ys, vw_str hv, rfl, .inr q1, of_decide_eq_true hj, gv.of s (.str _)⟩
      · cases hs
  · cases hs
theorem de_join (ho : DE X g W a fa) (hb : DE X g W b fb) (hbase : attributeBase a "join" X.env (eval a X.env) = eval a X.env := by rfl)
    (hfew : ((backTo pos (starEach [b] X.env)).all (fun x => !x.1) && (backToKw pos (keywordEach [] X.env)).all (fun x => x.1.isSome)
      && decide ([b].length + ([] : List Keyword).length + (if ([] : List Keyword).isEmpty then 0 else 1) < 30)) = true := by rfl)
    (hline : (apos.endLine == pos.line) = true := by rfl) (h1 : starEach [b] X.env = (false, eval b X.env) :: starEach [] X.env := by rfl) :
    DE X g W (.Call (.Attribute a "join" apos) [b] [] pos) (dMeth isStrD sJoin fa (aCons fb aNil)) :=
  de_meth isT_str sv_join PySem.F.plainAttrs_str PySem.F.slot_str_join PySem.F.type_str_join mt_join' ho (da_cons hb da_nil h1) hbase hfew hline h1
/-! ### str(x) -/
def sStr : List D → Option D
  | [.int i] => if i.natAbs.log2 < 1920 then some (.str (toString i)) else none
  | [.str x] => some (.str x)
  | _ => none
def rStr1 : List V → Hp → VK → Prop := fun xs H Q => (∃ i : Int, xs = [.int i] ∧ i.natAbs.log2 < 1920 ∧ Q (.str (toString i)) H) ∨ ∃ x : Str, xs = [.str x] ∧ Q (.str x) H
theorem cr_str : CallR X (.type "str") rStr1 := CallR.or call_str_int SkE.call_str_str
theorem se_str {K : PySem.W.Frag} : SemN K rStr1 sStr := by
  intro F H vs ds c Q s hv hs g
  unfold sStr at hs
  split at hs
  · split at hs
    · rename_i i hi
      cases hs
      obtain ⟨v, rfl, q⟩ := vwAll1 hv
      exact .inl ⟨i, by rw [vw_int q], hi, g.of s (.str _)⟩
    · cases hs
  · cases hs
    obtain ⟨v, rfl, q⟩ := vwAll1 hv
    exact .inr ⟨_, by rw [vw_str q], g.of s (.str _)⟩
  · cases hs
theorem b_str (B : Bt X.mg) (ha : DA X g W [a] av) (hg : Gl X "str" := by rfl) (he : starEach [a] X.env = (false, eval a X.env) :: starEach [] X.env := by rfl) (hpl : (backTo pos (starEach [] X.env)).any (·.1) = false := by rfl) : DE X g W (.Call (.Name "str" p) [a] [] pos) (dCallB sStr av) := de_callTy cr_str se_str hg B.str (by decide +kernel) ha (by decide) (by decide) he hpl
/-! ### int(x), texts too -/
def sIntT : List D → Option D
  | [.str a] => (intText? a).bind fun n => if a.length ≤ 640 then some (.int n) else none
  | ds => sInt ds
def rIntT : List V → Hp → VK → Prop := fun xs H Q => rInt1 xs H Q ∨ ∃ a n, xs = [.str a] ∧ intText? a = some n ∧ a.length ≤ 640 ∧ Q (.int n) H
theorem cr_intT : CallR X (.type "int") rIntT := CallR.or cr_int call_int_str
theorem se_intT {K : PySem.W.Frag} : SemN K rIntT sIntT := by
  intro F H vs ds c Q s hv hs g
  unfold sIntT at hs
  split at hs
  · rename_i a
    cases q : intText? a with
    | none => rw [q] at hs; cases hs
    | some n =>
      rw [q] at hs
      simp only [Option.bind_some] at hs
      split at hs
      · rename_i hl
        cases hs
        obtain ⟨v, rfl, q1⟩ := vwAll1 hv
        exact .inr ⟨a, n, by rw [vw_str q1], q, hl, g.of s (.int _)⟩
      · cases hs
  · exact .inl (se_int F H vs _ c Q s hv hs g)
theorem b_intT (B : Bt X.mg) (ha : DA X g W [a] av) (hg : Gl X "int" := by rfl) (he : starEach [a] X.env = (false, eval a X.env) :: starEach [] X.env := by rfl) (hpl : (backTo pos (starEach [] X.env)).any (·.1) = false := by rfl) : DE X g W (.Call (.Name "int" p) [a] [] pos) (dCallB sIntT av) := de_callTy cr_intT se_intT hg B.int (by decide +kernel) ha (by decide) (by decide) he hpl
/-! ### an operator's new list, owned -/
def oOp (sem : D → D → Option D) (fa fb : Ev) : Ov := fun en => (fa en).bind fun en1 x => (fb en1).bind fun en2 y => match res en2 x, res en2 y with
  | some d, some e => (match sem d e with
    | some r => .ok en2 r
    | none => .no)
  | _, _ => .no
def Sem2O (K : PySem.W.Frag) (r : R2) (sem : D → D → Option D) : Prop := ∀ F H v u d e c (Q : VK), Same F H → Vw K F H v d → Vw K F H u e → sem d e = some c → (∀ p o, H p = none → OwnAt K F (upd H p o) p c → Q (.ref p) (upd H p o)) → r v u H Q
theorem do_op {op : Operator} {r : R2} {sem : D → D → Option D} (ho : OpR X (binaryOp op) r) (hs : Sem2O X.K r sem) (ha : DE X g W a fa) (hb : DE X g W b fb) : DO X g W (.BinOp a op b pos) (oOp sem fa fb) := by
  refine PE.imp (pe_op ho ha hb) fun σ H Q h => ?_
  obtain ⟨F, en, rp, f⟩ := h
  refine ⟨F, en, rp, (Fin.seq f).mono fun F1 H1 en1 x s1 r1 f1 v hv => ⟨F1, en1, r1, (Fin.seq f1).mono fun F2 H2 en2 y s2 r2 f2 u hu => ?_⟩⟩
  split at f2
  · rename_i d e e1 e2
    split at f2
    · rename_i c e3
      refine hs F2 H2 v u d e c Q r2.fz (r2.view (RvOk.mono s2 hv) e1) (r2.view hu e2) e3 fun p o hp ow => ?_
      obtain ⟨r3, n3⟩ := r2.fresh hp ow
      exact f2 F2 H2 (Same.refl _) r2 p _ r3 n3
    · exact f2.elim
  · exact f2.elim
def sRepO : D → D → Option D
  | .list a, .int k => if -(2 ^ 63) ≤ k ∧ k < 2 ^ 63 ∧ a.length * k.toNat ≤ sizeLine then some (.list (List.replicate k.toNat a).flatten) else none
  | _, _ => none
theorem so_rep {K : PySem.W.Frag} : Sem2O K rRep sRepO := by
  intro F H v u d e c Q s hv hu hs g
  unfold sRepO at hs
  split at hs
  · split at hs
    · rename_i hl
      cases hs
      obtain ⟨a, xs, rfl, q1, a1⟩ := vw_lst s hv
      exact ⟨a, _, xs, rfl, vw_int hu, q1, hl.1, hl.2.1, by rw [a1.length]; exact hl.2.2, fun p hp => g p _ hp (.lst upd_same (a1.rep _))⟩
    · cases hs
  · cases hs
theorem do_rep (ha : DE X g W a fa) (hb : DE X g W b fb) : DO X g W (.BinOp a .Mult b pos) (oOp sRepO fa fb) := do_op op_rep so_rep ha hb
/-! ### a method's new list, owned: text.split(sep) -/
def oMeth (q : D → Bool) (sem : D → List D → Option D) (fo : Ev) (av : Av) : Ov := fun en => (fo en).bind fun en1 x => match res en1 x with
  | some d0 => if q d0 = true then (av en1).bind fun en2 xs => (match res en2 x, resAll en2 xs with
      | some d, some ds => (match sem d ds with
        | some r => .ok en2 r
        | none => .no)
      | _, _ => .no) else .no
  | none => .no
def SemVO (K : PySem.W.Frag) (r : V → List V → Hp → VK → Prop) (sem : D → List D → Option D) : Prop := ∀ F H v d vs ds c (Q : VK), Same F H → Vw K F H v d → VwAll K F H vs ds → sem d ds = some c → (∀ p o, H p = none → OwnAt K F (upd H p o) p c → Q (.ref p) (upd H p o)) → r v vs H Q
theorem do_meth {q : D → Bool} {T id : String} {r : V → List V → Hp → VK → Prop} {sem : D → List D → Option D} {name : Str} (hq : IsT X.K q T) (hs : SemVO X.K r sem) (pa : PlainAttrs T) (slot : Slot T name id) (hty : typeOf (.builtin id) = pure (.type "method_descriptor")) (hm : MtR X id r)
    (ho : DE X g W a fa) (ha : DA X g W (b :: es) av) (hbase : attributeBase a name X.env (eval a X.env) = eval a X.env := by rfl)
    (hfew : ((backTo pos (starEach (b :: es) X.env)).all (fun x => !x.1) && (backToKw pos (keywordEach [] X.env)).all (fun x => x.1.isSome)
      && decide ((b :: es).length + ([] : List Keyword).length + (if ([] : List Keyword).isEmpty then 0 else 1) < 30)) = true := by rfl)
    (hline : (apos.endLine == pos.line) = true := by rfl) (h1 : starEach (b :: es) X.env = (false, eval b X.env) :: starEach es X.env := by rfl) (hpl : (backTo pos (starEach es X.env)).any (·.1) = false := by rfl) :
    DO X g W (.Call (.Attribute a name apos) (b :: es) [] pos) (oMeth q sem fa av) :=
  PE.imp (pe_bm pa slot hty hm ho ha hbase hfew hline h1 hpl) fun σ H Q h => by
    obtain ⟨F, en, rp, f⟩ := h
    refine ⟨F, en, rp, (Fin.seq f).mono fun F1 H1 en1 x s1 r1 f1 v hv => ?_⟩
    cases e0 : res en1 x with
    | none => rw [e0] at f1; exact f1.elim
    | some d0 =>
      rw [e0] at f1
      dsimp only at f1
      split at f1
      · rename_i hq0
        refine ⟨hq F1 H1 v d0 r1.fz (r1.view hv e0) hq0, F1, en1, r1, (Fin.seq f1).mono fun F2 H2 en2 xs s2 r2 f2 vs hvs => ?_⟩
        split at f2
        · rename_i d ds e1 e2
          split at f2
          · rename_i rr e3
            refine hs F2 H2 v d vs ds rr Q r2.fz (r2.view (RvOk.mono s2 hv) e1) (r2.viewAll hvs e2) e3 fun p o hp ow => ?_
            obtain ⟨r3, n3⟩ := r2.fresh hp ow
            exact f2 F2 H2 (Same.refl _) r2 p _ r3 n3
          · exact f2.elim
        · exact f2.elim
      · exact f1.elim
def sSplit : D → List D → Option D
  | .str a, [.str b] => if (b.length == 0) = false ∧ a.length + 2 ≤ sizeLine then some (.list ((Txt.split a b).map PyData.str)) else none
  | _, _ => none
theorem dvAll_ofStrs {K : PySem.W.Frag} {F : Hp} : ∀ ys : List Str, DvAll K F (ys.map V.str) (ys.map PyData.str)
  | [] => .nil
  | y :: r => .cons (.str y) (dvAll_ofStrs r)
def rSplit : V → List V → Hp → VK → Prop := fun x xs H Q => ∃ a b, x = .str a ∧ xs = [.str b] ∧ (b.length == 0) = false ∧ a.length + 2 ≤ sizeLine ∧ rNewStrs (Txt.split a b) H Q
theorem so_split {K : PySem.W.Frag} : SemVO K rSplit sSplit := by
  intro F H v d vs ds c Q s hv hvs hs g
  unfold sSplit at hs
  split at hs
  · rename_i a b
    split at hs
    · rename_i hl
      cases hs
      obtain ⟨u, rfl, h1⟩ := vwAll1 hvs
      exact ⟨a, b, vw_str hv, by rw [vw_str h1], hl.1, hl.2, fun p hp => g p _ hp (.lst upd_same (dvAll_ofStrs _))⟩
    · cases hs
  · cases hs
theorem do_split (ho : DE X g W a fa) (hb : DE X g W b fb) (hbase : attributeBase a "split" X.env (eval a X.env) = eval a X.env := by rfl)
    (hfew : ((backTo pos (starEach [b] X.env)).all (fun x => !x.1) && (backToKw pos (keywordEach [] X.env)).all (fun x => x.1.isSome)
      && decide ([b].length + ([] : List Keyword).length + (if ([] : List Keyword).isEmpty then 0 else 1) < 30)) = true := by rfl)
    (hline : (apos.endLine == pos.line) = true := by rfl) (h1 : starEach [b] X.env = (false, eval b X.env) :: starEach [] X.env := by rfl) :
    DO X g W (.Call (.Attribute a "split" apos) [b] [] pos) (oMeth isStrD sSplit fa (aCons fb aNil)) :=
  do_meth isT_str so_split PySem.F.plainAttrs_str PySem.F.slot_str_split PySem.F.type_str_split mt_split ho (da_cons hb da_nil h1) hbase hfew hline h1
end
end DL
/-! Dxf1: an own error whose __init__ says super().__init__(text) and keeps one field: made. -/
namespace PySem
namespace FldX
open PySem.W PySem.Calls PyProof.Rows PySem.HandSPX
/-- the method's own text -/
abbrev iB (f m : Str) (j : Nat) (a1 a2 a3 a4 a5 a6 q1 q2 q3 q4 : Pos) : List Stmt := [.Expr (.Call (.Attribute (.Call (.Name "super" a1) [] [] a2) "__init__" a3) [.Constant (.str m) j a4] [] a5) a6, .Assign [.Attribute (.Name "self" q1) f q2] (.Name f q3) q4]
/-- what a program's text says of such an __init__ -/
structure FldS (f m : Str) (params : Arguments) (body : List Stmt) (scope : Scope) : Prop where
  body : ∃ j a1 a2 a3 a4 a5 a6 q1 q2 q3 q4, body = iB f m j a1 a2 a3 a4 a5 a6 q1 q2 q3 q4 ∧ ∃ pl : Sem Bool, ∀ env : Env,
    eval (.Call (.Attribute (.Call (.Name "super" a1) [] [] a2) "__init__" a3) [.Constant (.str m) j a4] [] a5) env = (do
      let ov ← attributeBase (.Call (.Name "super" a1) [] [] a2) "__init__" env (eval (.Call (.Name "super" a1) [] [] a2) env)
      standAt a3.atName
      let (fx, first) ← holding [ov] (getMethod ov "__init__" pl)
      callWith a5 fx first (backTo a5 (starEach [.Constant (.str m) j a4] env)) [])
  kind : scope.kind = .function
  s1 : scope.names.lookup ("self" : Str) = some .local
  s2 : scope.names.lookup f = some .local
  s3 : scope.names.lookup ("super" : Str) = some .globalImplicit
  s4 : scope.names.lookup ("__class__" : Str) = some .free
  nocell : ∀ x ∈ scope.names, x.2 ≠ .cell
  co : scope.isCoroutine = false
  gen : scope.isGenerator = false
  par : ∃ ar : Arg, (params.posonlyargs ++ params.args).head? = some ar ∧ ar.arg = ("self" : Str)
  ne : f ≠ ("self" : Str)
  nd : (f == ("__debug__" : Str)) = false
/-- what the written part says of the class at C and of its __init__ at fI -/
structure FldTxt (file : Str) (K : Frag) (mg : Str → Option Value) (nm f m qual : Str) (params : Arguments) (body : List Stmt) (scope : Scope) (C fI : Addr) : Prop where
  txt : FldS f m params body scope
  gC : mg nm = some (.ref C)
  cls : ∃ nm q N bs bm sn sub ab col dd k0 k1 k2 k3 k5, K.lookup C = some (excClassObj nm q C N bs bm true sn sub ab col dd k0 k1 k2 k3 k5 "ValueError.__new__") ∧ refsVE bm = true
  sa : findIn K (.ref C) "__setattr__" = some (some (.builtin "object.__setattr__"))
  ga : findIn K (.ref C) "__getattribute__" = some (some (.builtin "BaseException.__getattribute__"))
  gg : findIn K (.ref C) "__getattr__" = some none
  noN : findIn K (.ref C) f = some none
  iC : findIn K (.ref C) "__init__" = some (some (.ref fI))
  tC : typeIn K (.ref fI) = some (.type "function")
  kC : keepIn K (.ref C) = true
  exC : subIn K (.ref C) (.type "BaseException") = some true
  tyC : typeIn K (.ref C) = some (.type "type")
  hdC : hasDictIn K C = true
  te : exmOne K (.ref C) (.ref C) = some true
  sup : ks_superIn K C C "__init__" = some (some (.builtin "ValueError.__init__"))
  veC : subIn K (.ref C) (.type "ValueError") = some true
  own : mroIn K C (.ref C) = some true
  tp : nsIn K cStatics "thirdparty.any" = some none
  noS : mg "super" = none
  fn : ∃ (oc : Value) (od : Option Addr) (dV kV doc pm : Value) (an : Option Addr) (cda : Addr) (ct : Value) (cc : Addr) (osl : Array (Option Value)),
    K.lookup fI = some ⟨oc, od, .func (ksFn "__init__" qual params body scope dV kV doc pm an (.ref cda) ct cc), osl⟩ ∧ codeIn K (.ref cda) qual = true ∧
    (∀ (s : Shared) (a b : Value), BindsTo s (ksFn "__init__" qual params body scope dV kV doc pm an (.ref cda) ct cc) ⟨[a, b], []⟩ [("self", a), (f, b)]) ∧
    (∃ ccl cdd vs ccs tf, K.lookup cda = some ⟨ccl, cdd, .fields vs, ccs⟩ ∧ vs[2]? = some (.str file tf)) ∧ ∃ cl cld csl, K.lookup cc = some ⟨cl, cld, .cell (some (.ref C)), csl⟩
/-- the names that all modules see -/
structure Glb (mg : Str → Option Value) (h : Heap) : Prop where
  g : h.Ns mainGlobals mg
  b : ∃ mb, h.Ns builtinsNs mb ∧ mb "super" = some (.type "super")
theorem Glb.keeps {mg : Str → Option Value} {h h' : Heap} (G : Glb mg h) (k : ∀ b o, h.get? b = some o → h'.get? b = some o) : Glb mg h' :=
  ⟨G.g.keeps k, let ⟨mb, h1, h2⟩ := G.b; ⟨mb, h1.keeps k, h2⟩⟩
theorem one_size (v : Value) : [v].length ≤ sizeLine := by
  rw [sizeLine_eq]
  exact (by decide : 1 ≤ 16777216)
/-- what __init__ leaves of a fresh exception at x -/
structure InitEnd (f : Str) (h h' : Heap) (x C dx t1 : Addr) (v : Value) : Prop where
  keep : ∀ b o, b ≠ x → h.get? b = some o → h'.get? b = some o
  obj : h'.get? x = some { cls := .ref C, dict := some dx, data := .fields #[.ref t1, .none, .none, .none, .bool false, .none] }
  dbig : h.objs.size ≤ dx
  dne : dx ≠ x
  ns : h'.Ns1 dx (fun y => if y = f then some v else none)
section
variable {prog : Program} {w : World} {A : Around} {E : Value → Shared → Prop} {h : Heap} {g : Array GenState} {d : Drawn} {t : Nat} {os : OsState}
variable {nm q : Str} {C N : Addr} {bs bm : List Value} {hdct : Bool} {sn : List Str} {sub : List Value} {ab : Bool} {col : Option Bool} {dd : Option Addr} {k0 k1 k2 k3 k5 : Option Value}
/-- the bound built-in __init__, called -/
theorem call_mw {u e t0 : Addr} {rest : List Value} {Q : Value → Shared → Prop}
    (hC : h.get? C = some (excClassObj nm q C N bs bm hdct sn sub ab col dd k0 k1 k2 k3 k5 "ValueError.__new__")) (he : h.get? e = some (excO C t0)) (hu : h.get? u = some (kxs_mw "ValueError.__init__" e)) (hrest : rest.length ≤ sizeLine)
    (hq : ∀ h' t1, (∀ b o, b ≠ e → h.get? b = some o → h'.get? b = some o) → h'.get? e = some (excO C t1) → Q .none ⟨h', g, d, t, os⟩) :
    wpAny (model prog w) A (call (.ref u) rest) Q E ⟨h, g, d, t, os⟩ := by
  refine wpAny_call (codeAny_of_tree ?_)
  show wpAny _ A.in1 (callAny (.ref u) ⟨rest, []⟩) _ _ _
  simp only [callAny]
  refine wpAny_bind (wpAny_load hu ?_)
  simp only [kxs_mw, show (Value.type "method-wrapper" == Value.type "method" || Value.type "method-wrapper" == Value.type "builtin_function_or_method" || Value.type "method-wrapper" == Value.type "method-wrapper") = true by decide, if_true]
  refine W.KFB.if_so (by decide) ?_
  refine wpAny_bind (ESX.check_bound F.excBase_ValueError hC he rfl ?_)
  refine wpAny_bind (wpAny_pure (wpAny_pure ?_))
  refine ⟨Code.quiet_builtin _ (by decide +kernel), codeAny_builtin F.excBase_ValueError.initEntry ?_⟩
  rw [Around.under_plainId F.excBase_ValueError.init.plain _]
  wp_walk
  refine hq _ h.objs.size (fun b o hb ho => ?_) ?_
  · rw [Heap.get?_update_other _ _ (Ne.symm hb)]
    exact Heap.get?_push_of_some _ ho
  · rw [Heap.get?_update_self _ (Heap.get?_push_of_some _ he) rfl]
    rfl
end
section
variable {prog : Program} {w : World} {A : Around} {E : Value → Shared → Prop} {R : Result → Shared → Prop} {s : Shared} {K : Frag} {mg : Str → Option Value} {file nm f m qual : Str} {params : Arguments} {body : List Stmt} {scope : Scope} {C fI : Addr}
theorem fld_init (T : FldTxt file K mg nm f m qual params body scope C fI) (hfile : ((prog.main.file : Str) == file) = true) (htop : (prog.main.scope.names.lookup ("super" : Str)).isSome = false) {x t0 : Addr} {v : Value} (G : Glb mg s.heap) (X : K.In s.heap) (hlim : s.heap.NoLimit) (hx : s.heap.get? x = some (excO C t0)) (hnx : K.lookup x = none) (hroom : A.depth < recursionLimit)
    (hq : ∀ h' tk dx t1, InitEnd f s.heap h' x C dx t1 v → R (.ok (.ret .none)) { s with heap := h', toks := tk }) :
    codeAny (model prog w) A (.call (.ref fI) ⟨[.ref x, v], []⟩) R s := by
  obtain ⟨oc, od, dV, kV, doc, pm, an, cda, ct, cc, osl, ho, hcd, hbind, ⟨ccl, cdd, vs, ccs, tf, hcode, hvs⟩, cl, cld, csl, hcell⟩ := T.fn
  obtain ⟨nmC, q, N, bs, bm, sn, sub, ab, col, dd, k0, k1, k2, k3, k5, hC, hbm⟩ := T.cls
  obtain ⟨j, a1, a2, a3, a4, a5, a6, q1, q2, q3, q4, rfl, pl, hev⟩ := T.txt.body
  obtain ⟨ar, hpar, harg⟩ := T.txt.par
  have hcl : clsIn K C = some { name := nmC, bases := bs, mro := .ref C :: bm, ns := N, qualname := q, hasDict := true, slotNames := sn, subclasses := sub, abstract := ab, collection := col, hasDel := false } := by unfold clsIn; rw [hC] <;> rfl
  refine ks_codeAny_call_defAt hroom (X _ _ ho) rfl hlim (codeRec_of X hcd) rfl (hbind _ _ _) T.txt.nocell (fun y hy => ?_) (fun h1 hn k => ?_) T.txt.co T.txt.gen T.txt.kind
  · rcases List.mem_cons.mp hy with rfl | hy
    · exact T.txt.s1
    · rw [List.mem_singleton.mp hy]; exact T.txt.s2
  obtain ⟨hp, g, d, t, os⟩ := s
  have X1 : K.In h1 := X.keeps k
  have G1 := G.keeps k
  have hx1 := k _ _ hx
  have hxL : hp.objs.size ≠ x := Nat.ne_of_gt (Heap.lt_size hx)
  have hCh : h1.get? C = some _ := X1 _ _ hC
  have hxC : x ≠ C := by
    intro z
    rw [z, hCh] at hx1
    have := Option.some.inj hx1
    injection this with _ _ hd _
    cases hd
  have hself : (fun y => [(("self" : Str), Value.ref x), (f, v)].reverse.lookup y) ("self" : Str) = some (Value.ref x) := by
    have : (("self" : Str) == f) = false := by simpa using Ne.symm T.txt.ne
    simp [List.lookup, this]
  have hfv : (fun y => [(("self" : Str), Value.ref x), (f, v)].reverse.lookup y) f = some v := by simp [List.lookup]
  generalize hm : (fun y => [(("self" : Str), Value.ref x), (f, v)].reverse.lookup y) = mm at hn hself hfv
  generalize hL : (⟨hp, g, d, t, os⟩ : Shared).heap.objs.size = L at hn hxL
  have hLs : L < h1.objs.size := hn.lt
  have hint : interactive (callEnv (ksFn "__init__" qual params (iB f m j a1 a2 a3 a4 a5 a6 q1 q2 q3 q4) scope dV kV doc pm an (.ref cda) ct cc) L fI) = false := by
    have hk := T.txt.kind
    simp [interactive, callEnv, newEnv, hk]
  refine ks_wpAt_execs_cons (ks_wpAt_Expr_any (ks_wpAt_MethodCall ?_ (hev _)) hint rfl)
  refine ks_wpAt_super_base T.txt.s3 T.txt.s4 rfl rfl (X1 _ _ ho) rfl hpar rfl (X1 _ _ hcode) rfl hvs hfile htop ?_
  obtain ⟨mb, hb1, hb2⟩ := G1.b
  refine ks_loadName_global T.txt.kind T.txt.s3 (loadGlobal_builtin G1.g T.noS hb1 hb2 ⟨rfl, ?_⟩)
  refine wpAny_loadName_free T.txt.kind T.txt.s4 rfl ⟨_, X1 _ _ hcell, rfl⟩ ?_
  rw [harg]
  refine wpAny_loadName_local T.txt.kind T.txt.s1 hn hself ?_
  refine ks_wpAny_isType_cls hCh rfl ⟨rfl, ?_⟩
  refine ks_wpAny_call_super hCh rfl hx1 rfl (fun c e => by cases e) (looks_mroIn X1 T.own) (fun h2 e2 k2 => ?_)
  have X2 : K.In h2 := X1.keeps k2
  have hx2 := k2 _ _ hx1
  have hI : Looks (model prog w) h2 (isInstance (.ref x) (.type "ValueError")) true := (InstAt.type (⟨hx2, rfl, rfl, trivial⟩ : InstAt h2 x (excO C t0) C none)).andThen (looks_subIn X2 T.veC)
  have hmr : Looks (model prog w) h2 (mroOf (.ref C)) (.ref C :: bm) := (looks_clsIn X2 hcl).andThen .now
  have hsup := T.sup
  unfold ks_superIn at hsup
  rw [hcl] at hsup
  refine kxs_getMethod kxs_ValueError e2 (looks_opaque X2 T.tp) hmr rfl X2 hsup hI hxC rfl ?_
  dsimp only
  have k3 : ∀ b o, h2.get? b = some o → (h2.push (kxs_mw "ValueError.__init__" x)).get? b = some o := fun b o e => Heap.get?_push_of_some _ e
  have hu : (h2.push (kxs_mw "ValueError.__init__" x)).get? h2.objs.size = some (kxs_mw "ValueError.__init__" x) := Heap.get?_push_at rfl rfl
  generalize hu' : h2.objs.size = u at *
  generalize hh3 : h2.push (kxs_mw "ValueError.__init__" x) = h3 at *
  have X3 : K.In h3 := X2.keeps k3
  have hx3 := k3 _ _ hx2
  have hC3 := X3 _ _ hC
  refine kxs_callWith (i := "ValueError.__init__") (x := x) rfl (evalArgs_plain ?_)
  refine PyProof.Rows.spliced_more (Constant_str ?_)
  refine PyProof.Rows.spliced_none ⟨hu, ?_⟩
  refine call_mw hC3 hx3 hu (one_size _) fun h4 t1 k4 hx4 => ?_
  have X4 : K.In h4 := fun a o e => k4 a o (fun z => by rw [z, hnx] at e; cases e) (X3 a o e)
  have hn4 : h4.Ns L mm := by
    obtain ⟨oL, es, ep, eL, r⟩ := hn
    exact ⟨oL, es, ep, k4 _ _ hxL (k3 _ _ (k2 _ _ eL)), r⟩
  refine ks_wpAt_execs_cons (ks_wpAt_Assign_Attr (wpAt_of_wpAny (ldc (v := v) T.txt.kind T.txt.s2 hn4 hfv ?_ T.txt.nd)) rfl)
  refine ldc (v := .ref x) T.txt.kind T.txt.s1 hn4 hself ?_
  refine set_plain X4 (ox := excO C t1) (od := none) ⟨hx4, rfl, rfl, trivial⟩ T.sa ?_
  refine exc_osa X4 hx4 hcl (show refsVE (.ref C :: bm) = true from hbm) rfl T.noN (fun h5 tk5 dx k5 dn dne hx5 hn5 => ?_)
  refine wpAt_of_wpAny (wpAny_execs_nil (hq h5 tk5 dx t1 ⟨fun b o hb e => ?_, hx5, ?_, dne, hn5⟩))
  · exact k5 b o hb (k4 b o hb (k3 b o (k2 b o (k b o e))))
  · rw [hL]
    exact Nat.le_of_lt (Nat.lt_of_lt_of_le hn4.lt dn)
end
end FldX
end PySem
/-! Dxf2: an own error with a field: made, raised, read. -/
namespace PySem
namespace FldX
open PySem.W PySem.Calls PyProof.Rows PySem.HandSPX
/-- an error that was made: new, of the class, with one field -/
structure Made1 (f : Str) (h h' : Heap) (e C d : Addr) (v : Value) : Prop where
  keep : ∀ b o, h.get? b = some o → h'.get? b = some o
  new : h.objs.size ≤ e
  obj : ∃ oe vs, h'.get? e = some oe ∧ oe.cls = .ref C ∧ oe.dict = some d ∧ oe.data = .fields vs ∧ vs[1]? = some .none
  dbig : h.objs.size ≤ d
  dne : d ≠ e
  ns : h'.Ns1 d (fun y => if y = f then some v else none)
section
variable {prog : Program} {w : World} {A : Around} {R : Result → Shared → Prop} {s : Shared} {K : Frag} {mg : Str → Option Value} {file nm f m qual : Str} {params : Arguments} {body : List Stmt} {scope : Scope} {C fI : Addr}
theorem new_none {h : Heap} {a : Addr} (X : K.In h) (ha : h.objs.size ≤ a) : K.lookup a = none := by
  cases e : K.lookup a with
  | none => rfl
  | some o => exact absurd (Heap.lt_size (X _ _ e)) (Nat.not_lt.mpr ha)
theorem fld_made (T : FldTxt file K mg nm f m qual params body scope C fI) (hfile : ((prog.main.file : Str) == file) = true) (htop : (prog.main.scope.names.lookup ("super" : Str)).isSome = false) {v : Value} (G : Glb mg s.heap) (X : K.In s.heap) (hlim : s.heap.NoLimit) (hroom : A.depth + 1 < recursionLimit)
    (hq : ∀ h' tk e d, Made1 f s.heap h' e C d v → R (.ok (.ret (.ref e))) { s with heap := h', toks := tk }) :
    codeAny (model prog w) A (.call (.ref C) ⟨[v], []⟩) R s := by
  obtain ⟨nmC, q, N, bs, bm, sn, sub, ab, col, dd, k0, k1, k2, k3, k5, hC, hbm⟩ := T.cls
  obtain ⟨hp, g, dr, tk, os⟩ := s
  have k : ∀ b o, hp.get? b = some o → ((hp.push (kdv_tup [v])).push (excO C hp.objs.size)).get? b = some o := fun b o e => Heap.get?_push_of_some _ (Heap.get?_push_of_some _ e)
  have hget : ((hp.push (kdv_tup [v])).push (excO C hp.objs.size)).get? (hp.objs.size + 1) = some (excO C hp.objs.size) := by heap_get
  refine call_own F.excBase_ValueError (fun Y => refsVE_contains Y bm hbm) (X _ _ hC) (looks_findIn X T.iC) (fun self => bind_fn X self T.tC) (one_size v) ?_
  refine fld_init (s := ⟨(hp.push (kdv_tup [v])).push (excO C hp.objs.size), g, dr, tk, os⟩) T hfile htop (G.keeps k) (X.keeps k) (hlim.keeps k) hget (new_none X (Nat.le_succ _)) hroom fun h' tk' dx t1 I => ?_
  obtain ⟨kI, hx, dn, dne, hns⟩ := I
  have old : ∀ b o, hp.get? b = some o → h'.get? b = some o := fun b o e => kI b o (Nat.ne_of_lt (Nat.lt_succ_of_lt (Heap.lt_size e))) (k b o e)
  have z : hp.objs.size + 1 + 1 ≤ dx := by
    first
      | (simpa only [Heap.size_push] using dn)
      | exact dn
      | (have q := dn; rw [Heap.size_push, Heap.size_push] at q; exact q)
  exact ⟨rfl, hq h' tk' (hp.objs.size + 1) dx ⟨old, Nat.le_succ _, ⟨_, _, hx, rfl, rfl, rfl, rfl⟩, Nat.le_trans (Nat.le_trans (Nat.le_succ _) (Nat.le_succ _)) z, dne, hns⟩⟩
end
end FldX
end PySem
namespace L2
open PySem PySem.Spec PyProof.Rows
theorem relO_one {f : Str} {v : V} {v' : Value} (r : RelV v v') (x : Str) : RelO (List.lookup x [(f, v)]) (if x = f then some v' else none) := by
  by_cases hw : x = f
  · subst hw
    have q : List.lookup x [(x, v)] = some v := by simp [List.lookup]
    rw [if_pos rfl, q]
    exact r
  · have qw : (x == f) = false := by simpa using hw
    have q2 : List.lookup x [(f, v)] = none := by simp [List.lookup, qw]
    rw [if_neg hw, q2]
    trivial
section
variable {X : Cx} {file nm f m qual : Str} {params : Arguments} {body : List Stmt} {scope : Scope} {C fI : Addr}
theorem glb_of {pins : List (Addr × Obj)} {σ : St} {H : Hp} {s : Shared} (I : Inv X pins σ H s) : PySem.FldX.Glb X.mg s.heap := by
  obtain ⟨mb, h1, h2⟩ := I.mod.blt
  exact ⟨I.mod.glob.keeps I.bk, mb, h1.keeps I.bk, (h2 "super" (by decide)).trans (by first | rfl | decide +kernel | kernel_rfl)⟩
/-- X(e) -/
def tMkF (C : Addr) (f : Str) (ta : TA) : St → Hp → XK → Prop := fun σ H Q => ta σ H fun vs H1 => ∃ v, vs = [v] ∧ ∀ d, H1 d = none → Q (.ref C) (some d) (upd H1 d (.xd [(f, v)]))
theorem pmk_fld {a : Expr} {ta : TA} {p pos : Pos} {k : Nat} (T : PySem.FldX.FldTxt file X.K X.mg nm f m qual params body scope C fI) (hfile : ((X.prog.main.file : Str) == file) = true) (htop : (X.prog.main.scope.names.lookup ("super" : Str)).isSome = false) (hr : Room k X.A) (ha : PA X [a] ta) (hg : Gl X nm) (hdb : (nm == ("__debug__" : Str)) = false)
    (he : starEach (a :: []) X.env = (false, eval a X.env) :: starEach [] X.env := by rfl) (hpl : (backTo pos (starEach [] X.env)).any (·.1) = false := by rfl) :
    PMk X (.Call (.Name nm p) [a] [] pos) (tMkF C f ta) := by
  intro pins s σ H Q I h
  refine wpAny_Call_Name_kw (ld_glob I hg T.gC ?_ hdb)
  refine PySem.W.callWith_K (h₀ := X.base) I.ok.mod.kin T.kC (thn (ha.run pos pins s σ H _ I h) fun us s1 hh => ?_) he hpl
  obtain ⟨vs, H1, I1, r1, v, ev, q1⟩ := hh
  subst ev
  refine ⟨I1.kIn, ?_⟩
  cases r1 with
  | cons rv rn =>
    rename_i v' us'
    cases rn
    show wpAny _ _ (call (.ref C) [v']) _ _ _
    have hlim := I1.nolimit
    have G := glb_of I1
    obtain ⟨hp, g, dr, tk, os⟩ := s1
    refine wpAny_call (PySem.FldX.fld_made T hfile htop G I1.kIn hlim (by have := hr.dp; omega) fun h' tk' e d M => ?_)
    show MkP X pins σ Q (.ref e) ⟨h', g, dr, tk', os⟩
    obtain ⟨oe, fv, hoe, hc, hd, hdat, h1⟩ := M.obj
    have hns := M.ns
    obtain ⟨G', g1, g2⟩ := restrict h' fun b => decide (b ≠ e)
    have gk : ∀ b, b ≠ e → G'.get? b = h'.get? b := fun b hb => g1 b (decide_eq_true hb)
    have ge : G'.get? e = none := g2 e (by simp)
    have old : ∀ b o, hp.get? b = some o → G'.get? b = some o := fun b o q => (gk b (Nat.ne_of_lt (Nat.lt_of_lt_of_le (Heap.lt_size q) M.new))).trans (M.keep b o q)
    have ob : ObjOk X.prog X.w (upd H1 d (.xd [(f, v)])) G' d (.xd [(f, v)]) :=
      ⟨_, hns.at (fun o q => (gk d M.dne).trans q), fun x => relO_one rv x⟩
    have J : Inv X pins σ (upd H1 d (.xd [(f, v)])) ⟨G', g, dr, tk', os⟩ := I1.laid (t' := tk') old M.dbig ob
    refine ⟨e, oe, fv, ⟨G', g, dr, tk', os⟩, _, .ref C, some d, rfl, J, fun b o q => ?_, ge, hoe, ⟨hc, hd⟩, hdat, h1, ?_, rfl, I1.bare, raises_own T.exC T.tyC, q1 d (I1.hok.fresh M.dbig)⟩
    · by_cases hb : b = e
      · have q' : G'.get? b = some o := q
        rw [hb, ge] at q'; cases q'
      · exact (gk b hb).symm.trans q
    · rw [upd_ne (Ne.symm M.dne)]
      exact I1.hok.fresh M.new
/-- e.f, e the exception that the suite holds -/
def tByF (C : Addr) (a : Addr) (cls : Value) (d : Option Addr) (f : Str) (te : TE) : TE := fun σ H Q => te σ H fun x H1 => x = .ref a ∧ cls = .ref C ∧ ∃ (dd : Addr) (v : V), d = some dd ∧ H1 dd = some (.xd [(f, v)]) ∧ Q v H1
theorem pe_byF {a : Addr} {oe : Obj} {cls : Value} {d : Option Addr} {pn : List (Addr × Obj)} {e : Expr} {te : TE} {pos : Pos} (T : PySem.FldX.FldTxt file X.K X.mg nm f m qual params body scope C fI) (hz : Zc cls d oe) (hf : ∃ vs, oe.data = .fields vs) (he : PE (X.suite a ((a, oe) :: pn)) e te)
    (hb : attributeBase e f X.env (eval e X.env) = eval e X.env) (hnd : (f == ("__dict__" : Str)) = false) :
    PE (X.suite a ((a, oe) :: pn)) (.Attribute e f pos) (tByF C a cls d f te) := by
  refine ⟨fun pins s σ H Q I h => ?_⟩
  refine attr_of hb (thn (he.run pins s σ H _ I h) fun u s1 hh => ?_)
  obtain ⟨x, H1, I1, rx, ex, ec, dd, v, ed, ea, q⟩ := hh
  subst ex
  obtain rfl : u = Value.ref a := rx
  subst ec
  subst ed
  obtain ⟨ha, _⟩ := I1.pin (a, oe) (List.mem_append_left _ List.mem_cons_self)
  obtain ⟨vs, hd⟩ := hf
  have hx : ObjOk X.prog X.w H1 s1.heap dd (.xd [(f, v)]) := I1.hok dd _ ea
  obtain ⟨mA, hns, hr⟩ := hx
  obtain ⟨od, ho, hl⟩ := lookIn_ns hns
  have l : List.lookup f [(f, v)] = some v := by simp [List.lookup]
  obtain ⟨u, hu, ru⟩ := RelO.some_of (v := v) (o := mA f) (by rw [← l]; exact hr f)
  have J : PySem.W.InstAt s1.heap a oe C (some od) := ⟨ha, hz.1, by unfold PySem.W.notCls; rw [hd] <;> rfl, by rw [hz.2]; exact ho⟩
  exact HandSPX.exc_get I1.kIn J T.ga T.gg T.exC (PySem.W.findObj_own T.hdC T.noN (by first | exact hnd | rfl) (by rw [hl, hu])) (handed_of ru) ⟨v, H1, I1.tok _, ru, q⟩
end
end L2
/-! Dxf3: errors with a field, in the layer: raise X(e); except X as n: .. n.f .. -/
namespace DL
open PySem PySem.Spec L2
open PyProof.Rows hiding St
structure FldE (P : Program) (K : PySem.W.Frag) (mg : Str → Option Value) (nm f : Str) (C : Addr) : Prop where
  ex : ∃ file m qual params body scope fI, PySem.FldX.FldTxt file K mg nm f m qual params body scope C fI ∧ ((P.main.file : Str) == file) = true ∧ (P.main.scope.names.lookup ("super" : Str)).isSome = false
section
variable {P : Program} {K : PySem.W.Frag} {mg : Str → Option Value}
theorem FldE.m {nm f : Str} {C : Addr} (O : FldE P K mg nm f C) : mg nm = some (.ref C) := by
  obtain ⟨_, _, _, _, _, _, _, T, _⟩ := O.ex
  exact T.gC
theorem FldE.exm {nm f : Str} {C : Addr} (O : FldE P K mg nm f C) : PySem.W.exmOne K (.ref C) (.ref C) = some true := by
  obtain ⟨_, _, _, _, _, _, _, T, _⟩ := O.ex
  exact T.te
end
section
variable {X : Cx} {g : Gh} {a : Expr} {fa : Ev}
/-- raise X(e) -/
def bRaiseF (x f : Str) (fa : Ev) : Bd := fun en => (fa en).out fun en1 v => match v with
  | .d d => .ex en1 ⟨x, [(f, d)]⟩
  | .s _ => .no
theorem ds_raiseF {Wh : WX} {x f : Str} {C : Addr} {k : Nat} {p pos pos' : Pos} (hc : X.calm = true) (O : FldE X.prog X.K X.mg x f C) (hr : Room k X.A) (tk : Takes X Wh) (ha : DE X g (WH X.K X.mg Wh) a fa) (hg : Gl X x) (hdb : (x == ("__debug__" : Str)) = false := by decide)
    (he : starEach (a :: []) X.env = (false, eval a X.env) :: starEach [] X.env := by rfl) (hpl : (backTo pos (starEach [] X.env)).any (·.1) = false := by rfl) :
    DS X g (WH X.K X.mg Wh) (.Raise (some (.Call (.Name x p) [a] [] pos)) none pos') (bRaiseF x f fa) := by
  obtain ⟨file, m, qual, params, body, scope, fI, T, hfile, htop⟩ := O.ex
  refine PS.imp (ps_raise hc tk (pmk_fld T hfile htop hr (da_cons ha da_nil he) hg hdb he hpl)) fun E σ H h => ?_
  obtain ⟨F, en, rp, fz⟩ := h
  refine ⟨F, en, rp, ?_⟩
  unfold bRaiseF at fz
  unfold aCons aNil
  cases e : fa en with
  | no => rw [e] at fz; exact fz.elim
  | ex en1 y => rw [e] at fz; exact fun F1 H1 s1 r1 => fz σ F1 H1 s1 r1
  | ok en1 v =>
    rw [e] at fz
    cases v with
    | s j => exact fz.elim
    | d d =>
      intro F1 H1 s1 r1 vs hvs
      match vs, hvs with
      | [v], ⟨hv, _⟩ =>
        refine ⟨v, rfl, fun d0 hd0 => ?_⟩
        have hF : F1 d0 = none := r1.fz.free hd0
        have no : ¬ IsOwn en1 σ d0 := fun z => (r1.ownPs z).2.2 hd0
        have h0 : g.H0 d0 = none := by
          rcases r1.notFr hd0 with z | z
          · exact absurd hd0 (r1.al d0 z)
          · exact z
        refine fz σ F1 _ s1 (r1.scratch _ hF no h0) (.ref C) (some d0) ⟨T.gC, .inr ⟨d0, [(f, v)], by simp, rfl, upd_same, hF, rfl, ?_⟩⟩
        exact DvAll.one (show Dv X.K F1 v d from hv)
end
/-! ### what a suite knows of the error that it holds -/
def FldOk (K : PySem.W.Frag) (g : Gh) (dx : Option Addr) (fs : List (Str × D)) : Prop := ∀ (F H : Hp) (en : En) (σ : St), Rep K g F en σ H → ∀ (f : Str) (d : D), fs = [(f, d)] →
  ∃ (a : Addr) (v : V) (F' : Hp), dx = some a ∧ H a = some (.xd [(f, v)]) ∧ Same F F' ∧ Rep K g F' en σ H ∧ Dv K F' v d
/-- the ghost of a suite: what is frozen stays, the error's dict too -/
def orHp (F G : Hp) : Hp := fun b => match F b with
  | some o => some o
  | none => G b
theorem orHp_some {F G : Hp} {b : Addr} {o : HO} (h : F b = some o) : orHp F G b = some o := by simp [orHp, h]
theorem orHp_none {F G : Hp} {b : Addr} (h : F b = none) : orHp F G b = G b := by simp [orHp, h]
def ghX (g : Gh) (F1 : Hp) (dx : Addr) (o : HO) (rw' : List (Nat × Addr)) : Gh := { g with F0 := orHp F1 g.F0, H0 := orHp F1 fun b => if b = dx then some o else g.H0 b, Rw := rw' }
theorem ghX_H0 {g : Gh} {F1 : Hp} {dx : Addr} {o : HO} {rw' : List (Nat × Addr)} : (ghX g F1 dx o rw').H0 = orHp F1 (fun b => if b = dx then some o else g.H0 b) := rfl
section
variable {K : PySem.W.Frag} {g : Gh} {F F1 H H1 : Hp} {en en1 : En} {σ σ1 : St} {dx : Addr} {vs : List (Str × V)}
theorem Rep.toX (r : Rep K g F1 en1 σ1 H1) (hd : H1 dx = some (.xd vs)) (hF : F1 dx = none) : Rep K (ghX g F1 dx (.xd vs) g.Rw) F1 en1 σ1 H1 := by
  refine ⟨r.fz, fun b o e n => ?_, r.al, fun b e n hb => ?_, r.len, r.val, fun i b d e => ?_, r.ali, r.sep, r.pl, r.rw⟩
  · cases q : F1 b with
    | some o' =>
      have e' : orHp F1 (fun b => if b = dx then some (HO.xd vs) else g.H0 b) b = some o := e
      rw [orHp_some q] at e'
      cases e'
      exact r.fz _ _ q
    | none =>
      have e' : orHp F1 (fun b => if b = dx then some (HO.xd vs) else g.H0 b) b = some o := e
      rw [orHp_none q] at e'
      by_cases hb : b = dx
      · rw [if_pos hb] at e'
        cases e'
        rw [hb]; exact hd
      · rw [if_neg hb] at e'
        exact r.fr _ _ e' n
  · cases q : F1 b with
    | none => rfl
    | some o =>
      have e' : orHp F1 g.F0 b = none := e
      rw [orHp_some q] at e'
      cases e'
  · obtain ⟨p, e1, q1, q2, q3⟩ := r.own i b d e
    refine ⟨p, e1, q1, q2, ?_⟩
    rcases q3 with q3 | q3
    · exact .inl q3
    · refine .inr ?_
      rw [ghX_H0, orHp_none q2]
      have : p ≠ dx := fun z => by
        subst z
        cases q1 with
        | lst e2 _ => rw [hd] at e2; cases e2
        | dct e2 _ => rw [hd] at e2; cases e2
        | dctT e2 _ => rw [hd] at e2; cases e2
      rw [if_neg this]
      exact q3
theorem Rep.ofX (r1 : Rep K g F1 en1 σ1 H1) (hd : H1 dx = some (.xd vs)) (hF : F1 dx = none) (r : Rep K (ghX g F1 dx (.xd vs) g.Rw) F en σ H) : Rep K g F en σ H := by
  have h0 : ∀ b o, g.H0 b = some o → b ∉ g.Ps → (ghX g F1 dx (.xd vs) g.Rw).H0 b = some o := fun b o e n => by
    rw [ghX_H0]
    have e2 := r1.fr b o e n
    cases q : F1 b with
    | some o' =>
      rw [orHp_some q]
      rw [r1.fz _ _ q] at e2
      exact e2
    | none =>
      rw [orHp_none q]
      by_cases hb : b = dx
      · rw [if_pos hb]
        rw [hb, hd] at e2
        exact e2
      · rw [if_neg hb]; exact e
  refine ⟨r.fz, fun b o e n => r.fr b o (h0 b o e n) n, r.al, fun b e n hb => ?_, r.len, r.val, fun i b d e => ?_, r.ali, r.sep, r.pl, r.rw⟩
  · have q := r1.nw b e n hb
    obtain ⟨o, ho⟩ := Option.ne_none_iff_exists'.mp n
    refine r.nw b ?_ ?_ hb
    · show orHp F1 g.F0 b = none
      rw [orHp_none q]; exact e
    · rw [h0 b o ho hb]; exact fun z => by cases z
  · obtain ⟨p, e1, q1, q2, q3⟩ := r.own i b d e
    refine ⟨p, e1, q1, q2, ?_⟩
    by_cases hp : p ∈ g.Ps
    · exact .inl hp
    · refine .inr ?_
      rcases q3 with q3 | q3
      · exact absurd q3 hp
      · cases q : g.H0 p with
        | none => rfl
        | some o =>
          rw [h0 p o q hp] at q3
          cases q3
theorem fldOk_of (hg : Full g) (r1 : Rep K g F1 en1 σ1 H1) (hd : H1 dx = some (.xd vs)) (hF : F1 dx = none) {fs : List (Str × D)} (hn : vs.map (·.1) = fs.map (·.1)) (hv : DvAll K F1 (vs.map (·.2)) (fs.map (·.2))) (hps : dx ∉ g.Ps) {rw' : List (Nat × Addr)} : FldOk K (ghX g F1 dx (.xd vs) rw') (some dx) fs := by
  intro F H en σ r f d e
  subst e
  match vs, hn, hv with
  | [(f', v)], hn, hv =>
    simp only [List.map_cons, List.map_nil, List.cons.injEq, and_true] at hn
    subst hn
    have nps : ∀ b o, F1 b = some o → b ∉ g.Ps := fun b o q hb => by
      obtain ⟨i, hi⟩ := hg b hb
      obtain ⟨e1, d1, e2⟩ := r1.pl i b hi
      obtain ⟨p, e3, _, q2, _⟩ := r1.own i true d1 e2
      rw [e1] at e3
      have : V.ref b = V.ref p := Option.some.inj (Option.some.inj e3)
      injection this with this
      subst this
      rw [q2] at q
      cases q
    have keep : ∀ b o, F1 b = some o → H b = some o := fun b o q => r.fr b o (by rw [ghX_H0]; exact orHp_some q) (nps b o q)
    have hdx : H dx = some (.xd [(f', v)]) := r.fr dx _ (by rw [ghX_H0, orHp_none hF]; simp) hps
    have sF : Same F (orHp F F1) := fun b o q => orHp_some q
    have sF1 : Same F1 (orHp F F1) := fun b o q => by
      cases q2 : F b with
      | none => rw [orHp_none q2]; exact q
      | some o2 =>
        rw [orHp_some q2]
        have e1 := r.fz _ _ q2
        rw [keep b o q] at e1
        exact e1.symm
    refine ⟨dx, v, orHp F F1, rfl, hdx, sF, ⟨fun b o q => ?_, r.fr, r.al, fun b e n hb => ?_, r.len, fun i d e => ?_, fun i b d e => ?_, r.ali, r.sep, r.pl, r.rw⟩, ?_⟩
    · cases q2 : F b with
      | none => rw [orHp_none q2] at q; exact keep b o q
      | some o2 => rw [orHp_some q2] at q; cases q; exact r.fz _ _ q2
    · have q1 := r.nw b e n hb
      rw [orHp_none q1]
      cases q2 : F1 b with
      | none => rfl
      | some o =>
        have e' : orHp F1 g.F0 b = none := e
        rw [orHp_some q2] at e'
        cases e'
    · obtain ⟨u, e1, q⟩ := r.val i d e
      exact ⟨u, e1, q.mono sF⟩
    · obtain ⟨p, e1, q1, q2, q3⟩ := r.own i b d e
      refine ⟨p, e1, q1.to rfl sF, ?_, q3⟩
      rw [orHp_none q2]
      rcases q3 with q3 | q3
      · cases q4 : F1 p with
        | none => rfl
        | some o => exact absurd q3 (nps p o q4)
      · cases q4 : F1 p with
        | none => rfl
        | some o =>
          have q5 : orHp F1 (fun b => if b = dx then some (HO.xd [(f', v)]) else g.H0 b) p = none := q3
          rw [orHp_some q4] at q5
          cases q5
    · cases hv with
      | cons h1 _ => exact h1.mono sF1
theorem xd_notPs (hg : Full g) (r1 : Rep K g F1 en1 σ1 H1) (hd : H1 dx = some (.xd vs)) : dx ∉ g.Ps := fun hb => by
  obtain ⟨i, hi⟩ := hg dx hb
  obtain ⟨e1, d1, e2⟩ := r1.pl i dx hi
  obtain ⟨p, e3, q1, q2, _⟩ := r1.own i true d1 e2
  rw [e1] at e3
  have : V.ref dx = V.ref p := Option.some.inj (Option.some.inj e3)
  injection this with this
  subst this
  cases q1 with
  | lst e5 _ => rw [hd] at e5; cases e5
  | dct e5 _ => rw [hd] at e5; cases e5
  | dctT e5 _ => rw [hd] at e5; cases e5
end
/-- try .. except X as n, the suite knows the error's fields -/
def bTryF (nm : Str) (i : Nat) (body : Bd) (suite : List (Str × D) → Bd) : Bd := fun en => match body en with
  | .ex en1 x => if x.cls = nm ∧ canPut en1 i = true then (match suite x.fs (en1.set i .xs) with
      | .nx e2 => .nx (e2.set i .un)
      | .rt e2 (.v d) => .rt (e2.set i .un) (.v d)
      | _ => .no) else .no
  | o => o
section
variable {X : Cx} {g : Gh} {Wh : WX} {x n f : Str} {C : Addr} {i : Nat} {body suite : List Stmt} {b₀ : Stmt} {np pos pos' : Pos} {bb : Bd} {sb : List (Str × D) → Bd}
theorem ds_tryF (hg0 : Full g) (hs : X.stack = X.env :: X.outer) (hf : X.env.frame = some X.env.locals) (hN : X.N.Nodup) (hi : X.N[i]? = some n) (hln : X.env.kindOf n = some .local) (XM : X.mg x = some (.ref C)) (Xe : PySem.W.exmOne X.K (.ref C) (.ref C) = some true) (hg : Gl X x) (hdb : (x == ("__debug__" : Str)) = false) (tk : Takes X Wh)
    (hb : ∀ (W : WX) (pn : List (Addr × Obj)) (xe : Value → Shared → Prop), Takes (X.tr pn xe) W → PassesOwn (model X.prog X.w) X.A X.env xe → DSs (X.tr pn xe) g (WH X.K X.mg W) body bb)
    (hsu : ∀ (a : Addr) (oe : Obj) (pn : List (Addr × Obj)) (g' : Gh) (dx : Option Addr) (fs : List (Str × D)), (i, a) ∈ g'.Rw → Zc (.ref C) dx oe → (∃ vs, oe.data = .fields vs) → FldOk X.K g' dx fs → DSs (X.suite a ((a, oe) :: pn)) g' (W0 X.K X.mg) (b₀ :: suite) (sb fs)) :
    DS X g (WH X.K X.mg Wh) (.Try body [.ExceptHandler (some (.Name x np)) (some n) (b₀ :: suite) pos'] [] [] pos) (bTryF x i bb sb) := by
  refine PS.imp (ps_try_as hs hf hN hi hln ⟨hg, hdb, .inl XM⟩ tk (tb := fun W => liftS X.K g (WH X.K X.mg W) bb)
    (ts := fun a cls d E σ H => ∃ g' fs, cls = .ref C ∧ (i, a) ∈ g'.Rw ∧ FldOk X.K g' d fs ∧ liftS X.K g' (W0 X.K X.mg) (sb fs) E σ H) hb (fun a oe cls d pn hz hf => ⟨fun pins s σ H D I ⟨g', fs, e1, e2, e3, q⟩ => by
    subst e1
    exact (hsu a oe pn g' d fs e2 hz hf e3).run pins s σ H D I q⟩)) fun E σ H h => ?_
  obtain ⟨F, en, rp, f⟩ := h
  refine ⟨F, en, rp, ?_⟩
  unfold bTryF at f
  cases e1 : bb en with
  | nx en1 => rw [e1] at f; exact f
  | rt en1 r => rw [e1] at f; exact f
  | bk en1 => rw [e1] at f; exact f
  | ct en1 => rw [e1] at f; exact f
  | no => rw [e1] at f; exact f
  | ex en1 xx =>
    rw [e1] at f
    dsimp only at f
    split at f
    · rename_i hc
      obtain ⟨h1, h3⟩ := hc
      intro σ1 F1 H1 s1 r1 cls dx er
      obtain ⟨m1, m2⟩ := er
      have ec : cls = .ref C := by
        rw [h1, XM] at m1
        exact (Option.some.inj m1).symm
      subst ec
      have key : ∀ (g' : Gh), Rep X.K g' F1 en1 σ1 H1 → (∀ rw', FldOk X.K { g' with Rw := rw' } dx xx.fs) → (∀ F2 H2 en2 σ2, Rep X.K g' F2 en2 σ2 H2 → Rep X.K g F2 en2 σ2 H2) →
          ∀ a, H1 a = none → ∃ g' fs, Value.ref C = .ref C ∧ (i, a) ∈ g'.Rw ∧ FldOk X.K g' dx fs ∧ liftS X.K g' (W0 X.K X.mg) (sb fs) { nx := fun σ' H' => E.nx (σ'.set i none) H', rt := E.rt, bk := fun σ' H' => E.bk (σ'.set i none) H', ct := fun σ' H' => E.ct (σ'.set i none) H' } (σ1.set i (some (.ref a))) H1 := fun g' r' hfo back a ha => by
        obtain ⟨r2, nrw⟩ := r'.putX (a := a) h3
        refine ⟨_, xx.fs, rfl, List.mem_cons_self, hfo _, F1, _, r2, ?_⟩
        cases e2 : sb xx.fs (en1.set i .xs) with
        | nx e3 =>
          rw [e2] at f
          exact fun σ2 F2 H2 s2 r3 => f _ F2 H2 (s1.trans s2) (back _ _ _ _ (r3.dropX nrw))
        | rt e3 rr =>
          rw [e2] at f
          cases rr with
          | v d => exact fun v σ2 F2 H2 s2 r3 ro => f v _ F2 H2 (s1.trans s2) (back _ _ _ _ (r3.dropX nrw)) ro
          | o d => exact f.elim
        | bk e3 => rw [e2] at f; exact f.elim
        | ct e3 => rw [e2] at f; exact f.elim
        | ex e3 x3 => rw [e2] at f; exact f.elim
        | no => rw [e2] at f; exact f.elim
      rcases m2 with ⟨z1, z2⟩ | ⟨d0, vs, z1, z2, z3, z4, z5, z6⟩
      · refine ⟨true, Xe, fun _ a ha => key g r1 (fun rw' F H en σ _ f d e => ?_) (fun _ _ _ _ r => r) a ha, fun z => by cases z⟩
        rw [z1] at e
        cases e
      · subst z2
        refine ⟨true, Xe, fun _ a ha => key _ (r1.toX z3 z4) (fun rw' => ?_) (fun F2 H2 en2 σ2 r => r1.ofX z3 z4 r) a ha, fun z => by cases z⟩
        exact fldOk_of hg0 r1 z3 z4 z5 z6 (xd_notPs hg0 r1 z3) (rw' := rw')
    · exact f.elim
/-- n.f of the error that the suite holds -/
def dFld (fs : List (Str × D)) (f : Str) : Ev := fun en => match fs with
  | [(f', d)] => if f' = f then .ok en (.d d) else .no
  | _ => .no
theorem de_fld {a : Addr} {oe : Obj} {pn : List (Addr × Obj)} {W : XW} {dx : Option Addr} {fs : List (Str × D)} {p1 pos : Pos} (hm : (i, a) ∈ g.Rw) (O : FldE X.prog X.K X.mg x f C) (hz : Zc (.ref C) dx oe) (hf : ∃ vs, oe.data = .fields vs) (hfo : FldOk X.K g dx fs) (hN : X.N[i]? = some n) (hv : Vis X.env.scope n)
    (hd : (n == ("__debug__" : Str)) = false := by decide) (hcd : (n == ("__classdict__" : Str)) = false := by decide) (hnd : (f == ("__dict__" : Str)) = false := by decide) (hb : attributeBase (.Name n p1) f X.env (eval (.Name n p1) X.env) = eval (.Name n p1) X.env := by rfl) :
    DE (X.suite a ((a, oe) :: pn)) g W (.Attribute (.Name n p1) f pos) (dFld fs f) := by
  obtain ⟨file, m, qual, params, bdy, scope, fI, T, _, _⟩ := O.ex
  refine PE.imp (pe_byF T hz hf (pe_var (X := X.suite a ((a, oe) :: pn)) hN hv hd hcd) hb hnd) fun σ H Q h => ?_
  obtain ⟨F, en, rp, q⟩ := h
  obtain ⟨z1, z2⟩ := rp.rw i a hm
  unfold dFld at q
  split at q
  · rename_i f' d
    split at q
    · rename_i ef
      subst ef
      obtain ⟨dd, v, F', e1, e2, e3, e4, e5⟩ := hfo F H en σ rp f' d rfl
      exact ⟨.ref a, z1, rfl, rfl, dd, v, e1, e2, q F' H e3 e4 v e5⟩
    · exact q.elim
  · exact q.elim
end
end DL
/-! Dzip: for x, y in zip(a list, a tuple). -/
namespace DL
open PySem PySem.Spec L2
open PyProof.Rows hiding St
/-- the list at a and the tuple at b, side by side, each pair new -/
def ItzM (K : PySem.W.Frag) (a b : Addr) : It :=
  ⟨fun i H => ∃ (xs ys : List V) (x y : V), SqL K H a xs ∧ SqT K H b ys ∧ xs[i]? = some x ∧ ys[i]? = some y,
    fun i H v H' => ∃ T x y, v = .ref T ∧ H T = none ∧ H' = upd H T (.tup [x, y]) ∧ (∀ xs, SqL K H a xs → xs[i]? = some x) ∧ ∀ ys, SqT K H b ys → ys[i]? = some y,
    fun i H => ∃ xs ys : List V, SqL K H a xs ∧ SqT K H b ys ∧ i ≤ xs.length ∧ i ≤ ys.length ∧ (i = xs.length ∨ i = ys.length)⟩
theorem turn_zipM {P : Program} {w : World} {K : PySem.W.Frag} {elts : List Expr} {kk : Nat} {tpos : Pos} {a b z TI TO i1 i2 : Addr} (S : ZipSep2 z TI TO i1 i2 [i1, a] [i2, b]) (na : a ≠ i1) (nb : b ≠ i2) :
    Turn P w K (.Tuple elts kk tpos) (ItzM K a b) [z, TI, TO, i1, i2] z (fun i h => IsZip h z TI TO .none ∧ IsTupOf2 h TI (.ref i1) (.ref i2) ∧ (∃ x y, IsTupOf2 h TO x y) ∧ h.IsListIter i1 a i ∧ h.IsTupleIter i2 b i) where
  mem := by simp
  obj := fun i h st c hc => by
    obtain ⟨hz, hTI, ⟨x, y, hTO⟩, ⟨o1, e1, _, d1⟩, ⟨o2, e2, _, d2⟩⟩ := st
    have zz : c = z ∨ c = TI ∨ c = TO ∨ c = i1 ∨ c = i2 := by simpa using hc
    rcases zz with rfl | rfl | rfl | rfl | rfl
    · exact ⟨_, hz, fun v q => nomatch q⟩
    · exact ⟨_, hTI, fun v q => nomatch q⟩
    · exact ⟨_, hTO, fun v q => nomatch q⟩
    · exact ⟨o1, e1, fun v q => by rw [d1] at q; cases q⟩
    · exact ⟨o2, e2, fun v q => by rw [d2] at q; cases q⟩
  keep := fun i h h' st k => by
    obtain ⟨hz, hTI, ⟨x, y, hTO⟩, h1, h2⟩ := st
    exact ⟨k z (by simp) _ hz, k TI (by simp) _ hTI, ⟨x, y, k TO (by simp) _ hTO⟩, h1.at fun o q => k i1 (by simp) o q, h2.at fun o q => k i2 (by simp) o q⟩
  item := by
    intro X hP hw hK hc i pins s σ H E I hf st hg
    subst hP hw hK
    obtain ⟨hz, hTI, ⟨x0, y0, hTO⟩, h1, h2⟩ := st
    obtain ⟨xs, ys, x, y, qx, qy, hx, hy⟩ := hg
    obtain ⟨as, ra, pa, _⟩ := I.list qx
    obtain ⟨bs, rb, pb, _⟩ := I.tuple qy
    obtain ⟨u, hu, ru⟩ := ra.get hx
    obtain ⟨u2, hu2, ru2⟩ := rb.get hy
    have pl : s.heap.IsList a as.toArray := pa.isList
    have pt : s.heap.IsTuple b bs.toArray := pb
    have l1 : i < as.toArray.size := by
      have := (List.getElem?_eq_some_iff.mp hu).1
      simpa using this
    have l2 : i < bs.toArray.size := by
      have := (List.getElem?_eq_some_iff.mp hu2).1
      simpa using this
    have hzl : z < s.heap.objs.size := Heap.lt_size hz
    refine wpAny_pyNext_zipD2_item S (Draws.list (A := X.A.in1) (I.ok.hd hc) i1 a na as.toArray) (Draws.tuple (A := X.A.in1) (I.ok.hd hc) i2 b nb bs.toArray) hz hTI hTO ⟨h1, pl⟩ ⟨h2, pt⟩ l1 l2 fun y1 y2 h' tk P1 P2 hz' hTO' st1 st2 hT hsz hk => ?_
    have ey1 : u = y1 := by
      have q : as.toArray[i]? = some y1 := P1
      rw [← Array.getElem?_toList] at q
      rw [show as.toArray.toList = as from rfl, hu] at q
      exact Option.some.inj q
    have ey2 : u2 = y2 := by
      have q : bs.toArray[i]? = some y2 := P2
      rw [← Array.getElem?_toList] at q
      rw [show bs.toArray.toList = bs from rfl, hu2] at q
      exact Option.some.inj q
    subst ey1 ey2
    refine ⟨_, rfl, wpAny_letOwnedTupleGo_zip (s := { s with heap := h', toks := tk }) hz' fun h'' hz'' sb => ?_⟩
    have hT2 : h''.get? s.heap.objs.size = some { cls := .type "tuple", data := .seq #[u, u2] } := (sb.2 _ (Nat.ne_of_gt hzl)).trans hT
    have new : ObjOk X.prog X.w (upd H s.heap.objs.size (.tup [x, y])) h'' s.heap.objs.size (.tup [x, y]) :=
      ⟨by show 2 ≤ sizeLine; decide, [u, u2], .cons ru (.cons ru2 .nil), ⟨_, hT2, rfl, _, rfl⟩⟩
    have I1 : Inv X pins σ (upd H s.heap.objs.size (.tup [x, y])) { s with heap := h'', toks := tk } :=
      I.turnedNew (ch := [z, TI, TO, i1, i2]) (fun c o hb q => (sb.2 c (fun e => hb (by simp [e]))).trans (hk c o (fun e => hb (by simp [e])) (fun e => hb (by simp [e])) (fun e => hb (by simp [e])) (fun e => hb (by simp [e])) q)) hf (Nat.le_refl _) new
    refine ⟨.ref s.heap.objs.size, _, I1, rfl, ⟨_, x, y, rfl, I.hok.fresh (Nat.le_refl _), rfl, fun l hl => by rw [I.list_inj hl qx]; exact hx, fun l hl => by rw [I.tuple_inj hl qy]; exact hy⟩, ⟨hz'', ?_, ⟨u, u2, ?_⟩, ?_, ?_⟩, fun c hcm => ?_⟩
    · have t1 : h'.get? TI = some _ := hk TI _ S.TIz S.TITO S.TIi1 S.TIi2 hTI
      exact (sb.2 _ S.TIz).trans t1
    · exact (sb.2 _ S.TOz).trans hTO'
    · exact st1.1.at fun o q => (sb.2 _ (Ne.symm S.zi1)).trans q
    · exact st2.1.at fun o q => (sb.2 _ (Ne.symm S.zi2)).trans q
    · have hlt : c < s.heap.objs.size := by
        have zz : c = z ∨ c = TI ∨ c = TO ∨ c = i1 ∨ c = i2 := by simpa using hcm
        rcases zz with rfl | rfl | rfl | rfl | rfl
        · exact hzl
        · exact Heap.lt_size hTI
        · exact Heap.lt_size hTO
        · obtain ⟨_, e1, _⟩ := h1; exact Heap.lt_size e1
        · obtain ⟨_, e2, _⟩ := h2; exact Heap.lt_size e2
      rw [upd_ne (Nat.ne_of_lt hlt)]
      exact (hf c hcm).1
  done := by
    intro X hP hw hK hc i pins s σ H E I hf st hg
    subst hP hw hK
    obtain ⟨hz, hTI, ⟨x0, y0, hTO⟩, h1, h2⟩ := st
    obtain ⟨xs, ys, qx, qy, le1, le2, hend⟩ := hg
    obtain ⟨as, ra, pa, _⟩ := I.list qx
    obtain ⟨bs, rb, pb, _⟩ := I.tuple qy
    have pl : s.heap.IsList a as.toArray := pa.isList
    have pt : s.heap.IsTuple b bs.toArray := pb
    have l1 := ra.length
    have l2 := rb.length
    refine wpAny_pyNext_zipD2_end S (Draws.list (A := X.A.in1) (I.ok.hd hc) i1 a na as.toArray) (Draws.tuple (A := X.A.in1) (I.ok.hd hc) i2 b nb bs.toArray) hz hTI hTO ⟨h1, pl⟩ ⟨h2, pt⟩ (by simp; omega) (by simp; omega) ?_ fun h' tk hk => ⟨rfl, I.turnedL (t' := tk) (ch := [z, TI, TO, i1, i2]) (fun c o hb q =>
      hk c o (fun e => hb (by simp [e])) (fun e => hb (by simp [e])) (fun e => hb (by simp [e])) (fun e => hb (by simp [e])) q) hf⟩
    rcases hend with e | e
    · exact .inl (by simp; omega)
    · exact .inr (by simp; omega)
  self := fun A i s Q E st h => wpAny_pyIter_zip st.1 h
def iZipM (K : PySem.W.Frag) (ta : TA) : TI := fun σ H R => ta σ H fun vs H1 => ∃ a b xs ys, vs = [.ref a, .ref b] ∧ SqL K H1 a xs ∧ SqT K H1 b ys ∧ R (ItzM K a b) H1
theorem nm2 {x y z : Nat} (h1 : x ≠ y) (h2 : x ≠ z) : x ∉ [y, z] := by simp [h1, h2]
theorem sep_new (n a b : Nat) (ha : a < n) (hb : b < n) : ZipSep2 (n + 4) (n + 2) (n + 3) n (n + 1) [n, a] [n + 1, b] where
  TIz := (by omega : n + 2 ≠ n + 4)
  TOz := (by omega : n + 3 ≠ n + 4)
  TITO := (by omega : n + 2 ≠ n + 3)
  TIi1 := (by omega : n + 2 ≠ n)
  mem1 := List.mem_cons_self
  zf1 := nm2 (by omega) (by omega)
  Tf1 := nm2 (by omega) (by omega)
  TIi2 := (by omega : n + 2 ≠ n + 1)
  mem2 := List.mem_cons_self
  zf2 := nm2 (by omega) (by omega)
  Tf2 := nm2 (by omega) (by omega)
  sep1_2 := nm2 (by omega) (by omega)
  sep2_1 := nm2 (by omega) (by omega)
theorem pi_zipM {X : Cx} {e e2 : Expr} {ta : TA} {p pos tpos : Pos} {elts : List Expr} {kk : Nat} (hg : Gl X "zip") (hm : X.mg "zip" = none) (ha : PA X [e, e2] ta)
    (hs : starEach [e, e2] X.env = (false, eval e X.env) :: starEach [e2] X.env := by rfl) (hpl : (backTo pos (starEach [e2] X.env)).any (·.1) = false := by rfl) :
    PI X (.Tuple elts kk tpos) (.Call (.Name "zip" p) [e, e2] [] pos) (iZipM X.K ta) := by
  refine ⟨fun pins s σ H R I h => ?_⟩
  refine Call_ (ld_blt I hg hm PyProof.Rows.boot_zip (PyProof.Rows.callWith_type1 (thn (ha.run pos pins s σ H _ I h) fun us s1 q0 => ?_) hs hpl))
  obtain ⟨vs, H1, I1, r1, a, b, xs, ys, rfl, qx, qy, q⟩ := q0
  cases r1 with
  | cons r rr =>
    cases rr with
    | cons r' rr =>
      cases rr
      cases r
      cases r'
      obtain ⟨as, ra, pa, _⟩ := I1.list qx
      obtain ⟨bs, rb, pb, _⟩ := I1.tuple qy
      have pl : s1.heap.IsList a as.toArray := pa.isList
      have pt : s1.heap.IsTuple b bs.toArray := pb
      have hal : a < s1.heap.objs.size := pa.lt
      have hbl : b < s1.heap.objs.size := by obtain ⟨_, z, _⟩ := pt; exact Heap.lt_size z
      refine zip_begins2 (begins_list a as.toArray) (begins_tuple b bs.toArray) pl pt fun h' hz hTI hTO h1 h2 hsz hk => wpAny_pyIter_zip hz ?_
      have I2 : Inv X pins σ H1 { s1 with heap := h' } := I1.kept (t' := s1.toks) hk
      have S := sep_new s1.heap.objs.size a b hal hbl
      refine ⟨s1.heap.objs.size + 4, [s1.heap.objs.size + 4, s1.heap.objs.size + 2, s1.heap.objs.size + 3, s1.heap.objs.size, s1.heap.objs.size + 1], _, _, H1, rfl, I2, turn_zipM S (Nat.ne_of_lt hal) (Nat.ne_of_lt (Nat.lt_succ_of_lt hbl)), ⟨hz, hTI, ⟨_, _, hTO⟩, ⟨_, h1, rfl, rfl⟩, ⟨_, h2, rfl, rfl⟩⟩, fun c hcm => ?_, q⟩
      have hle : s1.heap.objs.size ≤ c := by
        have zz : c = s1.heap.objs.size + 4 ∨ c = s1.heap.objs.size + 2 ∨ c = s1.heap.objs.size + 3 ∨ c = s1.heap.objs.size ∨ c = s1.heap.objs.size + 1 := by simpa using hcm
        rcases zz with rfl | rfl | rfl | rfl | rfl
        · exact Nat.le_add_right _ _
        · exact Nat.le_add_right _ _
        · exact Nat.le_add_right _ _
        · exact Nat.le_refl _
        · exact Nat.le_add_right _ _
      exact I1.fpOk hle (I1.hok.fresh hle)
/-! ### over the layer -/
def zipD : List D → List D → List D
  | a :: as, b :: bs => .tuple [a, b] :: zipD as bs
  | _, _ => []
theorem zipD_get : ∀ (as bs : List D) (i : Nat), (zipD as bs)[i]? = match as[i]?, bs[i]? with
    | some a, some b => some (.tuple [a, b])
    | _, _ => none
  | [], _, i => by simp [zipD]
  | a :: as, [], i => by
    simp only [zipD, List.getElem?_nil]
    split <;> simp_all
  | a :: as, b :: bs, 0 => by simp [zipD]
  | a :: as, b :: bs, i + 1 => by simp [zipD, zipD_get as bs i]
theorem zipD_len : ∀ (as bs : List D), (zipD as bs).length = min as.length bs.length
  | [], _ => by simp [zipD]
  | a :: as, [] => by simp [zipD]
  | a :: as, b :: bs => by simp [zipD, zipD_len as bs]
def iZip2 (fa fb : Ev) : Iv := fun en => (aCons fa (aCons fb aNil) en).bind fun en1 xs => match xs with
  | [.d (.list as), .d (.tuple bs)] => .ok en1 (zipD as bs)
  | _ => .no
theorem it_zipM {K : PySem.W.Frag} {F : Hp} {a b : Addr} {xs ys : List V} {as bs : List D} (q : SqL K F a xs) (h : DvAll K F xs as) (q2 : SqT K F b ys) (h2 : DvAll K F ys bs) : ItOk K F (fun _ _ => True) (ItzM K a b) (zipD as bs) := fun i F1 H1 s1 s2 _ => by
  have k1 := sqL_mono (s1.trans s2) q
  have k2 := sqT_mono (s1.trans s2) q2
  have l1 := h.length
  have l2 := h2.length
  refine ⟨fun d e => ?_, fun e => ⟨xs, ys, k1, k2, ?_⟩⟩
  · rw [zipD_get] at e
    cases e1 : as[i]? with
    | none => rw [e1] at e; cases e
    | some x =>
      cases e2 : bs[i]? with
      | none => rw [e1, e2] at e; cases e
      | some y =>
        rw [e1, e2] at e
        cases e
        obtain ⟨v, f1, dv⟩ := h.get e1
        obtain ⟨u, f2, du⟩ := h2.get e2
        refine ⟨⟨xs, ys, v, u, k1, k2, f1, f2⟩, fun w H2 z => ?_⟩
        obtain ⟨T, v', u', rfl, hT, rfl, z1, z2⟩ := z
        have := (z1 xs k1).symm.trans f1
        cases this
        have := (z2 ys k2).symm.trans f2
        cases this
        have x := Ext.put s2 hT (.tup [v, u])
        exact ⟨_, x, .tup (xs := [v, u]) (.inl (.inl upd_same)) (.cons ((dv.mono s1).mono x.le) (.cons ((du.mono s1).mono x.le) .nil))⟩
  · rw [zipD_len] at e
    omega
theorem di_zip {X : Cx} {g : Gh} {W : XW} {a b : Expr} {fa fb : Ev} {p pos tpos : Pos} {elts : List Expr} {kk : Nat} (hg : Gl X "zip") (hm : X.mg "zip" = none) (ha : DE X g W a fa) (hb : DE X g W b fb)
    (hs : starEach [a, b] X.env = (false, eval a X.env) :: starEach [b] X.env := by rfl) (hs2 : starEach [b] X.env = (false, eval b X.env) :: starEach [] X.env := by rfl) (hpl : (backTo pos (starEach [b] X.env)).any (·.1) = false := by rfl) :
    DI X g W (.Tuple elts kk tpos) (.Call (.Name "zip" p) [a, b] [] pos) (iZip2 fa fb) := by
  refine PI.imp (pi_zipM (tpos := tpos) (elts := elts) (kk := kk) (p := p) (pos := pos) hg hm (da_cons ha (da_cons hb da_nil hs2) hs) hs hpl) fun σ H R hw => ?_
  obtain ⟨F, en, rp, f1⟩ := hw
  unfold iZip2 at f1
  refine ⟨F, en, rp, (Fin.seq f1).mono fun F1 H1 en1 xs s1 r1 f2 vs hvs => ?_⟩
  match xs, vs, hvs, f2 with
  | [Rv.d (.list as), Rv.d (.tuple bs)], [v, u], ⟨hv, hu, _⟩, f2 =>
    have hv : Dv X.K F1 v (.list as) := hv
    have hu : Dv X.K F1 u (.tuple bs) := hu
    cases hv with
    | lst q0 al =>
      cases hu with
      | tup q1 bl =>
        have q : SqL X.K F1 _ _ := .inl (.inl q0)
        exact ⟨_, _, _, _, rfl, sqL_mono r1.fz q, sqT_mono r1.fz q1, f2 F1 H1 (Same.refl _) r1 _ (it_zipM q al q1 bl)⟩
end DL
/-! Dend3: classes of errors with a field, in the module. -/
namespace DL
open PySem PySem.Spec L2
open PyProof.Rows hiding St
/-- a method's own statement -/
def metS (s : Stmt) (j : Nat) : Stmt := match s with
  | .ClassDef _ _ _ b _ _ _ _ _ _ _ => b.getD j (.Pass ⟨0, 0, 0, 0⟩)
  | s => s
section
variable {P : Program} {K : PySem.W.Frag} {mg : Str → Option Value} {h : Heap}
theorem nog_in {x : Str} (X : K.In h) (G : h.Ns mainGlobals mg) (a : PySem.W.nsIn K mainGlobals x = some none) : mg x = none := PySem.W.mg_none_of X G a
theorem exm_self {S : Addr} (h1 : PySem.W.subIn K (.ref S) (.type "BaseException") = some true) (h2 : PySem.W.hasDictIn K S = true) (h3 : PySem.W.typeIn K (.ref S) = some (.type "type")) (h4 : PySem.W.subIn K (.ref S) (.ref S) = some true) : PySem.W.exmOne K (.ref S) (.ref S) = some true := PySem.W.exm_ref h1 h2 h3 h4
def FldQ (P : Program) (K : PySem.W.Frag) (mg : Str → Option Value) (nm f : Str) : Prop := ∃ C, FldE P K mg nm f C
theorem FldQ.in_ {nm f m qual file : Str} {st : Stmt} {C fI cda cc : Addr} (txt : PySem.FldX.FldS f m (defArgs st) (defBody st) (defScope st))
    {nmC q : Str} {N : Addr} {bs bm : List Value} {sn : List Str} {sub : List Value} {ab : Bool} {col : Option Bool} {dd : Option Addr} {m0 m1 m2 m3 m5 : Option Value}
    {oc dV kV doc pm ct ccl cl : Value} {od an cdd cld : Option Addr} {osl ccs csl : Array (Option Value)} {vs : Array Value} {tf : Tok}
    (X : K.In h) (G : h.Ns mainGlobals mg) (a : PySem.W.nsIn K mainGlobals nm = some (some (.ref C)))
    (xL : K.lookup C = some (excClassObj nmC q C N bs bm true sn sub ab col dd m0 m1 m2 m3 m5 "ValueError.__new__"))
    (sa : PySem.W.findIn K (.ref C) "__setattr__" = some (some (.builtin "object.__setattr__"))) (ga : PySem.W.findIn K (.ref C) "__getattribute__" = some (some (.builtin "BaseException.__getattribute__"))) (gg : PySem.W.findIn K (.ref C) "__getattr__" = some none) (nb : PySem.W.findIn K (.ref C) f = some none)
    (a1 : PySem.W.findIn K (.ref C) "__init__" = some (some (.ref fI))) (t1 : PySem.W.typeIn K (.ref fI) = some (.type "function"))
    (l1 : K.lookup fI = some ⟨oc, od, .func (PySem.W.ksFn "__init__" qual (defArgs st) (defBody st) (defScope st) dV kV doc pm an (.ref cda) ct cc), osl⟩) (c1 : PySem.W.codeIn K (.ref cda) qual = true)
    (kC : PySem.W.keepIn K (.ref C) = true) (eC : PySem.W.subIn K (.ref C) (.type "BaseException") = some true) (tC : PySem.W.typeIn K (.ref C) = some (.type "type")) (hC : PySem.W.hasDictIn K C = true) (sC : PySem.W.subIn K (.ref C) (.ref C) = some true)
    (su : PySem.W.ks_superIn K C C "__init__" = some (some (.builtin "ValueError.__init__"))) (ve : PySem.W.subIn K (.ref C) (.type "ValueError") = some true) (ow : PySem.W.mroIn K C (.ref C) = some true)
    (tp : PySem.W.nsIn K cStatics "thirdparty.any" = some none) (ns : PySem.W.nsIn K mainGlobals "super" = some none)
    (lc : K.lookup cda = some ⟨ccl, cdd, .fields vs, ccs⟩) (v2 : vs[2]? = some (.str file tf)) (le : K.lookup cc = some ⟨cl, cld, .cell (some (.ref C)), csl⟩)
    (bm0 : PySem.HandSPX.refsVE bm = true)
    (bnd : ∀ (s : Shared) (x y : Value), BindsTo s (PySem.W.ksFn "__init__" qual (defArgs st) (defBody st) (defScope st) dV kV doc pm an (.ref cda) ct cc) ⟨[x, y], []⟩ [("self", x), (f, y)])
    (hfile : ((P.main.file : Str) == file) = true) (htop : (P.main.scope.names.lookup ("super" : Str)).isSome = false) : FldQ P K mg nm f :=
  ⟨C, ⟨file, m, qual, _, _, _, fI, ⟨txt, PySem.W.mg_of X G a, ⟨nmC, q, N, bs, bm, sn, sub, ab, col, dd, m0, m1, m2, m3, m5, xL, bm0⟩, sa, ga, gg, nb, a1, t1, kC, eC, tC, hC, exm_self eC hC tC sC, su, ve, ow, tp, PySem.W.mg_none_of X G ns,
    ⟨oc, od, dV, kV, doc, pm, an, cda, ct, cc, osl, l1, c1, bnd, ⟨ccl, cdd, vs, ccs, tf, lc, v2⟩, cl, cld, csl, le⟩⟩, hfile, htop⟩⟩
end
end DL
/-! Dtab: a table of the module, its keys pairs of texts, its values texts; never changed. -/
namespace DL
open PySem PySem.Spec L2
open PyProof.Rows hiding St
abbrev TRow := Str × Str × Str
def TRow.key (r : TRow) : List Key := [.inr r.1, .inr r.2.1]
/-- the entries are the rows -/
inductive TAre : List TRow → List (List Key × Addr × Value) → Prop
  | nil : TAre [] []
  | cons {r : TRow} {a : Addr} {t : Tok} {rs : List TRow} {xs : List (List Key × Addr × Value)} : TAre rs xs → TAre (r :: rs) ((r.key, a, .str r.2.2 t) :: xs)
structure Tab (P : Program) (w : World) (K : PySem.W.Frag) (mg : Str → Option Value) (x : Str) (rows : List TRow) : Prop where
  ex : ∃ a, mg x = some (.ref a) ∧ (a == sysModules) = false ∧ ∀ h, K.In h → ∃ xs, TAre rows xs ∧ h.DictOfH (tupleKind (mixKind P w)) a xs
def tabAt (rows : List TRow) (x y : Str) : Option Str := (rows.find? fun r => decide (r.1 = x ∧ r.2.1 = y)).map (·.2.2)
theorem TAre.at {x y : Str} {rows : List TRow} {xs : List (List Key × Addr × Value)} (h : TAre rows xs) : (match tabAt rows x y with
    | some z => ∃ a t, atKey xs [.inr x, .inr y] = some (a, .str z t)
    | none => atKey xs [.inr x, .inr y] = none) := by
  induction h with
  | nil => exact rfl
  | @cons r a t rs xs _ ih =>
    by_cases e : r.1 = x ∧ r.2.1 = y
    · have e1 : tabAt (r :: rs) x y = some r.2.2 := by unfold tabAt; rw [List.find?_cons_of_pos (by simpa using e)]; rfl
      rw [e1]
      refine ⟨a, t, ?_⟩
      unfold atKey
      rw [List.find?_cons_of_pos (by simpa [TRow.key] using e)]
      rfl
    · have e1 : tabAt (r :: rs) x y = tabAt rs x y := by unfold tabAt; rw [List.find?_cons_of_neg (by simpa using e)]
      have e2 : atKey ((r.key, a, Value.str r.2.2 t) :: xs) [.inr x, .inr y] = atKey xs [.inr x, .inr y] := by
        unfold atKey
        rw [List.find?_cons_of_neg (by simpa [TRow.key] using e)]
      rw [e1, e2]
      exact ih
def oStr : Option Str → V
  | some z => .str z
  | none => .non
/-- FORMS.get(e), e in FORMS, FORMS[e] for a pair of texts -/
def tTabGet (K : PySem.W.Frag) (rows : List TRow) (ty : TE) : TE := fun σ H Q => ty σ H fun y H1 => ∃ b p q, y = .ref b ∧ SqT K H1 b [.str p, .str q] ∧ Q (oStr (tabAt rows p q)) H1
def tTabAt (K : PySem.W.Frag) (rows : List TRow) (ty : TE) : TE := fun σ H Q => ty σ H fun y H1 => ∃ b p q z, y = .ref b ∧ SqT K H1 b [.str p, .str q] ∧ tabAt rows p q = some z ∧ Q (.str z) H1
section
variable {X : Cx} {e : Expr} {npos apos cpos : Pos} {ty : TE} {x : Str} {rows : List TRow}
theorem tab_key {pins : List (Addr × Obj)} {σ : St} {H : Hp} {s : Shared} (I : Inv X pins σ H s) {b : Addr} {p q : Str} (eb : SqT X.K H b [.str p, .str q]) : (tupleKind (mixKind X.prog X.w)).is s.heap [.inr p, .inr q] b := by
  obtain ⟨its, r, ⟨o, h1, h2, n, h3⟩, z⟩ := I.tuple eb
  exact ⟨o, its.toArray, n, h1, h2, h3, by simpa using items_are (ks := [.inr p, .inr q]) r⟩
theorem tab_look {pins : List (Addr × Obj)} {σ : St} {H : Hp} {s s' : Shared} {p q : Str} {xs : List (List Key × Addr × Value)} (ta : TAre rows xs) : RelV (oStr (tabAt rows p q)) (((atKey xs [.inr p, .inr q]).map (·.2)).getD .none) := by
  have h := ta.at (x := p) (y := q)
  cases e : tabAt rows p q with
  | none => rw [e] at h; rw [h]; rfl
  | some z =>
    rw [e] at h
    obtain ⟨a, t, h⟩ := h
    rw [h]
    exact ⟨t, rfl⟩
theorem pe_tabget (T : Tab X.prog X.w X.K X.mg x rows) (hg : Gl X x) (hd : (x == ("__debug__" : Str)) = false) (hu : X.A.units + 1 < cLine) (he : PE X e ty) (m : M1 X (.Name x npos) "get" apos e cpos) : PE X (.Call (.Attribute (.Name x npos) "get" apos) [e] [] cpos) (tTabGet X.K rows ty) := by
  obtain ⟨a, h1, h2, h3⟩ := T.ex
  refine ⟨fun pins s σ H Q I h => ?_⟩
  refine wpAny_Call_method m.base m.few m.line PySem.F.plainAttrs_dict PySem.F.slot_dict_get PySem.F.type_dict_get (ld_glob I hg h1 ?_ hd)
  obtain ⟨xs, ta, dd⟩ := h3 s.heap I.kIn
  refine ⟨dd.typeIs, fun b q => ?_, ?_⟩
  · cases q
    obtain ⟨ob, _, _, e1, e2, _⟩ := dd
    exact ⟨ob, e1, e2.2.1⟩
  rw [m.trees]
  refine Calls.callWith_builtin rfl (Calls.evalArgs_plain (Calls.spliced_cons (thn (he.run pins s σ H _ I h) fun iv s2 ⟨y, H2, I2, ry, b, p, q, ey, eb, q2⟩ => Calls.spliced_nil ?_)))
  subst ey
  cases (show iv = Value.ref b from ry)
  obtain ⟨xs, ta, dd⟩ := h3 s2.heap I2.kIn
  refine call_meetsIn PySem.F.slot_dict_get dd.typeIs PySem.F.entry_dict_get (PySem.F.args_dict_get_2 _ _) (meetsH_dict_get (tupleKind (mixKind X.prog X.w)) a b h2) ⟨tupleKind_room_in1 hu, _, xs, tab_key I2 eb, dd, ?_⟩
  exact ⟨_, H2, I2.tok _, tab_look (pins := pins) (σ := σ) (H := H2) (s := s2) (s' := s2) ta, q2⟩
theorem pe_tabat (T : Tab X.prog X.w X.K X.mg x rows) (hg : Gl X x) (hd : (x == ("__debug__" : Str)) = false) (hu : X.A.units + 1 < cLine) (he : PE X e ty) (hs : NoSl e) : PE X (.Subscript (.Name x npos) e cpos) (tTabAt X.K rows ty) := by
  obtain ⟨a, h1, h2, h3⟩ := T.ex
  refine ⟨fun pins s σ H Q I h => ?_⟩
  refine subD_of PySem.F.slot_dict_getitem.lookup hs (ld_glob I hg h1 (thn (he.run pins s σ H _ I h) fun iv s2 ⟨y, H2, I2, ry, b, p, q, z, ey, eb, ez, q2⟩ => ?_) hd)
  subst ey
  cases (show iv = Value.ref b from ry)
  obtain ⟨xs, ta, dd⟩ := h3 s2.heap I2.kIn
  have h := ta.at (x := p) (y := q)
  rw [ez] at h
  obtain ⟨a', t, h⟩ := h
  refine ⟨dd.typeIs, ?_⟩
  exact wpAny_getItem_heap (tupleKind_room_in1 hu) (tab_key I2 eb) dd h ⟨.str z, H2, I2.tok _, ⟨t, rfl⟩, q2⟩
/-- e in FORMS -/
def tTabIn (K : PySem.W.Frag) (rows : List TRow) (ty : TE) : TE := fun σ H Q => ty σ H fun y H1 => ∃ b p q, y = .ref b ∧ SqT K H1 b [.str p, .str q] ∧ Q (.bl (tabAt rows p q).isSome) H1
theorem pc_tabin (T : Tab X.prog X.w X.K X.mg x rows) (hg : Gl X x) (hd : (x == ("__debug__" : Str)) = false) (hu : X.A.units + 1 < cLine) (he : PE X e ty) : PC X .In e (.Name x npos) (tTabIn X.K rows ty) := by
  obtain ⟨a, h1, h2, h3⟩ := T.ex
  refine ⟨fun pins s σ H Q I h => ?_⟩
  refine thn (he.run pins s σ H _ I h) fun iv s2 ⟨y, H2, I2, ry, b, p, q, ey, eb, q2⟩ => ld_glob I2 hg h1 ?_ hd
  subst ey
  cases (show iv = Value.ref b from ry)
  obtain ⟨xs, ta, dd⟩ := h3 s2.heap I2.kIn
  have h := ta.at (x := p) (y := q)
  refine wpAny_in_heap (tupleKind_room_in1 hu) (tab_key I2 eb) h2 dd ?_
  have e : (atKey xs [.inr p, .inr q]).isSome = (tabAt rows p q).isSome := by
    cases ez : tabAt rows p q with
    | none => rw [ez] at h; rw [h]; rfl
    | some z => rw [ez] at h; obtain ⟨a', t, h⟩ := h; rw [h]; rfl
  exact ⟨_, H2, I2.tok _, by rw [e]; rfl, q2⟩
variable {g : Gh} {W : XW} {fe : Ev}
def sTabGet (rows : List TRow) : D → Option D
  | .tuple [.str p, .str q] => some (match tabAt rows p q with
    | some z => .str z
    | none => .none)
  | _ => none
def sTabAt (rows : List TRow) : D → Option D
  | .tuple [.str p, .str q] => (tabAt rows p q).map .str
  | _ => none
def sTabIn (rows : List TRow) : D → Option D
  | .tuple [.str p, .str q] => some (.bool (tabAt rows p q).isSome)
  | _ => none
theorem pair_v {K : PySem.W.Frag} {F H : Hp} {v : V} {p q : Str} (s : Same F H) (h : Vw K F H v (.tuple [.str p, .str q])) : ∃ b, v = .ref b ∧ SqT K H b [.str p, .str q] := by
  obtain ⟨a, xs, rfl, sq, al, _⟩ := vw_tup s h
  cases al with
  | cons h1 h2 =>
    cases h2 with
    | cons h3 h4 =>
      cases h4
      cases h1
      cases h3
      exact ⟨a, rfl, sq⟩
theorem de_tabget {j : Nat} (T : Tab X.prog X.w X.K X.mg x rows) (hr : Room j X.A) (he : DE X g W e fe) (hg : Gl X x := by rfl) (hd : (x == ("__debug__" : Str)) = false := by decide) (m : M1 X (.Name x npos) "get" apos e cpos := by exact ⟨rfl, rfl, rfl, rfl⟩) : DE X g W (.Call (.Attribute (.Name x npos) "get" apos) [e] [] cpos) (dUn (sTabGet rows) fe) := by
  refine PE.imp (pe_tabget T hg hd (hu_of hr) he m) fun σ H Q h => ?_
  obtain ⟨F, en, rp, f⟩ := h
  refine ⟨F, en, rp, (Fin.seq f).mono fun F1 H1 en1 y s1 r1 f1 v hv => ?_⟩
  refine of_op1 (sem := sTabGet rows) (en := en1) (x := y) (fun e => by rw [e] at f1; exact f1.elim) fun d c e1 e3 e4 => ?_
  unfold sTabGet at e3
  split at e3
  · rename_i p q
    obtain ⟨b, rfl, sq⟩ := pair_v r1.fz (r1.view hv e1)
    refine ⟨b, p, q, rfl, sq, (fin1 r1 e4 f1).of r1.fz ?_⟩
    cases e3
    unfold oStr
    cases tabAt rows p q with
    | none => exact .non
    | some z => exact .str z
  · cases e3
theorem de_tabat {j : Nat} (T : Tab X.prog X.w X.K X.mg x rows) (hr : Room j X.A) (he : DE X g W e fe) (hg : Gl X x := by rfl) (hd : (x == ("__debug__" : Str)) = false := by decide) (hs : NoSl e := by exact fun _ _ => rfl) : DE X g W (.Subscript (.Name x npos) e cpos) (dUn (sTabAt rows) fe) := by
  refine PE.imp (pe_tabat T hg hd (hu_of hr) he hs) fun σ H Q h => ?_
  obtain ⟨F, en, rp, f⟩ := h
  refine ⟨F, en, rp, (Fin.seq f).mono fun F1 H1 en1 y s1 r1 f1 v hv => ?_⟩
  refine of_op1 (sem := sTabAt rows) (en := en1) (x := y) (fun e => by rw [e] at f1; exact f1.elim) fun d c e1 e3 e4 => ?_
  unfold sTabAt at e3
  split at e3
  · rename_i p q
    obtain ⟨b, rfl, sq⟩ := pair_v r1.fz (r1.view hv e1)
    obtain ⟨z, ez, rfl⟩ := Option.map_eq_some_iff.mp e3
    exact ⟨b, p, q, z, rfl, sq, ez, (fin1 r1 e4 f1).of r1.fz (.str z)⟩
  · cases e3
theorem dt_tabin {j : Nat} (T : Tab X.prog X.w X.K X.mg x rows) (hr : Room j X.A) (he : DE X g W e fe) (hg : Gl X x := by rfl) (hd : (x == ("__debug__" : Str)) = false := by decide) (hm : behindInMarks .In (.Name x npos) = false := by rfl) : DT X g W (.Compare e [.In] [.Name x npos] cpos) (tOf (dUn (sTabIn rows) fe)) := by
  refine PT.imp (pt_cmp (pc_tabin T hg hd (hu_of hr) he) hm) fun σ H Q h => ?_
  obtain ⟨F, en, rp, f⟩ := h
  have f := Fin.seq f
  refine ⟨F, en, rp, (Fin.seq f).mono fun F1 H1 en1 y s1 r1 f1 v hv => ?_⟩
  refine of_op1 (sem := sTabIn rows) (en := en1) (x := y) (fun e => by rw [e] at f1; exact f1.elim) fun d c e1 e3 e4 => ?_
  rw [e4] at f1
  unfold sTabIn at e3
  split at e3
  · rename_i p q
    obtain ⟨b, rfl, sq⟩ := pair_v r1.fz (r1.view hv e1)
    refine ⟨b, p, q, rfl, sq, _, rfl, ?_⟩
    cases e3
    have f3 : Fin X.K g W σ F1 (opB toB en1 (.d (.bool (tabAt rows p q).isSome))) (fun _ H' _ b => Q b H') := f1 F1 H1 (Same.refl _) r1
    exact f3 F1 H1 (Same.refl _) r1
  · cases e3
theorem de_tabin {j : Nat} (T : Tab X.prog X.w X.K X.mg x rows) (hr : Room j X.A) (he : DE X g W e fe) (hg : Gl X x := by rfl) (hd : (x == ("__debug__" : Str)) = false := by decide) (hm : behindInMarks .In (.Name x npos) = false := by rfl) : DE X g W (.Compare e [.In] [.Name x npos] cpos) (dUn (sTabIn rows) fe) := by
  refine PE.imp (pe_cmp (pc_tabin T hg hd (hu_of hr) he) hm) fun σ H Q h => ?_
  obtain ⟨F, en, rp, f⟩ := h
  refine ⟨F, en, rp, (Fin.seq f).mono fun F1 H1 en1 y s1 r1 f1 v hv => ?_⟩
  refine of_op1 (sem := sTabIn rows) (en := en1) (x := y) (fun e => by rw [e] at f1; exact f1.elim) fun d c e1 e3 e4 => ?_
  unfold sTabIn at e3
  split at e3
  · rename_i p q
    obtain ⟨b, rfl, sq⟩ := pair_v r1.fz (r1.view hv e1)
    cases e3
    exact ⟨b, p, q, rfl, sq, (fin1 r1 e4 f1).of r1.fz (.bl _)⟩
  · cases e3
end
end DL
namespace DL
open PySem PySem.Spec L2
open PyProof.Rows hiding St
/-! a tuple of the module, its members texts and numbers -/
def valD : Value → Option D
  | .str x _ => some (.str x)
  | .int i _ => some (.int i)
  | _ => none
def valsD : List Value → Option (List D)
  | [] => some []
  | v :: vs => (valD v).bind fun d => (valsD vs).map (d :: ·)
theorem valD_ok {v : Value} {d : D} (h : valD v = some d) : ∃ u : V, RelV u v ∧ ∀ K F, Dv K F u d := by
  cases v with
  | str x t => cases h; exact ⟨.str x, ⟨t, rfl⟩, fun _ _ => .str x⟩
  | int i t => cases h; exact ⟨.int i, ⟨t, rfl⟩, fun _ _ => .int i⟩
  | _ => cases h
theorem valsD_ok : ∀ {vs : List Value} {ds : List D}, valsD vs = some ds → ∃ us : List V, Vals us vs ∧ ∀ K F, DvAll K F us ds
  | [], ds, h => by cases h; exact ⟨[], .nil, fun _ _ => .nil⟩
  | v :: vs, ds, h => by
    obtain ⟨d, h1, h2⟩ := Option.bind_eq_some_iff.mp h
    obtain ⟨r, h3, rfl⟩ := Option.map_eq_some_iff.mp h2
    obtain ⟨u, a, b⟩ := valD_ok h1
    obtain ⟨us, c, e⟩ := valsD_ok h3
    exact ⟨u :: us, .cons a c, fun K F => .cons (b K F) (e K F)⟩
theorem Konst.tup {K : PySem.W.Frag} {mg : Str → Option Value} {x : Str} {a : Addr} {dx : Option Addr} {its : Array Value} {n : Nat} {sl : Array (Option Value)} {ds : List D} (h : mg x = some (.ref a)) (l : K.lookup a = some ⟨.type "tuple", dx, .seq its n, sl⟩) (z : its.size ≤ sizeLine) (v : valsD its.toList = some ds) : Konst K mg x (.tuple ds) := by
  obtain ⟨us, h1, h2⟩ := valsD_ok v
  exact ⟨.ref a, _, h, rfl, fun F => .tup (.inr ⟨_, its, n, l, rfl, rfl, z, h1⟩) (h2 K F)⟩
end DL
/-! Dkd: a table of the module keyed by texts; in a dict; texts in order; a tuple turned round. -/
namespace DL
open PySem PySem.Spec L2
open PyProof.Rows hiding St
/-! ### a table of the module, keys and values texts -/
abbrev SRow := Str × Str
def entS (e : DictEntry) : Option SRow := match e.key, e.val with
  | .str a _, .str b _ => some (a, b)
  | _, _ => none
structure TabS (P : Program) (w : World) (K : PySem.W.Frag) (mg : Str → Option Value) (x : Str) (rows : List SRow) : Prop where
  ex : ∃ a es n, mg x = some (.ref a) ∧ KDict K w a es n ∧ es.toList.map entS = rows.map some
def txtAt (rows : List SRow) (x : Str) : Option Str := (rows.find? fun r => decide (r.1 = x)).map (·.2)
theorem ents_find (z : Str) : ∀ (rows : List SRow) (es : List DictEntry), es.map entS = rows.map some →
    (match txtAt rows z with
      | some y => ∃ e t, es.find? (·.key.isStr z) = some e ∧ e.val = .str y t
      | none => es.find? (·.key.isStr z) = none) ∧ es.any (·.refKey) = false
  | [], [], _ => ⟨rfl, rfl⟩
  | [], _ :: _, h => by cases h
  | _ :: _, [], h => by cases h
  | r :: rows, e :: es, h => by
    rw [List.map_cons, List.map_cons, List.cons.injEq] at h
    obtain ⟨h1, h2⟩ := h
    obtain ⟨i1, i2⟩ := ents_find z rows es h2
    unfold entS at h1
    split at h1
    · rename_i a t b t' ek ev
      cases h1
      refine ⟨?_, ?_⟩
      · by_cases q : a = z
        · have e1 : txtAt ((a, b) :: rows) z = some b := by unfold txtAt; rw [List.find?_cons_of_pos (by simpa using q)]; rfl
          rw [e1]
          refine ⟨e, t', ?_, ev⟩
          rw [List.find?_cons_of_pos (by rw [ek]; subst q; simp [Value.isStr])]
        · have e1 : txtAt ((a, b) :: rows) z = txtAt rows z := by unfold txtAt; rw [List.find?_cons_of_neg (by simpa using q)]
          rw [e1, List.find?_cons_of_neg (by rw [ek]; simpa [Value.isStr] using q)]
          exact i1
      · rw [List.any_cons, i2, Bool.or_false]
        unfold DictEntry.refKey
        rw [ek]
    · cases h1
theorem TabS.at {P : Program} {w : World} {K : PySem.W.Frag} {a : Addr} {es : Array DictEntry} {n : Nat} {rows : List SRow} (k : KDict K w a es n) (h : es.toList.map entS = rows.map some) (z : Str) :
    match txtAt rows z with
    | some y => ∃ t, PySem.W.nsIn K a z = some (some (.str y t))
    | none => PySem.W.nsIn K a z = some none := by
  obtain ⟨h1, h2⟩ := ents_find z rows es.toList h
  unfold PySem.W.nsIn
  rw [k.at_]
  dsimp only
  cases e : txtAt rows z with
  | none =>
    rw [e] at h1
    dsimp only at h1 ⊢
    rw [h1]
    dsimp only
    rw [h2]
    rfl
  | some y =>
    rw [e] at h1
    obtain ⟨en, t, h3, h4⟩ := h1
    dsimp only
    rw [h3]
    exact ⟨t, by dsimp only; rw [h4]⟩
def sKdAt (rows : List SRow) : D → Option D
  | .str x => (txtAt rows x).map .str
  | _ => none
def sKdIn (rows : List SRow) : D → Option D
  | .str x => some (.bool (txtAt rows x).isSome)
  | _ => none
def sKdNin (rows : List SRow) : D → Option D
  | .str x => some (.bool (!(txtAt rows x).isSome))
  | _ => none
section
variable {X : Cx} {g : Gh} {W : XW} {e : Expr} {fe : Ev} {npos cpos : Pos} {x : Str} {rows : List SRow} {te : TE}
def tKdAt (rows : List SRow) (te : TE) : TE := fun σ H Q => te σ H fun y H1 => ∃ p z, y = .str p ∧ txtAt rows p = some z ∧ Q (.str z) H1
def tKdNin (rows : List SRow) (te : TE) : TE := fun σ H Q => te σ H fun y H1 => ∃ p, y = .str p ∧ Q (.bl (!(txtAt rows p).isSome)) H1
def tKdIn (rows : List SRow) (te : TE) : TE := fun σ H Q => te σ H fun y H1 => ∃ p, y = .str p ∧ Q (.bl (txtAt rows p).isSome) H1
theorem pe_kdat (T : TabS X.prog X.w X.K X.mg x rows) (hg : Gl X x) (hd : (x == ("__debug__" : Str)) = false) (he : PE X e te) (hs : NoSl e) : PE X (.Subscript (.Name x npos) e cpos) (tKdAt rows te) := by
  obtain ⟨a, es, n, h1, kd, h3⟩ := T.ex
  refine ⟨fun pins s σ H Q I h => ?_⟩
  refine subD_of PySem.F.slot_dict_getitem.lookup hs (ld_glob I hg h1 (thn (he.run pins s σ H _ I h) fun iv s2 ⟨y, H2, I2, ry, p, z, ey, ez, q2⟩ => ?_) hd)
  subst ey
  refine ⟨kd_type kd I2, ?_⟩
  have q := TabS.at (P := X.prog) kd h3 p
  rw [ez] at q
  obtain ⟨t, q⟩ := q
  exact op_item_kd kd pins s2 σ H2 (.ref a) (.str p) _ _ Q I2 rfl ry ⟨p, _, .str z, rfl, rfl, q, ⟨t, rfl⟩, q2⟩
theorem pc_kdnin (T : TabS X.prog X.w X.K X.mg x rows) (hg : Gl X x) (hd : (x == ("__debug__" : Str)) = false) (he : PE X e te) : PC X .NotIn e (.Name x npos) (tKdNin rows te) := by
  obtain ⟨a, es, n, h1, kd, h3⟩ := T.ex
  refine ⟨fun pins s σ H Q I h => ?_⟩
  refine thn (he.run pins s σ H _ I h) fun iv s2 ⟨y, H2, I2, ry, p, ey, q2⟩ => ld_glob I2 hg h1 ?_ hd
  subst ey
  have q := TabS.at (P := X.prog) kd h3 p
  cases ez : txtAt rows p with
  | none =>
    rw [ez] at q q2
    exact op_notIn_kd kd pins s2 σ H2 (.str p) (.ref a) _ _ Q I2 ry rfl ⟨p, _, rfl, rfl, q, q2⟩
  | some z =>
    rw [ez] at q q2
    obtain ⟨t, q⟩ := q
    exact op_notIn_kd kd pins s2 σ H2 (.str p) (.ref a) _ _ Q I2 ry rfl ⟨p, _, rfl, rfl, q, q2⟩
theorem pc_kdin (T : TabS X.prog X.w X.K X.mg x rows) (hg : Gl X x) (hd : (x == ("__debug__" : Str)) = false) (he : PE X e te) : PC X .In e (.Name x npos) (tKdIn rows te) := by
  obtain ⟨a, es, n, h1, kd, h3⟩ := T.ex
  refine ⟨fun pins s σ H Q I h => ?_⟩
  refine thn (he.run pins s σ H _ I h) fun iv s2 ⟨y, H2, I2, ry, p, ey, q2⟩ => ld_glob I2 hg h1 ?_ hd
  subst ey
  have q := TabS.at (P := X.prog) kd h3 p
  cases ez : txtAt rows p with
  | none =>
    rw [ez] at q q2
    exact op_in_kd kd pins s2 σ H2 (.str p) (.ref a) _ _ Q I2 ry rfl ⟨p, _, rfl, rfl, q, q2⟩
  | some z =>
    rw [ez] at q q2
    obtain ⟨t, q⟩ := q
    exact op_in_kd kd pins s2 σ H2 (.str p) (.ref a) _ _ Q I2 ry rfl ⟨p, _, rfl, rfl, q, q2⟩
theorem de_kdat (T : TabS X.prog X.w X.K X.mg x rows) (he : DE X g W e fe) (hg : Gl X x := by rfl) (hd : (x == ("__debug__" : Str)) = false := by decide) (hs : NoSl e := by exact fun _ _ => rfl) : DE X g W (.Subscript (.Name x npos) e cpos) (dUn (sKdAt rows) fe) := by
  refine PE.imp (pe_kdat T hg hd he hs) fun σ H Q h => ?_
  obtain ⟨F, en, rp, f⟩ := h
  refine ⟨F, en, rp, (Fin.seq f).mono fun F1 H1 en1 y s1 r1 f1 v hv => ?_⟩
  refine of_op1 (sem := sKdAt rows) (en := en1) (x := y) (fun e => by rw [e] at f1; exact f1.elim) fun d c e1 e3 e4 => ?_
  unfold sKdAt at e3
  split at e3
  · rename_i p
    have := vw_str (r1.view hv e1)
    subst this
    obtain ⟨z, ez, rfl⟩ := Option.map_eq_some_iff.mp e3
    exact ⟨p, z, rfl, ez, (fin1 r1 e4 f1).of r1.fz (.str z)⟩
  · cases e3
theorem dt_kdnin (T : TabS X.prog X.w X.K X.mg x rows) (he : DE X g W e fe) (hg : Gl X x := by rfl) (hd : (x == ("__debug__" : Str)) = false := by decide) (hm : behindInMarks .NotIn (.Name x npos) = false := by rfl) : DT X g W (.Compare e [.NotIn] [.Name x npos] cpos) (tOf (dUn (sKdNin rows) fe)) := by
  refine PT.imp (pt_cmp (pc_kdnin T hg hd he) hm) fun σ H Q h => ?_
  obtain ⟨F, en, rp, f⟩ := h
  have f := Fin.seq f
  refine ⟨F, en, rp, (Fin.seq f).mono fun F1 H1 en1 y s1 r1 f1 v hv => ?_⟩
  refine of_op1 (sem := sKdNin rows) (en := en1) (x := y) (fun e => by rw [e] at f1; exact f1.elim) fun d c e1 e3 e4 => ?_
  rw [e4] at f1
  unfold sKdNin at e3
  split at e3
  · rename_i p
    have := vw_str (r1.view hv e1)
    subst this
    refine ⟨p, rfl, _, rfl, ?_⟩
    cases e3
    have f3 : Fin X.K g W σ F1 (opB toB en1 (.d (.bool (!(txtAt rows p).isSome)))) (fun _ H' _ b => Q b H') := f1 F1 H1 (Same.refl _) r1
    exact f3 F1 H1 (Same.refl _) r1
  · cases e3
theorem dt_kdin (T : TabS X.prog X.w X.K X.mg x rows) (he : DE X g W e fe) (hg : Gl X x := by rfl) (hd : (x == ("__debug__" : Str)) = false := by decide) (hm : behindInMarks .In (.Name x npos) = false := by rfl) : DT X g W (.Compare e [.In] [.Name x npos] cpos) (tOf (dUn (sKdIn rows) fe)) := by
  refine PT.imp (pt_cmp (pc_kdin T hg hd he) hm) fun σ H Q h => ?_
  obtain ⟨F, en, rp, f⟩ := h
  have f := Fin.seq f
  refine ⟨F, en, rp, (Fin.seq f).mono fun F1 H1 en1 y s1 r1 f1 v hv => ?_⟩
  refine of_op1 (sem := sKdIn rows) (en := en1) (x := y) (fun e => by rw [e] at f1; exact f1.elim) fun d c e1 e3 e4 => ?_
  rw [e4] at f1
  unfold sKdIn at e3
  split at e3
  · rename_i p
    have := vw_str (r1.view hv e1)
    subst this
    refine ⟨p, rfl, _, rfl, ?_⟩
    cases e3
    have f3 : Fin X.K g W σ F1 (opB toB en1 (.d (.bool (txtAt rows p).isSome))) (fun _ H' _ b => Q b H') := f1 F1 H1 (Same.refl _) r1
    exact f3 F1 H1 (Same.refl _) r1
  · cases e3
/-! ### texts in order -/
def ltS (x y : Str) : Bool := decide (x.cps.toList < y.cps.toList)
def leS (x y : Str) : Bool := !decide (y.cps.toList < x.cps.toList)
def sCmpS (f : Str → Str → Bool) : D → D → Option D
  | .str i, .str j => some (.bool (f i j))
  | _, _ => none
theorem se_cmpS {K : PySem.W.Frag} {f : Str → Str → Bool} : Sem2 K (fun x y H Q => ∃ i j, x = .str i ∧ y = .str j ∧ Q (.bl (f i j)) H) (sCmpS f) := by
  intro F H v u d e c Q s hv hu hs g
  unfold sCmpS at hs
  split at hs
  · cases hs
    exact ⟨_, _, vw_str hv, vw_str hu, Give.of s g (.bl _)⟩
  · cases hs
variable {a b : Expr} {fa fb : Ev} {pos : Pos}
theorem t_ltS (ha : DE X g W a fa) (hb : DE X g W b fb) : DT X g W (.Compare a [.Lt] [b] pos) (tOf (dOp (sCmpS ltS) fa fb)) := dt_cmp op_lt_str se_cmpS ha hb (nomark _)
theorem t_leS (ha : DE X g W a fa) (hb : DE X g W b fb) : DT X g W (.Compare a [.LtE] [b] pos) (tOf (dOp (sCmpS leS) fa fb)) := dt_cmp op_le_str se_cmpS ha hb (nomark _)
/-! ### in a dict -/
def rDNin : R2 := fun y x H Q => ∃ a o, x = .ref a ∧ DGet H a y o ∧ Q (.bl (!o.isSome)) H
def rDIn : R2 := fun y x H Q => ∃ a o, x = .ref a ∧ DGet H a y o ∧ Q (.bl o.isSome) H
theorem op_dnin (hu : X.A.units + 1 < cLine) : OpR X (compareOp .NotIn) rDNin := by
  intro pins s σ H x y v u Q I rx ry h
  obtain ⟨a, o, ex, gt, q⟩ := h
  subst ex
  obtain rfl : u = Value.ref a := ry
  exact d_notIn hu I gt rx fun s3 I3 => ⟨.bl (!o.isSome), H, I3, rfl, q⟩
theorem op_din (hu : X.A.units + 1 < cLine) : OpR X (compareOp .In) rDIn := by
  intro pins s σ H x y v u Q I rx ry h
  obtain ⟨a, o, ex, gt, q⟩ := h
  subst ex
  obtain rfl : u = Value.ref a := ry
  exact d_in hu I gt rx fun s3 I3 => ⟨.bl o.isSome, H, I3, rfl, q⟩
def sDIn : D → D → Option D
  | k, .dict ps => if (keyOf k).isSome = true ∧ noHead ps = true then some (.bool (valP ps k).isSome) else none
  | _, _ => none
def sDNin : D → D → Option D
  | k, .dict ps => if (keyOf k).isSome = true ∧ noHead ps = true then some (.bool (!(valP ps k).isSome)) else none
  | _, _ => none
theorem dget_of {K : PySem.W.Frag} {F H : Hp} {v u : V} {k : D} {ps : List (D × D)} (s : Same F H) (hv : Vw K F H v k) (hu : Vw K F H u (.dict ps)) (hk : (keyOf k).isSome = true) (hn : noHead ps = true) :
    ∃ p o, u = .ref p ∧ DGet H p v o ∧ o.isSome = (valP ps k).isSome := by
  obtain ⟨k2, hk⟩ := Option.isSome_iff_exists.mp hk
  have := keyOf_eq hk
  subst this
  obtain ⟨p, kvs, rfl, q, kv⟩ := vw_dK s hu hn
  have := key_v hv
  subst this
  refine ⟨p, _, rfl, DGet.k q, ?_⟩
  obtain ⟨k1, k2⟩ := kv.val (k := k2)
  cases e : valP ps (keyD _) with
  | none => rw [k2 e]; rfl
  | some d =>
    obtain ⟨w, e1, _⟩ := k1 d e
    rw [e1]; rfl
theorem se_dnin {K : PySem.W.Frag} : Sem2 K rDNin sDNin := by
  intro F H v u d e c Q s hv hu hs g
  unfold sDNin at hs
  split at hs
  · split at hs
    · rename_i hh
      cases hs
      obtain ⟨p, o, rfl, gt, eo⟩ := dget_of s hv hu hh.1 hh.2
      refine ⟨p, o, rfl, gt, ?_⟩
      rw [eo]
      exact Give.of s g (.bl _)
    · cases hs
  · cases hs
theorem se_din {K : PySem.W.Frag} : Sem2 K rDIn sDIn := by
  intro F H v u d e c Q s hv hu hs g
  unfold sDIn at hs
  split at hs
  · split at hs
    · rename_i hh
      cases hs
      obtain ⟨p, o, rfl, gt, eo⟩ := dget_of s hv hu hh.1 hh.2
      refine ⟨p, o, rfl, gt, ?_⟩
      rw [eo]
      exact Give.of s g (.bl _)
    · cases hs
  · cases hs
theorem t_dnin {j : Nat} (hr : Room j X.A) (ha : DE X g W a fa) (hb : DE X g W b fb) (hm : behindInMarks .NotIn b = false := by with_unfolding_all rfl) : DT X g W (.Compare a [.NotIn] [b] pos) (tOf (dOp sDNin fa fb)) := dt_cmp (op_dnin (hu_of hr)) se_dnin ha hb hm
theorem t_din {j : Nat} (hr : Room j X.A) (ha : DE X g W a fa) (hb : DE X g W b fb) (hm : behindInMarks .In b = false := by with_unfolding_all rfl) : DT X g W (.Compare a [.In] [b] pos) (tOf (dOp sDIn fa fb)) := dt_cmp (op_din (hu_of hr)) se_din ha hb hm
end
/-! ### a tuple turned round: e[::-1] -/
section
variable {prog : Program} {w : World} {A : Around} {E : Value → Shared → Prop} {s : Shared}
theorem sliceApplied_rev {sl : Addr} {vl vu vs : Value} {n : Nat} {Q : Int × Int × Nat → Shared → Prop} (hs : s.heap.IsSliceOf sl vl vu vs) (pl : IsPart vl none) (pu : IsPart vu none) (ps : IsPart vs (some (-1)))
    (h : Q ((n : Int) - 1, -1, n) s) : wpAny (model prog w) A (Builtin.Slice.sliceApplied (.ref sl) (pure (n : Int))) Q E s := by
  obtain ⟨os, hos, hcs, hds⟩ := id hs
  unfold Builtin.Slice.sliceApplied Builtin.Slice.sliceFields
  refine wpAny_bind (wpAny_bind (wpAny_field hos hds (x := vl) rfl (wpAny_bind (wpAny_field hos hds (x := vu) rfl (wpAny_bind (wpAny_field hos hds (x := vs) rfl (wpAny_pure ?_)))))))
  refine wpAny_bind (HT.slicePart_ ps ?_)
  show wpAny _ _ (if ((-1 : Int) == 0) = true then _ else _) _ _ s
  rw [if_neg (by decide)]
  refine wpAny_bind (HT.slicePart_ pl (wpAny_bind (HT.slicePart_ pu (wpAny_bind (wpAny_pure ?_)))))
  show wpAny _ _ (pure ((n : Int) - 1, (-1 : Int), Builtin.Slice.slicePlaces ((n : Int) - 1) (-1) (-1))) _ _ s
  have e : Builtin.Slice.slicePlaces ((n : Int) - 1) (-1) (-1) = n := by
    unfold Builtin.Slice.slicePlaces
    rw [if_neg (by decide)]
    split
    · rw [show (-(-1) : Int) = 1 from rfl, Int.ediv_one]; omega
    · omega
  rw [e]
  exact wpAny_pure h
theorem fmap_congr {α β : Type} {f g : α → Option β} : ∀ {l : List α}, (∀ a ∈ l, f a = g a) → l.filterMap f = l.filterMap g
  | [], _ => rfl
  | a :: l, h => by
    rw [List.filterMap_cons, List.filterMap_cons, h a List.mem_cons_self, fmap_congr fun b hb => h b (List.mem_cons_of_mem _ hb)]
theorem pick_rev (xs : Array Value) : ((List.range xs.size).filterMap fun (m : Nat) => xs[((xs.size : Int) - 1 + (m : Int) * -1).toNat]?).toArray = xs.toList.reverse.toArray := by
  have e : (List.range xs.size).filterMap (fun (m : Nat) => xs[((xs.size : Int) - 1 + (m : Int) * -1).toNat]?) = ((List.range xs.size).map fun k => xs.size - 1 - k).filterMap (xs[·]?) := by
    rw [List.filterMap_map]
    refine fmap_congr fun m hm => ?_
    have hm := List.mem_range.mp hm
    have : ((xs.size : Int) - 1 + (m : Int) * -1).toNat = xs.size - 1 - m := by omega
    show xs[((xs.size : Int) - 1 + (m : Int) * -1).toNat]? = xs[xs.size - 1 - m]?
    rw [this]
  rw [e, PySem.W.krv_range, List.filterMap_reverse, PySem.W.krv_all]
theorem getItem_tuple_rev {t sl : Addr} {items : Array Value} {vl vu vs : Value} {Q : Value → Shared → Prop} (ht : IsTup s.heap t items) (hs : s.heap.IsSliceOf sl vl vu vs) (pl : IsPart vl none) (pu : IsPart vu none) (ps : IsPart vs (some (-1)))
    (h : Q (.ref s.heap.objs.size) { s with heap := s.heap.push { cls := .type "tuple", data := .seq items.toList.reverse.toArray } })
    (hsz : items.size ≤ sizeLine) : wpAny (model prog w) A (getItem (.ref t) (.ref sl)) Q E s := by
  have htake : sizeOk (.seq items.toList.reverse.toArray) := by
    show items.toList.reverse.toArray.size ≤ sizeLine
    rw [List.size_toArray, List.length_reverse, Array.length_toList]
    exact hsz
  obtain ⟨os, hos, hcs, hds⟩ := id hs
  have hTs : s.TypeIs (.ref sl) "slice" := ⟨os, hos, hcs⟩
  unfold getItem
  try with_reducible refine wpAny_holding ?_
  first | refine wpAny_bind (wpAny_pure ?_) | skip
  refine wpAny_bind (wpAny_sequenceKey ht.typeIs (by decide) ?_)
  refine wpAny_bind (wpAny_callSpecial?_slot (name := Str.ofString "__getitem__") ht.typeIs PyProof.Rows.slot_tuple_getitem
    (wpAny_call_entry PyProof.Rows.slot_tuple_getitem ht.typeIs PyProof.Rows.entry_tuple_getitem ?_ (PyProof.Rows.args_tuple_getitem _ _)))
  show wpAny _ _ (Builtin.Tuple.tupleItemsOf (.ref t) >>= _) _ _ s
  refine wpAny_bind (PyProof.Rows.tupleItemsOf_ ht ?_)
  refine wpAny_bind (wpAny_typeOf hTs ?_)
  rw [if_pos (by decide)]
  refine wpAny_bind (sliceApplied_rev hs pl pu ps ?_)
  have hno : ¬ (((items.size : Int) - 1 == 0 && (-1 : Int) == 1 && items.size == items.size) = true) := by simp
  show wpAny _ _ (if ((items.size : Int) - 1 == 0 && (-1 : Int) == 1 && items.size == items.size) = true then _ else _) _ _ s
  rw [if_neg hno, pick_rev]
  first
    | exact wpAny_bind (m := Builtin.Tuple.tupleExact _) (wpAny_newObj_type (wpAny_pure ⟨_, rfl, wpAny_pure h⟩) htake)
    | exact wpAny_bind (m := Builtin.Tuple.tupleExact _) (wpAny_newObj_type (wpAny_bind (wpAny_pure (wpAny_pure ⟨_, rfl, wpAny_pure h⟩))) htake)
    | exact wpAny_bind (wpAny_bind (m := Builtin.Tuple.tupleExact _) (wpAny_newObj_type (wpAny_pure (wpAny_pure ⟨_, rfl, wpAny_pure h⟩)) htake))
    | exact wpAny_bind (wpAny_bind (m := Builtin.Tuple.tupleExact _) (wpAny_newObj_type (wpAny_pure ⟨_, rfl, wpAny_pure h⟩) htake))
end
section
variable {X : Cx} {g : Gh} {W : XW} {e : Expr} {fe : Ev} {te : TE} {k : Nat} {p1 p2 p3 pos : Pos}
def tRevT (K : PySem.W.Frag) (te : TE) : TE := fun σ H Q => te σ H fun x H1 => ∃ a xs, x = .ref a ∧ SqT K H1 a xs ∧ ∀ p, H1 p = none → Q (.ref p) (upd H1 p (.tup xs.reverse))
theorem pe_revT (he : PE X e te) : PE X (.Subscript e (.Slice none none (some (.UnaryOp .USub (.Constant (.int 1) k p1) p2)) p3) pos) (tRevT X.K te) := by
  refine ⟨fun pins s σ H Q I h => ?_⟩
  refine Subscript_ (thn (he.run pins s σ H _ I h) fun v s1 ⟨x, H1, I1, r1, q1⟩ => ?_)
  obtain ⟨a, xs, ex, hx, q⟩ := q1
  subst ex
  cases r1
  have hst : PO X (some (.UnaryOp .USub (.Constant (.int 1) k p1) p2)) (tPart (tUn (rU fun i => .int (-i)) (tC (.int 1)))) := po_some (pe_un un_neg pe_int)
  refine wpAny_Slice (thn (po_none.run pins s1 σ H1 (fun o H2 => o = none ∧ H2 = H1) I1 ⟨rfl, rfl⟩) fun vl s2 ⟨l, H2, I2, pl, el, e2⟩ => ?_)
  subst el e2
  refine thn (po_none.run pins s2 σ H2 (fun o H3 => o = none ∧ H3 = H2) I2 ⟨rfl, rfl⟩) fun vu s3 ⟨u, H3, I3, pu, eu, e3⟩ => ?_
  subst eu e3
  refine thn (hst.run pins s3 σ H3 (fun o H4 => o = some (-1) ∧ H4 = H3) I3 ⟨1, rfl, -1, rfl, rfl, rfl⟩) fun vs s4 ⟨o, H4, I4, ps, eo, e4⟩ => ?_
  subst eo e4
  have I5 : Inv X pins σ H4 { s4 with heap := s4.heap.push { cls := .type "slice", data := .fields #[vl, vu, vs] } } := I4.kept (t' := s4.toks) fun b ob q => Heap.get?_push_of_some _ q
  obtain ⟨its, r, ht, hz⟩ := I5.tuple hx
  have hlen := r.length
  show wpAny (model X.prog X.w) X.A (subscriptTail e (.Slice none none (some (.UnaryOp .USub (.Constant (.int 1) k p1) p2)) p3) (.ref a) (.ref s4.heap.objs.size)) (EP X pins σ Q) X.xe { s4 with heap := s4.heap.push { cls := .type "slice", data := .fields #[vl, vu, vs] } }
  refine tail_any (ops := [.ref a, .ref s4.heap.objs.size]) ht.typeIs (PyProof.Rows.slot_tuple_getitem.lookup) ?_ (by with_unfolding_all rfl)
  refine getItem_tuple_rev ht (Heap.IsSliceOf.new _ vl vu vs) pl pu ps ?_ (by rw [List.size_toArray]; omega)
  refine ⟨.ref _, _, I5.laid (t' := s4.toks) (o := .tup xs.reverse) (fun b ob q => Heap.get?_push_of_some _ q) (Nat.le_refl _) ?_, rfl, q _ (I5.hok.fresh (Nat.le_refl _))⟩
  exact ⟨by rw [List.length_reverse]; exact hz, _, r.reverse, ⟨_, Heap.get?_push_size _ rfl, rfl, _, rfl⟩⟩
def sRevT : D → Option D
  | .tuple ds => some (.tuple ds.reverse)
  | _ => none
theorem DvAll.rev {K : PySem.W.Frag} {F : Hp} {vs : List V} {ds : List D} (a : DvAll K F vs ds) : DvAll K F vs.reverse ds.reverse := by
  induction vs generalizing ds with
  | nil => cases a; exact .nil
  | cons v vs ih =>
    cases a with
    | cons h t =>
      rw [List.reverse_cons, List.reverse_cons]
      exact (ih t).append (.cons h .nil)
theorem de_revT (he : DE X g W e fe) : DE X g W (.Subscript e (.Slice none none (some (.UnaryOp .USub (.Constant (.int 1) k p1) p2)) p3) pos) (dUn sRevT fe) := by
  refine PE.imp (pe_revT he) fun σ H Q h => ?_
  obtain ⟨F, en, rp, f⟩ := h
  refine ⟨F, en, rp, (Fin.seq f).mono fun F1 H1 en1 y s1 r1 f1 v hv => ?_⟩
  refine of_op1 (sem := sRevT) (en := en1) (x := y) (fun e => by rw [e] at f1; exact f1.elim) fun d c e1 e3 e4 => ?_
  unfold sRevT at e3
  split at e3
  · cases e3
    obtain ⟨a, xs, rfl, sq, al, _⟩ := vw_tup r1.fz (r1.view hv e1)
    exact ⟨a, xs, rfl, sq, give_tup r1.fz (fin1 r1 e4 f1) al.rev⟩
  · cases e3
end
/-! ### (.., d[k], ..) = a tuple -/
section
variable {X : Cx} {g : Gh} {W : XW} {o i : Expr} {fo fi : Ev} {pos : Pos}
def hDSub (fo fi : Ev) : Th := fun d en => (fo en).out fun en1 x => match x with
  | .s i => (fi en1).out fun en2 y => match y, en2[i]? with
    | .d k, some (.own b (.dict ps)) => if (keyOf k).isSome = true ∧ noHead ps = true ∧ ps.length < sizeLine then .nx (en2.set i (.own b (.dict (putP ps k d)))) else .no
    | _, _ => .no
  | .d _ => .no
theorem dh_dsub {j : Nat} (hr : Room j X.A) (ho : DE X g W o fo) (hi : DE X g W i fi)
    (ha : ∀ v, assign (.Subscript o i pos) X.env v = (do
      let ov ← holding [v] (eval o X.env)
      let iv ← holding [v, ov] (eval i X.env)
      standAt pos
      holding [v, ov, iv] (setItem ov iv v)
      release [v, ov, iv] []) := by intro _; rfl) : DH X g W (.Subscript o i pos) (hDSub fo fi) := by
  refine PG.imp (pg_sub ho hi (set_dict (hu_of hr)) ha) fun v σ H Q h => ?_
  obtain ⟨F, en, d, rp, dv, f⟩ := h
  refine ⟨F, en, rp, FinS.of_outNx f fun F1 H1 en1 x s1 r1 f1 ov hov => ?_⟩
  cases x with
  | d _ => exact f1.elim
  | s n =>
    have e0 : σ[n]? = some (some ov) := hov
    refine ⟨F1, en1, r1, FinS.of_outNx f1 fun F2 H2 en2 y s2 r2 f2 iv hiv => ?_⟩
    split at f2
    · rename_i k b ps e1
      split at f2
      · rename_i hh
        obtain ⟨k2, hk2⟩ := Option.isSome_iff_exists.mp hh.1
        have := keyOf_eq hk2
        subst this
        obtain ⟨p, e2, ow, nF, _⟩ := r2.own n b _ e1
        rw [e0] at e2
        cases e2
        obtain ⟨kvs, q, kv⟩ := own_dK ow hh.2.1
        have := key_v (H := H2) (F := F2) (.fz hiv)
        subst this
        refine ⟨p, _, rfl, DPut.k q (by rw [kv.length]; exact hh.2.2), ?_⟩
        exact f2 σ F2 _ (Same.refl _) (r2.write e1 e0 _ ((kv.put (dv.mono (s1.trans s2))).own upd_same))
      · exact f2.elim
    · exact f2.elim
end
end DL
/-! Dzs: for x, y in zip(a text, a tuple). -/
namespace DL
open PySem PySem.Spec L2
open PyProof.Rows hiding St
def ItzS (K : PySem.W.Frag) (x : Str) (b : Addr) : It :=
  ⟨fun i H => ∃ (ys : List V) (c : Nat) (y : V), SqT K H b ys ∧ x.cps[i]? = some c ∧ ys[i]? = some y,
    fun i H v H' => ∃ T c y, v = .ref T ∧ H T = none ∧ H' = upd H T (.tup [.str ⟨#[c]⟩, y]) ∧ x.cps[i]? = some c ∧ ∀ ys, SqT K H b ys → ys[i]? = some y,
    fun i H => ∃ ys : List V, SqT K H b ys ∧ i ≤ x.cps.size ∧ i ≤ ys.length ∧ (i = x.cps.size ∨ i = ys.length)⟩
theorem turn_zipS {P : Program} {w : World} {K : PySem.W.Frag} {elts : List Expr} {kk : Nat} {tpos : Pos} {x : Str} {t : Tok} {b z TI TO i1 i2 : Addr} (S : ZipSep2 z TI TO i1 i2 [i1] [i2, b]) (nb : b ≠ i2) :
    Turn P w K (.Tuple elts kk tpos) (ItzS K x b) [z, TI, TO, i1, i2] z (fun i h => IsZip h z TI TO .none ∧ IsTupOf2 h TI (.ref i1) (.ref i2) ∧ (∃ x y, IsTupOf2 h TO x y) ∧ h.IsStrIter i1 (strIterType x) x t i ∧ h.IsTupleIter i2 b i) where
  mem := by simp
  obj := fun i h st c hc => by
    obtain ⟨hz, hTI, ⟨x, y, hTO⟩, ⟨o1, e1, _, d1⟩, ⟨o2, e2, _, d2⟩⟩ := st
    have zz : c = z ∨ c = TI ∨ c = TO ∨ c = i1 ∨ c = i2 := by simpa using hc
    rcases zz with rfl | rfl | rfl | rfl | rfl
    · exact ⟨_, hz, fun v q => nomatch q⟩
    · exact ⟨_, hTI, fun v q => nomatch q⟩
    · exact ⟨_, hTO, fun v q => nomatch q⟩
    · exact ⟨o1, e1, fun v q => by rw [d1] at q; cases q⟩
    · exact ⟨o2, e2, fun v q => by rw [d2] at q; cases q⟩
  keep := fun i h h' st k => by
    obtain ⟨hz, hTI, ⟨x, y, hTO⟩, ⟨o1, e1, f1⟩, h2⟩ := st
    exact ⟨k z (by simp) _ hz, k TI (by simp) _ hTI, ⟨x, y, k TO (by simp) _ hTO⟩, ⟨o1, k i1 (by simp) _ e1, f1⟩, h2.at fun o q => k i2 (by simp) o q⟩
  item := by
    intro X hP hw hK hc i pins s σ H E I hf st hg
    subst hP hw hK
    obtain ⟨hz, hTI, ⟨x0, y0, hTO⟩, h1, h2⟩ := st
    obtain ⟨ys, c, y, qy, hx, hy⟩ := hg
    obtain ⟨bs, rb, pb, _⟩ := I.tuple qy
    obtain ⟨u2, hu2, ru2⟩ := rb.get hy
    have pt : s.heap.IsTuple b bs.toArray := pb
    have l1 : i < x.cps.size := (Array.getElem?_eq_some_iff.mp hx).1
    have l2 : i < bs.toArray.size := by
      have := (List.getElem?_eq_some_iff.mp hu2).1
      simpa using this
    have hzl : z < s.heap.objs.size := Heap.lt_size hz
    refine wpAny_pyNext_zipD2_item S (Draws.text (A := X.A.in1) (I.ok.hd hc) i1 x t) (Draws.tuple (A := X.A.in1) (I.ok.hd hc) i2 b nb bs.toArray) hz hTI hTO h1 ⟨h2, pt⟩ l1 l2 fun y1 y2 h' tk P1 P2 hz' hTO' st1 st2 hT hsz hk => ?_
    obtain ⟨c1, u, hc1, rfl⟩ := P1
    have ec : c = c1 := Option.some.inj (hx.symm.trans hc1)
    subst ec
    have ey2 : u2 = y2 := by
      have q : bs.toArray[i]? = some y2 := P2
      rw [← Array.getElem?_toList] at q
      rw [show bs.toArray.toList = bs from rfl, hu2] at q
      exact Option.some.inj q
    subst ey2
    refine ⟨_, rfl, wpAny_letOwnedTupleGo_zip (s := { s with heap := h', toks := tk }) hz' fun h'' hz'' sb => ?_⟩
    have hT2 : h''.get? s.heap.objs.size = some { cls := .type "tuple", data := .seq #[.str ⟨#[c]⟩ u, u2] } := (sb.2 _ (Nat.ne_of_gt hzl)).trans hT
    have new : ObjOk X.prog X.w (upd H s.heap.objs.size (.tup [.str ⟨#[c]⟩, y])) h'' s.heap.objs.size (.tup [.str ⟨#[c]⟩, y]) :=
      ⟨by show 2 ≤ sizeLine; decide, [.str ⟨#[c]⟩ u, u2], .cons ⟨u, rfl⟩ (.cons ru2 .nil), ⟨_, hT2, rfl, _, rfl⟩⟩
    have I1 : Inv X pins σ (upd H s.heap.objs.size (.tup [.str ⟨#[c]⟩, y])) { s with heap := h'', toks := tk } :=
      I.turnedNew (ch := [z, TI, TO, i1, i2]) (fun c o hb q => (sb.2 c (fun e => hb (by simp [e]))).trans (hk c o (fun e => hb (by simp [e])) (fun e => hb (by simp [e])) (fun e => hb (by simp [e])) (fun e => hb (by simp [e])) q)) hf (Nat.le_refl _) new
    refine ⟨.ref s.heap.objs.size, _, I1, rfl, ⟨_, c, y, rfl, I.hok.fresh (Nat.le_refl _), rfl, hx, fun l hl => by rw [I.tuple_inj hl qy]; exact hy⟩, ⟨hz'', ?_, ⟨.str ⟨#[c]⟩ u, u2, ?_⟩, ?_, ?_⟩, fun c hcm => ?_⟩
    · have t1 : h'.get? TI = some _ := hk TI _ S.TIz S.TITO S.TIi1 S.TIi2 hTI
      exact (sb.2 _ S.TIz).trans t1
    · exact (sb.2 _ S.TOz).trans hTO'
    · obtain ⟨o1, e1, f1⟩ := st1
      exact ⟨o1, (sb.2 _ (Ne.symm S.zi1)).trans e1, f1⟩
    · exact st2.1.at fun o q => (sb.2 _ (Ne.symm S.zi2)).trans q
    · have hlt : c < s.heap.objs.size := by
        have zz : c = z ∨ c = TI ∨ c = TO ∨ c = i1 ∨ c = i2 := by simpa using hcm
        rcases zz with rfl | rfl | rfl | rfl | rfl
        · exact hzl
        · exact Heap.lt_size hTI
        · exact Heap.lt_size hTO
        · obtain ⟨_, e1, _⟩ := h1; exact Heap.lt_size e1
        · obtain ⟨_, e2, _⟩ := h2; exact Heap.lt_size e2
      rw [upd_ne (Nat.ne_of_lt hlt)]
      exact (hf c hcm).1
  done := by
    intro X hP hw hK hc i pins s σ H E I hf st hg
    subst hP hw hK
    obtain ⟨hz, hTI, ⟨x0, y0, hTO⟩, h1, h2⟩ := st
    obtain ⟨ys, qy, le1, le2, hend⟩ := hg
    obtain ⟨bs, rb, pb, _⟩ := I.tuple qy
    have pt : s.heap.IsTuple b bs.toArray := pb
    have l2 := rb.length
    refine wpAny_pyNext_zipD2_end S (Draws.text (A := X.A.in1) (I.ok.hd hc) i1 x t) (Draws.tuple (A := X.A.in1) (I.ok.hd hc) i2 b nb bs.toArray) hz hTI hTO h1 ⟨h2, pt⟩ le1 (by simp; omega) ?_ fun h' tk hk => ⟨rfl, I.turnedL (t' := tk) (ch := [z, TI, TO, i1, i2]) (fun c o hb q =>
      hk c o (fun e => hb (by simp [e])) (fun e => hb (by simp [e])) (fun e => hb (by simp [e])) (fun e => hb (by simp [e])) q) hf⟩
    rcases hend with e | e
    · exact .inl e
    · exact .inr (by simp; omega)
  self := fun A i s Q E st h => wpAny_pyIter_zip st.1 h
def iZipS_ (K : PySem.W.Frag) (ta : TA) : TI := fun σ H R => ta σ H fun vs H1 => ∃ x b ys, vs = [.str x, .ref b] ∧ SqT K H1 b ys ∧ R (ItzS K x b) H1
theorem pi_zipS {X : Cx} {e e2 : Expr} {ta : TA} {p pos tpos : Pos} {elts : List Expr} {kk : Nat} (hg : Gl X "zip") (hm : X.mg "zip" = none) (ha : PA X [e, e2] ta)
    (hs : starEach [e, e2] X.env = (false, eval e X.env) :: starEach [e2] X.env := by rfl) (hpl : (backTo pos (starEach [e2] X.env)).any (·.1) = false := by rfl) :
    PI X (.Tuple elts kk tpos) (.Call (.Name "zip" p) [e, e2] [] pos) (iZipS_ X.K ta) := by
  refine ⟨fun pins s σ H R I h => ?_⟩
  refine Call_ (ld_blt I hg hm PyProof.Rows.boot_zip (PyProof.Rows.callWith_type1 (thn (ha.run pos pins s σ H _ I h) fun us s1 q0 => ?_) hs hpl))
  obtain ⟨vs, H1, I1, r1, x, b, ys, rfl, qy, q⟩ := q0
  cases r1 with
  | cons r rr =>
    cases rr with
    | cons r' rr =>
      cases rr
      obtain ⟨t, rfl⟩ := r
      cases r'
      obtain ⟨bs, rb, pb, _⟩ := I1.tuple qy
      have pt : s1.heap.IsTuple b bs.toArray := pb
      have hbl : b < s1.heap.objs.size := by obtain ⟨_, z, _⟩ := pt; exact Heap.lt_size z
      refine zip_begins2 (begins_text x t) (begins_tuple b bs.toArray) trivial pt fun h' hz hTI hTO h1 h2 hsz hk => wpAny_pyIter_zip hz ?_
      have I2 : Inv X pins σ H1 { s1 with heap := h' } := I1.kept (t' := s1.toks) hk
      have S : ZipSep2 (s1.heap.objs.size + 4) (s1.heap.objs.size + 2) (s1.heap.objs.size + 3) s1.heap.objs.size (s1.heap.objs.size + 1) [s1.heap.objs.size] [s1.heap.objs.size + 1, b] :=
        zip_sep2 (N := s1.heap.objs.size) (fp1 := []) (fp2 := [b]) (by simp) (by simpa using hbl)
      refine ⟨s1.heap.objs.size + 4, [s1.heap.objs.size + 4, s1.heap.objs.size + 2, s1.heap.objs.size + 3, s1.heap.objs.size, s1.heap.objs.size + 1], _, _, H1, rfl, I2, turn_zipS (t := t) S (Nat.ne_of_lt (Nat.lt_succ_of_lt hbl)), ⟨hz, hTI, ⟨_, _, hTO⟩, ⟨_, h1, rfl, rfl⟩, ⟨_, h2, rfl, rfl⟩⟩, fun c hcm => ?_, q⟩
      have hle : s1.heap.objs.size ≤ c := by
        have zz : c = s1.heap.objs.size + 4 ∨ c = s1.heap.objs.size + 2 ∨ c = s1.heap.objs.size + 3 ∨ c = s1.heap.objs.size ∨ c = s1.heap.objs.size + 1 := by simpa using hcm
        rcases zz with rfl | rfl | rfl | rfl | rfl
        · exact Nat.le_add_right _ _
        · exact Nat.le_add_right _ _
        · exact Nat.le_add_right _ _
        · exact Nat.le_refl _
        · exact Nat.le_add_right _ _
      exact I1.fpOk hle (I1.hok.fresh hle)
/-! ### over the layer -/
def iZipS (fa fb : Ev) : Iv := fun en => (aCons fa (aCons fb aNil) en).bind fun en1 xs => match xs with
  | [.d (.str x), .d (.tuple bs)] => .ok en1 (zipD (signs x) bs)
  | _ => .no
theorem it_zipS {K : PySem.W.Frag} {F : Hp} {x : Str} {b : Addr} {ys : List V} {bs : List D} (q2 : SqT K F b ys) (h2 : DvAll K F ys bs) : ItOk K F (fun _ _ => True) (ItzS K x b) (zipD (signs x) bs) := fun i F1 H1 s1 s2 _ => by
  have k2 := sqT_mono (s1.trans s2) q2
  have l2 := h2.length
  have l1 : (signs x).length = x.cps.size := by unfold signs; simp
  refine ⟨fun d e => ?_, fun e => ⟨ys, k2, ?_⟩⟩
  · rw [zipD_get] at e
    cases e1 : (signs x)[i]? with
    | none => rw [e1] at e; cases e
    | some x1 =>
      cases e2 : bs[i]? with
      | none => rw [e1, e2] at e; cases e
      | some y =>
        rw [e1, e2] at e
        cases e
        obtain ⟨u, f2, du⟩ := h2.get e2
        unfold signs at e1
        rw [List.getElem?_map] at e1
        obtain ⟨c, hc, rfl⟩ := Option.map_eq_some_iff.mp e1
        have hc' : x.cps[i]? = some c := by rw [← Array.getElem?_toList]; exact hc
        refine ⟨⟨ys, c, u, k2, hc', f2⟩, fun w H2 z => ?_⟩
        obtain ⟨T, c', u', rfl, hT, rfl, z1, z2⟩ := z
        have := z1.symm.trans hc'
        cases this
        have := (z2 ys k2).symm.trans f2
        cases this
        have xx := Ext.put s2 hT (.tup [.str ⟨#[c]⟩, u])
        exact ⟨_, xx, .tup (xs := [.str ⟨#[c]⟩, u]) (.inl (.inl upd_same)) (.cons (.str _) (.cons ((du.mono s1).mono xx.le) .nil))⟩
  · rw [zipD_len] at e
    omega
theorem di_zipS {X : Cx} {g : Gh} {W : XW} {a b : Expr} {fa fb : Ev} {p pos tpos : Pos} {elts : List Expr} {kk : Nat} (hg : Gl X "zip") (hm : X.mg "zip" = none) (ha : DE X g W a fa) (hb : DE X g W b fb)
    (hs : starEach [a, b] X.env = (false, eval a X.env) :: starEach [b] X.env := by rfl) (hs2 : starEach [b] X.env = (false, eval b X.env) :: starEach [] X.env := by rfl) (hpl : (backTo pos (starEach [b] X.env)).any (·.1) = false := by rfl) :
    DI X g W (.Tuple elts kk tpos) (.Call (.Name "zip" p) [a, b] [] pos) (iZipS fa fb) := by
  refine PI.imp (pi_zipS (tpos := tpos) (elts := elts) (kk := kk) (p := p) (pos := pos) hg hm (da_cons ha (da_cons hb da_nil hs2) hs) hs hpl) fun σ H R hw => ?_
  obtain ⟨F, en, rp, f1⟩ := hw
  unfold iZipS at f1
  refine ⟨F, en, rp, (Fin.seq f1).mono fun F1 H1 en1 xs s1 r1 f2 vs hvs => ?_⟩
  match xs, vs, hvs, f2 with
  | [Rv.d (.str x), Rv.d (.tuple bs)], [v, u], ⟨hv, hu, _⟩, f2 =>
    have hv : Dv X.K F1 v (.str x) := hv
    have hu : Dv X.K F1 u (.tuple bs) := hu
    cases hv
    cases hu with
    | tup q1 bl =>
      exact ⟨_, _, _, rfl, sqT_mono r1.fz q1, f2 F1 H1 (Same.refl _) r1 _ (it_zipS q1 bl)⟩
end DL
/-! Dend5: tuples of the module, and its tables keyed by texts. -/
namespace DL
open PySem PySem.Spec L2
open PyProof.Rows hiding St
section
variable {P : Program} {w : World} {K : PySem.W.Frag} {mg : Str → Option Value} {h : Heap}
theorem Konst.tup_in5 {x : Str} {ad : Addr} {dx : Option Addr} {its : Array Value} {n : Nat} {sl : Array (Option Value)} {ds : List D} (X : K.In h) (G : h.Ns mainGlobals mg) (a : PySem.W.nsIn K mainGlobals x = some (some (.ref ad)))
    (l : K.lookup ad = some ⟨.type "tuple", dx, .seq its n, sl⟩) (z : its.size ≤ sizeLine) (v : valsD its.toList = some ds) : Konst K mg x (.tuple ds) := .tup (PySem.W.mg_of X G a) l z v
theorem TabS.in_ {x : Str} {ad : Addr} {es : Array DictEntry} {n : Nat} {rows : List SRow} (X : K.In h) (G : h.Ns mainGlobals mg) (a : PySem.W.nsIn K mainGlobals x = some (some (.ref ad)))
    (l : K.lookup ad = some ⟨.type "dict", none, .dict es n, #[]⟩) (t : PySem.W.KeysLit w.params es.toList) (lo : (ad == sysModules) = false) (v : es.toList.map entS = rows.map some) : TabS P w K mg x rows :=
  ⟨ad, es, n, PySem.W.mg_of X G a, ⟨l, t, lo⟩, v⟩
end
end DL
/-! Dlst: a, b, .. = a list. -/
namespace DL
open PySem PySem.Spec L2
open PyProof.Rows hiding St
section
variable {X : Cx} {g : Gh} {W : XW} {es : List Expr} {u : Ths} {pos : Pos}
def hLst (n : Nat) (u : Ths) : Th := fun d en => match d with
  | .list ds => if ds.length = n then u ds en else .no
  | _ => .no
theorem dh_lst {k n : Nat} (hc : X.calm = true) (h : DHs X g W es u) (hn : (assignEach es X.env).length = n := by rfl) (hst : (assignEach es X.env).findIdx? (·.1) = none := by rfl) : DH X g W (.Tuple es k pos) (hLst n u) := by
  refine PG.imp (pg_lst hc h hn hst) fun v σ H Q h => ?_
  obtain ⟨F, en, d, rp, dv, f⟩ := h
  unfold hLst at f
  split at f
  · split at f
    · rename_i hl
      obtain ⟨a, xs, rfl, q1, al⟩ := vw_lst rp.fz (.fz (H := H) dv)
      exact ⟨a, xs, rfl, .inl (.inl q1), al.length.trans hl, F, en, _, rp, al, f⟩
    · exact f.elim
  · exact f.elim
end
end DL
namespace DL
open PySem PySem.Spec L2
open PyProof.Rows hiding St
def c_LETTERS : D := .str "abcdefghijklmnopqrstuvwxyz"
def c_MOST_LETTERS : D := .int 8
def c_REGISTERS : D := .int 6
def c_FIRST_FRESH : D := .int 100
def c_FORMS : List SRow := [("const", "rn"), ("move", "rr"), ("add", "rrr"), ("load", "rr"), ("store", "rr"), ("swap", "rrr"), ("jump", "s"), ("zero", "rs"), ("fresh", "r"), ("return", "r"), ("none", "")]
def c_LAST_WORDS : D := .tuple [.str "jump", .str "return", .str "none"]
def c_CLIENT : D := .int 0
def c_START : D := .int 1
def c_END : D := .int 2
def c_NAME : D := .int 3
def c_ARGUMENT : D := .int 4
def c_RESULT : D := .int 5
def c_BAG : D := .str "bag"
def c_QUEUE : D := .str "queue"
def c_STACK : D := .str "stack"
def c_LEAST : D := .str "least"
def c_REGISTER : D := .str "register"
def c_COUNTER : D := .str "counter"
def c_SET : D := .str "set"
def c_MAP : D := .str "map"
def c_LOCK : D := .str "lock"
def c_LOG : D := .str "log"
def c_CELL : D := .str "cell"
def c_HIGHEST : D := .str "highest"
def c_PUT : D := .str "put"
def c_GET : D := .str "get"
def c_WRITE : D := .str "write"
def c_ADD : D := .str "add"
def c_DROP : D := .str "drop"
def c_HAS : D := .str "has"
def c_TAKE : D := .str "take"
def c_APPEND : D := .str "append"
def c_SWAP : D := .str "swap"
def c_MOST_WORTHS : D := .int 1000
def c_KINDS : D := .tuple [.str "bag", .str "queue", .str "stack", .str "least", .str "register", .str "counter", .str "set", .str "map", .str "lock", .str "log", .str "cell", .str "highest"]
def c_NO_ONE : D := .str "-"
def n_is_integer : List Str := ["value"]
def b_is_integer : Bd := bRet (dAnd (dUn isInt (dVar 0)) (dNot (dUn isBool (dVar 0))))
def f_is_integer : Fs := runFn 1 1 b_is_integer
def n_is_between : List Str := ["least", "value", "most"]
def b_is_between : Bd := bRet (dAnd (dCall f_is_integer [false] (aCons (dVarF 1) (aNil))) (dChain (sCmp fLe) (sCmp fLe) (dVar 0) (dVar 1) (dVar 2)))
def f_is_between : Fs := runFn 3 3 b_is_between
def n_is_index : List Str := ["count", "value"]
def b_is_index : Bd := bRet (dCall f_is_between [false, false, false] (aCons (dC (.int 0)) (aCons (dVarF 1) (aCons (dOp sSub (dVar 0) (dC (.int 1))) (aNil)))))
def f_is_index : Fs := runFn 2 2 b_is_index
def n_is_tuple_of : List Str := ["length", "value"]
def b_is_tuple_of : Bd := bRet (dAnd (dUn isTup (dVar 1)) (dOp sEq (dCallB sLen (aCons (dVar 1) (aNil))) (dVar 0)))
def f_is_tuple_of : Fs := runFn 2 2 b_is_tuple_of
def n_is_name : List Str := ["value", "letter"]
def b_is_name : Bd := bSeq (bIf (tOrD (tNotD (tOf (dUn isStr (dVar 0)))) (tNotD (tOf (dChain (sCmp fLe) (sCmp fLe) (dC (.int 1)) (dCallB sLen (aCons (dVar 0) (aNil))) (dC c_MOST_LETTERS))))) (bRet (dC (.bool false))) (bNil)) (bRet (dCallB sAll (aCons (dFz (oComp [1] (iOf itAll (dVarF 0)) (tgName 1) (tYesD) (dOp sIn (dVar 1) (dC c_LETTERS)))) (aNil))))
def f_is_name : Fs := runFn 1 2 b_is_name
def n_fits : List Str := ["kind", "count", "value"]
def b_fits : Bd := bSeq (bIf (tOf (dOp sEq (dVar 0) (dC (.str "r")))) (bRet (dCall f_is_index [false, false] (aCons (dC c_REGISTERS) (aCons (dVarF 2) (aNil))))) (bNil)) (bRet (dIf (tOf (dOp sEq (dVar 0) (dC (.str "n")))) (dCall f_is_integer [false] (aCons (dVarF 2) (aNil))) (dCall f_is_index [false, false] (aCons (dVarF 1) (aCons (dVarF 2) (aNil))))))
def f_fits : Fs := runFn 3 3 b_fits
def n_is_step : List Str := ["count", "value", "form", "kind", "part"]
def b_is_step : Bd := bSeq (bIf (tOrD (tNotD (tOf (dUn isTup (dVar 1)))) (tOrD (tOf (dOp sEq (dVar 1) (dTup (aNil)))) (tOrD (tNotD (tOf (dUn isStr (dOp sIx (dVar 1) (dC (.int 0)))))) (tOf (dUn (sKdNin c_FORMS) (dOp sIx (dVar 1) (dC (.int 0)))))))) (bRet (dC (.bool false))) (bNil)) (bSeq (bSet 2 (dUn (sKdAt c_FORMS) (dOp sIx (dVar 1) (dC (.int 0))))) (bSeq (bIf (tNotD (tOf (dCall f_is_tuple_of [false, false] (aCons (dOp sAdd (dCallB sLen (aCons (dVar 2) (aNil))) (dC (.int 1))) (aCons (dVarF 1) (aNil)))))) (bRet (dC (.bool false))) (bNil)) (bRet (dCallB sAll (aCons (dFz (oComp [3, 4] (iZipS (dVarF 2) (dSl (dVar 1) (pIs (dC (.int 1))) (pNo))) (tgTup (tgCons (tgName 3) (tgCons (tgName 4) (tgNil)))) (tYesD) (dCall f_fits [false, false, false] (aCons (dVar 3) (aCons (dVar 0) (aCons (dVar 4) (aNil))))))) (aNil))))))
def f_is_step : Fs := runFn 2 5 b_is_step
def n_program_fault : List Str := ["value", "index", "step"]
def b_program_fault : Bd := bSeq (bIf (tOrD (tNotD (tOf (dUn isTup (dVar 0)))) (tOf (dOp sEq (dVar 0) (dTup (aNil))))) (bRet (dUn sNeg (dC (.int 1)))) (bNil)) (bSeq (bFor (iOf itEnum (dVarF 0)) (tgTup (tgCons (tgName 1) (tgCons (tgName 2) (tgNil)))) (bIf (tOrD (tNotD (tOf (dCall f_is_step [false, false] (aCons (dCallB sLen (aCons (dVar 0) (aNil))) (aCons (dVarF 2) (aNil)))))) (tAndD (tOf (dOp sEq (dVar 1) (dOp sSub (dCallB sLen (aCons (dVar 0) (aNil))) (dC (.int 1))))) (tOf (dOp sNotIn (dOp sIx (dVar 2) (dC (.int 0))) (dC c_LAST_WORDS))))) (bRet (dVarF 1)) (bNil))) (bRet (dC .none)))
def f_program_fault : Fs := runFn 1 3 b_program_fault
def n_is_named_program : List Str := ["value"]
def b_is_named_program : Bd := bRet (dAnd (dCall f_is_tuple_of [false, false] (aCons (dC (.int 2)) (aCons (dVarF 0) (aNil)))) (dAnd (dCall f_is_name [false] (aCons (dOp sIx (dVar 0) (dC (.int 0))) (aNil))) (dOp sIs (dCall f_program_fault [false] (aCons (dOp sIx (dVar 0) (dC (.int 1))) (aNil))) (dC .none))))
def f_is_named_program : Fs := runFn 1 1 b_is_named_program
def n_implementation_fault : List Str := ["value", "index", "row"]
def b_implementation_fault : Bd := bSeq (bIf (tNotD (tOf (dUn isTup (dVar 0)))) (bRet (dUn sNeg (dC (.int 1)))) (bNil)) (bSeq (bFor (iOf itEnum (dVarF 0)) (tgTup (tgCons (tgName 1) (tgCons (tgName 2) (tgNil)))) (bIf (tOrD (tNotD (tOf (dCall f_is_named_program [false] (aCons (dVarF 2) (aNil))))) (tAndD (tOf (dOp (sCmp fGt) (dVar 1) (dC (.int 0)))) (tOf (dOp (sCmpS leS) (dOp sIx (dVar 2) (dC (.int 0))) (dOp sIx (dOp sIx (dVar 0) (dOp sSub (dVar 1) (dC (.int 1)))) (dC (.int 0))))))) (bRet (dVarF 1)) (bNil))) (bRet (dC .none)))
def f_implementation_fault : Fs := runFn 1 3 b_implementation_fault
def n_is_implementation : List Str := ["value"]
def b_is_implementation : Bd := bRet (dOp sIs (dCall f_implementation_fault [false] (aCons (dVarF 0) (aNil))) (dC .none))
def f_is_implementation : Fs := runFn 1 1 b_is_implementation
def n_check_implementation : List Str := ["implementation", "index"]
def b_check_implementation : Bd := bSeq (bSet 1 (dCall f_implementation_fault [false] (aCons (dVarF 0) (aNil)))) (bIf (tOf (dOp sIsNot (dVar 1) (dC .none))) (bRaiseF "InvalidProgram" "index" (dVarF 1)) (bNil))
def f_check_implementation : Fs := runFn 1 2 b_check_implementation
def n_schedule_run : List Str := ["implementation", "calls", "schedule", "run", "rows", "opened", "moment", "client", "name", "argument", "begins", "ends", "result", "at"]
def b_schedule_run : Bd := bSeq (bExpr (dCall f_check_implementation [false] (aCons (dVarF 0) (aNil)))) (bNo)
def f_schedule_run : Fs := runFn 3 14 b_schedule_run
def n_histories : List Str := ["implementation", "calls", "number", "found", "rows", "schedule"]
def b_histories : Bd := bSeq (bExpr (dCall f_check_implementation [false] (aCons (dVarF 0) (aNil)))) (bNo)
def f_histories : Fs := runFn 3 6 b_histories
def n_bad_schedule : List Str := ["implementation", "calls", "kind", "number", "schedule", "rows"]
def b_bad_schedule : Bd := bSeq (bExpr (dCall f_check_implementation [false] (aCons (dVarF 0) (aNil)))) (bNo)
def f_bad_schedule : Fs := runFn 4 6 b_bad_schedule
def n__law_pot : List Str := ["script", "at", "cell"]
def b__law_pot : Bd := bSeq (bSet 2 (dOp sMul (dC (.int 7)) (dVar 1))) (bSeq (bIf (tOf (dOp (sCmp fLt) (dVar 1) (dCallB sLen (aCons (dVar 0) (aNil))))) (bSet 2 (dOp sIx (dVar 0) (dVar 1))) (bNil)) (bSeq (bSet 2 (dOp sMod (dCallB sInt (aCons (dCallB sAbs (aCons (dVar 2) (aNil))) (aNil))) (dOp sMul (dOp sMul (dOp sMul (dOp sPow (dC (.int 10)) (dC (.int 60))) (dOp sPow (dC (.int 10)) (dC (.int 60)))) (dOp sPow (dC (.int 10)) (dC (.int 60)))) (dOp sPow (dC (.int 10)) (dC (.int 60)))))) (bRetO (oLst (aCons (dVarF 2) (aCons (dCallB sInt (aCons (dOp (sCmp fGe) (dVar 2) (dOp sPow (dC (.int 10)) (dC (.int 18)))) (aNil))) (aCons (dOp sMul (dC (.int 3)) (dVar 1)) (aNil))))))))
def f__law_pot : Fs := runFn 2 3 b__law_pot
def n__law_draw : List Str := ["pot", "many", "found", "mixed"]
def b__law_draw : Bd := bSeq (bAsg (dOp sAdd (dOp sIx (dVar 0) (dC (.int 2))) (dC (.int 1))) (hSub (dVar 0) (dC (.int 2)))) (bSeq (bIf (tAndD (tOf (dOp sEq (dOp sIx (dVar 0) (dC (.int 1))) (dC (.int 1)))) (tOf (dOp (sCmp fGt) (dOp sIx (dVar 0) (dC (.int 0))) (dC (.int 0))))) (bSeq (bSet 2 (dOp sMod (dCallB sInt (aCons (dOp sIx (dVar 0) (dC (.int 0))) (aNil))) (dVar 1))) (bSeq (bAsg (dOp sFdiv (dOp sIx (dVar 0) (dC (.int 0))) (dVar 1)) (hSub (dVar 0) (dC (.int 0)))) (bRet (dVarF 2)))) (bNil)) (bSeq (bSet 3 (dOp sMod (dCallB sInt (aCons (dOp sMul (dOp sAdd (dOp sAdd (dOp sIx (dVar 0) (dC (.int 0))) (dOp sMul (dC (.int 977)) (dOp sIx (dVar 0) (dC (.int 2))))) (dC (.int 1))) (dC (.int 48271))) (aNil))) (dC (.int 2147483647)))) (bSeq (bSet 3 (dOp sMod (dCallB sInt (aCons (dOp sMul (dVar 3) (dVar 3)) (aNil))) (dC (.int 2147483629)))) (bSeq (bSet 3 (dOp sMod (dCallB sInt (aCons (dOp sMul (dOp sAdd (dVar 3) (dOp sMul (dC (.int 40692)) (dOp sIx (dVar 0) (dC (.int 2))))) (dC (.int 69621))) (aNil))) (dC (.int 2147483563)))) (bRet (dOp sMod (dCallB sInt (aCons (dOp sFdiv (dVar 3) (dC (.int 8))) (aNil))) (dVar 1)))))))
def f__law_draw : Fs := runFn 2 4 b__law_draw
def n__law_pick : List Str := ["pot", "rows"]
def b__law_pick : Bd := bRet (dOp sIx (dVar 1) (dCall f__law_draw [true, false] (aCons (dVar 0) (aCons (dCallB sLen (aCons (dVar 1) (aNil))) (aNil)))))
def f__law_pick : Fs := runFn 2 2 b__law_pick
def n__law_same : List Str := ["got", "due", "k"]
def b__law_same (fr : Fs) : Bd := bSeq (bIf (tOrD (tOf (dUn isTup (dVar 1))) (tOf (dUn isLst (dVar 1)))) (bSeq (bIf (tOrD (tOf (dOp sNe (dUn isTup (dVar 1)) (dUn isTup (dVar 0)))) (tOf (dOp sNe (dUn isLst (dVar 1)) (dUn isLst (dVar 0))))) (bRet (dC (.bool false))) (bNil)) (bRet (dAnd (dOp sEq (dCallB sLen (aCons (dVar 0) (aNil))) (dCallB sLen (aCons (dVar 1) (aNil)))) (dCallB sAll (aCons (dFz (oComp [2] (iRange1 (aCons (dCallB sLen (aCons (dVar 1) (aNil))) (aNil))) (tgName 2) (tYesD) (dCall fr [false, false] (aCons (dOp sIx (dVar 0) (dVar 2)) (aCons (dOp sIx (dVar 1) (dVar 2)) (aNil)))))) (aNil)))))) (bNil)) (bSeq (bIf (tOf (dOp sIs (dVar 1) (dC .none))) (bRet (dOp sIs (dVar 0) (dC .none))) (bNil)) (bSeq (bIf (tOf (dUn isBool (dVar 1))) (bRet (dAnd (dUn isBool (dVar 0)) (dOp sEq (dVar 0) (dVar 1)))) (bNil)) (bSeq (bIf (tOrD (tOf (dUn isBool (dVar 0))) (tOrD (tOf (dOp sNe (dUn isInt (dVar 0)) (dUn isInt (dVar 1)))) (tOf (dOp sNe (dUn isStr (dVar 0)) (dUn isStr (dVar 1)))))) (bRet (dC (.bool false))) (bNil)) (bRet (dOp sEq (dVar 0) (dVar 1))))))
def f__law_same : Nat → Fs
  | 0 => fun _ => .no
  | n + 1 => runFn 2 3 (b__law_same (f__law_same n))
def n__law_turns : List Str := ["script", "first", "least", "most"]
def b__law_turns : Bd := bRet (dFz (oLRg2 (dVar 1) (dOp sAdd (dVar 1) (dCallB sMax (aCons (dVar 2) (aCons (dCallB sMin (aCons (dOp sSub (dCallB sLen (aCons (dVar 0) (aNil))) (dVar 1)) (aCons (dVar 3) (aNil)))) (aNil)))))))
def f__law_turns : Fs := runFn 4 4 b__law_turns
def n__law_is_integer : List Str := ["value"]
def b__law_is_integer : Bd := bRet (dAnd (dUn isInt (dVar 0)) (dNot (dUn isBool (dVar 0))))
def f__law_is_integer : Fs := runFn 1 1 b__law_is_integer
def n__law_step_of : List Str := ["pot", "many", "r", "s", "t", "n", "steps"]
def b__law_step_of : Bd := bSeq (bParN [2, 3, 4, 5] (xCons (dCall f__law_draw [true, false] (aCons (dVar 0) (aCons (dC (.int 6)) (aNil)))) (xCons (dCall f__law_draw [true, false] (aCons (dVar 0) (aCons (dC (.int 6)) (aNil)))) (xCons (dCall f__law_draw [true, false] (aCons (dVar 0) (aCons (dC (.int 6)) (aNil)))) (xCons (dCall f__law_draw [true, false] (aCons (dVar 0) (aCons (dVarF 1) (aNil)))) (xNil)))))) (bSeq (bSet 6 (dLst (aCons (dTup (aCons (dC (.str "const")) (aCons (dVarF 2) (aCons (dVarF 5) (aNil))))) (aCons (dTup (aCons (dC (.str "move")) (aCons (dVarF 2) (aCons (dVarF 3) (aNil))))) (aCons (dTup (aCons (dC (.str "add")) (aCons (dVarF 2) (aCons (dVarF 3) (aCons (dVarF 4) (aNil)))))) (aCons (dTup (aCons (dC (.str "load")) (aCons (dVarF 2) (aCons (dVarF 3) (aNil))))) (aCons (dTup (aCons (dC (.str "store")) (aCons (dVarF 2) (aCons (dVarF 3) (aNil))))) (aCons (dTup (aCons (dC (.str "swap")) (aCons (dVarF 2) (aCons (dVarF 3) (aCons (dVarF 4) (aNil)))))) (aCons (dTup (aCons (dC (.str "jump")) (aCons (dVarF 5) (aNil)))) (aNil)))))))))) (bRet (dCall f__law_pick [true, false] (aCons (dVar 0) (aCons (dOp sAdd (dVar 6) (dLst (aCons (dTup (aCons (dC (.str "zero")) (aCons (dVarF 2) (aCons (dVarF 5) (aNil))))) (aCons (dTup (aCons (dC (.str "fresh")) (aCons (dVarF 2) (aNil)))) (aCons (dTup (aCons (dC (.str "return")) (aCons (dVarF 2) (aNil)))) (aCons (dTup (aCons (dC (.str "none")) (aNil))) (aCons (dTup (aCons (dC (.str "const")) (aCons (dVarF 2) (aCons (dUn sNeg (dC (.int 5))) (aNil))))) (aNil)))))))) (aNil))))))
def f__law_step_of : Fs := runFn 2 7 b__law_step_of
def n__law_program : List Str := ["pot", "many", "last", "k"]
def b__law_program : Bd := bSeq (bSet 1 (dOp sAdd (dC (.int 1)) (dCall f__law_draw [true, false] (aCons (dVar 0) (aCons (dC (.int 12)) (aNil)))))) (bSeq (bSet 2 (dOp sIx (dLst (aCons (dTup (aCons (dC (.str "none")) (aNil))) (aCons (dTup (aCons (dC (.str "return")) (aCons (dCall f__law_draw [true, false] (aCons (dVar 0) (aCons (dC (.int 6)) (aNil)))) (aNil)))) (aCons (dTup (aCons (dC (.str "jump")) (aCons (dCall f__law_draw [true, false] (aCons (dVar 0) (aCons (dVarF 1) (aNil)))) (aNil)))) (aNil))))) (dCall f__law_draw [true, false] (aCons (dVar 0) (aCons (dC (.int 3)) (aNil)))))) (bRet (dCallB sTuple (aCons (dOp sAdd (dFz (oComp [3] (iRange1 (aCons (dOp sSub (dVar 1) (dC (.int 1))) (aNil))) (tgName 3) (tYesD) (dCall f__law_step_of [true, false] (aCons (dVar 0) (aCons (dVar 1) (aNil)))))) (dLst (aCons (dVarF 2) (aNil)))) (aNil)))))
def f__law_program : Fs := runFn 1 4 b__law_program
def n__law_stands : List Str := ["many", "step_v", "forms", "form", "k", "part"]
def b__law_stands : Bd := bSeq (bSetO 2 (oDisp (keysL [(.inr "const", dC (.str "rn")), (.inr "move", dC (.str "rr")), (.inr "add", dC (.str "rrr")), (.inr "load", dC (.str "rr")), (.inr "store", dC (.str "rr")), (.inr "swap", dC (.str "rrr")), (.inr "jump", dC (.str "s")), (.inr "zero", dC (.str "rs"))]))) (bSeq (bAsg (dTup (aCons (dC (.str "r")) (aCons (dC (.str "r")) (aCons (dC (.str "")) (aNil))))) (hTup 3 (hCons (hDSub (dVar 2) (dC (.str "fresh"))) (hCons (hDSub (dVar 2) (dC (.str "return"))) (hCons (hDSub (dVar 2) (dC (.str "none"))) (hNil)))))) (bSeq (bIf (tOrD (tNotD (tOf (dUn isTup (dVar 1)))) (tOrD (tOf (dOp sEq (dVar 1) (dTup (aNil)))) (tOrD (tNotD (tOf (dUn isStr (dOp sIx (dVar 1) (dC (.int 0)))))) (tOf (dOp sDNin (dOp sIx (dVar 1) (dC (.int 0))) (dVar 2)))))) (bRet (dC (.bool false))) (bNil)) (bSeq (bSet 3 (dOp sDIx (dVar 2) (dOp sIx (dVar 1) (dC (.int 0))))) (bSeq (bIf (tOrD (tOf (dOp sNe (dCallB sLen (aCons (dVar 1) (aNil))) (dOp sAdd (dCallB sLen (aCons (dVar 3) (aNil))) (dC (.int 1))))) (tNotD (tOf (dCallB sAll (aCons (dFz (oComp [5] (iOf itAll (dSl (dVar 1) (pIs (dC (.int 1))) (pNo))) (tgName 5) (tYesD) (dCall f__law_is_integer [false] (aCons (dVar 5) (aNil))))) (aNil)))))) (bRet (dC (.bool false))) (bNil)) (bSeq (bFor (iRange1 (aCons (dCallB sLen (aCons (dVar 3) (aNil))) (aNil))) (tgName 4) (bIf (tOrD (tAndD (tOf (dOp sEq (dOp sIx (dVar 3) (dVar 4)) (dC (.str "r")))) (tNotD (tOf (dChain (sCmp fLe) (sCmp fLt) (dC (.int 0)) (dOp sIx (dVar 1) (dOp sAdd (dVar 4) (dC (.int 1)))) (dC (.int 6)))))) (tAndD (tOf (dOp sEq (dOp sIx (dVar 3) (dVar 4)) (dC (.str "s")))) (tNotD (tOf (dChain (sCmp fLe) (sCmp fLt) (dC (.int 0)) (dOp sIx (dVar 1) (dOp sAdd (dVar 4) (dC (.int 1)))) (dVar 0)))))) (bRet (dC (.bool false))) (bNil))) (bRet (dC (.bool true))))))))
def f__law_stands : Fs := runFn 2 6 b__law_stands
def n__law_fault : List Str := ["value", "k"]
def b__law_fault : Bd := bSeq (bIf (tOrD (tNotD (tOf (dUn isTup (dVar 0)))) (tOf (dOp sEq (dVar 0) (dTup (aNil))))) (bRet (dUn sNeg (dC (.int 1)))) (bNil)) (bSeq (bFor (iRange1 (aCons (dCallB sLen (aCons (dVar 0) (aNil))) (aNil))) (tgName 1) (bIf (tOrD (tNotD (tOf (dCall f__law_stands [false, false] (aCons (dCallB sLen (aCons (dVar 0) (aNil))) (aCons (dOp sIx (dVar 0) (dVar 1)) (aNil)))))) (tAndD (tOf (dOp sEq (dVar 1) (dOp sSub (dCallB sLen (aCons (dVar 0) (aNil))) (dC (.int 1))))) (tOf (dOp sNotIn (dOp sIx (dOp sIx (dVar 0) (dVar 1)) (dC (.int 0))) (dTup (aCons (dC (.str "jump")) (aCons (dC (.str "return")) (aCons (dC (.str "none")) (aNil))))))))) (bRet (dVarF 1)) (bNil))) (bRet (dC .none)))
def f__law_fault : Fs := runFn 1 2 b__law_fault
def n__law_bent : List Str := ["pot", "program", "at", "turn", "odd"]
def b__law_bent : Bd := bSeq (bParN [2, 3] (xCons (dCall f__law_draw [true, false] (aCons (dVar 0) (aCons (dCallB sLen (aCons (dVar 1) (aNil))) (aNil)))) (xCons (dCall f__law_draw [true, false] (aCons (dVar 0) (aCons (dC (.int 5)) (aNil)))) (xNil)))) (bSeq (bSet 4 (dLst (aCons (dTup (aCons (dC (.str "jump")) (aCons (dCallB sLen (aCons (dVar 1) (aNil))) (aNil)))) (aCons (dTup (aCons (dC (.str "zero")) (aCons (dC (.int 0)) (aCons (dUn sNeg (dC (.int 1))) (aNil))))) (aCons (dTup (aCons (dC (.str "zero")) (aCons (dC (.int 0)) (aCons (dOp sAdd (dCallB sLen (aCons (dVar 1) (aNil))) (dC (.int 1))) (aNil))))) (aCons (dTup (aCons (dC (.str "move")) (aCons (dC (.int 6)) (aCons (dC (.int 0)) (aNil))))) (aCons (dTup (aCons (dC (.str "load")) (aCons (dC (.int 0)) (aCons (dUn sNeg (dC (.int 1))) (aNil))))) (aCons (dTup (aCons (dC (.str "const")) (aCons (dC (.int 0)) (aCons (dC .none) (aNil))))) (aCons (dTup (aCons (dC (.str "const")) (aCons (dC (.int 0)) (aNil)))) (aNil)))))))))) (bSeq (bSet 4 (dOp sAdd (dVar 4) (dLst (aCons (dTup (aCons (dC (.str "add")) (aCons (dC (.int 0)) (aCons (dC (.int 1)) (aNil))))) (aCons (dTup (aCons (dC (.str "none")) (aCons (dC (.int 0)) (aNil)))) (aCons (dTup (aCons (dC (.str "return")) (aNil))) (aCons (dTup (aCons (dC (.str "return")) (aCons (dC (.bool true)) (aNil)))) (aCons (dLst (aCons (dC (.str "none")) (aNil))) (aCons (dC (.str "none")) (aCons (dC .none) (aCons (dTup (aNil)) (aCons (dTup (aCons (dC (.str "go")) (aNil))) (aCons (dTup (aCons (dC (.str "fresh")) (aCons (dC (.str "0")) (aNil)))) (aCons (dC (.int 7)) (aNil))))))))))))))) (bSeq (bIf (tOf (dOp sEq (dVar 3) (dC (.int 0)))) (bRet (dOp sAdd (dSl (dVar 1) (pNo) (pIs (dVar 2))) (dSl (dVar 1) (pIs (dOp sAdd (dVar 2) (dC (.int 1)))) (pNo)))) (bNil)) (bSeq (bIf (tOf (dOp sEq (dVar 3) (dC (.int 1)))) (bRet (dCall f__law_pick [true, false] (aCons (dVar 0) (aCons (dLst (aCons (dCallB sList (aCons (dVar 1) (aNil))) (aCons (dC .none) (aCons (dTup (aNil)) (aCons (dC (.int 0)) (aCons (dC (.str "x")) (aCons (dUn sRevT (dVar 1)) (aCons (dOp sAdd (dVar 1) (dTup (aCons (dTup (aCons (dC (.str "const")) (aCons (dC (.int 0)) (aCons (dC (.int 1)) (aNil))))) (aNil)))) (aNil))))))))) (aNil))))) (bNil)) (bRet (dOp sAdd (dOp sAdd (dSl (dVar 1) (pNo) (pIs (dVar 2))) (dTup (aCons (dCall f__law_pick [true, false] (aCons (dVar 0) (aCons (dVarF 4) (aNil)))) (aNil)))) (dSl (dVar 1) (pIs (dOp sAdd (dVar 2) (dCallB sInt (aCons (dOp (sCmp fLt) (dVar 3) (dC (.int 4))) (aNil))))) (pNo))))))))
def f__law_bent : Fs := runFn 2 5 b__law_bent
def n__law_refused : List Str := ["which", "value", "told", "e"]
def b__law_refused : Bd := bSeq (bTryF "InvalidProgram" 3 (bSeq (bIf (tOf (dOp sEq (dVar 0) (dC (.int 0)))) (bExpr (dCall f_schedule_run [false, false, false] (aCons (dVarF 1) (aCons (dTup (aNil)) (aCons (dTup (aNil)) (aNil)))))) (bIf (tOf (dOp sEq (dVar 0) (dC (.int 1)))) (bExpr (dCall f_histories [false, false, false] (aCons (dVarF 1) (aCons (dTup (aNil)) (aCons (dC (.int 1)) (aNil)))))) (bExpr (dCall f_bad_schedule [false, false, false, false] (aCons (dVarF 1) (aCons (dTup (aNil)) (aCons (dC (.str "queue")) (aCons (dC (.int 1)) (aNil))))))))) (bSet 2 (dC .none))) (fun fs => bSet 2 (dFld fs "index"))) (bRet (dVarF 2))
def f__law_refused : Fs := runFn 2 4 b__law_refused
def n__law_row : List Str := ["row", "sign"]
def b__law_row : Bd := bSeq (bIf (tOrD (tNotD (tOf (dUn isTup (dVar 0)))) (tOrD (tOf (dOp sNe (dCallB sLen (aCons (dVar 0) (aNil))) (dC (.int 2)))) (tOf (dOp sIsNot (dCall f__law_fault [false] (aCons (dOp sIx (dVar 0) (dC (.int 1))) (aNil))) (dC .none))))) (bRet (dC (.bool false))) (bNil)) (bRet (dAnd (dChain (sCmp fLe) (sCmp fLe) (dC (.int 1)) (dCallB sLen (aCons (dOp sIx (dVar 0) (dC (.int 0))) (aNil))) (dC (.int 8))) (dCallB sAll (aCons (dFz (oComp [1] (iOf itAll (dOp sIx (dVar 0) (dC (.int 0)))) (tgName 1) (tYesD) (dOp sIn (dVar 1) (dC (.str "abcdefghijklmnopqrstuvwxyz"))))) (aNil)))))
def f__law_row : Fs := runFn 1 2 b__law_row
def n__law_first_bad : List Str := ["rows", "k"]
def b__law_first_bad : Bd := bSeq (bIf (tNotD (tOf (dUn isTup (dVar 0)))) (bRet (dUn sNeg (dC (.int 1)))) (bNil)) (bSeq (bFor (iRange1 (aCons (dCallB sLen (aCons (dVar 0) (aNil))) (aNil))) (tgName 1) (bIf (tOrD (tNotD (tOf (dCall f__law_row [false] (aCons (dOp sIx (dVar 0) (dVar 1)) (aNil))))) (tAndD (tOf (dOp (sCmp fGt) (dVar 1) (dC (.int 0)))) (tNotD (tOf (dOp (sCmpS ltS) (dOp sIx (dOp sIx (dVar 0) (dOp sSub (dVar 1) (dC (.int 1)))) (dC (.int 0))) (dOp sIx (dOp sIx (dVar 0) (dVar 1)) (dC (.int 0)))))))) (bRet (dVarF 1)) (bNil))) (bRet (dC .none)))
def f__law_first_bad : Fs := runFn 1 2 b__law_first_bad
def n_law : List Str := ["script", "at", "pot", "program", "turn", "value", "rows", "odd", "other", "due"]
def b_law : Bd := bSeq (bFor (iOf itAll (dCall f__law_turns [false, false, false, false] (aCons (dVarF 0) (aCons (dC (.int 0)) (aCons (dC (.int 4)) (aCons (dC (.int 20)) (aNil))))))) (tgName 1) (bSeq (bSetO 2 (oCall f__law_pot [false, false] (aCons (dVarF 0) (aCons (dVarF 1) (aNil))))) (bSeq (bSet 3 (dCall f__law_program [true] (aCons (dVar 2) (aNil)))) (bSeq (bIf (tOf (dOp sIsNot (dCall f_program_fault [false] (aCons (dVarF 3) (aNil))) (dC .none))) (bRet (dC (.bool false))) (bNil)) (bFor (iRange1 (aCons (dC (.int 3)) (aNil))) (tgName 4) (bSeq (bSet 5 (dCall f__law_bent [true, false] (aCons (dVar 2) (aCons (dVarF 3) (aNil))))) (bSeq (bIf (tAndD (tOf (dOp sEq (dCall f__law_draw [true, false] (aCons (dVar 2) (aCons (dC (.int 3)) (aNil)))) (dC (.int 0)))) (tAndD (tOf (dUn isTup (dVar 5))) (tOf (dOp sNe (dVar 5) (dTup (aNil)))))) (bSet 5 (dCall f__law_bent [true, false] (aCons (dVar 2) (aCons (dVarF 5) (aNil))))) (bNil)) (bSeq (bIf (tNotD (tOf (dCall (f__law_same 12) [false, false] (aCons (dCall f_program_fault [false] (aCons (dVarF 5) (aNil))) (aCons (dCall f__law_fault [false] (aCons (dVarF 5) (aNil))) (aNil)))))) (bRet (dC (.bool false))) (bNil)) (bSeq (bSet 6 (dTup (aCons (dTup (aCons (dC (.str "a")) (aCons (dVarF 3) (aNil)))) (aCons (dTup (aCons (dC (.str "get")) (aCons (dVarF 5) (aNil)))) (aCons (dTup (aCons (dC (.str "put")) (aCons (dVarF 3) (aNil)))) (aNil)))))) (bSeq (bSet 7 (dLst (aCons (dTup (aCons (dOp sIx (dVar 6) (dC (.int 0))) (aCons (dTup (aCons (dC (.str "Get")) (aCons (dVarF 3) (aNil)))) (aNil)))) (aCons (dTup (aCons (dTup (aCons (dC (.str "a")) (aCons (dVarF 3) (aCons (dC (.int 0)) (aNil))))) (aNil))) (aCons (dCallB sList (aCons (dVar 6) (aNil))) (aCons (dC .none) (aNil))))))) (bSeq (bSet 8 (dCall f__law_pick [true, false] (aCons (dVar 2) (aCons (dOp sAdd (dLst (aCons (dVarF 6) (aCons (dSl (dVar 6) (pNo) (pIs (dC (.int 2)))) (aCons (dSl (dVar 6) (pIs (dC (.int 1))) (pNo)) (aCons (dUn sRevT (dVar 6)) (aCons (dOp sAdd (dVar 6) (dSl (dVar 6) (pIs (dC (.int 2))) (pNo))) (aNil))))))) (dVar 7)) (aNil))))) (bSeq (bSet 9 (dCall f__law_first_bad [false] (aCons (dVarF 8) (aNil)))) (bSeq (bIf (tNotD (tOf (dCall (f__law_same 12) [false, false] (aCons (dCall f_is_implementation [false] (aCons (dVarF 8) (aNil))) (aCons (dOp sIs (dVar 9) (dC .none)) (aNil)))))) (bRet (dC (.bool false))) (bNil)) (bIf (tAndD (tOf (dOp sIsNot (dVar 9) (dC .none))) (tNotD (tOf (dCall (f__law_same 12) [false, false] (aCons (dCall f__law_refused [false, false] (aCons (dCall f__law_draw [true, false] (aCons (dVar 2) (aCons (dC (.int 3)) (aNil)))) (aCons (dVarF 8) (aNil)))) (aCons (dVarF 9) (aNil))))))) (bRet (dC (.bool false))) (bNil))))))))))))))) (bRet (dC (.bool true)))
def f_law : Fs := runFn 1 10 b_law
end DL
namespace DL
open PySem PySem.Spec L2
open PyProof.Rows hiding St
def topS (i : Nat) : Stmt := PySem.Challenge.pw_linewitness_k78_programs_judged.main.body.getD i (.Pass ⟨0, 0, 0, 0⟩)
abbrev s_is_integer : Stmt := topS 8
theorem sc_is_integer : FnScope n_is_integer ["value"] (defScope s_is_integer) := ⟨rfl, rfl, rfl, by decide +kernel, rfl, by decide +kernel, by decide +kernel⟩
theorem fn_is_integer {P : Program} {w : World} {K : PySem.W.Frag} {mg : Str → Option Value} {base : Heap} {f : Addr} {fd : FuncData} (B : Bt mg) (F : Fun K "is_integer" "is_integer" s_is_integer f fd) (hm : mg "is_integer" = some (.ref f)) : FnOk P w K mg base (L2.CX P w) 1 f fd ["value"] (spF K mg f_is_integer) :=
  mkFn F sc_is_integer fun cdv A outer s H E g hg hr => by
    have nd := sc_is_integer.nd
    have tk := takesF (P := P) (w := w) (K := K) (mg := mg) (base := base) (N := n_is_integer) (qual := "is_integer") (sc := defScope s_is_integer) (f := f) (cdv := cdv) (A := A) (outer := outer) (s := s) (H := H) (E := E)
    exact ds_one (ds_ret (de_and (b_isInt B (v_ 0)) (de_one (de_not (b_isBool B (v_ 0))))))
theorem ok_is_integer {P : Program} {w : World} {K : PySem.W.Frag} {mg : Str → Option Value} {base : Heap} {f : Addr} {fd : FuncData} (B : Bt mg) (F : Fun K "is_integer" "is_integer" s_is_integer f fd) (hm : mg "is_integer" = some (.ref f)) : Callee P w K mg base "is_integer" 1 f_is_integer :=
  Callee.mk' F hm (fn_is_integer B F hm) (F.binds (ps := ["value"]) fun _ _ _ _ _ _ us hl => match us, hl with | [_], _ => rfl)
abbrev s_is_between : Stmt := topS 10
theorem sc_is_between : FnScope n_is_between ["least", "value", "most"] (defScope s_is_between) := ⟨rfl, rfl, rfl, by decide +kernel, rfl, by decide +kernel, by decide +kernel⟩
theorem fn_is_between {P : Program} {w : World} {K : PySem.W.Frag} {mg : Str → Option Value} {base : Heap} {f : Addr} {fd : FuncData} (B : Bt mg) (c_is_integer : Callee P w K mg base "is_integer" 1 f_is_integer) (F : Fun K "is_between" "is_between" s_is_between f fd) (hm : mg "is_between" = some (.ref f)) : FnOk P w K mg base (L2.CX P w) 2 f fd ["least", "value", "most"] (spF K mg f_is_between) :=
  mkFn F sc_is_between fun cdv A outer s H E g hg hr => by
    have nd := sc_is_between.nd
    have tk := takesF (P := P) (w := w) (K := K) (mg := mg) (base := base) (N := n_is_between) (qual := "is_between") (sc := defScope s_is_between) (f := f) (cdv := cdv) (A := A) (outer := outer) (s := s) (H := H) (E := E)
    exact ds_one (ds_ret (de_and (f_ [false] c_is_integer hr tk (da_cons (vf_ hg 1) (da_nil))) (de_one (c_lele (v_ 0) (v_ 1) (v_ 2)))))
theorem ok_is_between {P : Program} {w : World} {K : PySem.W.Frag} {mg : Str → Option Value} {base : Heap} {f : Addr} {fd : FuncData} (B : Bt mg) (c_is_integer : Callee P w K mg base "is_integer" 1 f_is_integer) (F : Fun K "is_between" "is_between" s_is_between f fd) (hm : mg "is_between" = some (.ref f)) : Callee P w K mg base "is_between" 2 f_is_between :=
  Callee.mk' F hm (fn_is_between B c_is_integer F hm) (F.binds (ps := ["least", "value", "most"]) fun _ _ _ _ _ _ us hl => match us, hl with | [_, _, _], _ => rfl)
abbrev s_is_index : Stmt := topS 11
theorem sc_is_index : FnScope n_is_index ["count", "value"] (defScope s_is_index) := ⟨rfl, rfl, rfl, by decide +kernel, rfl, by decide +kernel, by decide +kernel⟩
theorem fn_is_index {P : Program} {w : World} {K : PySem.W.Frag} {mg : Str → Option Value} {base : Heap} {f : Addr} {fd : FuncData} (B : Bt mg) (c_is_between : Callee P w K mg base "is_between" 2 f_is_between) (F : Fun K "is_index" "is_index" s_is_index f fd) (hm : mg "is_index" = some (.ref f)) : FnOk P w K mg base (L2.CX P w) 3 f fd ["count", "value"] (spF K mg f_is_index) :=
  mkFn F sc_is_index fun cdv A outer s H E g hg hr => by
    have nd := sc_is_index.nd
    have tk := takesF (P := P) (w := w) (K := K) (mg := mg) (base := base) (N := n_is_index) (qual := "is_index") (sc := defScope s_is_index) (f := f) (cdv := cdv) (A := A) (outer := outer) (s := s) (H := H) (E := E)
    exact ds_one (ds_ret (f_ [false, false, false] c_is_between hr tk (da_cons (de_int) (da_cons (vf_ hg 1) (da_cons (e_sub (v_ 0) (de_int)) (da_nil))))))
theorem ok_is_index {P : Program} {w : World} {K : PySem.W.Frag} {mg : Str → Option Value} {base : Heap} {f : Addr} {fd : FuncData} (B : Bt mg) (c_is_between : Callee P w K mg base "is_between" 2 f_is_between) (F : Fun K "is_index" "is_index" s_is_index f fd) (hm : mg "is_index" = some (.ref f)) : Callee P w K mg base "is_index" 3 f_is_index :=
  Callee.mk' F hm (fn_is_index B c_is_between F hm) (F.binds (ps := ["count", "value"]) fun _ _ _ _ _ _ us hl => match us, hl with | [_, _], _ => rfl)
abbrev s_is_tuple_of : Stmt := topS 12
theorem sc_is_tuple_of : FnScope n_is_tuple_of ["length", "value"] (defScope s_is_tuple_of) := ⟨rfl, rfl, rfl, by decide +kernel, rfl, by decide +kernel, by decide +kernel⟩
theorem fn_is_tuple_of {P : Program} {w : World} {K : PySem.W.Frag} {mg : Str → Option Value} {base : Heap} {f : Addr} {fd : FuncData} (B : Bt mg) (F : Fun K "is_tuple_of" "is_tuple_of" s_is_tuple_of f fd) (hm : mg "is_tuple_of" = some (.ref f)) : FnOk P w K mg base (L2.CX P w) 1 f fd ["length", "value"] (spF K mg f_is_tuple_of) :=
  mkFn F sc_is_tuple_of fun cdv A outer s H E g hg hr => by
    have nd := sc_is_tuple_of.nd
    have tk := takesF (P := P) (w := w) (K := K) (mg := mg) (base := base) (N := n_is_tuple_of) (qual := "is_tuple_of") (sc := defScope s_is_tuple_of) (f := f) (cdv := cdv) (A := A) (outer := outer) (s := s) (H := H) (E := E)
    exact ds_one (ds_ret (de_and (b_isTuple B (v_ 1)) (de_one (c_eq hr (b_len B (da_cons (v_ 1) (da_nil))) (v_ 0)))))
theorem ok_is_tuple_of {P : Program} {w : World} {K : PySem.W.Frag} {mg : Str → Option Value} {base : Heap} {f : Addr} {fd : FuncData} (B : Bt mg) (F : Fun K "is_tuple_of" "is_tuple_of" s_is_tuple_of f fd) (hm : mg "is_tuple_of" = some (.ref f)) : Callee P w K mg base "is_tuple_of" 1 f_is_tuple_of :=
  Callee.mk' F hm (fn_is_tuple_of B F hm) (F.binds (ps := ["length", "value"]) fun _ _ _ _ _ _ us hl => match us, hl with | [_, _], _ => rfl)
abbrev s_is_name : Stmt := topS 14
theorem sc_is_name : FnScope n_is_name ["value"] (defScope s_is_name) := ⟨rfl, rfl, rfl, by decide +kernel, rfl, by decide +kernel, by decide +kernel⟩
theorem fn_is_name {P : Program} {w : World} {K : PySem.W.Frag} {mg : Str → Option Value} {base : Heap} {f : Addr} {fd : FuncData} (B : Bt mg) (k_MOST_LETTERS : Konst K mg "MOST_LETTERS" c_MOST_LETTERS) (k_LETTERS : Konst K mg "LETTERS" c_LETTERS) (F : Fun K "is_name" "is_name" s_is_name f fd) (hm : mg "is_name" = some (.ref f)) : FnOk P w K mg base (L2.CX P w) 1 f fd ["value"] (spF K mg f_is_name) :=
  mkFn F sc_is_name fun cdv A outer s H E g hg hr => by
    have nd := sc_is_name.nd
    have tk := takesF (P := P) (w := w) (K := K) (mg := mg) (base := base) (N := n_is_name) (qual := "is_name") (sc := defScope s_is_name) (f := f) (cdv := cdv) (A := A) (outer := outer) (s := s) (H := H) (E := E)
    exact ds_cons (ds_if (dt_w (dw_or (dt_not (t_v (b_isStr B (v_ 0)))) (dw_or1 (dt_not (t_lele (de_int) (b_len B (da_cons (v_ 0) (da_nil))) (k_ k_MOST_LETTERS)))))) (ds_one (ds_ret (de_bl))) (ds_nil)) (ds_one (ds_ret (b_all rfl B (da_cons (DO.fz (do_comp rfl nd (own := [("letter", 1)]) (di_all (vf_ hg 0)) (blkOk_by (N := n_is_name) (sc := defScope s_is_name) (own := [("letter", 1)]) (by decide +kernel)) (by decide) (fun _ _ _ _ _ _ => gn_ 1 nd) (fun _ _ _ _ _ _ => dts_nil) (fun _ _ _ _ _ _ => c_in hr (v_ 1) (k_ k_LETTERS)))) (da_nil)))))
theorem ok_is_name {P : Program} {w : World} {K : PySem.W.Frag} {mg : Str → Option Value} {base : Heap} {f : Addr} {fd : FuncData} (B : Bt mg) (k_MOST_LETTERS : Konst K mg "MOST_LETTERS" c_MOST_LETTERS) (k_LETTERS : Konst K mg "LETTERS" c_LETTERS) (F : Fun K "is_name" "is_name" s_is_name f fd) (hm : mg "is_name" = some (.ref f)) : Callee P w K mg base "is_name" 1 f_is_name :=
  Callee.mk' F hm (fn_is_name B k_MOST_LETTERS k_LETTERS F hm) (F.binds (ps := ["value"]) fun _ _ _ _ _ _ us hl => match us, hl with | [_], _ => rfl)
abbrev s_fits : Stmt := topS 21
theorem sc_fits : FnScope n_fits ["kind", "count", "value"] (defScope s_fits) := ⟨rfl, rfl, rfl, by decide +kernel, rfl, by decide +kernel, by decide +kernel⟩
theorem fn_fits {P : Program} {w : World} {K : PySem.W.Frag} {mg : Str → Option Value} {base : Heap} {f : Addr} {fd : FuncData} (B : Bt mg) (k_REGISTERS : Konst K mg "REGISTERS" c_REGISTERS) (c_is_index : Callee P w K mg base "is_index" 3 f_is_index) (c_is_integer : Callee P w K mg base "is_integer" 1 f_is_integer) (F : Fun K "fits" "fits" s_fits f fd) (hm : mg "fits" = some (.ref f)) : FnOk P w K mg base (L2.CX P w) 4 f fd ["kind", "count", "value"] (spF K mg f_fits) :=
  mkFn F sc_fits fun cdv A outer s H E g hg hr => by
    have nd := sc_fits.nd
    have tk := takesF (P := P) (w := w) (K := K) (mg := mg) (base := base) (N := n_fits) (qual := "fits") (sc := defScope s_fits) (f := f) (cdv := cdv) (A := A) (outer := outer) (s := s) (H := H) (E := E)
    exact ds_cons (ds_if (t_eq hr (v_ 0) (de_str)) (ds_one (ds_ret (f_ [false, false] c_is_index hr tk (da_cons (k_ k_REGISTERS) (da_cons (vf_ hg 2) (da_nil)))))) (ds_nil)) (ds_one (ds_ret (de_if (t_eq hr (v_ 0) (de_str)) (f_ [false] c_is_integer hr tk (da_cons (vf_ hg 2) (da_nil))) (f_ [false, false] c_is_index hr tk (da_cons (vf_ hg 1) (da_cons (vf_ hg 2) (da_nil)))))))
theorem ok_fits {P : Program} {w : World} {K : PySem.W.Frag} {mg : Str → Option Value} {base : Heap} {f : Addr} {fd : FuncData} (B : Bt mg) (k_REGISTERS : Konst K mg "REGISTERS" c_REGISTERS) (c_is_index : Callee P w K mg base "is_index" 3 f_is_index) (c_is_integer : Callee P w K mg base "is_integer" 1 f_is_integer) (F : Fun K "fits" "fits" s_fits f fd) (hm : mg "fits" = some (.ref f)) : Callee P w K mg base "fits" 4 f_fits :=
  Callee.mk' F hm (fn_fits B k_REGISTERS c_is_index c_is_integer F hm) (F.binds (ps := ["kind", "count", "value"]) fun _ _ _ _ _ _ us hl => match us, hl with | [_, _, _], _ => rfl)
abbrev s_is_step : Stmt := topS 22
theorem sc_is_step : FnScope n_is_step ["count", "value"] (defScope s_is_step) := ⟨rfl, rfl, rfl, by decide +kernel, rfl, by decide +kernel, by decide +kernel⟩
theorem fn_is_step {P : Program} {w : World} {K : PySem.W.Frag} {mg : Str → Option Value} {base : Heap} {f : Addr} {fd : FuncData} (B : Bt mg) (st_FORMS : TabS P w K mg "FORMS" c_FORMS) (c_is_tuple_of : Callee P w K mg base "is_tuple_of" 1 f_is_tuple_of) (c_fits : Callee P w K mg base "fits" 4 f_fits) (nog_zip : mg "zip" = none) (F : Fun K "is_step" "is_step" s_is_step f fd) (hm : mg "is_step" = some (.ref f)) : FnOk P w K mg base (L2.CX P w) 5 f fd ["count", "value"] (spF K mg f_is_step) :=
  mkFn F sc_is_step fun cdv A outer s H E g hg hr => by
    have nd := sc_is_step.nd
    have tk := takesF (P := P) (w := w) (K := K) (mg := mg) (base := base) (N := n_is_step) (qual := "is_step") (sc := defScope s_is_step) (f := f) (cdv := cdv) (A := A) (outer := outer) (s := s) (H := H) (E := E)
    exact ds_cons (ds_if (dt_w (dw_or (dt_not (t_v (b_isTuple B (v_ 1)))) (dw_or (t_eq hr (v_ 1) (de_tup (da_nil))) (dw_or (dt_not (t_v (b_isStr B (de_ix (v_ 1) (de_int))))) (dw_or1 (dt_kdnin st_FORMS (de_ix (v_ 1) (de_int)))))))) (ds_one (ds_ret (de_bl))) (ds_nil)) (ds_cons (set_ 2 nd (de_kdat st_FORMS (de_ix (v_ 1) (de_int)))) (ds_cons (ds_if (dt_not (t_v (f_ [false, false] c_is_tuple_of hr tk (da_cons (e_add (b_len B (da_cons (v_ 2) (da_nil))) (de_int)) (da_cons (vf_ hg 1) (da_nil)))))) (ds_one (ds_ret (de_bl))) (ds_nil)) (ds_one (ds_ret (b_all rfl B (da_cons (DO.fz (do_comp rfl nd (own := [("kind", 3), ("part", 4)]) (di_zipS rfl nog_zip (vf_ hg 2) (de_sl (v_ 1) (dp_is (de_int)) (dp_no))) (blkOk_by (N := n_is_step) (sc := defScope s_is_step) (own := [("kind", 3), ("part", 4)]) (by decide +kernel)) (by decide) (fun _ _ _ _ _ _ => dg_tup rfl (dgs_cons (gn_ 3 nd) (dgs_cons (gn_ 4 nd) (dgs_nil))) rfl rfl (tgCons_len (tgCons_len (tgNil_len)))) (fun _ _ _ _ _ _ => dts_nil) (fun _ _ _ _ _ _ => f_ [false, false, false] c_fits hr takes0 (da_cons (v_ 3) (da_cons (v_ 0) (da_cons (v_ 4) (da_nil))))))) (da_nil)))))))
theorem ok_is_step {P : Program} {w : World} {K : PySem.W.Frag} {mg : Str → Option Value} {base : Heap} {f : Addr} {fd : FuncData} (B : Bt mg) (st_FORMS : TabS P w K mg "FORMS" c_FORMS) (c_is_tuple_of : Callee P w K mg base "is_tuple_of" 1 f_is_tuple_of) (c_fits : Callee P w K mg base "fits" 4 f_fits) (nog_zip : mg "zip" = none) (F : Fun K "is_step" "is_step" s_is_step f fd) (hm : mg "is_step" = some (.ref f)) : Callee P w K mg base "is_step" 5 f_is_step :=
  Callee.mk' F hm (fn_is_step B st_FORMS c_is_tuple_of c_fits nog_zip F hm) (F.binds (ps := ["count", "value"]) fun _ _ _ _ _ _ us hl => match us, hl with | [_, _], _ => rfl)
abbrev s_program_fault : Stmt := topS 23
theorem sc_program_fault : FnScope n_program_fault ["value"] (defScope s_program_fault) := ⟨rfl, rfl, rfl, by decide +kernel, rfl, by decide +kernel, by decide +kernel⟩
theorem fn_program_fault {P : Program} {w : World} {K : PySem.W.Frag} {mg : Str → Option Value} {base : Heap} {f : Addr} {fd : FuncData} (B : Bt mg) (k_LAST_WORDS : Konst K mg "LAST_WORDS" c_LAST_WORDS) (c_is_step : Callee P w K mg base "is_step" 5 f_is_step) (F : Fun K "program_fault" "program_fault" s_program_fault f fd) (hm : mg "program_fault" = some (.ref f)) : FnOk P w K mg base (L2.CX P w) 6 f fd ["value"] (spF K mg f_program_fault) :=
  mkFn F sc_program_fault fun cdv A outer s H E g hg hr => by
    have nd := sc_program_fault.nd
    have tk := takesF (P := P) (w := w) (K := K) (mg := mg) (base := base) (N := n_program_fault) (qual := "program_fault") (sc := defScope s_program_fault) (f := f) (cdv := cdv) (A := A) (outer := outer) (s := s) (H := H) (E := E)
    exact ds_cons (ds_if (dt_w (dw_or (dt_not (t_v (b_isTuple B (v_ 0)))) (dw_or1 (t_eq hr (v_ 0) (de_tup (da_nil)))))) (ds_one (ds_ret (e_neg (de_int)))) (ds_nil)) (ds_cons (ds_for (passes_of rfl) rfl (di_enum rfl B.enumerate (vf_ hg 0)) (dg_tup rfl (dgs_cons (gn_ 1 nd) (dgs_cons (gn_ 2 nd) (dgs_nil))) rfl rfl (tgCons_len (tgCons_len (tgNil_len)))) (ds_one (ds_if (dt_w (dw_or (dt_not (t_v (f_ [false, false] c_is_step hr tk (da_cons (b_len B (da_cons (v_ 0) (da_nil))) (da_cons (vf_ hg 2) (da_nil)))))) (dw_or1 (dt_w (dw_and (t_eq hr (v_ 1) (e_sub (b_len B (da_cons (v_ 0) (da_nil))) (de_int))) (dw_and1 (t_nin hr (de_ix (v_ 2) (de_int)) (k_ k_LAST_WORDS)))))))) (ds_one (ds_ret (vf_ hg 1))) (ds_nil)))) (ds_one (ds_ret (de_non))))
theorem ok_program_fault {P : Program} {w : World} {K : PySem.W.Frag} {mg : Str → Option Value} {base : Heap} {f : Addr} {fd : FuncData} (B : Bt mg) (k_LAST_WORDS : Konst K mg "LAST_WORDS" c_LAST_WORDS) (c_is_step : Callee P w K mg base "is_step" 5 f_is_step) (F : Fun K "program_fault" "program_fault" s_program_fault f fd) (hm : mg "program_fault" = some (.ref f)) : Callee P w K mg base "program_fault" 6 f_program_fault :=
  Callee.mk' F hm (fn_program_fault B k_LAST_WORDS c_is_step F hm) (F.binds (ps := ["value"]) fun _ _ _ _ _ _ us hl => match us, hl with | [_], _ => rfl)
abbrev s_is_named_program : Stmt := topS 24
theorem sc_is_named_program : FnScope n_is_named_program ["value"] (defScope s_is_named_program) := ⟨rfl, rfl, rfl, by decide +kernel, rfl, by decide +kernel, by decide +kernel⟩
theorem fn_is_named_program {P : Program} {w : World} {K : PySem.W.Frag} {mg : Str → Option Value} {base : Heap} {f : Addr} {fd : FuncData} (B : Bt mg) (c_is_tuple_of : Callee P w K mg base "is_tuple_of" 1 f_is_tuple_of) (c_is_name : Callee P w K mg base "is_name" 1 f_is_name) (c_program_fault : Callee P w K mg base "program_fault" 6 f_program_fault) (F : Fun K "is_named_program" "is_named_program" s_is_named_program f fd) (hm : mg "is_named_program" = some (.ref f)) : FnOk P w K mg base (L2.CX P w) 7 f fd ["value"] (spF K mg f_is_named_program) :=
  mkFn F sc_is_named_program fun cdv A outer s H E g hg hr => by
    have nd := sc_is_named_program.nd
    have tk := takesF (P := P) (w := w) (K := K) (mg := mg) (base := base) (N := n_is_named_program) (qual := "is_named_program") (sc := defScope s_is_named_program) (f := f) (cdv := cdv) (A := A) (outer := outer) (s := s) (H := H) (E := E)
    exact ds_one (ds_ret (de_and (f_ [false, false] c_is_tuple_of hr tk (da_cons (de_int) (da_cons (vf_ hg 0) (da_nil)))) (de_and (f_ [false] c_is_name hr tk (da_cons (de_ix (v_ 0) (de_int)) (da_nil))) (de_one (c_is (f_ [false] c_program_fault hr tk (da_cons (de_ix (v_ 0) (de_int)) (da_nil))) (de_non))))))
theorem ok_is_named_program {P : Program} {w : World} {K : PySem.W.Frag} {mg : Str → Option Value} {base : Heap} {f : Addr} {fd : FuncData} (B : Bt mg) (c_is_tuple_of : Callee P w K mg base "is_tuple_of" 1 f_is_tuple_of) (c_is_name : Callee P w K mg base "is_name" 1 f_is_name) (c_program_fault : Callee P w K mg base "program_fault" 6 f_program_fault) (F : Fun K "is_named_program" "is_named_program" s_is_named_program f fd) (hm : mg "is_named_program" = some (.ref f)) : Callee P w K mg base "is_named_program" 7 f_is_named_program :=
  Callee.mk' F hm (fn_is_named_program B c_is_tuple_of c_is_name c_program_fault F hm) (F.binds (ps := ["value"]) fun _ _ _ _ _ _ us hl => match us, hl with | [_], _ => rfl)
abbrev s_implementation_fault : Stmt := topS 25
theorem sc_implementation_fault : FnScope n_implementation_fault ["value"] (defScope s_implementation_fault) := ⟨rfl, rfl, rfl, by decide +kernel, rfl, by decide +kernel, by decide +kernel⟩
theorem fn_implementation_fault {P : Program} {w : World} {K : PySem.W.Frag} {mg : Str → Option Value} {base : Heap} {f : Addr} {fd : FuncData} (B : Bt mg) (c_is_named_program : Callee P w K mg base "is_named_program" 7 f_is_named_program) (F : Fun K "implementation_fault" "implementation_fault" s_implementation_fault f fd) (hm : mg "implementation_fault" = some (.ref f)) : FnOk P w K mg base (L2.CX P w) 8 f fd ["value"] (spF K mg f_implementation_fault) :=
  mkFn F sc_implementation_fault fun cdv A outer s H E g hg hr => by
    have nd := sc_implementation_fault.nd
    have tk := takesF (P := P) (w := w) (K := K) (mg := mg) (base := base) (N := n_implementation_fault) (qual := "implementation_fault") (sc := defScope s_implementation_fault) (f := f) (cdv := cdv) (A := A) (outer := outer) (s := s) (H := H) (E := E)
    exact ds_cons (ds_if (dt_not (t_v (b_isTuple B (v_ 0)))) (ds_one (ds_ret (e_neg (de_int)))) (ds_nil)) (ds_cons (ds_for (passes_of rfl) rfl (di_enum rfl B.enumerate (vf_ hg 0)) (dg_tup rfl (dgs_cons (gn_ 1 nd) (dgs_cons (gn_ 2 nd) (dgs_nil))) rfl rfl (tgCons_len (tgCons_len (tgNil_len)))) (ds_one (ds_if (dt_w (dw_or (dt_not (t_v (f_ [false] c_is_named_program hr tk (da_cons (vf_ hg 2) (da_nil))))) (dw_or1 (dt_w (dw_and (t_gt (v_ 1) (de_int)) (dw_and1 (t_leS (de_ix (v_ 2) (de_int)) (de_ix (de_ix (v_ 0) (e_sub (v_ 1) (de_int))) (de_int))))))))) (ds_one (ds_ret (vf_ hg 1))) (ds_nil)))) (ds_one (ds_ret (de_non))))
theorem ok_implementation_fault {P : Program} {w : World} {K : PySem.W.Frag} {mg : Str → Option Value} {base : Heap} {f : Addr} {fd : FuncData} (B : Bt mg) (c_is_named_program : Callee P w K mg base "is_named_program" 7 f_is_named_program) (F : Fun K "implementation_fault" "implementation_fault" s_implementation_fault f fd) (hm : mg "implementation_fault" = some (.ref f)) : Callee P w K mg base "implementation_fault" 8 f_implementation_fault :=
  Callee.mk' F hm (fn_implementation_fault B c_is_named_program F hm) (F.binds (ps := ["value"]) fun _ _ _ _ _ _ us hl => match us, hl with | [_], _ => rfl)
abbrev s_is_implementation : Stmt := topS 26
theorem sc_is_implementation : FnScope n_is_implementation ["value"] (defScope s_is_implementation) := ⟨rfl, rfl, rfl, by decide +kernel, rfl, by decide +kernel, by decide +kernel⟩
theorem fn_is_implementation {P : Program} {w : World} {K : PySem.W.Frag} {mg : Str → Option Value} {base : Heap} {f : Addr} {fd : FuncData} (B : Bt mg) (c_implementation_fault : Callee P w K mg base "implementation_fault" 8 f_implementation_fault) (F : Fun K "is_implementation" "is_implementation" s_is_implementation f fd) (hm : mg "is_implementation" = some (.ref f)) : FnOk P w K mg base (L2.CX P w) 9 f fd ["value"] (spF K mg f_is_implementation) :=
  mkFn F sc_is_implementation fun cdv A outer s H E g hg hr => by
    have nd := sc_is_implementation.nd
    have tk := takesF (P := P) (w := w) (K := K) (mg := mg) (base := base) (N := n_is_implementation) (qual := "is_implementation") (sc := defScope s_is_implementation) (f := f) (cdv := cdv) (A := A) (outer := outer) (s := s) (H := H) (E := E)
    exact ds_one (ds_ret (c_is (f_ [false] c_implementation_fault hr tk (da_cons (vf_ hg 0) (da_nil))) (de_non)))
theorem ok_is_implementation {P : Program} {w : World} {K : PySem.W.Frag} {mg : Str → Option Value} {base : Heap} {f : Addr} {fd : FuncData} (B : Bt mg) (c_implementation_fault : Callee P w K mg base "implementation_fault" 8 f_implementation_fault) (F : Fun K "is_implementation" "is_implementation" s_is_implementation f fd) (hm : mg "is_implementation" = some (.ref f)) : Callee P w K mg base "is_implementation" 9 f_is_implementation :=
  Callee.mk' F hm (fn_is_implementation B c_implementation_fault F hm) (F.binds (ps := ["value"]) fun _ _ _ _ _ _ us hl => match us, hl with | [_], _ => rfl)
abbrev s_check_implementation : Stmt := topS 27
theorem sc_check_implementation : FnScope n_check_implementation ["implementation"] (defScope s_check_implementation) := ⟨rfl, rfl, rfl, by decide +kernel, rfl, by decide +kernel, by decide +kernel⟩
theorem fn_check_implementation {P : Program} {w : World} {K : PySem.W.Frag} {mg : Str → Option Value} {base : Heap} {f : Addr} {fd : FuncData} (B : Bt mg) (c_implementation_fault : Callee P w K mg base "implementation_fault" 8 f_implementation_fault) {C_InvalidProgram : Addr} (q_InvalidProgram : FldE P K mg "InvalidProgram" "index" C_InvalidProgram) (F : Fun K "check_implementation" "check_implementation" s_check_implementation f fd) (hm : mg "check_implementation" = some (.ref f)) : FnOk P w K mg base (L2.CX P w) 9 f fd ["implementation"] (spF K mg f_check_implementation) :=
  mkFn F sc_check_implementation fun cdv A outer s H E g hg hr => by
    have nd := sc_check_implementation.nd
    have tk := takesF (P := P) (w := w) (K := K) (mg := mg) (base := base) (N := n_check_implementation) (qual := "check_implementation") (sc := defScope s_check_implementation) (f := f) (cdv := cdv) (A := A) (outer := outer) (s := s) (H := H) (E := E)
    exact ds_cons (set_ 1 nd (f_ [false] c_implementation_fault hr tk (da_cons (vf_ hg 0) (da_nil)))) (ds_one (ds_if (t_isn (v_ 1) (de_non)) (ds_one (ds_raiseF rfl q_InvalidProgram hr tk (vf_ hg 1) rfl)) (ds_nil)))
theorem ok_check_implementation {P : Program} {w : World} {K : PySem.W.Frag} {mg : Str → Option Value} {base : Heap} {f : Addr} {fd : FuncData} (B : Bt mg) (c_implementation_fault : Callee P w K mg base "implementation_fault" 8 f_implementation_fault) {C_InvalidProgram : Addr} (q_InvalidProgram : FldE P K mg "InvalidProgram" "index" C_InvalidProgram) (F : Fun K "check_implementation" "check_implementation" s_check_implementation f fd) (hm : mg "check_implementation" = some (.ref f)) : Callee P w K mg base "check_implementation" 9 f_check_implementation :=
  Callee.mk' F hm (fn_check_implementation B c_implementation_fault q_InvalidProgram F hm) (F.binds (ps := ["implementation"]) fun _ _ _ _ _ _ us hl => match us, hl with | [_], _ => rfl)
abbrev s_schedule_run : Stmt := topS 30
theorem sc_schedule_run : FnScope n_schedule_run ["implementation", "calls", "schedule"] (defScope s_schedule_run) := ⟨rfl, rfl, rfl, by decide +kernel, rfl, by decide +kernel, by decide +kernel⟩
theorem fn_schedule_run {P : Program} {w : World} {K : PySem.W.Frag} {mg : Str → Option Value} {base : Heap} {f : Addr} {fd : FuncData} (B : Bt mg) (c_check_implementation : Callee P w K mg base "check_implementation" 9 f_check_implementation) (F : Fun K "schedule_run" "schedule_run" s_schedule_run f fd) (hm : mg "schedule_run" = some (.ref f)) : FnOk P w K mg base (L2.CX P w) 10 f fd ["implementation", "calls", "schedule"] (spF K mg f_schedule_run) :=
  mkFn F sc_schedule_run fun cdv A outer s H E g hg hr => by
    have nd := sc_schedule_run.nd
    have tk := takesF (P := P) (w := w) (K := K) (mg := mg) (base := base) (N := n_schedule_run) (qual := "schedule_run") (sc := defScope s_schedule_run) (f := f) (cdv := cdv) (A := A) (outer := outer) (s := s) (H := H) (E := E)
    exact ds_cons (ds_expr (f_ [false] c_check_implementation hr tk (da_cons (vf_ hg 0) (da_nil)))) (dss_no)
theorem ok_schedule_run {P : Program} {w : World} {K : PySem.W.Frag} {mg : Str → Option Value} {base : Heap} {f : Addr} {fd : FuncData} (B : Bt mg) (c_check_implementation : Callee P w K mg base "check_implementation" 9 f_check_implementation) (F : Fun K "schedule_run" "schedule_run" s_schedule_run f fd) (hm : mg "schedule_run" = some (.ref f)) : Callee P w K mg base "schedule_run" 10 f_schedule_run :=
  Callee.mk' F hm (fn_schedule_run B c_check_implementation F hm) (F.binds (ps := ["implementation", "calls", "schedule"]) fun _ _ _ _ _ _ us hl => match us, hl with | [_, _, _], _ => rfl)
abbrev s_histories : Stmt := topS 95
theorem sc_histories : FnScope n_histories ["implementation", "calls", "number"] (defScope s_histories) := ⟨rfl, rfl, rfl, by decide +kernel, rfl, by decide +kernel, by decide +kernel⟩
theorem fn_histories {P : Program} {w : World} {K : PySem.W.Frag} {mg : Str → Option Value} {base : Heap} {f : Addr} {fd : FuncData} (B : Bt mg) (c_check_implementation : Callee P w K mg base "check_implementation" 9 f_check_implementation) (F : Fun K "histories" "histories" s_histories f fd) (hm : mg "histories" = some (.ref f)) : FnOk P w K mg base (L2.CX P w) 10 f fd ["implementation", "calls", "number"] (spF K mg f_histories) :=
  mkFn F sc_histories fun cdv A outer s H E g hg hr => by
    have nd := sc_histories.nd
    have tk := takesF (P := P) (w := w) (K := K) (mg := mg) (base := base) (N := n_histories) (qual := "histories") (sc := defScope s_histories) (f := f) (cdv := cdv) (A := A) (outer := outer) (s := s) (H := H) (E := E)
    exact ds_cons (ds_expr (f_ [false] c_check_implementation hr tk (da_cons (vf_ hg 0) (da_nil)))) (dss_no)
theorem ok_histories {P : Program} {w : World} {K : PySem.W.Frag} {mg : Str → Option Value} {base : Heap} {f : Addr} {fd : FuncData} (B : Bt mg) (c_check_implementation : Callee P w K mg base "check_implementation" 9 f_check_implementation) (F : Fun K "histories" "histories" s_histories f fd) (hm : mg "histories" = some (.ref f)) : Callee P w K mg base "histories" 10 f_histories :=
  Callee.mk' F hm (fn_histories B c_check_implementation F hm) (F.binds (ps := ["implementation", "calls", "number"]) fun _ _ _ _ _ _ us hl => match us, hl with | [_, _, _], _ => rfl)
abbrev s_bad_schedule : Stmt := topS 96
theorem sc_bad_schedule : FnScope n_bad_schedule ["implementation", "calls", "kind", "number"] (defScope s_bad_schedule) := ⟨rfl, rfl, rfl, by decide +kernel, rfl, by decide +kernel, by decide +kernel⟩
theorem fn_bad_schedule {P : Program} {w : World} {K : PySem.W.Frag} {mg : Str → Option Value} {base : Heap} {f : Addr} {fd : FuncData} (B : Bt mg) (c_check_implementation : Callee P w K mg base "check_implementation" 9 f_check_implementation) (F : Fun K "bad_schedule" "bad_schedule" s_bad_schedule f fd) (hm : mg "bad_schedule" = some (.ref f)) : FnOk P w K mg base (L2.CX P w) 10 f fd ["implementation", "calls", "kind", "number"] (spF K mg f_bad_schedule) :=
  mkFn F sc_bad_schedule fun cdv A outer s H E g hg hr => by
    have nd := sc_bad_schedule.nd
    have tk := takesF (P := P) (w := w) (K := K) (mg := mg) (base := base) (N := n_bad_schedule) (qual := "bad_schedule") (sc := defScope s_bad_schedule) (f := f) (cdv := cdv) (A := A) (outer := outer) (s := s) (H := H) (E := E)
    exact ds_cons (ds_expr (f_ [false] c_check_implementation hr tk (da_cons (vf_ hg 0) (da_nil)))) (dss_no)
theorem ok_bad_schedule {P : Program} {w : World} {K : PySem.W.Frag} {mg : Str → Option Value} {base : Heap} {f : Addr} {fd : FuncData} (B : Bt mg) (c_check_implementation : Callee P w K mg base "check_implementation" 9 f_check_implementation) (F : Fun K "bad_schedule" "bad_schedule" s_bad_schedule f fd) (hm : mg "bad_schedule" = some (.ref f)) : Callee P w K mg base "bad_schedule" 10 f_bad_schedule :=
  Callee.mk' F hm (fn_bad_schedule B c_check_implementation F hm) (F.binds (ps := ["implementation", "calls", "kind", "number"]) fun _ _ _ _ _ _ us hl => match us, hl with | [_, _, _, _], _ => rfl)
abbrev s__law_pot : Stmt := topS 98
theorem sc__law_pot : FnScope n__law_pot ["script", "at"] (defScope s__law_pot) := ⟨rfl, rfl, rfl, by decide +kernel, rfl, by decide +kernel, by decide +kernel⟩
theorem fn__law_pot {P : Program} {w : World} {K : PySem.W.Frag} {mg : Str → Option Value} {base : Heap} {f : Addr} {fd : FuncData} (B : Bt mg) (F : Fun K "_law_pot" "_law_pot" s__law_pot f fd) (hm : mg "_law_pot" = some (.ref f)) : FnOk P w K mg base (L2.CX P w) 1 f fd ["script", "at"] (spF K mg f__law_pot) :=
  mkFn F sc__law_pot fun cdv A outer s H E g hg hr => by
    have nd := sc__law_pot.nd
    have tk := takesF (P := P) (w := w) (K := K) (mg := mg) (base := base) (N := n__law_pot) (qual := "_law_pot") (sc := defScope s__law_pot) (f := f) (cdv := cdv) (A := A) (outer := outer) (s := s) (H := H) (E := E)
    exact ds_cons (set_ 2 nd (e_mul (de_int) (v_ 1))) (ds_cons (ds_if (t_lt (v_ 1) (b_len B (da_cons (v_ 0) (da_nil)))) (ds_one (set_ 2 nd (de_ix (v_ 0) (v_ 1)))) (ds_nil)) (ds_cons (set_ 2 nd (e_mod (b_int B (da_cons (b_abs B (da_cons (v_ 2) (da_nil))) (da_nil))) (e_mul (e_mul (e_mul (e_pow (de_int) (de_int)) (e_pow (de_int) (de_int))) (e_pow (de_int) (de_int))) (e_pow (de_int) (de_int))))) (ds_one (ds_retO (do_lst (da_cons (vf_ hg 2) (da_cons (b_int B (da_cons (c_ge (v_ 2) (e_pow (de_int) (de_int))) (da_nil))) (da_cons (e_mul (de_int) (v_ 1)) (da_nil)))))))))
theorem ok__law_pot {P : Program} {w : World} {K : PySem.W.Frag} {mg : Str → Option Value} {base : Heap} {f : Addr} {fd : FuncData} (B : Bt mg) (F : Fun K "_law_pot" "_law_pot" s__law_pot f fd) (hm : mg "_law_pot" = some (.ref f)) : Callee P w K mg base "_law_pot" 1 f__law_pot :=
  Callee.mk' F hm (fn__law_pot B F hm) (F.binds (ps := ["script", "at"]) fun _ _ _ _ _ _ us hl => match us, hl with | [_, _], _ => rfl)
abbrev s__law_draw : Stmt := topS 99
theorem sc__law_draw : FnScope n__law_draw ["pot", "many"] (defScope s__law_draw) := ⟨rfl, rfl, rfl, by decide +kernel, rfl, by decide +kernel, by decide +kernel⟩
theorem fn__law_draw {P : Program} {w : World} {K : PySem.W.Frag} {mg : Str → Option Value} {base : Heap} {f : Addr} {fd : FuncData} (B : Bt mg) (F : Fun K "_law_draw" "_law_draw" s__law_draw f fd) (hm : mg "_law_draw" = some (.ref f)) : FnOk P w K mg base (L2.CX P w) 1 f fd ["pot", "many"] (spF K mg f__law_draw) :=
  mkFn F sc__law_draw fun cdv A outer s H E g hg hr => by
    have nd := sc__law_draw.nd
    have tk := takesF (P := P) (w := w) (K := K) (mg := mg) (base := base) (N := n__law_draw) (qual := "_law_draw") (sc := defScope s__law_draw) (f := f) (cdv := cdv) (A := A) (outer := outer) (s := s) (H := H) (E := E)
    exact ds_cons (ds_asg (e_add (de_ix (v_ 0) (de_int)) (de_int)) (dh_sub (v_ 0) (de_int))) (ds_cons (ds_if (dt_w (dw_and (t_eq hr (de_ix (v_ 0) (de_int)) (de_int)) (dw_and1 (t_gt (de_ix (v_ 0) (de_int)) (de_int))))) (ds_cons (set_ 2 nd (e_mod (b_int B (da_cons (de_ix (v_ 0) (de_int)) (da_nil))) (v_ 1))) (ds_cons (ds_asg (e_fdiv (de_ix (v_ 0) (de_int)) (v_ 1)) (dh_sub (v_ 0) (de_int))) (ds_one (ds_ret (vf_ hg 2))))) (ds_nil)) (ds_cons (set_ 3 nd (e_mod (b_int B (da_cons (e_mul (e_add (e_add (de_ix (v_ 0) (de_int)) (e_mul (de_int) (de_ix (v_ 0) (de_int)))) (de_int)) (de_int)) (da_nil))) (de_int))) (ds_cons (set_ 3 nd (e_mod (b_int B (da_cons (e_mul (v_ 3) (v_ 3)) (da_nil))) (de_int))) (ds_cons (set_ 3 nd (e_mod (b_int B (da_cons (e_mul (e_add (v_ 3) (e_mul (de_int) (de_ix (v_ 0) (de_int)))) (de_int)) (da_nil))) (de_int))) (ds_one (ds_ret (e_mod (b_int B (da_cons (e_fdiv (v_ 3) (de_int)) (da_nil))) (v_ 1))))))))
theorem ok__law_draw {P : Program} {w : World} {K : PySem.W.Frag} {mg : Str → Option Value} {base : Heap} {f : Addr} {fd : FuncData} (B : Bt mg) (F : Fun K "_law_draw" "_law_draw" s__law_draw f fd) (hm : mg "_law_draw" = some (.ref f)) : Callee P w K mg base "_law_draw" 1 f__law_draw :=
  Callee.mk' F hm (fn__law_draw B F hm) (F.binds (ps := ["pot", "many"]) fun _ _ _ _ _ _ us hl => match us, hl with | [_, _], _ => rfl)
abbrev s__law_pick : Stmt := topS 100
theorem sc__law_pick : FnScope n__law_pick ["pot", "rows"] (defScope s__law_pick) := ⟨rfl, rfl, rfl, by decide +kernel, rfl, by decide +kernel, by decide +kernel⟩
theorem fn__law_pick {P : Program} {w : World} {K : PySem.W.Frag} {mg : Str → Option Value} {base : Heap} {f : Addr} {fd : FuncData} (B : Bt mg) (c__law_draw : Callee P w K mg base "_law_draw" 1 f__law_draw) (F : Fun K "_law_pick" "_law_pick" s__law_pick f fd) (hm : mg "_law_pick" = some (.ref f)) : FnOk P w K mg base (L2.CX P w) 2 f fd ["pot", "rows"] (spF K mg f__law_pick) :=
  mkFn F sc__law_pick fun cdv A outer s H E g hg hr => by
    have nd := sc__law_pick.nd
    have tk := takesF (P := P) (w := w) (K := K) (mg := mg) (base := base) (N := n__law_pick) (qual := "_law_pick") (sc := defScope s__law_pick) (f := f) (cdv := cdv) (A := A) (outer := outer) (s := s) (H := H) (E := E)
    exact ds_one (ds_ret (de_ix (v_ 1) (f_ [true, false] c__law_draw hr tk (da_cons (v_ 0) (da_cons (b_len B (da_cons (v_ 1) (da_nil))) (da_nil))))))
theorem ok__law_pick {P : Program} {w : World} {K : PySem.W.Frag} {mg : Str → Option Value} {base : Heap} {f : Addr} {fd : FuncData} (B : Bt mg) (c__law_draw : Callee P w K mg base "_law_draw" 1 f__law_draw) (F : Fun K "_law_pick" "_law_pick" s__law_pick f fd) (hm : mg "_law_pick" = some (.ref f)) : Callee P w K mg base "_law_pick" 2 f__law_pick :=
  Callee.mk' F hm (fn__law_pick B c__law_draw F hm) (F.binds (ps := ["pot", "rows"]) fun _ _ _ _ _ _ us hl => match us, hl with | [_, _], _ => rfl)
abbrev s__law_same : Stmt := topS 101
theorem sc__law_same : FnScope n__law_same ["got", "due"] (defScope s__law_same) := ⟨rfl, rfl, rfl, by decide +kernel, rfl, by decide +kernel, by decide +kernel⟩
theorem ok__law_same {P : Program} {w : World} {K : PySem.W.Frag} {mg : Str → Option Value} {base : Heap} {f : Addr} {fd : FuncData} (B : Bt mg) (F : Fun K "_law_same" "_law_same" s__law_same f fd) (hm : mg "_law_same" = some (.ref f)) : ∀ n : Nat, Callee P w K mg base "_law_same" (1 + n) (f__law_same n)
  | 0 => (Callee.mk' F hm (mkFn (k := 0) (b := bNo) F sc__law_same fun _ _ _ _ _ _ _ _ _ => dss_no) (F.binds (ps := ["got", "due"]) fun _ _ _ _ _ _ us hl => match us, hl with | [_, _], _ => rfl)).mono (by omega) |>.imp fun _ => .inl rfl
  | n + 1 => by
    have c__law_same := ok__law_same (P := P) (w := w) (base := base) B F hm n
    exact Callee.mk' F hm (mkFn F sc__law_same fun cdv A outer s H E g hg hr => by
      have nd := sc__law_same.nd
      have tk := takesF (P := P) (w := w) (K := K) (mg := mg) (base := base) (N := n__law_same) (qual := "_law_same") (sc := defScope s__law_same) (f := f) (cdv := cdv) (A := A) (outer := outer) (s := s) (H := H) (E := E)
      exact ds_cons (ds_if (dt_w (dw_or (t_v (b_isTuple B (v_ 1))) (dw_or1 (t_v (b_isList B (v_ 1)))))) (ds_cons (ds_if (dt_w (dw_or (t_ne hr (b_isTuple B (v_ 1)) (b_isTuple B (v_ 0))) (dw_or1 (t_ne hr (b_isList B (v_ 1)) (b_isList B (v_ 0)))))) (ds_one (ds_ret (de_bl))) (ds_nil)) (ds_one (ds_ret (de_and (c_eq hr (b_len B (da_cons (v_ 0) (da_nil))) (b_len B (da_cons (v_ 1) (da_nil)))) (de_one (b_all rfl B (da_cons (DO.fz (do_comp rfl nd (own := [("k", 2)]) (di_range1 rfl B.range (da_cons (b_len B (da_cons (v_ 1) (da_nil))) (da_nil))) (blkOk_by (N := n__law_same) (sc := defScope s__law_same) (own := [("k", 2)]) (by decide +kernel)) (by decide) (fun _ _ _ _ _ _ => gn_ 2 nd) (fun _ _ _ _ _ _ => dts_nil) (fun _ _ _ _ _ _ => f_ [false, false] c__law_same hr takes0 (da_cons (de_ix (v_ 0) (v_ 2)) (da_cons (de_ix (v_ 1) (v_ 2)) (da_nil)))))) (da_nil)))))))) (ds_nil)) (ds_cons (ds_if (t_is (v_ 1) (de_non)) (ds_one (ds_ret (c_is (v_ 0) (de_non)))) (ds_nil)) (ds_cons (ds_if (t_v (b_isBool B (v_ 1))) (ds_one (ds_ret (de_and (b_isBool B (v_ 0)) (de_one (c_eq hr (v_ 0) (v_ 1)))))) (ds_nil)) (ds_cons (ds_if (dt_w (dw_or (t_v (b_isBool B (v_ 0))) (dw_or (t_ne hr (b_isInt B (v_ 0)) (b_isInt B (v_ 1))) (dw_or1 (t_ne hr (b_isStr B (v_ 0)) (b_isStr B (v_ 1))))))) (ds_one (ds_ret (de_bl))) (ds_nil)) (ds_one (ds_ret (c_eq hr (v_ 0) (v_ 1)))))))) (F.binds (ps := ["got", "due"]) fun _ _ _ _ _ _ us hl => match us, hl with | [_, _], _ => rfl)
abbrev s__law_turns : Stmt := topS 102
theorem sc__law_turns : FnScope n__law_turns ["script", "first", "least", "most"] (defScope s__law_turns) := ⟨rfl, rfl, rfl, by decide +kernel, rfl, by decide +kernel, by decide +kernel⟩
theorem fn__law_turns {P : Program} {w : World} {K : PySem.W.Frag} {mg : Str → Option Value} {base : Heap} {f : Addr} {fd : FuncData} (B : Bt mg) (F : Fun K "_law_turns" "_law_turns" s__law_turns f fd) (hm : mg "_law_turns" = some (.ref f)) : FnOk P w K mg base (L2.CX P w) 1 f fd ["script", "first", "least", "most"] (spF K mg f__law_turns) :=
  mkFn F sc__law_turns fun cdv A outer s H E g hg hr => by
    have nd := sc__law_turns.nd
    have tk := takesF (P := P) (w := w) (K := K) (mg := mg) (base := base) (N := n__law_turns) (qual := "_law_turns") (sc := defScope s__law_turns) (f := f) (cdv := cdv) (A := A) (outer := outer) (s := s) (H := H) (E := E)
    exact ds_one (ds_ret (DO.fz (do_listRg2 rfl B (v_ 1) (e_add (v_ 1) (b_max rfl B (da_cons (v_ 2) (da_cons (b_min rfl B (da_cons (e_sub (b_len B (da_cons (v_ 0) (da_nil))) (v_ 1)) (da_cons (v_ 3) (da_nil)))) (da_nil))))))))
theorem ok__law_turns {P : Program} {w : World} {K : PySem.W.Frag} {mg : Str → Option Value} {base : Heap} {f : Addr} {fd : FuncData} (B : Bt mg) (F : Fun K "_law_turns" "_law_turns" s__law_turns f fd) (hm : mg "_law_turns" = some (.ref f)) : Callee P w K mg base "_law_turns" 1 f__law_turns :=
  Callee.mk' F hm (fn__law_turns B F hm) (F.binds (ps := ["script", "first", "least", "most"]) fun _ _ _ _ _ _ us hl => match us, hl with | [_, _, _, _], _ => rfl)
abbrev s__law_is_integer : Stmt := topS 103
theorem sc__law_is_integer : FnScope n__law_is_integer ["value"] (defScope s__law_is_integer) := ⟨rfl, rfl, rfl, by decide +kernel, rfl, by decide +kernel, by decide +kernel⟩
theorem fn__law_is_integer {P : Program} {w : World} {K : PySem.W.Frag} {mg : Str → Option Value} {base : Heap} {f : Addr} {fd : FuncData} (B : Bt mg) (F : Fun K "_law_is_integer" "_law_is_integer" s__law_is_integer f fd) (hm : mg "_law_is_integer" = some (.ref f)) : FnOk P w K mg base (L2.CX P w) 1 f fd ["value"] (spF K mg f__law_is_integer) :=
  mkFn F sc__law_is_integer fun cdv A outer s H E g hg hr => by
    have nd := sc__law_is_integer.nd
    have tk := takesF (P := P) (w := w) (K := K) (mg := mg) (base := base) (N := n__law_is_integer) (qual := "_law_is_integer") (sc := defScope s__law_is_integer) (f := f) (cdv := cdv) (A := A) (outer := outer) (s := s) (H := H) (E := E)
    exact ds_one (ds_ret (de_and (b_isInt B (v_ 0)) (de_one (de_not (b_isBool B (v_ 0))))))
theorem ok__law_is_integer {P : Program} {w : World} {K : PySem.W.Frag} {mg : Str → Option Value} {base : Heap} {f : Addr} {fd : FuncData} (B : Bt mg) (F : Fun K "_law_is_integer" "_law_is_integer" s__law_is_integer f fd) (hm : mg "_law_is_integer" = some (.ref f)) : Callee P w K mg base "_law_is_integer" 1 f__law_is_integer :=
  Callee.mk' F hm (fn__law_is_integer B F hm) (F.binds (ps := ["value"]) fun _ _ _ _ _ _ us hl => match us, hl with | [_], _ => rfl)
abbrev s__law_step_of : Stmt := topS 104
theorem sc__law_step_of : FnScope n__law_step_of ["pot", "many"] (defScope s__law_step_of) := ⟨rfl, rfl, rfl, by decide +kernel, rfl, by decide +kernel, by decide +kernel⟩
theorem fn__law_step_of {P : Program} {w : World} {K : PySem.W.Frag} {mg : Str → Option Value} {base : Heap} {f : Addr} {fd : FuncData} (B : Bt mg) (c__law_pick : Callee P w K mg base "_law_pick" 2 f__law_pick) (c__law_draw : Callee P w K mg base "_law_draw" 1 f__law_draw) (F : Fun K "_law_step_of" "_law_step_of" s__law_step_of f fd) (hm : mg "_law_step_of" = some (.ref f)) : FnOk P w K mg base (L2.CX P w) 3 f fd ["pot", "many"] (spF K mg f__law_step_of) :=
  mkFn F sc__law_step_of fun cdv A outer s H E g hg hr => by
    have nd := sc__law_step_of.nd
    have tk := takesF (P := P) (w := w) (K := K) (mg := mg) (base := base) (N := n__law_step_of) (qual := "_law_step_of") (sc := defScope s__law_step_of) (f := f) (cdv := cdv) (A := A) (outer := outer) (s := s) (H := H) (E := E)
    exact ds_cons (ds_parN rfl (dx_cons (f_ [true, false] c__law_draw hr tk (da_cons (v_ 0) (da_cons (de_int) (da_nil)))) (dx_cons (f_ [true, false] c__law_draw hr tk (da_cons (v_ 0) (da_cons (de_int) (da_nil)))) (dx_cons (f_ [true, false] c__law_draw hr tk (da_cons (v_ 0) (da_cons (de_int) (da_nil)))) (dx_cons (f_ [true, false] c__law_draw hr tk (da_cons (v_ 0) (da_cons (vf_ hg 1) (da_nil)))) (dx_nil))))) (dn_ 2 nd (dn_ 3 nd (dn_ 4 nd (dn_ 5 nd (dn_nil)))))) (ds_cons (set_ 6 nd (de_lst (da_cons (de_tup (da_cons (de_str) (da_cons (vf_ hg 2) (da_cons (vf_ hg 5) (da_nil))))) (da_cons (de_tup (da_cons (de_str) (da_cons (vf_ hg 2) (da_cons (vf_ hg 3) (da_nil))))) (da_cons (de_tup (da_cons (de_str) (da_cons (vf_ hg 2) (da_cons (vf_ hg 3) (da_cons (vf_ hg 4) (da_nil)))))) (da_cons (de_tup (da_cons (de_str) (da_cons (vf_ hg 2) (da_cons (vf_ hg 3) (da_nil))))) (da_cons (de_tup (da_cons (de_str) (da_cons (vf_ hg 2) (da_cons (vf_ hg 3) (da_nil))))) (da_cons (de_tup (da_cons (de_str) (da_cons (vf_ hg 2) (da_cons (vf_ hg 3) (da_cons (vf_ hg 4) (da_nil)))))) (da_cons (de_tup (da_cons (de_str) (da_cons (vf_ hg 5) (da_nil)))) (da_nil)))))))))) (ds_one (ds_ret (f_ [true, false] c__law_pick hr tk (da_cons (v_ 0) (da_cons (e_add (v_ 6) (de_lst (da_cons (de_tup (da_cons (de_str) (da_cons (vf_ hg 2) (da_cons (vf_ hg 5) (da_nil))))) (da_cons (de_tup (da_cons (de_str) (da_cons (vf_ hg 2) (da_nil)))) (da_cons (de_tup (da_cons (de_str) (da_cons (vf_ hg 2) (da_nil)))) (da_cons (de_tup (da_cons (de_str) (da_nil))) (da_cons (de_tup (da_cons (de_str) (da_cons (vf_ hg 2) (da_cons (e_neg (de_int)) (da_nil))))) (da_nil)))))))) (da_nil)))))))
theorem ok__law_step_of {P : Program} {w : World} {K : PySem.W.Frag} {mg : Str → Option Value} {base : Heap} {f : Addr} {fd : FuncData} (B : Bt mg) (c__law_pick : Callee P w K mg base "_law_pick" 2 f__law_pick) (c__law_draw : Callee P w K mg base "_law_draw" 1 f__law_draw) (F : Fun K "_law_step_of" "_law_step_of" s__law_step_of f fd) (hm : mg "_law_step_of" = some (.ref f)) : Callee P w K mg base "_law_step_of" 3 f__law_step_of :=
  Callee.mk' F hm (fn__law_step_of B c__law_pick c__law_draw F hm) (F.binds (ps := ["pot", "many"]) fun _ _ _ _ _ _ us hl => match us, hl with | [_, _], _ => rfl)
abbrev s__law_program : Stmt := topS 105
theorem sc__law_program : FnScope n__law_program ["pot"] (defScope s__law_program) := ⟨rfl, rfl, rfl, by decide +kernel, rfl, by decide +kernel, by decide +kernel⟩
theorem fn__law_program {P : Program} {w : World} {K : PySem.W.Frag} {mg : Str → Option Value} {base : Heap} {f : Addr} {fd : FuncData} (B : Bt mg) (c__law_draw : Callee P w K mg base "_law_draw" 1 f__law_draw) (c__law_step_of : Callee P w K mg base "_law_step_of" 3 f__law_step_of) (F : Fun K "_law_program" "_law_program" s__law_program f fd) (hm : mg "_law_program" = some (.ref f)) : FnOk P w K mg base (L2.CX P w) 4 f fd ["pot"] (spF K mg f__law_program) :=
  mkFn F sc__law_program fun cdv A outer s H E g hg hr => by
    have nd := sc__law_program.nd
    have tk := takesF (P := P) (w := w) (K := K) (mg := mg) (base := base) (N := n__law_program) (qual := "_law_program") (sc := defScope s__law_program) (f := f) (cdv := cdv) (A := A) (outer := outer) (s := s) (H := H) (E := E)
    exact ds_cons (set_ 1 nd (e_add (de_int) (f_ [true, false] c__law_draw hr tk (da_cons (v_ 0) (da_cons (de_int) (da_nil)))))) (ds_cons (set_ 2 nd (de_ix (de_lst (da_cons (de_tup (da_cons (de_str) (da_nil))) (da_cons (de_tup (da_cons (de_str) (da_cons (f_ [true, false] c__law_draw hr tk (da_cons (v_ 0) (da_cons (de_int) (da_nil)))) (da_nil)))) (da_cons (de_tup (da_cons (de_str) (da_cons (f_ [true, false] c__law_draw hr tk (da_cons (v_ 0) (da_cons (vf_ hg 1) (da_nil)))) (da_nil)))) (da_nil))))) (f_ [true, false] c__law_draw hr tk (da_cons (v_ 0) (da_cons (de_int) (da_nil)))))) (ds_one (ds_ret (b_tuple B (da_cons (e_add (DO.fz (do_comp rfl nd (own := [("k", 3)]) (di_range1 rfl B.range (da_cons (e_sub (v_ 1) (de_int)) (da_nil))) (blkOk_by (N := n__law_program) (sc := defScope s__law_program) (own := [("k", 3)]) (by decide +kernel)) (by decide) (fun _ _ _ _ _ _ => gn_ 3 nd) (fun _ _ _ _ _ _ => dts_nil) (fun _ _ _ _ _ _ => f_ [true, false] c__law_step_of hr takes0 (da_cons (v_ 0) (da_cons (v_ 1) (da_nil)))))) (de_lst (da_cons (vf_ hg 2) (da_nil)))) (da_nil))))))
theorem ok__law_program {P : Program} {w : World} {K : PySem.W.Frag} {mg : Str → Option Value} {base : Heap} {f : Addr} {fd : FuncData} (B : Bt mg) (c__law_draw : Callee P w K mg base "_law_draw" 1 f__law_draw) (c__law_step_of : Callee P w K mg base "_law_step_of" 3 f__law_step_of) (F : Fun K "_law_program" "_law_program" s__law_program f fd) (hm : mg "_law_program" = some (.ref f)) : Callee P w K mg base "_law_program" 4 f__law_program :=
  Callee.mk' F hm (fn__law_program B c__law_draw c__law_step_of F hm) (F.binds (ps := ["pot"]) fun _ _ _ _ _ _ us hl => match us, hl with | [_], _ => rfl)
abbrev s__law_stands : Stmt := topS 106
theorem sc__law_stands : FnScope n__law_stands ["many", "step_v"] (defScope s__law_stands) := ⟨rfl, rfl, rfl, by decide +kernel, rfl, by decide +kernel, by decide +kernel⟩
theorem fn__law_stands {P : Program} {w : World} {K : PySem.W.Frag} {mg : Str → Option Value} {base : Heap} {f : Addr} {fd : FuncData} (B : Bt mg) (c__law_is_integer : Callee P w K mg base "_law_is_integer" 1 f__law_is_integer) (F : Fun K "_law_stands" "_law_stands" s__law_stands f fd) (hm : mg "_law_stands" = some (.ref f)) : FnOk P w K mg base (L2.CX P w) 2 f fd ["many", "step_v"] (spF K mg f__law_stands) :=
  mkFn F sc__law_stands fun cdv A outer s H E g hg hr => by
    have nd := sc__law_stands.nd
    have tk := takesF (P := P) (w := w) (K := K) (mg := mg) (base := base) (N := n__law_stands) (qual := "_law_stands") (sc := defScope s__law_stands) (f := f) (cdv := cdv) (A := A) (outer := outer) (s := s) (H := H) (E := E)
    exact ds_cons (setO_ 2 nd (do_disp (.cons (k := .inr "const") pe_str (fun _ => de_str) (.cons (k := .inr "move") pe_str (fun _ => de_str) (.cons (k := .inr "add") pe_str (fun _ => de_str) (.cons (k := .inr "load") pe_str (fun _ => de_str) (.cons (k := .inr "store") pe_str (fun _ => de_str) (.cons (k := .inr "swap") pe_str (fun _ => de_str) (.cons (k := .inr "jump") pe_str (fun _ => de_str) (.cons (k := .inr "zero") pe_str (fun _ => de_str) (.nil))))))))))) (ds_cons (ds_asg (de_tup (da_cons (de_str) (da_cons (de_str) (da_cons (de_str) (da_nil))))) (dh_tup rfl (dhs_cons (dh_dsub hr (v_ 2) (de_str)) (dhs_cons (dh_dsub hr (v_ 2) (de_str)) (dhs_cons (dh_dsub hr (v_ 2) (de_str)) (dhs_nil)))))) (ds_cons (ds_if (dt_w (dw_or (dt_not (t_v (b_isTuple B (v_ 1)))) (dw_or (t_eq hr (v_ 1) (de_tup (da_nil))) (dw_or (dt_not (t_v (b_isStr B (de_ix (v_ 1) (de_int))))) (dw_or1 (t_dnin hr (de_ix (v_ 1) (de_int)) (v_ 2))))))) (ds_one (ds_ret (de_bl))) (ds_nil)) (ds_cons (set_ 3 nd (de_dix hr (v_ 2) (de_ix (v_ 1) (de_int)))) (ds_cons (ds_if (dt_w (dw_or (t_ne hr (b_len B (da_cons (v_ 1) (da_nil))) (e_add (b_len B (da_cons (v_ 3) (da_nil))) (de_int))) (dw_or1 (dt_not (t_v (b_all rfl B (da_cons (DO.fz (do_comp rfl nd (own := [("part", 5)]) (di_all (de_sl (v_ 1) (dp_is (de_int)) (dp_no))) (blkOk_by (N := n__law_stands) (sc := defScope s__law_stands) (own := [("part", 5)]) (by decide +kernel)) (by decide) (fun _ _ _ _ _ _ => gn_ 5 nd) (fun _ _ _ _ _ _ => dts_nil) (fun _ _ _ _ _ _ => f_ [false] c__law_is_integer hr takes0 (da_cons (v_ 5) (da_nil))))) (da_nil)))))))) (ds_one (ds_ret (de_bl))) (ds_nil)) (ds_cons (ds_for (passes_of rfl) rfl (di_range1 rfl B.range (da_cons (b_len B (da_cons (v_ 3) (da_nil))) (da_nil))) (gn_ 4 nd) (ds_one (ds_if (dt_w (dw_or (dt_w (dw_and (t_eq hr (de_ix (v_ 3) (v_ 4)) (de_str)) (dw_and1 (dt_not (t_lelt (de_int) (de_ix (v_ 1) (e_add (v_ 4) (de_int))) (de_int)))))) (dw_or1 (dt_w (dw_and (t_eq hr (de_ix (v_ 3) (v_ 4)) (de_str)) (dw_and1 (dt_not (t_lelt (de_int) (de_ix (v_ 1) (e_add (v_ 4) (de_int))) (v_ 0))))))))) (ds_one (ds_ret (de_bl))) (ds_nil)))) (ds_one (ds_ret (de_bl))))))))
theorem ok__law_stands {P : Program} {w : World} {K : PySem.W.Frag} {mg : Str → Option Value} {base : Heap} {f : Addr} {fd : FuncData} (B : Bt mg) (c__law_is_integer : Callee P w K mg base "_law_is_integer" 1 f__law_is_integer) (F : Fun K "_law_stands" "_law_stands" s__law_stands f fd) (hm : mg "_law_stands" = some (.ref f)) : Callee P w K mg base "_law_stands" 2 f__law_stands :=
  Callee.mk' F hm (fn__law_stands B c__law_is_integer F hm) (F.binds (ps := ["many", "step_v"]) fun _ _ _ _ _ _ us hl => match us, hl with | [_, _], _ => rfl)
abbrev s__law_fault : Stmt := topS 107
theorem sc__law_fault : FnScope n__law_fault ["value"] (defScope s__law_fault) := ⟨rfl, rfl, rfl, by decide +kernel, rfl, by decide +kernel, by decide +kernel⟩
theorem fn__law_fault {P : Program} {w : World} {K : PySem.W.Frag} {mg : Str → Option Value} {base : Heap} {f : Addr} {fd : FuncData} (B : Bt mg) (c__law_stands : Callee P w K mg base "_law_stands" 2 f__law_stands) (F : Fun K "_law_fault" "_law_fault" s__law_fault f fd) (hm : mg "_law_fault" = some (.ref f)) : FnOk P w K mg base (L2.CX P w) 3 f fd ["value"] (spF K mg f__law_fault) :=
  mkFn F sc__law_fault fun cdv A outer s H E g hg hr => by
    have nd := sc__law_fault.nd
    have tk := takesF (P := P) (w := w) (K := K) (mg := mg) (base := base) (N := n__law_fault) (qual := "_law_fault") (sc := defScope s__law_fault) (f := f) (cdv := cdv) (A := A) (outer := outer) (s := s) (H := H) (E := E)
    exact ds_cons (ds_if (dt_w (dw_or (dt_not (t_v (b_isTuple B (v_ 0)))) (dw_or1 (t_eq hr (v_ 0) (de_tup (da_nil)))))) (ds_one (ds_ret (e_neg (de_int)))) (ds_nil)) (ds_cons (ds_for (passes_of rfl) rfl (di_range1 rfl B.range (da_cons (b_len B (da_cons (v_ 0) (da_nil))) (da_nil))) (gn_ 1 nd) (ds_one (ds_if (dt_w (dw_or (dt_not (t_v (f_ [false, false] c__law_stands hr tk (da_cons (b_len B (da_cons (v_ 0) (da_nil))) (da_cons (de_ix (v_ 0) (v_ 1)) (da_nil)))))) (dw_or1 (dt_w (dw_and (t_eq hr (v_ 1) (e_sub (b_len B (da_cons (v_ 0) (da_nil))) (de_int))) (dw_and1 (t_nin hr (de_ix (de_ix (v_ 0) (v_ 1)) (de_int)) (de_tup (da_cons (de_str) (da_cons (de_str) (da_cons (de_str) (da_nil)))))))))))) (ds_one (ds_ret (vf_ hg 1))) (ds_nil)))) (ds_one (ds_ret (de_non))))
theorem ok__law_fault {P : Program} {w : World} {K : PySem.W.Frag} {mg : Str → Option Value} {base : Heap} {f : Addr} {fd : FuncData} (B : Bt mg) (c__law_stands : Callee P w K mg base "_law_stands" 2 f__law_stands) (F : Fun K "_law_fault" "_law_fault" s__law_fault f fd) (hm : mg "_law_fault" = some (.ref f)) : Callee P w K mg base "_law_fault" 3 f__law_fault :=
  Callee.mk' F hm (fn__law_fault B c__law_stands F hm) (F.binds (ps := ["value"]) fun _ _ _ _ _ _ us hl => match us, hl with | [_], _ => rfl)
abbrev s__law_bent : Stmt := topS 108
theorem sc__law_bent : FnScope n__law_bent ["pot", "program"] (defScope s__law_bent) := ⟨rfl, rfl, rfl, by decide +kernel, rfl, by decide +kernel, by decide +kernel⟩
theorem fn__law_bent {P : Program} {w : World} {K : PySem.W.Frag} {mg : Str → Option Value} {base : Heap} {f : Addr} {fd : FuncData} (B : Bt mg) (c__law_draw : Callee P w K mg base "_law_draw" 1 f__law_draw) (c__law_pick : Callee P w K mg base "_law_pick" 2 f__law_pick) (F : Fun K "_law_bent" "_law_bent" s__law_bent f fd) (hm : mg "_law_bent" = some (.ref f)) : FnOk P w K mg base (L2.CX P w) 3 f fd ["pot", "program"] (spF K mg f__law_bent) :=
  mkFn F sc__law_bent fun cdv A outer s H E g hg hr => by
    have nd := sc__law_bent.nd
    have tk := takesF (P := P) (w := w) (K := K) (mg := mg) (base := base) (N := n__law_bent) (qual := "_law_bent") (sc := defScope s__law_bent) (f := f) (cdv := cdv) (A := A) (outer := outer) (s := s) (H := H) (E := E)
    exact ds_cons (ds_par2 rfl nd rfl rfl (by decide) rfl rfl (dx_cons (f_ [true, false] c__law_draw hr tk (da_cons (v_ 0) (da_cons (b_len B (da_cons (v_ 1) (da_nil))) (da_nil)))) (dx_cons (f_ [true, false] c__law_draw hr tk (da_cons (v_ 0) (da_cons (de_int) (da_nil)))) (dx_nil)))) (ds_cons (set_ 4 nd (de_lst (da_cons (de_tup (da_cons (de_str) (da_cons (b_len B (da_cons (v_ 1) (da_nil))) (da_nil)))) (da_cons (de_tup (da_cons (de_str) (da_cons (de_int) (da_cons (e_neg (de_int)) (da_nil))))) (da_cons (de_tup (da_cons (de_str) (da_cons (de_int) (da_cons (e_add (b_len B (da_cons (v_ 1) (da_nil))) (de_int)) (da_nil))))) (da_cons (de_tup (da_cons (de_str) (da_cons (de_int) (da_cons (de_int) (da_nil))))) (da_cons (de_tup (da_cons (de_str) (da_cons (de_int) (da_cons (e_neg (de_int)) (da_nil))))) (da_cons (de_tup (da_cons (de_str) (da_cons (de_int) (da_cons (de_non) (da_nil))))) (da_cons (de_tup (da_cons (de_str) (da_cons (de_int) (da_nil)))) (da_nil)))))))))) (ds_cons (set_ 4 nd (e_add (v_ 4) (de_lst (da_cons (de_tup (da_cons (de_str) (da_cons (de_int) (da_cons (de_int) (da_nil))))) (da_cons (de_tup (da_cons (de_str) (da_cons (de_int) (da_nil)))) (da_cons (de_tup (da_cons (de_str) (da_nil))) (da_cons (de_tup (da_cons (de_str) (da_cons (de_bl) (da_nil)))) (da_cons (de_lst (da_cons (de_str) (da_nil))) (da_cons (de_str) (da_cons (de_non) (da_cons (de_tup (da_nil)) (da_cons (de_tup (da_cons (de_str) (da_nil))) (da_cons (de_tup (da_cons (de_str) (da_cons (de_str) (da_nil)))) (da_cons (de_int) (da_nil))))))))))))))) (ds_cons (ds_if (t_eq hr (v_ 3) (de_int)) (ds_one (ds_ret (e_add (de_sl (v_ 1) (dp_no) (dp_is (v_ 2))) (de_sl (v_ 1) (dp_is (e_add (v_ 2) (de_int))) (dp_no))))) (ds_nil)) (ds_cons (ds_if (t_eq hr (v_ 3) (de_int)) (ds_one (ds_ret (f_ [true, false] c__law_pick hr tk (da_cons (v_ 0) (da_cons (de_lst (da_cons (b_list B (da_cons (v_ 1) (da_nil))) (da_cons (de_non) (da_cons (de_tup (da_nil)) (da_cons (de_int) (da_cons (de_str) (da_cons (de_revT (v_ 1)) (da_cons (e_add (v_ 1) (de_tup (da_cons (de_tup (da_cons (de_str) (da_cons (de_int) (da_cons (de_int) (da_nil))))) (da_nil)))) (da_nil))))))))) (da_nil)))))) (ds_nil)) (ds_one (ds_ret (e_add (e_add (de_sl (v_ 1) (dp_no) (dp_is (v_ 2))) (de_tup (da_cons (f_ [true, false] c__law_pick hr tk (da_cons (v_ 0) (da_cons (vf_ hg 4) (da_nil)))) (da_nil)))) (de_sl (v_ 1) (dp_is (e_add (v_ 2) (b_int B (da_cons (c_lt (v_ 3) (de_int)) (da_nil))))) (dp_no)))))))))
theorem ok__law_bent {P : Program} {w : World} {K : PySem.W.Frag} {mg : Str → Option Value} {base : Heap} {f : Addr} {fd : FuncData} (B : Bt mg) (c__law_draw : Callee P w K mg base "_law_draw" 1 f__law_draw) (c__law_pick : Callee P w K mg base "_law_pick" 2 f__law_pick) (F : Fun K "_law_bent" "_law_bent" s__law_bent f fd) (hm : mg "_law_bent" = some (.ref f)) : Callee P w K mg base "_law_bent" 3 f__law_bent :=
  Callee.mk' F hm (fn__law_bent B c__law_draw c__law_pick F hm) (F.binds (ps := ["pot", "program"]) fun _ _ _ _ _ _ us hl => match us, hl with | [_, _], _ => rfl)
abbrev s__law_refused : Stmt := topS 109
theorem sc__law_refused : FnScope n__law_refused ["which", "value"] (defScope s__law_refused) := ⟨rfl, rfl, rfl, by decide +kernel, rfl, by decide +kernel, by decide +kernel⟩
theorem fn__law_refused {P : Program} {w : World} {K : PySem.W.Frag} {mg : Str → Option Value} {base : Heap} {f : Addr} {fd : FuncData} (B : Bt mg) (c_schedule_run : Callee P w K mg base "schedule_run" 10 f_schedule_run) (c_histories : Callee P w K mg base "histories" 10 f_histories) (c_bad_schedule : Callee P w K mg base "bad_schedule" 10 f_bad_schedule) {C_InvalidProgram : Addr} (q_InvalidProgram : FldE P K mg "InvalidProgram" "index" C_InvalidProgram) (F : Fun K "_law_refused" "_law_refused" s__law_refused f fd) (hm : mg "_law_refused" = some (.ref f)) : FnOk P w K mg base (L2.CX P w) 11 f fd ["which", "value"] (spF K mg f__law_refused) :=
  mkFn F sc__law_refused fun cdv A outer s H E g hg hr => by
    have nd := sc__law_refused.nd
    have tk := takesF (P := P) (w := w) (K := K) (mg := mg) (base := base) (N := n__law_refused) (qual := "_law_refused") (sc := defScope s__law_refused) (f := f) (cdv := cdv) (A := A) (outer := outer) (s := s) (H := H) (E := E)
    exact ds_cons (ds_tryF hg rfl rfl nd (i := 3) rfl rfl (q_InvalidProgram).m (q_InvalidProgram).exm rfl (by decide) tk (fun W pn xe tk hp => ds_cons (ds_if (t_eq hr (v_ 0) (de_int)) (ds_one (ds_expr (f_ [false, false, false] c_schedule_run hr tk (da_cons (vf_ hg 1) (da_cons (de_tup (da_nil)) (da_cons (de_tup (da_nil)) (da_nil))))))) (ds_one (ds_if (t_eq hr (v_ 0) (de_int)) (ds_one (ds_expr (f_ [false, false, false] c_histories hr tk (da_cons (vf_ hg 1) (da_cons (de_tup (da_nil)) (da_cons (de_int) (da_nil))))))) (ds_one (ds_expr (f_ [false, false, false, false] c_bad_schedule hr tk (da_cons (vf_ hg 1) (da_cons (de_tup (da_nil)) (da_cons (de_str) (da_cons (de_int) (da_nil))))))))))) (ds_one (set_ 2 nd (de_non)))) (fun a oe pn g' dx fs hm hz hf hfo => ds_one (set_ 2 nd (de_fld hm q_InvalidProgram hz hf hfo rfl (.inl rfl))))) (ds_one (ds_ret (vf_ hg 2)))
theorem ok__law_refused {P : Program} {w : World} {K : PySem.W.Frag} {mg : Str → Option Value} {base : Heap} {f : Addr} {fd : FuncData} (B : Bt mg) (c_schedule_run : Callee P w K mg base "schedule_run" 10 f_schedule_run) (c_histories : Callee P w K mg base "histories" 10 f_histories) (c_bad_schedule : Callee P w K mg base "bad_schedule" 10 f_bad_schedule) {C_InvalidProgram : Addr} (q_InvalidProgram : FldE P K mg "InvalidProgram" "index" C_InvalidProgram) (F : Fun K "_law_refused" "_law_refused" s__law_refused f fd) (hm : mg "_law_refused" = some (.ref f)) : Callee P w K mg base "_law_refused" 11 f__law_refused :=
  Callee.mk' F hm (fn__law_refused B c_schedule_run c_histories c_bad_schedule q_InvalidProgram F hm) (F.binds (ps := ["which", "value"]) fun _ _ _ _ _ _ us hl => match us, hl with | [_, _], _ => rfl)
abbrev s__law_row : Stmt := topS 110
theorem sc__law_row : FnScope n__law_row ["row"] (defScope s__law_row) := ⟨rfl, rfl, rfl, by decide +kernel, rfl, by decide +kernel, by decide +kernel⟩
theorem fn__law_row {P : Program} {w : World} {K : PySem.W.Frag} {mg : Str → Option Value} {base : Heap} {f : Addr} {fd : FuncData} (B : Bt mg) (c__law_fault : Callee P w K mg base "_law_fault" 3 f__law_fault) (F : Fun K "_law_row" "_law_row" s__law_row f fd) (hm : mg "_law_row" = some (.ref f)) : FnOk P w K mg base (L2.CX P w) 4 f fd ["row"] (spF K mg f__law_row) :=
  mkFn F sc__law_row fun cdv A outer s H E g hg hr => by
    have nd := sc__law_row.nd
    have tk := takesF (P := P) (w := w) (K := K) (mg := mg) (base := base) (N := n__law_row) (qual := "_law_row") (sc := defScope s__law_row) (f := f) (cdv := cdv) (A := A) (outer := outer) (s := s) (H := H) (E := E)
    exact ds_cons (ds_if (dt_w (dw_or (dt_not (t_v (b_isTuple B (v_ 0)))) (dw_or (t_ne hr (b_len B (da_cons (v_ 0) (da_nil))) (de_int)) (dw_or1 (t_isn (f_ [false] c__law_fault hr tk (da_cons (de_ix (v_ 0) (de_int)) (da_nil))) (de_non)))))) (ds_one (ds_ret (de_bl))) (ds_nil)) (ds_one (ds_ret (de_and (c_lele (de_int) (b_len B (da_cons (de_ix (v_ 0) (de_int)) (da_nil))) (de_int)) (de_one (b_all rfl B (da_cons (DO.fz (do_comp rfl nd (own := [("sign", 1)]) (di_all (de_ix (v_ 0) (de_int))) (blkOk_by (N := n__law_row) (sc := defScope s__law_row) (own := [("sign", 1)]) (by decide +kernel)) (by decide) (fun _ _ _ _ _ _ => gn_ 1 nd) (fun _ _ _ _ _ _ => dts_nil) (fun _ _ _ _ _ _ => c_in hr (v_ 1) (de_str)))) (da_nil)))))))
theorem ok__law_row {P : Program} {w : World} {K : PySem.W.Frag} {mg : Str → Option Value} {base : Heap} {f : Addr} {fd : FuncData} (B : Bt mg) (c__law_fault : Callee P w K mg base "_law_fault" 3 f__law_fault) (F : Fun K "_law_row" "_law_row" s__law_row f fd) (hm : mg "_law_row" = some (.ref f)) : Callee P w K mg base "_law_row" 4 f__law_row :=
  Callee.mk' F hm (fn__law_row B c__law_fault F hm) (F.binds (ps := ["row"]) fun _ _ _ _ _ _ us hl => match us, hl with | [_], _ => rfl)
abbrev s__law_first_bad : Stmt := topS 111
theorem sc__law_first_bad : FnScope n__law_first_bad ["rows"] (defScope s__law_first_bad) := ⟨rfl, rfl, rfl, by decide +kernel, rfl, by decide +kernel, by decide +kernel⟩
theorem fn__law_first_bad {P : Program} {w : World} {K : PySem.W.Frag} {mg : Str → Option Value} {base : Heap} {f : Addr} {fd : FuncData} (B : Bt mg) (c__law_row : Callee P w K mg base "_law_row" 4 f__law_row) (F : Fun K "_law_first_bad" "_law_first_bad" s__law_first_bad f fd) (hm : mg "_law_first_bad" = some (.ref f)) : FnOk P w K mg base (L2.CX P w) 5 f fd ["rows"] (spF K mg f__law_first_bad) :=
  mkFn F sc__law_first_bad fun cdv A outer s H E g hg hr => by
    have nd := sc__law_first_bad.nd
    have tk := takesF (P := P) (w := w) (K := K) (mg := mg) (base := base) (N := n__law_first_bad) (qual := "_law_first_bad") (sc := defScope s__law_first_bad) (f := f) (cdv := cdv) (A := A) (outer := outer) (s := s) (H := H) (E := E)
    exact ds_cons (ds_if (dt_not (t_v (b_isTuple B (v_ 0)))) (ds_one (ds_ret (e_neg (de_int)))) (ds_nil)) (ds_cons (ds_for (passes_of rfl) rfl (di_range1 rfl B.range (da_cons (b_len B (da_cons (v_ 0) (da_nil))) (da_nil))) (gn_ 1 nd) (ds_one (ds_if (dt_w (dw_or (dt_not (t_v (f_ [false] c__law_row hr tk (da_cons (de_ix (v_ 0) (v_ 1)) (da_nil))))) (dw_or1 (dt_w (dw_and (t_gt (v_ 1) (de_int)) (dw_and1 (dt_not (t_ltS (de_ix (de_ix (v_ 0) (e_sub (v_ 1) (de_int))) (de_int)) (de_ix (de_ix (v_ 0) (v_ 1)) (de_int)))))))))) (ds_one (ds_ret (vf_ hg 1))) (ds_nil)))) (ds_one (ds_ret (de_non))))
theorem ok__law_first_bad {P : Program} {w : World} {K : PySem.W.Frag} {mg : Str → Option Value} {base : Heap} {f : Addr} {fd : FuncData} (B : Bt mg) (c__law_row : Callee P w K mg base "_law_row" 4 f__law_row) (F : Fun K "_law_first_bad" "_law_first_bad" s__law_first_bad f fd) (hm : mg "_law_first_bad" = some (.ref f)) : Callee P w K mg base "_law_first_bad" 5 f__law_first_bad :=
  Callee.mk' F hm (fn__law_first_bad B c__law_row F hm) (F.binds (ps := ["rows"]) fun _ _ _ _ _ _ us hl => match us, hl with | [_], _ => rfl)
abbrev s_law : Stmt := topS 112
theorem sc_law : FnScope n_law ["script"] (defScope s_law) := ⟨rfl, rfl, rfl, by decide +kernel, rfl, by decide +kernel, by decide +kernel⟩
theorem fn_law {P : Program} {w : World} {K : PySem.W.Frag} {mg : Str → Option Value} {base : Heap} {f : Addr} {fd : FuncData} (B : Bt mg) (c__law_turns : Callee P w K mg base "_law_turns" 1 f__law_turns) (c__law_pot : Callee P w K mg base "_law_pot" 1 f__law_pot) (c__law_program : Callee P w K mg base "_law_program" 4 f__law_program) (c_program_fault : Callee P w K mg base "program_fault" 6 f_program_fault) (c__law_bent : Callee P w K mg base "_law_bent" 3 f__law_bent) (c__law_pick : Callee P w K mg base "_law_pick" 2 f__law_pick) (c__law_first_bad : Callee P w K mg base "_law_first_bad" 5 f__law_first_bad) (c__law_same : Callee P w K mg base "_law_same" 13 (f__law_same 12)) (c__law_draw : Callee P w K mg base "_law_draw" 1 f__law_draw) (c__law_fault : Callee P w K mg base "_law_fault" 3 f__law_fault) (c_is_implementation : Callee P w K mg base "is_implementation" 9 f_is_implementation) (c__law_refused : Callee P w K mg base "_law_refused" 11 f__law_refused) (F : Fun K "law" "law" s_law f fd) (hm : mg "law" = some (.ref f)) : FnOk P w K mg base (L2.CX P w) 14 f fd ["script"] (spF K mg f_law) :=
  mkFn F sc_law fun cdv A outer s H E g hg hr => by
    have nd := sc_law.nd
    have tk := takesF (P := P) (w := w) (K := K) (mg := mg) (base := base) (N := n_law) (qual := "law") (sc := defScope s_law) (f := f) (cdv := cdv) (A := A) (outer := outer) (s := s) (H := H) (E := E)
    exact ds_cons (ds_for (passes_of rfl) rfl (di_all (f_ [false, false, false, false] c__law_turns hr tk (da_cons (vf_ hg 0) (da_cons (de_int) (da_cons (de_int) (da_cons (de_int) (da_nil))))))) (gn_ 1 nd) (ds_cons (setO_ 2 nd (fo_ [false, false] c__law_pot hr tk (da_cons (vf_ hg 0) (da_cons (vf_ hg 1) (da_nil))))) (ds_cons (set_ 3 nd (f_ [true] c__law_program hr tk (da_cons (v_ 2) (da_nil)))) (ds_cons (ds_if (t_isn (f_ [false] c_program_fault hr tk (da_cons (vf_ hg 3) (da_nil))) (de_non)) (ds_one (ds_ret (de_bl))) (ds_nil)) (ds_one (ds_for (passes_of rfl) rfl (di_range1 rfl B.range (da_cons (de_int) (da_nil))) (gn_ 4 nd) (ds_cons (set_ 5 nd (f_ [true, false] c__law_bent hr tk (da_cons (v_ 2) (da_cons (vf_ hg 3) (da_nil))))) (ds_cons (ds_if (dt_w (dw_and (t_eq hr (f_ [true, false] c__law_draw hr tk (da_cons (v_ 2) (da_cons (de_int) (da_nil)))) (de_int)) (dw_and (t_v (b_isTuple B (v_ 5))) (dw_and1 (t_ne hr (v_ 5) (de_tup (da_nil))))))) (ds_one (set_ 5 nd (f_ [true, false] c__law_bent hr tk (da_cons (v_ 2) (da_cons (vf_ hg 5) (da_nil)))))) (ds_nil)) (ds_cons (ds_if (dt_not (t_v (f_ [false, false] c__law_same hr tk (da_cons (f_ [false] c_program_fault hr tk (da_cons (vf_ hg 5) (da_nil))) (da_cons (f_ [false] c__law_fault hr tk (da_cons (vf_ hg 5) (da_nil))) (da_nil)))))) (ds_one (ds_ret (de_bl))) (ds_nil)) (ds_cons (set_ 6 nd (de_tup (da_cons (de_tup (da_cons (de_str) (da_cons (vf_ hg 3) (da_nil)))) (da_cons (de_tup (da_cons (de_str) (da_cons (vf_ hg 5) (da_nil)))) (da_cons (de_tup (da_cons (de_str) (da_cons (vf_ hg 3) (da_nil)))) (da_nil)))))) (ds_cons (set_ 7 nd (de_lst (da_cons (de_tup (da_cons (de_ix (v_ 6) (de_int)) (da_cons (de_tup (da_cons (de_str) (da_cons (vf_ hg 3) (da_nil)))) (da_nil)))) (da_cons (de_tup (da_cons (de_tup (da_cons (de_str) (da_cons (vf_ hg 3) (da_cons (de_int) (da_nil))))) (da_nil))) (da_cons (b_list B (da_cons (v_ 6) (da_nil))) (da_cons (de_non) (da_nil))))))) (ds_cons (set_ 8 nd (f_ [true, false] c__law_pick hr tk (da_cons (v_ 2) (da_cons (e_add (de_lst (da_cons (vf_ hg 6) (da_cons (de_sl (v_ 6) (dp_no) (dp_is (de_int))) (da_cons (de_sl (v_ 6) (dp_is (de_int)) (dp_no)) (da_cons (de_revT (v_ 6)) (da_cons (e_add (v_ 6) (de_sl (v_ 6) (dp_is (de_int)) (dp_no))) (da_nil))))))) (v_ 7)) (da_nil))))) (ds_cons (set_ 9 nd (f_ [false] c__law_first_bad hr tk (da_cons (vf_ hg 8) (da_nil)))) (ds_cons (ds_if (dt_not (t_v (f_ [false, false] c__law_same hr tk (da_cons (f_ [false] c_is_implementation hr tk (da_cons (vf_ hg 8) (da_nil))) (da_cons (c_is (v_ 9) (de_non)) (da_nil)))))) (ds_one (ds_ret (de_bl))) (ds_nil)) (ds_one (ds_if (dt_w (dw_and (t_isn (v_ 9) (de_non)) (dw_and1 (dt_not (t_v (f_ [false, false] c__law_same hr tk (da_cons (f_ [false, false] c__law_refused hr tk (da_cons (f_ [true, false] c__law_draw hr tk (da_cons (v_ 2) (da_cons (de_int) (da_nil)))) (da_cons (vf_ hg 8) (da_nil)))) (da_cons (vf_ hg 9) (da_nil))))))))) (ds_one (ds_ret (de_bl))) (ds_nil))))))))))))))))) (ds_one (ds_ret (de_bl)))
theorem ok_law {P : Program} {w : World} {K : PySem.W.Frag} {mg : Str → Option Value} {base : Heap} {f : Addr} {fd : FuncData} (B : Bt mg) (c__law_turns : Callee P w K mg base "_law_turns" 1 f__law_turns) (c__law_pot : Callee P w K mg base "_law_pot" 1 f__law_pot) (c__law_program : Callee P w K mg base "_law_program" 4 f__law_program) (c_program_fault : Callee P w K mg base "program_fault" 6 f_program_fault) (c__law_bent : Callee P w K mg base "_law_bent" 3 f__law_bent) (c__law_pick : Callee P w K mg base "_law_pick" 2 f__law_pick) (c__law_first_bad : Callee P w K mg base "_law_first_bad" 5 f__law_first_bad) (c__law_same : Callee P w K mg base "_law_same" 13 (f__law_same 12)) (c__law_draw : Callee P w K mg base "_law_draw" 1 f__law_draw) (c__law_fault : Callee P w K mg base "_law_fault" 3 f__law_fault) (c_is_implementation : Callee P w K mg base "is_implementation" 9 f_is_implementation) (c__law_refused : Callee P w K mg base "_law_refused" 11 f__law_refused) (F : Fun K "law" "law" s_law f fd) (hm : mg "law" = some (.ref f)) : Callee P w K mg base "law" 14 f_law :=
  Callee.mk' F hm (fn_law B c__law_turns c__law_pot c__law_program c_program_fault c__law_bent c__law_pick c__law_first_bad c__law_same c__law_draw c__law_fault c_is_implementation c__law_refused F hm) (F.binds (ps := ["script"]) fun _ _ _ _ _ _ us hl => match us, hl with | [_], _ => rfl)
end DL
/-! Dm3: loops and comprehensions, run. -/
namespace DL
open PySem PySem.Spec L2
open PyProof.Rows hiding St
section
variable {N : En → Prop} {R : En → Rr → Prop} {E : En → Ex → Prop} {P : En → Rv → Prop} {PD : En → D → Prop} {PI : En → List D → Prop} {PB : En → Bool → Prop} {en : En}
theorem OutP_forL {tg : Tg} {body : Bd} : ∀ (ds : List D) (I : Nat → En → Prop) (en : En), I 0 en → (∀ (i : Nat) (d : D) (en : En), ds[i]? = some d → I i en → OpP (tg d en) fun en1 => OutP (body en1) (I (i + 1)) R E) → (∀ en, I ds.length en → N en) → OutP (forL tg body ds en) N R E
  | [], I, en, h0, _, fin => fin en h0
  | d :: ds, I, en, h0, step, fin => by
    have h := step 0 d en rfl h0
    unfold forL
    cases q : tg d en with
    | none => rw [q] at h; exact h.elim
    | some en1 =>
      rw [q] at h
      dsimp only [OpP_some] at h ⊢
      have ih := fun en2 (h2 : I 1 en2) => OutP_forL (tg := tg) (body := body) ds (fun i => I (i + 1)) en2 h2 (fun i d' en' e hi => step (i + 1) d' en' (by simpa using e) hi) fin
      cases q2 : body en1 with
      | nx en2 => rw [q2] at h; exact ih en2 h
      | rt en2 r => rw [q2] at h; exact h
      | ex en2 x => rw [q2] at h; exact h
      | bk en2 => rw [q2] at h; exact h.elim
      | ct en2 => rw [q2] at h; exact h.elim
      | no => rw [q2] at h; exact h.elim
@[simp] theorem OutP_for {it : Iv} {tg : Tg} {body : Bd} : OutP (bFor it tg body en) N R E = RsP (it en) (fun en1 ds => OutP (forL tg body ds en1) N R E) E := by unfold bFor; simp only [OutP_out]
def ItP (x : Rv) (sem : D → Option (List D)) (Q : List D → Prop) : Prop := match x with
  | .d d => OpP (sem d) Q
  | .s _ => False
@[simp] theorem ItP_d {d : D} {sem : D → Option (List D)} {Q : List D → Prop} : ItP (.d d) sem Q = OpP (sem d) Q := rfl
@[simp] theorem RsP_iOf {sem : D → Option (List D)} {f : Ev} : RsP (iOf sem f en) PI E = RsP (f en) (fun en1 x => ItP x sem fun ds => PI en1 ds) E := by
  unfold iOf
  simp only [RsP_bind]
  congr 1
  funext en1 x
  cases x with
  | s i => rfl
  | d d => dsimp only [ItP_d]; cases sem d <;> rfl
def rng (j : Int) : List D := (List.range j.toNat).map fun i => .int (0 + (i : Nat))
def rng2 (i j : Int) : List D := (List.range (j - i).toNat).map fun k => .int (i + (k : Nat))
def R1P (xs : List Rv) (Q : Int → Prop) : Prop := match xs with
  | [.d (.int j)] => small j = true ∧ Q j
  | _ => False
@[simp] theorem R1P_i {j : Int} {Q : Int → Prop} : R1P [.d (.int j)] Q = (small j = true ∧ Q j) := rfl
@[simp] theorem RsP_range1 {av : Av} : RsP (iRange1 av en) PI E = RsP (av en) (fun en1 xs => R1P xs fun j => PI en1 (rng j)) E := by
  unfold iRange1
  simp only [RsP_bind]
  congr 1
  funext en1 xs
  match xs with
  | [] => rfl
  | [.s _] => rfl
  | [.d d] =>
    cases d <;> first | rfl | skip
    rename_i j
    dsimp only [R1P_i]
    by_cases h : small j = true <;> simp [h, rng]
  | .d d :: _ :: _ => cases d <;> rfl
  | .s _ :: _ :: _ => rfl
def R2P (xs : List Rv) (Q : Int → Int → Prop) : Prop := match xs with
  | [.d (.int i), .d (.int j)] => (small i = true ∧ small j = true) ∧ Q i j
  | _ => False
@[simp] theorem R2P_i {i j : Int} {Q : Int → Int → Prop} : R2P [.d (.int i), .d (.int j)] Q = ((small i = true ∧ small j = true) ∧ Q i j) := rfl
theorem small_n {n : Nat} (h : n < 2 ^ 62) : small (n : Int) = true := by
  unfold small
  rw [Bool.and_eq_true, decide_eq_true_iff, decide_eq_true_iff]
  constructor <;> omega
theorem small_i {n : Int} (h0 : 0 ≤ n) (h : n < 2 ^ 62) : small n = true := by
  unfold small
  rw [Bool.and_eq_true, decide_eq_true_iff, decide_eq_true_iff]
  constructor <;> omega
/-! comprehensions -/
@[simp] theorem RsP_oComp {vs : List Nat} {it : Iv} {tg : Tg} {tt : Tv} {el : Ev} : RsP (oComp vs it tg tt el en) PD E = RsP (it en) (fun en1 ds => RsP (compL vs tg tt el ds en1 []) PD E) E := by unfold oComp; simp only [RsP_bind]
@[simp] theorem RsP_oComp2 {vs vs1 : List Nat} {it it1 : Iv} {tg tg1 : Tg} {tt tt1 : Tv} {el : Ev} : RsP (oComp2 vs vs1 it tg tt it1 tg1 tt1 el en) PD E = RsP (it en) (fun en1 ds => RsP (compL2 vs vs1 tg tt it1 tg1 tt1 el ds en1 []) PD E) E := by unfold oComp2; simp only [RsP_bind]
@[simp] theorem RsP_tYes : RsP (tYesD en) PB E = PB en true := rfl
/-- a comprehension whose parts change nothing -/
theorem compL_pure {vs : List Nat} {tg : Tg} {tt : Tv} {el : Ev} {en en0 : En} (f : D → Option D) (hw : wipeE en vs = some en0) : ∀ (ds : List D) (acc : List D), acc.length + ds.length ≤ sizeLine →
    (∀ d ∈ ds, OpP (tg d en0) fun en1 => unw en en1 = some en ∧ RsP (tt en1) (fun en2 k => en2 = en1 ∧ if k = true then RsP (el en1) (fun en3 r => en3 = en1 ∧ DP_ r fun y => f d = some y) (fun _ _ => False) else f d = none) fun _ _ => False) →
    compL vs tg tt el ds en acc = .ok en (.list (acc ++ ds.filterMap f))
  | [], acc, _, _ => by unfold compL; simp
  | d :: ds, acc, hl, h => by
    have h1 := h d List.mem_cons_self
    have ih := fun acc' (hl' : acc'.length + ds.length ≤ sizeLine) => compL_pure f hw ds acc' hl' fun d' hd => h d' (List.mem_cons_of_mem _ hd)
    unfold compL
    rw [hw]
    dsimp only
    cases q : tg d en0 with
    | none => rw [q] at h1; exact h1.elim
    | some en1 =>
      rw [q] at h1
      obtain ⟨hu, h1⟩ := h1
      dsimp only
      cases q2 : tt en1 with
      | no => rw [q2] at h1; exact h1.elim
      | ex en2 x => rw [q2] at h1; exact h1.elim
      | ok en2 k =>
        rw [q2] at h1
        obtain ⟨rfl, h1⟩ := h1
        cases k with
        | false =>
          dsimp only
          rw [hu]
          rw [if_neg Bool.false_ne_true] at h1
          dsimp only
          rw [ih acc (by simp at hl; omega), List.filterMap_cons_none h1]
        | true =>
          rw [if_pos rfl] at h1
          dsimp only
          cases q3 : el en2 with
          | no => rw [q3] at h1; exact h1.elim
          | ex en3 x => rw [q3] at h1; exact h1.elim
          | ok en3 r =>
            rw [q3] at h1
            obtain ⟨rfl, h1⟩ := h1
            cases r with
            | s i => exact h1.elim
            | d y =>
              dsimp only
              have h1 : f d = some y := h1
              rw [if_pos (by simp at hl; omega), hu]
              dsimp only
              rw [ih (acc ++ [y]) (by simp at hl ⊢; omega), List.filterMap_cons_some h1, List.append_assoc]
              rfl
theorem RsP_compL {vs : List Nat} {tg : Tg} {tt : Tv} {el : Ev} {en0 : En} {ds : List D} (f : D → Option D) (hw : wipeE en vs = some en0) (hl : ds.length ≤ sizeLine)
    (h : ∀ d ∈ ds, OpP (tg d en0) fun en1 => unw en en1 = some en ∧ RsP (tt en1) (fun en2 k => en2 = en1 ∧ if k = true then RsP (el en1) (fun en3 r => en3 = en1 ∧ DP_ r fun y => f d = some y) (fun _ _ => False) else f d = none) fun _ _ => False)
    (p : PD en (.list (ds.filterMap f))) : RsP (compL vs tg tt el ds en []) PD E := by
  rw [compL_pure f hw ds [] (by simpa using hl) h]
  simpa using p
end
end DL
/-! Dm2: the laws' own helpers: pot, draw. -/
namespace DL
open PySem PySem.Spec L2
open PyProof.Rows hiding St
def potD (c f t : Int) : D := .list [.int c, .int f, .int t]
def big : Int := 10 ^ 240
/-- a pot, n draws at most behind it -/
def Pot (n : Nat) (p : D) : Prop := ∃ c f t, p = potD c f t ∧ 0 ≤ c ∧ c < big ∧ 0 ≤ t ∧ t ≤ n
theorem big_lt : big.natAbs < 2 ^ 800 := by
  unfold big
  decide +kernel
theorem lt_add {x y : Int} {a : Nat} (hx : x.natAbs < 2 ^ a) (hy : y.natAbs < 2 ^ a) : (x + y).natAbs < 2 ^ (a + 1) := by
  have h := Int.natAbs_add_le x y
  rw [Nat.pow_succ]
  generalize 2 ^ a = z at hx hy ⊢
  omega
theorem lt_up {x : Int} {a b : Nat} (hx : x.natAbs < 2 ^ a) (h : a ≤ b) : x.natAbs < 2 ^ b := Nat.lt_of_lt_of_le hx (Nat.pow_le_pow_right (by decide) h)
theorem wide_of {i j : Int} {a b : Nat} (ha : i.natAbs < 2 ^ a) (hb : j.natAbs < 2 ^ b) (h0 : 0 < a) (h1 : 0 < b) (h : a + b ≤ 1000000) : wideB i j = true := by
  have z := wide_mul ha hb h0 h1 h
  unfold wideB
  exact decide_eq_true z
theorem nat_lt {i : Int} {a : Nat} (h0 : 0 ≤ i) (h : i < 2 ^ a) : i.natAbs < 2 ^ a := by
  have e : (i.natAbs : Int) = i := Int.natAbs_of_nonneg h0
  have : ((i.natAbs : Nat) : Int) < ((2 ^ a : Nat) : Int) := by
    rw [e]
    push_cast
    exact h
  exact Int.ofNat_lt.mp this
theorem big_of {c : Int} (h0 : 0 ≤ c) (h : c < big) : c.natAbs < 2 ^ 800 := Nat.lt_trans (by omega) big_lt
theorem draw_spec {n : Nat} {p : D} {m : Int} (hp : Pot n p) (hn : n ≤ 1000000) (hm : 0 < m) (hm2 : m < 2 ^ 62) :
    RfP (f__law_draw [.o p, .v (.int m)]) (fun r os => ∃ i p', r = .v (.int i) ∧ os = [p'] ∧ 0 ≤ i ∧ i < m ∧ Pot (n + 1) p') (fun _ _ => False) := by
  obtain ⟨c, f, t, rfl, hc, hc2, ht, ht2⟩ := hp
  have ht3 : t + 1 < 2 ^ 62 := by omega
  have w1 : wideB 977 (t + 1) = true := wide_of (a := 10) (b := 62) (by decide) (nat_lt (by omega) ht3) (by decide) (by decide) (by decide)
  have hc3 : c.natAbs < 2 ^ 800 := big_of hc hc2
  have w2 : wideB (c + 977 * (t + 1) + 1) 48271 = true := wide_of (a := 802) (b := 16) (lt_add (lt_add hc3 (lt_up (a := 72) (nat_lt (by omega) (by omega)) (by decide))) (lt_up (a := 1) (by decide) (by decide))) (by decide) (by decide) (by decide) (by decide)
  have w3 : wideB 40692 (t + 1) = true := wide_of (a := 16) (b := 62) (by decide) (nat_lt (by omega) ht3) (by decide) (by decide) (by decide)
  have w4 : ∀ x : Int, 0 ≤ x → x < 2147483647 → wideB x x = true := fun x h0 h => wide_of (a := 31) (b := 31) (nat_lt h0 (by omega)) (nat_lt h0 (by omega)) (by decide) (by decide) (by decide)
  have w5 : ∀ x : Int, 0 ≤ x → x < 2147483647 → wideB (x + 40692 * (t + 1)) 69621 = true := fun x h0 h => wide_of (a := 80) (b := 17) (nat_lt (by omega) (by omega)) (by decide) (by decide) (by decide) (by decide)
  have lm : m.natAbs.log2 < 9000 := by
    have := PySem.Flt.log2_lt_of (n := m.natAbs) (k := 62) (by decide) (nat_lt (by omega) hm2)
    omega
  have fin : ∀ x : Int, (∃ i p', (Rr.v (PyData.int (x % m)) : Rr) = .v (.int i) ∧ [potD c f (t + 1)] = [p'] ∧ 0 ≤ i ∧ i < m ∧ Pot (n + 1) p') := fun x =>
    ⟨x % m, _, rfl, rfl, Int.emod_nonneg _ (by omega), Int.emod_lt_of_pos _ hm, c, f, t + 1, rfl, hc, hc2, by omega, by omega⟩
  refine RfP_run rfl ?_
  simp -implicitDefEqProofs [b__law_draw, startEn, arSl, potD, canPut, noAli, outsOf, ixN, -Rr.v.injEq]
  have x1 : 0 ≤ (c + 977 * (t + 1) + 1) * 48271 % 2147483647 ∧ (c + 977 * (t + 1) + 1) * 48271 % 2147483647 < 2147483647 := ⟨Int.emod_nonneg _ (by decide), Int.emod_lt_of_pos _ (by decide)⟩
  generalize (c + 977 * (t + 1) + 1) * 48271 % 2147483647 = x at x1 ⊢
  have x2 : 0 ≤ x * x % 2147483629 ∧ x * x % 2147483629 < 2147483647 := ⟨Int.emod_nonneg _ (by decide), Int.lt_trans (Int.emod_lt_of_pos _ (by decide)) (by decide)⟩
  generalize x * x % 2147483629 = y at x2 ⊢
  have l8 : Nat.log2 8 < 9000 := by decide +kernel
  have go := fin ((y + 40692 * (t + 1)) * 69621 % 2147483563 / 8)
  have v4 := w4 x x1.1 x1.2
  have v5 := w5 y x2.1 x2.2
  split
  · split
    · refine ⟨hm, ⟨hm, lm⟩, c % m, rfl, Int.emod_nonneg _ (by omega), Int.emod_lt_of_pos _ hm, _, f, _, rfl, Int.ediv_nonneg hc (by omega), Int.lt_of_le_of_lt (Int.ediv_le_self _ hc) hc2, by omega, by omega⟩
    · obtain ⟨i, p', e1, e2, g1, g2, g3⟩ := go
      cases e2
      exact ⟨w1, w2, v4, w3, v5, l8, hm, i, e1, g1, g2, g3⟩
  · obtain ⟨i, p', e1, e2, g1, g2, g3⟩ := go
    cases e2
    exact ⟨w1, w2, v4, w3, v5, l8, hm, i, e1, g1, g2, g3⟩
end DL
/-! Dm4: the laws' own helpers: same. -/
namespace DL
open PySem PySem.Spec L2
open PyProof.Rows hiding St
mutual
/-- data that same() takes: no dicts -/
def okS : D → Bool
  | .list ds => decide (ds.length ≤ sizeLine) && okSs ds
  | .tuple ds => decide (ds.length ≤ sizeLine) && okSs ds
  | .dict _ => false
  | _ => true
def okSs : List D → Bool
  | [] => true
  | d :: ds => okS d && okSs ds
end
theorem okSs_at : ∀ {ds : List D}, okSs ds = true → ∀ {i : Nat} {d : D}, ds[i]? = some d → okS d = true
  | [], _, i, d, e => by simp at e
  | x :: ds, h, 0, d, e => by
    unfold okSs at h
    rw [Bool.and_eq_true] at h
    cases e
    exact h.1
  | x :: ds, h, i + 1, d, e => by
    unfold okSs at h
    rw [Bool.and_eq_true] at h
    exact okSs_at h.2 (by simpa using e)
theorem depth_at : ∀ {ds : List D} {i : Nat} {d : D}, ds[i]? = some d → PyData.depth d ≤ PyData.depthAll ds
  | [], i, d, e => by simp at e
  | x :: ds, 0, d, e => by
    cases e
    unfold PyData.depthAll
    exact Nat.le_max_left _ _
  | x :: ds, i + 1, d, e => by
    unfold PyData.depthAll
    exact Nat.le_trans (depth_at (by simpa using e)) (Nat.le_max_right _ _)
theorem sizeLine62 : sizeLine < 2 ^ 62 := by decide +kernel
@[simp] theorem isTup_t {ds : List D} : isTup (.tuple ds) = some (.bool true) := rfl
@[simp] theorem isTup_l {ds : List D} : isTup (.list ds) = some (.bool false) := rfl
@[simp] theorem isTup_n : isTup .none = some (.bool false) := rfl
@[simp] theorem isTup_b {b : Bool} : isTup (.bool b) = some (.bool false) := rfl
@[simp] theorem isTup_i {i : Int} : isTup (.int i) = some (.bool false) := rfl
@[simp] theorem isTup_s {x : Str} : isTup (.str x) = some (.bool false) := rfl
@[simp] theorem isLst_t {ds : List D} : isLst (.tuple ds) = some (.bool false) := rfl
@[simp] theorem isLst_l {ds : List D} : isLst (.list ds) = some (.bool true) := rfl
@[simp] theorem isLst_n : isLst .none = some (.bool false) := rfl
@[simp] theorem isLst_b {b : Bool} : isLst (.bool b) = some (.bool false) := rfl
@[simp] theorem isLst_i {i : Int} : isLst (.int i) = some (.bool false) := rfl
@[simp] theorem isLst_s {x : Str} : isLst (.str x) = some (.bool false) := rfl
@[simp] theorem isInt_t {ds : List D} : isInt (.tuple ds) = some (.bool false) := rfl
@[simp] theorem isInt_l {ds : List D} : isInt (.list ds) = some (.bool false) := rfl
@[simp] theorem isInt_n : isInt .none = some (.bool false) := rfl
@[simp] theorem isInt_b {b : Bool} : isInt (.bool b) = some (.bool true) := rfl
@[simp] theorem isInt_i {i : Int} : isInt (.int i) = some (.bool true) := rfl
@[simp] theorem isInt_s {x : Str} : isInt (.str x) = some (.bool false) := rfl
@[simp] theorem isBool_t {ds : List D} : isBool (.tuple ds) = some (.bool false) := rfl
@[simp] theorem isBool_l {ds : List D} : isBool (.list ds) = some (.bool false) := rfl
@[simp] theorem isBool_n : isBool .none = some (.bool false) := rfl
@[simp] theorem isBool_b {b : Bool} : isBool (.bool b) = some (.bool true) := rfl
@[simp] theorem isBool_i {i : Int} : isBool (.int i) = some (.bool false) := rfl
@[simp] theorem isBool_s {x : Str} : isBool (.str x) = some (.bool false) := rfl
@[simp] theorem isStr_t {ds : List D} : isStr (.tuple ds) = some (.bool false) := rfl
@[simp] theorem isStr_l {ds : List D} : isStr (.list ds) = some (.bool false) := rfl
@[simp] theorem isStr_n : isStr .none = some (.bool false) := rfl
@[simp] theorem isStr_b {b : Bool} : isStr (.bool b) = some (.bool false) := rfl
@[simp] theorem isStr_i {i : Int} : isStr (.int i) = some (.bool false) := rfl
@[simp] theorem isStr_s {x : Str} : isStr (.str x) = some (.bool true) := rfl
def Yes (r : Rf) : Prop := RfP r (fun r os => r = .v (.bool true) ∧ os = []) fun _ _ => False
theorem Yes.eq {r : Rf} (h : Yes r) : r = .ok (.v (.bool true)) [] := by
  unfold Yes at h
  obtain ⟨x, os, e, rfl, rfl⟩ := h.ok
  exact e
theorem all_true (n : Nat) (ds : List D) (h : ∀ d ∈ ds, d = .bool true) : sAll [.list ds] = some (.bool true) := by
  unfold sAll
  have : ∃ bs, boolsD ds = some bs ∧ bs.all id = true := by
    induction ds with
    | nil => exact ⟨[], rfl, rfl⟩
    | cons d ds ih =>
      obtain ⟨bs, e1, e2⟩ := ih fun d' hd => h d' (List.mem_cons_of_mem _ hd)
      have := h d List.mem_cons_self
      subst this
      exact ⟨true :: bs, by show (boolsD ds).map _ = _; rw [e1]; rfl, by simpa using e2⟩
  obtain ⟨bs, e1, e2⟩ := this
  show Option.map _ (boolsD ds) = _
  rw [e1]
  simp [e2]
theorem same_ok : ∀ (n : Nat) (d : D), PyData.depth d < n → okS d = true → Yes (f__law_same n [.v d, .v d])
  | 0, d, h, _ => absurd h (Nat.not_lt_zero _)
  | n + 1, d, h, ok => by
    have seq : ∀ ds : List D, PyData.depthAll ds + 1 < n + 1 → ds.length ≤ sizeLine → okSs ds = true → ∀ mk : List D → D, (mk = .list ∨ mk = .tuple) → d = mk ds → Yes (f__law_same (n + 1) [.v d, .v d]) := fun ds hd hl ho mk hmk e => by
      subst e
      refine RfP_run rfl ?_
      have hz := sizeLine62
      have hs : small (ds.length : Int) = true := small_n (by omega)
      rcases hmk with rfl | rfl
      all_goals
        simp -implicitDefEqProofs [b__law_same, startEn, arSl, outsOf, hs]
        refine RsP_compL (fun _ => some (.bool true)) rfl (by simp [rng]; exact hl) (fun d' hd' => ?_) ?_
        · obtain ⟨i, hi, rfl⟩ := List.mem_map.mp hd'
          have hi' : i < ds.length := by simpa using hi
          have e1 := List.getElem?_eq_getElem hi'
          have y := same_ok n ds[i] (Nat.lt_of_le_of_lt (depth_at e1) (by omega)) (okSs_at ho e1)
          simp -implicitDefEqProofs [tgName, canPut, noAli, unw, atI_n, e1, CallP, y.eq, RfP]
        · simp -implicitDefEqProofs
          rw [all_true 0]
          · simp
          · intro d' hd'
            obtain ⟨x, _, hx⟩ := List.mem_map.mp hd'
            exact hx.symm
    cases d with
    | none => 
      refine RfP_run rfl ?_
      simp -implicitDefEqProofs [b__law_same, startEn, arSl, outsOf]
    | bool b =>
      refine RfP_run rfl ?_
      simp -implicitDefEqProofs [b__law_same, startEn, arSl, outsOf]
    | int i =>
      refine RfP_run rfl ?_
      simp -implicitDefEqProofs [b__law_same, startEn, arSl, outsOf]
    | str x =>
      refine RfP_run rfl ?_
      simp -implicitDefEqProofs [b__law_same, startEn, arSl, outsOf]
    | list ds =>
      unfold okS at ok
      rw [Bool.and_eq_true, decide_eq_true_iff] at ok
      exact seq ds (by unfold PyData.depth at h; omega) ok.1 ok.2 _ (.inl rfl) rfl
    | tuple ds =>
      unfold okS at ok
      rw [Bool.and_eq_true, decide_eq_true_iff] at ok
      exact seq ds (by unfold PyData.depth at h; omega) ok.1 ok.2 _ (.inr rfl) rfl
    | dict kvs => cases ok
end DL
/-! Dm5: histories as data; the program's checks. -/
namespace DL
open PySem PySem.Spec L2
open PyProof.Rows hiding St
structure Op where
  client : Int
  start : Int
  stop : Option Int
  name : Str
  arg : Option Int
  res : Option Int
def optD : Option Int → D
  | none => .none
  | some i => .int i
@[simp] theorem optD_n : optD none = .none := rfl
@[simp] theorem optD_s {i : Int} : optD (some i) = .int i := rfl
@[simp] theorem RfP_ok {r : Rr} {os : List D} {P : Rr → List D → Prop} {E : Ex → List D → Prop} : RfP (.ok r os) P E = P r os := rfl
@[simp] theorem RfP_ex {x : Ex} {os : List D} {P : Rr → List D → Prop} {E : Ex → List D → Prop} : RfP (.ex x os) P E = E x os := rfl
def Op.enc (o : Op) : D := .tuple [.int o.client, .int o.start, optD o.stop, .str o.name, optD o.arg, optD o.res]
def encH (h : List Op) : D := .tuple (h.map Op.enc)
def nameOk (x : Str) : Prop := f_is_name [.v (.str x)] = .ok (.v (.bool true)) []
structure Op.Ok (o : Op) : Prop where
  client : 0 ≤ o.client
  stop : ∀ e, o.stop = some e → o.start ≤ e
  res : o.stop = none → o.res = none
  name : nameOk o.name
theorem is_integer_i (i : Int) : f_is_integer [.v (.int i)] = .ok (.v (.bool true)) [] := rfl
theorem is_tuple6 (a b c d e f : D) : f_is_tuple_of [.v (.int 6), .v (.tuple [a, b, c, d, e, f])] = .ok (.v (.bool true)) [] := rfl
/-- a slot that may be set -/
def Pl (s : Sl) : Prop := s = .un ∨ ∃ d, s = .val d
theorem numbered_at {ds : List D} {i : Nat} {d : D} (h : (numbered 0 ds)[i]? = some d) : ∃ x, ds[i]? = some x ∧ d = .tuple [.int (i : Nat), x] := by
  rw [numbered_get] at h
  cases e : ds[i]? with
  | none => rw [e] at h; cases h
  | some x =>
    rw [e] at h
    cases h
    exact ⟨x, rfl, by rw [Nat.zero_add]⟩
@[simp] theorem itEnum_t {ds : List D} : itEnum (.tuple ds) = some (numbered 0 ds) := rfl
@[simp] theorem itEnum_l {ds : List D} : itEnum (.list ds) = some (numbered 0 ds) := rfl
@[simp] theorem itAll_t {ds : List D} : itAll (.tuple ds) = some ds := rfl
@[simp] theorem itAll_l {ds : List D} : itAll (.list ds) = some ds := rfl
def Gives (r : Rf) (d : D) : Prop := RfP r (fun r os => r = .v d ∧ os = []) fun _ _ => False
theorem Gives.eq {r : Rf} {d : D} (h : Gives r d) : r = .ok (.v d) [] := by
  unfold Gives at h
  obtain ⟨x, os, e, rfl, rfl⟩ := h.ok
  exact e
/-- one ends ahead of the other's start -/
def bef (a b : Op) : Bool := match a.stop with
  | some e => decide (e < b.start)
  | none => false
end DL
/-! Dm6: comprehensions of two clauses, run; the program's looks at pairs. -/
namespace DL
open PySem PySem.Spec L2
open PyProof.Rows hiding St
theorem compIn_pure {vs : List Nat} {tg : Tg} {tt : Tv} {el : Ev} {en en0 : En} (f : D → Option D) (hw : wipeE en vs = some en0) : ∀ (ds : List D) (acc : List D), acc.length + (ds.filterMap f).length ≤ sizeLine →
    (∀ d ∈ ds, OpP (tg d en0) fun en1 => unw en en1 = some en ∧ RsP (tt en1) (fun en2 k => en2 = en1 ∧ if k = true then RsP (el en1) (fun en3 r => en3 = en1 ∧ DP_ r fun y => f d = some y) (fun _ _ => False) else f d = none) fun _ _ => False) →
    compIn vs tg tt el ds en acc = .ok en (acc ++ ds.filterMap f)
  | [], acc, _, _ => by unfold compIn; simp
  | d :: ds, acc, hl, h => by
    have h1 := h d List.mem_cons_self
    have ih := fun acc' (hl' : acc'.length + (ds.filterMap f).length ≤ sizeLine) => compIn_pure f hw ds acc' hl' fun d' hd => h d' (List.mem_cons_of_mem _ hd)
    unfold compIn
    rw [hw]
    dsimp only
    cases q : tg d en0 with
    | none => rw [q] at h1; exact h1.elim
    | some en1 =>
      rw [q] at h1
      obtain ⟨hu, h1⟩ := h1
      dsimp only
      cases q2 : tt en1 with
      | no => rw [q2] at h1; exact h1.elim
      | ex en2 x => rw [q2] at h1; exact h1.elim
      | ok en2 k =>
        rw [q2] at h1
        obtain ⟨rfl, h1⟩ := h1
        cases k with
        | false =>
          dsimp only
          rw [hu]
          rw [if_neg Bool.false_ne_true] at h1
          dsimp only
          rw [List.filterMap_cons_none h1] at hl
          rw [ih acc hl, List.filterMap_cons_none h1]
        | true =>
          rw [if_pos rfl] at h1
          dsimp only
          cases q3 : el en2 with
          | no => rw [q3] at h1; exact h1.elim
          | ex en3 x => rw [q3] at h1; exact h1.elim
          | ok en3 r =>
            rw [q3] at h1
            obtain ⟨rfl, h1⟩ := h1
            cases r with
            | s i => exact h1.elim
            | d y =>
              dsimp only
              have h1 : f d = some y := h1
              rw [List.filterMap_cons_some h1, List.length_cons] at hl
              rw [if_pos (by omega), hu]
              dsimp only
              rw [ih (acc ++ [y]) (by rw [List.length_append]; simp; omega), List.filterMap_cons_some h1, List.append_assoc]
              rfl
theorem compL2_pure {vs vs1 : List Nat} {tg tg1 : Tg} {tt tt1 : Tv} {it1 : Iv} {el : Ev} {en en0 : En} (f : D → List D) (hw : wipeE en vs = some en0) : ∀ (ds : List D) (acc : List D), acc.length + (ds.flatMap f).length ≤ sizeLine →
    (∀ d ∈ ds, OpP (tg d en0) fun en1 => unw en en1 = some en ∧ ownSub en en1 = true ∧ RsP (tt en1) (fun en2 k => en2 = en1 ∧ if k = true then RsP (it1 en1) (fun en3 ds1 => en3 = en1 ∧ ∃ (g : D → Option D) (enb : En), f d = ds1.filterMap g ∧ wipeE en1 vs1 = some enb ∧
      ∀ d1 ∈ ds1, OpP (tg1 d1 enb) fun en4 => unw en1 en4 = some en1 ∧ RsP (tt1 en4) (fun en5 k => en5 = en4 ∧ if k = true then RsP (el en4) (fun en6 r => en6 = en4 ∧ DP_ r fun y => g d1 = some y) (fun _ _ => False) else g d1 = none) fun _ _ => False) (fun _ _ => False) else f d = []) fun _ _ => False) →
    compL2 vs vs1 tg tt it1 tg1 tt1 el ds en acc = .ok en (.list (acc ++ ds.flatMap f))
  | [], acc, _, _ => by unfold compL2; simp
  | d :: ds, acc, hl, h => by
    have h1 := h d List.mem_cons_self
    have ih := fun acc' (hl' : acc'.length + (ds.flatMap f).length ≤ sizeLine) => compL2_pure f hw ds acc' hl' fun d' hd => h d' (List.mem_cons_of_mem _ hd)
    unfold compL2
    rw [hw]
    dsimp only
    rw [List.flatMap_cons, List.length_append] at hl
    cases q : tg d en0 with
    | none => rw [q] at h1; exact h1.elim
    | some en1 =>
      rw [q] at h1
      obtain ⟨hu, ho, h1⟩ := h1
      dsimp only
      cases q2 : tt en1 with
      | no => rw [q2] at h1; exact h1.elim
      | ex en2 x => rw [q2] at h1; exact h1.elim
      | ok en2 k =>
        rw [q2] at h1
        obtain ⟨rfl, h1⟩ := h1
        cases k with
        | false =>
          rw [if_neg Bool.false_ne_true] at h1
          dsimp only
          rw [hu]
          dsimp only
          rw [h1] at hl
          rw [ih acc (by simpa using hl), List.flatMap_cons, h1, List.nil_append]
        | true =>
          rw [if_pos rfl] at h1
          dsimp only
          cases q3 : it1 en2 with
          | no => rw [q3] at h1; exact h1.elim
          | ex en3 x => rw [q3] at h1; exact h1.elim
          | ok en3 ds1 =>
            rw [q3] at h1
            obtain ⟨rfl, g, enb, e1, e2, h1⟩ := h1
            dsimp only
            rw [if_pos ho, hu]
            dsimp only
            rw [e1] at hl
            rw [compIn_pure g e2 ds1 acc (by omega) h1]
            dsimp only
            rw [hu]
            dsimp only
            rw [ih _ (by rw [List.length_append]; omega), List.flatMap_cons, e1, List.append_assoc]
theorem RsP_compL2 {vs vs1 : List Nat} {tg tg1 : Tg} {tt tt1 : Tv} {it1 : Iv} {el : Ev} {en en0 : En} {ds : List D} {PD : En → D → Prop} {E : En → Ex → Prop} (f : D → List D) (hw : wipeE en vs = some en0) (hl : (ds.flatMap f).length ≤ sizeLine)
    (h : ∀ d ∈ ds, OpP (tg d en0) fun en1 => unw en en1 = some en ∧ ownSub en en1 = true ∧ RsP (tt en1) (fun en2 k => en2 = en1 ∧ if k = true then RsP (it1 en1) (fun en3 ds1 => en3 = en1 ∧ ∃ (g : D → Option D) (enb : En), f d = ds1.filterMap g ∧ wipeE en1 vs1 = some enb ∧
      ∀ d1 ∈ ds1, OpP (tg1 d1 enb) fun en4 => unw en1 en4 = some en1 ∧ RsP (tt1 en4) (fun en5 k => en5 = en4 ∧ if k = true then RsP (el en4) (fun en6 r => en6 = en4 ∧ DP_ r fun y => g d1 = some y) (fun _ _ => False) else g d1 = none) fun _ _ => False) (fun _ _ => False) else f d = []) fun _ _ => False)
    (p : PD en (.list (ds.flatMap f))) : RsP (compL2 vs vs1 tg tt it1 tg1 tt1 el ds en []) PD E := by
  rw [compL2_pure f hw ds [] (by simpa using hl) h]
  simpa using p

/-! ### indexes -/
def idx (n : Nat) (d : D) : Bool := match d with
  | .int i => decide (0 ≤ i) && decide (i < n)
  | _ => false
theorem is_index_ok (n : Nat) {d : D} (hd : notDct d = true) : f_is_index [.v (.int n), .v d] = .ok (.v (.bool (idx n d))) [] := by
  cases d <;> first | (cases hd; done) | rfl | skip
  rename_i i
  refine Gives.eq (RfP_run rfl ?_)
  have e : f_is_between [.v (.int 0), .v (.int i), .v (.int (n - 1))] = .ok (.v (.bool (idx n (.int i)))) [] := by
    refine Gives.eq (RfP_run rfl ?_)
    simp -implicitDefEqProofs [b_is_between, startEn, arSl, outsOf, CallP, is_integer_i, idx]
    split <;> simp -implicitDefEqProofs [*] <;> omega
  simp -implicitDefEqProofs [b_is_index, startEn, arSl, outsOf, CallP, e]
theorem len_H (h : List Op) : (h.map Op.enc).length = h.length := List.length_map _
/-- the pairs -/
def befs (h : List Op) : List D := (rng h.length).flatMap fun i => (rng h.length).filterMap fun j => match i, j with
  | .int i, .int j => (match h[i.toNat]?, h[j.toNat]? with
    | some a, some b => if bef a b = true then some (.tuple [.int i, .int j]) else none
    | _, _ => none)
  | _, _ => none
end DL
/-! Dm7: the program's lists. -/
namespace DL
open PySem PySem.Spec L2
open PyProof.Rows hiding St
theorem rng_at {n : Nat} {d : D} (h : d ∈ rng (n : Int)) : ∃ i : Nat, i < n ∧ d = .int (i : Int) := by
  unfold rng at h
  obtain ⟨i, hi, rfl⟩ := List.mem_map.mp h
  exact ⟨i, by simpa using hi, by rw [Int.zero_add]⟩
theorem rng_len (n : Nat) : (rng (n : Int)).length = n := by simp [rng]
theorem filterMap_le {f : D → Option D} : ∀ ds : List D, (ds.filterMap f).length ≤ ds.length
  | [] => by simp
  | d :: ds => by
    have := filterMap_le (f := f) ds
    cases e : f d with
    | none => rw [List.filterMap_cons_none e]; simp; omega
    | some y => rw [List.filterMap_cons_some e]; simp; omega
theorem flatMap_le {f : D → List D} {m : Nat} (h : ∀ d, (f d).length ≤ m) : ∀ ds : List D, (ds.flatMap f).length ≤ ds.length * m
  | [] => by simp
  | d :: ds => by
    have := flatMap_le h ds
    have h1 := h d
    rw [List.flatMap_cons, List.length_append, List.length_cons, Nat.succ_mul]
    omega
theorem befs_len (h : List Op) (hl : h.length ≤ 64) : (befs h).length ≤ 4096 := by
  unfold befs
  have := flatMap_le (f := fun i => (rng h.length).filterMap fun j => match i, j with
    | .int i, .int j => (match h[i.toNat]?, h[j.toNat]? with
      | some a, some b => if bef a b = true then some (.tuple [.int i, .int j]) else none
      | _, _ => none)
    | _, _ => none) (m := 64) (fun d => Nat.le_trans (filterMap_le _) (by rw [rng_len]; exact hl)) (rng h.length)
  rw [rng_len] at this
  exact Nat.le_trans this (by have := Nat.mul_le_mul_right 64 hl; omega)
theorem sizeLine_big : 10000 ≤ sizeLine := by rw [sizeLine_eq]; omega
/-! open ones -/
/-- over enumerate, over the indexes -/
theorem enum_idx {h : List Op} {f g : D → Option D} (hfg : ∀ (i : Nat) (o : Op), h[i]? = some o → f (.tuple [.int (i : Nat), o.enc]) = g (.int (i : Nat))) : (numbered 0 (h.map Op.enc)).filterMap f = (rng h.length).filterMap g := by
  have key : ∀ (l : List Op) (k : Nat), (∀ (i : Nat) (o : Op), l[i]? = some o → f (.tuple [.int ((k + i : Nat) : Int), o.enc]) = g (.int ((k + i : Nat) : Int))) → (numbered k (l.map Op.enc)).filterMap f = ((List.range l.length).map fun i => PyData.int ((k + i : Nat) : Int)).filterMap g := by
    intro l
    induction l with
    | nil => intro k _; simp [numbered]
    | cons o l ih =>
      intro k hk
      have h0 := hk 0 o rfl
      rw [Nat.add_zero] at h0
      have ih2 := ih (k + 1) fun i o' e => by
        have := hk (i + 1) o' (by simpa using e)
        rw [show k + 1 + i = k + (i + 1) by omega]
        exact this
      rw [List.map_cons, List.length_cons, List.range_succ_eq_map]
      unfold numbered
      have e3 : (fun i => PyData.int ((k + i : Nat) : Int)) ∘ Nat.succ = fun i => PyData.int ((k + 1 + i : Nat) : Int) := by
        funext i
        simp only [Function.comp_apply, Nat.succ_eq_add_one]
        rw [show k + (i + 1) = k + 1 + i by omega]
      rw [List.map_cons, List.map_map, e3]
      cases q : g (.int ((k + 0 : Nat) : Int)) with
      | none =>
        rw [List.filterMap_cons_none (by rw [h0]; exact q), List.filterMap_cons_none q, ih2]
      | some y =>
        rw [List.filterMap_cons_some (by rw [h0]; exact q), List.filterMap_cons_some q, ih2]
  have := key h 0 fun i o e => by
    rw [Nat.zero_add]
    exact hfg i o e
  rw [this]
  unfold rng
  simp
theorem num_len {h : List Op} : (numbered 0 (h.map Op.enc)).length = h.length := by rw [numbered_len, List.length_map]
theorem num_mem {h : List Op} {d : D} (hd : d ∈ numbered 0 (h.map Op.enc)) : ∃ (i : Nat) (o : Op), h[i]? = some o ∧ d = .tuple [.int (i : Nat), o.enc] := by
  obtain ⟨i, hi⟩ := List.mem_iff_getElem?.mp hd
  obtain ⟨x, e1, rfl⟩ := numbered_at hi
  rw [List.getElem?_map] at e1
  cases q : h[i]? with
  | none => rw [q] at e1; cases e1
  | some o =>
    rw [q] at e1
    cases e1
    exact ⟨i, o, q, rfl⟩
/-- what enumerate's turns give, by the operation -/
def byOp (h : List Op) (p : Op → Bool) (d : D) : Option D := match d with
  | .tuple [.int i, _] => (match h[i.toNat]? with
    | some o => if p o = true then some (.int i) else none
    | none => none)
  | _ => none
def byIdx (h : List Op) (p : Op → Bool) (d : D) : Option D := match d with
  | .int i => (match h[i.toNat]? with
    | some o => if p o = true then some (.int i) else none
    | none => none)
  | _ => none
def sel (h : List Op) (p : Op → Bool) : List D := (rng h.length).filterMap (byIdx h p)
theorem sel_eq {h : List Op} {p : Op → Bool} : (numbered 0 (h.map Op.enc)).filterMap (byOp h p) = sel h p := enum_idx fun i o e => by simp [byOp, byIdx]
theorem enc_stop (o : Op) : sIs (optD o.stop) .none = some (.bool (decide (o.stop = none))) := by
  cases o.stop <;> rfl
/-! first overlap of a client's own -/
/-- i and j overlap -/
def ovl (h : List Op) (i j : Nat) : Bool := match h[i]?, h[j]? with
  | some a, some b => !bef a b && !bef b a
  | _, _ => false
def badAt (h : List Op) (i : Nat) : Bool := match h[i]? with
  | some o => (List.range i).any fun j => (match h[j]? with
    | some p => p.client == o.client && ovl h j i
    | none => false)
  | none => false
def seqOk (h : List Op) : Bool := (List.range h.length).all fun i => !badAt h i
theorem sel_mem {h : List Op} {p : Op → Bool} {d : D} (hd : d ∈ sel h p) : ∃ (i : Nat) (o : Op), h[i]? = some o ∧ p o = true ∧ d = .int (i : Nat) := by
  unfold sel at hd
  obtain ⟨x, hx, e⟩ := List.mem_filterMap.mp hd
  obtain ⟨i, hi, rfl⟩ := rng_at hx
  unfold byIdx at e
  simp only [Int.toNat_natCast] at e
  cases q : h[i]? with
  | none => rw [q] at e; cases e
  | some o =>
    rw [q] at e
    dsimp only at e
    split at e
    · rename_i hp
      cases e
      exact ⟨i, o, q, hp, rfl⟩
    · cases e
theorem mem_sel {h : List Op} {p : Op → Bool} {i : Nat} {o : Op} (e : h[i]? = some o) (hp : p o = true) : PyData.int (i : Nat) ∈ sel h p := by
  unfold sel
  have hi := (List.getElem?_eq_some_iff.mp e).1
  refine List.mem_filterMap.mpr ⟨.int (i : Nat), ?_, ?_⟩
  · unfold rng
    refine List.mem_map.mpr ⟨i, by simpa using hi, by rw [Int.zero_add]⟩
  · simp [byIdx, e, hp]
end DL
/-! Dm8: is_sequential, clients_of. -/
namespace DL
open PySem PySem.Spec L2
open PyProof.Rows hiding St
theorem cutD_to {xs : List D} {k : Nat} : cutD xs none (some (k : Int)) = xs.take k := by
  unfold cutD
  rw [HT.sIx_none, HT.sIx_nat, List.drop_zero, Nat.sub_zero]
  rcases Nat.le_total k xs.length with h | h
  · rw [Nat.min_eq_left h]
  · rw [Nat.min_eq_right h, List.take_of_length_le h, List.take_of_length_le (Nat.le_refl _)]
@[simp] theorem sSl_t {lo hi : Option Int} {ds : List D} : sSl lo hi (.tuple ds) = some (.tuple (cutD ds lo hi)) := rfl
@[simp] theorem sSl_l {lo hi : Option Int} {ds : List D} : sSl lo hi (.list ds) = some (.list (cutD ds lo hi)) := rfl
theorem cut_H {h : List Op} {k : Nat} : PyData.tuple (cutD (h.map Op.enc) none (some (k : Int))) = encH (h.take k) := by
  rw [cutD_to, ← List.map_take]
  rfl
theorem sl_H {h : List Op} {k : Nat} : sSl none (some (k : Int)) (encH h) = some (encH (h.take k)) := by
  show some (PyData.tuple (cutD (h.map Op.enc) none (some (k : Int)))) = _
  rw [cut_H]
theorem enc_client (o : Op) : sIx o.enc (.int 0) = some (.int o.client) := rfl
end DL
/-! Dm9: clients_of. -/
namespace DL
open PySem PySem.Spec L2
open PyProof.Rows hiding St
theorem putP_len (ps : List (D × D)) (k d : D) : (putP ps k d).length ≤ ps.length + 1 := by
  unfold putP
  split
  · rw [List.length_map]; omega
  · simp
theorem compD_pure {vs : List Nat} {tg : Tg} {tt : Tv} {ek ev : Ev} {en en0 : En} (fk fv : D → D) (hw : wipeE en vs = some en0) : ∀ (ds : List D) (acc : List (D × D)), acc.length + ds.length ≤ sizeLine →
    (∀ d ∈ ds, OpP (tg d en0) fun en1 => unw en en1 = some en ∧ tt en1 = .ok en1 true ∧ ek en1 = .ok en1 (.d (fk d)) ∧ (keyOf (fk d)).isSome = true ∧ ev en1 = .ok en1 (.d (fv d))) →
    compD vs tg tt ek ev ds en acc = .ok en (.dict (ds.foldl (fun a d => putP a (fk d) (fv d)) acc))
  | [], acc, _, _ => by unfold compD; rfl
  | d :: ds, acc, hl, h => by
    have h1 := h d List.mem_cons_self
    have hp := putP_len acc (fk d) (fv d)
    rw [List.length_cons] at hl
    have ih := compD_pure (tt := tt) fk fv hw ds (putP acc (fk d) (fv d)) (by omega) fun d' hd => h d' (List.mem_cons_of_mem _ hd)
    unfold compD
    rw [hw]
    dsimp only
    cases q : tg d en0 with
    | none => rw [q] at h1; exact h1.elim
    | some en1 =>
      rw [q] at h1
      obtain ⟨hu, e1, e2, e3, e4⟩ := h1
      dsimp only
      rw [e1]
      dsimp only
      rw [e2]
      dsimp only
      cases q2 : keyOf (fk d) with
      | none => rw [q2] at e3; cases e3
      | some k =>
        dsimp only
        rw [e4]
        dsimp only
        rw [if_pos (by omega), hu]
        dsimp only
        rw [ih]
        rfl
/-- the keys that are met -/
def keysF (ns : List Int) : List (D × D) := ns.map fun n => (.int n, .bool true)
theorem put_keys (ns : List Int) (c : Int) : putP (keysF ns) (.int c) (.bool true) = keysF (if c ∈ ns then ns else ns ++ [c]) := by
  have ha : ((keysF ns).any fun q => keyEq q.1 (.int c)) = decide (c ∈ ns) := by
    unfold keysF
    rw [Bool.eq_iff_iff, List.any_eq_true, decide_eq_true_iff]
    constructor
    · rintro ⟨q, hq, e⟩
      obtain ⟨n, hn, rfl⟩ := List.mem_map.mp hq
      have : n = c := by simpa [keyEq] using e
      exact this ▸ hn
    · intro hc
      exact ⟨_, List.mem_map.mpr ⟨c, hc, rfl⟩, by simp [keyEq]⟩
  unfold putP
  rw [ha]
  by_cases h : c ∈ ns
  · rw [if_pos (decide_eq_true h), if_pos h]
    unfold keysF
    rw [List.map_map]
    refine List.map_congr_left fun n _ => ?_
    simp only [Function.comp_apply]
    split <;> rfl
  · rw [if_neg (by simp [h]), if_neg h]
    unfold keysF
    simp
theorem fold_keys : ∀ (h : List Op) (ns : List Int), ns.Nodup → ∃ ms : List Int, ((h.map Op.enc).foldl (fun a d => putP a ((sIx d (.int 0)).getD .none) (.bool true)) (keysF ns)) = keysF ms ∧ ms.Nodup ∧ (∀ k, k ∈ ms ↔ k ∈ ns ∨ k ∈ h.map Op.client) ∧ ms.length ≤ ns.length + h.length
  | [], ns, hn => ⟨ns, rfl, hn, fun k => by simp, by simp⟩
  | o :: h, ns, hn => by
    rw [List.map_cons, List.foldl_cons]
    rw [enc_client]
    rw [Option.getD_some, put_keys]
    obtain ⟨ms, e1, e2, e3, e4⟩ := fold_keys h (if o.client ∈ ns then ns else ns ++ [o.client]) (by
      split
      · exact hn
      · rename_i hc
        rw [List.nodup_append]
        exact ⟨hn, by simp, fun a ha b hb => by
          simp at hb
          subst hb
          intro z
          subst z
          exact hc ha⟩)
    refine ⟨ms, e1, e2, fun k => ?_, ?_⟩
    · rw [e3, List.map_cons, List.mem_cons]
      split
      · rename_i hc
        constructor
        · rintro (z | z)
          · exact .inl z
          · exact .inr (.inr z)
        · rintro (z | z | z)
          · exact .inl z
          · exact .inl (z ▸ hc)
          · exact .inr z
      · rw [List.mem_append, List.mem_singleton]
        constructor
        · rintro ((z | z) | z)
          · exact .inl z
          · exact .inr (.inl z)
          · exact .inr (.inr z)
        · rintro (z | z | z)
          · exact .inl (.inl z)
          · exact .inl (.inr z)
          · exact .inr z
    · split at e4
      · rw [List.length_cons]; omega
      · rw [List.length_append] at e4
        simp at e4 ⊢
        omega
theorem sort_uniq {ms cs : List Int} (hn : ms.Nodup) (hm : ∀ k, k ∈ ms ↔ k ∈ cs) : (ms.mergeSort fun a b => decide (a ≤ b)) = uniq cs := by
  have hp := List.mergeSort_perm ms fun a b => decide (a ≤ b)
  have hs : (ms.mergeSort fun a b => decide (a ≤ b)).Pairwise (fun a b => decide (a ≤ b) = true) := List.pairwise_mergeSort (fun a b c h1 h2 => by simp at h1 h2 ⊢; omega) (fun a b => by simp; omega) ms
  have hd : (ms.mergeSort fun a b => decide (a ≤ b)).Nodup := hp.nodup_iff.mpr hn
  refine lt_unique ?_ (uniq_lt cs) fun k => by rw [hp.mem_iff, hm, uniq_mem]
  have := List.Pairwise.and hs hd
  exact this.imp fun ⟨h1, h2⟩ => by
    have h1 := of_decide_eq_true h1
    have h2 : ¬ _ = _ := h2
    omega
theorem intsD_keys (ms : List Int) : intsD ((keysF ms).map (·.1)) = some ms := by
  have : (keysF ms).map (·.1) = ms.map PyData.int := by
    unfold keysF
    rw [List.map_map]
    rfl
  rw [this, intsD_map]
end DL
/-! Dm10: the laws' own helpers: pot, stretch, first, odd. -/
namespace DL
open PySem PySem.Spec L2
open PyProof.Rows hiding St
def scrD (ns : List Int) : D := .dict [(.none, .list (ns.map .int))]
def bigE : Ev := dOp sMul (dOp sMul (dOp sMul (dOp sPow (dC (.int 10)) (dC (.int 60))) (dOp sPow (dC (.int 10)) (dC (.int 60)))) (dOp sPow (dC (.int 10)) (dC (.int 60)))) (dOp sPow (dC (.int 10)) (dC (.int 60)))
theorem pow60 : sPow (.int 10) (.int 60) = some (.int (10 ^ 60)) := by
  rw [sPow_i, if_pos (by decide +kernel)]
  rfl
theorem mulE {a b c : Int} (h1 : wideB a b = true) (h2 : a * b = c) : sMul (.int a) (.int b) = some (.int c) := by
  rw [sMul_i, if_pos h1, h2]
theorem mul120 : sMul (.int (10 ^ 60)) (.int (10 ^ 60)) = some (.int (10 ^ 120)) := mulE (by decide +kernel) (by decide +kernel)
theorem mul180 : sMul (.int (10 ^ 120)) (.int (10 ^ 60)) = some (.int (10 ^ 180)) := mulE (by decide +kernel) (by decide +kernel)
theorem mul240 : sMul (.int (10 ^ 180)) (.int (10 ^ 60)) = some (.int big) := mulE (by decide +kernel) (by decide +kernel)
theorem RsP_big {en : En} {P : En → Rv → Prop} {E : En → Ex → Prop} : RsP (bigE en) P E = P en (.d (.int big)) := by
  unfold bigE
  simp only [RsP_op, RsP_con, RsP_op2dd, pow60, OpP_some, mul120, mul180, mul240]
theorem big_pos : 0 < big := by decide +kernel
theorem pow18 : sPow (.int 10) (.int 18) = some (.int (10 ^ 18)) := by
  rw [sPow_i, if_pos (by decide +kernel)]
  rfl
/-- the pot of a cell -/
theorem pot_ok (ns : List Int) {k : Nat} (hk : k < 64) : RfP (f__law_pot [.v (scrD ns), .v (.int (k : Nat))]) (fun r os => os = [] ∧ ∃ p, r = .o p ∧ Pot (3 * k) p) fun _ _ => False := by
  have w7 : wideB 7 (k : Int) = true := wide_of (a := 3) (b := 62) (by decide) (nat_lt (by omega) (by omega)) (by decide) (by decide) (by decide)
  have w3 : wideB 3 (k : Int) = true := wide_of (a := 2) (b := 62) (by decide) (nat_lt (by omega) (by omega)) (by decide) (by decide) (by decide)
  have hz := sizeLine_big
  have bp := big_pos
  have tail : ∀ c : Int, OutP (bSeq (bSet 2 (dOp sMod (dCallB sInt (aCons (dCallB sAbs (aCons (dVar 2) (aNil))) (aNil))) bigE)) (bRetO (oLst (aCons (dVarF 2) (aCons (dCallB sInt (aCons (dOp (sCmp fGe) (dVar 2) (dOp sPow (dC (.int 10)) (dC (.int 18)))) (aNil))) (aCons (dOp sMul (dC (.int 3)) (dVar 1)) (aNil)))))) [.val (scrD ns), .val (.int (k : Nat)), .val (.int c)])
      (fun _ => False) (fun en r => ∃ p, r = .o p ∧ Pot (3 * k) p) fun _ _ => False := fun c => by
    simp -implicitDefEqProofs [RsP_big, canPut, noAli, pow18, w3, bp]
    exact ⟨by omega, _, _, _, rfl, Int.emod_nonneg _ (by omega), Int.emod_lt_of_pos _ bp, by omega, by omega⟩
  refine RfP_run rfl ?_
  show OutP (b__law_pot [.val (scrD ns), .val (.int (k : Nat)), .un]) _ _ _
  unfold b__law_pot
  have tail' : ∀ c : Int, OutP (bSeq (bSet 2 (dOp sMod (dCallB sInt (aCons (dCallB sAbs (aCons (dVar 2) (aNil))) (aNil))) bigE)) (bRetO (oLst (aCons (dVarF 2) (aCons (dCallB sInt (aCons (dOp (sCmp fGe) (dVar 2) (dOp sPow (dC (.int 10)) (dC (.int 18)))) (aNil))) (aCons (dOp sMul (dC (.int 3)) (dVar 1)) (aNil)))))) [.val (scrD ns), .val (.int (k : Nat)), .val (.int c)])
      (fun en => match outsOf en 0 [.v (scrD ns), .v (.int (k : Nat))] with
        | some os => os = [] ∧ ∃ p, (Rr.v .none : Rr) = .o p ∧ Pot (3 * k) p
        | none => False) (fun en r => match outsOf en 0 [.v (scrD ns), .v (.int (k : Nat))] with
        | some os => os = [] ∧ ∃ p, r = .o p ∧ Pot (3 * k) p
        | none => False) (fun en x => match outsOf en 0 [.v (scrD ns), .v (.int (k : Nat))] with
        | some os => False
        | none => False) := fun c => (tail c).mono (fun _ z => z.elim) (fun en r z => ⟨rfl, z⟩) fun _ _ z => z.elim
  rw [OutP_seq]
  simp only [OutP_set, RsP_op, RsP_con, RsP_var, List.getElem?_cons_succ, List.getElem?_cons_zero, VarP_val, RsP_op2dd, sMul_i, OpP_ite, stV_d, OpP_put]
  refine ⟨w7, by simp [canPut, noAli], ?_⟩
  rw [OutP_seq, OutP_if]
  have hl : sLen [scrD ns] = some (.int (ns.length : Nat)) := by
    show some (PyData.int ((ns.map PyData.int).length : Nat)) = _
    rw [List.length_map]
  simp -implicitDefEqProofs only [RsP_tOf, RsP_op, RsP_var, List.set, List.getElem?_cons_succ, List.getElem?_cons_zero, VarP_val, RsP_callB, RsP_aCons, RsP_aNil, resAll_cons, resAll_nil, res_d, OpP_some, hl, RsP_op2dd, sCmp_i, RsP_opBd, toB_bool]
  split
  · rename_i hlt
    have hlt' : k < ns.length := by simpa [fLt] using hlt
    have e1 : sIx (scrD ns) (.int (k : Nat)) = some (.int ns[k]) := by
      show atI (ns.map PyData.int) (k : Nat) = _
      rw [atI_n, List.getElem?_map, List.getElem?_eq_getElem hlt']
      rfl
    simp -implicitDefEqProofs only [OutP_set, RsP_op, RsP_var, List.getElem?_cons_succ, List.getElem?_cons_zero, VarP_val, RsP_op2dd, e1, OpP_some, stV_d, OpP_put]
    refine ⟨by simp [canPut, noAli], ?_⟩
    exact tail' _
  · exact tail' _
end DL
/-! Dm11: the laws' own helpers: stretch, first, asked. -/
namespace DL
open PySem PySem.Spec L2
open PyProof.Rows hiding St
theorem draw_then {n : Nat} {p : D} {m : Int} {P : Rr → List D → Prop} {E : Ex → List D → Prop} (hp : Pot n p) (hn : n ≤ 1000000) (hm : 0 < m) (hm2 : m < 2 ^ 62) (h : ∀ i p', 0 ≤ i → i < m → Pot (n + 1) p' → P (.v (.int i)) [p']) : RfP (f__law_draw [.o p, .v (.int m)]) P E :=
  (draw_spec hp hn hm hm2).mono (fun x os ⟨i, p', e1, e2, h1, h2, h3⟩ => by subst e1 e2; exact h i p' h1 h2 h3) fun _ _ z => z.elim
/-- the nine kinds -/
inductive Kd where
  | bag | queue | stack | least | register | counter | set | map | lock
def Kd.str : Kd → Str
  | .bag => "bag"
  | .queue => "queue"
  | .stack => "stack"
  | .least => "least"
  | .register => "register"
  | .counter => "counter"
  | .set => "set"
  | .map => "map"
  | .lock => "lock"
/-- a kind's states -/
inductive StOk : Kd → Nat → D → Prop
  | bag {m : Nat} (ns : List Int) : ns.length ≤ m → StOk .bag m (.tuple (ns.map .int))
  | queue {m : Nat} (ns : List Int) : ns.length ≤ m → StOk .queue m (.tuple (ns.map .int))
  | stack {m : Nat} (ns : List Int) : ns.length ≤ m → StOk .stack m (.tuple (ns.map .int))
  | least {m : Nat} (ns : List Int) : ns.length ≤ m → StOk .least m (.tuple (ns.map .int))
  | register {m : Nat} (o : Option Int) : StOk .register m (optD o)
  | counter {m : Nat} (i : Int) : StOk .counter m (.int i)
  | set {m : Nat} (ns : List Int) : ns.length ≤ m → StOk .set m (.tuple (ns.map .int))
  | map {m : Nat} (ns : List (Int × Int)) : ns.length ≤ m → StOk .map m (.tuple (ns.map fun p => .tuple [.int p.1, .int p.2]))
  | lock {m : Nat} (o : Option Int) : StOk .lock m (optD o)
theorem StOk.mono {k : Kd} {m m' : Nat} {d : D} (h : StOk k m d) (hm : m ≤ m') : StOk k m' d := by
  cases h with
  | bag ns h => exact .bag ns (by omega)
  | queue ns h => exact .queue ns (by omega)
  | stack ns h => exact .stack ns (by omega)
  | least ns h => exact .least ns (by omega)
  | register o => exact .register o
  | counter i => exact .counter i
  | set ns h => exact .set ns (by omega)
  | map ns h => exact .map ns (by omega)
  | lock o => exact .lock o
end DL
/-! Dm12: asked. -/
namespace DL
open PySem PySem.Spec L2
open PyProof.Rows hiding St
def Kd.isBox : Kd → Bool
  | .bag => true
  | .queue => true
  | .stack => true
  | .least => true
  | _ => false
def Kd.isSort : Kd → Bool
  | .bag => true
  | .least => true
  | _ => false
def Kd.isStack : Kd → Bool
  | .stack => true
  | _ => false
def Kd.isReg : Kd → Bool
  | .register => true
  | _ => false
def Kd.isCnt : Kd → Bool
  | .counter => true
  | _ => false
def Kd.isSet : Kd → Bool
  | .set => true
  | _ => false
def Kd.isMap : Kd → Bool
  | .map => true
  | _ => false
theorem in4 (k : Kd) : sIn (.str k.str) (.tuple [.str "bag", .str "queue", .str "stack", .str "least"]) = some (.bool k.isBox) := by cases k <;> rfl
theorem in2 (k : Kd) : sIn (.str k.str) (.tuple [.str "bag", .str "least"]) = some (.bool k.isSort) := by cases k <;> rfl
theorem eqStack (k : Kd) : sEq (.str k.str) (.str "stack") = some (.bool k.isStack) := by cases k <;> rfl
theorem eqReg (k : Kd) : sEq (.str k.str) (.str "register") = some (.bool k.isReg) := by cases k <;> rfl
theorem eqCnt (k : Kd) : sEq (.str k.str) (.str "counter") = some (.bool k.isCnt) := by cases k <;> rfl
theorem eqSet (k : Kd) : sEq (.str k.str) (.str "set") = some (.bool k.isSet) := by cases k <;> rfl
theorem eqMap (k : Kd) : sEq (.str k.str) (.str "map") = some (.bool k.isMap) := by cases k <;> rfl
/-- names and arguments of a kind -/
inductive Ask : Kd → Str → Option Int → Prop
  | bagP (i : Int) : Ask .bag "put" (some i)
  | bagG : Ask .bag "get" none
  | queueP (i : Int) : Ask .queue "put" (some i)
  | queueG : Ask .queue "get" none
  | stackP (i : Int) : Ask .stack "put" (some i)
  | stackG : Ask .stack "get" none
  | leastP (i : Int) : Ask .least "put" (some i)
  | leastG : Ask .least "get" none
  | regW (i : Int) : Ask .register "write" (some i)
  | regR : Ask .register "read" none
  | cntA (i : Int) : Ask .counter "add" (some i)
  | cntR : Ask .counter "read" none
  | setA (i : Int) : Ask .set "add" (some i)
  | setD (i : Int) : Ask .set "drop" (some i)
  | setH (i : Int) : Ask .set "has" (some i)
  | mapP (i : Int) : Ask .map "put" (some i)
  | mapD (i : Int) : Ask .map "drop" (some i)
  | mapG (i : Int) : Ask .map "get" (some i)
  | lockT : Ask .lock "take" none
  | lockF : Ask .lock "free" none
theorem wide100 {i : Int} (h0 : 0 ≤ i) (h : i < 2 ^ 62) : wideB 100 i = true := wide_of (a := 7) (b := 62) (by decide) (nat_lt h0 h) (by decide) (by decide) (by decide)
theorem wide1000 {i : Int} (h0 : 0 ≤ i) (h : i < 2 ^ 62) : wideB 1000 i = true := wide_of (a := 10) (b := 62) (by decide) (nat_lt h0 h) (by decide) (by decide) (by decide)
theorem le6 : 6 ≤ sizeLine := by have := sizeLine_big; omega
theorem le1 : 1 ≤ sizeLine := by have := sizeLine_big; omega
theorem le2 : 2 ≤ sizeLine := by have := sizeLine_big; omega
theorem le3 : 3 ≤ sizeLine := by have := sizeLine_big; omega
theorem le4 : 4 ≤ sizeLine := by have := sizeLine_big; omega
theorem Pot.mono {n m : Nat} {p : D} (h : Pot n p) (hm : n ≤ m) : Pot m p := by
  obtain ⟨c, f, t, e, h1, h2, h3, h4⟩ := h
  exact ⟨c, f, t, e, h1, h2, h3, by omega⟩
def AskP (n : Nat) (k : Kd) (r : Rr) (os : List D) : Prop := ∃ nm ar p', r = .v (.tuple [.str nm, optD ar]) ∧ os = [p'] ∧ Ask k nm ar ∧ Pot (n + 3) p'
theorem AskP.of {n : Nat} {k : Kd} {nm : Str} {ar : Option Int} {p : D} (h : Ask k nm ar) (hp : Pot (n + 3) p) : AskP n k (.v (.tuple [.str nm, optD ar])) [p] := ⟨nm, ar, p, rfl, rfl, h, hp⟩
end DL
/-! Dm13: deed. -/
namespace DL
open PySem PySem.Spec L2
open PyProof.Rows hiding St
theorem map_of {α : Type} {f : α → D} : ∀ {l : List D}, (∀ d ∈ l, ∃ i, d = f i) → ∃ ms : List α, l = ms.map f
  | [], _ => ⟨[], rfl⟩
  | d :: l, h => by
    obtain ⟨i, rfl⟩ := h d List.mem_cons_self
    obtain ⟨ms, rfl⟩ := map_of (l := l) fun d hd => h d (List.mem_cons_of_mem _ hd)
    exact ⟨i :: ms, rfl⟩
theorem sort_of {α : Type} {f : α → D} (ns : List α) : ∃ ms : List α, sortD (ns.map f) = ms.map f ∧ ms.length = ns.length := by
  have hp := List.mergeSort_perm (ns.map f) (PySem.W.dataLe false fun d => d)
  obtain ⟨ms, e⟩ := map_of (f := f) (l := sortD (ns.map f)) fun d hd => by
    obtain ⟨i, _, e⟩ := List.mem_map.mp (hp.mem_iff.mp hd)
    exact ⟨i, e.symm⟩
  refine ⟨ms, e, ?_⟩
  have h1 := congrArg List.length e
  rw [List.length_map] at h1
  have h2 := hp.length_eq
  rw [List.length_map] at h2
  exact h1.symm.trans h2
theorem lay_ints : ∀ ns : List Int, PyData.canLayAll0 (ns.map .int) = true
  | [] => by simp [PyData.canLayAll0]
  | n :: r => by
    rw [List.map_cons]
    unfold PyData.canLayAll0
    rw [lay_ints r]
    simp [PyData.canLay0]
def prD (p : Int × Int) : D := .tuple [.int p.1, .int p.2]
theorem lay_prs : ∀ ns : List (Int × Int), PyData.canLayAll0 (ns.map prD) = true
  | [] => by simp [PyData.canLayAll0]
  | n :: r => by
    rw [List.map_cons]
    unfold PyData.canLayAll0
    rw [lay_prs r]
    simp [PyData.canLay0, PyData.canLayAll0, prD]
theorem canSort_ints (ns : List Int) : canSort (ns.map .int) = true := by
  unfold canSort
  rw [lay_ints]
  simp [PySem.W.alike, nonTup, PyData.depth]
theorem canSort_prs (ns : List (Int × Int)) : canSort (ns.map prD) = true := by
  unfold canSort
  rw [lay_prs]
  simp [PySem.W.alike, PySem.W.alikeAll, fullTup, PyData.depth, PyData.depthAll, prD]
@[simp] theorem sSorted_t {ds : List D} : sSorted [.tuple ds] = if canSort ds = true then some (.list (sortD ds)) else none := rfl
@[simp] theorem sSorted_l {ds : List D} : sSorted [.list ds] = if canSort ds = true then some (.list (sortD ds)) else none := rfl
def DeedP (k : Kd) (m : Nat) (r : Rr) (os : List D) : Prop := os = [] ∧ ∃ (res : Option Int) (st : D), r = .v (.tuple [optD res, st]) ∧ StOk k m st
theorem DeedP.of {k : Kd} {m : Nat} {res : Option Int} {st : D} (h : StOk k m st) : DeedP k m (.v (.tuple [optD res, st])) [] := ⟨rfl, res, st, rfl, h⟩
theorem depth_ints : ∀ ns : List Int, PyData.depthAll (ns.map PyData.int) = 0
  | [] => by simp [PyData.depthAll]
  | n :: r => by
    rw [List.map_cons]
    unfold PyData.depthAll
    rw [depth_ints r]
    simp [PyData.depth]
theorem shaped_ints (ns : List Int) : SeqAt.shaped (.tuple (ns.map .int)) = true := by
  unfold SeqAt.shaped
  rw [Bool.and_eq_true, decide_eq_true_iff]
  constructor
  · unfold PyData.canLay0
    exact lay_ints ns
  · unfold PyData.depth
    rw [depth_ints]
    omega
theorem eqNil (ns : List Int) : sEq (.tuple (ns.map .int)) (.tuple []) = some (.bool ns.isEmpty) := by
  have h1 := shaped_ints ns
  have h2 := shaped_ints []
  have e : eqD (.tuple (ns.map .int)) (.tuple []) = some (PyData.eqv (.tuple (ns.map .int)) (.tuple [])) := by
    show (if SeqAt.shaped (.tuple (ns.map .int)) = true ∧ SeqAt.shaped (.tuple []) = true then some (PyData.eqv (.tuple (ns.map .int)) (.tuple [])) else none) = _
    rw [if_pos ⟨h1, h2⟩]
  unfold sEq
  rw [e]
  cases ns with
  | nil => rfl
  | cons n r =>
    rw [List.map_cons]
    unfold PyData.eqv PyData.eqvAll
    rfl
theorem last_ints (n : Int) (r : List Int) : ∃ i, atI (PyData.int n :: r.map PyData.int) (-1) = some (.int i) := by
  have e : PyData.int n :: r.map PyData.int = (n :: r).map PyData.int := rfl
  have hne : n :: r ≠ [] := List.cons_ne_nil _ _
  rw [e, ← List.dropLast_concat_getLast hne, List.map_append, List.map_cons, List.map_nil]
  exact ⟨_, atI_last _ _⟩
theorem cut_last (xs : List D) (h : xs ≠ []) : cutD xs none (some (-1)) = xs.dropLast := by
  have hl : 0 < xs.length := by
    cases xs with
    | nil => exact absurd rfl h
    | cons x r => simp
  unfold cutD
  rw [HT.sIx_none, List.drop_zero, Nat.sub_zero, List.dropLast_eq_take]
  congr 1
  unfold HT.sIx
  dsimp only
  rw [if_pos (by decide)]
  omega
theorem cut_first (xs : List D) : cutD xs (some 1) none = xs.tail := by
  unfold cutD
  rw [HT.sIx_none, show HT.sIx xs.length 0 (some 1) = min 1 xs.length from HT.sIx_nat xs.length 0 1]
  cases xs with
  | nil => rfl
  | cons x r =>
    have : min 1 (x :: r).length = 1 := by simp
    rw [this]
    show List.take ((x :: r).length - 1) r = r
    exact List.take_of_length_le (by simp)
end DL
/-! Dm14: deed of the other kinds. -/
namespace DL
open PySem PySem.Spec L2
open PyProof.Rows hiding St
theorem in4r : sIn (.str (Kd.str .register)) (.tuple [.str "bag", .str "queue", .str "stack", .str "least"]) = some (.bool false) := rfl
theorem sEqN_t : sEq (.str "write") (.str "write") = some (.bool true) := rfl
/-! set -/
theorem all_flat_ints : ∀ ns : List Int, (ns.map PyData.int).all flatD = true
  | [] => rfl
  | n :: r => by
    rw [List.map_cons, List.all_cons, all_flat_ints r]
    rfl
theorem sIn_ints (i : Int) (ns : List Int) : ∃ b : Bool, sIn (.int i) (.tuple (ns.map .int)) = some (.bool b) := by
  refine ⟨(ns.map PyData.int).any fun z => PyData.eqv z (.int i), ?_⟩
  unfold sIn
  have : inB (.int i) (.tuple (ns.map .int)) = some ((ns.map PyData.int).any fun z => PyData.eqv z (.int i)) := by
    show (if flatD (.int i) = true ∧ (ns.map PyData.int).all flatD = true then some ((ns.map PyData.int).any fun z => PyData.eqv z (.int i)) else none) = _
    rw [if_pos ⟨rfl, all_flat_ints ns⟩]
  rw [this]
  rfl
def neF (i : Int) (d : D) : Option D := match d with
  | .int j => if j = i then none else some (.int j)
  | _ => none
theorem neF_ints (i : Int) : ∀ ns : List Int, ∃ ms : List Int, (ns.map PyData.int).filterMap (neF i) = ms.map PyData.int ∧ ms.length ≤ ns.length
  | [] => ⟨[], rfl, Nat.le_refl _⟩
  | n :: r => by
    obtain ⟨ms, e, hl⟩ := neF_ints i r
    by_cases h : n = i
    · refine ⟨ms, ?_, by simp; omega⟩
      rw [List.map_cons, List.filterMap_cons_none (by simp [neF, h])]
      exact e
    · refine ⟨n :: ms, ?_, by simp; omega⟩
      rw [List.map_cons, List.filterMap_cons_some (b := .int n) (by simp [neF, h]), e]
      rfl
/-! map -/
theorem prs_eq (ns : List (Int × Int)) : (ns.map fun p => PyData.tuple [.int p.1, .int p.2]) = ns.map prD := rfl
def neK (k : Int) (d : D) : Option D := match d with
  | .tuple [.int a, .int b] => if a = k then none else some (.tuple [.int a, .int b])
  | _ => none
def eqK (k : Int) (d : D) : Option D := match d with
  | .tuple [.int a, .int b] => if a = k then some (.int b) else none
  | _ => none
theorem neK_prs (k : Int) : ∀ ns : List (Int × Int), ∃ ms : List (Int × Int), (ns.map prD).filterMap (neK k) = ms.map prD ∧ ms.length ≤ ns.length
  | [] => ⟨[], rfl, Nat.le_refl _⟩
  | n :: r => by
    obtain ⟨ms, e, hl⟩ := neK_prs k r
    by_cases h : n.1 = k
    · refine ⟨ms, ?_, by simp; omega⟩
      rw [List.map_cons, List.filterMap_cons_none (by simp [neK, prD, h])]
      exact e
    · refine ⟨n :: ms, ?_, by simp; omega⟩
      rw [List.map_cons, List.filterMap_cons_some (b := prD n) (by simp [neK, prD, h]), e]
      rfl
theorem eqK_prs (k : Int) : ∀ ns : List (Int × Int), ∃ ms : List Int, (ns.map prD).filterMap (eqK k) = ms.map PyData.int ∧ ms.length ≤ ns.length
  | [] => ⟨[], rfl, Nat.le_refl _⟩
  | n :: r => by
    obtain ⟨ms, e, hl⟩ := eqK_prs k r
    by_cases h : n.1 = k
    · refine ⟨n.2 :: ms, ?_, by simp; omega⟩
      rw [List.map_cons, List.filterMap_cons_some (b := .int n.2) (by simp [eqK, prD, h]), e]
      rfl
    · refine ⟨ms, ?_, by simp; omega⟩
      rw [List.map_cons, List.filterMap_cons_none (by simp [eqK, prD, h])]
      exact e
theorem shaped_intsL (ns : List Int) : SeqAt.shaped (.list (ns.map .int)) = true := by
  unfold SeqAt.shaped
  rw [Bool.and_eq_true, decide_eq_true_iff]
  constructor
  · unfold PyData.canLay0
    exact lay_ints ns
  · unfold PyData.depth
    rw [depth_ints]
    omega
theorem neNilL (ns : List Int) : sNe (.list (ns.map .int)) (.list []) = some (.bool (!ns.isEmpty)) := by
  have h1 := shaped_intsL ns
  have h2 := shaped_intsL []
  have e : eqD (.list (ns.map .int)) (.list []) = some (PyData.eqv (.list (ns.map .int)) (.list [])) := by
    show (if SeqAt.shaped (.list (ns.map .int)) = true ∧ SeqAt.shaped (.list []) = true then some (PyData.eqv (.list (ns.map .int)) (.list [])) else none) = _
    rw [if_pos ⟨h1, h2⟩]
  unfold sNe
  rw [e]
  cases ns with
  | nil => rfl
  | cons n r =>
    rw [List.map_cons]
    unfold PyData.eqv PyData.eqvAll
    rfl
end DL
/-! Dm15: played, its first loop. -/
namespace DL
open PySem PySem.Spec L2
open PyProof.Rows hiding St
theorem names_ok {k : Kd} {nm : Str} {ar : Option Int} (h : Ask k nm ar) : nameOk nm := by
  cases h <;> (unfold nameOk; rfl)
theorem names_lay {k : Kd} {nm : Str} {ar : Option Int} (h : Ask k nm ar) : PyData.strOk nm = true := by
  cases h <;> decide +kernel
/-- a slot, perhaps set -/
def pl : Option D → Sl
  | none => .un
  | some d => .val d
def putOk (en : En) (i : Nat) : Sl → Bool
  | .own b _ => !b && noAli en i
  | .xs => false
  | _ => true
def notAli (i : Nat) : Sl → Bool
  | .ali j => j != i
  | _ => true
theorem canPut_eq (en : En) (i : Nat) : canPut en i = (en[i]?).elim false (putOk en i) := by
  unfold canPut
  cases q : en[i]? with
  | none => rfl
  | some s => cases s <;> rfl
theorem noAli_eq (en : En) (i : Nat) : noAli en i = en.all (notAli i) := rfl
section
variable {en : En} {i j : Nat} {d : D} {b : Bool} {a : Option D}
@[simp] theorem putOk_val : putOk en i (.val d) = true := rfl
@[simp] theorem putOk_un : putOk en i .un = true := rfl
@[simp] theorem putOk_ali : putOk en i (.ali j) = true := rfl
@[simp] theorem putOk_own : putOk en i (.own b d) = (!b && noAli en i) := rfl
@[simp] theorem putOk_pl : putOk en i (pl a) = true := by cases a <;> rfl
@[simp] theorem notAli_val : notAli i (.val d) = true := rfl
@[simp] theorem notAli_un : notAli i .un = true := rfl
@[simp] theorem notAli_own : notAli i (.own b d) = true := rfl
@[simp] theorem notAli_ali : notAli i (.ali j) = (j != i) := rfl
@[simp] theorem notAli_pl : notAli i (pl a) = true := by cases a <;> rfl
theorem un_pl : Sl.un = pl none := rfl
theorem val_pl : Sl.val d = pl (some d) := rfl
end
/-- an operation as the laws draw it -/
structure Op.Drawn (o : Op) : Prop where
  ok : o.Ok
  few : o.client < 4
  shut : o.stop.isSome = true
  lay : PyData.strOk o.name = true
def Hist (m : Nat) (h : List Op) : Prop := h.length ≤ m ∧ ∀ o ∈ h, o.Drawn
/-- the state of the first loop -/
def PlayI (k : Kd) (mo : Int) (n : Nat) (i : Nat) (en : En) : Prop := ∃ (p : D) (ops : List Op) (st : D) (w mm : Int) (a7 a8 a9 a10 a11 a12 a13 : Option D),
  en = [.own true p, .val (.str k.str), .val (.int mo), .own false (.list (ops.map Op.enc)), .val st, .val (.int w), .val (.int mm), pl a7, pl a8, pl a9, pl a10, pl a11, pl a12, pl a13, .un, .un] ∧
  Pot (n + 8 * i) p ∧ ops.length = i ∧ (∀ o ∈ ops, o.Drawn) ∧ StOk k i st ∧ 0 ≤ w ∧ w < 1000
end DL
/-! Dm17: several names at once; played, whole. -/
namespace DL
open PySem PySem.Spec L2
open PyProof.Rows hiding St
section
variable {N : En → Prop} {R : En → Rr → Prop} {E : En → Ex → Prop} {PF : En → List Fx → Prop} {en : En} {i j : Nat} {is : List Nat} {xs : List Fx} {x : Fx} {d : D} {b : Bool}
def rvFx : Rv → Fx
  | .d d => .d d
  | .s i => .s i
@[simp] theorem rvFx_d : rvFx (.d d) = .d d := rfl
@[simp] theorem rvFx_s : rvFx (.s i) = .s i := rfl
@[simp] theorem RsP_xNil : RsP (xNil en) PF E = PF en [] := rfl
@[simp] theorem RsP_xCons {f : Ev} {r : Af} : RsP (xCons f r en) PF E = RsP (f en) (fun en1 x => RsP (r en1) (fun en2 xs => PF en2 (rvFx x :: xs)) E) E := by
  unfold xCons
  simp only [RsP_bind, RsP_ok]
  congr 1
@[simp] theorem RsP_xConsO {f : Ov} {r : Af} : RsP (xConsO f r en) PF E = RsP (f en) (fun en1 d => RsP (r en1) (fun en2 xs => PF en2 (.o d :: xs)) E) E := by
  unfold xConsO
  simp only [RsP_bind, RsP_ok]
@[simp] theorem OutP_parN {a : Af} : OutP (bParN is a en) N R E = RsP (a en) (fun en1 xs => aliOk is xs = true ∧ OpP (setFs en1 is xs) N) E := by
  unfold bParN
  simp only [OutP_out]
  congr 1
  funext en1 xs
  by_cases h : aliOk is xs = true
  · rw [if_pos h]
    simp only [h, true_and]
    cases setFs en1 is xs <;> rfl
  · rw [if_neg h]
    show False = _
    exact (eq_false fun z => h z.1).symm
@[simp] theorem setFs_nil : OpP (setFs en [] []) N = N en := rfl
@[simp] theorem setFs_cons : OpP (setFs en (i :: is) (x :: xs)) N = OpP (setF en i x) fun en1 => OpP (setFs en1 is xs) N := by
  have e : setFs en (i :: is) (x :: xs) = (match setF en i x with | some en1 => setFs en1 is xs | none => none) := rfl
  rw [e]
  cases setF en i x <;> rfl
@[simp] theorem setF_d : OpP (setF en i (.d d)) N = OpP (putS en i (.val d)) N := rfl
@[simp] theorem setF_o : OpP (setF en i (.o d)) N = OpP (putS en i (.own false d)) N := rfl
def OwnQ : Option Sl → Prop
  | some (.own _ _) => True
  | _ => False
@[simp] theorem OwnQ_own : OwnQ (some (.own b d)) = True := rfl
@[simp] theorem setF_s : OpP (setF en i (.s j)) N = (j ≠ i ∧ OwnQ en[j]? ∧ OpP (putS en i (.ali j)) N) := by
  unfold setF
  dsimp only
  by_cases h : j = i
  · rw [if_pos h]
    exact (eq_false fun z => z.1 h).symm
  · rw [if_neg h]
    generalize en[j]? = o
    match o with
    | none => exact (eq_false fun z => z.2.1).symm
    | some (.own a c) => simp only [OwnQ_own, ne_eq, h, not_false_eq_true, true_and]
    | some (.val c) => exact (eq_false fun z => z.2.1).symm
    | some (.ali c) => exact (eq_false fun z => z.2.1).symm
    | some .un => exact (eq_false fun z => z.2.1).symm
    | some .xs => exact (eq_false fun z => z.2.1).symm
end
def HistP (m n : Nat) (r : Rr) (os : List D) : Prop := ∃ h p', r = .v (encH h) ∧ os = [p'] ∧ Hist m h ∧ Pot n p'
end DL
/-! Dm18: spoilt. -/
namespace DL
open PySem PySem.Spec L2
open PyProof.Rows hiding St
theorem seqIx_nat {b n : Nat} (h : b < n) : seqIndex? (b : Int) n = some b := by
  unfold seqIndex?
  have h0 : ¬ ((b : Int) < 0) := by omega
  have h3 : (b : Int) < n := by omega
  simp [h0, h3]
theorem at_H {h : List Op} {b : Nat} (hb : b < h.length) (hl : h.length ≤ 1000) : sIx (encH h) (.int (b : Int)) = some h[b].enc := by
  show atI (h.map Op.enc) (b : Int) = _
  unfold atI ixN
  have h3 : (b : Int) < h.length := by omega
  simp [h3, hb]
theorem cut_from {xs : List D} {k : Nat} : cutD xs (some (k : Int)) none = xs.drop k := by
  unfold cutD
  rw [HT.sIx_none, HT.sIx_nat]
  rcases Nat.le_total k xs.length with h | h
  · rw [Nat.min_eq_left h, List.take_of_length_le (by rw [List.length_drop]; omega)]
  · rw [Nat.min_eq_right h, List.drop_of_length_le (Nat.le_refl _), List.drop_of_length_le h, List.take_nil]
theorem slf_H {h : List Op} {k : Nat} : sSl (some ((k : Int) + 1)) none (encH h) = some (encH (h.drop (k + 1))) := by
  show some (PyData.tuple (cutD (h.map Op.enc) (some ((k + 1 : Nat) : Int)) none)) = _
  rw [cut_from, ← List.map_drop]
  rfl
theorem sl5 (o : Op) : sSl none (some 5) o.enc = some (.tuple [.int o.client, .int o.start, optD o.stop, .str o.name, optD o.arg]) := rfl
theorem add_H {a b : List Op} (h : a.length + b.length ≤ 1000) : sAdd (encH a) (encH b) = some (encH (a ++ b)) := by
  have hz := sizeLine_big
  show (if (a.map Op.enc ++ b.map Op.enc).length ≤ sizeLine then some (PyData.tuple (a.map Op.enc ++ b.map Op.enc)) else none) = _
  rw [if_pos (by rw [List.length_append, List.length_map, List.length_map]; omega), ← List.map_append]
  rfl
theorem lay_opt (o : Option Int) : PyData.canLay0 (optD o) = true := by cases o <;> simp [PyData.canLay0]
theorem dep_opt (o : Option Int) : PyData.depth (optD o) = 0 := by cases o <;> simp [PyData.depth]
theorem lay_ops : ∀ h : List Op, (∀ o ∈ h, PyData.strOk o.name = true) → PyData.canLayAll0 (h.map Op.enc) = true
  | [], _ => by simp [PyData.canLayAll0]
  | o :: r, hn => by
    rw [List.map_cons]
    unfold PyData.canLayAll0
    rw [lay_ops r fun x hx => hn x (List.mem_cons_of_mem _ hx)]
    simp [PyData.canLay0, PyData.canLayAll0, Op.enc, lay_opt, hn o List.mem_cons_self]
theorem dep_ops : ∀ h : List Op, PyData.depthAll (h.map Op.enc) ≤ 1
  | [] => by simp [PyData.depthAll]
  | o :: r => by
    have ih := dep_ops r
    rw [List.map_cons]
    unfold PyData.depthAll
    have : PyData.depth o.enc ≤ 1 := by simp [Op.enc, PyData.depth, PyData.depthAll, dep_opt]
    omega
theorem shaped_H (h : List Op) (hn : ∀ o ∈ h, PyData.strOk o.name = true) : SeqAt.shaped (encH h) = true := by
  have := dep_ops h
  unfold SeqAt.shaped
  rw [Bool.and_eq_true, decide_eq_true_iff]
  constructor
  · unfold encH PyData.canLay0
    exact lay_ops h hn
  · unfold encH PyData.depth
    omega
theorem eq_nilH {h : List Op} (hn : ∀ o ∈ h, PyData.strOk o.name = true) : sEq (encH h) (.tuple []) = some (.bool (h.isEmpty)) := by
  have h1 := shaped_H h hn
  have h2 := shaped_ints []
  have e : eqD (encH h) (.tuple []) = some (PyData.eqv (encH h) (.tuple [])) := by
    show (if SeqAt.shaped (encH h) = true ∧ SeqAt.shaped (.tuple []) = true then some (PyData.eqv (encH h) (.tuple [])) else none) = _
    rw [if_pos ⟨h1, h2⟩]
  unfold sEq
  rw [e]
  cases h with
  | nil => rfl
  | cons n r =>
    unfold encH
    rw [List.map_cons]
    unfold PyData.eqv PyData.eqvAll
    rfl
theorem enc3 (o : Op) : sIx o.enc (.int 3) = some (.str o.name) := rfl
theorem enc5 (o : Op) : sIx o.enc (.int 5) = some (optD o.res) := rfl
theorem list_H (h : List Op) : sList [encH h] = some (.list (h.map Op.enc)) := rfl
theorem ixN_nat {b n : Nat} (h : b < n) : ixN n (b : Int) = some b := by
  unfold ixN
  have h3 : (b : Int) < n := by omega
  simp [h3]
theorem lenH (h : List Op) : sLen [encH h] = some (.int h.length) := by
  show some (PyData.int ((h.map Op.enc).length : Nat)) = _
  rw [List.length_map]
theorem one_H (o : Op) : PyData.tuple [o.enc] = encH [o] := rfl
theorem Hist.swap {m : Nat} {h : List Op} {b : Nat} {x : Op} (hh : Hist m h) (hb : b < h.length) (hx : x.Drawn) : Hist m (h.take b ++ [x] ++ h.drop (b + 1)) := by
  refine ⟨?_, fun o ho => ?_⟩
  · have := hh.1
    simp only [List.length_append, List.length_take, List.length_drop, List.length_cons, List.length_nil]
    omega
  · rcases List.mem_append.mp ho with z | z
    · rcases List.mem_append.mp z with z | z
      · exact hh.2 o (List.mem_of_mem_take z)
      · have : o = x := by simpa using z
        exact this ▸ hx
    · exact hh.2 o (List.mem_of_mem_drop z)
theorem Hist.cut {m : Nat} {h : List Op} {b : Nat} (hh : Hist m h) : Hist m (h.take b ++ h.drop (b + 1)) := by
  refine ⟨?_, fun o ho => ?_⟩
  · have := hh.1
    simp only [List.length_append, List.length_take, List.length_drop]
    omega
  · rcases List.mem_append.mp ho with z | z
    · exact hh.2 o (List.mem_of_mem_take z)
    · exact hh.2 o (List.mem_of_mem_drop z)
theorem Hist.put {m : Nat} {h : List Op} {b : Nat} {x : Op} (hh : Hist m h) (hx : x.Drawn) : Hist m (h.set b x) :=
  ⟨by rw [List.length_set]; exact hh.1, fun o ho => by
    rcases List.mem_or_eq_of_mem_set ho with z | z
    · exact hh.2 o z
    · exact z ▸ hx⟩
theorem Op.Drawn.withRes {o : Op} (h : o.Drawn) (r : Option Int) : ({ o with res := r } : Op).Drawn :=
  .mk (.mk h.ok.client h.ok.stop (fun z => by have := h.shut; simp only at z; rw [z] at this; cases this) h.ok.name) h.few h.shut h.lay
theorem Op.Drawn.atTimes {o : Op} (h : o.Drawn) {a b : Int} (hab : a ≤ b) : ({ o with start := a, stop := some b } : Op).Drawn :=
  .mk (.mk h.ok.client (fun e he => by cases he; exact hab) (fun z => by cases z) h.ok.name) h.few rfl h.lay
end DL
/-! Dm23: told. -/
namespace DL
open PySem PySem.Spec L2
open PyProof.Rows hiding St
theorem OutP_try {nm : Str} {i : Nat} {body suite : Bd} {en : En} {N : En → Prop} {R : En → Rr → Prop} {E : En → Ex → Prop} (h : OutP (body en) N R fun en1 x => x.cls = nm ∧ x.fs = [] ∧ canPut en1 i = true ∧ OutP (suite (en1.set i .xs)) (fun e2 => N (e2.set i .un)) (fun _ _ => False) (fun _ _ => False)) : OutP (bTry nm i body suite en) N R E := by
  unfold bTry
  cases q : body en with
  | nx e => rw [q] at h; exact h
  | rt e r => rw [q] at h; exact h
  | ex e x =>
    rw [q] at h
    obtain ⟨h1, h2, h3, h4⟩ := h
    dsimp only
    rw [if_pos ⟨h1, h2, h3⟩]
    cases q2 : suite (e.set i .xs) with
    | nx e2 => rw [q2] at h4; exact h4
    | rt e2 r => rw [q2] at h4; exact h4.elim
    | ex e2 r => rw [q2] at h4; exact h4.elim
    | bk e2 => rw [q2] at h4; exact h4.elim
    | ct e2 => rw [q2] at h4; exact h4.elim
    | no => rw [q2] at h4; exact h4.elim
  | bk e => rw [q] at h; exact h.elim
  | ct e => rw [q] at h; exact h.elim
  | no => rw [q] at h; exact h.elim
@[simp] theorem RsP_isE {i : Nat} {b : Bool} {en : En} {P : En → Rv → Prop} {E : En → Ex → Prop} : RsP (xIsE i b en) P E = (en[i]? = some .xs ∧ P en (.d (.bool b))) := by
  unfold xIsE
  cases q : en[i]? with
  | none => exact (eq_false fun z => nomatch z.1).symm
  | some s =>
    cases s <;> first
      | exact (eq_true rfl ▸ (true_and _).symm : _)
      | (refine (eq_false fun z => ?_).symm; exact nomatch z.1)
      | (simp; rfl)
end DL
/-! Dm26: same at a list of pairs. -/
namespace DL
open PySem PySem.Spec L2
open PyProof.Rows hiding St
theorem befs_in {h : List Op} {d : D} (hd : d ∈ befs h) : ∃ (i j : Nat) (a b : Op), d = .tuple [.int i, .int j] ∧ h[i]? = some a ∧ h[j]? = some b ∧ bef a b = true := by
  unfold befs at hd
  obtain ⟨x, hx, hd⟩ := List.mem_flatMap.mp hd
  obtain ⟨y, hy, e⟩ := List.mem_filterMap.mp hd
  obtain ⟨i, hi, rfl⟩ := List.mem_map.mp hx
  obtain ⟨j, hj, rfl⟩ := List.mem_map.mp hy
  dsimp only at e
  have ti : (0 + (i : Int)).toNat = i := by omega
  have tj : (0 + (j : Int)).toNat = j := by omega
  rw [ti, tj] at e
  cases qa : h[i]? with
  | none => rw [qa] at e; cases e
  | some a =>
    cases qb : h[j]? with
    | none => rw [qa, qb] at e; cases e
    | some b =>
      rw [qa, qb] at e
      dsimp only at e
      split at e
      · rename_i hb
        refine ⟨i, j, a, b, ?_, qa, qb, hb⟩
        have := Option.some.inj e
        rw [← this]
        simp
      · cases e
end DL
/-! Dm27: same at befs. -/
namespace DL
open PySem PySem.Spec L2
open PyProof.Rows hiding St
theorem okSs_mem : ∀ {ds : List D}, (∀ d ∈ ds, okS d = true) → okSs ds = true
  | [], _ => rfl
  | d :: r, h => by
    unfold okSs
    rw [h d List.mem_cons_self, okSs_mem fun x hx => h x (List.mem_cons_of_mem _ hx)]
    rfl
theorem depthAll_mem {k : Nat} : ∀ {ds : List D}, (∀ d ∈ ds, PyData.depth d ≤ k) → PyData.depthAll ds ≤ k
  | [], _ => by simp [PyData.depthAll]
  | d :: r, h => by
    have h1 := h d List.mem_cons_self
    have h2 := depthAll_mem (ds := r) fun x hx => h x (List.mem_cons_of_mem _ hx)
    unfold PyData.depthAll
    omega
theorem same_befs {h : List Op} (hl : (befs h).length ≤ 5000) : f__law_same 12 [.v (.list (befs h)), .v (.list (befs h))] = .ok (.v (.bool true)) [] := by
  have hz := sizeLine_big
  refine Yes.eq (same_ok 12 _ ?_ ?_)
  · have := depthAll_mem (k := 1) (ds := befs h) fun d hd => by
      obtain ⟨i, j, a, b, rfl, _⟩ := befs_in hd
      simp [PyData.depth, PyData.depthAll]
    unfold PyData.depth
    omega
  · unfold okS
    rw [okSs_mem fun d hd => by
      obtain ⟨i, j, a, b, rfl, _⟩ := befs_in hd
      simp only [okS, okSs, Bool.and_true, decide_eq_true_eq]
      show 2 ≤ sizeLine
      omega]
    simp
    omega
end DL
/-! Dm30: slots that may be set. -/
namespace DL
open PySem PySem.Spec L2
open PyProof.Rows hiding St
section
variable {en en3 : En} {d e : D} {b : Bool} {a : Option D} {t : Sl} {i : Nat}
@[simp] theorem pl_some : pl (some d) = .val d := rfl
@[simp] theorem pl_none : pl none = .un := rfl
theorem wipe1 (q : en[i]? = some (pl a)) : wipeE en [i] = some (en.set i .un) := by
  cases a <;> simp only [wipeE, q, pl]
theorem unw_nil : unw [] [] = some [] := rfl
theorem unw_val : unw (.val d :: en) (t :: en3) = (unw en en3).map (.val d :: ·) := by
  generalize hq : unw en en3 = q
  simp only [unw, hq]
  cases q <;> rfl
theorem unw_un : unw (.un :: en) (t :: en3) = (unw en en3).map (.un :: ·) := by
  generalize hq : unw en en3 = q
  simp only [unw, hq]
  cases q <;> rfl
theorem unw_pl : unw (pl a :: en) (t :: en3) = (unw en en3).map (pl a :: ·) := by
  cases a
  · exact unw_un
  · exact unw_val
theorem unw_own : unw (.own b d :: en) (.own b e :: en3) = (unw en en3).map (.own b e :: ·) := by
  generalize hq : unw en en3 = q
  simp only [unw, hq]
  cases q
  · rfl
  · simp
/-- A, and at k the thing v -/
def upd (A : Nat → Option D) (k : Nat) (v : Option D) : Nat → Option D := fun i => if i = k then v else A i
end
end DL
/-! Dn1: more forms, read. -/
namespace DL
open PySem PySem.Spec L2
open PyProof.Rows hiding St
section
variable {en : En} {fa fb fc : Ev} {P : En → Rv → Prop} {PD : En → D → Prop} {PA : En → List Rv → Prop} {E : En → Ex → Prop} {N : En → Prop} {R : En → Rr → Prop} {i : Nat} {b : Bool} {d e : D} {av : Av}
@[simp] theorem RsP_lrg2 : RsP (oLRg2 fa fb en) PD E = RsP (fa en) (fun en1 x => RsP (fb en1) (fun en2 y => IntP x fun i => IntP y fun j => rgOk i j = true ∧ PD en2 (.list (rng2 i j))) E) E := by
  unfold oLRg2
  simp only [RsP_bind]
  congr 1
  funext en1 x
  congr 1
  funext en2 y
  unfold IntP
  cases x with
  | s i => rfl
  | d d =>
    cases d <;> try rfl
    cases y with
    | s i => rfl
    | d d =>
      cases d <;> try rfl
      dsimp only
      split
      · rename_i h; simp [h, rng2]
      · rename_i h; simp [h]
def TupP (x : Rv) (Q : List D → Prop) : Prop := match x with
  | .d (.tuple ds) => Q ds
  | _ => False
@[simp] theorem TupP_t {ds : List D} {Q : List D → Prop} : TupP (.d (.tuple ds)) Q = Q ds := rfl
@[simp] theorem RsP_star {r : Av} : RsP (aStar fa r en) PA E = RsP (fa en) (fun en1 x => TupP x fun ds => RsP (r en1) (fun en2 xs => PA en2 (ds.map Rv.d ++ xs)) E) E := by
  unfold aStar
  simp only [RsP_bind]
  congr 1
  funext en1 x
  unfold TupP
  cases x with
  | s i => rfl
  | d d =>
    cases d <;> try rfl
    simp only [RsP_bind, RsP_ok]
@[simp] theorem freeD_app {ds : List D} {rs : List Rv} : freeD en (ds.map Rv.d ++ rs) = (freeD en rs).map fun es => ds ++ es := by
  induction ds with
  | nil =>
    show freeD en rs = _
    cases freeD en rs <;> rfl
  | cons d ds ih =>
    rw [List.map_cons, List.cons_append, freeD_d, ih]
    cases freeD en rs <;> rfl
def VarO (en : En) (i : Nat) (s : Option Sl) (P : En → D → Prop) : Prop := match s with
  | some (.own false d) => canPut en i = true ∧ P (en.set i .un) d
  | _ => False
@[simp] theorem VarO_own : VarO en i (some (.own false d)) PD = (canPut en i = true ∧ PD (en.set i .un) d) := rfl
@[simp] theorem RsP_oVar : RsP (oVar i en) PD E = VarO en i en[i]? PD := by
  unfold oVar VarO
  generalize en[i]? = s
  cases s with
  | none => rfl
  | some s =>
    cases s <;> try rfl
    rename_i b d
    cases b <;> try rfl
    dsimp only
    split
    · rename_i h; simp [h]
    · rename_i h; simp [h]
def Call0P (r : Rf) (Q : D → Prop) : Prop := match r with
  | .ok (.v d) [] => Q d
  | _ => False
@[simp] theorem Call0P_ok {Q : D → Prop} : Call0P (.ok (.v d) []) Q = Q d := rfl
@[simp] theorem RsP_call0 {fs : Fs} : RsP (dCall0 fs en) P E = Call0P (fs []) fun d => P en (.d d) := by
  unfold dCall0 Call0P
  generalize fs [] = r
  cases r with
  | ok a os =>
    cases a with
    | v d => cases os <;> rfl
    | o d => rfl
  | ex x os => rfl
  | no => rfl
@[simp] theorem RsP_meth {q : D → Bool} {sem : D → List D → Option D} : RsP (dMeth q sem fa av en) P E = RsP (fa en) (fun en1 x => OpP (res en1 x) fun d0 => q d0 = true ∧ RsP (av en1) (fun en2 xs => OpP (res en2 x) fun d => OpP (resAll en2 xs) fun ds => OpP (sem d ds) fun r => P en2 (.d r)) E) E := by
  unfold dMeth
  simp only [RsP_bind]
  congr 1
  funext en1 x
  cases res en1 x with
  | none => rfl
  | some d0 =>
    simp only [OpP_some]
    split
    · rename_i h
      simp only [h, true_and, RsP_bind]
      congr 1
      funext en2 xs
      cases res en2 x with
      | none => rfl
      | some d =>
        cases resAll en2 xs with
        | none => rfl
        | some ds =>
          simp only [OpP_some]
          cases sem d ds <;> rfl
    · rename_i h
      simp [h]
theorem OutP_tryM {cl : List (Str × Bd)} {body : Bd} (h : OutP (body en) N R fun en1 x => x.fs = [] ∧ ∃ sb, findC cl x.cls = some sb ∧ OutP (sb en1) N R (fun _ _ => False)) : OutP (bTryM cl body en) N R E := by
  unfold bTryM
  cases q : body en with
  | nx e => rw [q] at h; exact h
  | rt e r => rw [q] at h; exact h
  | ex e x =>
    rw [q] at h
    obtain ⟨h1, sb, h2, h3⟩ := h
    dsimp only
    rw [if_pos h1, h2]
    dsimp only
    cases q2 : sb e with
    | nx e2 => rw [q2] at h3; exact h3
    | rt e2 r => rw [q2] at h3; exact h3
    | ex e2 r => rw [q2] at h3; exact h3.elim
    | bk e2 => rw [q2] at h3; exact h3.elim
    | ct e2 => rw [q2] at h3; exact h3.elim
    | no => rw [q2] at h3; exact h3.elim
  | bk e => rw [q] at h; exact h.elim
  | ct e => rw [q] at h; exact h.elim
  | no => rw [q] at h; exact h.elim
def DPutS (en : En) (s : Option Sl) (i : Nat) (k d : D) (N : En → Prop) : Prop := match s with
  | some (.own b (.dict ps)) => (keyOf k).isSome = true ∧ noHead ps = true ∧ ps.length < sizeLine ∧ N (en.set i (.own b (.dict (putP ps k d))))
  | _ => False
@[simp] theorem DPutS_own {ps : List (D × D)} {k : D} : DPutS en (some (.own b (.dict ps))) i k d N = ((keyOf k).isSome = true ∧ noHead ps = true ∧ ps.length < sizeLine ∧ N (en.set i (.own b (.dict (putP ps k d))))) := rfl
@[simp] theorem OutP_dput : OutP (bDPut fa fb fc en) N R E = RsP (fc en) (fun en1 x => RsP (fa en1) (fun en2 o => RsP (fb en2) (fun en3 y => DP_ x fun d => SP_ o fun i => DP_ y fun k => DPutS en3 en3[i]? i k d N) E) E) E := by
  unfold bDPut
  simp only [OutP_out]
  congr 1
  funext en1 x
  congr 1
  funext en2 o
  congr 1
  funext en3 y
  cases x with
  | s j => rfl
  | d d =>
    cases o with
    | d d2 => rfl
    | s j =>
      cases y with
      | s j2 => rfl
      | d k =>
        simp only [DP_d, SP_s]
        unfold DPutS
        generalize en3[j]? = s
        cases s with
        | none => rfl
        | some s =>
          cases s <;> try rfl
          rename_i bb dd
          cases dd <;> try rfl
          rename_i ps
          dsimp only
          split
          · rename_i h; simp [h]
          · rename_i h
            exact (eq_false fun z => h ⟨z.1, z.2.1, z.2.2.1⟩).symm
@[simp] theorem RsP_disp {l : List (D × Ev)} : RsP (oDisp l en) PD E = RsP (pairsM l en []) (fun en1 ps => PD en1 (.dict ps)) E := by
  unfold oDisp
  simp only [RsP_bind, RsP_ok]
@[simp] theorem RsP_pairs0 {acc : List (D × D)} {PL : En → List (D × D) → Prop} : RsP (pairsM [] en acc) PL E = PL en acc := rfl
theorem RsP_pairs {k : D} {fv : Ev} {r : List (D × Ev)} {acc : List (D × D)} {PL : En → List (D × D) → Prop} (h : RsP (fv en) (fun en1 x => DP_ x fun d => OpP (unw en en1) fun en2 => RsP (pairsM r en2 (putP acc k d)) PL E) fun _ _ => False) : RsP (pairsM ((k, fv) :: r) en acc) PL E := by
  unfold pairsM
  cases q : fv en with
  | ok en1 x =>
    rw [q] at h
    simp only [RsP_ok] at h
    cases x with
    | s j => exact h.elim
    | d d =>
      simp only [DP_d] at h
      dsimp only
      cases q2 : unw en en1 with
      | none => rw [q2] at h; exact h.elim
      | some en2 => rw [q2] at h; exact h
  | ex en1 x => rw [q] at h; exact h.elim
  | no => rw [q] at h; exact h.elim
end
end DL
/-! De1: pick, turns, kinds, first, shuffled. -/
namespace DL
open PySem PySem.Spec L2
open PyProof.Rows hiding St
theorem at_list {ds : List D} {a : Int} (h0 : 0 ≤ a) (h1 : a < ds.length) : ∃ d ∈ ds, sIx (.list ds) (.int a) = some d := by
  obtain ⟨k, rfl⟩ : ∃ k : Nat, a = (k : Int) := ⟨a.toNat, by omega⟩
  have hk : k < ds.length := by omega
  refine ⟨ds[k], List.getElem_mem hk, ?_⟩
  show atI ds (k : Int) = _
  rw [atI_n]
  exact List.getElem?_eq_getElem hk
theorem pick_then {n : Nat} {p : D} {ds : List D} {P : Rr → List D → Prop} {E : Ex → List D → Prop} (hp : Pot n p) (hn : n ≤ 900000) (h0 : 0 < ds.length) (hl : ds.length ≤ 1000) (h : ∀ d p', d ∈ ds → Pot (n + 1) p' → P (.v d) [p']) : RfP (f__law_pick [.o p, .v (.list ds)]) P E := by
  refine RfP_run rfl ?_
  simp -implicitDefEqProofs [b__law_pick, startEn, arSl, CallP]
  refine draw_then hp (by omega) (by omega) (by omega) fun a p1 h1 h2 hp1 => ?_
  obtain ⟨d, hd, e⟩ := at_list h1 h2
  simp -implicitDefEqProofs [-sIx_l, e, outsOf]
  exact h d p1 hd hp1
def kindL : List D := [.str "bag", .str "queue", .str "stack", .str "least", .str "register", .str "counter", .str "set", .str "map", .str "lock"]
theorem kindL_at : ∀ d ∈ kindL, ∃ k : Kd, d = .str k.str := by
  intro d hd
  simp only [kindL, List.mem_cons, List.not_mem_nil, or_false] at hd
  rcases hd with rfl | rfl | rfl | rfl | rfl | rfl | rfl | rfl | rfl
  · exact ⟨.bag, rfl⟩
  · exact ⟨.queue, rfl⟩
  · exact ⟨.stack, rfl⟩
  · exact ⟨.least, rfl⟩
  · exact ⟨.register, rfl⟩
  · exact ⟨.counter, rfl⟩
  · exact ⟨.set, rfl⟩
  · exact ⟨.map, rfl⟩
  · exact ⟨.lock, rfl⟩
theorem popAt_l {ds : List D} {b : Nat} (h : b < ds.length) (h2 : ds.length ≤ 1000) : mPopAt (.list ds) [.int (b : Int)] = some (ds[b], .list (ds.eraseIdx b)) := by
  have e1 : seqIndex? (b : Int) ds.length = some b := seqIx_nat h
  unfold mPopAt
  dsimp only
  rw [if_pos (by omega), e1]
  dsimp only
  rw [List.getElem?_eq_getElem h]
theorem erase_perm {α : Type} {l : List α} {b : Nat} (h : b < l.length) : (l[b] :: l.eraseIdx b).Perm l := by
  rw [List.eraseIdx_eq_take_drop_succ]
  have e : l = l.take b ++ l[b] :: l.drop (b + 1) := by rw [List.getElem_cons_drop, List.take_append_drop]
  exact (List.perm_middle.symm).trans (List.Perm.of_eq e.symm)
end DL
/-! Dh1: steps of a program: what stands where; the program's look and the law's. -/
namespace DL
open PySem PySem.Spec L2
open PyProof.Rows hiding St
/-! a comprehension that changes the state -/
theorem RsP_compS {vs : List Nat} {tg : Tg} {tt : Tv} {el : Ev} {PD : En → D → Prop} {E : En → Ex → Prop} (I : Nat → En → List D → Prop) : ∀ (ds : List D) (k : Nat) (en : En) (acc : List D), I k en acc → acc.length + ds.length ≤ sizeLine →
    (∀ i d en acc, I i en acc → d ∈ ds → i < k + ds.length → ∃ en0, wipeE en vs = some en0 ∧ OpP (tg d en0) fun en1 => RsP (tt en1) (fun en2 k => k = true ∧ RsP (el en2) (fun en3 r => DP_ r fun y => ∃ e4, unw en en3 = some e4 ∧ I (i + 1) e4 (acc ++ [y])) fun _ _ => False) fun _ _ => False) →
    (∀ en acc, I (k + ds.length) en acc → PD en (.list acc)) → RsP (compL vs tg tt el ds en acc) PD E
  | [], k, en, acc, h, _, _, p => by unfold compL; exact p en acc h
  | d :: ds, k, en, acc, h, hl, st, p => by
    obtain ⟨en0, hw, h1⟩ := st k d en acc h List.mem_cons_self (by rw [List.length_cons]; omega)
    unfold compL
    rw [hw]
    dsimp only
    cases q : tg d en0 with
    | none => rw [q] at h1; exact h1.elim
    | some en1 =>
      rw [q] at h1
      dsimp only
      cases q2 : tt en1 with
      | no => have h1 : RsP (tt en1) _ _ := h1; rw [q2] at h1; exact h1.elim
      | ex en2 x => have h1 : RsP (tt en1) _ _ := h1; rw [q2] at h1; exact h1.elim
      | ok en2 b =>
        have h1 : RsP (tt en1) _ _ := h1
        rw [q2] at h1
        obtain ⟨rfl, h1⟩ := h1
        dsimp only
        cases q3 : el en2 with
        | no => rw [q3] at h1; exact h1.elim
        | ex en3 x => rw [q3] at h1; exact h1.elim
        | ok en3 r =>
          rw [q3] at h1
          cases r with
          | s i => exact h1.elim
          | d y =>
            obtain ⟨e4, hu, hi⟩ := h1
            dsimp only
            rw [if_pos (by simp at hl; omega), hu]
            dsimp only
            exact RsP_compS I ds (k + 1) e4 (acc ++ [y]) hi (by simp at hl ⊢; omega) (fun i d' en' acc' h' hd hlt => st i d' en' acc' h' (List.mem_cons_of_mem _ hd) (by rw [List.length_cons]; omega)) fun en' acc' h' => p en' acc' (by
              rw [List.length_cons, show k + (ds.length + 1) = k + 1 + ds.length by omega]
              exact h')
/-! what a step is -/
def isI : D → Bool
  | .int _ => true
  | _ => false
def inR (hi : Int) : D → Bool
  | .int i => decide (0 ≤ i) && decide (i ≤ hi)
  | _ => false
def fitC (n : Int) (c : Nat) (d : D) : Bool := if c = 114 then inR 5 d else if c = 110 then isI d else inR (n - 1) d
def fitsL (n : Int) : List Nat → List D → Bool
  | c :: cs, d :: ds => fitC n c d && fitsL n cs ds
  | [], [] => true
  | _, _ => false
def stB (n : Int) : D → Bool
  | .tuple (.str w :: ps) => match txtAt c_FORMS w with
    | some f => fitsL n f.cps.toList ps
    | none => false
  | _ => false
def forms : List Str := ["rn", "rr", "rrr", "s", "rs", "r", ""]
theorem form_in {w f : Str} (h : txtAt c_FORMS w = some f) : f ∈ forms := by
  unfold txtAt at h
  obtain ⟨r, h1, rfl⟩ := Option.map_eq_some_iff.mp h
  have h2 := List.mem_of_find?_eq_some h1
  simp only [c_FORMS, List.mem_cons, List.not_mem_nil, or_false] at h2
  rcases h2 with rfl | rfl | rfl | rfl | rfl | rfl | rfl | rfl | rfl | rfl | rfl <;> decide
theorem form_len {w f : Str} (h : txtAt c_FORMS w = some f) : f.cps.toList.length ≤ 3 := by
  have := form_in h
  revert this
  generalize f = x
  intro hx
  have : ∀ y ∈ forms, y.cps.toList.length ≤ 3 := by decide
  exact this x hx
def noD : D → Bool
  | .dict _ => false
  | _ => true
theorem isInt_d {d : D} (h : noD d = true) : f_is_integer [.v d] = .ok (.v (.bool (isI d))) [] := by cases d <;> first | rfl | cases h
theorem law_isInt {d : D} (h : noD d = true) : f__law_is_integer [.v d] = .ok (.v (.bool (isI d))) [] := by cases d <;> first | rfl | cases h
theorem isBetween (lo hi : Int) {d : D} (h : noD d = true) : f_is_between [.v (.int lo), .v d, .v (.int hi)] = .ok (.v (.bool (match d with | .int i => decide (lo ≤ i) && decide (i ≤ hi) | _ => false))) [] := by
  cases d with
  | int i =>
    refine Gives.eq (RfP_run rfl ?_)
    simp -implicitDefEqProofs [b_is_between, startEn, arSl, outsOf, CallP, isInt_d h, isI]
    by_cases q : lo ≤ i <;> simp -implicitDefEqProofs [q]
  | dict _ => cases h
  | _ => rfl
theorem isIndex (n : Int) {d : D} (h : noD d = true) : f_is_index [.v (.int n), .v d] = .ok (.v (.bool (inR (n - 1) d))) [] := by
  refine Gives.eq (RfP_run rfl ?_)
  simp -implicitDefEqProofs [b_is_index, startEn, arSl, outsOf, CallP, isBetween _ _ h]
  cases d <;> rfl
theorem str1_eq (c e : Nat) : ((⟨#[c]⟩ : Str) = ⟨#[e]⟩) ↔ c = e := by
  constructor
  · intro h
    injection h with h
    have := congrArg Array.toList h
    simpa using this
  · rintro rfl
    rfl
theorem fits_ok (n : Int) (c : Nat) {d : D} (h : noD d = true) : f_fits [.v (.str ⟨#[c]⟩), .v (.int n), .v d] = .ok (.v (.bool (fitC n c d))) [] := by
  have e1 : ((⟨#[c]⟩ : Str) == "r") = decide (c = 114) := by
    rw [show ("r" : Str) = ⟨#[114]⟩ from rfl]
    rw [Bool.eq_iff_iff, beq_iff_eq, decide_eq_true_iff]
    exact str1_eq c 114
  have e2 : ((⟨#[c]⟩ : Str) == "n") = decide (c = 110) := by
    rw [show ("n" : Str) = ⟨#[110]⟩ from rfl]
    rw [Bool.eq_iff_iff, beq_iff_eq, decide_eq_true_iff]
    exact str1_eq c 110
  have s1 : sEq (.str ⟨#[c]⟩) (.str "r") = some (.bool (decide (c = 114))) := by rw [← e1]; rfl
  have s2 : sEq (.str ⟨#[c]⟩) (.str "n") = some (.bool (decide (c = 110))) := by rw [← e2]; rfl
  refine Gives.eq (RfP_run rfl ?_)
  generalize hx : PyData.str ⟨#[c]⟩ = x at s1 s2
  simp -implicitDefEqProofs [b_fits, startEn, arSl, outsOf, CallP, isIndex _ h, isInt_d h, s1, s2, c_REGISTERS]
  unfold fitC
  by_cases h1 : c = 114
  · simp -implicitDefEqProofs [h1]
  · by_cases h2 : c = 110
    · simp -implicitDefEqProofs [h2]
    · simp -implicitDefEqProofs [h1, h2]
theorem eq_nilT {ds : List D} (h : SeqAt.shaped (.tuple ds) = true) : sEq (.tuple ds) (.tuple []) = some (.bool ds.isEmpty) := by
  have e : eqD (.tuple ds) (.tuple []) = some (PyData.eqv (.tuple ds) (.tuple [])) := by
    show (if SeqAt.shaped (.tuple ds) = true ∧ SeqAt.shaped (.tuple []) = true then some (PyData.eqv (.tuple ds) (.tuple [])) else none) = _
    rw [if_pos ⟨h, rfl⟩]
  unfold sEq
  rw [e]
  cases ds with
  | nil => rfl
  | cons n r => rfl
end DL
/-! Dh2: the program's look at a step. -/
namespace DL
open PySem PySem.Spec L2
open PyProof.Rows hiding St
def sgn (cs : List Nat) : List D := cs.map fun c => .str ⟨#[c]⟩
def fitF (n : Int) : D → Option D
  | .tuple [.str x, p] => some (.bool (fitC n (x.cps.toList.headD 0) p))
  | _ => none
theorem fit_bools (n : Int) : ∀ (cs : List Nat) (ps : List D), cs.length = ps.length → ∃ bs, boolsD ((zipD (sgn cs) ps).filterMap (fitF n)) = some bs ∧ bs.all id = fitsL n cs ps
  | [], [], _ => ⟨[], rfl, rfl⟩
  | [], _ :: _, h => by cases h
  | _ :: _, [], h => by cases h
  | c :: cs, p :: ps, h => by
    obtain ⟨bs, h1, h2⟩ := fit_bools n cs ps (by simpa using h)
    refine ⟨fitC n c p :: bs, ?_, ?_⟩
    · show (boolsD ((zipD (sgn cs) ps).filterMap (fitF n))).map _ = _
      rw [h1]
      rfl
    · rw [List.all_cons, h2]
      rfl
theorem fit_all (n : Int) {cs : List Nat} {ps : List D} (h : cs.length = ps.length) : sAll [.list ((zipD (sgn cs) ps).filterMap (fitF n))] = some (.bool (fitsL n cs ps)) := by
  obtain ⟨bs, h1, h2⟩ := fit_bools n cs ps h
  show (boolsD ((zipD (sgn cs) ps).filterMap (fitF n))).map _ = _
  rw [h1, ← h2]
  rfl
theorem fits_len (n : Int) : ∀ {cs : List Nat} {ps : List D}, fitsL n cs ps = true → cs.length = ps.length
  | [], [], _ => rfl
  | [], _ :: _, h => by cases h
  | _ :: _, [], h => by cases h
  | c :: cs, p :: ps, h => by
    unfold fitsL at h
    rw [Bool.and_eq_true] at h
    rw [List.length_cons, List.length_cons, fits_len n h.2]
theorem isTupleOf (n : Int) (ds : List D) : f_is_tuple_of [.v (.int n), .v (.tuple ds)] = .ok (.v (.bool ((ds.length : Int) == n))) [] := rfl
theorem zip_mem : ∀ {cs : List Nat} {ps : List D} {d : D}, d ∈ zipD (sgn cs) ps → ∃ c p, d = .tuple [.str ⟨#[c]⟩, p] ∧ p ∈ ps
  | [], _, d, h => by cases h
  | _ :: _, [], d, h => by cases h
  | c :: cs, p :: ps, d, h => by
    rcases List.mem_cons.mp h with rfl | h
    · exact ⟨c, p, rfl, List.mem_cons_self⟩
    · obtain ⟨c', p', h1, h2⟩ := zip_mem h
      exact ⟨c', p', h1, List.mem_cons_of_mem _ h2⟩
@[simp] theorem sKdNin_s {rows : List SRow} {x : Str} : sKdNin rows (.str x) = some (.bool (!(txtAt rows x).isSome)) := rfl
@[simp] theorem sKdAt_s {rows : List SRow} {x : Str} : sKdAt rows (.str x) = (txtAt rows x).map .str := rfl
def ZipP (xs : List Rv) (Q : List D → Prop) : Prop := match xs with
  | [.d (.str x), .d (.tuple bs)] => Q (zipD (signs x) bs)
  | _ => False
@[simp] theorem ZipP_s {x : Str} {bs : List D} {Q : List D → Prop} : ZipP [.d (.str x), .d (.tuple bs)] Q = Q (zipD (signs x) bs) := rfl
@[simp] theorem RsP_zipS {fa fb : Ev} {en : En} {PI : En → List D → Prop} {E : En → Ex → Prop} : RsP (iZipS fa fb en) PI E = RsP (aCons fa (aCons fb aNil) en) (fun en1 xs => ZipP xs fun ds => PI en1 ds) E := by
  unfold iZipS
  simp only [RsP_bind]
  congr 1
  funext en1 xs
  match xs with
  | [] => rfl
  | [.s _] => rfl
  | [.d d] => cases d <;> rfl
  | .s _ :: _ :: _ => rfl
  | [.d d, .s _] => cases d <;> rfl
  | [.d d, .d e] => cases d <;> cases e <;> rfl
  | .d d :: .d e :: _ :: _ => cases d <;> cases e <;> rfl
  | .d d :: .s _ :: _ :: _ => cases d <;> rfl
theorem is_step_ok {n : Int} {d : D} (hd : noD d = true) (hs : SeqAt.shaped d = true) (hp : ∀ ds, d = .tuple ds → ∀ p ∈ ds, noD p = true) : f_is_step [.v (.int n), .v d] = .ok (.v (.bool (stB n d))) [] := by
  have hz := sizeLine_big
  refine Gives.eq (RfP_run rfl ?_)
  cases d with
  | dict kvs => cases hd
  | none => simp -implicitDefEqProofs [b_is_step, startEn, arSl, outsOf, stB]
  | bool b => simp -implicitDefEqProofs [b_is_step, startEn, arSl, outsOf, stB]
  | int i => simp -implicitDefEqProofs [b_is_step, startEn, arSl, outsOf, stB]
  | str x => simp -implicitDefEqProofs [b_is_step, startEn, arSl, outsOf, stB]
  | list ds => simp -implicitDefEqProofs [b_is_step, startEn, arSl, outsOf, stB]
  | tuple ds =>
    have e0 := eq_nilT hs
    have hp := hp ds rfl
    cases ds with
    | nil => simp -implicitDefEqProofs [b_is_step, startEn, arSl, outsOf, stB, e0]
    | cons w ps =>
      have hw := hp w List.mem_cons_self
      cases w with
      | dict kvs => cases hw
      | none => simp -implicitDefEqProofs [b_is_step, startEn, arSl, outsOf, stB, e0]
      | bool b => simp -implicitDefEqProofs [b_is_step, startEn, arSl, outsOf, stB, e0]
      | int i => simp -implicitDefEqProofs [b_is_step, startEn, arSl, outsOf, stB, e0]
      | list ds => simp -implicitDefEqProofs [b_is_step, startEn, arSl, outsOf, stB, e0]
      | tuple ds => simp -implicitDefEqProofs [b_is_step, startEn, arSl, outsOf, stB, e0]
      | str x =>
        cases et : txtAt c_FORMS x with
        | none => simp -implicitDefEqProofs [b_is_step, startEn, arSl, outsOf, stB, e0, et]
        | some f =>
          have hf := form_len et
          have hfl : f.length = f.cps.toList.length := by simp [Str.length]
          have hl : sLen [.str f] = some (.int (f.length : Nat)) := by
            show (if f.length ≤ sizeLine then some f.length else none).map _ = _
            rw [if_pos (by omega)]
            rfl
          have e1 := isTupleOf ((f.length : Nat) + 1 : Int) (PyData.str x :: ps)
          have es : stB n (.tuple (.str x :: ps)) = fitsL n f.cps.toList ps := by
            show (match txtAt c_FORMS x with | some f => fitsL n f.cps.toList ps | none => false) = _
            rw [et]
          rw [es]
          have ecut : cutD (PyData.str x :: ps) (some 1) none = ps := cut_first _
          simp -implicitDefEqProofs [b_is_step, startEn, arSl, outsOf, stB, e0, et, hl, CallP, e1, ecut]
          refine ⟨rfl, ?_⟩
          by_cases el : (ps.length : Int) = f.length
          · rw [if_pos el]
            have el2 : f.cps.toList.length = ps.length := by omega
            have esg : signs f = sgn f.cps.toList := rfl
            rw [esg]
            refine RsP_compL (fitF n) rfl (by rw [zipD_len]; unfold sgn; rw [List.length_map]; omega) (fun d hd => ?_) ?_
            · obtain ⟨c, p, rfl, hpm⟩ := zip_mem hd
              have e2 := fits_ok n c (hp p (List.mem_cons_of_mem _ hpm))
              have e3 : fitF n (.tuple [.str ⟨#[c]⟩, p]) = some (.bool (fitC n c p)) := rfl
              generalize PyData.str ⟨#[c]⟩ = y at e2 e3
              simp -implicitDefEqProofs [tgTup, tgCons, tgNil, tgName, putS, canPut, noAli, unw, CallP, e2, e3]
            · rw [fit_all n el2]
              rfl
          · rw [if_neg el]
            cases q : fitsL n f.cps.toList ps with
            | false => rfl
            | true => exact absurd (fits_len n q) (by omega)
end DL
/-! Dh3: the law's look at a step. -/
namespace DL
open PySem PySem.Spec L2
open PyProof.Rows hiding St
@[irreducible] def ls_0 : Bd := (bSetO 2 (oDisp (keysL [(.inr "const" , dC (.str "rn")) , (.inr "move" , dC (.str "rr")) , (.inr "add" , dC (.str "rrr")) , (.inr "load" , dC (.str "rr")) , (.inr "store" , dC (.str "rr")) , (.inr "swap" , dC (.str "rrr")) , (.inr "jump" , dC (.str "s")) , (.inr "zero" , dC (.str "rs"))])))
@[irreducible] def ls_1 : Bd := (bAsg (dTup (aCons (dC (.str "r")) (aCons (dC (.str "r")) (aCons (dC (.str "")) (aNil))))) (hTup 3 (hCons (hDSub (dVar 2) (dC (.str "fresh"))) (hCons (hDSub (dVar 2) (dC (.str "return"))) (hCons (hDSub (dVar 2) (dC (.str "none"))) (hNil))))))
@[irreducible] def ls_2 : Bd := (bIf (tOrD (tNotD (tOf (dUn isTup (dVar 1)))) (tOrD (tOf (dOp sEq (dVar 1) (dTup (aNil)))) (tOrD (tNotD (tOf (dUn isStr (dOp sIx (dVar 1) (dC (.int 0)))))) (tOf (dOp sDNin (dOp sIx (dVar 1) (dC (.int 0))) (dVar 2)))))) (bRet (dC (.bool false))) (bNil))
@[irreducible] def ls_3 : Bd := (bSet 3 (dOp sDIx (dVar 2) (dOp sIx (dVar 1) (dC (.int 0)))))
@[irreducible] def ls_4 : Bd := (bIf (tOrD (tOf (dOp sNe (dCallB sLen (aCons (dVar 1) (aNil))) (dOp sAdd (dCallB sLen (aCons (dVar 3) (aNil))) (dC (.int 1))))) (tNotD (tOf (dCallB sAll (aCons (dFz (oComp [5] (iOf itAll (dSl (dVar 1) (pIs (dC (.int 1))) (pNo))) (tgName 5) (tYesD) (dCall f__law_is_integer [false] (aCons (dVar 5) (aNil))))) (aNil)))))) (bRet (dC (.bool false))) (bNil))
@[irreducible] def ls_5_0 : Bd := (bIf (tOrD (tAndD (tOf (dOp sEq (dOp sIx (dVar 3) (dVar 4)) (dC (.str "r")))) (tNotD (tOf (dChain (sCmp fLe) (sCmp fLt) (dC (.int 0)) (dOp sIx (dVar 1) (dOp sAdd (dVar 4) (dC (.int 1)))) (dC (.int 6)))))) (tAndD (tOf (dOp sEq (dOp sIx (dVar 3) (dVar 4)) (dC (.str "s")))) (tNotD (tOf (dChain (sCmp fLe) (sCmp fLt) (dC (.int 0)) (dOp sIx (dVar 1) (dOp sAdd (dVar 4) (dC (.int 1)))) (dVar 0)))))) (bRet (dC (.bool false))) (bNil))
@[irreducible] def ls_5_b : Bd := ls_5_0
@[irreducible] def ls_5 : Bd := bFor (iRange1 (aCons (dCallB sLen (aCons (dVar 3) (aNil))) (aNil))) (tgName 4) ls_5_b
@[irreducible] def ls_6 : Bd := (bRet (dC (.bool true)))
theorem ls_cut : b__law_stands = (bSeq ls_0 (bSeq ls_1 (bSeq ls_2 (bSeq ls_3 (bSeq ls_4 (bSeq ls_5 ls_6)))))) := by
  unfold ls_6 ls_5 ls_5_b ls_5_0 ls_4 ls_3 ls_2 ls_1 ls_0
  rfl
def formsP : List (D × D) := c_FORMS.map fun r => (.str r.1, .str r.2)
theorem valP_rows (w : Str) : ∀ rows : List SRow, valP (rows.map fun r => (PyData.str r.1, PyData.str r.2)) (.str w) = (txtAt rows w).map .str
  | [] => rfl
  | r :: rows => by
    rw [List.map_cons]
    unfold valP
    by_cases h : r.1 = w
    · have e1 : txtAt (r :: rows) w = some r.2 := by unfold txtAt; rw [List.find?_cons_of_pos (by simpa using h)]; rfl
      rw [e1, if_pos (by simp [keyEq, h])]
      rfl
    · have e1 : txtAt (r :: rows) w = txtAt rows w := by unfold txtAt; rw [List.find?_cons_of_neg (by simpa using h)]
      rw [e1, if_neg (by simpa [keyEq] using h)]
      exact valP_rows w rows
theorem formsP_in (w : Str) : sDNin (.str w) (.dict formsP) = some (.bool (!(txtAt c_FORMS w).isSome)) := by
  show (if (keyOf (.str w)).isSome = true ∧ noHead formsP = true then some (PyData.bool (!(valP formsP (.str w)).isSome)) else none) = _
  rw [if_pos ⟨rfl, rfl⟩]
  unfold formsP
  rw [valP_rows, Option.isSome_map]
theorem formsP_at (w : Str) : sDIx (.dict formsP) (.str w) = (txtAt c_FORMS w).map .str := by
  show (if (keyOf (.str w)).isSome = true ∧ noHead formsP = true then valP formsP (.str w) else none) = _
  rw [if_pos ⟨rfl, rfl⟩]
  unfold formsP
  rw [valP_rows]
def forms8 : List (D × D) := (c_FORMS.take 8).map fun r => (.str r.1, .str r.2)
theorem ls_0_eq (m d : D) : ls_0 [.val m, .val d, .un, .un, .un, .un] = .nx [.val m, .val d, .own false (.dict forms8), .un, .un, .un] := by
  unfold ls_0
  rfl
theorem ls_1_eq (m d : D) : ls_1 [.val m, .val d, .own false (.dict forms8), .un, .un, .un] = .nx [.val m, .val d, .own false (.dict formsP), .un, .un, .un] := by
  unfold ls_1
  rfl
/-- where the law finds no fault, at one sign -/
def okC (n : Int) (c : Nat) (v : Int) : Bool := !((decide (c = 114) && !(decide (0 ≤ v) && decide (v < 6))) || (decide (c = 115) && !(decide (0 ≤ v) && decide (v < n))))
theorem okC_fit {n : Int} {c : Nat} {v : Int} (h : c = 114 ∨ c = 110 ∨ c = 115) : okC n c v = fitC n c (.int v) := by
  unfold okC fitC inR isI
  rcases h with rfl | rfl | rfl
  · rw [if_pos rfl]
    by_cases a : 0 ≤ v <;> by_cases b : v < 6 <;> simp [a, b] <;> omega
  · rfl
  · rw [if_neg (by decide), if_neg (by decide)]
    by_cases a : 0 ≤ v <;> by_cases b : v < n <;> simp [a, b] <;> omega
theorem fits_int (n : Int) : ∀ {cs : List Nat} {ps : List D}, fitsL n cs ps = true → ∀ p ∈ ps, isI p = true
  | [], [], _, p, h => nomatch h
  | [], _ :: _, h, _, _ => by cases h
  | _ :: _, [], h, _, _ => by cases h
  | c :: cs, q :: ps, h, p, hp => by
    unfold fitsL at h
    rw [Bool.and_eq_true] at h
    rcases List.mem_cons.mp hp with rfl | hp
    · have h1 := h.1
      unfold fitC at h1
      cases p <;> first | rfl | (unfold inR isI at h1; split at h1 <;> first | (cases h1; done) | (split at h1 <;> cases h1))
    · exact fits_int n h.2 p hp
theorem fits_at (n : Int) : ∀ {cs : List Nat} {ps : List D}, cs.length = ps.length → ((∀ (i : Nat) (c : Nat) (p : D), cs[i]? = some c → ps[i]? = some p → fitC n c p = true) ↔ fitsL n cs ps = true)
  | [], [], _ => ⟨fun _ => rfl, fun _ i c p e _ => by cases e⟩
  | [], _ :: _, h => by cases h
  | _ :: _, [], h => by cases h
  | c :: cs, q :: ps, h => by
    have ih := fits_at n (cs := cs) (ps := ps) (by simpa using h)
    unfold fitsL
    rw [Bool.and_eq_true, ← ih]
    constructor
    · intro a
      exact ⟨a 0 c q rfl rfl, fun i c p e1 e2 => a (i + 1) c p (by simpa using e1) (by simpa using e2)⟩
    · rintro ⟨a, b⟩ i c' p e1 e2
      cases i with
      | zero => cases e1; cases e2; exact a
      | succ i => exact b i c' p (by simpa using e1) (by simpa using e2)
theorem form_sgn {w f : Str} (h : txtAt c_FORMS w = some f) : ∀ c ∈ f.cps.toList, c = 114 ∨ c = 110 ∨ c = 115 := by
  have this : ∀ y ∈ forms, ∀ c ∈ y.cps.toList, c = 114 ∨ c = 110 ∨ c = 115 := by decide
  exact this f (form_in h)
def isIF : D → Option D := fun d => some (.bool (isI d))
theorem all_isI (ps : List D) : sAll [.list (ps.filterMap isIF)] = some (.bool (ps.all isI)) := by
  have : boolsD (ps.filterMap isIF) = some (ps.map isI) := by
    induction ps with
    | nil => rfl
    | cons p r ih =>
      rw [List.filterMap_cons_some (f := isIF) (a := p) (b := PyData.bool (isI p)) rfl]
      show (boolsD (r.filterMap isIF)).map _ = _
      rw [ih]
      rfl
  show (boolsD (ps.filterMap isIF)).map _ = _
  rw [this]
  simp
theorem sIx_txt {f : Str} {k : Nat} (hf : f.length ≤ sizeLine) : sIx (.str f) (.int (k : Int)) = (f.cps.toList[k]?).map fun c => .str ⟨#[c]⟩ := by
  show (if f.length ≤ sizeLine then (atI f.cps.toList (k : Int)).map fun c => PyData.str ⟨#[c]⟩ else none) = _
  rw [if_pos hf]
  congr 1
  unfold atI ixN
  rw [if_pos (by omega)]
  by_cases h : k < f.cps.toList.length
  · rw [if_pos (by omega)]
    simp
  · rw [if_neg (by omega), List.getElem?_eq_none (by omega)]
    rfl
theorem sEq_1 (c e : Nat) {x : Str} (hx : x = ⟨#[e]⟩) : sEq (.str ⟨#[c]⟩) (.str x) = some (.bool (decide (c = e))) := by
  subst hx
  show some (PyData.bool ((⟨#[c]⟩ : Str) == ⟨#[e]⟩)) = _
  congr 2
  rw [Bool.eq_iff_iff, beq_iff_eq, decide_eq_true_iff]
  exact str1_eq c e
/-- a turn of the law's loop -/
theorem ls_turn {n : Int} {d : D} {ps : List D} {x f : Str} {fd : List (D × D)} {k c : Nat} {v : Int} {N : En → Prop} {R : En → Rr → Prop} {E : En → Ex → Prop} (hd : d = .tuple (.str x :: ps)) (hf : f.length ≤ 10) (ec : f.cps.toList[k]? = some c) (ev : ps[k]? = some (.int v))
    (hN : okC n c v = true → N [.val (.int n), .val d, .own false (.dict fd), .val (.str f), .val (.int k), .un])
    (hR : okC n c v = false → ∀ en, R en (.v (.bool false))) : OutP (ls_5_b [.val (.int n), .val d, .own false (.dict fd), .val (.str f), .val (.int k), .un]) N R E := by
  have hz := sizeLine_big
  unfold ls_5_b ls_5_0
  have e1 : sIx (.str f) (.int (k : Int)) = some (.str ⟨#[c]⟩) := by rw [sIx_txt (by omega), ec]; rfl
  have e2 : sIx d (.int ((k : Int) + 1)) = some (.int v) := by
    subst hd
    rw [show ((k : Int) + 1) = ((k + 1 : Nat) : Int) by omega]
    show atI (PyData.str x :: ps) ((k + 1 : Nat) : Int) = _
    rw [atI_n]
    simpa using ev
  have s1 := sEq_1 c 114 (x := "r") rfl
  have s2 := sEq_1 c 115 (x := "s") rfl
  generalize PyData.str f = ff at e1 hN ⊢
  generalize PyData.str ⟨#[c]⟩ = cc at e1 s1 s2
  clear hd
  unfold okC at hN hR
  by_cases h1 : c = 114
  · simp -implicitDefEqProofs [e1, e2, s1, s2, h1]
    simp [h1] at hN hR
    by_cases a : 0 ≤ v
    · rw [if_pos a]
      by_cases b : v < 6
      · rw [if_pos b]; exact hN a b
      · rw [if_neg b]; exact hR (fun _ => by omega) _
    · rw [if_neg a]; exact hR (fun z => absurd z a) _
  · simp -implicitDefEqProofs [e1, e2, s1, s2, h1]
    simp [h1] at hN hR
    by_cases h2 : c = 115
    · rw [if_pos h2]
      by_cases a : 0 ≤ v
      · rw [if_pos a]
        by_cases b : v < n
        · rw [if_pos b]; exact hN (.inr ⟨a, b⟩)
        · rw [if_neg b]; exact hR h2 (fun _ => by omega) _
      · rw [if_neg a]; exact hR h2 (fun z => absurd z a) _
    · rw [if_neg h2]; exact hN (.inl h2)
theorem rng_look {n i : Nat} {d : D} (e : (rng (n : Int))[i]? = some d) : i < n ∧ d = .int (i : Nat) := by
  have q : i < n := by
    have := (List.getElem?_eq_some_iff.mp e).1
    unfold rng at this
    simpa using this
  refine ⟨q, ?_⟩
  unfold rng at e
  rw [List.getElem?_map, List.getElem?_range (by simpa using q)] at e
  cases e
  simp
theorem stands_ok {n : Int} {d : D} (hd : noD d = true) (hs : SeqAt.shaped d = true) (hp : ∀ ds, d = .tuple ds → ds.length ≤ 1000 ∧ ∀ p ∈ ds, noD p = true) : f__law_stands [.v (.int n), .v d] = .ok (.v (.bool (stB n d))) [] := by
  have hz := sizeLine_big
  refine Gives.eq (RfP_run rfl ?_)
  rw [ls_cut]
  simp only [startEn, arSl, List.map_cons, List.map_nil, List.cons_append, List.nil_append, List.replicate, List.length_cons, List.length_nil]
  rw [OutP_seq, ls_0_eq, OutP_nx, OutP_seq, ls_1_eq, OutP_nx]
  have hIn := formsP_in
  have hAt := formsP_at
  generalize formsP = fd at hIn hAt ⊢
  rw [OutP_seq]
  unfold ls_2
  cases d with
  | dict kvs => cases hd
  | none => simp -implicitDefEqProofs [outsOf, stB]
  | bool b => simp -implicitDefEqProofs [outsOf, stB]
  | int i => simp -implicitDefEqProofs [outsOf, stB]
  | str x => simp -implicitDefEqProofs [outsOf, stB]
  | list ds => simp -implicitDefEqProofs [outsOf, stB]
  | tuple ds =>
    have e0 := eq_nilT hs
    have hp := hp ds rfl
    cases ds with
    | nil => simp -implicitDefEqProofs [outsOf, stB, e0]
    | cons w ps =>
      have hw := hp.2 w List.mem_cons_self
      cases w with
      | dict kvs => cases hw
      | none => simp -implicitDefEqProofs [outsOf, stB, e0]
      | bool b => simp -implicitDefEqProofs [outsOf, stB, e0]
      | int i => simp -implicitDefEqProofs [outsOf, stB, e0]
      | list ds => simp -implicitDefEqProofs [outsOf, stB, e0]
      | tuple ds => simp -implicitDefEqProofs [outsOf, stB, e0]
      | str x =>
        cases et : txtAt c_FORMS x with
        | none => simp -implicitDefEqProofs [outsOf, stB, e0, et, hIn]
        | some f =>
          have hf := form_len et
          have hfl : f.length = f.cps.toList.length := by simp [Str.length]
          have hl : sLen [.str f] = some (.int (f.length : Nat)) := by
            show (if f.length ≤ sizeLine then some f.length else none).map _ = _
            rw [if_pos (by omega)]
            rfl
          have es : stB n (.tuple (.str x :: ps)) = fitsL n f.cps.toList ps := by
            show (match txtAt c_FORMS x with | some f => fitsL n f.cps.toList ps | none => false) = _
            rw [et]
          rw [es]
          have ecut : cutD (PyData.str x :: ps) (some 1) none = ps := cut_first _
          simp -implicitDefEqProofs [e0, et, hIn]
          unfold ls_3
          simp -implicitDefEqProofs [hAt, et]
          unfold ls_4
          simp -implicitDefEqProofs [hl, ecut, outsOf]
          refine ⟨rfl, ?_⟩
          by_cases el : (ps.length : Int) = f.length
          · rw [if_pos el]
            have el2 : f.cps.toList.length = ps.length := by omega
            have hlp : ps.length ≤ 1000 := by simp at hp; omega
            refine RsP_compL isIF rfl (by omega) (fun d hd => ?_) ?_
            · have e2 := law_isInt (hp.2 d (List.mem_cons_of_mem _ hd))
              simp -implicitDefEqProofs [tgName, canPut_eq, noAli_eq, unw, CallP, e2, isIF]
            · rw [all_isI]
              cases ha : ps.all isI with
              | false =>
                simp -implicitDefEqProofs
                cases q : fitsL n f.cps.toList ps with
                | false => rfl
                | true =>
                  rw [List.all_eq_true.mpr (fits_int n q)] at ha
                  cases ha
              | true =>
                simp -implicitDefEqProofs
                unfold ls_5
                rw [OutP_for]
                simp -implicitDefEqProofs [hl, small_n (show f.length < 2 ^ 62 by omega)]
                have hin := List.all_eq_true.mp ha
                refine OutP_forL (rng (f.length : Nat)) (fun i en => (∃ s4, (s4 = .un ∨ ∃ d, s4 = .val d) ∧ en = [.val (.int n), .val (.tuple (.str x :: ps)), .own false (.dict fd), .val (.str f), s4, .un]) ∧ ∀ j < i, ∀ c p, f.cps.toList[j]? = some c → ps[j]? = some p → fitC n c p = true) _ ⟨⟨.un, .inl rfl, rfl⟩, fun j hj => absurd hj (Nat.not_lt_zero _)⟩ (fun i d en e hI => ?_) (fun en hI => ?_)
                · obtain ⟨⟨s4, h4, rfl⟩, hI⟩ := hI
                  have hi := rng_look e
                  obtain ⟨hi, rfl⟩ := hi
                  have e1 : f.cps.toList[i]? = some (f.cps.toList[i]'(by omega)) := List.getElem?_eq_getElem _
                  have e2 : ps[i]? = some (ps[i]'(by omega)) := List.getElem?_eq_getElem _
                  generalize f.cps.toList[i]'(by omega) = c at e1
                  generalize ps[i]'(by omega) = p at e2
                  obtain ⟨v, rfl⟩ : ∃ v, p = .int v := by
                    have := hin p (List.mem_of_getElem? e2)
                    cases p <;> first | exact ⟨_, rfl⟩ | cases this
                  have hok := okC_fit (n := n) (v := v) (form_sgn et c (List.mem_of_getElem? e1))
                  have tgo : OpP (tgName 4 (.int (i : Nat)) [.val (.int n), .val (.tuple (.str x :: ps)), .own false (.dict fd), .val (.str f), s4, .un]) fun en1 => en1 = [.val (.int n), .val (.tuple (.str x :: ps)), .own false (.dict fd), .val (.str f), .val (.int (i : Nat)), .un] := by
                    rcases h4 with rfl | ⟨d, rfl⟩ <;> simp [tgName, canPut_eq, noAli_eq]
                  cases q : tgName 4 (.int (i : Nat)) [.val (.int n), .val (.tuple (.str x :: ps)), .own false (.dict fd), .val (.str f), s4, .un] with
                  | none => rw [q] at tgo; exact tgo.elim
                  | some en1 =>
                    rw [q] at tgo
                    have tgo : en1 = _ := tgo
                    subst tgo
                    refine ls_turn rfl (by omega) e1 e2 (fun hy => ⟨⟨_, .inr ⟨_, rfl⟩, rfl⟩, fun j hj c' p' e3 e4 => ?_⟩) fun hn en => ?_
                    · by_cases ej : j = i
                      · subst ej
                        rw [e1] at e3
                        rw [e2] at e4
                        cases e3
                        cases e4
                        rw [← hok]
                        exact hy
                      · exact hI j (by omega) c' p' e3 e4
                    · cases q : fitsL n f.cps.toList ps with
                      | false => rfl
                      | true =>
                        have := (fits_at n el2).mpr q i c _ e1 e2
                        rw [← hok, hn] at this
                        cases this
                · obtain ⟨⟨s4, h4, rfl⟩, hI⟩ := hI
                  have hall := (fits_at n el2).mp fun i c p e1 e2 => hI i (by
                    have := (List.getElem?_eq_some_iff.mp e1).1
                    unfold rng
                    simp
                    omega) c p e1 e2
                  rw [hall]
                  unfold ls_6
                  simp -implicitDefEqProofs
          · rw [if_neg el]
            cases q : fitsL n f.cps.toList ps with
            | false => rfl
            | true => exact absurd (fits_len n q) (by omega)
end DL
/-! Dh4: the first fault of a program: the program's and the law's. -/
namespace DL
open PySem PySem.Spec L2
open PyProof.Rows hiding St
def lastB (w : Str) : Bool := ([.str "jump", .str "return", .str "none"] : List D).any fun z => PyData.eqv z (.str w)
def lastD : D → Bool
  | .tuple (.str w :: _) => lastB w
  | _ => false
def okAt (n k : Nat) (d : D) : Bool := stB n d && (!decide (k + 1 = n) || lastD d)
def fb (n : Nat) : Nat → List D → Option Nat
  | _, [] => none
  | k, d :: r => if okAt n k d = true then fb n (k + 1) r else some k
def faultD : D → D
  | .tuple (d :: ds) => match fb (ds.length + 1) 0 (d :: ds) with
    | some k => .int (k : Nat)
    | none => .none
  | _ => .int (-1)
/-- what may stand as a step -/
structure Stp (s : D) : Prop where
  nd : noD s = true
  sh : SeqAt.shaped s = true
  mem : ∀ ds, s = .tuple ds → ds.length ≤ 1000 ∧ ∀ p ∈ ds, noD p = true
/-- what may stand as a program -/
structure Val (d : D) : Prop where
  nd : noD d = true
  sh : SeqAt.shaped d = true
  mem : ∀ ds, d = .tuple ds → ds.length ≤ 1000 ∧ ∀ p ∈ ds, Stp p
theorem stB_form {n : Int} {d : D} (h : stB n d = true) : ∃ w ps, d = .tuple (.str w :: ps) := by
  unfold stB at h
  split at h
  · exact ⟨_, _, rfl⟩
  · cases h
theorem last_in (w : Str) : sNotIn (.str w) (.tuple [.str "jump", .str "return", .str "none"]) = some (.bool (!lastB w)) := rfl
theorem okAt_no {n k : Nat} {d : D} (h : stB n d = false) : okAt n k d = false := by unfold okAt; rw [h]; rfl
theorem okAt_mid {n k : Nat} {d : D} (h : stB n d = true) (hk : k + 1 ≠ n) : okAt n k d = true := by unfold okAt; rw [h, decide_eq_false hk]; rfl
theorem okAt_end {n k : Nat} {w : Str} {ps : List D} (h : stB n (.tuple (.str w :: ps)) = true) (hk : k + 1 = n) : okAt n k (.tuple (.str w :: ps)) = lastB w := by unfold okAt; rw [h, decide_eq_true hk]; rfl
theorem drop_at {ds : List D} {i : Nat} {x : D} (h : ds[i]? = some x) : ds.drop i = x :: ds.drop (i + 1) := by
  obtain ⟨hi, rfl⟩ := List.getElem?_eq_some_iff.mp h
  exact (List.getElem_cons_drop hi).symm
theorem fb_cons {n k : Nat} {d : D} {r : List D} : fb n k (d :: r) = if okAt n k d = true then fb n (k + 1) r else some k := rfl
theorem fb_nil {n k : Nat} : fb n k [] = none := rfl
theorem tg2_any {ds : D} {s1 s2 : Sl} {a b : D} {Q : En → Prop} (h1 : s1 = .un ∨ ∃ d, s1 = .val d) (h2 : s2 = .un ∨ ∃ d, s2 = .val d) (q : Q [.val ds, .val a, .val b]) : OpP (tgTup (tgCons (tgName 1) (tgCons (tgName 2) tgNil)) (.tuple [a, b]) [.val ds, s1, s2]) Q := by
  rcases h1 with rfl | ⟨d1, rfl⟩ <;> rcases h2 with rfl | ⟨d2, rfl⟩ <;> simpa [tgTup, tgCons, tgNil, tgName, putS, canPut, noAli] using q
theorem fault_ok {d : D} (hd : Val d) : f_program_fault [.v d] = .ok (.v (faultD d)) [] := by
  have hz := sizeLine_big
  refine Gives.eq (RfP_run rfl ?_)
  cases d with
  | dict kvs => cases hd.nd
  | none => simp -implicitDefEqProofs [b_program_fault, startEn, arSl, outsOf, faultD]
  | bool b => simp -implicitDefEqProofs [b_program_fault, startEn, arSl, outsOf, faultD]
  | int i => simp -implicitDefEqProofs [b_program_fault, startEn, arSl, outsOf, faultD]
  | str x => simp -implicitDefEqProofs [b_program_fault, startEn, arSl, outsOf, faultD]
  | list ds => simp -implicitDefEqProofs [b_program_fault, startEn, arSl, outsOf, faultD]
  | tuple ds =>
    have e0 := eq_nilT hd.sh
    cases ds with
    | nil => simp -implicitDefEqProofs [b_program_fault, startEn, arSl, outsOf, faultD, e0]
    | cons d0 r =>
      obtain ⟨hl, hm⟩ := hd.mem _ rfl
      have ef : faultD (.tuple (d0 :: r)) = match fb (r.length + 1) 0 (d0 :: r) with
          | some k => .int (k : Nat)
          | none => .none := rfl
      rw [ef]
      have en : r.length + 1 = (d0 :: r).length := rfl
      rw [en]
      have hne : (d0 :: r).isEmpty = false := rfl
      rw [hne] at e0
      clear ef en hne
      generalize (d0 :: r) = ds at e0 hl hm ⊢
      unfold b_program_fault
      generalize hB : bIf (tOrD (tNotD (tOf (dCall f_is_step _ _))) _) _ _ = B
      simp -implicitDefEqProofs [startEn, arSl, outsOf, e0]
      refine OutP_forL (numbered 0 ds) (fun i en => (∃ s1 s2, (s1 = .un ∨ ∃ d, s1 = .val d) ∧ (s2 = .un ∨ ∃ d, s2 = .val d) ∧ en = [.val (.tuple ds), s1, s2]) ∧ fb ds.length 0 ds = fb ds.length i (ds.drop i)) _ ⟨⟨.un, .un, .inl rfl, .inl rfl, rfl⟩, rfl⟩ (fun i d en e hI => ?_) (fun en hI => ?_)
      · obtain ⟨⟨s1, s2, h1, h2, rfl⟩, hI⟩ := hI
        obtain ⟨x, ex, rfl⟩ := numbered_at e
        have hx := hm x (List.mem_of_getElem? ex)
        have est := is_step_ok (n := (ds.length : Nat)) hx.nd hx.sh fun ps hp => (hx.mem ps hp).2
        rw [drop_at ex] at hI
        have hB' : OutP (B [.val (.tuple ds), .val (.int (i : Nat)), .val x]) (fun en => (∃ s1 s2, (s1 = Sl.un ∨ ∃ d, s1 = .val d) ∧ (s2 = Sl.un ∨ ∃ d, s2 = .val d) ∧ en = [.val (.tuple ds), s1, s2]) ∧ fb ds.length 0 ds = fb ds.length (i + 1) (ds.drop (i + 1))) (fun en rr => rr = .v (match fb ds.length 0 ds with
          | some k => .int (k : Nat)
          | none => .none)) fun _ _ => False := by
          subst hB
          rw [fb_cons] at hI
          cases hs : stB (ds.length : Nat) x with
          | false =>
            rw [hs] at est
            rw [okAt_no hs, if_neg Bool.false_ne_true] at hI
            simp -implicitDefEqProofs [CallP, est, hI]
          | true =>
            rw [hs] at est
            obtain ⟨w, ps, rfl⟩ := stB_form hs
            have hlw := last_in w
            by_cases hk : i + 1 = ds.length
            · rw [okAt_end hs hk] at hI
              have hk' : (i : Int) = (ds.length : Int) - 1 := by omega
              simp -implicitDefEqProofs [CallP, est, hk', c_LAST_WORDS, hlw]
              cases q : lastB w with
              | true =>
                rw [q, if_pos rfl] at hI
                simp -implicitDefEqProofs [hI]
              | false =>
                rw [q, if_neg Bool.false_ne_true] at hI
                simp -implicitDefEqProofs [hI]
                omega
            · rw [okAt_mid hs hk, if_pos rfl] at hI
              have hk' : ¬ (i : Int) = (ds.length : Int) - 1 := by omega
              simp -implicitDefEqProofs [CallP, est, hk', hI]
        exact tg2_any h1 h2 hB'
      · obtain ⟨⟨s1, s2, h1, h2, rfl⟩, hI⟩ := hI
        rw [List.drop_eq_nil_of_le (by rw [numbered_len]; exact Nat.le_refl _), fb_nil] at hI
        rw [hI]
theorem tg1_any {ds : D} {s1 : Sl} {a : D} {Q : En → Prop} (h1 : s1 = .un ∨ ∃ d, s1 = .val d) (q : Q [.val ds, .val a]) : OpP (tgName 1 a [.val ds, s1]) Q := by
  rcases h1 with rfl | ⟨d1, rfl⟩ <;> simpa [tgName, canPut, noAli] using q
theorem law_fault_ok {d : D} (hd : Val d) : f__law_fault [.v d] = .ok (.v (faultD d)) [] := by
  have hz := sizeLine_big
  refine Gives.eq (RfP_run rfl ?_)
  cases d with
  | dict kvs => cases hd.nd
  | none => simp -implicitDefEqProofs [b__law_fault, startEn, arSl, outsOf, faultD]
  | bool b => simp -implicitDefEqProofs [b__law_fault, startEn, arSl, outsOf, faultD]
  | int i => simp -implicitDefEqProofs [b__law_fault, startEn, arSl, outsOf, faultD]
  | str x => simp -implicitDefEqProofs [b__law_fault, startEn, arSl, outsOf, faultD]
  | list ds => simp -implicitDefEqProofs [b__law_fault, startEn, arSl, outsOf, faultD]
  | tuple ds =>
    have e0 := eq_nilT hd.sh
    cases ds with
    | nil => simp -implicitDefEqProofs [b__law_fault, startEn, arSl, outsOf, faultD, e0]
    | cons d0 r =>
      obtain ⟨hl, hm⟩ := hd.mem _ rfl
      have ef : faultD (.tuple (d0 :: r)) = match fb (r.length + 1) 0 (d0 :: r) with
          | some k => .int (k : Nat)
          | none => .none := rfl
      rw [ef]
      have en : r.length + 1 = (d0 :: r).length := rfl
      rw [en]
      have hne : (d0 :: r).isEmpty = false := rfl
      rw [hne] at e0
      clear ef en hne
      generalize (d0 :: r) = ds at e0 hl hm ⊢
      unfold b__law_fault
      generalize hB : bIf (tOrD (tNotD (tOf (dCall f__law_stands _ _))) _) _ _ = B
      simp -implicitDefEqProofs [startEn, arSl, outsOf, e0, small_n (show ds.length < 2 ^ 62 by omega)]
      refine OutP_forL (rng (ds.length : Nat)) (fun i en => (∃ s1, (s1 = .un ∨ ∃ d, s1 = .val d) ∧ en = [.val (.tuple ds), s1]) ∧ fb ds.length 0 ds = fb ds.length i (ds.drop i)) _ ⟨⟨.un, .inl rfl, rfl⟩, rfl⟩ (fun i d en e hI => ?_) (fun en hI => ?_)
      · obtain ⟨⟨s1, h1, rfl⟩, hI⟩ := hI
        obtain ⟨hi, rfl⟩ := rng_look e
        have ex := List.getElem?_eq_getElem hi
        generalize ds[i] = x at ex
        have hx := hm x (List.mem_of_getElem? ex)
        have est := stands_ok (n := (ds.length : Nat)) hx.nd hx.sh hx.mem
        have exi : sIx (.tuple ds) (.int (i : Nat)) = some x := by
          show atI ds (i : Int) = _
          rw [atI_n, ex]
        rw [drop_at ex] at hI
        have hB' : OutP (B [.val (.tuple ds), .val (.int (i : Nat))]) (fun en => (∃ s1, (s1 = Sl.un ∨ ∃ d, s1 = .val d) ∧ en = [.val (.tuple ds), s1]) ∧ fb ds.length 0 ds = fb ds.length (i + 1) (ds.drop (i + 1))) (fun en rr => rr = .v (match fb ds.length 0 ds with
          | some k => .int (k : Nat)
          | none => .none)) fun _ _ => False := by
          subst hB
          rw [fb_cons] at hI
          cases hs : stB (ds.length : Nat) x with
          | false =>
            rw [hs] at est
            rw [okAt_no hs, if_neg Bool.false_ne_true] at hI
            simp -implicitDefEqProofs [-sIx_t, CallP, exi, est, hI]
          | true =>
            rw [hs] at est
            obtain ⟨w, ps, rfl⟩ := stB_form hs
            have hlw := last_in w
            by_cases hk : i + 1 = ds.length
            · rw [okAt_end hs hk] at hI
              have hk' : (i : Int) = (ds.length : Int) - 1 := by omega
              have exj : sIx (.tuple ds) (.int ((ds.length : Int) - 1)) = some (.tuple (.str w :: ps)) := by rw [← hk']; exact exi
              have ex0 : sIx (.tuple (.str w :: ps)) (.int 0) = some (.str w) := by simp
              simp -implicitDefEqProofs [-sIx_t, CallP, exi, exj, ex0, est, hk', hlw]
              cases q : lastB w with
              | true =>
                rw [q, if_pos rfl] at hI
                simp -implicitDefEqProofs [hI]
                omega
              | false =>
                rw [q, if_neg Bool.false_ne_true] at hI
                simp -implicitDefEqProofs [hI]
                omega
            · rw [okAt_mid hs hk, if_pos rfl] at hI
              have hk' : ¬ (i : Int) = (ds.length : Int) - 1 := by omega
              simp -implicitDefEqProofs [-sIx_t, CallP, exi, est, hk', hI]
        exact tg1_any h1 hB'
      · obtain ⟨⟨s1, h1, rfl⟩, hI⟩ := hI
        rw [List.drop_eq_nil_of_le (by unfold rng; simp), fb_nil] at hI
        rw [hI]
end DL
/-! Dh5: names; rows of an implementation. -/
namespace DL
open PySem PySem.Spec L2
open PyProof.Rows hiding St
abbrev ws (x : Str) : List Nat := x.cps.toList
def chS (c : Nat) : D := .str ⟨#[c]⟩
def inF (t : Str) (d : D) : Option D := match d with
  | .str x => some (.bool (match ws x with | [c] => decide (c ∈ ws t) | _ => false))
  | _ => none
theorem sIn_ch (c : Nat) (t : Str) : sIn (chS c) (.str t) = some (.bool (decide (c ∈ ws t))) := rfl
theorem inF_ch (c : Nat) (t : Str) : inF t (chS c) = some (.bool (decide (c ∈ ws t))) := rfl
theorem bools_in (t : Str) : ∀ l : List Nat, boolsD ((l.map chS).filterMap (inF t)) = some (l.map fun c => decide (c ∈ ws t))
  | [] => rfl
  | c :: r => by
    rw [List.map_cons, List.filterMap_cons_some (inF_ch c t)]
    show (boolsD ((r.map chS).filterMap (inF t))).map _ = _
    rw [bools_in t r]
    rfl
theorem all_in (t : Str) (l : List Nat) : sAll [.list ((l.map chS).filterMap (inF t))] = some (.bool (l.all fun c => decide (c ∈ ws t))) := by
  show (boolsD ((l.map chS).filterMap (inF t))).map _ = _
  rw [bools_in]
  simp
/-- a name's signs -/
def nameB (x : Str) : Bool := decide (1 ≤ (ws x).length) && decide ((ws x).length ≤ 8) && (ws x).all fun c => decide (c ∈ ws "abcdefghijklmnopqrstuvwxyz")
theorem it_w (x : Str) : itAll (.str x) = some ((ws x).map chS) := rfl
theorem len_ws (x : Str) : x.length = (ws x).length := by simp [Str.length, ws]
theorem is_name_s {x : Str} (hl : x.length ≤ 560) : f_is_name [.v (.str x)] = .ok (.v (.bool (nameB x))) [] := by
  have hz := sizeLine_big
  have el : sLen [.str x] = some (.int (x.length : Nat)) := by simp [sLen, lenD, show x.length ≤ sizeLine by omega]
  have e4 := it_w x
  have e5 := all_in "abcdefghijklmnopqrstuvwxyz" (ws x)
  have e6 := len_ws x
  refine Gives.eq (RfP_run rfl ?_)
  by_cases h : 1 ≤ x.length ∧ x.length ≤ 8
  · have h1 : (1 : Int) ≤ x.length := by omega
    have h2 : (x.length : Int) ≤ 8 := by omega
    simp -implicitDefEqProofs [b_is_name, startEn, arSl, outsOf, c_MOST_LETTERS, el, h1, h2, e4]
    refine RsP_compL (inF "abcdefghijklmnopqrstuvwxyz") rfl (by rw [List.length_map, ← e6]; omega) (fun d hd => ?_) ?_
    · obtain ⟨c, hc, rfl⟩ := List.mem_map.mp hd
      simp -implicitDefEqProofs [tgName, canPut_eq, noAli_eq, unw_nil, unw_val, unw_un, c_LETTERS, sIn_ch, inF_ch]
    · have e7 : nameB x = ((ws x).all fun c => decide (c ∈ ws "abcdefghijklmnopqrstuvwxyz")) := by
        unfold nameB
        rw [← e6]
        simp [h.1, h.2]
      rw [e7]
      simp -implicitDefEqProofs [-List.filterMap_map, e5, outsOf]
  · have e7 : nameB x = false := by
      unfold nameB
      rw [← e6]
      rcases Nat.lt_or_ge x.length 1 with z | z
      · simp [show ¬ 1 ≤ x.length by omega]
      · simp [show ¬ x.length ≤ 8 by omega]
    rw [e7]
    simp -implicitDefEqProofs [b_is_name, startEn, arSl, outsOf, c_MOST_LETTERS, el]
    omega
/-- a row of a would-be implementation -/
inductive Row : D → Prop
  | two {x : Str} {v : D} (h : x.length ≤ 8) (g : Val v) : Row (.tuple [.str x, v])
  | three {x : Str} {v w : D} (h : x.length ≤ 8) (g : Val v) : Row (.tuple [.str x, v, w])
def rowB : D → Bool
  | .tuple [.str x, v] => nameB x && isNone (faultD v)
  | _ => false
theorem named_ok {d : D} (h : Row d) : f_is_named_program [.v d] = .ok (.v (.bool (rowB d))) [] := by
  have hz := sizeLine_big
  cases h with
  | @two x v h g =>
    have e1 := isTupleOf 2 [.str x, v]
    have e2 := is_name_s (x := x) (by omega)
    have e3 := fault_ok g
    have er : rowB (.tuple [.str x, v]) = (nameB x && isNone (faultD v)) := rfl
    rw [er]
    refine Gives.eq (RfP_run rfl ?_)
    cases q : nameB x <;> rw [q] at e2 <;> simp -implicitDefEqProofs [b_is_named_program, startEn, arSl, outsOf, CallP, e1, e2, e3]
  | @three x v w h g =>
    have e1 := isTupleOf 2 [.str x, v, w]
    refine Gives.eq (RfP_run rfl ?_)
    simp -implicitDefEqProofs [b_is_named_program, startEn, arSl, outsOf, CallP, e1, rowB]
theorem law_row_ok {d : D} (h : Row d) : f__law_row [.v d] = .ok (.v (.bool (rowB d))) [] := by
  have hz := sizeLine_big
  cases h with
  | @two x v h g =>
    have e2 := is_name_s (x := x) (by omega)
    have e3 := law_fault_ok g
    have er : rowB (.tuple [.str x, v]) = (nameB x && isNone (faultD v)) := rfl
    rw [er]
    have el : sLen [.str x] = some (.int (x.length : Nat)) := by simp [sLen, lenD, show x.length ≤ sizeLine by omega]
    have e4 := it_w x
    have e5 := all_in "abcdefghijklmnopqrstuvwxyz" (ws x)
    have e6 := len_ws x
    refine Gives.eq (RfP_run rfl ?_)
    cases q : isNone (faultD v) with
    | false =>
      simp -implicitDefEqProofs [b__law_row, startEn, arSl, outsOf, CallP, e3, q]
    | true =>
      rw [Bool.and_true]
      by_cases h2 : 1 ≤ x.length
      · have h1 : (1 : Int) ≤ x.length := by omega
        have h3 : (x.length : Int) ≤ 8 := by omega
        simp -implicitDefEqProofs [b__law_row, startEn, arSl, outsOf, CallP, e3, q, el, h1, h3, e4]
        refine RsP_compL (inF "abcdefghijklmnopqrstuvwxyz") rfl (by rw [List.length_map, ← e6]; omega) (fun d hd => ?_) ?_
        · obtain ⟨c, hc, rfl⟩ := List.mem_map.mp hd
          simp -implicitDefEqProofs [tgName, canPut_eq, noAli_eq, unw_nil, unw_val, unw_un, sIn_ch, inF_ch]
        · have e7 : nameB x = ((ws x).all fun c => decide (c ∈ ws "abcdefghijklmnopqrstuvwxyz")) := by
            unfold nameB
            rw [← e6]
            simp [h2, h]
          rw [e7]
          simp -implicitDefEqProofs [-List.filterMap_map, e5, outsOf]
      · have e7 : nameB x = false := by
          unfold nameB
          rw [← e6]
          simp [h2]
        rw [e7]
        have h1 : ¬ (1 : Int) ≤ x.length := by omega
        simp -implicitDefEqProofs [b__law_row, startEn, arSl, outsOf, CallP, e3, q, el, h1]
  | @three x v w h g =>
    refine Gives.eq (RfP_run rfl ?_)
    simp -implicitDefEqProofs [b__law_row, startEn, arSl, outsOf, CallP, rowB]
end DL
/-! Dh6: the first wrong member of an implementation. -/
namespace DL
open PySem PySem.Spec L2
open PyProof.Rows hiding St
def headS : D → Str
  | .tuple (.str x :: _) => x
  | _ => ""
theorem Row.head {d : D} (h : Row d) : sIx d (.int 0) = some (.str (headS d)) := by
  cases h <;> simp [headS]
def okR (rows : List D) (i : Nat) : Bool := rowB (rows[i]?.getD .none) && (decide (i = 0) || ltS (headS (rows[i - 1]?.getD .none)) (headS (rows[i]?.getD .none)))
def fbI (P : Nat → Bool) : Nat → Nat → Option Nat
  | 0, _ => none
  | m + 1, k => if P k = true then fbI P m (k + 1) else some k
theorem fbI_s {P : Nat → Bool} {m k : Nat} : fbI P (m + 1) k = if P k = true then fbI P m (k + 1) else some k := rfl
def oInt : Option Nat → D
  | some k => .int (k : Nat)
  | none => .none
def implD : D → D
  | .tuple rows => oInt (fbI (okR rows) rows.length 0)
  | _ => .int (-1)
/-- what may stand as an implementation -/
structure Imp (d : D) : Prop where
  nd : noD d = true
  mem : ∀ ds, d = .tuple ds → ds.length ≤ 1000 ∧ ∀ p ∈ ds, Row p
theorem leS_lt (x y : Str) : leS x y = !ltS y x := rfl
theorem impl_fault_ok {d : D} (hd : Imp d) : f_implementation_fault [.v d] = .ok (.v (implD d)) [] := by
  have hz := sizeLine_big
  refine Gives.eq (RfP_run rfl ?_)
  cases d with
  | dict kvs => cases hd.nd
  | none => simp -implicitDefEqProofs [b_implementation_fault, startEn, arSl, outsOf, implD]
  | bool b => simp -implicitDefEqProofs [b_implementation_fault, startEn, arSl, outsOf, implD]
  | int i => simp -implicitDefEqProofs [b_implementation_fault, startEn, arSl, outsOf, implD]
  | str x => simp -implicitDefEqProofs [b_implementation_fault, startEn, arSl, outsOf, implD]
  | list ds => simp -implicitDefEqProofs [b_implementation_fault, startEn, arSl, outsOf, implD]
  | tuple ds =>
    obtain ⟨hl, hm⟩ := hd.mem _ rfl
    have ef : implD (.tuple ds) = oInt (fbI (okR ds) ds.length 0) := rfl
    rw [ef]
    clear ef
    unfold b_implementation_fault
    generalize hB : bIf (tOrD (tNotD (tOf (dCall f_is_named_program _ _))) _) _ _ = B
    simp -implicitDefEqProofs [startEn, arSl, outsOf]
    refine OutP_forL (numbered 0 ds) (fun i en => (∃ s1 s2, (s1 = .un ∨ ∃ d, s1 = .val d) ∧ (s2 = .un ∨ ∃ d, s2 = .val d) ∧ en = [.val (.tuple ds), s1, s2]) ∧ fbI (okR ds) ds.length 0 = fbI (okR ds) (ds.length - i) i) _ ⟨⟨.un, .un, .inl rfl, .inl rfl, rfl⟩, rfl⟩ (fun i d en e hI => ?_) (fun en hI => ?_)
    · obtain ⟨⟨s1, s2, h1, h2, rfl⟩, hI⟩ := hI
      obtain ⟨x, ex, rfl⟩ := numbered_at e
      have hi := (List.getElem?_eq_some_iff.mp ex).1
      have hx := hm x (List.mem_of_getElem? ex)
      have est := named_ok hx
      have ehd := hx.head
      rw [show ds.length - i = ds.length - (i + 1) + 1 by omega, fbI_s] at hI
      have hB' : OutP (B [.val (.tuple ds), .val (.int (i : Nat)), .val x]) (fun en => (∃ s1 s2, (s1 = Sl.un ∨ ∃ d, s1 = .val d) ∧ (s2 = Sl.un ∨ ∃ d, s2 = .val d) ∧ en = [.val (.tuple ds), s1, s2]) ∧ fbI (okR ds) ds.length 0 = fbI (okR ds) (ds.length - (i + 1)) (i + 1)) (fun en rr => rr = .v (oInt (fbI (okR ds) ds.length 0))) fun _ _ => False := by
        subst hB
        have eok : okR ds i = (rowB x && (decide (i = 0) || ltS (headS (ds[i - 1]?.getD .none)) (headS x))) := by
          unfold okR
          rw [ex]
          rfl
        rw [eok] at hI
        cases hs : rowB x with
        | false =>
          rw [hs] at est
          rw [hs, Bool.false_and, if_neg Bool.false_ne_true] at hI
          simp -implicitDefEqProofs [CallP, est, hI, oInt]
        | true =>
          rw [hs] at est
          rw [hs, Bool.true_and] at hI
          by_cases h0 : i = 0
          · subst h0
            rw [decide_eq_true rfl, Bool.true_or, if_pos rfl] at hI
            simp -implicitDefEqProofs [CallP, est, hI]
          · rw [decide_eq_false h0, Bool.false_or] at hI
            obtain ⟨j, rfl⟩ : ∃ j, i = j + 1 := ⟨i - 1, by omega⟩
            have hj := List.getElem?_eq_getElem (show j < ds.length by omega)
            generalize ds[j] = y at hj
            have ehy := (hm y (List.mem_of_getElem? hj)).head
            rw [Nat.add_sub_cancel, hj, Option.getD_some] at hI
            have exj : sIx (.tuple ds) (.int (((j + 1 : Nat) : Int) - 1)) = some y := by
              rw [show ((j + 1 : Nat) : Int) - 1 = (j : Int) by omega]
              show atI ds (j : Int) = _
              rw [atI_n, hj]
            have hpos : (0 : Int) < ((j + 1 : Nat) : Int) := by omega
            have ecmp : sCmpS leS (.str (headS x)) (.str (headS y)) = some (.bool (!ltS (headS y) (headS x))) := rfl
            cases q : ltS (headS y) (headS x) with
            | true =>
              rw [q] at ecmp
              rw [q, if_pos rfl] at hI
              generalize hii : ((j + 1 : Nat) : Int) = ii at exj hpos ⊢
              simp -implicitDefEqProofs [-sIx_t, CallP, est, hpos, exj, ehd, ehy, ecmp, hI]
            | false =>
              rw [q] at ecmp
              rw [q, if_neg Bool.false_ne_true] at hI
              have hr : oInt (fbI (okR ds) ds.length 0) = .int ((j + 1 : Nat) : Int) := by rw [hI]; rfl
              generalize hii : ((j + 1 : Nat) : Int) = ii at exj hpos hr ⊢
              simp -implicitDefEqProofs [-sIx_t, CallP, est, hpos, exj, ehd, ehy, ecmp, hr]
      exact tg2_any h1 h2 hB'
    · obtain ⟨⟨s1, s2, h1, h2, rfl⟩, hI⟩ := hI
      rw [numbered_len, Nat.sub_self] at hI
      rw [hI]
      rfl
theorem first_bad_ok {d : D} (hd : Imp d) : f__law_first_bad [.v d] = .ok (.v (implD d)) [] := by
  have hz := sizeLine_big
  refine Gives.eq (RfP_run rfl ?_)
  cases d with
  | dict kvs => cases hd.nd
  | none => simp -implicitDefEqProofs [b__law_first_bad, startEn, arSl, outsOf, implD]
  | bool b => simp -implicitDefEqProofs [b__law_first_bad, startEn, arSl, outsOf, implD]
  | int i => simp -implicitDefEqProofs [b__law_first_bad, startEn, arSl, outsOf, implD]
  | str x => simp -implicitDefEqProofs [b__law_first_bad, startEn, arSl, outsOf, implD]
  | list ds => simp -implicitDefEqProofs [b__law_first_bad, startEn, arSl, outsOf, implD]
  | tuple ds =>
    have hmem := hd.mem _ rfl
    have hl := hmem.1
    have hm := hmem.2
    have ef : implD (.tuple ds) = oInt (fbI (okR ds) ds.length 0) := rfl
    rw [ef]
    clear ef
    unfold b__law_first_bad
    generalize hB : bIf (tOrD (tNotD (tOf (dCall f__law_row _ _))) _) _ _ = B
    simp -implicitDefEqProofs [startEn, arSl, outsOf, small_n (show ds.length < 2 ^ 62 by omega)]
    refine OutP_forL (rng (ds.length : Nat)) (fun i en => (∃ s1, (s1 = .un ∨ ∃ d, s1 = .val d) ∧ en = [.val (.tuple ds), s1]) ∧ fbI (okR ds) ds.length 0 = fbI (okR ds) (ds.length - i) i) _ ⟨⟨.un, .inl rfl, rfl⟩, rfl⟩ (fun i d en e hI => ?_) (fun en hI => ?_)
    · obtain ⟨⟨s1, h1, rfl⟩, hI⟩ := hI
      obtain ⟨hi, rfl⟩ := rng_look e
      have ex := List.getElem?_eq_getElem hi
      generalize ds[i] = x at ex
      have hx := hm x (List.mem_of_getElem? ex)
      have est := law_row_ok hx
      have ehd := hx.head
      have exi : sIx (.tuple ds) (.int (i : Nat)) = some x := by
        show atI ds (i : Int) = _
        rw [atI_n, ex]
      rw [show ds.length - i = ds.length - (i + 1) + 1 by omega, fbI_s] at hI
      have hB' : OutP (B [.val (.tuple ds), .val (.int (i : Nat))]) (fun en => (∃ s1, (s1 = Sl.un ∨ ∃ d, s1 = .val d) ∧ en = [.val (.tuple ds), s1]) ∧ fbI (okR ds) ds.length 0 = fbI (okR ds) (ds.length - (i + 1)) (i + 1)) (fun en rr => rr = .v (oInt (fbI (okR ds) ds.length 0))) fun _ _ => False := by
        subst hB
        have eok : okR ds i = (rowB x && (decide (i = 0) || ltS (headS (ds[i - 1]?.getD .none)) (headS x))) := by
          unfold okR
          rw [ex]
          rfl
        rw [eok] at hI
        cases hs : rowB x with
        | false =>
          rw [hs] at est
          rw [hs, Bool.false_and, if_neg Bool.false_ne_true] at hI
          simp -implicitDefEqProofs [-sIx_t, CallP, exi, est, hI, oInt]
        | true =>
          rw [hs] at est
          rw [hs, Bool.true_and] at hI
          by_cases h0 : i = 0
          · subst h0
            rw [decide_eq_true rfl, Bool.true_or, if_pos rfl] at hI
            have exi : sIx (.tuple ds) (.int 0) = some x := exi
            simp -implicitDefEqProofs [-sIx_t, CallP, exi, est, hI]
          · rw [decide_eq_false h0, Bool.false_or] at hI
            obtain ⟨j, rfl⟩ : ∃ j, i = j + 1 := ⟨i - 1, by omega⟩
            have hj := List.getElem?_eq_getElem (show j < ds.length by omega)
            generalize ds[j] = y at hj
            have ehy := (hm y (List.mem_of_getElem? hj)).head
            rw [Nat.add_sub_cancel, hj, Option.getD_some] at hI
            have exj : sIx (.tuple ds) (.int (((j + 1 : Nat) : Int) - 1)) = some y := by
              rw [show ((j + 1 : Nat) : Int) - 1 = (j : Int) by omega]
              show atI ds (j : Int) = _
              rw [atI_n, hj]
            have hpos : (0 : Int) < ((j + 1 : Nat) : Int) := by omega
            have ecmp : sCmpS ltS (.str (headS y)) (.str (headS x)) = some (.bool (ltS (headS y) (headS x))) := rfl
            cases q : ltS (headS y) (headS x) with
            | true =>
              rw [q] at ecmp
              rw [q, if_pos rfl] at hI
              generalize hii : ((j + 1 : Nat) : Int) = ii at exi exj hpos ⊢
              simp -implicitDefEqProofs [-sIx_t, CallP, exi, est, hpos, exj, ehd, ehy, ecmp, hI]
            | false =>
              rw [q] at ecmp
              rw [q, if_neg Bool.false_ne_true] at hI
              have hr : oInt (fbI (okR ds) ds.length 0) = .int ((j + 1 : Nat) : Int) := by rw [hI]; rfl
              generalize hii : ((j + 1 : Nat) : Int) = ii at exi exj hpos hr ⊢
              simp -implicitDefEqProofs [-sIx_t, CallP, exi, est, hpos, exj, ehd, ehy, ecmp, hr]
      exact tg1_any h1 hB'
    · obtain ⟨⟨s1, h1, rfl⟩, hI⟩ := hI
      rw [show (rng (ds.length : Nat)).length = ds.length by unfold rng; simp, Nat.sub_self] at hI
      rw [hI]
      rfl
theorem is_impl_ok {d : D} (hd : Imp d) : f_is_implementation [.v d] = .ok (.v (.bool (isNone (implD d)))) [] := by
  refine Gives.eq (RfP_run rfl ?_)
  simp -implicitDefEqProofs [b_is_implementation, startEn, arSl, outsOf, CallP, impl_fault_ok hd]
end DL
/-! Dh7: what the three functions refuse. -/
namespace DL
open PySem PySem.Spec L2
open PyProof.Rows hiding St
section
variable {en : En} {fa : Ev} {N : En → Prop} {R : En → Rr → Prop} {E : En → Ex → Prop}
def DX_ (v : Rv) (Q : D → Prop) : Prop := match v with
  | .d d => Q d
  | .s _ => False
@[simp] theorem DX_d {d : D} {Q : D → Prop} : DX_ (.d d) Q = Q d := rfl
@[simp] theorem OutP_raiseF {x f : Str} : OutP (bRaiseF x f fa en) N R E = RsP (fa en) (fun en1 v => DX_ v fun d => E en1 ⟨x, [(f, d)]⟩) E := by
  unfold bRaiseF
  simp only [OutP_out]
  congr 1
  funext en1 v
  cases v <;> rfl
theorem OutP_tryF {nm : Str} {i : Nat} {body : Bd} {suite : List (Str × D) → Bd} (h : OutP (body en) N R fun en1 x => x.cls = nm ∧ canPut en1 i = true ∧ OutP (suite x.fs (en1.set i .xs)) (fun e2 => N (e2.set i .un)) (fun e2 r => ∃ d, r = .v d ∧ R (e2.set i .un) r) (fun _ _ => False)) : OutP (bTryF nm i body suite en) N R E := by
  unfold bTryF
  cases q : body en with
  | nx e => rw [q] at h; exact h
  | rt e r => rw [q] at h; exact h
  | ex e x =>
    rw [q] at h
    obtain ⟨h1, h2, h3⟩ := h
    dsimp only
    rw [if_pos ⟨h1, h2⟩]
    cases q2 : suite x.fs (e.set i .xs) with
    | nx e2 => rw [q2] at h3; exact h3
    | rt e2 r =>
      rw [q2] at h3
      obtain ⟨d, rfl, h4⟩ := h3
      exact h4
    | ex e2 r => rw [q2] at h3; exact h3.elim
    | bk e2 => rw [q2] at h3; exact h3.elim
    | ct e2 => rw [q2] at h3; exact h3.elim
    | no => rw [q2] at h3; exact h3.elim
  | bk e => rw [q] at h; exact h
  | ct e => rw [q] at h; exact h
  | no => rw [q] at h; exact h
@[simp] theorem RsP_fld {f : Str} {d : D} {P : En → Rv → Prop} : RsP (dFld [(f, d)] f en) P E = P en (.d d) := by
  unfold dFld
  dsimp only
  rw [if_pos rfl]
  rfl
end
theorem ex_of {r : Rf} {x : Ex} (h : RfP r (fun _ _ => False) fun y os => y = x ∧ os = []) : r = .ex x [] := by
  cases r with
  | ok a b => exact h.elim
  | ex a b => obtain ⟨rfl, rfl⟩ := h; rfl
  | no => exact h.elim
def badX (d : D) : Ex := ⟨"InvalidProgram", [("index", d)]⟩
section
variable {d : D} (hd : Imp d) (hn : isNone (implD d) = false)
include hd hn
theorem check_no : f_check_implementation [.v d] = .ex (badX (implD d)) [] := by
  have e := impl_fault_ok hd
  refine ex_of (RfP_run rfl ?_)
  simp -implicitDefEqProofs [b_check_implementation, startEn, arSl, outsOf, CallP, e, hn, canPut_eq, noAli_eq, badX]
theorem schedule_no : f_schedule_run [.v d, .v (.tuple []), .v (.tuple [])] = .ex (badX (implD d)) [] := by
  have e := check_no hd hn
  refine ex_of (RfP_run rfl ?_)
  simp -implicitDefEqProofs [b_schedule_run, startEn, arSl, outsOf, CallP, e, canPut_eq, noAli_eq]
theorem histories_no : f_histories [.v d, .v (.tuple []), .v (.int 1)] = .ex (badX (implD d)) [] := by
  have e := check_no hd hn
  refine ex_of (RfP_run rfl ?_)
  simp -implicitDefEqProofs [b_histories, startEn, arSl, outsOf, CallP, e, canPut_eq, noAli_eq]
theorem bad_no : f_bad_schedule [.v d, .v (.tuple []), .v (.str "queue"), .v (.int 1)] = .ex (badX (implD d)) [] := by
  have e := check_no hd hn
  refine ex_of (RfP_run rfl ?_)
  simp -implicitDefEqProofs [b_bad_schedule, startEn, arSl, outsOf, CallP, e, canPut_eq, noAli_eq]
theorem refused_ok (w : Int) : f__law_refused [.v (.int w), .v d] = .ok (.v (implD d)) [] := by
  have e1 := schedule_no hd hn
  have e2 := histories_no hd hn
  have e3 := bad_no hd hn
  refine Gives.eq (RfP_run rfl ?_)
  unfold b__law_refused
  rw [OutP_seq]
  refine OutP_tryF ?_
  by_cases h0 : w = 0
  · subst h0
    simp -implicitDefEqProofs [startEn, arSl, outsOf, CallP, e1, canPut_eq, noAli_eq, badX]
  · by_cases h1 : w = 1
    · subst h1
      simp -implicitDefEqProofs [startEn, arSl, outsOf, CallP, e2, canPut_eq, noAli_eq, badX]
    · simp -implicitDefEqProofs [startEn, arSl, outsOf, CallP, e3, canPut_eq, noAli_eq, h0, h1, badX]
end
end DL
/-! Dh8: steps and programs, drawn. -/
namespace DL
open PySem PySem.Spec L2
open PyProof.Rows hiding St
/-- data of a form, so deep at most -/
def lay (k : Nat) (d : D) : Prop := d.canLay0 = true ∧ d.depth ≤ k
theorem lay_all {k : Nat} : ∀ {ps : List D}, (∀ p ∈ ps, lay k p) → PyData.canLayAll0 ps = true ∧ PyData.depthAll ps ≤ k
  | [], _ => ⟨rfl, Nat.zero_le _⟩
  | p :: ps, h => by
    obtain ⟨h1, h2⟩ := h p List.mem_cons_self
    obtain ⟨h3, h4⟩ := lay_all fun q hq => h q (List.mem_cons_of_mem _ hq)
    unfold PyData.canLayAll0 PyData.depthAll
    rw [h1, h3]
    exact ⟨rfl, Nat.max_le.mpr ⟨h2, h4⟩⟩
theorem lay_tup {k : Nat} {ps : List D} (h : ∀ p ∈ ps, lay k p) : lay (k + 1) (.tuple ps) := by
  obtain ⟨h1, h2⟩ := lay_all h
  exact ⟨by unfold PyData.canLay0; exact h1, by unfold PyData.depth; omega⟩
theorem lay_lst {k : Nat} {ps : List D} (h : ∀ p ∈ ps, lay k p) : lay (k + 1) (.list ps) := by
  obtain ⟨h1, h2⟩ := lay_all h
  exact ⟨by unfold PyData.canLay0; exact h1, by unfold PyData.depth; omega⟩
theorem lay.mono {k m : Nat} {d : D} (h : lay k d) (q : k ≤ m) : lay m d := ⟨h.1, Nat.le_trans h.2 q⟩
theorem lay_int {k : Nat} {i : Int} : lay k (.int i) := ⟨rfl, Nat.zero_le _⟩
theorem lay_non {k : Nat} : lay k .none := ⟨rfl, Nat.zero_le _⟩
theorem lay_bool {k : Nat} {b : Bool} : lay k (.bool b) := ⟨rfl, Nat.zero_le _⟩
theorem lay_str {k : Nat} {x : Str} (h : PyData.strOk x = true) : lay k (.str x) := ⟨h, Nat.zero_le _⟩
theorem lay.nd {k : Nat} {d : D} (h : lay k d) : noD d = true := by
  cases d with
  | dict kvs => have := h.1; simp [PyData.canLay0] at this
  | _ => rfl
theorem lay.sh {k : Nat} {d : D} (h : lay k d) (q : k ≤ 64) : SeqAt.shaped d = true := by
  unfold SeqAt.shaped
  rw [Bool.and_eq_true, decide_eq_true_iff]
  exact ⟨h.1, Nat.le_trans h.2 q⟩
theorem layAll_nd : ∀ {ps : List D}, PyData.canLayAll0 ps = true → ∀ p ∈ ps, noD p = true
  | q :: ps, h, p, hp => by
    unfold PyData.canLayAll0 at h
    rw [Bool.and_eq_true] at h
    rcases List.mem_cons.mp hp with rfl | hp
    · exact lay.nd (k := p.depth) ⟨h.1, Nat.le_refl _⟩
    · exact layAll_nd h.2 p hp
/-- a step as it is drawn here -/
structure StpS (s : D) : Prop where
  lay : lay 1 s
  len : ∀ ps, s = .tuple ps → ps.length ≤ 1000
theorem StpS.stp {s : D} (h : StpS s) : Stp s := ⟨h.lay.nd, h.lay.sh (by decide), fun ps e => ⟨h.len ps e, fun p hp => by
  subst e
  have := h.lay.1
  unfold PyData.canLay0 at this
  exact layAll_nd this p hp⟩⟩
theorem StpS.tup {ps : List D} (h : ∀ p ∈ ps, DL.lay 0 p) (hl : ps.length ≤ 1000) : StpS (.tuple ps) := ⟨lay_tup h, fun qs e => by cases e; exact hl⟩
theorem StpS.lst {ps : List D} (h : ∀ p ∈ ps, DL.lay 0 p) : StpS (.list ps) := ⟨lay_lst h, fun qs e => by cases e⟩
theorem StpS.int {i : Int} : StpS (.int i) := ⟨lay_int, fun qs e => by cases e⟩
theorem StpS.non : StpS .none := ⟨lay_non, fun qs e => by cases e⟩
theorem StpS.str {x : Str} (h : PyData.strOk x = true) : StpS (.str x) := ⟨lay_str h, fun qs e => by cases e⟩
/-- a program as it is drawn or bent here -/
inductive ValS : D → Prop
  | tup {ds : List D} (hl : ds.length ≤ 14) (h : ∀ s ∈ ds, StpS s) : ValS (.tuple ds)
  | lst {ds : List D} (h : ∀ s ∈ ds, StpS s) : ValS (.list ds)
  | non : ValS .none
  | int {i : Int} : ValS (.int i)
  | str {x : Str} (h : PyData.strOk x = true) : ValS (.str x)
theorem ValS.val {d : D} (h : ValS d) : Val d := by
  cases h with
  | tup hl h => exact ⟨rfl, (lay_tup fun s hs => (h s hs).lay).sh (by decide), fun ds e => by cases e; exact ⟨by omega, fun s hs => (h s hs).stp⟩⟩
  | lst h => exact ⟨rfl, (lay_lst fun s hs => (h s hs).lay).sh (by decide), fun ds e => by cases e⟩
  | non => exact ⟨rfl, lay_non.sh (k := 0) (by decide), fun ds e => by cases e⟩
  | int => exact ⟨rfl, lay_int.sh (k := 0) (by decide), fun ds e => by cases e⟩
  | str h => exact ⟨rfl, (lay_str h).sh (k := 0) (by decide), fun ds e => by cases e⟩
def atomB : D → Bool
  | .none => true
  | .bool _ => true
  | .int _ => true
  | .str x => PyData.strOk x
  | _ => false
theorem atomB_lay {d : D} (h : atomB d = true) : lay 0 d := by
  cases d <;> first | exact lay_non | exact lay_bool | exact lay_int | exact lay_str h | cases h
theorem StpS.tupB {ps : List D} (h : ps.all atomB = true) (hl : ps.length ≤ 1000) : StpS (.tuple ps) := .tup (fun p hp => atomB_lay (List.all_eq_true.mp h p hp)) hl
theorem StpS.lstB {ps : List D} (h : ps.all atomB = true) : StpS (.list ps) := .lst fun p hp => atomB_lay (List.all_eq_true.mp h p hp)
/-- a step that stands in a program of so many -/
def GoodS (m : Int) (s : D) : Prop := StpS s ∧ stB m s = true
def StepP (n : Nat) (m : Int) (r : Rr) (os : List D) : Prop := ∃ s p', r = .v s ∧ os = [p'] ∧ GoodS m s ∧ Pot (n + 5) p'
theorem inR_i {hi i : Int} (h0 : 0 ≤ i) (h : i ≤ hi) : inR hi (.int i) = true := by unfold inR; simp [h0, h]
theorem step_of_ok {n : Nat} {p : D} {m : Nat} (hp : Pot n p) (hn : n ≤ 890000) (h1 : 1 ≤ m) (h2 : m ≤ 20) : RfP (f__law_step_of [.o p, .v (.int (m : Nat))]) (StepP n m) fun _ _ => False := by
  have hz := sizeLine_big
  refine RfP_run rfl ?_
  unfold b__law_step_of
  simp -implicitDefEqProofs [startEn, arSl, CallP]
  refine draw_then hp (by omega) (by omega) (by omega) fun r p1 r1 r2 hp1 => ?_
  simp -implicitDefEqProofs [CallP]
  refine draw_then hp1 (by omega) (by omega) (by omega) fun s p2 s1 s2 hp2 => ?_
  simp -implicitDefEqProofs [CallP]
  refine draw_then hp2 (by omega) (by omega) (by omega) fun t p3 t1 t2 hp3 => ?_
  simp -implicitDefEqProofs [CallP]
  refine draw_then hp3 (by omega) (by omega) (by omega) fun k p4 k1 k2 hp4 => ?_
  simp -implicitDefEqProofs [CallP, canPut_eq, noAli_eq]
  refine ⟨rfl, by omega, by omega, by omega, by omega, by omega, by omega, by omega, by omega, by omega, by omega, by omega, by omega, ?_⟩
  refine pick_then hp4 (by omega) (by simp) (by simp) fun d p5 hd hp5 => ?_
  simp -implicitDefEqProofs [outsOf]
  refine ⟨d, p5, rfl, rfl, ?_, hp5⟩
  have ir := inR_i (hi := 5) r1 (by omega)
  have is := inR_i (hi := 5) s1 (by omega)
  have it := inR_i (hi := 5) t1 (by omega)
  have ik := inR_i (hi := (m : Int) - 1) k1 (by omega)
  simp only [List.mem_cons, List.not_mem_nil, or_false] at hd
  rcases hd with rfl | rfl | rfl | rfl | rfl | rfl | rfl | rfl | rfl | rfl | rfl | rfl
  · exact ⟨.tupB (by simp only [List.all_cons, List.all_nil, atomB, Bool.and_true, Bool.true_and]; try decide +kernel) (by simp), (show (inR 5 (.int r) && (isI (.int k) && true)) = true by rw [ir]; rfl)⟩
  · exact ⟨.tupB (by simp only [List.all_cons, List.all_nil, atomB, Bool.and_true, Bool.true_and]; try decide +kernel) (by simp), (show (inR 5 (.int r) && (inR 5 (.int s) && true)) = true by rw [ir, is]; rfl)⟩
  · exact ⟨.tupB (by simp only [List.all_cons, List.all_nil, atomB, Bool.and_true, Bool.true_and]; try decide +kernel) (by simp), (show (inR 5 (.int r) && (inR 5 (.int s) && (inR 5 (.int t) && true))) = true by rw [ir, is, it]; rfl)⟩
  · exact ⟨.tupB (by simp only [List.all_cons, List.all_nil, atomB, Bool.and_true, Bool.true_and]; try decide +kernel) (by simp), (show (inR 5 (.int r) && (inR 5 (.int s) && true)) = true by rw [ir, is]; rfl)⟩
  · exact ⟨.tupB (by simp only [List.all_cons, List.all_nil, atomB, Bool.and_true, Bool.true_and]; try decide +kernel) (by simp), (show (inR 5 (.int r) && (inR 5 (.int s) && true)) = true by rw [ir, is]; rfl)⟩
  · exact ⟨.tupB (by simp only [List.all_cons, List.all_nil, atomB, Bool.and_true, Bool.true_and]; try decide +kernel) (by simp), (show (inR 5 (.int r) && (inR 5 (.int s) && (inR 5 (.int t) && true))) = true by rw [ir, is, it]; rfl)⟩
  · exact ⟨.tupB (by simp only [List.all_cons, List.all_nil, atomB, Bool.and_true, Bool.true_and]; try decide +kernel) (by simp), (show (inR ((m : Int) - 1) (.int k) && true) = true by rw [ik]; rfl)⟩
  · exact ⟨.tupB (by simp only [List.all_cons, List.all_nil, atomB, Bool.and_true, Bool.true_and]; try decide +kernel) (by simp), (show (inR 5 (.int r) && (inR ((m : Int) - 1) (.int k) && true)) = true by rw [ir, ik]; rfl)⟩
  · exact ⟨.tupB (by simp only [List.all_cons, List.all_nil, atomB, Bool.and_true, Bool.true_and]; try decide +kernel) (by simp), (show (inR 5 (.int r) && true) = true by rw [ir]; rfl)⟩
  · exact ⟨.tupB (by simp only [List.all_cons, List.all_nil, atomB, Bool.and_true, Bool.true_and]; try decide +kernel) (by simp), (show (inR 5 (.int r) && true) = true by rw [ir]; rfl)⟩
  · exact ⟨.tupB (by simp only [List.all_cons, List.all_nil, atomB, Bool.and_true, Bool.true_and]; try decide +kernel) (by simp), rfl⟩
  · exact ⟨.tupB (by simp only [List.all_cons, List.all_nil, atomB, Bool.and_true, Bool.true_and]; try decide +kernel) (by simp), (show (inR 5 (.int r) && (isI (.int (-5)) && true)) = true by rw [ir]; rfl)⟩
/-! a program drawn -/
theorem fb_none {n : Nat} : ∀ {k : Nat} {ds : List D}, (∀ i x, ds[i]? = some x → okAt n (k + i) x = true) → fb n k ds = none
  | k, [], _ => rfl
  | k, d :: ds, h => by
    have h0 := h 0 d rfl
    rw [Nat.add_zero] at h0
    rw [fb_cons, if_pos h0]
    exact fb_none fun i x e => by
      have := h (i + 1) x (by simpa using e)
      rw [show k + 1 + i = k + (i + 1) by omega]
      exact this
theorem fault_none {ds : List D} {l : D} (h : ∀ s ∈ ds, GoodS ((ds.length + 1 : Nat) : Int) s) (hl : GoodS ((ds.length + 1 : Nat) : Int) l) (hb : lastD l = true) : faultD (.tuple (ds ++ [l])) = .none := by
  have key : fb (ds.length + 1) 0 (ds ++ [l]) = none := by
    refine fb_none fun i x e => ?_
    rw [Nat.zero_add]
    by_cases q : i < ds.length
    · rw [List.getElem?_append_left q] at e
      exact okAt_mid (h x (List.mem_of_getElem? e)).2 (by omega)
    · rw [List.getElem?_append_right (by omega)] at e
      have : i - ds.length = 0 := by
        by_cases z : i - ds.length = 0
        · exact z
        · rw [List.getElem?_eq_none (by simp; omega)] at e
          cases e
      rw [this] at e
      cases e
      unfold okAt
      rw [hl.2, hb]
      simp
  cases ds with
  | nil => show (match fb 1 0 [l] with | some k => PyData.int (k : Nat) | none => .none) = _; rw [show fb 1 0 [l] = none from key]
  | cons d r =>
    show (match fb ((r ++ [l]).length + 1) 0 (d :: r ++ [l]) with | some k => PyData.int (k : Nat) | none => .none) = _
    rw [show (r ++ [l]).length + 1 = (d :: r).length + 1 by simp, key]
/-- a whole program -/
def ProgP (n : Nat) (r : Rr) (os : List D) : Prop := ∃ ds p', r = .v (.tuple ds) ∧ os = [p'] ∧ 1 ≤ ds.length ∧ ds.length ≤ 12 ∧ (∀ s ∈ ds, StpS s) ∧ faultD (.tuple ds) = .none ∧ Pot (n + 80) p'
theorem program_ok {n : Nat} {p : D} (hp : Pot n p) (hn : n ≤ 800000) : RfP (f__law_program [.o p]) (ProgP n) fun _ _ => False := by
  have hz := sizeLine_big
  refine RfP_run rfl ?_
  unfold b__law_program
  generalize hB : bRet _ = B
  simp -implicitDefEqProofs [startEn, arSl, CallP]
  refine draw_then hp (by omega) (by omega) (by omega) fun r p1 r1 r2 hp1 => ?_
  obtain ⟨m, hm⟩ : ∃ m : Nat, r = (m : Int) - 1 := ⟨(1 + r).toNat, by omega⟩
  have hs : sAdd (.int 1) (.int r) = some (.int (m : Int)) := by rw [sAdd_i]; congr 2; omega
  have hm1 : 1 ≤ m := by omega
  have hm2 : m ≤ 12 := by omega
  simp -implicitDefEqProofs [-sAdd_i, hs, CallP, canPut_eq, noAli_eq]
  refine ⟨by omega, ?_⟩
  refine draw_then hp1 (by omega) (by omega) (by omega) fun a p2 a1 a2 hp2 => ?_
  simp -implicitDefEqProofs [CallP, canPut_eq, noAli_eq]
  refine ⟨by omega, ?_⟩
  refine draw_then hp2 (by omega) (by omega) (by omega) fun b p3 b1 b2 hp3 => ?_
  simp -implicitDefEqProofs [CallP, canPut_eq, noAli_eq]
  refine ⟨by omega, by omega, ?_⟩
  refine draw_then hp3 (by omega) (by omega) (by omega) fun c p4 c1 c2 hp4 => ?_
  have hlast : ∃ l, atI [PyData.tuple [.str "none"], .tuple [.str "return", .int a], .tuple [.str "jump", .int b]] c = some l ∧ GoodS (m : Nat) l ∧ lastD l = true := by
    obtain ⟨c, rfl⟩ : ∃ k : Nat, c = (k : Int) := ⟨c.toNat, by omega⟩
    have hc : c = 0 ∨ c = 1 ∨ c = 2 := by omega
    have ia := inR_i (hi := 5) a1 (by omega)
    have ib := inR_i (hi := (m : Int) - 1) b1 (by omega)
    rw [atI_n]
    rcases hc with rfl | rfl | rfl
    · exact ⟨_, rfl, ⟨.tupB (by simp only [List.all_cons, List.all_nil, atomB, Bool.and_true, Bool.true_and]; try decide +kernel) (by simp), rfl⟩, rfl⟩
    · exact ⟨_, rfl, ⟨.tupB (by simp only [List.all_cons, List.all_nil, atomB, Bool.and_true, Bool.true_and]; try decide +kernel) (by simp), (show (inR 5 (.int a) && true) = true by rw [ia]; rfl)⟩, rfl⟩
    · exact ⟨_, rfl, ⟨.tupB (by simp only [List.all_cons, List.all_nil, atomB, Bool.and_true, Bool.true_and]; try decide +kernel) (by simp), (show (inR ((m : Int) - 1) (.int b) && true) = true by rw [ib]; rfl)⟩, rfl⟩
  obtain ⟨l, el, gl, ll⟩ := hlast
  simp -implicitDefEqProofs [CallP, canPut_eq, noAli_eq, el]
  subst hB
  simp -implicitDefEqProofs [small_i (show (0 : Int) ≤ (m : Int) - 1 by omega) (by omega)]
  have hrl : (rng ((m : Int) - 1)).length = m - 1 := by unfold rng; simp
  refine RsP_compS (fun i en acc => ∃ p', en = [.own true p', .val (.int m), .val l, .un] ∧ Pot (n + 4 + 5 * i) p' ∧ acc.length = i ∧ ∀ s ∈ acc, GoodS (m : Nat) s) _ 0 _ _ ⟨p4, rfl, hp4.mono (by omega), rfl, fun s hs => nomatch hs⟩ (by rw [hrl]; simp; try omega) (fun i d en acc hI hd hlt => ?_) fun en acc hI => ?_
  · obtain ⟨p', rfl, hp', ha, hg⟩ := hI
    have hi : i < 12 := by rw [hrl] at hlt; omega
    refine ⟨_, rfl, ?_⟩
    simp -implicitDefEqProofs [tgName, canPut_eq, noAli_eq, CallP]
    refine (step_of_ok hp' (by omega) hm1 (by omega)).mono (fun r os hq => ?_) fun _ _ z => z.elim
    obtain ⟨s, p5, rfl, rfl, gs, hp5⟩ := hq
    simp -implicitDefEqProofs [unw]
    refine ⟨hp5.mono (by omega), ha, fun x hx => ?_⟩
    rcases hx with hx | hx
    · exact hg x hx
    · subst hx; exact gs
  · obtain ⟨p', rfl, hp', ha, hg⟩ := hI
    rw [hrl] at ha hp'
    simp -implicitDefEqProofs [outsOf]
    refine ⟨by omega, by omega, ?_⟩
    refine ⟨acc ++ [l], p', rfl, rfl, (by rw [List.length_append, List.length_singleton]; omega), (by rw [List.length_append, List.length_singleton]; omega), fun s hs => ?_, ?_, hp'.mono (by omega)⟩
    · rcases List.mem_append.mp hs with hs | hs
      · exact (hg s hs).1
      · rw [List.mem_singleton.mp hs]
        exact gl.1
    · have e : acc.length + 1 = m := by omega
      exact fault_none (by rw [e]; exact hg) (by rw [e]; exact gl) ll
end DL
/-! Dh9: programs bent. -/
namespace DL
open PySem PySem.Spec L2
open PyProof.Rows hiding St
@[irreducible] def lb_0 : Bd := (bParN [2, 3] (xCons (dCall f__law_draw [true, false] (aCons (dVar 0) (aCons (dCallB sLen (aCons (dVar 1) (aNil))) (aNil)))) (xCons (dCall f__law_draw [true, false] (aCons (dVar 0) (aCons (dC (.int 5)) (aNil)))) (xNil))))
@[irreducible] def lb_1 : Bd := (bSet 4 (dLst (aCons (dTup (aCons (dC (.str "jump")) (aCons (dCallB sLen (aCons (dVar 1) (aNil))) (aNil)))) (aCons (dTup (aCons (dC (.str "zero")) (aCons (dC (.int 0)) (aCons (dUn sNeg (dC (.int 1))) (aNil))))) (aCons (dTup (aCons (dC (.str "zero")) (aCons (dC (.int 0)) (aCons (dOp sAdd (dCallB sLen (aCons (dVar 1) (aNil))) (dC (.int 1))) (aNil))))) (aCons (dTup (aCons (dC (.str "move")) (aCons (dC (.int 6)) (aCons (dC (.int 0)) (aNil))))) (aCons (dTup (aCons (dC (.str "load")) (aCons (dC (.int 0)) (aCons (dUn sNeg (dC (.int 1))) (aNil))))) (aCons (dTup (aCons (dC (.str "const")) (aCons (dC (.int 0)) (aCons (dC .none) (aNil))))) (aCons (dTup (aCons (dC (.str "const")) (aCons (dC (.int 0)) (aNil)))) (aNil))))))))))
@[irreducible] def lb_2 : Bd := (bSet 4 (dOp sAdd (dVar 4) (dLst (aCons (dTup (aCons (dC (.str "add")) (aCons (dC (.int 0)) (aCons (dC (.int 1)) (aNil))))) (aCons (dTup (aCons (dC (.str "none")) (aCons (dC (.int 0)) (aNil)))) (aCons (dTup (aCons (dC (.str "return")) (aNil))) (aCons (dTup (aCons (dC (.str "return")) (aCons (dC (.bool true)) (aNil)))) (aCons (dLst (aCons (dC (.str "none")) (aNil))) (aCons (dC (.str "none")) (aCons (dC .none) (aCons (dTup (aNil)) (aCons (dTup (aCons (dC (.str "go")) (aNil))) (aCons (dTup (aCons (dC (.str "fresh")) (aCons (dC (.str "0")) (aNil)))) (aCons (dC (.int 7)) (aNil)))))))))))))))
@[irreducible] def lb_3 : Bd := (bIf (tOf (dOp sEq (dVar 3) (dC (.int 0)))) (bRet (dOp sAdd (dSl (dVar 1) (pNo) (pIs (dVar 2))) (dSl (dVar 1) (pIs (dOp sAdd (dVar 2) (dC (.int 1)))) (pNo)))) (bNil))
@[irreducible] def lb_4 : Bd := (bIf (tOf (dOp sEq (dVar 3) (dC (.int 1)))) (bRet (dCall f__law_pick [true, false] (aCons (dVar 0) (aCons (dLst (aCons (dCallB sList (aCons (dVar 1) (aNil))) (aCons (dC .none) (aCons (dTup (aNil)) (aCons (dC (.int 0)) (aCons (dC (.str "x")) (aCons (dUn sRevT (dVar 1)) (aCons (dOp sAdd (dVar 1) (dTup (aCons (dTup (aCons (dC (.str "const")) (aCons (dC (.int 0)) (aCons (dC (.int 1)) (aNil))))) (aNil)))) (aNil))))))))) (aNil))))) (bNil))
@[irreducible] def lb_5 : Bd := (bRet (dOp sAdd (dOp sAdd (dSl (dVar 1) (pNo) (pIs (dVar 2))) (dTup (aCons (dCall f__law_pick [true, false] (aCons (dVar 0) (aCons (dVarF 4) (aNil)))) (aNil)))) (dSl (dVar 1) (pIs (dOp sAdd (dVar 2) (dCallB sInt (aCons (dOp (sCmp fLt) (dVar 3) (dC (.int 4))) (aNil))))) (pNo))))
theorem lb_cut : b__law_bent = (bSeq lb_0 (bSeq lb_1 (bSeq lb_2 (bSeq lb_3 (bSeq lb_4 lb_5))))) := by
  unfold lb_5 lb_4 lb_3 lb_2 lb_1 lb_0
  rfl
@[simp] theorem sRevT_t {ds : List D} : sRevT (.tuple ds) = some (.tuple ds.reverse) := rfl
def oddL (m : Int) : List D := [.tuple [.str "jump", .int m], .tuple [.str "zero", .int 0, .int (-1)], .tuple [.str "zero", .int 0, .int (m + 1)], .tuple [.str "move", .int 6, .int 0], .tuple [.str "load", .int 0, .int (-1)], .tuple [.str "const", .int 0, .none], .tuple [.str "const", .int 0],
  .tuple [.str "add", .int 0, .int 1], .tuple [.str "none", .int 0], .tuple [.str "return"], .tuple [.str "return", .bool true], .list [.str "none"], .str "none", .none, .tuple [], .tuple [.str "go"], .tuple [.str "fresh", .str "0"], .int 7]
theorem oddL_ok (m : Int) : ∀ s ∈ oddL m, StpS s := by
  intro s hs
  simp only [oddL, List.mem_cons, List.not_mem_nil, or_false] at hs
  rcases hs with rfl | rfl | rfl | rfl | rfl | rfl | rfl | rfl | rfl | rfl | rfl | rfl | rfl | rfl | rfl | rfl | rfl | rfl
  · exact .tupB (by simp only [List.all_cons, List.all_nil, atomB, Bool.and_true, Bool.true_and]; try decide +kernel) (by simp)
  · exact .tupB (by simp only [List.all_cons, List.all_nil, atomB, Bool.and_true, Bool.true_and]; try decide +kernel) (by simp)
  · exact .tupB (by simp only [List.all_cons, List.all_nil, atomB, Bool.and_true, Bool.true_and]; try decide +kernel) (by simp)
  · exact .tupB (by simp only [List.all_cons, List.all_nil, atomB, Bool.and_true, Bool.true_and]; try decide +kernel) (by simp)
  · exact .tupB (by simp only [List.all_cons, List.all_nil, atomB, Bool.and_true, Bool.true_and]; try decide +kernel) (by simp)
  · exact .tupB (by simp only [List.all_cons, List.all_nil, atomB, Bool.and_true, Bool.true_and]; try decide +kernel) (by simp)
  · exact .tupB (by simp only [List.all_cons, List.all_nil, atomB, Bool.and_true, Bool.true_and]; try decide +kernel) (by simp)
  · exact .tupB (by simp only [List.all_cons, List.all_nil, atomB, Bool.and_true, Bool.true_and]; try decide +kernel) (by simp)
  · exact .tupB (by simp only [List.all_cons, List.all_nil, atomB, Bool.and_true, Bool.true_and]; try decide +kernel) (by simp)
  · exact .tupB (by simp only [List.all_cons, List.all_nil, atomB, Bool.and_true, Bool.true_and]; try decide +kernel) (by simp)
  · exact .tupB (by simp only [List.all_cons, List.all_nil, atomB, Bool.and_true, Bool.true_and]; try decide +kernel) (by simp)
  · exact .lstB (by simp only [List.all_cons, List.all_nil, atomB, Bool.and_true, Bool.true_and]; try decide +kernel)
  · exact .str (by decide +kernel)
  · exact .non
  · exact .tupB rfl (by simp)
  · exact .tupB (by simp only [List.all_cons, List.all_nil, atomB, Bool.and_true, Bool.true_and]; try decide +kernel) (by simp)
  · exact .tupB (by simp only [List.all_cons, List.all_nil, atomB, Bool.and_true, Bool.true_and]; try decide +kernel) (by simp)
  · exact .int
def BentP (n : Nat) (ds : List D) (r : Rr) (os : List D) : Prop := ∃ v p', r = .v v ∧ os = [p'] ∧ ValS v ∧ (∀ es, v = .tuple es → es.length ≤ ds.length + 1 ∧ ∀ s ∈ es, StpS s) ∧ Pot (n + 3) p'
theorem BentP.tup {n : Nat} {ds es : List D} {p' : D} (hl : es.length ≤ ds.length + 1) (hd : ds.length ≤ 13) (h : ∀ s ∈ es, StpS s) (hp : Pot (n + 3) p') : BentP n ds (.v (.tuple es)) [p'] :=
  ⟨_, p', rfl, rfl, .tup (by omega) h, fun fs e => by cases e; exact ⟨hl, h⟩, hp⟩
theorem bent_ok {n : Nat} {p : D} {ds : List D} (hp : Pot n p) (hn : n ≤ 800000) (h1 : 1 ≤ ds.length) (h2 : ds.length ≤ 13) (hs : ∀ s ∈ ds, StpS s) : RfP (f__law_bent [.o p, .v (.tuple ds)]) (BentP n ds) fun _ _ => False := by
  have hz := sizeLine_big
  refine RfP_run rfl ?_
  rw [lb_cut, OutP_seq]
  unfold lb_0
  simp -implicitDefEqProofs [startEn, arSl, CallP]
  refine draw_then hp (by omega) (by omega) (by omega) fun a p1 a1 a2 hp1 => ?_
  simp -implicitDefEqProofs [CallP]
  refine draw_then hp1 (by omega) (by omega) (by omega) fun t p2 t1 t2 hp2 => ?_
  simp -implicitDefEqProofs [canPut_eq, noAli_eq]
  refine ⟨rfl, ?_⟩
  obtain ⟨a, rfl⟩ : ∃ k : Nat, a = (k : Int) := ⟨a.toNat, by omega⟩
  have ha : a < ds.length := by omega
  have hodd := oddL_ok (ds.length : Nat)
  have hoddl : (oddL (ds.length : Nat)).length = 18 := rfl
  have e2 : ∀ (en : En) (N : En → Prop) (R : En → Rr → Prop) (E : En → Ex → Prop), en = [.own true p2, .val (.tuple ds), .val (.int (a : Nat)), .val (.int t), .un] → N [.own true p2, .val (.tuple ds), .val (.int (a : Nat)), .val (.int t), .val (.list (oddL (ds.length : Nat)))] → OutP (lb_1 en) (fun en1 => OutP (lb_2 en1) N R E) R E := by
    rintro _ N R E rfl h
    unfold lb_1 lb_2
    simp -implicitDefEqProofs [canPut_eq, noAli_eq]
    exact ⟨by omega, by omega, by omega, by omega, by omega, by omega, by omega, by omega, by omega, by omega, by omega, by omega, h⟩
  refine e2 _ _ _ _ rfl ?_
  clear e2
  generalize oddL (ds.length : Nat) = L at hodd hoddl
  unfold lb_3
  have c1 := cutD_to (xs := ds) (k := a)
  have c2 := cut_from (xs := ds) (k := a + 1)
  have c3 := cut_from (xs := ds) (k := a)
  rw [show ((a + 1 : Nat) : Int) = (a : Int) + 1 by omega] at c2
  have lt : (ds.take a).length = a := by rw [List.length_take]; omega
  have ld : (ds.drop (a + 1)).length = ds.length - (a + 1) := List.length_drop
  have ld2 : (ds.drop a).length = ds.length - a := List.length_drop
  have mt : ∀ s ∈ ds.take a, StpS s := fun s h => hs s (List.mem_of_mem_take h)
  have md : ∀ s ∈ ds.drop (a + 1), StpS s := fun s h => hs s (List.mem_of_mem_drop h)
  have md2 : ∀ s ∈ ds.drop a, StpS s := fun s h => hs s (List.mem_of_mem_drop h)
  generalize ds.take a = T at c1 lt mt
  generalize ds.drop (a + 1) = U at c2 ld md
  generalize ds.drop a = U2 at c3 ld2 md2
  by_cases t0 : t = 0
  · subst t0
    simp -implicitDefEqProofs [c1, c2, outsOf]
    refine ⟨by omega, BentP.tup (by rw [List.length_append]; omega) h2 (fun s hm => ?_) (hp2.mono (by omega))⟩
    rcases List.mem_append.mp hm with q | q
    · exact mt s q
    · exact md s q
  · simp -implicitDefEqProofs [t0]
    unfold lb_4
    by_cases t1' : t = 1
    · subst t1'
      simp -implicitDefEqProofs [CallP]
      refine ⟨by omega, by omega, by omega, by omega, ?_⟩
      refine pick_then hp2 (by omega) (by simp) (by simp) fun v p3 hv hp3 => ?_
      simp -implicitDefEqProofs [outsOf]
      have hp4 := hp3.mono (show n + 1 + 1 + 1 ≤ n + 3 by omega)
      simp only [List.mem_cons, List.not_mem_nil, or_false] at hv
      rcases hv with rfl | rfl | rfl | rfl | rfl | rfl | rfl
      · exact ⟨_, p3, rfl, rfl, .lst hs, (fun es e => by cases e), hp4⟩
      · exact ⟨_, p3, rfl, rfl, .non, (fun es e => by cases e), hp4⟩
      · exact BentP.tup (by simp) h2 (fun s hm => nomatch hm) hp4
      · exact ⟨_, p3, rfl, rfl, .int, (fun es e => by cases e), hp4⟩
      · exact ⟨_, p3, rfl, rfl, .str (by decide +kernel), (fun es e => by cases e), hp4⟩
      · exact BentP.tup (by simp) h2 (fun s hm => hs s (List.mem_reverse.mp hm)) hp4
      · refine BentP.tup (by simp) h2 (fun s hm => ?_) hp4
        rcases List.mem_append.mp hm with q | q
        · exact hs s q
        · rw [List.mem_singleton.mp q]
          exact .tupB (by simp only [List.all_cons, List.all_nil, atomB, Bool.and_true, Bool.true_and]; try decide +kernel) (by simp)
    · simp -implicitDefEqProofs [t1']
      unfold lb_5
      simp -implicitDefEqProofs [CallP, c1]
      refine pick_then hp2 (by omega) (by omega) (by omega) fun s p3 hm hp3 => ?_
      by_cases t4 : t < 4
      · simp -implicitDefEqProofs [t4, c2, outsOf]
        refine ⟨by omega, by omega, by omega, BentP.tup (by rw [List.length_append, List.length_cons]; omega) h2 (fun x hx => ?_) (hp3.mono (by omega))⟩
        rcases List.mem_append.mp hx with q | q
        · exact mt x q
        · rcases List.mem_cons.mp q with rfl | q
          · exact hodd x hm
          · exact md x q
      · simp -implicitDefEqProofs [t4, c3, outsOf]
        refine ⟨by omega, by omega, by omega, BentP.tup (by rw [List.length_append, List.length_cons]; omega) h2 (fun x hx => ?_) (hp3.mono (by omega))⟩
        rcases List.mem_append.mp hx with q | q
        · exact mt x q
        · rcases List.mem_cons.mp q with rfl | q
          · exact hodd x hm
          · exact md2 x q
end DL
/-! Dh10: a turn of the law. -/
namespace DL
open PySem PySem.Spec L2
open PyProof.Rows hiding St
@[irreducible] def lw_0_0 : Bd := (bSetO 2 (oCall f__law_pot [false, false] (aCons (dVarF 0) (aCons (dVarF 1) (aNil)))))
@[irreducible] def lw_0_1 : Bd := (bSet 3 (dCall f__law_program [true] (aCons (dVar 2) (aNil))))
@[irreducible] def lw_0_2 : Bd := (bIf (tOf (dOp sIsNot (dCall f_program_fault [false] (aCons (dVarF 3) (aNil))) (dC .none))) (bRet (dC (.bool false))) (bNil))
@[irreducible] def lw_0_3_0 : Bd := (bSet 5 (dCall f__law_bent [true, false] (aCons (dVar 2) (aCons (dVarF 3) (aNil)))))
@[irreducible] def lw_0_3_1 : Bd := (bIf (tAndD (tOf (dOp sEq (dCall f__law_draw [true, false] (aCons (dVar 2) (aCons (dC (.int 3)) (aNil)))) (dC (.int 0)))) (tAndD (tOf (dUn isTup (dVar 5))) (tOf (dOp sNe (dVar 5) (dTup (aNil)))))) (bSet 5 (dCall f__law_bent [true, false] (aCons (dVar 2) (aCons (dVarF 5) (aNil))))) (bNil))
@[irreducible] def lw_0_3_2 : Bd := (bIf (tNotD (tOf (dCall (f__law_same 12) [false, false] (aCons (dCall f_program_fault [false] (aCons (dVarF 5) (aNil))) (aCons (dCall f__law_fault [false] (aCons (dVarF 5) (aNil))) (aNil)))))) (bRet (dC (.bool false))) (bNil))
@[irreducible] def lw_0_3_3 : Bd := (bSet 6 (dTup (aCons (dTup (aCons (dC (.str "a")) (aCons (dVarF 3) (aNil)))) (aCons (dTup (aCons (dC (.str "get")) (aCons (dVarF 5) (aNil)))) (aCons (dTup (aCons (dC (.str "put")) (aCons (dVarF 3) (aNil)))) (aNil))))))
@[irreducible] def lw_0_3_4 : Bd := (bSet 7 (dLst (aCons (dTup (aCons (dOp sIx (dVar 6) (dC (.int 0))) (aCons (dTup (aCons (dC (.str "Get")) (aCons (dVarF 3) (aNil)))) (aNil)))) (aCons (dTup (aCons (dTup (aCons (dC (.str "a")) (aCons (dVarF 3) (aCons (dC (.int 0)) (aNil))))) (aNil))) (aCons (dCallB sList (aCons (dVar 6) (aNil))) (aCons (dC .none) (aNil)))))))
@[irreducible] def lw_0_3_5 : Bd := (bSet 8 (dCall f__law_pick [true, false] (aCons (dVar 2) (aCons (dOp sAdd (dLst (aCons (dVarF 6) (aCons (dSl (dVar 6) (pNo) (pIs (dC (.int 2)))) (aCons (dSl (dVar 6) (pIs (dC (.int 1))) (pNo)) (aCons (dUn sRevT (dVar 6)) (aCons (dOp sAdd (dVar 6) (dSl (dVar 6) (pIs (dC (.int 2))) (pNo))) (aNil))))))) (dVar 7)) (aNil)))))
@[irreducible] def lw_0_3_6 : Bd := (bSet 9 (dCall f__law_first_bad [false] (aCons (dVarF 8) (aNil))))
@[irreducible] def lw_0_3_7 : Bd := (bIf (tNotD (tOf (dCall (f__law_same 12) [false, false] (aCons (dCall f_is_implementation [false] (aCons (dVarF 8) (aNil))) (aCons (dOp sIs (dVar 9) (dC .none)) (aNil)))))) (bRet (dC (.bool false))) (bNil))
@[irreducible] def lw_0_3_8 : Bd := (bIf (tAndD (tOf (dOp sIsNot (dVar 9) (dC .none))) (tNotD (tOf (dCall (f__law_same 12) [false, false] (aCons (dCall f__law_refused [false, false] (aCons (dCall f__law_draw [true, false] (aCons (dVar 2) (aCons (dC (.int 3)) (aNil)))) (aCons (dVarF 8) (aNil)))) (aCons (dVarF 9) (aNil))))))) (bRet (dC (.bool false))) (bNil))
@[irreducible] def lw_0_3_b : Bd := (bSeq lw_0_3_0 (bSeq lw_0_3_1 (bSeq lw_0_3_2 (bSeq lw_0_3_3 (bSeq lw_0_3_4 (bSeq lw_0_3_5 (bSeq lw_0_3_6 (bSeq lw_0_3_7 lw_0_3_8))))))))
@[irreducible] def lw_0_3 : Bd := bFor (iRange1 (aCons (dC (.int 3)) (aNil))) (tgName 4) lw_0_3_b
@[irreducible] def lw_0_b : Bd := (bSeq lw_0_0 (bSeq lw_0_1 (bSeq lw_0_2 lw_0_3)))
@[irreducible] def lw_0 : Bd := bFor (iOf itAll (dCall f__law_turns [false, false, false, false] (aCons (dVarF 0) (aCons (dC (.int 0)) (aCons (dC (.int 4)) (aCons (dC (.int 20)) (aNil))))))) (tgName 1) lw_0_b
@[irreducible] def lw_1 : Bd := (bRet (dC (.bool true)))
theorem lw_cut : b_law = (bSeq lw_0 lw_1) := by
  unfold lw_1 lw_0 lw_0_b lw_0_3 lw_0_3_b lw_0_3_8 lw_0_3_7 lw_0_3_6 lw_0_3_5 lw_0_3_4 lw_0_3_3 lw_0_3_2 lw_0_3_1 lw_0_3_0 lw_0_2 lw_0_1 lw_0_0
  rfl
theorem faultD_s (d : D) : okS (faultD d) = true ∧ PyData.depth (faultD d) = 0 := by
  unfold faultD
  split
  · split <;> exact ⟨rfl, rfl⟩
  · exact ⟨rfl, rfl⟩
theorem oInt_s (o : Option Nat) : okS (oInt o) = true ∧ PyData.depth (oInt o) = 0 := by cases o <;> exact ⟨rfl, rfl⟩
theorem implD_s (d : D) : okS (implD d) = true ∧ PyData.depth (implD d) = 0 := by
  unfold implD
  split
  · exact oInt_s _
  · exact ⟨rfl, rfl⟩
section
variable {s0 s1 p pr tr : D} {n : Nat} {N : En → Prop} {R : En → Rr → Prop} {E : En → Ex → Prop} {a5 a6 a7 a8 a9 : Option D}
/-- the law's slots in a turn -/
def lwE (s0 s1 p pr tr : D) (a5 a6 a7 a8 a9 : Option D) : En := [.val s0, .val s1, .own false p, .val pr, .val tr, pl a5, pl a6, pl a7, pl a8, pl a9]
theorem w0 {ds : List D} (hpr : pr = .tuple ds) (hp : Pot n p) (hn : n ≤ 800000) (h1 : 1 ≤ ds.length) (h2 : ds.length ≤ 12) (hs : ∀ s ∈ ds, StpS s)
    (hN : ∀ v p', ValS v → (∀ es, v = .tuple es → es.length ≤ 13 ∧ ∀ s ∈ es, StpS s) → Pot (n + 3) p' → N (lwE s0 s1 p' pr tr (some v) a6 a7 a8 a9)) : OutP (lw_0_3_0 (lwE s0 s1 p pr tr a5 a6 a7 a8 a9)) N R E := by
  have hb := bent_ok hp hn h1 (by omega) hs
  rw [← hpr] at hb
  unfold lw_0_3_0
  simp -implicitDefEqProofs [lwE, CallP]
  refine hb.mono (fun r os hq => ?_) fun _ _ z => z.elim
  obtain ⟨v, p', rfl, rfl, hv, hl, hp'⟩ := hq
  simp -implicitDefEqProofs [canPut_eq, noAli_eq]
  exact hN v p' hv (fun es e => ⟨by have := (hl es e).1; omega, (hl es e).2⟩) hp'
theorem ne_nil {ds : List D} (h : SeqAt.shaped (.tuple ds) = true) : sNe (.tuple ds) (.tuple []) = some (.bool (!ds.isEmpty)) := by
  have := eq_nilT h
  unfold sEq at this
  unfold sNe
  cases q : eqD (.tuple ds) (.tuple []) with
  | none => rw [q] at this; cases this
  | some b => rw [q] at this; cases this; rfl
theorem w1 {v : D} (hv : ValS v) (hl : ∀ es, v = .tuple es → es.length ≤ 13 ∧ ∀ s ∈ es, StpS s) (hp : Pot n p) (hn : n ≤ 700000)
    (hN : ∀ v p', ValS v → Pot (n + 4) p' → N (lwE s0 s1 p' pr tr (some v) a6 a7 a8 a9)) : OutP (lw_0_3_1 (lwE s0 s1 p pr tr (some v) a6 a7 a8 a9)) N R E := by
  have hz := sizeLine_big
  unfold lw_0_3_1
  simp -implicitDefEqProofs [lwE, CallP]
  refine draw_then hp (by omega) (by omega) (by omega) fun a p1 b1 b2 hp1 => ?_
  have fin : N (lwE s0 s1 p1 pr tr (some v) a6 a7 a8 a9) := hN v p1 hv (hp1.mono (by omega))
  by_cases ha : a = 0
  · subst ha
    cases hv with
    | non => simp -implicitDefEqProofs; exact fin
    | int => simp -implicitDefEqProofs; exact fin
    | str h => simp -implicitDefEqProofs; exact fin
    | lst h => simp -implicitDefEqProofs; exact fin
    | @tup ds h2 h =>
      have en := ne_nil (ValS.tup h2 h).val.sh
      have hl := hl ds rfl
      generalize hd : PyData.tuple ds = d at en fin
      have ht : isTup d = some (.bool true) := by rw [← hd]; rfl
      cases hds : ds with
      | nil =>
        rw [hds] at en
        simp -implicitDefEqProofs [en, ht]
        exact fin
      | cons x y =>
        rw [hds] at en
        simp -implicitDefEqProofs [en, ht, CallP]
        have hb := bent_ok hp1 (by omega) (by rw [hds]; simp) hl.1 hl.2
        rw [hd] at hb
        refine hb.mono (fun r os hq => ?_) fun _ _ z => z.elim
        obtain ⟨v, p', rfl, rfl, hv, _, hp'⟩ := hq
        simp -implicitDefEqProofs [canPut_eq, noAli_eq]
        exact hN v p' hv (hp'.mono (by omega))
  · simp -implicitDefEqProofs [ha]
    exact fin
theorem w2 {v : D} (hv : Val v) (hN : N (lwE s0 s1 p pr tr (some v) a6 a7 a8 a9)) : OutP (lw_0_3_2 (lwE s0 s1 p pr tr (some v) a6 a7 a8 a9)) N R E := by
  have e1 := fault_ok hv
  have e2 := law_fault_ok hv
  have e3 := (same_ok 12 (faultD v) (by rw [(faultD_s v).2]; decide) (faultD_s v).1).eq
  unfold lw_0_3_2
  simp -implicitDefEqProofs [lwE, CallP, e1, e2, e3]
  exact hN
def rowsL (pr v : D) : List D := [.tuple [.str "a", pr], .tuple [.str "get", v], .tuple [.str "put", pr]]
theorem w3 {v : D} (hN : N (lwE s0 s1 p pr tr (some v) (some (.tuple (rowsL pr v))) a7 a8 a9)) : OutP (lw_0_3_3 (lwE s0 s1 p pr tr (some v) a6 a7 a8 a9)) N R E := by
  have hz := sizeLine_big
  unfold lw_0_3_3
  simp -implicitDefEqProofs [lwE, canPut_eq, noAli_eq]
  exact ⟨by omega, by omega, hN⟩
def oddR (pr v : D) : List D := [.tuple [.tuple [.str "a", pr], .tuple [.str "Get", pr]], .tuple [.tuple [.str "a", pr, .int 0]], .list (rowsL pr v), .none]
theorem w4 {v : D} (hN : N (lwE s0 s1 p pr tr (some v) (some (.tuple (rowsL pr v))) (some (.list (oddR pr v))) a8 a9)) : OutP (lw_0_3_4 (lwE s0 s1 p pr tr (some v) (some (.tuple (rowsL pr v))) a7 a8 a9)) N R E := by
  have hz := sizeLine_big
  have e0 : sIx (.tuple (rowsL pr v)) (.int 0) = some (.tuple [.str "a", pr]) := by simp [rowsL]
  have hN' := hN
  unfold oddR at hN'
  generalize rowsL pr v = rs at e0 hN'
  unfold lw_0_3_4
  simp -implicitDefEqProofs [-sIx_t, e0, lwE, canPut_eq, noAli_eq]
  exact ⟨by omega, by omega, by omega, by omega, hN'⟩
theorem imp_tup {l : List D} (hl : l.length ≤ 1000) (h : ∀ r ∈ l, Row r) : Imp (.tuple l) := ⟨rfl, fun ds e => by cases e; exact ⟨hl, h⟩⟩
theorem rowsL_ok {v : D} (hp : Val pr) (hv : Val v) : ∀ r ∈ rowsL pr v, Row r := by
  intro r hr
  simp only [rowsL, List.mem_cons, List.not_mem_nil, or_false] at hr
  rcases hr with rfl | rfl | rfl
  · exact .two (by decide) hp
  · exact .two (by decide) hv
  · exact .two (by decide) hp
theorem oddR_ok {v : D} (hp : Val pr) : ∀ x ∈ oddR pr v, Imp x := by
  intro r hr
  simp only [oddR, List.mem_cons, List.not_mem_nil, or_false] at hr
  rcases hr with rfl | rfl | rfl | rfl
  · refine imp_tup (by simp) fun r hr => ?_
    simp only [List.mem_cons, List.not_mem_nil, or_false] at hr
    rcases hr with rfl | rfl
    · exact .two (by decide) hp
    · exact .two (by decide) hp
  · refine imp_tup (by simp) fun r hr => ?_
    simp only [List.mem_cons, List.not_mem_nil, or_false] at hr
    subst hr
    exact .three (by decide) hp
  · exact ⟨rfl, fun ds e => by cases e⟩
  · exact ⟨rfl, fun ds e => by cases e⟩
theorem w5 {v : D} (hpr : Val pr) (hv : Val v) (hp : Pot n p) (hn : n ≤ 700000) (hN : ∀ ot p', Imp ot → Pot (n + 1) p' → N (lwE s0 s1 p' pr tr (some v) (some (.tuple (rowsL pr v))) (some (.list (oddR pr v))) (some ot) a9)) :
    OutP (lw_0_3_5 (lwE s0 s1 p pr tr (some v) (some (.tuple (rowsL pr v))) (some (.list (oddR pr v))) a8 a9)) N R E := by
  have hz := sizeLine_big
  have hr := rowsL_ok hpr hv
  have ho := oddR_ok (v := v) hpr
  have lr : (rowsL pr v).length = 3 := rfl
  have lo : (oddR pr v).length = 4 := rfl
  generalize rowsL pr v = rs at hr lr hN ⊢
  generalize oddR pr v = O at ho lo hN ⊢
  have c1 : cutD rs none (some 2) = rs.take 2 := cutD_to (k := 2)
  have c2 : cutD rs (some 1) none = rs.drop 1 := cut_from (k := 1)
  have c3 : cutD rs (some 2) none = rs.drop 2 := cut_from (k := 2)
  have ht : ∀ r ∈ rs.take 2, Row r := fun r h => hr r (List.mem_of_mem_take h)
  have hd1 : ∀ r ∈ rs.drop 1, Row r := fun r h => hr r (List.mem_of_mem_drop h)
  have hd2 : ∀ r ∈ rs.drop 2, Row r := fun r h => hr r (List.mem_of_mem_drop h)
  have l1 : (rs.take 2).length ≤ 3 := by rw [List.length_take]; omega
  have l2 : (rs.drop 1).length ≤ 3 := by rw [List.length_drop]; omega
  have l3 : (rs.drop 2).length ≤ 3 := by rw [List.length_drop]; omega
  generalize rs.take 2 = T at c1 ht l1
  generalize rs.drop 1 = U at c2 hd1 l2
  generalize rs.drop 2 = V at c3 hd2 l3
  unfold lw_0_3_5
  simp -implicitDefEqProofs [lwE, CallP, c1, c2, c3]
  refine ⟨by omega, by omega, by omega, ?_⟩
  refine pick_then hp (by omega) (by simp) (by simp; omega) fun x p1 hx hp1 => ?_
  simp -implicitDefEqProofs [canPut_eq, noAli_eq]
  refine hN x p1 ?_ hp1
  simp only [List.mem_cons, List.not_mem_nil, or_false] at hx
  rcases hx with rfl | rfl | rfl | rfl | rfl | hx
  · exact imp_tup (by omega) hr
  · exact imp_tup (by omega) ht
  · exact imp_tup (by omega) hd1
  · exact imp_tup (by rw [List.length_reverse]; omega) fun r h => hr r (List.mem_reverse.mp h)
  · exact imp_tup (by rw [List.length_append]; omega) fun r h => (List.mem_append.mp h).elim (hr r) (hd2 r)
  · exact ho x hx
theorem w6 {ot : D} {b6 b7 : Option D} (hi : Imp ot) (hN : N (lwE s0 s1 p pr tr a5 b6 b7 (some ot) (some (implD ot)))) : OutP (lw_0_3_6 (lwE s0 s1 p pr tr a5 b6 b7 (some ot) a9)) N R E := by
  unfold lw_0_3_6
  simp -implicitDefEqProofs [lwE, CallP, first_bad_ok hi, canPut_eq, noAli_eq]
  exact hN
theorem w7 {ot : D} {b6 b7 : Option D} (hi : Imp ot) (hN : N (lwE s0 s1 p pr tr a5 b6 b7 (some ot) (some (implD ot)))) : OutP (lw_0_3_7 (lwE s0 s1 p pr tr a5 b6 b7 (some ot) (some (implD ot)))) N R E := by
  have e3 := (same_ok 12 (.bool (isNone (implD ot))) (by simp [PyData.depth]) rfl).eq
  unfold lw_0_3_7
  simp -implicitDefEqProofs [lwE, CallP, is_impl_ok hi, e3]
  exact hN
theorem w8 {ot : D} {b6 b7 : Option D} (hi : Imp ot) (hp : Pot n p) (hn : n ≤ 700000) (hN : ∀ p', Pot (n + 1) p' → N (lwE s0 s1 p' pr tr a5 b6 b7 (some ot) (some (implD ot)))) : OutP (lw_0_3_8 (lwE s0 s1 p pr tr a5 b6 b7 (some ot) (some (implD ot)))) N R E := by
  have e3 := (same_ok 12 (implD ot) (by rw [(implD_s ot).2]; decide) (implD_s ot).1).eq
  unfold lw_0_3_8
  cases q : isNone (implD ot) with
  | true =>
    simp -implicitDefEqProofs [lwE, q]
    exact hN p (hp.mono (by omega))
  | false =>
    have e1 := refused_ok hi q
    simp -implicitDefEqProofs [lwE, q, CallP]
    refine draw_then hp (by omega) (by omega) (by omega) fun a p1 b1 b2 hp1 => ?_
    simp -implicitDefEqProofs [CallP, e1, e3]
    exact hN p1 hp1
/-- a turn over one program -/
theorem w_turn {ds : List D} (hpr : pr = .tuple ds) (hp : Pot n p) (hn : n ≤ 600000) (h1 : 1 ≤ ds.length) (h2 : ds.length ≤ 12) (hs : ∀ s ∈ ds, StpS s)
    (hN : ∀ p' b5 b6 b7 b8 b9, Pot (n + 9) p' → N (lwE s0 s1 p' pr tr b5 b6 b7 b8 b9)) : OutP (lw_0_3_b (lwE s0 s1 p pr tr a5 a6 a7 a8 a9)) N R E := by
  have hvp : Val pr := by rw [hpr]; exact (ValS.tup (by omega) hs).val
  unfold lw_0_3_b
  rw [OutP_seq]
  refine w0 hpr hp (by omega) h1 h2 hs fun v p1 hv hl hp1 => ?_
  rw [OutP_seq]
  refine w1 hv hl hp1 (by omega) fun v p2 hv hp2 => ?_
  rw [OutP_seq]
  refine w2 hv.val ?_
  rw [OutP_seq]
  refine w3 ?_
  rw [OutP_seq]
  refine w4 ?_
  rw [OutP_seq]
  refine w5 hvp hv.val hp2 (by omega) fun ot p3 hi hp3 => ?_
  rw [OutP_seq]
  refine w6 hi ?_
  rw [OutP_seq]
  refine w7 hi ?_
  exact w8 hi hp3 (by omega) fun p4 hp4 => hN p4 _ _ _ _ _ (hp4.mono (by omega))
end
end DL
/-! Dh11: the law. -/
namespace DL
open PySem PySem.Spec L2
open PyProof.Rows hiding St
theorem turns_ok {ns : List Int} (hn : ns.length ≤ 63) : ∃ m : Nat, m ≤ 20 ∧ f__law_turns [.v (scrD ns), .v (.int 0), .v (.int 4), .v (.int 20)] = .ok (.v (.list (rng (m : Int)))) [] := by
  have hlen : sLen [scrD ns] = some (.int (ns.length : Nat)) := by
    unfold scrD
    rw [sLen_scr, List.length_map]
  obtain ⟨m, hm, em⟩ : ∃ m : Nat, m ≤ 20 ∧ (if (if (20 : Int) < ns.length then 20 else (ns.length : Int)) > 4 then (if (20 : Int) < ns.length then 20 else (ns.length : Int)) else 4) = (m : Int) := by
    by_cases q : (20 : Int) < ns.length
    · rw [if_pos q]
      exact ⟨20, by omega, rfl⟩
    · rw [if_neg q]
      by_cases q2 : (ns.length : Int) > 4
      · rw [if_pos q2]
        exact ⟨ns.length, by omega, rfl⟩
      · rw [if_neg q2]
        exact ⟨4, by omega, rfl⟩
  have e1 : rgOk 0 (m : Int) = true := by
    unfold rgOk
    rw [decide_eq_true_iff]
    omega
  have e2 : rng2 0 (m : Int) = rng (m : Int) := by
    unfold rng2 rng
    rw [Int.sub_zero]
  refine ⟨m, hm, Gives.eq ?_⟩
  generalize scrD ns = x at hlen
  refine RfP_run rfl ?_
  simp -implicitDefEqProofs [b__law_turns, startEn, arSl, hlen, em, e1, e2, outsOf]
section
variable {s0 s1 p pr : D} {n : Nat} {N : En → Prop} {R : En → Rr → Prop} {E : En → Ex → Prop} {a3 a4 a5 a6 a7 a8 a9 : Option D}
def lwI (s0 s1 p pr : D) (a4 a5 a6 a7 a8 a9 : Option D) : En := [.val s0, .val s1, .own false p, .val pr, pl a4, pl a5, pl a6, pl a7, pl a8, pl a9]
theorem tg4 {d : D} {Q : En → Prop} : OpP (tgName 4 d (lwI s0 s1 p pr a4 a5 a6 a7 a8 a9)) Q = Q (lwE s0 s1 p pr d a5 a6 a7 a8 a9) := by
  simp [tgName, lwI, lwE, canPut_eq, noAli_eq]
theorem w_loop {ds : List D} (hpr : pr = .tuple ds) (hp : Pot n p) (hn : n ≤ 500000) (h1 : 1 ≤ ds.length) (h2 : ds.length ≤ 12) (hs : ∀ s ∈ ds, StpS s)
    (hN : ∀ p' b4 b5 b6 b7 b8 b9, N (lwI s0 s1 p' pr b4 b5 b6 b7 b8 b9)) : OutP (lw_0_3 (lwI s0 s1 p pr a4 a5 a6 a7 a8 a9)) N R E := by
  unfold lw_0_3
  rw [OutP_for]
  simp -implicitDefEqProofs [show small 3 = true from rfl]
  refine OutP_forL (rng 3) (fun i en => ∃ p' b4 b5 b6 b7 b8 b9, en = lwI s0 s1 p' pr b4 b5 b6 b7 b8 b9 ∧ Pot (n + 9 * i) p') _ ⟨p, a4, a5, a6, a7, a8, a9, rfl, hp⟩ (fun i d en ed hI => ?_) fun en hI => ?_
  · obtain ⟨p', b4, b5, b6, b7, b8, b9, rfl, hp'⟩ := hI
    have hi : i < 3 := (rng_look (n := 3) ed).1
    rw [tg4]
    exact w_turn hpr hp' (by omega) h1 h2 hs fun p2 c5 c6 c7 c8 c9 hp2 => ⟨p2, some d, c5, c6, c7, c8, c9, rfl, hp2.mono (by omega)⟩
  · obtain ⟨p', b4, b5, b6, b7, b8, b9, rfl, hp'⟩ := hI
    exact hN p' b4 b5 b6 b7 b8 b9
/-- the law's slots between the programs -/
def lwT (s0 : D) (s1 s2 : Sl) (a3 a4 a5 a6 a7 a8 a9 : Option D) : En := [.val s0, s1, s2, pl a3, pl a4, pl a5, pl a6, pl a7, pl a8, pl a9]
theorem tg1w {s1 s2 : Sl} {d : D} {Q : En → Prop} (h1 : s1 = .un ∨ ∃ d, s1 = .val d) : OpP (tgName 1 d (lwT s0 s1 s2 a3 a4 a5 a6 a7 a8 a9)) Q = Q (lwT s0 (.val d) s2 a3 a4 a5 a6 a7 a8 a9) := by
  rcases h1 with rfl | ⟨e, rfl⟩ <;> simp [tgName, lwT, canPut_eq]
theorem turnw {ns : List Int} {s2 : Sl} {k : Nat} (hk : k < 64) (h2 : s2 = .un ∨ ∃ p, s2 = .own false p) (hN : ∀ s2 a3 a4 a5 a6 a7 a8 a9, (s2 = .un ∨ ∃ p, s2 = .own false p) → N (lwT (scrD ns) (.val (.int (k : Nat))) s2 a3 a4 a5 a6 a7 a8 a9)) :
    OutP (lw_0_b (lwT (scrD ns) (.val (.int (k : Nat))) s2 a3 a4 a5 a6 a7 a8 a9)) N R E := by
  have hz := sizeLine_big
  unfold lw_0_b
  rw [OutP_seq]
  unfold lw_0_0
  rcases h2 with rfl | ⟨p0, rfl⟩
  all_goals
    simp -implicitDefEqProofs [lwT, CallP]
    refine (pot_ok ns hk).mono (fun r os hq => ?_) fun _ _ z => z.elim
    obtain ⟨rfl, p, rfl, hp⟩ := hq
    simp -implicitDefEqProofs [canPut_eq, noAli_eq]
    unfold lw_0_1
    simp -implicitDefEqProofs [CallP]
    refine (program_ok hp (by omega)).mono (fun r os hq => ?_) fun _ _ z => z.elim
    obtain ⟨ds, p', rfl, rfl, h1, h2, hs, hf, hp'⟩ := hq
    have hvp : Val (.tuple ds) := (ValS.tup (by omega) hs).val
    have ef := fault_ok hvp
    rw [hf] at ef
    generalize hpr : PyData.tuple ds = pr at ef
    simp -implicitDefEqProofs [canPut_eq, noAli_eq]
    unfold lw_0_2
    simp -implicitDefEqProofs [CallP, ef]
    exact w_loop (a4 := a4) (a5 := a5) (a6 := a6) (a7 := a7) (a8 := a8) (a9 := a9) hpr.symm hp' (by omega) h1 h2 hs fun p2 b4 b5 b6 b7 b8 b9 => hN (.own false p2) (some pr) b4 b5 b6 b7 b8 b9 (.inr ⟨p2, rfl⟩)
end
theorem law_ok {ns : List Int} (hn : ns.length ≤ 63) : RfP (f_law [.v (scrD ns)]) (fun r os => r = .v (.bool true) ∧ os = []) fun _ _ => False := by
  have hz := sizeLine_big
  obtain ⟨m, hm, em⟩ := turns_ok hn
  refine RfP_run rfl ?_
  rw [lw_cut, OutP_seq]
  unfold lw_0
  simp -implicitDefEqProofs [startEn, arSl, CallP, em]
  refine OutP_forL _ (fun i en => ∃ s1 s2 a3 a4 a5 a6 a7 a8 a9, (s1 = .un ∨ ∃ d, s1 = .val d) ∧ (s2 = .un ∨ ∃ p, s2 = .own false p) ∧ en = lwT (scrD ns) s1 s2 a3 a4 a5 a6 a7 a8 a9) _ ⟨.un, .un, none, none, none, none, none, none, none, .inl rfl, .inl rfl, rfl⟩ (fun i d en ed hI => ?_) fun en hI => ?_
  · obtain ⟨s1, s2, a3, a4, a5, a6, a7, a8, a9, h1, h2, rfl⟩ := hI
    obtain ⟨hi, rfl⟩ := rng_look ed
    rw [tg1w h1]
    exact turnw (by omega) h2 fun s2 a3 a4 a5 a6 a7 a8 a9 h => ⟨_, s2, a3, a4, a5, a6, a7, a8, a9, .inr ⟨_, rfl⟩, h, rfl⟩
  · obtain ⟨s1, s2, a3, a4, a5, a6, a7, a8, a9, h1, h2, rfl⟩ := hI
    unfold lw_1
    simp -implicitDefEqProofs [lwT, outsOf]
end DL
namespace DL
open PySem PySem.Spec L2
open PyProof.Rows hiding St
theorem fs_InvalidProgram : PySem.FldX.FldS "index" "this is no program of an implementation" (defArgs (metS (topS 4) 0)) (defBody (metS (topS 4) 0)) (defScope (metS (topS 4) 0)) := ⟨⟨_, _, _, _, _, _, _, _, _, _, _, rfl, _, fun env => rfl⟩, rfl, rfl, rfl, rfl, rfl, by decide +kernel, rfl, rfl, ⟨_, rfl, rfl⟩, by decide, by decide⟩
theorem all_mk {P : Program} {w : World} {K : PySem.W.Frag} {mg : Str → Option Value} {fa : Addr} (hfa : mg "law" = some (.ref fa)) (B : Bt mg) (k_MOST_LETTERS : Konst K mg "MOST_LETTERS" c_MOST_LETTERS) (k_LETTERS : Konst K mg "LETTERS" c_LETTERS) (k_REGISTERS : Konst K mg "REGISTERS" c_REGISTERS) (k_LAST_WORDS : Konst K mg "LAST_WORDS" c_LAST_WORDS) (st_FORMS : TabS P w K mg "FORMS" c_FORMS) (fq_InvalidProgram : FldQ P K mg "InvalidProgram" "index") (nog_zip : mg "zip" = none) (d_is_integer : Df K mg "is_integer" s_is_integer) (d_is_between : Df K mg "is_between" s_is_between) (d_is_index : Df K mg "is_index" s_is_index) (d_is_tuple_of : Df K mg "is_tuple_of" s_is_tuple_of) (d_is_name : Df K mg "is_name" s_is_name) (d_fits : Df K mg "fits" s_fits) (d_is_step : Df K mg "is_step" s_is_step) (d_program_fault : Df K mg "program_fault" s_program_fault) (d_is_named_program : Df K mg "is_named_program" s_is_named_program) (d_implementation_fault : Df K mg "implementation_fault" s_implementation_fault) (d_is_implementation : Df K mg "is_implementation" s_is_implementation) (d_check_implementation : Df K mg "check_implementation" s_check_implementation) (d_schedule_run : Df K mg "schedule_run" s_schedule_run) (d_histories : Df K mg "histories" s_histories) (d_bad_schedule : Df K mg "bad_schedule" s_bad_schedule) (d__law_pot : Df K mg "_law_pot" s__law_pot) (d__law_draw : Df K mg "_law_draw" s__law_draw) (d__law_pick : Df K mg "_law_pick" s__law_pick) (d__law_same : Df K mg "_law_same" s__law_same) (d__law_turns : Df K mg "_law_turns" s__law_turns) (d__law_is_integer : Df K mg "_law_is_integer" s__law_is_integer) (d__law_step_of : Df K mg "_law_step_of" s__law_step_of) (d__law_program : Df K mg "_law_program" s__law_program) (d__law_stands : Df K mg "_law_stands" s__law_stands) (d__law_fault : Df K mg "_law_fault" s__law_fault) (d__law_bent : Df K mg "_law_bent" s__law_bent) (d__law_refused : Df K mg "_law_refused" s__law_refused) (d__law_row : Df K mg "_law_row" s__law_row) (d__law_first_bad : Df K mg "_law_first_bad" s__law_first_bad) (d_law : Df K mg "law" s_law) : ∃ fd : FuncData, (∀ (s : Shared) (v : Value), BindsTo s fd ⟨[v], []⟩ [("script", v)]) ∧ ∀ base : Heap, FnOk P w K mg base (L2.CX P w) 14 fa fd ["script"] (spEnd K) := by
  obtain ⟨fz, fd_law, F_law, m_law⟩ := d_law
  have e := hfa.symm.trans m_law
  cases e
  obtain ⟨_, _, F_is_integer, m_is_integer⟩ := d_is_integer
  obtain ⟨_, _, F_is_between, m_is_between⟩ := d_is_between
  obtain ⟨_, _, F_is_index, m_is_index⟩ := d_is_index
  obtain ⟨_, _, F_is_tuple_of, m_is_tuple_of⟩ := d_is_tuple_of
  obtain ⟨_, _, F_is_name, m_is_name⟩ := d_is_name
  obtain ⟨_, _, F_fits, m_fits⟩ := d_fits
  obtain ⟨_, _, F_is_step, m_is_step⟩ := d_is_step
  obtain ⟨_, _, F_program_fault, m_program_fault⟩ := d_program_fault
  obtain ⟨_, _, F_is_named_program, m_is_named_program⟩ := d_is_named_program
  obtain ⟨_, _, F_implementation_fault, m_implementation_fault⟩ := d_implementation_fault
  obtain ⟨_, _, F_is_implementation, m_is_implementation⟩ := d_is_implementation
  obtain ⟨_, _, F_check_implementation, m_check_implementation⟩ := d_check_implementation
  obtain ⟨_, _, F_schedule_run, m_schedule_run⟩ := d_schedule_run
  obtain ⟨_, _, F_histories, m_histories⟩ := d_histories
  obtain ⟨_, _, F_bad_schedule, m_bad_schedule⟩ := d_bad_schedule
  obtain ⟨_, _, F__law_pot, m__law_pot⟩ := d__law_pot
  obtain ⟨_, _, F__law_draw, m__law_draw⟩ := d__law_draw
  obtain ⟨_, _, F__law_pick, m__law_pick⟩ := d__law_pick
  obtain ⟨_, _, F__law_same, m__law_same⟩ := d__law_same
  obtain ⟨_, _, F__law_turns, m__law_turns⟩ := d__law_turns
  obtain ⟨_, _, F__law_is_integer, m__law_is_integer⟩ := d__law_is_integer
  obtain ⟨_, _, F__law_step_of, m__law_step_of⟩ := d__law_step_of
  obtain ⟨_, _, F__law_program, m__law_program⟩ := d__law_program
  obtain ⟨_, _, F__law_stands, m__law_stands⟩ := d__law_stands
  obtain ⟨_, _, F__law_fault, m__law_fault⟩ := d__law_fault
  obtain ⟨_, _, F__law_bent, m__law_bent⟩ := d__law_bent
  obtain ⟨_, _, F__law_refused, m__law_refused⟩ := d__law_refused
  obtain ⟨_, _, F__law_row, m__law_row⟩ := d__law_row
  obtain ⟨_, _, F__law_first_bad, m__law_first_bad⟩ := d__law_first_bad
  obtain ⟨C_InvalidProgram, q_InvalidProgram⟩ := fq_InvalidProgram
  refine ⟨fd_law, ?_, fun base => ?_⟩
  · obtain ⟨oc, od, kV, doc, pm, an, cdv, ct, osl, rfl, _, _⟩ := F_law.ex
    exact fun s v => .of_eq rfl
  · have c_is_integer := ok_is_integer (P := P) (w := w) (base := base) B F_is_integer m_is_integer
    have c_is_between := ok_is_between (P := P) (w := w) (base := base) B c_is_integer F_is_between m_is_between
    have c_is_index := ok_is_index (P := P) (w := w) (base := base) B c_is_between F_is_index m_is_index
    have c_is_tuple_of := ok_is_tuple_of (P := P) (w := w) (base := base) B F_is_tuple_of m_is_tuple_of
    have c_is_name := ok_is_name (P := P) (w := w) (base := base) B k_MOST_LETTERS k_LETTERS F_is_name m_is_name
    have c_fits := ok_fits (P := P) (w := w) (base := base) B k_REGISTERS c_is_index c_is_integer F_fits m_fits
    have c_is_step := ok_is_step (P := P) (w := w) (base := base) B st_FORMS c_is_tuple_of c_fits nog_zip F_is_step m_is_step
    have c_program_fault := ok_program_fault (P := P) (w := w) (base := base) B k_LAST_WORDS c_is_step F_program_fault m_program_fault
    have c_is_named_program := ok_is_named_program (P := P) (w := w) (base := base) B c_is_tuple_of c_is_name c_program_fault F_is_named_program m_is_named_program
    have c_implementation_fault := ok_implementation_fault (P := P) (w := w) (base := base) B c_is_named_program F_implementation_fault m_implementation_fault
    have c_is_implementation := ok_is_implementation (P := P) (w := w) (base := base) B c_implementation_fault F_is_implementation m_is_implementation
    have c_check_implementation := ok_check_implementation (P := P) (w := w) (base := base) B c_implementation_fault q_InvalidProgram F_check_implementation m_check_implementation
    have c_schedule_run := ok_schedule_run (P := P) (w := w) (base := base) B c_check_implementation F_schedule_run m_schedule_run
    have c_histories := ok_histories (P := P) (w := w) (base := base) B c_check_implementation F_histories m_histories
    have c_bad_schedule := ok_bad_schedule (P := P) (w := w) (base := base) B c_check_implementation F_bad_schedule m_bad_schedule
    have c__law_pot := ok__law_pot (P := P) (w := w) (base := base) B F__law_pot m__law_pot
    have c__law_draw := ok__law_draw (P := P) (w := w) (base := base) B F__law_draw m__law_draw
    have c__law_pick := ok__law_pick (P := P) (w := w) (base := base) B c__law_draw F__law_pick m__law_pick
    have c__law_same : Callee P w K mg base "_law_same" 13 (f__law_same 12) := ok__law_same (P := P) (w := w) (base := base) B F__law_same m__law_same 12
    have c__law_turns := ok__law_turns (P := P) (w := w) (base := base) B F__law_turns m__law_turns
    have c__law_is_integer := ok__law_is_integer (P := P) (w := w) (base := base) B F__law_is_integer m__law_is_integer
    have c__law_step_of := ok__law_step_of (P := P) (w := w) (base := base) B c__law_pick c__law_draw F__law_step_of m__law_step_of
    have c__law_program := ok__law_program (P := P) (w := w) (base := base) B c__law_draw c__law_step_of F__law_program m__law_program
    have c__law_stands := ok__law_stands (P := P) (w := w) (base := base) B c__law_is_integer F__law_stands m__law_stands
    have c__law_fault := ok__law_fault (P := P) (w := w) (base := base) B c__law_stands F__law_fault m__law_fault
    have c__law_bent := ok__law_bent (P := P) (w := w) (base := base) B c__law_draw c__law_pick F__law_bent m__law_bent
    have c__law_refused := ok__law_refused (P := P) (w := w) (base := base) B c_schedule_run c_histories c_bad_schedule q_InvalidProgram F__law_refused m__law_refused
    have c__law_row := ok__law_row (P := P) (w := w) (base := base) B c__law_fault F__law_row m__law_row
    have c__law_first_bad := ok__law_first_bad (P := P) (w := w) (base := base) B c__law_row F__law_first_bad m__law_first_bad
    exact end_fn (fn_law B c__law_turns c__law_pot c__law_program c_program_fault c__law_bent c__law_pick c__law_first_bad c__law_same c__law_draw c__law_fault c_is_implementation c__law_refused F_law m_law) fun ns hl => law_ok hl
end DL
open PySem PySem.W PyProof.Rows
set_option maxHeartbeats 0 in
theorem PySem.Challenge.cw_linewitness_k78_programs_judged_holds : PySem.Challenge.rw_linewitness_k78_programs_judged.Holds := by
  w_on; o_law; k_head; (case hw => w_witness2)
  k_fill
  refine L2.walk_of (l := PySem.Challenge.rw_linewitness_k78_programs_judged) (n := 63) (k := 14) (x := "script") (CX := fun w => L2.CX PySem.Challenge.pw_linewitness_k78_programs_judged w) (sp := fun w => DL.spEnd _) rfl (by decide) rfl ⟨rfl, by decide, by decide⟩ (fun w h Y => PySem.W.kIn_of Y) ?F (fun _ _ a ns hl _ hS => ⟨a, ns, rfl, hS, hl, fun _ => rfl⟩) (fun w H s e s' h => by obtain ⟨_, _, _, _, _, _, _, _, _, _, _, _, z⟩ := h; exact z)
  case F =>
    intro w mg fa h KX G hmg
    refine' (fun ⟨fd, h1, h2⟩ => ⟨fd, h1, fun base _ _ => h2 base⟩ : (∃ fd : FuncData, (∀ (s : Shared) (v : Value), BindsTo s fd ⟨[v], []⟩ [("script", v)]) ∧ ∀ base : Heap, L2.FnOk _ w _ mg base _ _ fa fd ["script"] _) → _) (DL.all_mk hmg ?u_B ?u_k_MOST_LETTERS ?u_k_LETTERS ?u_k_REGISTERS ?u_k_LAST_WORDS ?u_st_FORMS ?u_fq_InvalidProgram ?u_nog_zip ?u_d_is_integer ?u_d_is_between ?u_d_is_index ?u_d_is_tuple_of ?u_d_is_name ?u_d_fits ?u_d_is_step ?u_d_program_fault ?u_d_is_named_program ?u_d_implementation_fault ?u_d_is_implementation ?u_d_check_implementation ?u_d_schedule_run ?u_d_histories ?u_d_bad_schedule ?u_d__law_pot ?u_d__law_draw ?u_d__law_pick ?u_d__law_same ?u_d__law_turns ?u_d__law_is_integer ?u_d__law_step_of ?u_d__law_program ?u_d__law_stands ?u_d__law_fault ?u_d__law_bent ?u_d__law_refused ?u_d__law_row ?u_d__law_first_bad ?u_d_law)
    (case u_B => refine' DL.Bt.in_ KX G ?u1_z1 ?u1_z2 ?u1_z3 ?u1_z4 ?u1_z5 ?u1_z6 ?u1_z7 ?u1_z8 ?u1_z9 ?u1_z10 ?u1_z11 ?u1_z12 ?u1_z13 ?u1_z14 ?u1_z15 ?u1_z16 ?u1_z17 ?u1_z18; (case u1_z1 => k_is); (case u1_z2 => k_is); (case u1_z3 => k_is); (case u1_z4 => k_is); (case u1_z5 => k_is); (case u1_z6 => k_is); (case u1_z7 => k_is); (case u1_z8 => k_is); (case u1_z9 => k_is); (case u1_z10 => k_is); (case u1_z11 => k_is); (case u1_z12 => k_is); (case u1_z13 => k_is); (case u1_z14 => k_is); (case u1_z15 => k_is); (case u1_z16 => k_is); (case u1_z17 => k_is); (case u1_z18 => k_is))
    (case u_k_MOST_LETTERS => refine' DL.Konst.int_in KX G ?u2_a; (case u2_a => k_is))
    (case u_k_LETTERS => refine' DL.Konst.str_in KX G ?u3_a; (case u3_a => k_is))
    (case u_k_REGISTERS => refine' DL.Konst.int_in KX G ?u4_a; (case u4_a => k_is))
    (case u_k_LAST_WORDS => refine' DL.Konst.tup_in5 KX G ?u5_a ?u5_l ?u5_z ?u5_v; (case u5_a => k_is); (case u5_l => k_is); (case u5_z => exact Nat.le_of_ble_eq_true rfl); (case u5_v => rfl))
    (case u_st_FORMS => refine' DL.TabS.in_ KX G ?u6_a ?u6_l ?u6_t ?u6_lo ?u6_v; (case u6_a => k_is); (case u6_l => k_is); (case u6_t => repeat' first | exact trivial | exact ⟨_, _, rfl, rfl⟩ | refine ⟨?_, ?_⟩); (case u6_lo => first | rfl | decide); (case u6_v => rfl))
    (case u_fq_InvalidProgram => refine' DL.FldQ.in_ (st := DL.metS (DL.topS 4) 0) DL.fs_InvalidProgram KX G ?u7_a ?u7_xL ?u7_sa ?u7_ga ?u7_gg ?u7_nb ?u7_a1 ?u7_t1 ?u7_l1 ?u7_c1 ?u7_kC ?u7_eC ?u7_tC ?u7_hC ?u7_sC ?u7_su ?u7_ve ?u7_ow ?u7_tp ?u7_ns ?u7_lc ?u7_v2 ?u7_le ?u7_bm0 ?u7_bnd ?u7_hfile ?u7_htop; (case u7_a => k_is); (case u7_xL => k_is); (case u7_sa => k_is); (case u7_ga => k_is); (case u7_gg => k_is); (case u7_nb => k_is); (case u7_a1 => k_is); (case u7_t1 => k_is); (case u7_l1 => k_is); (case u7_c1 => k_is); (case u7_kC => k_is); (case u7_eC => k_is); (case u7_tC => k_is); (case u7_hC => k_is); (case u7_sC => k_is); (case u7_su => ks_is); (case u7_ve => k_is); (case u7_ow => k_is); (case u7_tp => k_is); (case u7_ns => k_is); (case u7_lc => k_is); (case u7_v2 => first | rfl | k_is); (case u7_le => k_is); (case u7_bm0 => first | rfl | k_is); (case u7_bnd => exact fun s x y => .of_eq rfl); (case u7_hfile => first | rfl | decide); (case u7_htop => first | rfl | decide))
    (case u_nog_zip => refine' DL.nog_in KX G ?u8_a; (case u8_a => k_is))
    (case u_d_is_integer => refine' DL.Df.mk KX G ?u9_a ?u9_l ?u9_c ?u9_k; (case u9_a => k_is); (case u9_l => k_is); (case u9_c => k_is); (case u9_k => k_is))
    (case u_d_is_between => refine' DL.Df.mk KX G ?u10_a ?u10_l ?u10_c ?u10_k; (case u10_a => k_is); (case u10_l => k_is); (case u10_c => k_is); (case u10_k => k_is))
    (case u_d_is_index => refine' DL.Df.mk KX G ?u11_a ?u11_l ?u11_c ?u11_k; (case u11_a => k_is); (case u11_l => k_is); (case u11_c => k_is); (case u11_k => k_is))
    (case u_d_is_tuple_of => refine' DL.Df.mk KX G ?u12_a ?u12_l ?u12_c ?u12_k; (case u12_a => k_is); (case u12_l => k_is); (case u12_c => k_is); (case u12_k => k_is))
    (case u_d_is_name => refine' DL.Df.mk KX G ?u13_a ?u13_l ?u13_c ?u13_k; (case u13_a => k_is); (case u13_l => k_is); (case u13_c => k_is); (case u13_k => k_is))
    (case u_d_fits => refine' DL.Df.mk KX G ?u14_a ?u14_l ?u14_c ?u14_k; (case u14_a => k_is); (case u14_l => k_is); (case u14_c => k_is); (case u14_k => k_is))
    (case u_d_is_step => refine' DL.Df.mk KX G ?u15_a ?u15_l ?u15_c ?u15_k; (case u15_a => k_is); (case u15_l => k_is); (case u15_c => k_is); (case u15_k => k_is))
    (case u_d_program_fault => refine' DL.Df.mk KX G ?u16_a ?u16_l ?u16_c ?u16_k; (case u16_a => k_is); (case u16_l => k_is); (case u16_c => k_is); (case u16_k => k_is))
    (case u_d_is_named_program => refine' DL.Df.mk KX G ?u17_a ?u17_l ?u17_c ?u17_k; (case u17_a => k_is); (case u17_l => k_is); (case u17_c => k_is); (case u17_k => k_is))
    (case u_d_implementation_fault => refine' DL.Df.mk KX G ?u18_a ?u18_l ?u18_c ?u18_k; (case u18_a => k_is); (case u18_l => k_is); (case u18_c => k_is); (case u18_k => k_is))
    (case u_d_is_implementation => refine' DL.Df.mk KX G ?u19_a ?u19_l ?u19_c ?u19_k; (case u19_a => k_is); (case u19_l => k_is); (case u19_c => k_is); (case u19_k => k_is))
    (case u_d_check_implementation => refine' DL.Df.mk KX G ?u20_a ?u20_l ?u20_c ?u20_k; (case u20_a => k_is); (case u20_l => k_is); (case u20_c => k_is); (case u20_k => k_is))
    (case u_d_schedule_run => refine' DL.Df.mk KX G ?u21_a ?u21_l ?u21_c ?u21_k; (case u21_a => k_is); (case u21_l => k_is); (case u21_c => k_is); (case u21_k => k_is))
    (case u_d_histories => refine' DL.Df.mk KX G ?u22_a ?u22_l ?u22_c ?u22_k; (case u22_a => k_is); (case u22_l => k_is); (case u22_c => k_is); (case u22_k => k_is))
    (case u_d_bad_schedule => refine' DL.Df.mk KX G ?u23_a ?u23_l ?u23_c ?u23_k; (case u23_a => k_is); (case u23_l => k_is); (case u23_c => k_is); (case u23_k => k_is))
    (case u_d__law_pot => refine' DL.Df.mk KX G ?u24_a ?u24_l ?u24_c ?u24_k; (case u24_a => k_is); (case u24_l => k_is); (case u24_c => k_is); (case u24_k => k_is))
    (case u_d__law_draw => refine' DL.Df.mk KX G ?u25_a ?u25_l ?u25_c ?u25_k; (case u25_a => k_is); (case u25_l => k_is); (case u25_c => k_is); (case u25_k => k_is))
    (case u_d__law_pick => refine' DL.Df.mk KX G ?u26_a ?u26_l ?u26_c ?u26_k; (case u26_a => k_is); (case u26_l => k_is); (case u26_c => k_is); (case u26_k => k_is))
    (case u_d__law_same => refine' DL.Df.mk KX G ?u27_a ?u27_l ?u27_c ?u27_k; (case u27_a => k_is); (case u27_l => k_is); (case u27_c => k_is); (case u27_k => k_is))
    (case u_d__law_turns => refine' DL.Df.mk KX G ?u28_a ?u28_l ?u28_c ?u28_k; (case u28_a => k_is); (case u28_l => k_is); (case u28_c => k_is); (case u28_k => k_is))
    (case u_d__law_is_integer => refine' DL.Df.mk KX G ?u29_a ?u29_l ?u29_c ?u29_k; (case u29_a => k_is); (case u29_l => k_is); (case u29_c => k_is); (case u29_k => k_is))
    (case u_d__law_step_of => refine' DL.Df.mk KX G ?u30_a ?u30_l ?u30_c ?u30_k; (case u30_a => k_is); (case u30_l => k_is); (case u30_c => k_is); (case u30_k => k_is))
    (case u_d__law_program => refine' DL.Df.mk KX G ?u31_a ?u31_l ?u31_c ?u31_k; (case u31_a => k_is); (case u31_l => k_is); (case u31_c => k_is); (case u31_k => k_is))
    (case u_d__law_stands => refine' DL.Df.mk KX G ?u32_a ?u32_l ?u32_c ?u32_k; (case u32_a => k_is); (case u32_l => k_is); (case u32_c => k_is); (case u32_k => k_is))
    (case u_d__law_fault => refine' DL.Df.mk KX G ?u33_a ?u33_l ?u33_c ?u33_k; (case u33_a => k_is); (case u33_l => k_is); (case u33_c => k_is); (case u33_k => k_is))
    (case u_d__law_bent => refine' DL.Df.mk KX G ?u34_a ?u34_l ?u34_c ?u34_k; (case u34_a => k_is); (case u34_l => k_is); (case u34_c => k_is); (case u34_k => k_is))
    (case u_d__law_refused => refine' DL.Df.mk KX G ?u35_a ?u35_l ?u35_c ?u35_k; (case u35_a => k_is); (case u35_l => k_is); (case u35_c => k_is); (case u35_k => k_is))
    (case u_d__law_row => refine' DL.Df.mk KX G ?u36_a ?u36_l ?u36_c ?u36_k; (case u36_a => k_is); (case u36_l => k_is); (case u36_c => k_is); (case u36_k => k_is))
    (case u_d__law_first_bad => refine' DL.Df.mk KX G ?u37_a ?u37_l ?u37_c ?u37_k; (case u37_a => k_is); (case u37_l => k_is); (case u37_c => k_is); (case u37_k => k_is))
    (case u_d_law => refine' DL.Df.mk KX G ?u38_a ?u38_l ?u38_c ?u38_k; (case u38_a => k_is); (case u38_l => k_is); (case u38_c => k_is); (case u38_k => k_is))
