import PyProof.Rows.All
import HandS.ForMost
import HandS.Wide
import HandS.Gcd
import HandS.Flow
import HandS.Style
import KE.DataCmp
import KE.DataEq
import KE.SortData
import KE.DataMinMax
import HandS.Star
import HandS.TupAny
import HandS.Deep
import HandS.NoneIn
import HandS.Conv
import HandS.Zip
import HandS.Iter
import HandS.Defaults
import HandS.DictTup
import HandS.SetFor
import HandS.Strs
import HandS.ListItems
import PyProof.Transfer
import HandS.DictComp
import HandS.Words
import KE.KDictSum
import PySem.Challenge.RW_triedwares_k76_whole_walks_turned_about
import HandS.Ends
import HandS.More
import HandS.WordsExc
import HandS.Head0
import HandS.Head1
import HandS.Head2
import HandS.Head3
import HandS.HeadEnd
import HandS.HeadHook1
import HandS.HeadHook2
import HandS.HeadHook3
import HandS.HeadHook4
set_option Elab.async false
set_option linter.all false
set_option maxRecDepth 100000
set_option maxHeartbeats 0
/-! Zx: denotations over PyData for the hand layer's judgements. -/
namespace Zx
open PySem PySem.Spec L2
abbrev D := PyData

/-! ### heaps -/
def Sub (F H : Hp) : Prop := ∀ a o, F a = some o → H a = some o
theorem Sub.refl (F : Hp) : Sub F F := fun _ _ h => h
theorem Sub.trans {F G H : Hp} (a : Sub F G) (b : Sub G H) : Sub F H := fun x o h => b x o (a x o h)
theorem Sub.rd {F H : Hp} (s : Sub F H) {a : Addr} {u : HO} (h : Rd F a u) : Rd H a u := by
  rcases h with h | ⟨o, h⟩
  · exact .inl (s _ _ h)
  · exact .inr ⟨o, s _ _ h⟩
theorem Sub.free {F H : Hp} (s : Sub F H) {a : Addr} (h : H a = none) : F a = none := by
  cases e : F a with
  | none => rfl
  | some o => rw [s a o e] at h; cases h
theorem Sub.new {H : Hp} {p : Addr} {o : HO} (h : H p = none) : Sub H (upd H p o) := fun a u e => by
  rw [upd_ne (ne_of_none e h)]
  exact e

/-! ### what a value stands for -/
def keyD : Key → D
  | .inl i => .int i
  | .inr x => .str x
/-- the script -/
def scrD (ns : List Int) : D := .dict [(.none, .list (ns.map .int))]
mutual
inductive Rp (K : PySem.W.Frag) (F : Hp) : D → V → Prop
  | non : Rp K F .none .non
  | bl (b : Bool) : Rp K F (.bool b) (.bl b)
  | int (i : Int) : Rp K F (.int i) (.int i)
  | str (x : Str) : Rp K F (.str x) (.str x)
  | lst {a : Addr} {xs : List V} {ds : List D} : F a = some (.lst xs) → RpL K F ds xs → Rp K F (.list ds) (.ref a)
  | tup {a : Addr} {xs : List V} {ds : List D} : F a = some (.tup xs) → RpL K F ds xs → Rp K F (.tuple ds) (.ref a)
  | dK {a : Addr} {kvs : List (Key × V)} {kds : List (D × D)} : Rd F a (.dK kvs) → RpK K F kds kvs → Rp K F (.dict kds) (.ref a)
  | dT {a : Addr} {kvs : List (List Key × V)} {kds : List (D × D)} : Rd F a (.dT kvs) → RpT K F kds kvs → Rp K F (.dict ((.bool true, .none) :: kds)) (.ref a)
  | scr {a : Addr} {ns : List Int} : SqL K F a (ns.map V.int) → Rp K F (scrD ns) (.ref a)
inductive RpL (K : PySem.W.Frag) (F : Hp) : List D → List V → Prop
  | nil : RpL K F [] []
  | cons {d : D} {ds : List D} {v : V} {vs : List V} : Rp K F d v → RpL K F ds vs → RpL K F (d :: ds) (v :: vs)
inductive RpK (K : PySem.W.Frag) (F : Hp) : List (D × D) → List (Key × V) → Prop
  | nil : RpK K F [] []
  | cons {k : Key} {d : D} {kds : List (D × D)} {v : V} {kvs : List (Key × V)} : Rp K F d v → RpK K F kds kvs → RpK K F ((keyD k, d) :: kds) ((k, v) :: kvs)
inductive RpT (K : PySem.W.Frag) (F : Hp) : List (D × D) → List (List Key × V) → Prop
  | nil : RpT K F [] []
  | cons {k : List Key} {d : D} {kds : List (D × D)} {v : V} {kvs : List (List Key × V)} : Rp K F d v → RpT K F kds kvs → RpT K F ((.tuple (k.map keyD), d) :: kds) ((k, v) :: kvs)
end
section
variable {K : PySem.W.Frag} {F G H : Hp}
mutual
theorem Rp.mono (s : Sub F G) : ∀ {d : D} {v : V}, Rp K F d v → Rp K G d v
  | _, _, .non => .non
  | _, _, .bl b => .bl b
  | _, _, .int i => .int i
  | _, _, .str x => .str x
  | _, _, .lst h t => .lst (s _ _ h) (RpL.mono s t)
  | _, _, .tup h t => .tup (s _ _ h) (RpL.mono s t)
  | _, _, .dK h t => .dK (s.rd h) (RpK.mono s t)
  | _, _, .dT h t => .dT (s.rd h) (RpT.mono s t)
  | _, _, .scr h => .scr (by
      rcases h with h | h
      · exact .inl (s.rd h)
      · exact .inr h)
theorem RpL.mono (s : Sub F G) : ∀ {ds : List D} {vs : List V}, RpL K F ds vs → RpL K G ds vs
  | _, _, .nil => .nil
  | _, _, .cons h t => .cons (Rp.mono s h) (RpL.mono s t)
theorem RpK.mono (s : Sub F G) : ∀ {ds : List (D × D)} {vs : List (Key × V)}, RpK K F ds vs → RpK K G ds vs
  | _, _, .nil => .nil
  | _, _, .cons h t => .cons (Rp.mono s h) (RpK.mono s t)
theorem RpT.mono (s : Sub F G) : ∀ {ds : List (D × D)} {vs : List (List Key × V)}, RpT K F ds vs → RpT K G ds vs
  | _, _, .nil => .nil
  | _, _, .cons h t => .cons (Rp.mono s h) (RpT.mono s t)
end
theorem RpL.length : ∀ {ds : List D} {vs : List V}, RpL K F ds vs → vs.length = ds.length
  | _, _, .nil => rfl
  | _, _, .cons _ t => by rw [List.length_cons, List.length_cons, RpL.length t]
theorem RpL.append : ∀ {ds es : List D} {vs us : List V}, RpL K F ds vs → RpL K F es us → RpL K F (ds ++ es) (vs ++ us)
  | _, _, _, _, .nil, s => s
  | _, _, _, _, .cons h t, s => .cons h (RpL.append t s)
theorem RpL.get : ∀ {ds : List D} {vs : List V} {i : Nat} {d : D}, RpL K F ds vs → ds[i]? = some d → ∃ v, vs[i]? = some v ∧ Rp K F d v
  | _, _, _, _, .nil, e => by simp at e
  | _, _, 0, _, .cons h _, e => by
    simp at e; subst e; exact ⟨_, rfl, h⟩
  | _, _, i + 1, d, .cons _ t, e => by
    obtain ⟨u, h1, h2⟩ := RpL.get (i := i) (d := d) t (by simpa using e)
    exact ⟨u, by simpa using h1, h2⟩
theorem RpL.getV : ∀ {ds : List D} {vs : List V} {i : Nat} {v : V}, RpL K F ds vs → vs[i]? = some v → ∃ d, ds[i]? = some d ∧ Rp K F d v
  | _, _, _, _, .nil, e => by simp at e
  | _, _, 0, _, .cons h _, e => by
    simp at e; subst e; exact ⟨_, rfl, h⟩
  | _, _, i + 1, d, .cons _ t, e => by
    obtain ⟨u, h1, h2⟩ := RpL.getV (i := i) (v := d) t (by simpa using e)
    exact ⟨u, by simpa using h1, h2⟩
theorem RpL.take : ∀ {ds : List D} {vs : List V} (n : Nat), RpL K F ds vs → RpL K F (ds.take n) (vs.take n)
  | _, _, 0, _ => .nil
  | _, _, _ + 1, .nil => .nil
  | _, _, n + 1, .cons h t => .cons h (RpL.take n t)
theorem RpL.drop : ∀ {ds : List D} {vs : List V} (n : Nat), RpL K F ds vs → RpL K F (ds.drop n) (vs.drop n)
  | _, _, 0, h => h
  | _, _, _ + 1, .nil => .nil
  | _, _, n + 1, .cons _ t => RpL.drop n t
theorem RpL.set {d : D} {v : V} (r : Rp K F d v) : ∀ {ds : List D} {vs : List V} (i : Nat), RpL K F ds vs → RpL K F (ds.set i d) (vs.set i v)
  | _, _, _, .nil => .nil
  | _, _, 0, .cons _ t => .cons r t
  | _, _, i + 1, .cons q t => .cons q (RpL.set r i t)
theorem RpL.one {d : D} {v : V} (r : Rp K F d v) : RpL K F [d] [v] := .cons r .nil
theorem RpL.reverse : ∀ {ds : List D} {vs : List V}, RpL K F ds vs → RpL K F ds.reverse vs.reverse
  | _, _, .nil => .nil
  | _, _, .cons h t => by
    rw [List.reverse_cons, List.reverse_cons]
    exact RpL.append (RpL.reverse t) (.one h)
theorem RpL.ints : ∀ (ns : List Int), RpL K F (ns.map .int) (ns.map V.int)
  | [] => .nil
  | n :: ns => .cons (.int n) (RpL.ints ns)
theorem RpL.ints_inv : ∀ {ns : List Int} {vs : List V}, RpL K F (ns.map .int) vs → vs = ns.map V.int
  | [], _, .nil => rfl
  | n :: ns, _, .cons h t => by
    cases h
    rw [RpL.ints_inv t, List.map_cons]

/-- an owned container's object -/
inductive OwnRep (K : PySem.W.Frag) (F : Hp) : D → HO → Prop
  | lst {ds : List D} {xs : List V} : RpL K F ds xs → OwnRep K F (.list ds) (.lst xs)
  | dK {kds : List (D × D)} {kvs : List (Key × V)} : RpK K F kds kvs → OwnRep K F (.dict kds) (.dK kvs)
  | dT {kds : List (D × D)} {kvs : List (List Key × V)} : RpT K F kds kvs → OwnRep K F (.dict ((.bool true, .none) :: kds)) (.dT kvs)
theorem OwnRep.mono (s : Sub F G) {d : D} {o : HO} (h : OwnRep K F d o) : OwnRep K G d o := by
  cases h with
  | lst t => exact .lst (t.mono s)
  | dK t => exact .dK (t.mono s)
  | dT t => exact .dT (t.mono s)
/-- read where it is frozen or owned -/
def RpB (K : PySem.W.Frag) (F H : Hp) (d : D) (v : V) : Prop := Rp K F d v ∨ ∃ a o, v = .ref a ∧ F a = none ∧ H a = some o ∧ OwnRep K F d o
theorem RpB.of {d : D} {v : V} (h : Rp K F d v) : RpB K F H d v := .inl h
theorem RpB.list (s : Sub F H) {ds : List D} {v : V} (h : RpB K F H (.list ds) v) : ∃ a xs, v = .ref a ∧ H a = some (.lst xs) ∧ RpL K F ds xs := by
  rcases h with h | ⟨a, o, e, _, h1, h2⟩
  · cases h with
    | lst h1 h2 => exact ⟨_, _, rfl, s _ _ h1, h2⟩
  · cases h2 with
    | lst h2 => exact ⟨_, _, e, h1, h2⟩
theorem RpB.tuple (s : Sub F H) {ds : List D} {v : V} (h : RpB K F H (.tuple ds) v) : ∃ a xs, v = .ref a ∧ H a = some (.tup xs) ∧ RpL K F ds xs := by
  rcases h with h | ⟨a, o, e, _, h1, h2⟩
  · cases h with
    | tup h1 h2 => exact ⟨_, _, rfl, s _ _ h1, h2⟩
  · cases h2
theorem RpB.int {i : Int} {v : V} (h : RpB K F H (.int i) v) : v = .int i := by
  rcases h with h | ⟨a, o, e, _, h1, h2⟩
  · cases h; rfl
  · cases h2
theorem RpB.bool {i : Bool} {v : V} (h : RpB K F H (.bool i) v) : v = .bl i := by
  rcases h with h | ⟨a, o, e, _, h1, h2⟩
  · cases h; rfl
  · cases h2
theorem RpB.str {i : Str} {v : V} (h : RpB K F H (.str i) v) : v = .str i := by
  rcases h with h | ⟨a, o, e, _, h1, h2⟩
  · cases h; rfl
  · cases h2
theorem RpB.none' {v : V} (h : RpB K F H .none v) : v = .non := by
  rcases h with h | ⟨a, o, e, _, h1, h2⟩
  · cases h; rfl
  · cases h2
theorem RpB.isN {d : D} {v : V} (h : RpB K F H d v) : decide (v = .non) = (match d with | .none => true | _ => false) := by
  rcases h with h | ⟨a, o, e, _, h1, h2⟩
  · cases h <;> rfl
  · subst e
    cases h2 <;> rfl
end

/-! ### environments -/
inductive Slot where
  | no | fz (d : D) | ow (d : D)
abbrev Env := List Slot
def SlotOk (K : PySem.W.Frag) (F H : Hp) : Slot → Option V → Prop
  | .no, _ => True
  | .fz d, ov => ∃ v, ov = some v ∧ Rp K F d v
  | .ow d, ov => ∃ a o, ov = some (.ref a) ∧ F a = none ∧ H a = some o ∧ OwnRep K F d o
structure EnvOk (K : PySem.W.Frag) (ρ : Env) (σ : L2.St) (F H : Hp) : Prop where
  sub : Sub F H
  len : ρ.length = σ.length
  at_ : ∀ (i : Nat) s, ρ[i]? = some s → ∃ ov, σ[i]? = some ov ∧ SlotOk K F H s ov
  dist : ∀ (i j : Nat) d e a, ρ[i]? = some (.ow d) → ρ[j]? = some (.ow e) → σ[i]? = some (some (.ref a)) → σ[j]? = some (some (.ref a)) → i = j
structure Ext (F H F' H' : Hp) : Prop where
  f : Sub F F'
  h : Sub H H'
  le : Sub F' H'
  new : ∀ a, H a ≠ none → F a = none → F' a = none
section
variable {K : PySem.W.Frag} {ρ : Env} {σ : L2.St} {F H F' H' F'' H'' : Hp}
theorem Ext.refl (s : Sub F H) : Ext F H F H := ⟨Sub.refl _, Sub.refl _, s, fun _ _ h => h⟩
theorem Ext.trans (a : Ext F H F' H') (b : Ext F' H' F'' H'') : Ext F H F'' H'' :=
  ⟨a.f.trans b.f, a.h.trans b.h, b.le, fun x h1 h2 => b.new x (fun z => by
    cases e : H x with
    | none => exact h1 e
    | some o => rw [a.h x o e] at z; cases z) (a.new x h1 h2)⟩
/-- a new object that is frozen at once -/
theorem Ext.add (s : Sub F H) {p : Addr} {o : HO} (hp : H p = none) : Ext F H (upd F p o) (upd H p o) where
  f := Sub.new (s.free hp)
  h := Sub.new hp
  le := fun a u e => by
    by_cases h : a = p
    · subst h; rw [upd_same] at e ⊢; exact e
    · rw [upd_ne h] at e ⊢; exact s a u e
  new := fun a h1 h2 => by
    rw [upd_ne (fun z => h1 (by rw [z]; exact hp))]
    exact h2
/-- a new object that is not frozen -/
theorem Ext.own (s : Sub F H) {p : Addr} {o : HO} (hp : H p = none) : Ext F H F (upd H p o) :=
  ⟨Sub.refl _, Sub.new hp, s.trans (Sub.new hp), fun _ _ h => h⟩
theorem EnvOk.ext (e : EnvOk K ρ σ F H) (x : Ext F H F' H') : EnvOk K ρ σ F' H' where
  sub := x.le
  len := e.len
  dist := e.dist
  at_ := fun i s hs => by
    obtain ⟨ov, h1, h2⟩ := e.at_ i s hs
    refine ⟨ov, h1, ?_⟩
    cases s with
    | no => trivial
    | fz d =>
      obtain ⟨v, h3, h4⟩ := h2
      exact ⟨v, h3, h4.mono x.f⟩
    | ow d =>
      obtain ⟨a, o, h3, h4, h5, h6⟩ := h2
      exact ⟨a, o, h3, x.new a (by rw [h5]; exact fun z => nomatch z) h4, x.h _ _ h5, h6.mono x.f⟩
theorem RpB.ext {d : D} {v : V} (h : RpB K F H d v) (x : Ext F H F' H') : RpB K F' H' d v := by
  rcases h with h | ⟨a, o, e, h1, h2, h3⟩
  · exact .inl (h.mono x.f)
  · exact .inr ⟨a, o, e, x.new a (by rw [h2]; exact fun z => nomatch z) h1, x.h _ _ h2, h3.mono x.f⟩
end

/-! ### judgements of expressions -/
abbrev Den := Env → Option D
def tX (K : PySem.W.Frag) (f : Den) : TE := fun σ H Q => ∃ ρ F d, EnvOk K ρ σ F H ∧ f ρ = some d ∧ ∀ v F' H', Ext F H F' H' → Rp K F' d v → Q v H'
def tB' (K : PySem.W.Frag) (f : Den) : TE := fun σ H Q => ∃ ρ F d, EnvOk K ρ σ F H ∧ f ρ = some d ∧ ∀ v F' H', Ext F H F' H' → RpB K F' H' d v → Q v H'
def tN (K : PySem.W.Frag) (f : Den) : TE := fun σ H Q => ∃ ρ F d, EnvOk K ρ σ F H ∧ f ρ = some d ∧ ∀ a o F' H', Ext F H F' H' → F' a = none → H a = none → H' a = some o → OwnRep K F' d o → Q (.ref a) H'
def tTst (K : PySem.W.Frag) (f : Env → Option Bool) : TT := fun σ H Q => ∃ ρ F b, EnvOk K ρ σ F H ∧ f ρ = some b ∧ ∀ F' H', Ext F H F' H' → Q b H'
/-- a value, frozen -/
structure EX (X : Cx) (e : Expr) (f : Den) : Prop where
  pe : PE X e (tX X.K f)
/-- a value, perhaps a borrowed one -/
structure EB (X : Cx) (e : Expr) (f : Den) : Prop where
  pe : PE X e (tB' X.K f)
/-- a new list or dict -/
structure EN (X : Cx) (e : Expr) (f : Den) : Prop where
  pe : PE X e (tN X.K f)
/-- a test -/
structure ET (X : Cx) (e : Expr) (f : Env → Option Bool) : Prop where
  pt : PT X e (tTst X.K f)
theorem PE.imp {X : Cx} {e : Expr} {t t' : TE} (h : PE X e t) (i : ∀ σ H Q, t' σ H Q → t σ H Q) : PE X e t' := ⟨fun pins s σ H Q I hw => h.run pins s σ H Q I (i σ H Q hw)⟩
theorem PT.imp {X : Cx} {e : Expr} {t t' : TT} (h : PT X e t) (i : ∀ σ H Q, t' σ H Q → t σ H Q) : PT X e t' := ⟨fun pins s σ H Q I hw => h.run pins s σ H Q I (i σ H Q hw)⟩
theorem PI.imp {X : Cx} {tg e : Expr} {t t' : TI} (h : PI X tg e t) (i : ∀ σ H Q, t' σ H Q → t σ H Q) : PI X tg e t' := ⟨fun pins s σ H Q I hw => h.run pins s σ H Q I (i σ H Q hw)⟩
theorem PA.imp {X : Cx} {e : List Expr} {t t' : TA} (h : PA X e t) (i : ∀ σ H Q, t' σ H Q → t σ H Q) : PA X e t' := ⟨fun pos pins s σ H Q I hw => h.run pos pins s σ H Q I (i σ H Q hw)⟩
theorem PS.imp {X : Cx} {e : Stmt} {t t' : TS} (h : PS X e t) (i : ∀ D σ H, t' D σ H → t D σ H) : PS X e t' := ⟨fun pins s σ H D I hw => h.run pins s σ H D I (i D σ H hw)⟩
theorem PSs.imp {X : Cx} {e : List Stmt} {t t' : TS} (h : PSs X e t) (i : ∀ D σ H, t' D σ H → t D σ H) : PSs X e t' := ⟨fun pins s σ H D I hw => h.run pins s σ H D I (i D σ H hw)⟩
section
variable {X : Cx} {e : Expr} {f : Den}
theorem EX.b (h : EX X e f) : EB X e f := ⟨PE.imp h.pe fun σ H Q ⟨ρ, F, d, e1, e2, k⟩ => ⟨ρ, F, d, e1, e2, fun v F' H' x r => k v F' H' x (.inl r)⟩⟩
theorem EN.x (h : EN X e f) : EX X e f := ⟨PE.imp h.pe fun σ H Q ⟨ρ, F, d, e1, e2, k⟩ => ⟨ρ, F, d, e1, e2, fun a o F' H' x ha hn ho r => by
  have x' : Ext F H (upd F' a o) H' := ⟨x.f.trans (Sub.new ha), x.h, fun b u eb => by
      by_cases hb : b = a
      · subst hb; rw [upd_same] at eb; cases eb; exact ho
      · rw [upd_ne hb] at eb; exact x.le b u eb,
    fun b h1 h2 => by
      rw [upd_ne (fun z => h1 (by rw [z]; exact hn))]
      exact x.new b h1 h2⟩
  refine k _ _ _ x' ?_
  have s : Sub F' (upd F' a o) := Sub.new ha
  cases r with
  | lst t => exact .lst upd_same (t.mono s)
  | dK t => exact .dK (.inl upd_same) (t.mono s)
  | dT t => exact .dT (.inl upd_same) (t.mono s)⟩⟩
theorem EN.b (h : EN X e f) : EB X e f := h.x.b
end
end Zx
/-! Zx2: names, constants, displays, operators, comparisons. -/
namespace Zx
open PySem PySem.Spec L2
theorem line_of {n : Nat} (h : n ≤ 1000000) : n ≤ sizeLine := by rw [sizeLine_eq]; omega
theorem line_lt {n : Nat} (h : n < 1000000) : n < sizeLine := by rw [sizeLine_eq]; omega

/-! ### denotations -/
def vR (i : Nat) : Den := fun ρ => match ρ[i]? with | some (.fz d) => some d | _ => none
def vB (i : Nat) : Den := fun ρ => match ρ[i]? with | some (.fz d) => some d | some (.ow d) => some d | _ => none
def kD (d : D) : Den := fun _ => some d
def d1 (op : D → Option D) (f : Den) : Den := fun ρ => (f ρ).bind op
def d2 (op : D → D → Option D) (f g : Den) : Den := fun ρ => (f ρ).bind fun x => (g ρ).bind fun y => op x y
abbrev DenL := Env → Option (List D)
def lNil : DenL := fun _ => some []
def lCons (f : Den) (g : DenL) : DenL := fun ρ => (f ρ).bind fun x => (g ρ).bind fun xs => some (x :: xs)
def seqOf : D → Option (List D)
  | .list xs => some xs
  | .tuple xs => some xs
  | _ => none
def lStar (f : Den) (g : DenL) : DenL := fun ρ => (f ρ).bind fun x => (seqOf x).bind fun ys => (g ρ).bind fun xs => some (ys ++ xs)
def mkT (g : DenL) : Den := fun ρ => (g ρ).bind fun xs => if xs.length ≤ 1000000 then some (.tuple xs) else none
def mkL (g : DenL) : Den := fun ρ => (g ρ).bind fun xs => if xs.length ≤ 1000000 then some (.list xs) else none
/-- the bits of a factor -/
def mulOk (a b : Int) : Bool := decide (a.natAbs.log2 + b.natAbs.log2 < 100000000)
def addD : D → D → Option D
  | .int a, .int b => some (.int (a + b))
  | .list xs, .list ys => if xs.length + ys.length ≤ 1000000 then some (.list (xs ++ ys)) else none
  | .tuple xs, .tuple ys => if xs.length + ys.length ≤ 1000000 then some (.tuple (xs ++ ys)) else none
  | _, _ => none
def subD : D → D → Option D
  | .int a, .int b => some (.int (a - b))
  | _, _ => none
def mulD : D → D → Option D
  | .int a, .int b => if mulOk a b then some (.int (a * b)) else none
  | .list xs, .int k => if k.natAbs ≤ 1000000 ∧ xs.length * k.toNat ≤ 1000000 then some (.list (List.replicate k.toNat xs).flatten) else none
  | _, _ => none
def fdivD : D → D → Option D
  | .int a, .int b => if 0 < b ∧ b.natAbs.log2 < 9000 then some (.int (a / b)) else none
  | _, _ => none
def modD : D → D → Option D
  | .int a, .int b => if 0 < b then some (.int (a % b)) else none
  | _, _ => none
def powD : D → D → Option D
  | .int a, .int b => if 0 ≤ b ∧ b.natAbs ≤ 1000000 ∧ a.natAbs < 2 ^ 64 then some (.int (a ^ b.toNat)) else none
  | _, _ => none
def shlD : D → D → Option D
  | .int a, .int b => if 0 ≤ b ∧ b.natAbs ≤ 1000000 ∧ a.natAbs < 2 ^ 64 then some (.int (a * 2 ^ b.toNat)) else none
  | _, _ => none
def negD : D → Option D
  | .int a => some (.int (-a))
  | _ => none

section
variable {X : Cx} {a b : Expr} {f g : Den} {fl : DenL} {pos : Pos}
theorem mkX {e : Expr} {t : TE} (h : PE X e t) (i : ∀ σ H Q ρ F d, EnvOk X.K ρ σ F H → f ρ = some d → (∀ v F' H', Ext F H F' H' → Rp X.K F' d v → Q v H') → t σ H Q) : EX X e f :=
  ⟨PE.imp h fun σ H Q ⟨ρ, F, d, e1, e2, k⟩ => i σ H Q ρ F d e1 e2 k⟩
theorem mkN {e : Expr} {t : TE} (h : PE X e t) (i : ∀ σ H Q ρ F d, EnvOk X.K ρ σ F H → f ρ = some d → (∀ a o F' H', Ext F H F' H' → F' a = none → H a = none → H' a = some o → OwnRep X.K F' d o → Q (.ref a) H') → t σ H Q) : EN X e f :=
  ⟨PE.imp h fun σ H Q ⟨ρ, F, d, e1, e2, k⟩ => i σ H Q ρ F d e1 e2 k⟩
theorem mkBb {e : Expr} {t : TE} (h : PE X e t) (i : ∀ σ H Q ρ F d, EnvOk X.K ρ σ F H → f ρ = some d → (∀ v F' H', Ext F H F' H' → RpB X.K F' H' d v → Q v H') → t σ H Q) : EB X e f :=
  ⟨PE.imp h fun σ H Q ⟨ρ, F, d, e1, e2, k⟩ => i σ H Q ρ F d e1 e2 k⟩
theorem mkTs {e : Expr} {t : TT} {h' : Env → Option Bool} (h : PT X e t) (i : ∀ σ H Q ρ F b, EnvOk X.K ρ σ F H → h' ρ = some b → (∀ F' H', Ext F H F' H' → Q b H') → t σ H Q) : ET X e h' :=
  ⟨PT.imp h fun σ H Q ⟨ρ, F, d, e1, e2, k⟩ => i σ H Q ρ F d e1 e2 k⟩

/-! ### names -/
def visB (sc : Scope) (x : Str) : Bool := match sc.names.lookup x with | some .local => true | some .cell => true | some .free => true | _ => false
theorem vis_of {sc : Scope} {x : Str} (h : visB sc x = true) : Vis sc x := by
  unfold visB at h
  unfold Vis
  split at h
  · rename_i e; exact .inl e
  · rename_i e; exact .inr (.inl e)
  · rename_i e; exact .inr (.inr e)
  · cases h
theorem ex_var (i : Nat) {x : Str} (hN : X.N[i]? = some x) (hv : visB X.env.scope x = true) (hd : (x == ("__debug__" : Str)) = false) (hcd : (x == ("__classdict__" : Str)) = false) : EX X (.Name x pos) (vR i) :=
  mkX (pe_var hN (vis_of hv) hd hcd) fun σ H Q ρ F d e h k => by
    unfold vR at h
    split at h
    · rename_i d' hs
      cases h
      obtain ⟨ov, h1, v, h2, h3⟩ := e.at_ i _ hs
      subst h2
      exact ⟨v, h1, k v F H (.refl e.sub) h3⟩
    · cases h
theorem eb_var (i : Nat) {x : Str} (hN : X.N[i]? = some x) (hv : visB X.env.scope x = true) (hd : (x == ("__debug__" : Str)) = false) (hcd : (x == ("__classdict__" : Str)) = false) : EB X (.Name x pos) (vB i) :=
  mkBb (pe_var hN (vis_of hv) hd hcd) fun σ H Q ρ F d e h k => by
    unfold vB at h
    split at h
    · rename_i d' hs
      cases h
      obtain ⟨ov, h1, v, h2, h3⟩ := e.at_ i _ hs
      subst h2
      exact ⟨v, h1, k v F H (.refl e.sub) (.inl h3)⟩
    · rename_i d' hs
      cases h
      obtain ⟨ov, h1, a, o, h2, h3, h4, h5⟩ := e.at_ i _ hs
      subst h2
      exact ⟨_, h1, k _ F H (.refl e.sub) (.inr ⟨a, o, rfl, h3, h4, h5⟩)⟩
    · cases h
/-! ### constants -/
theorem ex_const {e : Expr} {v : V} (d : D) (h : PE X e (tC v)) (r : ∀ F, Rp X.K F d v) : EX X e (kD d) :=
  mkX h fun σ H Q ρ F d' e h k => by
    cases h
    exact k v F H (.refl e.sub) (r F)
theorem ex_int {i j} : EX X (.Constant (.int i) j pos) (kD (.int i)) := ex_const _ pe_int fun _ => .int i
theorem ex_bl {b j} : EX X (.Constant (.bool b) j pos) (kD (.bool b)) := ex_const _ pe_bl fun _ => .bl b
theorem ex_non {j} : EX X (.Constant .none j pos) (kD .none) := ex_const _ pe_non fun _ => .non
theorem ex_str {x j} : EX X (.Constant (.str x) j pos) (kD (.str x)) := ex_const _ pe_str fun _ => .str x
/-- an int constant of the module -/
theorem ex_glob {x : Str} {i : Int} {t : Tok} (hg : Gl X x) (hm : X.mg x = some (.int i t)) (hd : (x == ("__debug__" : Str)) = false) : EX X (.Name x pos) (kD (.int i)) := ex_const (v := .int i) _ (pe_glob hg hm ⟨t, rfl⟩ hd) fun _ => .int i
/-! ### displays -/
def tA (K : PySem.W.Frag) (f : DenL) : TA := fun σ H Q => ∃ ρ F ds, EnvOk K ρ σ F H ∧ f ρ = some ds ∧ ∀ vs F' H', Ext F H F' H' → RpL K F' ds vs → Q vs H'
structure EA (X : Cx) (es : List Expr) (f : DenL) : Prop where
  pa : PA X es (tA X.K f)
theorem mkA {es : List Expr} {t : TA} (h : PA X es t) (i : ∀ σ H Q ρ F d, EnvOk X.K ρ σ F H → fl ρ = some d → (∀ v F' H', Ext F H F' H' → RpL X.K F' d v → Q v H') → t σ H Q) : EA X es fl :=
  ⟨PA.imp h fun σ H Q ⟨ρ, F, d, e1, e2, k⟩ => i σ H Q ρ F d e1 e2 k⟩
theorem ea_nil : EA X [] lNil := mkA pa_nil fun σ H Q ρ F d e h k => by
  cases h
  exact k [] F H (.refl e.sub) .nil
theorem ea_cons {es : List Expr} (ha : EX X a f) (hr : EA X es fl) (hs : starEach (a :: es) X.env = (false, eval a X.env) :: starEach es X.env) : EA X (a :: es) (lCons f fl) :=
  mkA (pa_cons ha.pe hr.pa hs) fun σ H Q ρ F d e h k => by
    simp only [lCons, Option.bind_eq_some_iff, Option.some.injEq] at h
    obtain ⟨x, h1, xs, h2, rfl⟩ := h
    exact ⟨ρ, F, x, e, h1, fun v F1 H1 x1 r1 => ⟨ρ, F1, xs, e.ext x1, h2, fun vs F2 H2 x2 r2 => k _ F2 H2 (x1.trans x2) (.cons (r1.mono x2.f) r2)⟩⟩
theorem ea_star {es : List Expr} {p : Pos} (ha : EB X a f) (hr : EA X es fl) (hs : starEach (.Starred a p :: es) X.env = (true, eval a X.env) :: starEach es X.env) : EA X (.Starred a p :: es) (lStar f fl) :=
  mkA (StX.pa_star ha.pe hr.pa hs) fun σ H Q ρ F d e h k => by
    simp only [lStar, Option.bind_eq_some_iff, Option.some.injEq] at h
    obtain ⟨x, h1, ys, h0, xs, h2, rfl⟩ := h
    refine ⟨ρ, F, x, e, h1, fun v F1 H1 x1 r1 => ?_⟩
    cases x <;> simp only [seqOf, Option.some.injEq, reduceCtorEq] at h0
    · subst h0
      obtain ⟨p, vs, rfl, hp, hr⟩ := r1.list x1.le
      exact ⟨p, vs, rfl, .inr (.inl (.inl hp)), ρ, F1, xs, e.ext x1, h2, fun us F2 H2 x2 r2 => k _ F2 H2 (x1.trans x2) (RpL.append (hr.mono x2.f) r2)⟩
    · subst h0
      obtain ⟨p, vs, rfl, hp, hr⟩ := r1.tuple x1.le
      exact ⟨p, vs, rfl, .inl (.inl (.inl hp)), ρ, F1, xs, e.ext x1, h2, fun us F2 H2 x2 r2 => k _ F2 H2 (x1.trans x2) (RpL.append (hr.mono x2.f) r2)⟩
theorem ex_tup {es : List Expr} {x1} (h : EA X es fl) : EX X (.Tuple es x1 pos) (mkT fl) :=
  mkX (pe_tup h.pa) fun σ H Q ρ F d e h k => by
    simp only [mkT, Option.bind_eq_some_iff] at h
    obtain ⟨xs, h1, h2⟩ := h
    split at h2
    · rename_i hl
      cases h2
      refine ⟨ρ, F, xs, e, h1, fun vs F1 H1 x1 r1 => ⟨by rw [r1.length]; exact line_of hl, fun p hp => ?_⟩⟩
      exact k _ _ _ (x1.trans (.add x1.le hp)) (.tup upd_same (r1.mono (Sub.new (x1.le.free hp))))
    · cases h2
theorem en_lst {es : List Expr} (h : EA X es fl) : EN X (.List es pos) (mkL fl) :=
  mkN (pe_lst h.pa) fun σ H Q ρ F d e h k => by
    simp only [mkL, Option.bind_eq_some_iff] at h
    obtain ⟨xs, h1, h2⟩ := h
    split at h2
    · rename_i hl
      cases h2
      refine ⟨ρ, F, xs, e, h1, fun vs F1 H1 x1 r1 => ⟨by rw [r1.length]; exact line_of hl, fun p hp => ?_⟩⟩
      have hp0 : H p = none := x1.h.free hp
      exact k p _ _ _ (x1.trans (.own x1.le hp)) (x1.le.free hp) hp0 upd_same (.lst r1)
    · cases h2

/-! ### two operands -/
theorem ex_op2 {op : D → D → Option D} {e : Expr} {ta tb : TE} {r : R2} (h : PE X e (tOp r (tB' X.K f) (tB' X.K g)))
    (hr : ∀ x y u v d F H Q, op x y = some d → Sub F H → RpB X.K F H x u → RpB X.K F H y v → (∀ w F' H', Ext F H F' H' → Rp X.K F' d w → Q w H') → r u v H Q) : EX X e (d2 op f g) :=
  mkX h fun σ H Q ρ F d e h k => by
    simp only [d2, Option.bind_eq_some_iff] at h
    obtain ⟨x, h1, y, h2, h3⟩ := h
    exact ⟨ρ, F, x, e, h1, fun u F1 H1 x1 r1 => ⟨ρ, F1, y, e.ext x1, h2, fun v F2 H2 x2 r2 => hr x y u v d F2 H2 Q h3 x2.le (r1.ext x2) r2 fun w F' H' x3 rw => k w F' H' ((x1.trans x2).trans x3) rw⟩⟩
theorem en_op2 {op : D → D → Option D} {e : Expr} {ta tb : TE} {r : R2} (h : PE X e (tOp r (tB' X.K f) (tB' X.K g)))
    (hr : ∀ x y u v d F H Q, op x y = some d → Sub F H → RpB X.K F H x u → RpB X.K F H y v → (∀ p o, H p = none → OwnRep X.K F d o → Q (.ref p) (upd H p o)) → r u v H Q) : EN X e (d2 op f g) :=
  mkN h fun σ H Q ρ F d e h k => by
    simp only [d2, Option.bind_eq_some_iff] at h
    obtain ⟨x, h1, y, h2, h3⟩ := h
    exact ⟨ρ, F, x, e, h1, fun u F1 H1 x1 r1 => ⟨ρ, F1, y, e.ext x1, h2, fun v F2 H2 x2 r2 => hr x y u v d F2 H2 Q h3 x2.le (r1.ext x2) r2 fun p o hp ho =>
      k p o F2 _ ((x1.trans x2).trans (.own x2.le hp)) (x2.le.free hp) ((x1.trans x2).h.free hp) upd_same ho⟩⟩
/-- ints alone -/
theorem ex_opI {op : D → D → Option D} {e : Expr} {C : Int → Int → Prop} {z : Int → Int → Int} (h : PE X e (tOp (rI C fun i j => .int (z i j)) (tB' X.K f) (tB' X.K g)))
    (ho : ∀ x y d, op x y = some d → ∃ i j, x = .int i ∧ y = .int j ∧ C i j ∧ d = .int (z i j)) : EX X e (d2 op f g) :=
  ex_op2 (ta := tC .non) (tb := tC .non) h fun x y u v d F H Q e s ru rv k => by
    obtain ⟨i, j, rfl, rfl, hc, rfl⟩ := ho x y d e
    exact ⟨i, j, ru.int, rv.int, hc, k _ F H (.refl s) (.int _)⟩
theorem ex_opI0 {op : D → D → Option D} {e : Expr} {z : Int → Int → Int} (h : PE X e (tOp (rI0 fun i j => .int (z i j)) (tB' X.K f) (tB' X.K g)))
    (ho : ∀ x y d, op x y = some d → ∃ i j, x = .int i ∧ y = .int j ∧ d = .int (z i j)) : EX X e (d2 op f g) :=
  ex_op2 (ta := tC .non) (tb := tC .non) h fun x y u v d F H Q e s ru rv k => by
    obtain ⟨i, j, rfl, rfl, rfl⟩ := ho x y d e
    exact ⟨i, j, ru.int, rv.int, k _ F H (.refl s) (.int _)⟩
theorem ints_of2 {op : D → D → Option D} {C : Int → Int → Prop} {z : Int → Int → Int} (hi : ∀ i j d, op (.int i) (.int j) = some d → C i j ∧ d = .int (z i j)) (hn : ∀ x y d, op x y = some d → ∃ i j, x = .int i ∧ y = .int j) :
    ∀ x y d, op x y = some d → ∃ i j, x = .int i ∧ y = .int j ∧ C i j ∧ d = .int (z i j) := fun x y d h => by
  obtain ⟨i, j, rfl, rfl⟩ := hn x y d h
  obtain ⟨h1, h2⟩ := hi i j d h
  exact ⟨i, j, rfl, rfl, h1, h2⟩
/-- + of ints, lists or tuples; a new list is frozen -/
theorem ex_add (ha : EB X a f) (hb : EB X b g) : EX X (.BinOp a .Add b pos) (d2 addD f g) := by
  refine ex_op2 (ta := tC .non) (tb := tC .non) (pe_op ((op_add.or op_cat).or op_catA) ha.pe hb.pe) fun x y u v d F H Q e s ru rv k => ?_
  cases x <;> cases y <;> simp only [addD, reduceCtorEq, Option.some.injEq] at e
  · subst e
    exact .inl (.inl ⟨_, _, ru.int, rv.int, k _ F H (.refl s) (.int _)⟩)
  · split at e
    · rename_i hl
      cases e
      obtain ⟨p, xs, rfl, hp, rp⟩ := ru.list s
      obtain ⟨q, ys, rfl, hq, rq⟩ := rv.list s
      refine .inl (.inr ⟨p, q, xs, ys, rfl, rfl, hp, hq, by rw [rp.length, rq.length]; exact line_of hl, fun t ht => ?_⟩)
      exact k _ _ _ (.add s ht) (.lst upd_same ((rp.append rq).mono (Sub.new (s.free ht))))
    · cases e
  · split at e
    · rename_i hl
      cases e
      obtain ⟨p, xs, rfl, hp, rp⟩ := ru.tuple s
      obtain ⟨q, ys, rfl, hq, rq⟩ := rv.tuple s
      refine .inr ⟨p, q, xs, ys, rfl, rfl, .inl (.inl hp), .inl (.inl hq), by rw [rp.length, rq.length]; exact line_of hl, fun e1 => ?_, fun e1 e2 => ?_, fun e1 e2 t ht => ?_⟩
      · subst e1
        cases rp
        rw [List.nil_append] at k
        exact k _ F H (.refl s) (rv.elim id fun ⟨a, o, z, _, z1, z2⟩ => nomatch z2)
      · subst e2
        cases rq
        rw [List.append_nil] at k
        exact k _ F H (.refl s) (ru.elim id fun ⟨a, o, z, _, z1, z2⟩ => nomatch z2)
      · exact k _ _ _ (.add s ht) (.tup upd_same ((rp.append rq).mono (Sub.new (s.free ht))))
    · cases e
/-- + of lists, the new list one's own -/
theorem en_cat (ha : EB X a f) (hb : EB X b g) : EN X (.BinOp a .Add b pos) (d2 (fun x y => match x, y with | .list xs, .list ys => addD (.list xs) (.list ys) | _, _ => none) f g) := by
  refine en_op2 (ta := tC .non) (tb := tC .non) (pe_op op_cat ha.pe hb.pe) fun x y u v d F H Q e s ru rv k => ?_
  cases x <;> cases y <;> simp only [addD, reduceCtorEq] at e
  split at e
  · rename_i hl
    cases e
    obtain ⟨p, xs, rfl, hp, rp⟩ := ru.list s
    obtain ⟨q, ys, rfl, hq, rq⟩ := rv.list s
    exact ⟨p, q, xs, ys, rfl, rfl, hp, hq, by rw [rp.length, rq.length]; exact line_of hl, fun t ht => k t _ ht (.lst (rp.append rq))⟩
  · cases e
theorem ex_sub (ha : EB X a f) (hb : EB X b g) : EX X (.BinOp a .Sub b pos) (d2 subD f g) :=
  ex_opI0 (pe_op op_sub ha.pe hb.pe) fun x y d e => by
    cases x <;> cases y <;> simp only [subD, reduceCtorEq, Option.some.injEq] at e
    exact ⟨_, _, rfl, rfl, e.symm⟩
theorem mulOk_ok {i j : Int} (h : mulOk i j = true) : IntMulOk i j := by
  have b : ∀ x : Int, Builtin.Int.intBits x ≤ x.natAbs.log2 + 1 := fun x => by
    unfold Builtin.Int.intBits
    split <;> omega
  have h1 := b i
  have h2 := b j
  have h3 := of_decide_eq_true h
  have e : bitsLine = 134217728 := by decide
  unfold IntMulOk
  intro z
  rw [Bool.and_eq_true] at z
  have z2 := z.2
  unfold Builtin.Int.intTooBig at z2
  have z3 := of_decide_eq_true z2
  rw [e] at z3
  omega
theorem op_mulZ : OpR X (binaryOp .Mult) (rI (fun i j => mulOk i j = true) fun i j => .int (i * j)) := opI fun _ _ _ _ _ _ _ hc q => PyProof.Rows.mul_int q (mulOk_ok hc)
theorem repL {K : PySem.W.Frag} {F : Hp} {xs : List D} {vs : List V} (h : RpL K F xs vs) : ∀ n : Nat, RpL K F (List.replicate n xs).flatten (List.replicate n vs).flatten
  | 0 => .nil
  | n + 1 => by
    rw [List.replicate_succ, List.replicate_succ, List.flatten_cons, List.flatten_cons]
    exact h.append (repL h n)
/-- * of ints -/
theorem ex_mul (ha : EB X a f) (hb : EB X b g) : EX X (.BinOp a .Mult b pos) (d2 (fun x y => match x, y with | .int i, .int j => mulD (.int i) (.int j) | _, _ => none) f g) :=
  ex_opI (pe_op op_mulZ ha.pe hb.pe) fun x y d e => by
    cases x <;> cases y <;> simp only [mulD, reduceCtorEq] at e
    split at e
    · rename_i h
      cases e
      exact ⟨_, _, rfl, rfl, h, rfl⟩
    · cases e
/-- a list times an int -/
theorem en_rep (ha : EB X a f) (hb : EB X b g) : EN X (.BinOp a .Mult b pos) (d2 (fun x y => match x, y with | .list xs, .int j => mulD (.list xs) (.int j) | _, _ => none) f g) := by
  refine en_op2 (ta := tC .non) (tb := tC .non) (pe_op op_rep ha.pe hb.pe) fun x y u v d F H Q e s ru rv k => ?_
  cases x <;> cases y <;> simp only [mulD, reduceCtorEq] at e
  split at e
  · rename_i hl
    cases e
    obtain ⟨p, xs, rfl, hp, rp⟩ := ru.list s
    refine ⟨p, _, xs, rfl, rv.int, hp, by omega, by omega, by rw [rp.length]; exact line_of hl.2, fun t ht => k t _ ht (.lst (repL rp _))⟩
  · cases e
theorem ex_fdiv (ha : EB X a f) (hb : EB X b g) : EX X (.BinOp a .FloorDiv b pos) (d2 fdivD f g) :=
  ex_opI (pe_op op_fdivW ha.pe hb.pe) fun x y d e => by
    cases x <;> cases y <;> simp only [fdivD, reduceCtorEq] at e
    split at e
    · rename_i h
      cases e
      exact ⟨_, _, rfl, rfl, h, rfl⟩
    · cases e
theorem ex_mod (ha : EB X a f) (hb : EB X b g) : EX X (.BinOp a .Mod b pos) (d2 modD f g) :=
  ex_opI (pe_op op_mod ha.pe hb.pe) fun x y d e => by
    cases x <;> cases y <;> simp only [modD, reduceCtorEq] at e
    split at e
    · rename_i h
      cases e
      exact ⟨_, _, rfl, rfl, h, rfl⟩
    · cases e
theorem ex_pow (ha : EB X a f) (hb : EB X b g) : EX X (.BinOp a .Pow b pos) (d2 powD f g) :=
  ex_opI (pe_op op_pow ha.pe hb.pe) fun x y d e => by
    cases x <;> cases y <;> simp only [powD, reduceCtorEq] at e
    split at e
    · rename_i h
      cases e
      exact ⟨_, _, rfl, rfl, ⟨h.1, by have := h.2.1; omega, h.2.2⟩, rfl⟩
    · cases e
theorem ex_shl (ha : EB X a f) (hb : EB X b g) : EX X (.BinOp a .LShift b pos) (d2 shlD f g) :=
  ex_opI (pe_op op_shl ha.pe hb.pe) fun x y d e => by
    cases x <;> cases y <;> simp only [shlD, reduceCtorEq] at e
    split at e
    · rename_i h
      cases e
      exact ⟨_, _, rfl, rfl, ⟨h.1, by have := h.2.1; omega, h.2.2⟩, rfl⟩
    · cases e
theorem ex_neg (ha : EB X a f) : EX X (.UnaryOp .USub a pos) (d1 negD f) :=
  mkX (pe_un un_neg ha.pe) fun σ H Q ρ F d e h k => by
    simp only [d1, Option.bind_eq_some_iff] at h
    obtain ⟨x, h1, h2⟩ := h
    refine ⟨ρ, F, x, e, h1, fun u F1 H1 x1 r1 => ?_⟩
    cases x <;> simp only [negD, reduceCtorEq, Option.some.injEq] at h2
    subst h2
    exact ⟨_, r1.int, k _ F1 H1 x1 (.int _)⟩
end

/-! ### what reads as data -/
mutual
theorem Rp.dp {K : PySem.W.Frag} {F H : Hp} (s : Sub F H) : ∀ (d : D) (v : V), d.plain = true → Rp K F d v → Dp K H v d
  | .none, _, _, h => by cases h; exact .non
  | .bool b, _, _, h => by cases h; exact .bl b
  | .int i, _, _, h => by cases h; exact .int i
  | .str x, _, _, h => by cases h; exact .str x
  | .list ds, _, p, h => by
    cases h with
    | lst h1 h2 => exact .lst (.inl (.inl (s _ _ h1))) (RpL.dp s ds _ (by simpa [PyData.plain] using p) h2)
  | .tuple ds, _, p, h => by
    cases h with
    | tup h1 h2 => exact .tup (.inl (.inl (s _ _ h1))) (RpL.dp s ds _ (by simpa [PyData.plain] using p) h2)
  | .dict _, _, p, _ => by simp [PyData.plain] at p
theorem RpL.dp {K : PySem.W.Frag} {F H : Hp} (s : Sub F H) : ∀ (ds : List D) (vs : List V), PyData.plainAll ds = true → RpL K F ds vs → DpAll K H vs ds
  | [], _, _, h => by cases h; exact .nil
  | d :: ds, _, p, h => by
    cases h with
    | cons h1 h2 =>
      rw [PyData.plainAll, Bool.and_eq_true] at p
      exact .cons (Rp.dp s d _ p.1 h1) (RpL.dp s ds _ p.2 h2)
end
theorem RpB.dp {K : PySem.W.Frag} {F H : Hp} (s : Sub F H) {d : D} {v : V} (p : d.plain = true) (h : RpB K F H d v) : Dp K H v d := by
  rcases h with h | ⟨a, o, rfl, _, h1, h2⟩
  · exact h.dp s d v p
  · cases h2 with
    | lst h2 => exact .lst (.inl (.inl h1)) (RpL.dp s _ _ (by simpa [PyData.plain] using p) h2)
    | dK _ => simp [PyData.plain] at p
    | dT _ => simp [PyData.plain] at p
theorem plain_of_shaped {d : D} (h : SeqAt.shaped d = true) : d.plain = true := by
  unfold SeqAt.shaped at h
  rw [Bool.and_eq_true] at h
  exact PyData.plain_of_canLay0 d h.1
end Zx
/-! Zx3: comparisons, tests, and | or | not, conditional expressions. -/
namespace Zx
open PySem PySem.Spec L2
abbrev DenB := Env → Option Bool
def b2 (op : D → D → Option Bool) (f g : Den) : DenB := fun ρ => (f ρ).bind fun x => (g ρ).bind fun y => op x y
def bV (f : DenB) : Den := fun ρ => (f ρ).bind fun b => some (.bool b)
def eqD (x y : D) : Option Bool := if SeqAt.shaped x && SeqAt.shaped y then some (PyData.eqv x y) else none
def neD (x y : D) : Option Bool := if SeqAt.shaped x && SeqAt.shaped y then some (!PyData.eqv x y) else none
def ordOk (x y : D) : Bool := SeqAt.shaped x && SeqAt.shaped y && PySem.W.alike x y && (match x with | .none => false | _ => true)
def ltD (x y : D) : Option Bool := if ordOk x y then some (PySem.W.dataLt x y) else none
def gtD (x y : D) : Option Bool := if ordOk x y then some (PySem.W.dataLt y x) else none
def leD (x y : D) : Option Bool := if ordOk x y then some (!PySem.W.dataLt y x) else none
def geD (x y : D) : Option Bool := if ordOk x y then some (!PySem.W.dataLt x y) else none
/-- ints -/
def ltI : D → D → Option Bool | .int a, .int b => some (decide (a < b)) | _, _ => none
def leI : D → D → Option Bool | .int a, .int b => some (decide (a ≤ b)) | _, _ => none
def gtI : D → D → Option Bool | .int a, .int b => some (decide (b < a)) | _, _ => none
def geI : D → D → Option Bool | .int a, .int b => some (decide (b ≤ a)) | _, _ => none
def inD (x : D) : D → Option Bool
  | .list ys => if SeqAt.shaped x && SeqAt.shaped (.list ys) then some (ys.any fun z => PyData.eqv z x) else none
  | .tuple ys => if SeqAt.shaped x && SeqAt.shaped (.tuple ys) then some (ys.any fun z => PyData.eqv z x) else none
  | _ => none
def ninD (x y : D) : Option Bool := (inD x y).map (!·)
def isN : D → Option Bool | .none => some true | _ => some false
def notN : D → Option Bool | .none => some false | _ => some true
def b1 (op : D → Option Bool) (f : Den) : DenB := fun ρ => (f ρ).bind op
def bAnd (f g : DenB) : DenB := fun ρ => (f ρ).bind fun b => if b then g ρ else some false
def bOr (f g : DenB) : DenB := fun ρ => (f ρ).bind fun b => if b then some true else g ρ
def bNot (f : DenB) : DenB := fun ρ => (f ρ).bind fun b => some (!b)
def bCh (op op' : D → D → Option Bool) (f g h : Den) : DenB := fun ρ => (f ρ).bind fun x => (g ρ).bind fun y => (op x y).bind fun b => if b then (h ρ).bind fun z => op' y z else some false
def dIf (c : DenB) (f g : Den) : Den := fun ρ => (c ρ).bind fun b => if b then f ρ else g ρ
def truD : D → Option Bool
  | .none => some false
  | .bool b => some b
  | .int i => some (i != 0)
  | .list xs => some (!xs.isEmpty)
  | .tuple xs => some (!xs.isEmpty)
  | _ => none

section
variable {X : Cx} {a b c : Expr} {f g : Den} {fb gb : DenB} {pos : Pos}
def tBl (K : PySem.W.Frag) (f : DenB) : TE := fun σ H Q => ∃ ρ F b, EnvOk K ρ σ F H ∧ f ρ = some b ∧ ∀ F' H', Ext F H F' H' → Q (.bl b) H'
structure EC (X : Cx) (op : CmpOp) (a b : Expr) (f : DenB) : Prop where
  pc : PC X op a b (tBl X.K f)
theorem PC.imp {op : CmpOp} {t t' : TE} (h : PC X op a b t) (i : ∀ σ H Q, t' σ H Q → t σ H Q) : PC X op a b t' := ⟨fun pins s σ H Q I hw => h.run pins s σ H Q I (i σ H Q hw)⟩
theorem pc_op {op : CmpOp} {r : R2} {ta tb : TE} (ho : OpR X (compareOp op) r) (ha : PE X a ta) (hb : PE X b tb) : PC X op a b (tOp r ta tb) :=
  ⟨fun pins s σ H Q I h => binT ha hb I h fun v u s2 x y H2 I2 rx ry q => ho pins s2 σ H2 x y v u Q I2 rx ry q⟩
theorem mkC {op : CmpOp} {o : D → D → Option Bool} {r : R2} (ho : OpR X (compareOp op) r) (ha : EB X a f) (hb : EB X b g)
    (hr : ∀ x y u v d F H Q, o x y = some d → Sub F H → RpB X.K F H x u → RpB X.K F H y v → Q (.bl d) H → r u v H Q) : EC X op a b (b2 o f g) :=
  ⟨PC.imp (pc_op ho ha.pe hb.pe) fun σ H Q ⟨ρ, F, d, e, h, k⟩ => by
    simp only [b2, Option.bind_eq_some_iff] at h
    obtain ⟨x, h1, y, h2, h3⟩ := h
    exact ⟨ρ, F, x, e, h1, fun u F1 H1 x1 r1 => ⟨ρ, F1, y, e.ext x1, h2, fun v F2 H2 x2 r2 => hr x y u v d F2 H2 Q h3 x2.le (r1.ext x2) r2 (k F2 H2 (x1.trans x2))⟩⟩⟩
theorem ec_eq (hu : X.A.units + 64 < cLine) (ha : EB X a f) (hb : EB X b g) : EC X .Eq a b (b2 eqD f g) :=
  mkC (op_eqD hu) ha hb fun x y u v d F H Q e s ru rv k => by
    unfold eqD at e
    split at e
    · rename_i h
      cases e
      rw [Bool.and_eq_true] at h
      exact ⟨x, y, ru.dp s (plain_of_shaped h.1), rv.dp s (plain_of_shaped h.2), h.1, h.2, k⟩
    · cases e
theorem ec_ne (hu : X.A.units + 64 < cLine) (ha : EB X a f) (hb : EB X b g) : EC X .NotEq a b (b2 neD f g) :=
  mkC (op_neD hu) ha hb fun x y u v d F H Q e s ru rv k => by
    unfold neD at e
    split at e
    · rename_i h
      cases e
      rw [Bool.and_eq_true] at h
      exact ⟨x, y, ru.dp s (plain_of_shaped h.1), rv.dp s (plain_of_shaped h.2), h.1, h.2, k⟩
    · cases e
def rOrdD (K : PySem.W.Frag) (z : D → D → Bool) : R2 := fun x y H Q => ∃ d e, Dp K H x d ∧ Dp K H y e ∧ ordOk d e = true ∧ Q (.bl (z d e)) H
theorem ord_parts {d e : D} (h : ordOk d e = true) : SeqAt.shaped d = true ∧ SeqAt.shaped e = true ∧ PySem.W.alike d e = true ∧ d ≠ .none := by
  unfold ordOk at h
  rw [Bool.and_eq_true, Bool.and_eq_true, Bool.and_eq_true] at h
  refine ⟨h.1.1.1, h.1.1.2, h.1.2, ?_⟩
  rintro rfl
  exact Bool.noConfusion h.2
theorem depth64 {d : D} (h : SeqAt.shaped d = true) : d.depth ≤ 64 := by
  unfold SeqAt.shaped at h
  rw [Bool.and_eq_true] at h
  exact of_decide_eq_true h.2
theorem op_ordD {op : CmpOp} {z : D → D → Bool} (hu : X.A.units + 64 < cLine)
    (rule : ∀ {da db : D} {s : Shared} {a b : Value} {as bs : List Addr} {Q : Value → Shared → Prop}, Reads s.heap a da as → Reads s.heap b db bs → PySem.W.alike da db = true → da ≠ .none → X.A.units + min da.depth db.depth < cLine → Q (.bool (z da db)) s → wpAny (model X.prog X.w) X.A (compareOp op a b) Q X.xe s) :
    OpR X (compareOp op) (rOrdD X.K z) := by
  intro pins s σ H x y v u Q I rx ry h
  obtain ⟨d, e, hd, he, ho, q⟩ := h
  obtain ⟨as, r1⟩ := Dp.reads I d x v hd rx
  obtain ⟨bs, r2⟩ := Dp.reads I e y u he ry
  obtain ⟨s1, s2, s3, s4⟩ := ord_parts ho
  have h1 := depth64 s1
  exact rule r1 r2 s3 s4 (by have : min d.depth e.depth ≤ d.depth := Nat.min_le_left _ _; omega) ⟨.bl _, H, I, rfl, q⟩
theorem ec_ord {op : CmpOp} {z : D → D → Bool} (ho : OpR X (compareOp op) (rOrdD X.K z)) (ha : EB X a f) (hb : EB X b g) : EC X op a b (b2 (fun x y => if ordOk x y then some (z x y) else none) f g) :=
  mkC ho ha hb fun x y u v d F H Q e s ru rv k => by
    split at e
    · rename_i h
      cases e
      obtain ⟨s1, s2, _, _⟩ := ord_parts h
      exact ⟨x, y, ru.dp s (plain_of_shaped s1), rv.dp s (plain_of_shaped s2), h, k⟩
    · cases e
theorem ec_lt (hu : X.A.units + 64 < cLine) (ha : EB X a f) (hb : EB X b g) : EC X .Lt a b (b2 ltD f g) := ec_ord (op_ordD hu fun r1 r2 h1 h2 h3 h4 => PySem.W.lt_data r1 r2 h1 h2 h3 h4) ha hb
theorem ec_gt (hu : X.A.units + 64 < cLine) (ha : EB X a f) (hb : EB X b g) : EC X .Gt a b (b2 gtD f g) := ec_ord (op_ordD hu fun r1 r2 h1 h2 h3 h4 => PySem.W.gt_data r1 r2 h1 h2 h3 h4) ha hb
theorem ec_le (hu : X.A.units + 64 < cLine) (ha : EB X a f) (hb : EB X b g) : EC X .LtE a b (b2 leD f g) := ec_ord (op_ordD hu fun r1 r2 h1 h2 h3 h4 => PySem.W.le_data r1 r2 h1 h2 h3 h4) ha hb
theorem ec_ge (hu : X.A.units + 64 < cLine) (ha : EB X a f) (hb : EB X b g) : EC X .GtE a b (b2 geD f g) := ec_ord (op_ordD hu fun r1 r2 h1 h2 h3 h4 => PySem.W.ge_data r1 r2 h1 h2 h3 h4) ha hb
theorem ec_int {op : CmpOp} {o : D → D → Option Bool} {z : Int → Int → Bool} (ho : OpR X (compareOp op) (rI0 fun i j => .bl (z i j))) (h : ∀ x y d, o x y = some d → ∃ i j, x = .int i ∧ y = .int j ∧ d = z i j) (ha : EB X a f) (hb : EB X b g) : EC X op a b (b2 o f g) :=
  mkC ho ha hb fun x y u v d F H Q e s ru rv k => by
    obtain ⟨i, j, rfl, rfl, rfl⟩ := h x y d e
    exact ⟨i, j, ru.int, rv.int, k⟩
theorem ltI_i (x y : D) (d : Bool) (e : ltI x y = some d) : ∃ i j, x = .int i ∧ y = .int j ∧ d = decide (i < j) := by
  cases x <;> cases y <;> simp only [ltI, reduceCtorEq, Option.some.injEq] at e
  exact ⟨_, _, rfl, rfl, e.symm⟩
theorem leI_i (x y : D) (d : Bool) (e : leI x y = some d) : ∃ i j, x = .int i ∧ y = .int j ∧ d = decide (i ≤ j) := by
  cases x <;> cases y <;> simp only [leI, reduceCtorEq, Option.some.injEq] at e
  exact ⟨_, _, rfl, rfl, e.symm⟩
theorem gtI_i (x y : D) (d : Bool) (e : gtI x y = some d) : ∃ i j, x = .int i ∧ y = .int j ∧ d = decide (j < i) := by
  cases x <;> cases y <;> simp only [gtI, reduceCtorEq, Option.some.injEq] at e
  exact ⟨_, _, rfl, rfl, e.symm⟩
theorem geI_i (x y : D) (d : Bool) (e : geI x y = some d) : ∃ i j, x = .int i ∧ y = .int j ∧ d = decide (j ≤ i) := by
  cases x <;> cases y <;> simp only [geI, reduceCtorEq, Option.some.injEq] at e
  exact ⟨_, _, rfl, rfl, e.symm⟩
theorem ec_ltI (ha : EB X a f) (hb : EB X b g) : EC X .Lt a b (b2 ltI f g) := ec_int op_lt ltI_i ha hb
theorem ec_leI (ha : EB X a f) (hb : EB X b g) : EC X .LtE a b (b2 leI f g) := ec_int op_le leI_i ha hb
theorem ec_gtI (ha : EB X a f) (hb : EB X b g) : EC X .Gt a b (b2 gtI f g) := ec_int op_gt gtI_i ha hb
theorem ec_geI (ha : EB X a f) (hb : EB X b g) : EC X .GtE a b (b2 geI f g) := ec_int op_ge geI_i ha hb
theorem ec_isN {j pos'} (ha : EB X a f) : EC X .Is a (.Constant .none j pos') (b1 isN f) :=
  ⟨PC.imp (pc_isN ha.pe) fun σ H Q ⟨ρ, F, d, e, h, k⟩ => by
    simp only [b1, Option.bind_eq_some_iff] at h
    obtain ⟨x, h1, h3⟩ := h
    refine ⟨ρ, F, x, e, h1, fun u F1 H1 x1 r1 => ?_⟩
    have z := k F1 H1 x1
    show Q (.bl (decide (u = .non))) H1
    rw [r1.isN]
    cases x <;> simp only [isN, Option.some.injEq] at h3 <;> subst h3 <;> exact z⟩
theorem ec_notN {j pos'} (ha : EB X a f) : EC X .IsNot a (.Constant .none j pos') (b1 notN f) :=
  ⟨PC.imp (pc_notN ha.pe) fun σ H Q ⟨ρ, F, d, e, h, k⟩ => by
    simp only [b1, Option.bind_eq_some_iff] at h
    obtain ⟨x, h1, h3⟩ := h
    refine ⟨ρ, F, x, e, h1, fun u F1 H1 x1 r1 => ?_⟩
    have z := k F1 H1 x1
    show Q (.bl (!decide (u = .non))) H1
    rw [r1.isN]
    cases x <;> simp only [notN, Option.some.injEq] at h3 <;> subst h3 <;> exact z⟩
/-! ### a comparison as a value, as a test -/
theorem ex_cmp {op : CmpOp} (h : EC X op a b fb) (hm : behindInMarks op b = false) : EX X (.Compare a [op] [b] pos) (bV fb) :=
  mkX (pe_cmp h.pc hm) fun σ H Q ρ F d e h k => by
    simp only [bV, Option.bind_eq_some_iff, Option.some.injEq] at h
    obtain ⟨x, h1, rfl⟩ := h
    exact ⟨ρ, F, x, e, h1, fun F1 H1 x1 => k _ F1 H1 x1 (.bl _)⟩
theorem et_cmp {op : CmpOp} (h : EC X op a b fb) (hm : behindInMarks op b = false) : ET X (.Compare a [op] [b] pos) fb :=
  mkTs (pt_cmp h.pc hm) fun σ H Q ρ F d e h k => ⟨ρ, F, d, e, h, fun F1 H1 x1 => ⟨d, rfl, k F1 H1 x1⟩⟩
/-! ### chains of ints -/
theorem chain_t {h : Den} {o o' : D → D → Option Bool} {z z' : Int → Int → Bool} (ho : ∀ x y d, o x y = some d → ∃ i j, x = .int i ∧ y = .int j ∧ d = z i j) (ho' : ∀ x y d, o' x y = some d → ∃ i j, x = .int i ∧ y = .int j ∧ d = z' i j)
    {σ : L2.St} {H : Hp} {Q : VK} {ρ : Env} {F : Hp} {d : Bool} (e : EnvOk X.K ρ σ F H) (hd : bCh o o' f g h ρ = some d) (k : ∀ F' H', Ext F H F' H' → Q (.bl d) H') :
    tChain (rI0 fun i j => .bl (z i j)) (rI0 fun i j => .bl (z' i j)) (tB' X.K f) (tB' X.K g) (tB' X.K h) σ H Q := by
  simp only [bCh, Option.bind_eq_some_iff] at hd
  obtain ⟨x, h1, y, h2, b0, h3, h4⟩ := hd
  obtain ⟨i, j, rfl, rfl, rfl⟩ := ho x y b0 h3
  refine ⟨ρ, F, _, e, h1, fun u F1 H1 x1 r1 => ⟨ρ, F1, _, e.ext x1, h2, fun v F2 H2 x2 r2 => ⟨i, j, (r1.ext x2).int, r2.int, _, rfl, ?_⟩⟩⟩
  split
  · rename_i hb
    rw [if_pos hb] at h4
    simp only [Option.bind_eq_some_iff] at h4
    obtain ⟨w, h5, h6⟩ := h4
    obtain ⟨i', j', ei, rfl, rfl⟩ := ho' _ w d h6
    cases ei
    exact ⟨ρ, F2, _, (e.ext x1).ext x2, h5, fun v3 F3 H3 x3 r3 => ⟨j, j', (r2.ext x3).int, r3.int, k F3 H3 ((x1.trans x2).trans x3)⟩⟩
  · rename_i hb
    rw [if_neg hb] at h4
    cases h4
    exact k F2 H2 (x1.trans x2)
theorem ex_chain {h : Den} {op op' : CmpOp} {o o' : D → D → Option Bool} {z z' : Int → Int → Bool} (hop : OpR X (compareOp op) (rI0 fun i j => .bl (z i j))) (hop' : OpR X (compareOp op') (rI0 fun i j => .bl (z' i j)))
    (ho : ∀ x y d, o x y = some d → ∃ i j, x = .int i ∧ y = .int j ∧ d = z i j) (ho' : ∀ x y d, o' x y = some d → ∃ i j, x = .int i ∧ y = .int j ∧ d = z' i j) (ha : EB X a f) (hb : EB X b g) (hc : EB X c h)
    (hm : lastMarks [op, op'] [b, c] = false) : EX X (.Compare a [op, op'] [b, c] pos) (bV (bCh o o' f g h)) :=
  mkX (pe_chain hop hop' ha.pe hb.pe hc.pe hm) fun σ H Q ρ F d e h k => by
    simp only [bV, Option.bind_eq_some_iff, Option.some.injEq] at h
    obtain ⟨x, h1, rfl⟩ := h
    exact chain_t ho ho' e h1 fun F' H' x' => k _ F' H' x' (.bl _)
theorem et_chain {h : Den} {op op' : CmpOp} {o o' : D → D → Option Bool} {z z' : Int → Int → Bool} (hop : OpR X (compareOp op) (rI0 fun i j => .bl (z i j))) (hop' : OpR X (compareOp op') (rI0 fun i j => .bl (z' i j)))
    (ho : ∀ x y d, o x y = some d → ∃ i j, x = .int i ∧ y = .int j ∧ d = z i j) (ho' : ∀ x y d, o' x y = some d → ∃ i j, x = .int i ∧ y = .int j ∧ d = z' i j) (ha : EB X a f) (hb : EB X b g) (hc : EB X c h)
    (hm : lastMarks [op, op'] [b, c] = false) : ET X (.Compare a [op, op'] [b, c] pos) (bCh o o' f g h) :=
  mkTs (pt_chain hop hop' ha.pe hb.pe hc.pe hm) fun σ H Q ρ F d e h k => chain_t (Q := fun x H' => ∃ k, x = .bl k ∧ Q k H') ho ho' e h fun F' H' x' => ⟨d, rfl, k F' H' x'⟩
theorem et_leLe {h : Den} (ha : EB X a f) (hb : EB X b g) (hc : EB X c h) (hm : lastMarks [.LtE, .LtE] [b, c] = false) : ET X (.Compare a [.LtE, .LtE] [b, c] pos) (bCh leI leI f g h) := et_chain op_le op_le leI_i leI_i ha hb hc hm
theorem et_leLt {h : Den} (ha : EB X a f) (hb : EB X b g) (hc : EB X c h) (hm : lastMarks [.LtE, .Lt] [b, c] = false) : ET X (.Compare a [.LtE, .Lt] [b, c] pos) (bCh leI ltI f g h) := et_chain op_le op_lt leI_i ltI_i ha hb hc hm
theorem et_ltLe {h : Den} (ha : EB X a f) (hb : EB X b g) (hc : EB X c h) (hm : lastMarks [.Lt, .LtE] [b, c] = false) : ET X (.Compare a [.Lt, .LtE] [b, c] pos) (bCh ltI leI f g h) := et_chain op_lt op_le ltI_i leI_i ha hb hc hm
theorem et_ltLt {h : Den} (ha : EB X a f) (hb : EB X b g) (hc : EB X c h) (hm : lastMarks [.Lt, .Lt] [b, c] = false) : ET X (.Compare a [.Lt, .Lt] [b, c] pos) (bCh ltI ltI f g h) := et_chain op_lt op_lt ltI_i ltI_i ha hb hc hm
theorem ex_leLe {h : Den} (ha : EB X a f) (hb : EB X b g) (hc : EB X c h) (hm : lastMarks [.LtE, .LtE] [b, c] = false) : EX X (.Compare a [.LtE, .LtE] [b, c] pos) (bV (bCh leI leI f g h)) := ex_chain op_le op_le leI_i leI_i ha hb hc hm
theorem ex_leLt {h : Den} (ha : EB X a f) (hb : EB X b g) (hc : EB X c h) (hm : lastMarks [.LtE, .Lt] [b, c] = false) : EX X (.Compare a [.LtE, .Lt] [b, c] pos) (bV (bCh leI ltI f g h)) := ex_chain op_le op_lt leI_i ltI_i ha hb hc hm
theorem ex_ltLt {h : Den} (ha : EB X a f) (hb : EB X b g) (hc : EB X c h) (hm : lastMarks [.Lt, .Lt] [b, c] = false) : EX X (.Compare a [.Lt, .Lt] [b, c] pos) (bV (bCh ltI ltI f g h)) := ex_chain op_lt op_lt ltI_i ltI_i ha hb hc hm
/-! ### in, not in: a list or a tuple -/
def rInZ (K : PySem.W.Frag) (neg : Bool) : R2 := fun x y H Q => ∃ d ds, Dp K H x d ∧ (Dp K H y (.list ds) ∨ Dp K H y (.tuple ds)) ∧ SeqAt.shaped d = true ∧ SeqAt.shaped (.list ds) = true ∧ Q (.bl (if neg then !ds.any (fun z => PyData.eqv z d) else ds.any fun z => PyData.eqv z d)) H
theorem shaped_lt {ds : List D} : SeqAt.shaped (.list ds) = SeqAt.shaped (.tuple ds) := rfl
theorem inz_room {A : Around} {d : D} {n : Nat} (h : SeqAt.shaped d = true) (hu : A.units + 65 < cLine) : A.units + 1 + min n d.depth < cLine := by
  have h1 := depth64 h
  have : min n d.depth ≤ d.depth := Nat.min_le_right _ _
  omega
theorem plainAll_of {ds : List D} (h : SeqAt.shaped (.list ds) = true) : PyData.plainAll ds = true := by
  have := plain_of_shaped h
  simpa [PyData.plain] using this
theorem op_inZ (hu : X.A.units + 65 < cLine) : OpR X (compareOp .In) (rInZ X.K false) := by
  intro pins s σ H x y v u Q I rx ry h
  obtain ⟨d, ds, hd, he, sd, se, q⟩ := h
  obtain ⟨as, r1⟩ := Dp.reads I d x v hd rx
  rcases he with he | he
  · obtain ⟨bs, r2⟩ := Dp.reads I (.list ds) y u he ry
    exact SeqAt.in_list_data r2 r1 (plainAll_of se) (plain_of_shaped sd) (inz_room sd hu) ⟨.bl _, H, I, rfl, q⟩
  · obtain ⟨bs, r2⟩ := Dp.reads I (.tuple ds) y u he ry
    exact SeqAt.in_tuple_data r2 r1 (plainAll_of se) (plain_of_shaped sd) (inz_room sd hu) ⟨.bl _, H, I, rfl, q⟩
theorem op_ninZ (hu : X.A.units + 65 < cLine) : OpR X (compareOp .NotIn) (rInZ X.K true) := by
  intro pins s σ H x y v u Q I rx ry h
  obtain ⟨d, ds, hd, he, sd, se, q⟩ := h
  obtain ⟨as, r1⟩ := Dp.reads I d x v hd rx
  rcases he with he | he
  · obtain ⟨bs, r2⟩ := Dp.reads I (.list ds) y u he ry
    exact SeqAt.notIn_list_data r2 r1 (plainAll_of se) (plain_of_shaped sd) (inz_room sd hu) ⟨.bl _, H, I, rfl, q⟩
  · obtain ⟨bs, r2⟩ := Dp.reads I (.tuple ds) y u he ry
    exact SeqAt.notIn_tuple_data r2 r1 (plainAll_of se) (plain_of_shaped sd) (inz_room sd hu) ⟨.bl _, H, I, rfl, q⟩
theorem inD_parts {x y : D} {b : Bool} (e : inD x y = some b) : ∃ ds, (y = .list ds ∨ y = .tuple ds) ∧ SeqAt.shaped x = true ∧ SeqAt.shaped (.list ds) = true ∧ b = ds.any fun z => PyData.eqv z x := by
  cases y <;> simp only [inD, reduceCtorEq] at e <;> split at e
  · rename_i h
    rw [Bool.and_eq_true] at h
    cases e
    exact ⟨_, .inl rfl, h.1, h.2, rfl⟩
  · cases e
  · rename_i h
    rw [Bool.and_eq_true] at h
    cases e
    exact ⟨_, .inr rfl, h.1, h.2, rfl⟩
  · cases e
theorem dp_seq {K : PySem.W.Frag} {F H : Hp} {y : D} {ds : List D} {v : V} (s : Sub F H) (hy : y = .list ds ∨ y = .tuple ds) (h : SeqAt.shaped (.list ds) = true) (r : RpB K F H y v) : Dp K H v (.list ds) ∨ Dp K H v (.tuple ds) := by
  rcases hy with rfl | rfl
  · exact .inl (r.dp s (plain_of_shaped h))
  · exact .inr (r.dp s (plain_of_shaped (shaped_lt ▸ h)))
theorem ec_in (hu : X.A.units + 65 < cLine) (ha : EB X a f) (hb : EB X b g) : EC X .In a b (b2 inD f g) :=
  mkC (op_inZ hu) ha hb fun x y u v d F H Q e s ru rv k => by
    obtain ⟨ds, hy, sx, sy, rfl⟩ := inD_parts e
    exact ⟨x, ds, ru.dp s (plain_of_shaped sx), dp_seq s hy sy rv, sx, sy, k⟩
theorem ec_nin (hu : X.A.units + 65 < cLine) (ha : EB X a f) (hb : EB X b g) : EC X .NotIn a b (b2 ninD f g) :=
  mkC (op_ninZ hu) ha hb fun x y u v d F H Q e s ru rv k => by
    simp only [ninD, Option.map_eq_some_iff] at e
    obtain ⟨b0, e, rfl⟩ := e
    obtain ⟨ds, hy, sx, sy, rfl⟩ := inD_parts e
    exact ⟨x, ds, ru.dp s (plain_of_shaped sx), dp_seq s hy sy rv, sx, sy, k⟩
/-! ### tests -/
/-- a test whatever its whole is -/
structure EW (X : Cx) (e : Expr) (f : DenB) : Prop where
  pw : PW X e (tTst X.K f)
theorem EW.t {e : Expr} (h : EW X e fb) : ET X e fb := ⟨h.pw.pt⟩
theorem PW.imp {e : Expr} {t t' : TT} (h : PW X e t) (i : ∀ σ H Q, t' σ H Q → t σ H Q) : PW X e t' := ⟨fun wh pins s σ H Q I hw => h.run wh pins s σ H Q I (i σ H Q hw)⟩
variable {rest : List Expr}
theorem ew_and1 (ha : ET X a fb) : EW X (.BoolOp .And [a] pos) fb := ⟨pw_and1 ha.pt⟩
theorem ew_or1 (ha : ET X a fb) : EW X (.BoolOp .Or [a] pos) fb := ⟨pw_or1 ha.pt⟩
theorem ew_and (ha : ET X a fb) (hb : EW X (.BoolOp .And (b :: rest) pos) gb) : EW X (.BoolOp .And (a :: b :: rest) pos) (bAnd fb gb) :=
  ⟨PW.imp (pw_and ha.pt hb.pw) fun σ H Q ⟨ρ, F, d, e, h, k⟩ => by
    simp only [bAnd, Option.bind_eq_some_iff] at h
    obtain ⟨x, h1, h2⟩ := h
    refine ⟨ρ, F, x, e, h1, fun F1 H1 x1 => ?_⟩
    cases x with
    | true => exact ⟨ρ, F1, d, e.ext x1, h2, fun F2 H2 x2 => k F2 H2 (x1.trans x2)⟩
    | false =>
      cases h2
      exact k F1 H1 x1⟩
theorem ew_or (ha : ET X a fb) (hb : EW X (.BoolOp .Or (b :: rest) pos) gb) : EW X (.BoolOp .Or (a :: b :: rest) pos) (bOr fb gb) :=
  ⟨PW.imp (pw_or ha.pt hb.pw) fun σ H Q ⟨ρ, F, d, e, h, k⟩ => by
    simp only [bOr, Option.bind_eq_some_iff] at h
    obtain ⟨x, h1, h2⟩ := h
    refine ⟨ρ, F, x, e, h1, fun F1 H1 x1 => ?_⟩
    cases x with
    | true =>
      cases h2
      exact k F1 H1 x1
    | false => exact ⟨ρ, F1, d, e.ext x1, h2, fun F2 H2 x2 => k F2 H2 (x1.trans x2)⟩⟩
theorem et_not (ha : ET X a fb) : ET X (.UnaryOp .Not a pos) (bNot fb) :=
  mkTs (pt_not ha.pt) fun σ H Q ρ F d e h k => by
    simp only [bNot, Option.bind_eq_some_iff, Option.some.injEq] at h
    obtain ⟨x, h1, rfl⟩ := h
    exact ⟨ρ, F, x, e, h1, fun F1 H1 x1 => k F1 H1 x1⟩
theorem truD_ok {K : PySem.W.Frag} {F H : Hp} {x : D} {v : V} {k : Bool} (s : Sub F H) (r : RpB K F H x v) (h : truD x = some k) : TruV K v H k := by
  cases x <;> simp only [truD, Option.some.injEq, reduceCtorEq] at h
  · rw [r.none']; exact h.symm
  · rw [r.bool]; exact h.symm
  · rw [r.int]; exact h.symm
  · obtain ⟨a, xs, rfl, h1, h2⟩ := r.list s
    refine .inl ⟨xs, .inl (.inl h1), ?_⟩
    rw [← h]
    cases h2 <;> rfl
  · obtain ⟨a, xs, rfl, h1, h2⟩ := r.tuple s
    refine .inr (.inl ⟨xs, .inl (.inl h1), ?_⟩)
    rw [← h]
    cases h2 <;> rfl
/-- a value's truth -/
theorem et_val (ha : EB X a f) (he : ∀ whole, isTrue a X.env whole = (do let v ← whole; standAt a.pos; holding [v] (truthy v))) : ET X a (b1 truD f) :=
  mkTs (pt_truth ha.pe he) fun σ H Q ρ F d e h k => by
    simp only [b1, Option.bind_eq_some_iff] at h
    obtain ⟨x, h1, h2⟩ := h
    exact ⟨ρ, F, x, e, h1, fun v F1 H1 x1 r1 => ⟨d, truD_ok x1.le r1 h2, k F1 H1 x1⟩⟩
/-! ### and, or, not as values of bools -/
def dAnd (f g : Den) : Den := fun ρ => (f ρ).bind fun x => match x with | .bool true => g ρ | .bool false => some (.bool false) | _ => none
def dOr (f g : Den) : Den := fun ρ => (f ρ).bind fun x => match x with | .bool true => some (.bool true) | .bool false => g ρ | _ => none
theorem ex_one {op} (h : EX X a f) : EX X (.BoolOp op [a] pos) f := ⟨pe_one h.pe⟩
theorem ex_and (ha : EX X a f) (hb : EX X (.BoolOp .And (b :: rest) pos) g) : EX X (.BoolOp .And (a :: b :: rest) pos) (dAnd f g) :=
  mkX (pe_and ha.pe hb.pe) fun σ H Q ρ F d e h k => by
    simp only [dAnd, Option.bind_eq_some_iff] at h
    obtain ⟨x, h1, h2⟩ := h
    refine ⟨ρ, F, x, e, h1, fun v F1 H1 x1 r1 => ?_⟩
    split at h2
    · cases r1
      refine ⟨true, rfl, ?_⟩
      exact ⟨ρ, F1, d, e.ext x1, h2, fun w F2 H2 x2 r2 => k w F2 H2 (x1.trans x2) r2⟩
    · cases r1
      cases h2
      exact ⟨false, rfl, k _ F1 H1 x1 (.bl _)⟩
    · cases h2
theorem ex_or (ha : EX X a f) (hb : EX X (.BoolOp .Or (b :: rest) pos) g) : EX X (.BoolOp .Or (a :: b :: rest) pos) (dOr f g) :=
  mkX (pe_or ha.pe hb.pe) fun σ H Q ρ F d e h k => by
    simp only [dOr, Option.bind_eq_some_iff] at h
    obtain ⟨x, h1, h2⟩ := h
    refine ⟨ρ, F, x, e, h1, fun v F1 H1 x1 r1 => ?_⟩
    split at h2
    · cases r1
      cases h2
      exact ⟨true, rfl, k _ F1 H1 x1 (.bl _)⟩
    · cases r1
      refine ⟨false, rfl, ?_⟩
      exact ⟨ρ, F1, d, e.ext x1, h2, fun w F2 H2 x2 r2 => k w F2 H2 (x1.trans x2) r2⟩
    · cases h2
def notD : D → Option D | .bool b => some (.bool (!b)) | _ => none
theorem ex_not (ha : EX X a f) : EX X (.UnaryOp .Not a pos) (d1 notD f) :=
  mkX (pe_not ha.pe) fun σ H Q ρ F d e h k => by
    simp only [d1, Option.bind_eq_some_iff] at h
    obtain ⟨x, h1, h2⟩ := h
    refine ⟨ρ, F, x, e, h1, fun v F1 H1 x1 r1 => ?_⟩
    cases x <;> simp only [notD, reduceCtorEq, Option.some.injEq] at h2
    subst h2
    cases r1
    exact ⟨_, rfl, k _ F1 H1 x1 (.bl _)⟩
/-! ### a if c else b -/
theorem ex_if (hc : ET X c fb) (ha : EX X a f) (hb : EX X b g) : EX X (.IfExp c a b pos) (dIf fb f g) :=
  mkX (pe_ifExp hc.pt ha.pe hb.pe) fun σ H Q ρ F d e h k => by
    simp only [dIf, Option.bind_eq_some_iff] at h
    obtain ⟨x, h1, h2⟩ := h
    refine ⟨ρ, F, x, e, h1, fun F1 H1 x1 => ?_⟩
    cases x with
    | true => exact ⟨ρ, F1, d, e.ext x1, h2, fun w F2 H2 x2 r2 => k w F2 H2 (x1.trans x2) r2⟩
    | false => exact ⟨ρ, F1, d, e.ext x1, h2, fun w F2 H2 x2 r2 => k w F2 H2 (x1.trans x2) r2⟩
end
end Zx
/-! Zx4: subscripts, slices, built-in functions, what is walked. -/
namespace Zx
open PySem PySem.Spec L2
/-! ### denotations -/
def ixD : D → D → Option D
  | .list xs, .int i => atI xs i
  | .tuple xs, .int i => atI xs i
  | .dict [(.none, .list xs)], .int i => atI xs i
  | _, _ => none
abbrev DenO := Env → Option (Option Int)
def oNone : DenO := fun _ => some none
def oSome (f : Den) : DenO := fun ρ => (f ρ).bind fun x => match x with | .int i => some (some i) | _ => none
def cutL {α : Type} (xs : List α) (lo hi : Option Int) : List α := (xs.drop (HT.sIx xs.length 0 lo)).take (HT.sIx xs.length xs.length hi - HT.sIx xs.length 0 lo)
def cutD (lo hi : Option Int) : D → Option D
  | .list xs => some (.list (cutL xs lo hi))
  | .tuple xs => some (.tuple (cutL xs lo hi))
  | _ => none
def dSl (f : Den) (l h : DenO) : Den := fun ρ => (f ρ).bind fun x => (l ρ).bind fun lo => (h ρ).bind fun hi => cutD lo hi x
def lenD : D → Option D
  | .list xs => some (.int xs.length)
  | .tuple xs => some (.int xs.length)
  | .dict [(.none, .list xs)] => some (.int xs.length)
  | _ => none
def absD : D → Option D | .int i => some (.int (if i < 0 then -i else i)) | _ => none
def minD2 : D → D → Option D | .int i, .int j => some (.int (if j < i then j else i)) | _, _ => none
def maxD2 : D → D → Option D | .int i, .int j => some (.int (if j > i then j else i)) | _, _ => none
def intD : D → Option D | .int i => some (.int i) | .bool k => some (.int (if k then 1 else 0)) | _ => none
def intsOf : List D → Option (List Int)
  | [] => some []
  | .int i :: r => (intsOf r).bind fun is => some (i :: is)
  | _ => none
def bools : List D → Option (List Bool)
  | [] => some []
  | .bool i :: r => (bools r).bind fun is => some (i :: is)
  | _ => none
def sumD : D → Option D | .list xs => (intsOf xs).bind fun is => some (.int is.sum) | _ => none
def anyD : D → Option D | .list xs => (bools xs).bind fun is => some (.bool (is.any id)) | _ => none
def allD : D → Option D | .list xs => (bools xs).bind fun is => some (.bool (is.all id)) | _ => none
def tupD : D → Option D | .list xs => some (.tuple xs) | .tuple xs => some (.tuple xs) | _ => none
def gcdD : D → D → Option D | .int a, .int b => some (.int (Nat.gcd a.natAbs b.natAbs : Nat)) | _, _ => none
def rgL (lo : Int) (n : Nat) : List D := (List.range n).map fun i => .int (lo + (i : Nat))
def rg1 : D → Option (List D) | .int j => if j.natAbs ≤ 1000000 then some (rgL 0 j.toNat) else none | _ => none
def rg2 : D → D → Option (List D) | .int i, .int j => if j.natAbs ≤ 1000000 ∧ i.natAbs ≤ 1000000 then some (rgL i (j - i).toNat) else none | _, _ => none
abbrev DenI := Env → Option (List D)
def iSeq (f : Den) : DenI := fun ρ => (f ρ).bind seqOf
def iR1 (f : Den) : DenI := fun ρ => (f ρ).bind rg1
def iR2 (f g : Den) : DenI := fun ρ => (f ρ).bind fun x => (g ρ).bind fun y => rg2 x y
def enumL (xs : List D) : List D := (List.range xs.length).zipWith (fun i x => .tuple [.int (i : Nat), x]) xs
def zipL (xs ys : List D) : List D := xs.zipWith (fun x y => .tuple [x, y]) ys
def iEn (f : Den) : DenI := fun ρ => (f ρ).bind fun x => match x with | .list xs => some (enumL xs) | _ => none
def iZp (f g : Den) : DenI := fun ρ => (f ρ).bind fun x => (g ρ).bind fun y => match x, y with | .list xs, .list ys => some (zipL xs ys) | _, _ => none

theorem RpK.nn {K : PySem.W.Frag} {F : Hp} {l : List (D × D)} {kvs : List (Key × V)} (h : RpK K F l kvs) {d : D} {r : List (D × D)} (e : l = (.none, d) :: r) : False := by
  cases h with
  | nil => cases e
  | @cons k _ _ _ _ _ _ =>
    injection e with e1 _
    injection e1 with e2 _
    cases k <;> cases e2
theorem RpB.scr {K : PySem.W.Frag} {F H : Hp} {xs : List D} {v : V} (s : Sub F H) (h : RpB K F H (.dict [(.none, .list xs)]) v) : ∃ (a : Addr) (ns : List Int), v = .ref a ∧ xs = ns.map .int ∧ SqL K H a (ns.map V.int) := by
  rcases h with h | ⟨_, o, _, _, _, h⟩
  · generalize hz : PyData.dict [(.none, .list xs)] = z at h
    cases h with
    | non => cases hz
    | bl => cases hz
    | int => cases hz
    | str => cases hz
    | lst => cases hz
    | tup => cases hz
    | dK h1 h2 =>
      injection hz with hz
      exact (h2.nn hz.symm).elim
    | dT h1 h2 =>
      injection hz with hz
      injection hz with hz _
      injection hz with hz _
      cases hz
    | @scr a ns h =>
      unfold scrD at hz
      injection hz with hz
      injection hz with hz _
      injection hz with _ hz
      injection hz with hz
      subst hz
      refine ⟨a, ns, rfl, rfl, ?_⟩
      rcases h with h | h
      · exact .inl (s.rd h)
      · exact .inr h
  · generalize hz : PyData.dict [(.none, .list xs)] = z at h
    cases h with
    | lst => cases hz
    | dK h2 =>
      injection hz with hz
      exact (h2.nn hz.symm).elim
    | dT h2 =>
      injection hz with hz
      injection hz with hz _
      injection hz with hz _
      cases hz
theorem ixN_len {α β : Type} {xs : List α} {ys : List β} (h : xs.length = ys.length) (i : Int) : ixN xs.length i = ixN ys.length i := by rw [h]
section
variable {X : Cx} {a b c : Expr} {f g : Den} {fl : DenL} {pos : Pos} {K : PySem.W.Frag} {F H : Hp}
theorem RpL.atI {ds : List D} {vs : List V} {i : Int} {d : D} (r : RpL K F ds vs) (h : L2.atI ds i = some d) : ∃ v, L2.atI vs i = some v ∧ Rp K F d v := by
  unfold L2.atI at h ⊢
  rw [Option.bind_eq_some_iff] at h
  obtain ⟨j, h1, h2⟩ := h
  obtain ⟨v, h3, h4⟩ := r.get h2
  exact ⟨v, by rw [ixN_len r.length, h1]; exact h3, h4⟩
theorem ex_ix (ha : EB X a f) (hb : EB X b g) (hs : PlainIx b) : EX X (.Subscript a b pos) (d2 ixD f g) := by
  refine ex_op2 (ta := tC .non) (tb := tC .non) (pe_ix (ix_list.or ix_tup) ha.pe hb.pe hs) fun x y u v d F H Q e s ru rv k => ?_
  unfold ixD at e
  split at e
  · obtain ⟨p, xs, rfl, hp, rp⟩ := ru.list s
    obtain ⟨w, h1, h2⟩ := rp.atI e
    exact .inl ⟨p, xs, _, w, rfl, rv.int, .inl (.inl hp), h1, k w F H (.refl s) h2⟩
  · obtain ⟨p, xs, rfl, hp, rp⟩ := ru.tuple s
    obtain ⟨w, h1, h2⟩ := rp.atI e
    exact .inr ⟨p, xs, _, w, rfl, rv.int, .inl (.inl hp), h1, k w F H (.refl s) h2⟩
  · obtain ⟨p, ns, rfl, rfl, hp⟩ := ru.scr s
    obtain ⟨w, h1, h2⟩ := (RpL.ints (K := X.K) (F := F) ns).atI e
    exact .inl ⟨p, _, _, w, rfl, rv.int, hp, h1, k w F H (.refl s) h2⟩
  · cases e
/-! ### slices -/
def tO (K : PySem.W.Frag) (f : DenO) : TO := fun σ H Q => ∃ ρ F o, EnvOk K ρ σ F H ∧ f ρ = some o ∧ ∀ F' H', Ext F H F' H' → Q o H'
structure EO (X : Cx) (e : Option Expr) (f : DenO) : Prop where
  po : PO X e (tO X.K f)
theorem PO.imp {e : Option Expr} {t t' : TO} (h : PO X e t) (i : ∀ σ H Q, t' σ H Q → t σ H Q) : PO X e t' := ⟨fun pins s σ H Q I hw => h.run pins s σ H Q I (i σ H Q hw)⟩
theorem eo_none : EO X none oNone := ⟨PO.imp po_none fun σ H Q ⟨ρ, F, o, e, h, k⟩ => by
  cases h
  exact k F H (.refl e.sub)⟩
theorem eo_some (ha : EB X a f) : EO X (some a) (oSome f) := ⟨PO.imp (po_some ha.pe) fun σ H Q ⟨ρ, F, o, e, h, k⟩ => by
  simp only [oSome, Option.bind_eq_some_iff] at h
  obtain ⟨x, h1, h2⟩ := h
  refine ⟨ρ, F, x, e, h1, fun v F1 H1 x1 r1 => ?_⟩
  cases x <;> simp only [reduceCtorEq, Option.some.injEq] at h2
  subst h2
  exact ⟨_, r1.int, k F1 H1 x1⟩⟩
theorem cut_rp {ds : List D} {vs : List V} (r : RpL K F ds vs) (lo hi : Option Int) : RpL K F (cutL ds lo hi) (cutV vs lo hi) := by
  unfold cutL cutV
  rw [r.length]
  exact (r.drop _).take _
theorem sl_t {lo hi : Option Expr} {fl fh : DenO} {p2 : Pos} {r} {σ : L2.St} {H : Hp} {Q : VK} {ρ : Env} {F : Hp} {d : D} (e : EnvOk X.K ρ σ F H) (h : dSl f fl fh ρ = some d)
    (k : ∀ x lo hi v F' H', Ext F H F' H' → RpB X.K F' H' x v → cutD lo hi x = some d → r v lo hi H' Q) : tSl r (tB' X.K f) (tO X.K fl) (tO X.K fh) σ H Q := by
  simp only [dSl, Option.bind_eq_some_iff] at h
  obtain ⟨x, h1, lo, h2, hi, h3, h4⟩ := h
  exact ⟨ρ, F, x, e, h1, fun v F1 H1 x1 r1 => ⟨ρ, F1, lo, e.ext x1, h2, fun F2 H2 x2 => ⟨ρ, F2, hi, (e.ext x1).ext x2, h3, fun F3 H3 x3 => k x lo hi v F3 H3 ((x1.trans x2).trans x3) ((r1.ext x2).ext x3) h4⟩⟩⟩
theorem ex_sl {lo hi : Option Expr} {fl fh : DenO} {p2 : Pos} (ha : EB X a f) (hl : EO X lo fl) (hh : EO X hi fh) : EX X (.Subscript a (.Slice lo hi none p2) pos) (dSl f fl fh) :=
  mkX (pe_slice (sl_list.or sl_tupA) ha.pe hl.po hh.po) fun σ H Q ρ F d e h k => sl_t (p2 := p2) (lo := lo) (hi := hi) e h fun x lo hi v F' H' x' r' hd => by
    unfold cutD at hd
    split at hd
    · cases hd
      obtain ⟨p, xs, rfl, hp, rp⟩ := r'.list x'.le
      exact .inl ⟨p, xs, rfl, .inl (.inl hp), fun q hq => k _ _ _ (x'.trans (.add x'.le hq)) (.lst upd_same ((cut_rp rp lo hi).mono (Sub.new (x'.le.free hq))))⟩
    · cases hd
      obtain ⟨p, xs, rfl, hp, rp⟩ := r'.tuple x'.le
      refine .inr ⟨p, xs, rfl, .inl (.inl hp), fun hw => ?_, fun hw q hq => ?_⟩
      · refine k _ F' H' x' ?_
        rename_i ds
        have e1 : cutL ds lo hi = ds := by
          unfold cutL
          rw [← rp.length, hw.1, hw.2, List.drop_zero, Nat.sub_zero, rp.length, List.take_length]
        rw [e1]
        exact r'.elim id fun ⟨_, _, _, _, _, z⟩ => nomatch z
      · exact k _ _ _ (x'.trans (.add x'.le hq)) (.tup upd_same ((cut_rp rp lo hi).mono (Sub.new (x'.le.free hq))))
    · cases hd
/-- a slice of a list, the new list one's own -/
theorem en_sl {lo hi : Option Expr} {fl fh : DenO} {p2 : Pos} (ha : EB X a (fun ρ => (f ρ).bind fun x => match x with | .list xs => some (.list xs) | _ => none)) (hl : EO X lo fl) (hh : EO X hi fh) : EN X (.Subscript a (.Slice lo hi none p2) pos) (dSl (fun ρ => (f ρ).bind fun x => match x with | .list xs => some (.list xs) | _ => none) fl fh) :=
  mkN (pe_slice sl_list ha.pe hl.po hh.po) fun σ H Q ρ F d e h k => by
    have hx : ∃ xs, (f ρ) = some (.list xs) := by
      simp only [dSl, Option.bind_eq_some_iff] at h
      obtain ⟨x, ⟨y, h1, h2⟩, _⟩ := h
      cases y <;> simp only [reduceCtorEq] at h2
      exact ⟨_, h1⟩
    obtain ⟨ys, hys⟩ := hx
    simp only [dSl, Option.bind_eq_some_iff] at h
    obtain ⟨x, ⟨y, h1, h1'⟩, lo, h2, hi, h3, h4⟩ := h
    rw [hys] at h1
    cases h1
    simp only [Option.some.injEq] at h1'
    subst h1'
    simp only [cutD, Option.some.injEq] at h4
    subst h4
    refine ⟨ρ, F, .list ys, e, by show (f ρ).bind _ = _; rw [hys]; rfl, fun v F1 H1 x1 r1 => ⟨ρ, F1, lo, e.ext x1, h2, fun F2 H2 x2 => ⟨ρ, F2, hi, (e.ext x1).ext x2, h3, fun F3 H3 x3 => ?_⟩⟩⟩
    obtain ⟨p, xs, rfl, hp, rp⟩ := ((r1.ext x2).ext x3).list x3.le
    have x' := (x1.trans x2).trans x3
    exact ⟨p, xs, rfl, .inl (.inl hp), fun q hq => k q _ F3 _ (x'.trans (.own x'.le hq)) (x'.le.free hq) (x'.h.free hq) upd_same (.lst (cut_rp rp lo hi))⟩

/-! ### built-in functions of one or two values -/
theorem ex_c1 {op : D → Option D} {e : Expr} {r : List V → Hp → VK → Prop} (h : PE X e (tCB r (tCons (tB' X.K f) tNil)))
    (hr : ∀ x u d F H Q, op x = some d → Sub F H → RpB X.K F H x u → (∀ w F' H', Ext F H F' H' → Rp X.K F' d w → Q w H') → r [u] H Q) : EX X e (d1 op f) :=
  mkX h fun σ H Q ρ F d e h k => by
    simp only [d1, Option.bind_eq_some_iff] at h
    obtain ⟨x, h1, h2⟩ := h
    exact ⟨ρ, F, x, e, h1, fun u F1 H1 x1 r1 => hr x u d F1 H1 Q h2 x1.le r1 fun w F' H' x2 rw => k w F' H' (x1.trans x2) rw⟩
theorem en_c1 {op : D → Option D} {e : Expr} {r : List V → Hp → VK → Prop} (h : PE X e (tCB r (tCons (tB' X.K f) tNil)))
    (hr : ∀ x u d F H Q, op x = some d → Sub F H → RpB X.K F H x u → (∀ p o, H p = none → OwnRep X.K F d o → Q (.ref p) (upd H p o)) → r [u] H Q) : EN X e (d1 op f) :=
  mkN h fun σ H Q ρ F d e h k => by
    simp only [d1, Option.bind_eq_some_iff] at h
    obtain ⟨x, h1, h2⟩ := h
    exact ⟨ρ, F, x, e, h1, fun u F1 H1 x1 r1 => hr x u d F1 H1 Q h2 x1.le r1 fun p o hp ho => k p o F1 _ (x1.trans (.own x1.le hp)) (x1.le.free hp) (x1.h.free hp) upd_same ho⟩
theorem ex_c2 {op : D → D → Option D} {e : Expr} {r : List V → Hp → VK → Prop} (h : PE X e (tCB r (tCons (tB' X.K f) (tCons (tB' X.K g) tNil))))
    (hr : ∀ x y u v d F H Q, op x y = some d → Sub F H → RpB X.K F H x u → RpB X.K F H y v → (∀ w F' H', Ext F H F' H' → Rp X.K F' d w → Q w H') → r [u, v] H Q) : EX X e (d2 op f g) :=
  mkX h fun σ H Q ρ F d e h k => by
    simp only [d2, Option.bind_eq_some_iff] at h
    obtain ⟨x, h1, y, h2, h3⟩ := h
    exact ⟨ρ, F, x, e, h1, fun u F1 H1 x1 r1 => ⟨ρ, F1, y, e.ext x1, h2, fun v F2 H2 x2 r2 => hr x y u v d F2 H2 Q h3 x2.le (r1.ext x2) r2 fun w F' H' x3 rw => k w F' H' ((x1.trans x2).trans x3) rw⟩⟩
variable {p : Pos}
abbrev N1 (X : Cx) (a : Expr) : Prop := starEach [a] X.env = (false, eval a X.env) :: starEach [] X.env
abbrev N2 (X : Cx) (a b : Expr) : Prop := starEach [a, b] X.env = (false, eval a X.env) :: starEach [b] X.env
theorem ex_len (hg : Gl X "len") (hm : X.mg "len" = none) (ha : EB X a f) (hs : N1 X a) : EX X (.Call (.Name "len" p) [a] [] pos) (d1 lenD f) :=
  ex_c1 (pe_callB call_len hg hm boot_len (pa_cons ha.pe pa_nil hs) (by decide) (by decide) hs rfl) fun x u d F H Q e s ru k => by
    unfold lenD at e
    split at e
    · cases e
      obtain ⟨q, xs, rfl, hq, rq⟩ := ru.list s
      rw [← rq.length] at k
      exact ⟨_, _, rfl, .inl ⟨xs, .inl (.inl hq), rfl⟩, k _ F H (.refl s) (.int _)⟩
    · cases e
      obtain ⟨q, xs, rfl, hq, rq⟩ := ru.tuple s
      rw [← rq.length] at k
      exact ⟨_, _, rfl, .inr ⟨xs, .inl (.inl hq), rfl⟩, k _ F H (.refl s) (.int _)⟩
    · cases e
      obtain ⟨q, ns, rfl, rfl, hq⟩ := ru.scr s
      rw [List.length_map] at k
      refine ⟨_, (ns.map V.int).length, rfl, .inl ⟨ns.map V.int, hq, rfl⟩, ?_⟩
      rw [List.length_map]
      exact k _ F H (.refl s) (.int _)
    · cases e
theorem ex_abs (hg : Gl X "abs") (hm : X.mg "abs" = none) (ha : EB X a f) (hs : N1 X a) : EX X (.Call (.Name "abs" p) [a] [] pos) (d1 absD f) :=
  ex_c1 (pe_callB call_abs hg hm rfl (pa_cons ha.pe pa_nil hs) (by decide) (by decide) hs rfl) fun x u d F H Q e s ru k => by
    cases x <;> simp only [absD, reduceCtorEq, Option.some.injEq] at e
    subst e
    exact ⟨_, congrArg (fun z => [z]) ru.int, k _ F H (.refl s) (.int _)⟩
theorem ex_int1 (hg : Gl X "int") (hm : X.mg "int" = none) (ha : EB X a f) (hs : N1 X a) : EX X (.Call (.Name "int" p) [a] [] pos) (d1 intD f) :=
  ex_c1 (pe_callTy call_int1 hg hm rfl (pa_cons ha.pe pa_nil hs) (by decide) (by decide) hs rfl) fun x u d F H Q e s ru k => by
    cases x <;> simp only [intD, reduceCtorEq, Option.some.injEq] at e
    · subst e
      exact .inr ⟨_, congrArg (fun z => [z]) ru.bool, k _ F H (.refl s) (.int _)⟩
    · subst e
      exact .inl ⟨_, congrArg (fun z => [z]) ru.int, k _ F H (.refl s) (.int _)⟩
theorem ex_min2 (hc : X.calm = true) (hg : Gl X "min") (hm : X.mg "min" = none) (ha : EB X a f) (hb : EB X b g) (hs : N2 X a b) (hs1 : N1 X b) : EX X (.Call (.Name "min" p) [a, b] [] pos) (d2 minD2 f g) :=
  ex_c2 (pe_callB (call_min2 hc) hg hm rfl (pa_cons ha.pe (pa_cons hb.pe pa_nil hs1) hs) (by decide) (by decide) hs (by rw [hs1]; rfl)) fun x y u v d F H Q e s ru rv k => by
    cases x <;> cases y <;> simp only [minD2, reduceCtorEq, Option.some.injEq] at e
    subst e
    exact ⟨_, _, by rw [ru.int, rv.int], k _ F H (.refl s) (.int _)⟩
theorem ex_max2 (hc : X.calm = true) (hg : Gl X "max") (hm : X.mg "max" = none) (ha : EB X a f) (hb : EB X b g) (hs : N2 X a b) (hs1 : N1 X b) : EX X (.Call (.Name "max" p) [a, b] [] pos) (d2 maxD2 f g) :=
  ex_c2 (pe_callB (call_max2 hc) hg hm rfl (pa_cons ha.pe (pa_cons hb.pe pa_nil hs1) hs) (by decide) (by decide) hs (by rw [hs1]; rfl)) fun x y u v d F H Q e s ru rv k => by
    cases x <;> cases y <;> simp only [maxD2, reduceCtorEq, Option.some.injEq] at e
    subst e
    exact ⟨_, _, by rw [ru.int, rv.int], k _ F H (.refl s) (.int _)⟩
theorem intsOf_eq : ∀ {xs : List D} {is : List Int}, intsOf xs = some is → xs = is.map .int
  | [], is, h => by cases h; rfl
  | .int i :: r, is, h => by
    simp only [intsOf, Option.bind_eq_some_iff, Option.some.injEq] at h
    obtain ⟨js, h1, rfl⟩ := h
    rw [intsOf_eq h1, List.map_cons]
  | .none :: r, is, h => by simp [intsOf] at h
  | .bool _ :: r, is, h => by simp [intsOf] at h
  | .str _ :: r, is, h => by simp [intsOf] at h
  | .list _ :: r, is, h => by simp [intsOf] at h
  | .tuple _ :: r, is, h => by simp [intsOf] at h
  | .dict _ :: r, is, h => by simp [intsOf] at h
theorem bools_eq : ∀ {xs : List D} {is : List Bool}, bools xs = some is → xs = is.map .bool
  | [], is, h => by cases h; rfl
  | .bool i :: r, is, h => by
    simp only [bools, Option.bind_eq_some_iff, Option.some.injEq] at h
    obtain ⟨js, h1, rfl⟩ := h
    rw [bools_eq h1, List.map_cons]
  | .none :: r, is, h => by simp [bools] at h
  | .int _ :: r, is, h => by simp [bools] at h
  | .str _ :: r, is, h => by simp [bools] at h
  | .list _ :: r, is, h => by simp [bools] at h
  | .tuple _ :: r, is, h => by simp [bools] at h
  | .dict _ :: r, is, h => by simp [bools] at h
theorem RpL.bls : ∀ {bs : List Bool} {vs : List V}, RpL K F (bs.map .bool) vs → vs = bs.map V.bl
  | [], _, .nil => rfl
  | n :: ns, _, .cons h t => by
    cases h
    rw [RpL.bls t, List.map_cons]
theorem ex_sum (hc : X.calm = true) (hg : Gl X "sum") (hm : X.mg "sum" = none) (ha : EB X a f) (hs : N1 X a) : EX X (.Call (.Name "sum" p) [a] [] pos) (d1 sumD f) :=
  ex_c1 (pe_callB (cr_sum hc) hg hm rfl (pa_cons ha.pe pa_nil hs) (by decide) (by decide) hs rfl) fun x u d F H Q e s ru k => by
    cases x <;> simp only [sumD, reduceCtorEq, Option.bind_eq_some_iff, Option.some.injEq] at e
    obtain ⟨is, h1, rfl⟩ := e
    have h2 := intsOf_eq h1
    subst h2
    obtain ⟨q, xs, rfl, hq, rq⟩ := ru.list s
    rw [rq.ints_inv] at hq
    exact ⟨q, is, rfl, .inl (.inl hq), k _ F H (.refl s) (.int _)⟩
theorem ex_any (hc : X.calm = true) (hg : Gl X "any") (hm : X.mg "any" = none) (ha : EB X a f) (hs : N1 X a) : EX X (.Call (.Name "any" p) [a] [] pos) (d1 anyD f) :=
  ex_c1 (pe_callB (cr_any hc) hg hm rfl (pa_cons ha.pe pa_nil hs) (by decide) (by decide) hs rfl) fun x u d F H Q e s ru k => by
    cases x <;> simp only [anyD, reduceCtorEq, Option.bind_eq_some_iff, Option.some.injEq] at e
    obtain ⟨is, h1, rfl⟩ := e
    have h2 := bools_eq h1
    subst h2
    obtain ⟨q, xs, rfl, hq, rq⟩ := ru.list s
    rw [rq.bls] at hq
    exact ⟨q, is, rfl, .inl (.inl hq), k _ F H (.refl s) (.bl _)⟩
theorem ex_all (hc : X.calm = true) (hg : Gl X "all") (hm : X.mg "all" = none) (ha : EB X a f) (hs : N1 X a) : EX X (.Call (.Name "all" p) [a] [] pos) (d1 allD f) :=
  ex_c1 (pe_callB (cr_all hc) hg hm rfl (pa_cons ha.pe pa_nil hs) (by decide) (by decide) hs rfl) fun x u d F H Q e s ru k => by
    cases x <;> simp only [allD, reduceCtorEq, Option.bind_eq_some_iff, Option.some.injEq] at e
    obtain ⟨is, h1, rfl⟩ := e
    have h2 := bools_eq h1
    subst h2
    obtain ⟨q, xs, rfl, hq, rq⟩ := ru.list s
    rw [rq.bls] at hq
    exact ⟨q, is, rfl, .inl (.inl hq), k _ F H (.refl s) (.bl _)⟩
theorem ex_gcd (hg : Gl X "gcd") (hm : X.mg "gcd" = some (.builtin "math.gcd")) (ha : EB X a f) (hb : EB X b g) (hs : N2 X a b) (hs1 : N1 X b) : EX X (.Call (.Name "gcd" p) [a, b] [] pos) (d2 gcdD f g) :=
  ex_c2 (pe_callBfun cr_gcd hg hm (pa_cons ha.pe (pa_cons hb.pe pa_nil hs1) hs) (by decide) hs (by rw [hs1]; rfl)) fun x y u v d F H Q e s ru rv k => by
    cases x <;> cases y <;> simp only [gcdD, reduceCtorEq, Option.some.injEq] at e
    subst e
    exact ⟨_, _, by rw [ru.int, rv.int], k _ F H (.refl s) (.int _)⟩
theorem ex_tuple (hg : Gl X "tuple") (hm : X.mg "tuple" = none) (ha : EB X a f) (hs : N1 X a) : EX X (.Call (.Name "tuple" p) [a] [] pos) (d1 tupD f) :=
  mkX (pe_tupleOf hg hm ha.pe hs) fun σ H Q ρ F d e h k => by
    simp only [d1, Option.bind_eq_some_iff] at h
    obtain ⟨x, h1, h2⟩ := h
    refine ⟨ρ, F, x, e, h1, fun u F1 H1 x1 r1 => ?_⟩
    unfold tupD at h2
    split at h2
    · cases h2
      obtain ⟨q, xs, rfl, hq, rq⟩ := r1.list x1.le
      exact .inl ⟨q, xs, rfl, .inl (.inl hq), fun t ht => k _ _ _ (x1.trans (.add x1.le ht)) (.tup upd_same (rq.mono (Sub.new (x1.le.free ht))))⟩
    · cases h2
      obtain ⟨q, xs, rfl, hq, rq⟩ := r1.tuple x1.le
      exact .inr ⟨q, xs, rfl, .inl (.inl hq), k _ F1 H1 x1 (r1.elim id fun ⟨_, _, _, _, _, z⟩ => nomatch z)⟩
    · cases h2

/-! ### what is walked -/
def Walks (K : PySem.W.Frag) (J : It) (F0 : Hp) (ds : List D) : Prop := ∀ (i : Nat) F H, Sub F0 F → Sub F H →
  (∀ d, ds[i]? = some d → J.go i H ∧ ∀ x H', J.yld i H x H' → ∃ F', Ext F H F' H' ∧ Rp K F' d x) ∧ (ds.length ≤ i → J.stop i H)
def tI (K : PySem.W.Frag) (f : DenI) : TI := fun σ H R => ∃ ρ F ds, EnvOk K ρ σ F H ∧ f ρ = some ds ∧ ∀ J F' H', Ext F H F' H' → Walks K J F' ds → R J H'
structure EI (X : Cx) (tg e : Expr) (f : DenI) : Prop where
  pi : PI X tg e (tI X.K f)
variable {tg : Expr} {fi : DenI}
theorem mkI {e : Expr} {t : TI} (h : PI X tg e t) (i : ∀ σ H R ρ F d, EnvOk X.K ρ σ F H → fi ρ = some d → (∀ J F' H', Ext F H F' H' → Walks X.K J F' d → R J H') → t σ H R) : EI X tg e fi :=
  ⟨PI.imp h fun σ H Q ⟨ρ, F, d, e1, e2, k⟩ => i σ H Q ρ F d e1 e2 k⟩
theorem walks_list {q : Addr} {xs : List V} {ds : List D} (h : F q = some (.lst xs)) (r : RpL K F ds xs) : Walks K (Itl K q) F ds := fun i F1 H1 s1 s2 => by
  have hq : SqL K H1 q xs := .inl (.inl (s2 _ _ (s1 _ _ h)))
  refine ⟨fun d hd => ?_, fun hi => ⟨xs, hq, by rw [r.length]; exact hi⟩⟩
  obtain ⟨v, hv, rv⟩ := r.get hd
  refine ⟨⟨xs, v, hq, hv⟩, fun x H' hy => ?_⟩
  obtain ⟨e, hy⟩ := hy
  subst e
  have := hy xs hq
  rw [hv] at this
  cases this
  exact ⟨F1, .refl s2, rv.mono s1⟩
theorem walks_tup {q : Addr} {xs : List V} {ds : List D} (h : F q = some (.tup xs)) (r : RpL K F ds xs) : Walks K (Itt K q) F ds := fun i F1 H1 s1 s2 => by
  have hq : SqT K H1 q xs := .inl (.inl (s2 _ _ (s1 _ _ h)))
  refine ⟨fun d hd => ?_, fun hi => ⟨xs, hq, by rw [r.length]; exact hi⟩⟩
  obtain ⟨v, hv, rv⟩ := r.get hd
  refine ⟨⟨xs, v, hq, hv⟩, fun x H' hy => ?_⟩
  obtain ⟨e, hy⟩ := hy
  subst e
  have := hy xs hq
  rw [hv] at this
  cases this
  exact ⟨F1, .refl s2, rv.mono s1⟩
theorem rgL_get {lo : Int} {n i : Nat} {d : D} (h : (rgL lo n)[i]? = some d) : i < n ∧ d = .int (lo + (i : Nat)) := by
  unfold rgL at h
  rw [List.getElem?_map, Option.map_eq_some_iff] at h
  obtain ⟨j, h1, rfl⟩ := h
  rw [List.getElem?_eq_some_iff] at h1
  obtain ⟨h2, h3⟩ := h1
  rw [List.getElem_range] at h3
  subst h3
  exact ⟨by simpa using h2, rfl⟩
theorem rgL_length (lo : Int) (n : Nat) : (rgL lo n).length = n := by unfold rgL; rw [List.length_map, List.length_range]
theorem walks_range (lo : Int) (n : Nat) : Walks K (Itr lo n) F (rgL lo n) := fun i F1 H1 s1 s2 => by
  refine ⟨fun d hd => ?_, fun hi => by rw [rgL_length] at hi; exact hi⟩
  obtain ⟨h1, rfl⟩ := rgL_get hd
  refine ⟨h1, fun x H' hy => ?_⟩
  obtain ⟨e, rfl⟩ := hy
  subst e
  exact ⟨F1, .refl s2, .int _⟩
/-- over a list -/
theorem ei_list (ha : EX X a f) : EI X tg a (fun ρ => (f ρ).bind fun x => match x with | .list xs => some xs | _ => none) :=
  mkI (pi_list ha.pe) fun σ H R ρ F d e h k => by
    simp only [Option.bind_eq_some_iff] at h
    obtain ⟨x, h1, h2⟩ := h
    refine ⟨ρ, F, x, e, h1, fun u F1 H1 x1 r1 => ?_⟩
    cases x <;> simp only [reduceCtorEq, Option.some.injEq] at h2
    subst h2
    cases r1 with
    | lst hq rq => exact ⟨_, rfl, ⟨_, .inl (.inl (x1.le _ _ hq))⟩, k _ F1 H1 x1 (walks_list hq rq)⟩
/-- over a tuple -/
theorem ei_tup (ha : EX X a f) : EI X tg a (fun ρ => (f ρ).bind fun x => match x with | .tuple xs => some xs | _ => none) :=
  mkI (pi_tup ha.pe) fun σ H R ρ F d e h k => by
    simp only [Option.bind_eq_some_iff] at h
    obtain ⟨x, h1, h2⟩ := h
    refine ⟨ρ, F, x, e, h1, fun u F1 H1 x1 r1 => ?_⟩
    cases x <;> simp only [reduceCtorEq, Option.some.injEq] at h2
    subst h2
    cases r1 with
    | tup hq rq => exact ⟨_, rfl, ⟨_, .inl (.inl (x1.le _ _ hq))⟩, k _ F1 H1 x1 (walks_tup hq rq)⟩
theorem ei_r1 (hg : Gl X "range") (hm : X.mg "range" = none) (ha : EX X a f) (hs : N1 X a) : EI X tg (.Call (.Name "range" p) [a] [] pos) (iR1 f) :=
  mkI (pi_range1 hg hm (pa_cons ha.pe pa_nil hs) (by rw [hs]; rfl)) fun σ H R ρ F d e h k => by
    simp only [iR1, Option.bind_eq_some_iff] at h
    obtain ⟨x, h1, h2⟩ := h
    refine ⟨ρ, F, x, e, h1, fun u F1 H1 x1 r1 => ?_⟩
    cases x <;> simp only [rg1, reduceCtorEq] at h2
    split at h2
    · rename_i hz
      cases h2
      cases r1
      exact ⟨_, rfl, by omega, by omega, k _ F1 H1 x1 (walks_range 0 _)⟩
    · cases h2
theorem ei_r2 (hg : Gl X "range") (hm : X.mg "range" = none) (ha : EX X a f) (hb : EX X b g) (hs : N2 X a b) (hs1 : N1 X b) : EI X tg (.Call (.Name "range" p) [a, b] [] pos) (iR2 f g) :=
  mkI (pi_range2 hg hm (pa_cons ha.pe (pa_cons hb.pe pa_nil hs1) hs) (by rw [hs, hs1]; rfl) (by rw [hs1]; rfl)) fun σ H R ρ F d e h k => by
    simp only [iR2, Option.bind_eq_some_iff] at h
    obtain ⟨x, h1, y, h2, h3⟩ := h
    refine ⟨ρ, F, x, e, h1, fun u F1 H1 x1 r1 => ⟨ρ, F1, y, e.ext x1, h2, fun v F2 H2 x2 r2 => ?_⟩⟩
    cases x <;> cases y <;> simp only [rg2, reduceCtorEq] at h3
    split at h3
    · rename_i hz
      cases h3
      cases r1
      cases r2
      exact ⟨_, _, rfl, ⟨by omega, by omega, by omega, by omega⟩, k _ F2 H2 (x1.trans x2) (walks_range _ _)⟩
    · cases h3
theorem enumL_get {xs : List D} {i : Nat} {d : D} (h : (enumL xs)[i]? = some d) : ∃ x, xs[i]? = some x ∧ d = .tuple [.int (i : Nat), x] := by
  unfold enumL at h
  rw [List.getElem?_zipWith] at h
  split at h
  · rename_i j x h1 h2
    cases h
    rw [List.getElem?_eq_some_iff] at h1
    obtain ⟨_, h3⟩ := h1
    rw [List.getElem_range] at h3
    subst h3
    exact ⟨x, h2, rfl⟩
  · cases h
theorem enumL_length (xs : List D) : (enumL xs).length = xs.length := by
  unfold enumL
  rw [List.length_zipWith, List.length_range, Nat.min_self]
theorem zipL_get {xs ys : List D} {i : Nat} {d : D} (h : (zipL xs ys)[i]? = some d) : ∃ x y, xs[i]? = some x ∧ ys[i]? = some y ∧ d = .tuple [x, y] := by
  unfold zipL at h
  rw [List.getElem?_zipWith] at h
  split at h
  · rename_i x y h1 h2
    cases h
    exact ⟨x, y, h1, h2, rfl⟩
  · cases h
theorem zipL_length (xs ys : List D) : (zipL xs ys).length = min xs.length ys.length := by
  unfold zipL
  rw [List.length_zipWith]
theorem walks_enum {q : Addr} {xs : List V} {ds : List D} (h : F q = some (.lst xs)) (r : RpL K F ds xs) : Walks K (Ite K q) F (enumL ds) := fun i F1 H1 s1 s2 => by
  have hq : SqL K H1 q xs := .inl (.inl (s2 _ _ (s1 _ _ h)))
  refine ⟨fun d hd => ?_, fun hi => ⟨xs, hq, by rw [r.length]; rw [enumL_length] at hi; exact hi⟩⟩
  obtain ⟨x, hx, rfl⟩ := enumL_get hd
  obtain ⟨v, hv, rv⟩ := r.get hx
  refine ⟨⟨xs, v, hq, hv⟩, fun y H' hy => ?_⟩
  obtain ⟨T, z, rfl, hT, rfl, hz⟩ := hy
  have := hz xs hq
  rw [hv] at this
  cases this
  exact ⟨_, .add s2 hT, .tup upd_same (.cons (.int _) (.cons (rv.mono (s1.trans (Sub.new (s2.free hT)))) .nil))⟩
theorem walks_zip {q q' : Addr} {xs ys : List V} {ds es : List D} (h : F q = some (.lst xs)) (r : RpL K F ds xs) (h' : F q' = some (.lst ys)) (r' : RpL K F es ys) : Walks K (Itz K q q') F (zipL ds es) := fun i F1 H1 s1 s2 => by
  have hq : SqL K H1 q xs := .inl (.inl (s2 _ _ (s1 _ _ h)))
  have hq' : SqL K H1 q' ys := .inl (.inl (s2 _ _ (s1 _ _ h')))
  refine ⟨fun d hd => ?_, fun hi => ⟨xs, ys, hq, hq', by rw [r.length, r'.length]; rw [zipL_length] at hi; omega⟩⟩
  obtain ⟨x, y, hx, hy, rfl⟩ := zipL_get hd
  obtain ⟨v, hv, rv⟩ := r.get hx
  obtain ⟨w, hw, rw'⟩ := r'.get hy
  refine ⟨⟨xs, ys, v, w, hq, hq', hv, hw⟩, fun y H' hy => ?_⟩
  obtain ⟨T, z1, z2, rfl, hT, rfl, hz1, hz2⟩ := hy
  have e1 := hz1 xs hq
  rw [hv] at e1
  cases e1
  have e2 := hz2 ys hq'
  rw [hw] at e2
  cases e2
  have s3 := s1.trans (Sub.new (H := F1) (o := .tup [v, w]) (s2.free hT))
  exact ⟨_, .add s2 hT, .tup upd_same (.cons (rv.mono s3) (.cons (rw'.mono s3) .nil))⟩
variable {elts : List Expr} {kk : Nat} {tpos : Pos}
theorem ei_enum (hg : Gl X "enumerate") (hm : X.mg "enumerate" = none) (ha : EX X a f) (hs : N1 X a) : EI X (.Tuple elts kk tpos) (.Call (.Name "enumerate" p) [a] [] pos) (iEn f) :=
  mkI (pi_enum hg hm (pa_cons ha.pe pa_nil hs) (by rw [hs]; rfl)) fun σ H R ρ F d e h k => by
    simp only [iEn, Option.bind_eq_some_iff] at h
    obtain ⟨x, h1, h2⟩ := h
    refine ⟨ρ, F, x, e, h1, fun u F1 H1 x1 r1 => ?_⟩
    cases x <;> simp only [reduceCtorEq, Option.some.injEq] at h2
    subst h2
    cases r1 with
    | lst hq rq => exact ⟨_, _, rfl, .inl (.inl (x1.le _ _ hq)), k _ F1 H1 x1 (walks_enum hq rq)⟩
theorem ei_zip (hg : Gl X "zip") (hm : X.mg "zip" = none) (ha : EX X a f) (hb : EX X b g) (hs : N2 X a b) (hs1 : N1 X b) : EI X (.Tuple elts kk tpos) (.Call (.Name "zip" p) [a, b] [] pos) (iZp f g) :=
  mkI (pi_zip hg hm (pa_cons ha.pe (pa_cons hb.pe pa_nil hs1) hs) hs (by rw [hs1]; rfl)) fun σ H R ρ F d e h k => by
    simp only [iZp, Option.bind_eq_some_iff] at h
    obtain ⟨x, h1, y, h2, h3⟩ := h
    refine ⟨ρ, F, x, e, h1, fun u F1 H1 x1 r1 => ⟨ρ, F1, y, e.ext x1, h2, fun v F2 H2 x2 r2 => ?_⟩⟩
    cases x <;> cases y <;> simp only [reduceCtorEq, Option.some.injEq] at h3
    subst h3
    cases r1 with
    | lst hq rq =>
      cases r2 with
      | lst hq' rq' => exact ⟨_, _, _, _, rfl, .inl (.inl (x2.le _ _ (x2.f _ _ hq))), .inl (.inl (x2.le _ _ hq')), k _ F2 H2 (x1.trans x2) (walks_zip (x2.f _ _ hq) (rq.mono x2.f) hq' rq')⟩
end
end Zx
/-! Zx5: targets, statements, loops. -/
namespace Zx
open PySem PySem.Spec L2
/-! ### targets that store names alone -/
abbrev DenG := D → Env → Option Env
structure SameBut (ws : List Nat) (σ σ' : L2.St) : Prop where
  len : σ'.length = σ.length
  at_ : ∀ j, j ∉ ws → σ'[j]? = σ[j]?
theorem SameBut.trans {ws vs : List Nat} {σ σ' σ'' : L2.St} (a : SameBut ws σ σ') (b : SameBut vs σ' σ'') : SameBut (ws ++ vs) σ σ'' :=
  ⟨b.len.trans a.len, fun j hj => by
    rw [List.mem_append, not_or] at hj
    rw [b.at_ j hj.2, a.at_ j hj.1]⟩
/-- what is one's own was so before -/
def OwK (ρ : Env) (σ : L2.St) (ρ' : Env) (σ' : L2.St) : Prop := ∀ (j : Nat) d, ρ'[j]? = some (.ow d) → ρ[j]? = some (.ow d) ∧ σ'[j]? = σ[j]?
theorem OwK.trans {ρ ρ' ρ'' : Env} {σ σ' σ'' : L2.St} (a : OwK ρ σ ρ' σ') (b : OwK ρ' σ' ρ'' σ'') : OwK ρ σ ρ'' σ'' := fun j d h => by
  obtain ⟨h1, h2⟩ := b j d h
  obtain ⟨h3, h4⟩ := a j d h1
  exact ⟨h3, h2.trans h4⟩
theorem OwK.set {ρ : Env} {σ : L2.St} {i : Nat} {d : D} {v : Option V} : OwK ρ σ (ρ.set i (.fz d)) (σ.set i v) := fun j d' h => by
  by_cases hj : i = j
  · subst hj
    by_cases hl : i < ρ.length
    · rw [List.getElem?_set_self hl] at h
      cases h
    · rw [List.getElem?_eq_none (by rw [List.length_set]; omega)] at h
      cases h
  · rw [List.getElem?_set_ne hj] at h
    exact ⟨h, List.getElem?_set_ne hj⟩
def tGt (K : PySem.W.Frag) (ws : List Nat) (g : DenG) : TG := fun v σ H Q => ∃ ρ F d ρ', EnvOk K ρ σ F H ∧ Rp K F d v ∧ g d ρ = some ρ' ∧ ∀ σ', EnvOk K ρ' σ' F H → SameBut ws σ σ' → OwK ρ σ ρ' σ' → Q σ' H
structure EG (X : Cx) (tg : Expr) (ws : List Nat) (g : DenG) : Prop where
  pg : PG X tg (tGt X.K ws g)
abbrev DenGs := List D → Env → Option Env
def tGts (K : PySem.W.Frag) (ws : List Nat) (g : DenGs) : TGs := fun vs σ H Q => ∃ ρ F ds ρ', EnvOk K ρ σ F H ∧ RpL K F ds vs ∧ g ds ρ = some ρ' ∧ ∀ σ', EnvOk K ρ' σ' F H → SameBut ws σ σ' → OwK ρ σ ρ' σ' → Q σ' H
structure EGs (X : Cx) (tg : List Expr) (ws : List Nat) (g : DenGs) : Prop where
  pg : PGs X tg (tGts X.K ws g)
theorem PG.imp {X : Cx} {e : Expr} {t t' : TG} (h : PG X e t) (i : ∀ v σ H Q, t' v σ H Q → t v σ H Q) : PG X e t' := ⟨fun pins s σ H v u Q I r hw => h.run pins s σ H v u Q I r (i v σ H Q hw)⟩
theorem PGs.imp {X : Cx} {e : List Expr} {t t' : TGs} (h : PGs X e t) (i : ∀ v σ H Q, t' v σ H Q → t v σ H Q) : PGs X e t' := ⟨fun pins s σ H v u Q I r hw => h.run pins s σ H v u Q I r (i v σ H Q hw)⟩
def gN (i : Nat) : DenG := fun d ρ => some (ρ.set i (.fz d))
def gsNil : DenGs := fun ds ρ => match ds with | [] => some ρ | _ => none
def gsCons (g : DenG) (gs : DenGs) : DenGs := fun ds ρ => match ds with | d :: r => (g d ρ).bind fun ρ' => gs r ρ' | _ => none
def gT (gs : DenGs) (n : Nat) : DenG := fun d ρ => match d with | .tuple ds => if ds.length = n then gs ds ρ else none | _ => none
def gLs (gs : DenGs) (n : Nat) : DenG := fun d ρ => match d with | .list ds => if ds.length = n then gs ds ρ else none | _ => none
theorem EnvOk.set {K : PySem.W.Frag} {ρ : Env} {σ : L2.St} {F H : Hp} {i : Nat} {d : D} {v : V} (e : EnvOk K ρ σ F H) (r : Rp K F d v) : EnvOk K (ρ.set i (.fz d)) (σ.set i (some v)) F H where
  sub := e.sub
  len := by rw [List.length_set, List.length_set]; exact e.len
  at_ := fun j s hs => by
    by_cases hj : i = j
    · subst hj
      by_cases hl : i < ρ.length
      · rw [List.getElem?_set_self hl] at hs
        cases hs
        exact ⟨some v, List.getElem?_set_self (by rw [← e.len]; exact hl), v, rfl, r⟩
      · rw [List.getElem?_eq_none (by rw [List.length_set]; omega)] at hs
        cases hs
    · rw [List.getElem?_set_ne hj] at hs
      rw [List.getElem?_set_ne hj]
      exact e.at_ j s hs
  dist := fun j k d1 d2 a h1 h2 h3 h4 => by
    have z : ∀ {j : Nat} {d1 : D}, (ρ.set i (.fz d))[j]? = some (.ow d1) → i ≠ j ∧ ρ[j]? = some (.ow d1) := fun {j d1} h => by
      by_cases hj : i = j
      · subst hj
        by_cases hl : i < ρ.length
        · rw [List.getElem?_set_self hl] at h
          cases h
        · rw [List.getElem?_eq_none (by rw [List.length_set]; omega)] at h
          cases h
      · rw [List.getElem?_set_ne hj] at h
        exact ⟨hj, h⟩
    obtain ⟨n1, g1⟩ := z h1
    obtain ⟨n2, g2⟩ := z h2
    rw [List.getElem?_set_ne n1] at h3
    rw [List.getElem?_set_ne n2] at h4
    exact e.dist j k d1 d2 a g1 g2 h3 h4
theorem SameBut.set {i : Nat} {σ : L2.St} {v : Option V} : SameBut [i] σ (σ.set i v) := ⟨List.length_set, fun j hj => List.getElem?_set_ne fun e => hj (by rw [e]; exact List.mem_singleton_self _)⟩
section
variable {X : Cx} {pos : Pos} {K : PySem.W.Frag}
def locB (sc : Scope) (x : Str) : Bool := match sc.names.lookup x with | some .local => true | some .cell => true | _ => false
theorem loc_of {sc : Scope} {x : Str} (h : locB sc x = true) : L2.Loc sc x := by
  unfold locB at h
  unfold L2.Loc
  split at h
  · rename_i e; exact .inl e
  · rename_i e; exact .inr e
  · cases h
def fnB (X : Cx) (x : Str) : Bool := X.fn x || (match X.env.scope.names.lookup x with | some .local => true | _ => false)
theorem fn_or {x : Str} (h : fnB X x = true) : X.fn x = true ∨ X.env.scope.names.lookup x = some .local := by
  unfold fnB at h
  rw [Bool.or_eq_true] at h
  rcases h with h | h
  · exact .inl h
  · right
    split at h
    · assumption
    · cases h
theorem eg_name (i : Nat) {x : Str} (hN : X.N.Nodup) (hi : X.N[i]? = some x) (hx : locB X.env.scope x = true) (hf : fnB X x = true) : EG X (.Name x pos) [i] (gN i) :=
  ⟨PG.imp (pg_name hN hi (loc_of hx) (fn_or hf)) fun v σ H Q ⟨ρ, F, d, ρ', e, r, h, k⟩ => by
    cases h
    exact k _ (e.set r) .set .set⟩
theorem egs_nil : EGs X [] [] gsNil :=
  ⟨PGs.imp pgs_nil fun vs σ H Q ⟨ρ, F, ds, ρ', e, r, h, k⟩ => by
    cases r with
    | nil =>
      cases h
      exact ⟨rfl, k σ e ⟨rfl, fun _ _ => rfl⟩ fun _ _ z => ⟨z, rfl⟩⟩
    | cons _ _ => cases h⟩
theorem egs_cons {a : Expr} {es : List Expr} {ws vs : List Nat} {g : DenG} {gs : DenGs} (h1 : EG X a ws g) (h2 : EGs X es vs gs) (hs : (assignEach (a :: es) X.env).map (·.2) = assign a X.env :: (assignEach es X.env).map (·.2)) : EGs X (a :: es) (ws ++ vs) (gsCons g gs) :=
  ⟨PGs.imp (pgs_cons h1.pg h2.pg hs) fun us σ H Q ⟨ρ, F, ds, ρ', e, r, h, k⟩ => by
    cases r with
    | nil => cases h
    | cons r t =>
      simp only [gsCons, Option.bind_eq_some_iff] at h
      obtain ⟨ρ1, g1, g2⟩ := h
      exact ⟨_, _, rfl, ρ, F, _, ρ1, e, r, g1, fun σ1 e1 s1 o1 => ⟨ρ1, F, _, ρ', e1, t, g2, fun σ2 e2 s2 o2 => k σ2 e2 (s1.trans s2) (o1.trans o2)⟩⟩⟩
theorem eg_tup {es : List Expr} {kk : Nat} {ws : List Nat} {gs : DenGs} {n : Nat} (hc : X.calm = true) (h : EGs X es ws gs) (hn : (assignEach es X.env).length = n) (hst : (assignEach es X.env).findIdx? (·.1) = none) : EG X (.Tuple es kk pos) ws (gT gs n) :=
  ⟨PG.imp (pg_tup hc h.pg hn hst) fun v σ H Q ⟨ρ, F, d, ρ', e, r, hg, k⟩ => by
    unfold gT at hg
    split at hg
    · split at hg
      · rename_i hl
        cases r with
        | tup ha hr => exact ⟨_, _, rfl, .inl (.inl (e.sub _ _ ha)), by rw [hr.length]; exact hl, ρ, F, _, ρ', e, hr, hg, k⟩
      · cases hg
    · cases hg⟩
theorem eg_lst {es : List Expr} {kk : Nat} {ws : List Nat} {gs : DenGs} {n : Nat} (hc : X.calm = true) (h : EGs X es ws gs) (hn : (assignEach es X.env).length = n) (hst : (assignEach es X.env).findIdx? (·.1) = none) : EG X (.Tuple es kk pos) ws (gLs gs n) :=
  ⟨PG.imp (pg_unl hc h.pg hn hst) fun v σ H Q ⟨ρ, F, d, ρ', e, r, hg, k⟩ => by
    unfold gLs at hg
    split at hg
    · split at hg
      · rename_i hl
        cases r with
        | lst ha hr => exact ⟨_, _, rfl, .inl (.inl (e.sub _ _ ha)), by rw [hr.length]; exact hl, ρ, F, _, ρ', e, hr, hg, k⟩
      · cases hg
    · cases hg⟩
end

/-! ### statements -/
inductive Out where
  | nx (ρ : Env) | rt (d : D) | rn (d : D) | bk (ρ : Env) | ct (ρ : Env)
abbrev DenS := Env → Option Out
structure EnvS (K : PySem.W.Frag) (F0 H0 : Hp) (ρ : Env) (σ : L2.St) (F H : Hp) : Prop where
  env : EnvOk K ρ σ F H
  ext : Ext F0 H0 F H
  own : ∀ (i : Nat) d a, ρ[i]? = some (.ow d) → σ[i]? = some (some (.ref a)) → H0 a = none
def Post (K : PySem.W.Frag) (F0 H0 : Hp) (D : Ends) : Out → Prop
  | .nx ρ' => ∀ σ' F' H', EnvS K F0 H0 ρ' σ' F' H' → D.nx σ' H'
  | .bk ρ' => ∀ σ' F' H', EnvS K F0 H0 ρ' σ' F' H' → D.bk σ' H'
  | .ct ρ' => ∀ σ' F' H', EnvS K F0 H0 ρ' σ' F' H' → D.ct σ' H'
  | .rt d => ∀ v F' H', Ext F0 H0 F' H' → Rp K F' d v → D.rt v H'
  | .rn d => ∀ a o F' H', Ext F0 H0 F' H' → F' a = none → H0 a = none → H' a = some o → OwnRep K F' d o → D.rt (.ref a) H'
def tSt (K : PySem.W.Frag) (f : DenS) : TS := fun D σ H => ∃ F0 H0 ρ F o, EnvS K F0 H0 ρ σ F H ∧ f ρ = some o ∧ Post K F0 H0 D o
structure SX (X : Cx) (st : Stmt) (f : DenS) : Prop where
  ps : PS X st (tSt X.K f)
structure SXs (X : Cx) (sts : List Stmt) (f : DenS) : Prop where
  pss : PSs X sts (tSt X.K f)
theorem EnvS.to {K : PySem.W.Frag} {F0 H0 : Hp} {ρ : Env} {σ : L2.St} {F H F' H' : Hp} (e : EnvS K F0 H0 ρ σ F H) (x : Ext F H F' H') : EnvS K F0 H0 ρ σ F' H' := ⟨e.env.ext x, e.ext.trans x, e.own⟩
def sNx : DenS := fun ρ => some (.nx ρ)
def sSeq (f g : DenS) : DenS := fun ρ => (f ρ).bind fun o => match o with | .nx ρ' => g ρ' | o => some o
section
variable {X : Cx} {st : Stmt} {sts : List Stmt} {f g : DenS} {fd : Den} {fb : DenB} {a : Expr} {pos : Pos}
theorem sx_mk {t : TS} (h : PS X st t) (i : ∀ D σ H F0 H0 ρ F o, EnvS X.K F0 H0 ρ σ F H → f ρ = some o → Post X.K F0 H0 D o → t D σ H) : SX X st f := ⟨PS.imp h fun D σ H ⟨F0, H0, ρ, F, o, e, h, k⟩ => i D σ H F0 H0 ρ F o e h k⟩
theorem sxs_nil : SXs X [] sNx := ⟨PSs.imp pss_nil fun D σ H ⟨F0, H0, ρ, F, o, e, h, k⟩ => by
  cases h
  exact k σ F H e⟩
theorem sxs_cons (h1 : SX X st f) (h2 : SXs X sts g) : SXs X (st :: sts) (sSeq f g) :=
  ⟨PSs.imp (pss_cons h1.ps h2.pss) fun D σ H ⟨F0, H0, ρ, F, o, e, h, k⟩ => by
    simp only [sSeq, Option.bind_eq_some_iff] at h
    obtain ⟨o1, h1, h2⟩ := h
    refine ⟨F0, H0, ρ, F, o1, e, h1, ?_⟩
    cases o1 with
    | nx ρ' => exact fun σ' F' H' e' => ⟨F0, H0, ρ', F', o, e', h2, k⟩
    | rt d =>
      cases h2
      exact k
    | rn d =>
      cases h2
      exact k
    | bk ρ' =>
      cases h2
      exact k
    | ct ρ' =>
      cases h2
      exact k⟩
theorem sxs_one (h1 : SX X st f) : SXs X [st] f := ⟨pss_one h1.ps⟩
/-- what the proof never comes to -/
def sNo : DenS := fun _ => none
theorem sx_no : SX X st sNo := ⟨PS.imp ps_never fun D σ H ⟨F0, H0, ρ, F, o, e, h, k⟩ => nomatch h⟩
theorem sx_pass : SX X (.Pass pos) sNx := sx_mk ps_pass fun D σ H F0 H0 ρ F o e h k => by
  cases h
  exact k σ F H e
def sBk : DenS := fun ρ => some (.bk ρ)
def sCt : DenS := fun ρ => some (.ct ρ)
theorem sx_break : SX X (.Break pos) sBk := sx_mk ps_break fun D σ H F0 H0 ρ F o e h k => by
  cases h
  exact k σ F H e
theorem sx_cont : SX X (.Continue pos) sCt := sx_mk ps_continue fun D σ H F0 H0 ρ F o e h k => by
  cases h
  exact k σ F H e
def sDrop (f : Den) : DenS := fun ρ => (f ρ).bind fun _ => some (.nx ρ)
theorem sx_expr (h : EX X a fd) (hs : swapsWith a none pos.line X.env = pure false) : SX X (.Expr a pos) (sDrop fd) := sx_mk (ps_expr h.pe hs) fun D σ H F0 H0 ρ F o e h k => by
  simp only [sDrop, Option.bind_eq_some_iff, Option.some.injEq] at h
  obtain ⟨d, h1, rfl⟩ := h
  exact ⟨ρ, F, d, e.env, h1, fun v F' H' x r => k σ F' H' (e.to x)⟩
def sRet (f : Den) : DenS := fun ρ => (f ρ).bind fun d => some (.rt d)
theorem sx_ret (h : EX X a fd) : SX X (.Return (some a) pos) (sRet fd) := sx_mk (ps_ret h.pe) fun D σ H F0 H0 ρ F o e h k => by
  simp only [sRet, Option.bind_eq_some_iff, Option.some.injEq] at h
  obtain ⟨d, h1, rfl⟩ := h
  exact ⟨ρ, F, d, e.env, h1, fun v F' H' x r => k v F' H' (e.ext.trans x) r⟩
def sRetNew (f : Den) : DenS := fun ρ => (f ρ).bind fun d => some (.rn d)
theorem sx_retNew (h : EN X a fd) : SX X (.Return (some a) pos) (sRetNew fd) := sx_mk (ps_ret h.pe) fun D σ H F0 H0 ρ F o e h k => by
  simp only [sRetNew, Option.bind_eq_some_iff, Option.some.injEq] at h
  obtain ⟨d, h1, rfl⟩ := h
  exact ⟨ρ, F, d, e.env, h1, fun a o F' H' x h1 h2 h3 h4 => k a o F' H' (e.ext.trans x) h1 (e.ext.h.free h2) h3 h4⟩
/-- return x, x one's own list: it is the caller's -/
def sRetOwn (i : Nat) : DenS := fun ρ => match ρ[i]? with | some (.ow d) => some (.rn d) | _ => none
theorem sx_retOwn (i : Nat) {x : Str} {p : Pos} (hN : X.N[i]? = some x) (hv : visB X.env.scope x = true) (hd : (x == ("__debug__" : Str)) = false) (hcd : (x == ("__classdict__" : Str)) = false) : SX X (.Return (some (.Name x p)) pos) (sRetOwn i) :=
  sx_mk (ps_ret (pe_var hN (vis_of hv) hd hcd)) fun D σ H F0 H0 ρ F o e h k => by
    unfold sRetOwn at h
    split at h
    · rename_i d hs
      cases h
      obtain ⟨ov, h1, a, o, h2, h3, h4, h5⟩ := e.env.at_ i _ hs
      subst h2
      exact ⟨_, h1, k a o F H e.ext h3 (e.own i d a hs h1) h4 h5⟩
    · cases h
def sRetN : DenS := fun _ => some (.rt .none)
theorem sx_retN : SX X (.Return none pos) sRetN := sx_mk ps_retN fun D σ H F0 H0 ρ F o e h k => by
  cases h
  exact k _ F H e.ext .non
def sIf (c : DenB) (f g : DenS) : DenS := fun ρ => (c ρ).bind fun b => if b then f ρ else g ρ
theorem sx_if {c : Expr} {s1 s2 : List Stmt} (hc : ET X c fb) (h1 : SXs X s1 f) (h2 : SXs X s2 g) : SX X (.If c s1 s2 pos) (sIf fb f g) := sx_mk (ps_if hc.pt h1.pss h2.pss) fun D σ H F0 H0 ρ F o e h k => by
  simp only [sIf, Option.bind_eq_some_iff] at h
  obtain ⟨b, h1, h2⟩ := h
  refine ⟨ρ, F, b, e.env, h1, fun F' H' x => ?_⟩
  cases b with
  | true => exact ⟨F0, H0, ρ, F', o, e.to x, h2, k⟩
  | false => exact ⟨F0, H0, ρ, F', o, e.to x, h2, k⟩
/-! ### assignments -/
def sSet (i : Nat) (f : Den) : DenS := fun ρ => (f ρ).bind fun d => some (.nx (ρ.set i (.fz d)))
theorem EnvS.set {K : PySem.W.Frag} {F0 H0 : Hp} {ρ : Env} {σ : L2.St} {F H : Hp} {i : Nat} {d : D} {v : V} (e : EnvS K F0 H0 ρ σ F H) (r : Rp K F d v) : EnvS K F0 H0 (ρ.set i (.fz d)) (σ.set i (some v)) F H :=
  ⟨e.env.set r, e.ext, fun j d' a h1 h2 => by
    by_cases hj : i = j
    · subst hj
      by_cases hl : i < ρ.length
      · rw [List.getElem?_set_self hl] at h1
        cases h1
      · rw [List.getElem?_eq_none (by rw [List.length_set]; omega)] at h1
        cases h1
    · rw [List.getElem?_set_ne hj] at h1 h2
      exact e.own j d' a h1 h2⟩
theorem sx_set (i : Nat) {x : Str} {pos' : Pos} (hN : X.N.Nodup) (hi : X.N[i]? = some x) (hx : locB X.env.scope x = true) (hf : fnB X x = true) (ha : EX X a fd) (hs : swapsWith a (some (.Name x pos')) pos.line X.env = pure false) :
    SX X (.Assign [.Name x pos'] a pos) (sSet i fd) := sx_mk (ps_set hN hi (loc_of hx) ha.pe hs (fn_or hf)) fun D σ H F0 H0 ρ F o e h k => by
  simp only [sSet, Option.bind_eq_some_iff, Option.some.injEq] at h
  obtain ⟨d, h1, rfl⟩ := h
  exact ⟨ρ, F, d, e.env, h1, fun v F' H' x r => k _ F' H' ((e.to x).set r)⟩
/-- x = a new list or dict, x one's own -/
def sOwn (i : Nat) (f : Den) : DenS := fun ρ => (f ρ).bind fun d => some (.nx (ρ.set i (.ow d)))
theorem EnvS.setOwn {K : PySem.W.Frag} {F0 H0 : Hp} {ρ : Env} {σ : L2.St} {F H F1 H1 : Hp} {i : Nat} {d : D} {p : Addr} {ob : HO} (e : EnvS K F0 H0 ρ σ F1 H1) (x : Ext F1 H1 F H) (hp : H1 p = none) (hF : F p = none) (hH : H p = some ob) (r : OwnRep K F d ob) :
    EnvS K F0 H0 (ρ.set i (.ow d)) (σ.set i (some (.ref p))) F H := by
  have e' := e.to x
  have z : ∀ {j : Nat} {d1 : D} {b : Addr}, (ρ.set i (.ow d))[j]? = some (.ow d1) → (σ.set i (some (.ref p)))[j]? = some (some (.ref b)) → (j = i ∧ b = p) ∨ (j ≠ i ∧ ρ[j]? = some (.ow d1) ∧ σ[j]? = some (some (.ref b)) ∧ b ≠ p) := fun {j d1 b} h1 h2 => by
    by_cases hj : i = j
    · subst hj
      by_cases hl : i < σ.length
      · rw [List.getElem?_set_self hl] at h2
        cases h2
        exact .inl ⟨rfl, rfl⟩
      · rw [List.getElem?_eq_none (by rw [List.length_set]; omega)] at h2
        cases h2
    · rw [List.getElem?_set_ne hj] at h1 h2
      refine .inr ⟨Ne.symm hj, h1, h2, ?_⟩
      rintro rfl
      obtain ⟨ov, g1, a, o, g2, g3, g4, g5⟩ := e.env.at_ j _ h1
      rw [h2] at g1
      cases g1
      cases g2
      rw [hp] at g4
      cases g4
  refine ⟨⟨e'.env.sub, by rw [List.length_set, List.length_set]; exact e'.env.len, fun j s hs => ?_, fun j k d1 d2 b h1 h2 h3 h4 => ?_⟩, e'.ext, fun j d1 b h1 h2 => ?_⟩
  · by_cases hj : i = j
    · subst hj
      by_cases hl : i < ρ.length
      · rw [List.getElem?_set_self hl] at hs
        cases hs
        exact ⟨_, List.getElem?_set_self (by rw [← e.env.len]; exact hl), p, ob, rfl, hF, hH, r⟩
      · rw [List.getElem?_eq_none (by rw [List.length_set]; omega)] at hs
        cases hs
    · rw [List.getElem?_set_ne hj] at hs
      rw [List.getElem?_set_ne hj]
      exact e'.env.at_ j s hs
  · rcases z h1 h3 with ⟨rfl, rfl⟩ | ⟨n1, g1, g3, nb⟩
    · rcases z h2 h4 with ⟨rfl, _⟩ | ⟨n2, g2, g4, nb⟩
      · rfl
      · exact absurd rfl nb
    · rcases z h2 h4 with ⟨_, rfl⟩ | ⟨n2, g2, g4, _⟩
      · exact absurd rfl nb
      · exact e.env.dist j k d1 d2 b g1 g2 g3 g4
  · rcases z h1 h2 with ⟨_, rfl⟩ | ⟨n1, g1, g3, nb⟩
    · exact e.ext.h.free hp
    · exact e.own j d1 b g1 g3
theorem sx_own (i : Nat) {x : Str} {pos' : Pos} (hN : X.N.Nodup) (hi : X.N[i]? = some x) (hx : locB X.env.scope x = true) (hf : fnB X x = true) (ha : EN X a fd) (hs : swapsWith a (some (.Name x pos')) pos.line X.env = pure false) :
    SX X (.Assign [.Name x pos'] a pos) (sOwn i fd) := sx_mk (ps_set hN hi (loc_of hx) ha.pe hs (fn_or hf)) fun D σ H F0 H0 ρ F o e h k => by
  simp only [sOwn, Option.bind_eq_some_iff, Option.some.injEq] at h
  obtain ⟨d, h1, rfl⟩ := h
  exact ⟨ρ, F, d, e.env, h1, fun p o F' H' x hF hp hH r => k _ F' H' (e.setOwn x hp hF hH r)⟩
/-- targets of names: a, b = e -/
def sAsg (g : DenG) (f : Den) : DenS := fun ρ => (f ρ).bind fun d => (g d ρ).bind fun ρ' => some (.nx ρ')
/-- ahead of a statement one's own list is given away: from here it is read only -/
def frz (i : Nat) (ρ : Env) : Env := match ρ[i]? with | some (.ow d) => ρ.set i (.fz d) | _ => ρ
def sFrz (i : Nat) (f : DenS) : DenS := fun ρ => f (frz i ρ)
theorem EnvS.frz {K : PySem.W.Frag} {F0 H0 : Hp} {ρ : Env} {σ : L2.St} {F H : Hp} (i : Nat) (e : EnvS K F0 H0 ρ σ F H) : ∃ F', EnvS K F0 H0 (frz i ρ) σ F' H := by
  unfold Zx.frz
  split
  · rename_i d hs
    obtain ⟨ov, h1, a, o, h2, h3, h4, h5⟩ := e.env.at_ i _ hs
    subst h2
    have sF : Sub F (upd F a o) := Sub.new h3
    have hl : i < ρ.length := (List.getElem?_eq_some_iff.mp hs).1
    have z : ∀ {j : Nat} {d1 : D}, (ρ.set i (.fz d))[j]? = some (.ow d1) → j ≠ i ∧ ρ[j]? = some (.ow d1) := fun {j d1} h => by
      by_cases hj : i = j
      · subst hj
        rw [List.getElem?_set_self hl] at h
        cases h
      · rw [List.getElem?_set_ne hj] at h
        exact ⟨Ne.symm hj, h⟩
    refine ⟨upd F a o, ⟨⟨fun b u hb => ?_, by rw [List.length_set]; exact e.env.len, fun j s hj => ?_, fun j k d1 d2 b g1 g2 g3 g4 => e.env.dist j k d1 d2 b (z g1).2 (z g2).2 g3 g4⟩, ⟨e.ext.f.trans sF, e.ext.h, fun b u hb => ?_, fun b n1 n2 => ?_⟩, fun j d1 b g1 g2 => e.own j d1 b (z g1).2 g2⟩⟩
    · by_cases hba : b = a
      · subst hba; rw [upd_same] at hb; cases hb; exact h4
      · rw [upd_ne hba] at hb; exact e.env.sub b u hb
    · by_cases hij : i = j
      · subst hij
        rw [List.getElem?_set_self hl] at hj
        cases hj
        refine ⟨_, h1, _, rfl, ?_⟩
        cases h5 with
        | lst t => exact .lst upd_same (t.mono sF)
        | dK t => exact .dK (.inl upd_same) (t.mono sF)
        | dT t => exact .dT (.inl upd_same) (t.mono sF)
      · rw [List.getElem?_set_ne hij] at hj
        obtain ⟨ov, g1, g2⟩ := e.env.at_ j s hj
        refine ⟨ov, g1, ?_⟩
        cases s with
        | no => trivial
        | fz d' =>
          obtain ⟨v, g3, g4⟩ := g2
          exact ⟨v, g3, g4.mono sF⟩
        | ow d' =>
          obtain ⟨b, u, g3, g4, g5, g6⟩ := g2
          refine ⟨b, u, g3, ?_, g5, g6.mono sF⟩
          rw [upd_ne]
          · exact g4
          · rintro rfl
            subst g3
            exact hij (e.env.dist i j d d' b hs hj h1 g1)
    · by_cases hba : b = a
      · subst hba; rw [upd_same] at hb; cases hb; exact h4
      · rw [upd_ne hba] at hb; exact e.env.sub b u hb
    · rw [upd_ne]
      · exact e.ext.new b n1 n2
      · rintro rfl
        exact n1 (e.own i d b hs h1)
  · exact ⟨F, e⟩
theorem sx_frz (i : Nat) (h : SX X st f) : SX X st (sFrz i f) := sx_mk h.ps fun D σ H F0 H0 ρ F o e h k => by
  obtain ⟨F', e'⟩ := e.frz i
  exact ⟨F0, H0, _, F', o, e', h, k⟩
theorem sxs_frz (i : Nat) (h : SXs X sts f) : SXs X sts (sFrz i f) := ⟨PSs.imp h.pss fun D σ H ⟨F0, H0, ρ, F, o, e, h, k⟩ => by
  obtain ⟨F', e'⟩ := e.frz i
  exact ⟨F0, H0, _, F', o, e', h, k⟩⟩
end
end Zx
/-! Zx6: targets stored, one's own lists and dicts changed, loops. -/
namespace Zx
open PySem PySem.Spec L2
/-! ### dicts, as lists of pairs -/
def dGet (kds : List (D × D)) (k : D) : Option D := (kds.find? fun p => PyData.eqv p.1 k).map (·.2)
def dHas (kds : List (D × D)) (k : D) : Bool := kds.any fun p => PyData.eqv p.1 k
def dPut (kds : List (D × D)) (k v : D) : List (D × D) := if dHas kds k then kds.map (fun p => if PyData.eqv p.1 k then (p.1, v) else p) else kds ++ [(k, v)]
def keyOf : D → Option Key
  | .int i => some (.inl i)
  | .str x => some (.inr x)
  | _ => none
def keysOf : List D → Option (List Key)
  | [] => some []
  | d :: r => (keyOf d).bind fun k => (keysOf r).bind fun ks => some (k :: ks)
theorem keyOf_eq {d : D} {k : Key} (h : keyOf d = some k) : d = keyD k := by
  cases d <;> simp only [keyOf, reduceCtorEq, Option.some.injEq] at h <;> subst h <;> rfl
theorem keysOf_eq : ∀ {ds : List D} {ks : List Key}, keysOf ds = some ks → ds = ks.map keyD
  | [], ks, h => by cases h; rfl
  | d :: r, ks, h => by
    simp only [keysOf, Option.bind_eq_some_iff, Option.some.injEq] at h
    obtain ⟨k, h1, js, h2, rfl⟩ := h
    rw [keyOf_eq h1, keysOf_eq h2, List.map_cons]
theorem eqv_key (a b : Key) : PyData.eqv (keyD a) (keyD b) = decide (a = b) := by
  cases a with
  | inl i =>
    cases b with
    | inl j => rw [key_ll]; rfl
    | inr y => rw [key_lr]; rfl
  | inr x =>
    cases b with
    | inl j => rw [key_rl]; rfl
    | inr y =>
      rw [key_rr]
      show (x == y) = decide (x = y)
      by_cases h : x = y
      · subst h; simp
      · rw [decide_eq_false h]; exact beq_eq_false_iff_ne.mpr h
theorem eqv_keys : ∀ (a b : List Key), PyData.eqvAll (a.map keyD) (b.map keyD) = decide (a = b)
  | [], [] => rfl
  | [], _ :: _ => rfl
  | _ :: _, [] => rfl
  | x :: a, y :: b => by
    have h1 := eqv_key x y
    have h2 := eqv_keys a b
    rw [List.map_cons, List.map_cons]
    show (PyData.eqv (keyD x) (keyD y) && PyData.eqvAll (a.map keyD) (b.map keyD)) = _
    rw [h1, h2]
    by_cases hx : x = y <;> by_cases hy : a = b <;> simp [hx, hy]
theorem eqv_tkeys (a b : List Key) : PyData.eqv (.tuple (a.map keyD)) (.tuple (b.map keyD)) = decide (a = b) := eqv_keys a b
section
variable {K : PySem.W.Frag} {F H : Hp}
theorem RpK.get (k : Key) : ∀ {kds : List (D × D)} {kvs : List (Key × V)}, RpK K F kds kvs → (valV kvs k = none ∧ dGet kds (keyD k) = none) ∨ ∃ v d, valV kvs k = some v ∧ dGet kds (keyD k) = some d ∧ Rp K F d v
  | _, _, .nil => .inl ⟨rfl, rfl⟩
  | _, _, .cons (k := j) (d := d) (v := v) r t => by
    by_cases h : j = k
    · subst h
      refine .inr ⟨v, d, valV_pos rfl, ?_, r⟩
      unfold dGet
      rw [List.find?_cons_of_pos (by rw [eqv_key]; simp)]
      rfl
    · rcases RpK.get k t with ⟨h1, h2⟩ | ⟨v', d', h1, h2, h3⟩
      · refine .inl ⟨by rw [valV_neg h]; exact h1, ?_⟩
        unfold dGet at h2 ⊢
        rw [List.find?_cons_of_neg (by rw [eqv_key]; simpa using h)]
        exact h2
      · refine .inr ⟨v', d', by rw [valV_neg h]; exact h1, ?_, h3⟩
        unfold dGet at h2 ⊢
        rw [List.find?_cons_of_neg (by rw [eqv_key]; simpa using h)]
        exact h2
theorem RpT.get (k : List Key) : ∀ {kds : List (D × D)} {kvs : List (List Key × V)}, RpT K F kds kvs → (valV kvs k = none ∧ dGet kds (.tuple (k.map keyD)) = none) ∨ ∃ v d, valV kvs k = some v ∧ dGet kds (.tuple (k.map keyD)) = some d ∧ Rp K F d v
  | _, _, .nil => .inl ⟨rfl, rfl⟩
  | _, _, .cons (k := j) (d := d) (v := v) r t => by
    by_cases h : j = k
    · subst h
      refine .inr ⟨v, d, valV_pos rfl, ?_, r⟩
      unfold dGet
      rw [List.find?_cons_of_pos (by rw [eqv_tkeys]; simp)]
      rfl
    · rcases RpT.get k t with ⟨h1, h2⟩ | ⟨v', d', h1, h2, h3⟩
      · refine .inl ⟨by rw [valV_neg h]; exact h1, ?_⟩
        unfold dGet at h2 ⊢
        rw [List.find?_cons_of_neg (by rw [eqv_tkeys]; simpa using h)]
        exact h2
      · refine .inr ⟨v', d', by rw [valV_neg h]; exact h1, ?_, h3⟩
        unfold dGet at h2 ⊢
        rw [List.find?_cons_of_neg (by rw [eqv_tkeys]; simpa using h)]
        exact h2
theorem dHas_iff (kds : List (D × D)) (k : D) : dHas kds k = (dGet kds k).isSome := by
  unfold dHas dGet
  rw [Option.isSome_map]
  induction kds with
  | nil => rfl
  | cons p r ih =>
    rw [List.any_cons, List.find?_cons]
    cases PyData.eqv p.1 k with
    | true => rfl
    | false => rw [Bool.false_or]; exact ih
theorem RpK.has (k : Key) {kds : List (D × D)} {kvs : List (Key × V)} (h : RpK K F kds kvs) : dHas kds (keyD k) = kvs.any fun kv => decide (kv.1 = k) := by
  rw [dHas_iff, valV_any]
  rcases h.get k with ⟨h1, h2⟩ | ⟨v, d, h1, h2, _⟩ <;> rw [h1, h2] <;> rfl
theorem RpT.has (k : List Key) {kds : List (D × D)} {kvs : List (List Key × V)} (h : RpT K F kds kvs) : dHas kds (.tuple (k.map keyD)) = kvs.any fun kv => decide (kv.1 = k) := by
  rw [dHas_iff, valV_any]
  rcases h.get k with ⟨h1, h2⟩ | ⟨v, d, h1, h2, _⟩ <;> rw [h1, h2] <;> rfl
theorem RpK.snoc (k : Key) {d : D} {v : V} (r : Rp K F d v) : ∀ {kds : List (D × D)} {kvs : List (Key × V)}, RpK K F kds kvs → RpK K F (kds ++ [(keyD k, d)]) (kvs ++ [(k, v)])
  | _, _, .nil => .cons r .nil
  | _, _, .cons h t => .cons h (RpK.snoc k r t)
theorem RpT.snoc (k : List Key) {d : D} {v : V} (r : Rp K F d v) : ∀ {kds : List (D × D)} {kvs : List (List Key × V)}, RpT K F kds kvs → RpT K F (kds ++ [(.tuple (k.map keyD), d)]) (kvs ++ [(k, v)])
  | _, _, .nil => .cons r .nil
  | _, _, .cons h t => .cons h (RpT.snoc k r t)
theorem RpK.repl (k : Key) {d : D} {v : V} (r : Rp K F d v) : ∀ {kds : List (D × D)} {kvs : List (Key × V)}, RpK K F kds kvs → RpK K F (kds.map fun p => if PyData.eqv p.1 (keyD k) then (p.1, d) else p) (kvs.map fun kv => if kv.1 = k then (kv.1, v) else kv)
  | _, _, .nil => .nil
  | _, _, .cons (k := j) h t => by
    rw [List.map_cons, List.map_cons]
    show RpK K F ((if PyData.eqv (keyD j) (keyD k) = true then (keyD j, d) else (keyD j, _)) :: _) _
    rw [eqv_key]
    by_cases hj : j = k
    · rw [if_pos (by simpa using hj), if_pos hj]
      exact .cons r (RpK.repl k r t)
    · rw [if_neg (by simpa using hj), if_neg hj]
      exact .cons h (RpK.repl k r t)
theorem RpT.repl (k : List Key) {d : D} {v : V} (r : Rp K F d v) : ∀ {kds : List (D × D)} {kvs : List (List Key × V)}, RpT K F kds kvs → RpT K F (kds.map fun p => if PyData.eqv p.1 (.tuple (k.map keyD)) then (p.1, d) else p) (kvs.map fun kv => if kv.1 = k then (kv.1, v) else kv)
  | _, _, .nil => .nil
  | _, _, .cons (k := j) h t => by
    rw [List.map_cons, List.map_cons]
    show RpT K F ((if PyData.eqv (.tuple (j.map keyD)) (.tuple (k.map keyD)) = true then (.tuple (j.map keyD), d) else (.tuple (j.map keyD), _)) :: _) _
    rw [eqv_tkeys]
    by_cases hj : j = k
    · rw [if_pos (by simpa using hj), if_pos hj]
      exact .cons r (RpT.repl k r t)
    · rw [if_neg (by simpa using hj), if_neg hj]
      exact .cons h (RpT.repl k r t)
theorem RpK.put (k : Key) {d : D} {v : V} (r : Rp K F d v) {kds : List (D × D)} {kvs : List (Key × V)} (h : RpK K F kds kvs) : RpK K F (dPut kds (keyD k) d) (putK kvs k v) := by
  unfold dPut putK
  rw [h.has k]
  split
  · exact h.repl k r
  · exact h.snoc k r
theorem RpT.put (k : List Key) {d : D} {v : V} (r : Rp K F d v) {kds : List (D × D)} {kvs : List (List Key × V)} (h : RpT K F kds kvs) : RpT K F (dPut kds (.tuple (k.map keyD)) d) (putK kvs k v) := by
  unfold dPut putK
  rw [h.has k]
  split
  · exact h.repl k r
  · exact h.snoc k r
theorem RpK.length : ∀ {kds : List (D × D)} {kvs : List (Key × V)}, RpK K F kds kvs → kvs.length = kds.length
  | _, _, .nil => rfl
  | _, _, .cons _ t => by rw [List.length_cons, List.length_cons, RpK.length t]
theorem RpT.length : ∀ {kds : List (D × D)} {kvs : List (List Key × V)}, RpT K F kds kvs → kvs.length = kds.length
  | _, _, .nil => rfl
  | _, _, .cons _ t => by rw [List.length_cons, List.length_cons, RpT.length t]
theorem keysL_vs : ∀ {ks : List Key} {vs : List V}, RpL K F (ks.map keyD) vs → vs = ks.map kV
  | [], _, h => by cases h; rfl
  | k :: ks, _, h => by
    rw [List.map_cons] at h
    cases h with
    | cons h1 h2 =>
      rw [keysL_vs h2, List.map_cons]
      cases k with
      | inl i => cases h1; rfl
      | inr x => cases h1; rfl
/-- the first key is no mark -/
def notMk : List (D × D) → Bool
  | (.none, _) :: _ => false
  | (.bool _, _) :: _ => false
  | _ => true
/-- a dict that is read -/
theorem RpB.dictK (s : Sub F H) {kds : List (D × D)} {v : V} (h : RpB K F H (.dict kds) v) (hn : notMk kds = true) : ∃ a kvs, v = .ref a ∧ Rd H a (.dK kvs) ∧ RpK K F kds kvs := by
  rcases h with h | ⟨a, o, rfl, _, h1, h2⟩
  · generalize hz : PyData.dict kds = z at h
    cases h with
    | non => cases hz
    | bl => cases hz
    | int => cases hz
    | str => cases hz
    | lst => cases hz
    | tup => cases hz
    | dK h1 h2 =>
      injection hz with hz
      subst hz
      exact ⟨_, _, rfl, s.rd h1, h2⟩
    | dT h1 h2 =>
      injection hz with hz
      subst hz
      cases hn
    | scr h =>
      unfold scrD at hz
      injection hz with hz
      subst hz
      cases hn
  · generalize hz : PyData.dict kds = z at h2
    cases h2 with
    | lst => cases hz
    | dK h2 =>
      injection hz with hz
      subst hz
      exact ⟨a, _, rfl, .inl h1, h2⟩
    | dT h2 =>
      injection hz with hz
      subst hz
      cases hn
theorem RpK.nb {l : List (D × D)} {kvs : List (Key × V)} (h : RpK K F l kvs) {b : Bool} {d : D} {r : List (D × D)} (e : l = (.bool b, d) :: r) : False := by
  cases h with
  | nil => cases e
  | @cons k _ _ _ _ _ _ =>
    injection e with e1 _
    injection e1 with e2 _
    cases k <;> cases e2
theorem RpB.dictT (s : Sub F H) {kds : List (D × D)} {v : V} (h : RpB K F H (.dict ((.bool true, .none) :: kds)) v) : ∃ a kvs, v = .ref a ∧ Rd H a (.dT kvs) ∧ RpT K F kds kvs := by
  rcases h with h | ⟨a, o, rfl, _, h1, h2⟩
  · generalize hz : PyData.dict ((.bool true, .none) :: kds) = z at h
    cases h with
    | non => cases hz
    | bl => cases hz
    | int => cases hz
    | str => cases hz
    | lst => cases hz
    | tup => cases hz
    | dK h1 h2 =>
      injection hz with hz
      exact (h2.nb hz.symm).elim
    | dT h1 h2 =>
      injection hz with hz
      injection hz with _ hz
      subst hz
      exact ⟨_, _, rfl, s.rd h1, h2⟩
    | scr h =>
      unfold scrD at hz
      injection hz with hz
      injection hz with hz _
      injection hz with hz _
      cases hz
  · generalize hz : PyData.dict ((.bool true, .none) :: kds) = z at h2
    cases h2 with
    | lst => cases hz
    | dK h2 =>
      injection hz with hz
      exact (h2.nb hz.symm).elim
    | dT h2 =>
      injection hz with hz
      injection hz with _ hz
      subst hz
      exact ⟨a, _, rfl, .inl h1, h2⟩
end
/-! ### d[k], k in d, d.get(k, x) -/
/-- the dict's pairs, if k may be one of its keys -/
def dkOf : D → D → Option (List (D × D))
  | .dict kds, k => match kds, k with
    | (.bool true, .none) :: r, .tuple ds => if (keysOf ds).isSome then some r else none
    | kds, k => if notMk kds && (keyOf k).isSome then some kds else none
  | _, _ => none
section
variable {K : PySem.W.Frag} {F H : Hp}
theorem dget_of (s : Sub F H) {d : D} {k : D} {kds : List (D × D)} {x y : V} (hx : RpB K F H d x) (hk : dkOf d k = some kds) (hy : RpB K F H k y) :
    ∃ a, x = .ref a ∧ ((dGet kds k = none ∧ DGet H a y none) ∨ ∃ v d, dGet kds k = some d ∧ DGet H a y (some v) ∧ Rp K F d v) := by
  unfold dkOf at hk
  split at hk
  · split at hk
    · rename_i r ds
      split at hk
      · rename_i h
        cases hk
        rw [Option.isSome_iff_exists] at h
        obtain ⟨ks, hks⟩ := h
        have := keysOf_eq hks
        subst this
        obtain ⟨b, us, rfl, hb, rb⟩ := hy.tuple s
        rw [keysL_vs rb] at hb
        obtain ⟨a, kvs, rfl, h1, h2⟩ := hx.dictT s
        refine ⟨a, rfl, ?_⟩
        rcases h2.get ks with ⟨g1, g2⟩ | ⟨v, d, g1, g2, g3⟩
        · exact .inl ⟨g2, .inr ⟨kvs, ks, b, h1, rfl, hb, g1.symm⟩⟩
        · exact .inr ⟨v, d, g2, .inr ⟨kvs, ks, b, h1, rfl, hb, g1.symm⟩, g3⟩
      · cases hk
    · split at hk
      · rename_i h
        cases hk
        rw [Bool.and_eq_true] at h
        obtain ⟨h1, h2⟩ := h
        rw [Option.isSome_iff_exists] at h2
        obtain ⟨j, hj⟩ := h2
        have := keyOf_eq hj
        subst this
        have ey : y = kV j := by
          cases j with
          | inl i => exact hy.int
          | inr x => exact hy.str
        subst ey
        obtain ⟨a, kvs, rfl, h1, h2⟩ := hx.dictK s h1
        refine ⟨a, rfl, ?_⟩
        rcases h2.get j with ⟨g1, g2⟩ | ⟨v, d, g1, g2, g3⟩
        · exact .inl ⟨g2, .inl ⟨kvs, j, h1, rfl, g1.symm⟩⟩
        · exact .inr ⟨v, d, g2, .inl ⟨kvs, j, h1, rfl, g1.symm⟩, g3⟩
      · cases hk
  · cases hk
end
theorem dk_isD {K : PySem.W.Frag} {F H : Hp} (s : Sub F H) {d : D} {k : D} {kds : List (D × D)} {x : V} (hx : RpB K F H d x) (hk : dkOf d k = some kds) : ∃ p, x = .ref p ∧ IsD H p := by
  unfold dkOf at hk
  split at hk
  · split at hk
    · obtain ⟨p, kvs, e, g, _⟩ := hx.dictT s
      exact ⟨p, e, .inr ⟨_, g⟩⟩
    · split at hk
      · rename_i hn
        rw [Bool.and_eq_true] at hn
        obtain ⟨p, kvs, e, g, _⟩ := hx.dictK s hn.1
        exact ⟨p, e, .inl ⟨_, g⟩⟩
      · cases hk
  · cases hk
section
variable {X : Cx} {a b c : Expr} {f g h : Den} {pos : Pos}
def dgetD (d k : D) : Option D := (dkOf d k).bind fun kds => dGet kds k
def dgetD3 (d k x : D) : Option D := (dkOf d k).bind fun kds => some ((dGet kds k).getD x)
def inK (k d : D) : Option Bool := (dkOf d k).bind fun kds => some (dHas kds k)
def ninK (k d : D) : Option Bool := (dkOf d k).bind fun kds => some (!dHas kds k)
def d3 (op : D → D → D → Option D) (f g h : Den) : Den := fun ρ => (f ρ).bind fun x => (g ρ).bind fun y => (h ρ).bind fun z => op x y z
theorem ex_dget (hu : X.A.units + 1 < cLine) (ha : EB X a f) (hb : EB X b g) (hs : NoSl b) : EX X (.Subscript a b pos) (d2 dgetD f g) :=
  mkX (pe_dget hu ha.pe hb.pe hs) fun σ H Q ρ F d e h k => by
    simp only [d2, dgetD, Option.bind_eq_some_iff] at h
    obtain ⟨x, h1, y, h2, kds, h3, h4⟩ := h
    refine ⟨ρ, F, x, e, h1, fun u F1 H1 x1 r1 => ⟨ρ, F1, y, e.ext x1, h2, fun v F2 H2 x2 r2 => ?_⟩⟩
    obtain ⟨p, rfl, g⟩ := dget_of x2.le (r1.ext x2) h3 r2
    rcases g with ⟨g1, _⟩ | ⟨w, d', g1, g2, g3⟩
    · rw [h4] at g1; cases g1
    · rw [h4] at g1
      cases g1
      exact ⟨p, w, rfl, g2, k w F2 H2 (x1.trans x2) g3⟩
theorem ec_inK (hu : X.A.units + 1 < cLine) (ha : EB X a f) (hb : EB X b g) : EC X .In a b (b2 inK f g) :=
  ⟨PC.imp (pc_din hu ha.pe hb.pe) fun σ H Q ⟨ρ, F, d, e, h, k⟩ => by
    simp only [b2, inK, Option.bind_eq_some_iff, Option.some.injEq] at h
    obtain ⟨x, h1, y, h2, kds, h3, rfl⟩ := h
    refine ⟨ρ, F, x, e, h1, fun u F1 H1 x1 r1 => ⟨ρ, F1, y, e.ext x1, h2, fun v F2 H2 x2 r2 => ?_⟩⟩
    obtain ⟨p, rfl, g⟩ := dget_of x2.le r2 h3 (r1.ext x2)
    rw [dHas_iff] at k
    rcases g with ⟨g1, g2⟩ | ⟨w, d', g1, g2, g3⟩
    · rw [g1] at k
      exact ⟨p, _, rfl, g2, k F2 H2 (x1.trans x2)⟩
    · rw [g1] at k
      exact ⟨p, _, rfl, g2, k F2 H2 (x1.trans x2)⟩⟩
theorem ec_ninK (hu : X.A.units + 1 < cLine) (ha : EB X a f) (hb : EB X b g) : EC X .NotIn a b (b2 ninK f g) :=
  ⟨PC.imp (pc_dnotin hu ha.pe hb.pe) fun σ H Q ⟨ρ, F, d, e, h, k⟩ => by
    simp only [b2, ninK, Option.bind_eq_some_iff, Option.some.injEq] at h
    obtain ⟨x, h1, y, h2, kds, h3, rfl⟩ := h
    refine ⟨ρ, F, x, e, h1, fun u F1 H1 x1 r1 => ⟨ρ, F1, y, e.ext x1, h2, fun v F2 H2 x2 r2 => ?_⟩⟩
    obtain ⟨p, rfl, g⟩ := dget_of x2.le r2 h3 (r1.ext x2)
    rw [dHas_iff] at k
    rcases g with ⟨g1, g2⟩ | ⟨w, d', g1, g2, g3⟩
    · rw [g1] at k
      exact ⟨p, _, rfl, g2, k F2 H2 (x1.trans x2)⟩
    · rw [g1] at k
      exact ⟨p, _, rfl, g2, k F2 H2 (x1.trans x2)⟩⟩
theorem ex_dget3 {apos cpos : Pos} (hu : X.A.units + 1 < cLine) (ha : EB X a f) (hb : EB X b g) (hc : EX X c h) (m : M2 X a "get" apos b c cpos) : EX X (.Call (.Attribute a "get" apos) [b, c] [] cpos) (d3 dgetD3 f g h) :=
  mkX (pe_dget2 hu ha.pe hb.pe hc.pe m) fun σ H Q ρ F d e h k => by
    simp only [d3, dgetD3, Option.bind_eq_some_iff, Option.some.injEq] at h
    obtain ⟨x, h1, y, h2, z, h3, kds, h4, rfl⟩ := h
    refine ⟨ρ, F, x, e, h1, fun u F1 H1 x1 r1 => ?_⟩
    obtain ⟨p, rfl, hd⟩ := dk_isD x1.le r1 h4
    refine ⟨p, rfl, hd, ρ, F1, y, e.ext x1, h2, fun v F2 H2 x2 r2 => ⟨ρ, F2, z, (e.ext x1).ext x2, h3, fun w F3 H3 x3 r3 => ?_⟩⟩
    obtain ⟨q, eq, g⟩ := dget_of x3.le ((r1.ext x2).ext x3) h4 (r2.ext x3)
    cases eq
    rcases g with ⟨g1, g2⟩ | ⟨v', d', g1, g2, g3⟩
    · rw [g1] at k
      exact ⟨_, g2, k _ F3 H3 ((x1.trans x2).trans x3) r3⟩
    · rw [g1] at k
      exact ⟨_, g2, k _ F3 H3 ((x1.trans x2).trans x3) g3⟩
theorem en_dK : EN X (.Dict [] [] pos) (kD (.dict [])) :=
  mkN pe_dnewK fun σ H Q ρ F d e h k => by
    cases h
    exact fun p hp => k p _ F _ (.own e.sub hp) (e.sub.free hp) hp upd_same (.dK .nil)
theorem en_dT : EN X (.Dict [] [] pos) (kD (.dict [(.bool true, .none)])) :=
  mkN pe_dnewT fun σ H Q ρ F d e h k => by
    cases h
    exact fun p hp => k p _ F _ (.own e.sub hp) (e.sub.free hp) hp upd_same (.dT .nil)
end
end Zx
/-! Zx7: stores, changes of one's own lists and dicts, loops. -/
namespace Zx
open PySem PySem.Spec L2
section
variable {X : Cx} {st : Stmt} {sts : List Stmt} {f g : DenS} {fd fe : Den} {fl : DenL} {fb : DenB} {a b : Expr} {pos : Pos} {K : PySem.W.Frag} {F0 H0 F H F1 H1 : Hp} {ρ : Env} {σ : L2.St}
theorem EnvS.tgt {ρ' : Env} {σ' : L2.St} (e : EnvS K F0 H0 ρ σ F H) (e' : EnvOk K ρ' σ' F H) (o : OwK ρ σ ρ' σ') : EnvS K F0 H0 ρ' σ' F H :=
  ⟨e', e.ext, fun j d a h1 h2 => by
    obtain ⟨g1, g2⟩ := o j d h1
    exact e.own j d a g1 (g2 ▸ h2)⟩
theorem sx_asg {tg : Expr} {ws : List Nat} {g : DenG} (ha : EX X a fd) (hg : EG X tg ws g) (hs : swapsWithSole [tg] a pos.line X.env = pure false) (hw : swappedStores [tg] a X.env = pure none)
    (h1 : (assignEach [tg] X.env).map (·.2) = [assign tg X.env]) : SX X (.Assign [tg] a pos) (sAsg g fd) := sx_mk (ps_asg ha.pe hg.pg hs hw h1) fun D σ H F0 H0 ρ F o e h k => by
  simp only [sAsg, Option.bind_eq_some_iff, Option.some.injEq] at h
  obtain ⟨d, h1, ρ', h2, rfl⟩ := h
  exact ⟨ρ, F, d, e.env, h1, fun v F' H' x r => ⟨ρ, F', d, ρ', e.env.ext x, r, h2, fun σ' e' _ o' => k σ' F' H' ((e.to x).tgt e' o')⟩⟩
def sPar (i j : Nat) (f : DenL) : DenS := fun ρ => (f ρ).bind fun ds => match ds with | [d, e] => some (.nx ((ρ.set i (.fz d)).set j (.fz e))) | _ => none
theorem sx_par (i j : Nat) {x y : Str} {px py pt : Pos} {kt k2 pt2} (hc : X.calm = true) (hN : X.N.Nodup) (hi : X.N[i]? = some x) (hj : X.N[j]? = some y) (hij : i ≠ j)
    (hx : X.env.scope.names.lookup x = some .local) (hy : X.env.scope.names.lookup y = some .local) (ha : EA X [a, b] fl)
    (hw : swappedStores [.Tuple [.Name x px, .Name y py] kt pt] (.Tuple [a, b] k2 pt2) X.env = pure (some [x, y]))
    (hs : swapsWithSole [.Tuple [.Name x px, .Name y py] kt pt] (.Tuple [a, b] k2 pt2) pos.line X.env = pure false) :
    SX X (.Assign [.Tuple [.Name x px, .Name y py] kt pt] (.Tuple [a, b] k2 pt2) pos) (sPar i j fl) := sx_mk (ps_par hc hN hi hj hij hx hy ha.pa hw hs) fun D σ H F0 H0 ρ F o e h k => by
  simp only [sPar, Option.bind_eq_some_iff] at h
  obtain ⟨ds, h1, h2⟩ := h
  refine ⟨ρ, F, ds, e.env, h1, fun vs F' H' x r => ?_⟩
  split at h2
  · cases h2
    cases r with
    | cons r1 r =>
      cases r with
      | cons r2 r =>
        cases r
        exact ⟨_, _, rfl, k _ F' H' (((e.to x).set r1).set r2)⟩
  · cases h2
def sPar3 (i j l : Nat) (f : DenL) : DenS := fun ρ => (f ρ).bind fun ds => match ds with | [d, e, c] => some (.nx (((ρ.set i (.fz d)).set j (.fz e)).set l (.fz c))) | _ => none
/-! ### one's own list or dict changed -/
theorem EnvS.put {i : Nat} {d d' : D} {p : Addr} {o : HO} (e : EnvS K F0 H0 ρ σ F H) (hs : ρ[i]? = some (.ow d)) (hv : σ[i]? = some (some (.ref p))) (r : OwnRep K F d' o) : EnvS K F0 H0 (ρ.set i (.ow d')) σ F (upd H p o) := by
  obtain ⟨ov, h1, q, o1, h2, h3, h4, h5⟩ := e.env.at_ i _ hs
  rw [hv] at h1
  cases h1
  cases h2
  have hl : i < ρ.length := (List.getElem?_eq_some_iff.mp hs).1
  have hH0 : H0 p = none := e.own i d p hs hv
  have sub : Sub F (upd H p o) := fun b u hb => by
    rw [upd_ne (ne_of_none hb h3)]
    exact e.env.sub b u hb
  have z : ∀ {j : Nat} {d1 : D}, (ρ.set i (.ow d'))[j]? = some (.ow d1) → ∃ d2, ρ[j]? = some (.ow d2) := fun {j d1} h => by
    by_cases hj : i = j
    · subst hj
      exact ⟨d, hs⟩
    · rw [List.getElem?_set_ne hj] at h
      exact ⟨d1, h⟩
  refine ⟨⟨sub, by rw [List.length_set]; exact e.env.len, fun j s hj => ?_, fun j k d1 d2 b g1 g2 g3 g4 => ?_⟩, ⟨e.ext.f, fun b u hb => ?_, sub, e.ext.new⟩, fun j d1 b g1 g2 => ?_⟩
  · by_cases hij : i = j
    · subst hij
      rw [List.getElem?_set_self hl] at hj
      cases hj
      exact ⟨_, hv, p, o, rfl, h3, upd_same, r⟩
    · rw [List.getElem?_set_ne hij] at hj
      obtain ⟨ov, g1, g2⟩ := e.env.at_ j s hj
      refine ⟨ov, g1, ?_⟩
      cases s with
      | no => trivial
      | fz d' => exact g2
      | ow d' =>
        obtain ⟨b, u, g3, g4, g5, g6⟩ := g2
        refine ⟨b, u, g3, g4, ?_, g6⟩
        rw [upd_ne]
        · exact g5
        · rintro rfl
          subst g3
          exact hij (e.env.dist i j d d' b hs hj hv g1)
  · obtain ⟨d3, g5⟩ := z g1
    obtain ⟨d4, g6⟩ := z g2
    exact e.env.dist j k d3 d4 b g5 g6 g3 g4
  · rw [upd_ne (ne_of_none hb hH0)]
    exact e.ext.h b u hb
  · obtain ⟨d3, g5⟩ := z g1
    exact e.own j d3 b g5 g2
/-- the slot's own list -/
def owL (ρ : Env) (i : Nat) : Option (List D) := match ρ[i]? with | some (.ow (.list xs)) => some xs | _ => none
theorem owL_at {i : Nat} {xs : List D} (e : EnvS K F0 H0 ρ σ F H) (h : owL ρ i = some xs) : ρ[i]? = some (.ow (.list xs)) ∧ ∃ p vs, σ[i]? = some (some (.ref p)) ∧ F p = none ∧ H p = some (.lst vs) ∧ RpL K F xs vs := by
  unfold owL at h
  split at h
  · rename_i hs
    cases h
    obtain ⟨ov, h1, q, o1, h2, h3, h4, h5⟩ := e.env.at_ i _ hs
    subst h2
    cases h5 with
    | lst h5 => exact ⟨hs, q, _, h1, h3, h4, h5⟩
  · cases h
def sApp (i : Nat) (f : Den) : DenS := fun ρ => (f ρ).bind fun d => (owL ρ i).bind fun xs => if xs.length < 1000000 then some (.nx (ρ.set i (.ow (.list (xs ++ [d]))))) else none
theorem sx_append (i : Nat) {x : Str} {p apos cpos : Pos} (hN : X.N[i]? = some x) (hv : visB X.env.scope x = true) (hd : (x == ("__debug__" : Str)) = false) (hcd : (x == ("__classdict__" : Str)) = false) (ha : EX X a fd) (hs : N1 X a)
    (hline : (apos.endLine == cpos.line) = true) :
    SX X (.Expr (.Call (.Attribute (.Name x p) "append" apos) [a] [] cpos) pos) (sApp i fd) :=
  sx_mk (ps_expr (pe_bm PySem.F.plainAttrs_list PySem.F.slot_list_append PySem.F.type_list_append mt_append (pe_var hN (vis_of hv) hd hcd) (pa_cons ha.pe pa_nil hs) rfl (by rw [hs]; rfl) hline hs rfl)) fun D σ H F0 H0 ρ F o e h k => by
    simp only [sApp, Option.bind_eq_some_iff] at h
    obtain ⟨d, h1, xs, h2, h3⟩ := h
    split at h3
    · rename_i hl
      cases h3
      obtain ⟨g1, q, vs, g2, g3, g4, g5⟩ := owL_at e h2
      refine ⟨_, g2, .inl ⟨rfl, vs, .inl (.inl g4)⟩, ρ, F, d, e.env, h1, fun w F' H' x r => ?_⟩
      have e' := e.to x
      refine ⟨q, vs, w, rfl, rfl, x.h _ _ g4, by rw [g5.length]; exact line_lt hl, ?_⟩
      exact k _ F' _ (e'.put g1 g2 (.lst ((g5.mono x.f).append (.one r))))
    · cases h3
def listOf : D → Option (List D) | .list xs => some xs | _ => none
def sExt (i : Nat) (f : Den) : DenS := fun ρ => (f ρ).bind fun d => (listOf d).bind fun ys => (owL ρ i).bind fun xs => if xs.length + ys.length ≤ 1000000 then some (.nx (ρ.set i (.ow (.list (xs ++ ys))))) else none
theorem sx_extend (i : Nat) {x : Str} {p apos cpos : Pos} (hN : X.N[i]? = some x) (hv : visB X.env.scope x = true) (hd : (x == ("__debug__" : Str)) = false) (hcd : (x == ("__classdict__" : Str)) = false) (ha : EX X a fd) (hs : N1 X a)
    (hline : (apos.endLine == cpos.line) = true) :
    SX X (.Expr (.Call (.Attribute (.Name x p) "extend" apos) [a] [] cpos) pos) (sExt i fd) :=
  sx_mk (ps_expr (pe_bm PySem.F.plainAttrs_list PySem.F.slot_list_extend PySem.F.type_list_extend mt_extend (pe_var hN (vis_of hv) hd hcd) (pa_cons ha.pe pa_nil hs) rfl (by rw [hs]; rfl) hline hs rfl)) fun D σ H F0 H0 ρ F o e h k => by
    simp only [sExt, Option.bind_eq_some_iff] at h
    obtain ⟨d, h1, ys, h0, xs, h2, h3⟩ := h
    split at h3
    · rename_i hl
      cases h3
      obtain ⟨g1, q, vs, g2, g3, g4, g5⟩ := owL_at e h2
      refine ⟨_, g2, .inl ⟨rfl, vs, .inl (.inl g4)⟩, ρ, F, d, e.env, h1, fun w F' H' x r => ?_⟩
      have e' := e.to x
      cases d <;> simp only [listOf, reduceCtorEq, Option.some.injEq] at h0
      subst h0
      cases r with
      | lst r1 r2 =>
        refine ⟨q, _, vs, _, rfl, rfl, x.h _ _ g4, x.le _ _ r1, by rw [g5.length, r2.length]; exact line_of hl, ?_⟩
        exact k _ F' _ (e'.put g1 g2 (.lst ((g5.mono x.f).append r2)))
    · cases h3
/-- x[j] = e -/
def sStL (i : Nat) (fj f : Den) : DenS := fun ρ => (f ρ).bind fun d => (fj ρ).bind fun j => (owL ρ i).bind fun xs => match j with
  | .int j => (ixN xs.length j).bind fun n => some (.nx (ρ.set i (.ow (.list (xs.set n d)))))
  | _ => none
theorem sx_setL (i : Nat) {x : Str} {p tpos : Pos} {fj : Den} (hN : X.N[i]? = some x) (hv : visB X.env.scope x = true) (hd : (x == ("__debug__" : Str)) = false) (hcd : (x == ("__classdict__" : Str)) = false) (ha : EX X a fd) (hb : EB X b fj)
    (has : ∀ v, assign (.Subscript (.Name x p) b tpos) X.env v = (do
      let ov ← holding [v] (eval (.Name x p) X.env)
      let iv ← holding [v, ov] (eval b X.env)
      standAt tpos
      holding [v, ov, iv] (setItem ov iv v)
      release [v, ov, iv] []))
    (hs : swapsWithSole [.Subscript (.Name x p) b tpos] a pos.line X.env = pure false) (hw : swappedStores [.Subscript (.Name x p) b tpos] a X.env = pure none)
    (h1 : (assignEach [.Subscript (.Name x p) b tpos] X.env).map (·.2) = [assign (.Subscript (.Name x p) b tpos) X.env]) : SX X (.Assign [.Subscript (.Name x p) b tpos] a pos) (sStL i fj fd) :=
  sx_mk (ps_asg ha.pe (pg_sub (pe_var hN (vis_of hv) hd hcd) hb.pe set_list has) hs hw h1) fun D σ H F0 H0 ρ F o e h k => by
    simp only [sStL, Option.bind_eq_some_iff] at h
    obtain ⟨d, h1, j, h2, xs, h3, h4⟩ := h
    cases j <;> simp only [reduceCtorEq, Option.bind_eq_some_iff, Option.some.injEq] at h4
    obtain ⟨n, h4, rfl⟩ := h4
    refine ⟨ρ, F, d, e.env, h1, fun w F1 H1 x1 r1 => ?_⟩
    have e1 := e.to x1
    obtain ⟨g1, q, vs, g2, g3, g4, g5⟩ := owL_at e1 h3
    refine ⟨_, g2, ρ, F1, _, e1.env, h2, fun u F2 H2 x2 r2 => ?_⟩
    have e2 := e1.to x2
    refine ⟨q, vs, _, n, rfl, r2.int, x2.h _ _ g4, by rw [g5.length]; exact h4, ?_⟩
    exact k _ F2 _ (e2.put g1 g2 (.lst ((g5.mono x2.f).set (r1.mono x2.f) n)))
/-- the slot's own dict -/
def owD (ρ : Env) (i : Nat) : Option (List (D × D)) := match ρ[i]? with | some (.ow (.dict xs)) => some xs | _ => none
/-- d[k] = v, the pairs behind it -/
def putD (kds : List (D × D)) (k v : D) : Option (List (D × D)) := match kds, k with
    | (.bool true, .none) :: r, .tuple ds => if (keysOf ds).isSome && decide (r.length < 1000000) then some ((.bool true, .none) :: dPut r (.tuple ds) v) else none
    | kds, k => if notMk kds && (keyOf k).isSome && decide (kds.length < 1000000) then some (dPut kds k v) else none
def sStD (i : Nat) (fk f : Den) : DenS := fun ρ => (f ρ).bind fun d => (fk ρ).bind fun j => (owD ρ i).bind fun xs => (putD xs j d).bind fun ys => some (.nx (ρ.set i (.ow (.dict ys))))
theorem owD_at {i : Nat} {xs : List (D × D)} (e : EnvS K F0 H0 ρ σ F H) (h : owD ρ i = some xs) : ρ[i]? = some (.ow (.dict xs)) ∧ ∃ p o, σ[i]? = some (some (.ref p)) ∧ F p = none ∧ H p = some o ∧ OwnRep K F (.dict xs) o := by
  unfold owD at h
  split at h
  · rename_i hs
    cases h
    obtain ⟨ov, h1, q, o1, h2, h3, h4, h5⟩ := e.env.at_ i _ hs
    subst h2
    exact ⟨hs, q, o1, h1, h3, h4, h5⟩
  · cases h
theorem OwnRep.dK_of {kds : List (D × D)} {o : HO} (h : OwnRep K F (.dict kds) o) (hn : notMk kds = true) : ∃ kvs, o = .dK kvs ∧ RpK K F kds kvs := by
  generalize hz : PyData.dict kds = z at h
  cases h with
  | lst => cases hz
  | dK h2 =>
    injection hz with hz
    subst hz
    exact ⟨_, rfl, h2⟩
  | dT h2 =>
    injection hz with hz
    subst hz
    cases hn
theorem OwnRep.dT_of {kds : List (D × D)} {o : HO} (h : OwnRep K F (.dict ((.bool true, .none) :: kds)) o) : ∃ kvs, o = .dT kvs ∧ RpT K F kds kvs := by
  generalize hz : PyData.dict ((.bool true, .none) :: kds) = z at h
  cases h with
  | lst => cases hz
  | dK h2 =>
    injection hz with hz
    exact (h2.nb hz.symm).elim
  | dT h2 =>
    injection hz with hz
    injection hz with _ hz
    subst hz
    exact ⟨_, rfl, h2⟩
theorem put_of {kds kds' : List (D × D)} {k d : D} {o : HO} {p : Addr} {y v : V} (s : Sub F H) (ho : H p = some o) (h : OwnRep K F (.dict kds) o) (hk : putD kds k d = some kds') (hy : RpB K F H k y) (hv : Rp K F d v) :
    ∃ o', DPut H p y v (upd H p o') ∧ OwnRep K F (.dict kds') o' := by
  unfold putD at hk
  split at hk
  · rename_i r ds
    split at hk
    · rename_i h1
      cases hk
      rw [Bool.and_eq_true] at h1
      obtain ⟨h1, hl⟩ := h1
      have hl := of_decide_eq_true hl
      rw [Option.isSome_iff_exists] at h1
      obtain ⟨ks, hks⟩ := h1
      have := keysOf_eq hks
      subst this
      obtain ⟨b, us, rfl, hb, rb⟩ := hy.tuple s
      rw [keysL_vs rb] at hb
      obtain ⟨kvs, rfl, h2⟩ := h.dT_of
      exact ⟨_, .t ho hb (by rw [h2.length]; exact line_lt hl), .dT (h2.put ks hv)⟩
    · cases hk
  · split at hk
    · rename_i h1
      cases hk
      rw [Bool.and_eq_true, Bool.and_eq_true] at h1
      obtain ⟨⟨h1, h2⟩, hl⟩ := h1
      have hl := of_decide_eq_true hl
      rw [Option.isSome_iff_exists] at h2
      obtain ⟨j, hj⟩ := h2
      have := keyOf_eq hj
      subst this
      have ey : y = kV j := by
        cases j with
        | inl i => exact hy.int
        | inr x => exact hy.str
      subst ey
      obtain ⟨kvs, rfl, h2⟩ := h.dK_of h1
      exact ⟨_, .k ho (by rw [h2.length]; exact line_lt hl), .dK (h2.put j hv)⟩
    · cases hk
theorem sx_setD (i : Nat) {x : Str} {p tpos : Pos} {fj : Den} (hu : X.A.units + 1 < cLine) (hN : X.N[i]? = some x) (hv : visB X.env.scope x = true) (hd : (x == ("__debug__" : Str)) = false) (hcd : (x == ("__classdict__" : Str)) = false) (ha : EX X a fd) (hb : EX X b fj)
    (hs : swapsWith a (some (.Subscript (.Name x p) b tpos)) pos.line X.env = pure false) : SX X (.Assign [.Subscript (.Name x p) b tpos] a pos) (sStD i fj fd) :=
  sx_mk (ps_dput hu (pe_var hN (vis_of hv) hd hcd) hb.pe ha.pe hs) fun D σ H F0 H0 ρ F o e h k => by
    simp only [sStD, Option.bind_eq_some_iff, Option.some.injEq] at h
    obtain ⟨d, h1, j, h2, xs, h3, ys, h4, rfl⟩ := h
    refine ⟨ρ, F, d, e.env, h1, fun w F1 H1 x1 r1 => ?_⟩
    have e1 := e.to x1
    obtain ⟨g1, q, ob, g2, g3, g4, g5⟩ := owD_at e1 h3
    refine ⟨_, g2, ρ, F1, _, e1.env, h2, fun u F2 H2 x2 r2 => ?_⟩
    have e2 := e1.to x2
    obtain ⟨o', p1, p2⟩ := put_of x2.le (x2.h _ _ g4) (g5.mono x2.f) h4 (.inl r2) (r1.mono x2.f)
    exact ⟨q, _, rfl, p1, k _ F2 _ (e2.put g1 g2 p2)⟩
/-! ### loops -/
def forL (g : DenG) (fb : DenS) : List D → DenS
  | [], ρ => some (.nx ρ)
  | d :: ds, ρ => (g d ρ).bind fun ρ1 => (fb ρ1).bind fun o => match o with
    | .nx ρ' => forL g fb ds ρ'
    | .ct ρ' => forL g fb ds ρ'
    | .bk ρ' => some (.nx ρ')
    | o => some o
def sFor (fi : DenI) (g : DenG) (fb : DenS) : DenS := fun ρ => (fi ρ).bind fun ds => forL g fb ds ρ
/-- the same from a later base -/
theorem EnvS.rebase (e : EnvS K F0 H0 ρ σ F1 H1) : ∃ Hx, Ext F0 H0 F1 Hx ∧ EnvS K F1 Hx ρ σ F1 H1 := by
  have hx : ∀ a, F1 a = none → H0 a = none → (match F1 a with | some o => some o | none => H0 a) = none := fun a h1 h2 => by rw [h1]; exact h2
  refine ⟨fun a => match F1 a with | some o => some o | none => H0 a, ⟨e.ext.f, fun a o h => ?_, fun a o h => ?_, e.ext.new⟩, ⟨e.env, ⟨.refl _, fun a o h => ?_, e.env.sub, fun _ _ h => h⟩, fun i d a h1 h2 => ?_⟩⟩
  · cases q : F1 a with
    | none => exact h
    | some u =>
      have h1 := e.env.sub a u q
      rw [e.ext.h a o h] at h1
      cases h1
      rfl
  · show (match F1 a with | some o => some o | none => H0 a) = some o
    rw [h]
  · have h' : (match F1 a with | some o => some o | none => H0 a) = some o := h
    cases q : F1 a with
    | none =>
      rw [q] at h'
      exact e.ext.h a o h'
    | some u =>
      rw [q] at h'
      cases h'
      exact e.env.sub a _ q
  · refine hx a ?_ (e.own i d a h1 h2)
    obtain ⟨ov, g1, b, o, g2, g3, _⟩ := e.env.at_ i _ h1
    rw [h2] at g1
    cases g1
    cases g2
    exact g3
theorem EnvS.unbase {Fx Hx : Hp} (x : Ext F0 H0 Fx Hx) (e : EnvS K Fx Hx ρ σ F H) : EnvS K F0 H0 ρ σ F H := ⟨e.env, x.trans e.ext, fun i d a h1 h2 => x.h.free (e.own i d a h1 h2)⟩
theorem Post.base {D : Ends} {o : Out} {Fx Hx : Hp} (x : Ext F0 H0 Fx Hx) (h : Post K F0 H0 D o) : Post K Fx Hx D o := by
  cases o with
  | nx ρ => exact fun σ' F' H' e => h σ' F' H' (e.unbase x)
  | bk ρ => exact fun σ' F' H' e => h σ' F' H' (e.unbase x)
  | ct ρ => exact fun σ' F' H' e => h σ' F' H' (e.unbase x)
  | rt d => exact fun v F' H' e r => h v F' H' (x.trans e) r
  | rn d => exact fun a o F' H' e h1 h2 h3 h4 => h a o F' H' (x.trans e) h1 (x.h.free h2) h3 h4
theorem for_t {wi : TI} {g : DenG} {fbd : DenS} {ws : List Nat} {fi : DenI} {o : Out} {D : Ends} (hwi : ∀ ds R, fi ρ = some ds → (∀ J F2 H2, Ext F H F2 H2 → Walks K J F2 ds → R J H2) → wi σ H R) (e : EnvS K F0 H0 ρ σ F H) (h : sFor fi g fbd ρ = some o) (k : Post K F0 H0 D o) :
    tFor wi (tGt K ws g) (tSt K fbd) D σ H := by
  simp only [sFor, Option.bind_eq_some_iff] at h
  obtain ⟨ds, h1, h2⟩ := h
  refine hwi ds _ h1 fun J F1 H1 x1 w => ?_
  obtain ⟨Hx, xb, eb⟩ := (e.to x1).rebase
  have kb := k.base xb
  refine ⟨fun i m σ' H' => i ≤ ds.length ∧ m = ds.length - i ∧ ∃ ρ' F', EnvS K F1 Hx ρ' σ' F' H' ∧ forL g fbd (ds.drop i) ρ' = some o, ⟨_, Nat.zero_le _, rfl, ρ, F1, eb, by rw [List.drop_zero]; exact h2⟩, ?_⟩
  rintro i m σ' H' ⟨hle, rfl, ρ', F', e', hl⟩
  obtain ⟨w1, w2⟩ := w i F' H' e'.ext.f e'.env.sub
  by_cases hi : i < ds.length
  · have hd : ds.drop i = ds[i] :: ds.drop (i + 1) := List.drop_eq_getElem_cons hi
    rw [hd] at hl
    simp only [forL, Option.bind_eq_some_iff] at hl
    obtain ⟨ρ1, g1, o1, g2, g3⟩ := hl
    obtain ⟨w3, w4⟩ := w1 ds[i] (List.getElem?_eq_getElem hi)
    refine .inr ⟨w3, fun σ2 H2 => ∃ ρ2 F2, EnvS K F1 Hx ρ2 σ2 F2 H2 ∧ forL g fbd (ds.drop (i + 1)) ρ2 = some o, fun σ2 H2 hN => ⟨_, by omega, hi, rfl, hN⟩, fun x H2 hy => ?_⟩
    obtain ⟨F2, x2, r2⟩ := w4 x H2 hy
    have e2 := e'.to x2
    refine ⟨ρ', F2, ds[i], ρ1, e2.env, r2, g1, fun σ3 e3 _ o3 => ?_⟩
    refine ⟨F1, Hx, ρ1, F2, o1, e2.tgt e3 o3, g2, ?_⟩
    cases o1 with
    | nx ρ2 => exact fun σ4 F4 H4 e4 => ⟨ρ2, F4, e4, g3⟩
    | ct ρ2 => exact fun σ4 F4 H4 e4 => ⟨ρ2, F4, e4, g3⟩
    | bk ρ2 =>
      cases g3
      exact kb
    | rt d =>
      cases g3
      exact kb
    | rn d =>
      cases g3
      exact kb
  · have hd : ds.drop i = [] := List.drop_eq_nil_of_le (by omega)
    rw [hd] at hl
    cases hl
    exact .inl ⟨w2 (by omega), kb σ' F' H' e'⟩
theorem sx_for {X : Cx} {pos : Pos} {tg iter : Expr} {body : List Stmt} {ws : List Nat} {fi : DenI} {g : DenG} {fbd : DenS} (hp : PassesOwn (model X.prog X.w) X.A X.env X.xe) (hc : X.calm = true) (hi : EI X tg iter fi) (hg : EG X tg ws g) (hb : SXs X body fbd)
    (hs : ∀ x, foldedSetIterable iter X.env x = pure x) : SX X (.For tg iter body [] pos) (sFor fi g fbd) :=
  sx_mk (ps_for hp hc hi.pi hg.pg hb.pss hs) fun D σ H F0 H0 ρ F o e h k => for_t (fun ds R h1 w => ⟨ρ, F, ds, e.env, h1, w⟩) e h k
/-! ### while -/
def whL (c : DenB) (fb : DenS) : Nat → DenS
  | 0, _ => none
  | n + 1, ρ => (c ρ).bind fun b => if b then (fb ρ).bind fun o => match o with
      | .nx ρ' => whL c fb n ρ'
      | .ct ρ' => whL c fb n ρ'
      | .bk ρ' => some (.nx ρ')
      | o => some o
    else some (.nx ρ)
open Classical in
noncomputable def sWh (c : DenB) (fb : DenS) : DenS := fun ρ => if h : ∃ n o, whL c fb n ρ = some o then some (Classical.choose (Classical.choose_spec h)) else none
theorem sWh_ex {c : DenB} {fb : DenS} {ρ : Env} {o : Out} (h : sWh c fb ρ = some o) : ∃ n, whL c fb n ρ = some o := by
  unfold sWh at h
  split at h
  · rename_i hh
    cases h
    exact ⟨_, Classical.choose_spec (Classical.choose_spec hh)⟩
  · cases h
theorem whL_mono {c : DenB} {fb : DenS} : ∀ {n m : Nat} {ρ : Env} {o : Out}, n ≤ m → whL c fb n ρ = some o → whL c fb m ρ = some o
  | 0, _, _, _, _, h => by cases h
  | n + 1, 0, _, _, h, _ => by omega
  | n + 1, m + 1, ρ, o, hl, h => by
    simp only [whL, Option.bind_eq_some_iff] at h ⊢
    obtain ⟨b, h1, h2⟩ := h
    refine ⟨b, h1, ?_⟩
    cases b with
    | false => exact h2
    | true =>
      simp only [if_true, Option.bind_eq_some_iff] at h2 ⊢
      obtain ⟨o1, h3, h4⟩ := h2
      refine ⟨o1, h3, ?_⟩
      cases o1 with
      | nx ρ' => exact whL_mono (by omega) h4
      | ct ρ' => exact whL_mono (by omega) h4
      | bk ρ' => exact h4
      | rt d => exact h4
      | rn d => exact h4
theorem sWh_of {c : DenB} {fb : DenS} {ρ : Env} {o : Out} {n : Nat} (h : whL c fb n ρ = some o) : sWh c fb ρ = some o := by
  have hh : ∃ n o, whL c fb n ρ = some o := ⟨n, o, h⟩
  unfold sWh
  rw [dif_pos hh]
  have h2 := Classical.choose_spec (Classical.choose_spec hh)
  have a := whL_mono (Nat.le_max_left n (Classical.choose hh)) h
  have b := whL_mono (Nat.le_max_right n (Classical.choose hh)) h2
  rw [a] at b
  exact b.symm
theorem sx_while {c : Expr} {body : List Stmt} {fc : DenB} {fbd : DenS} (hp : PassesOwn (model X.prog X.w) X.A X.env X.xe) (hc : ET X c fc) (hb : SXs X body fbd) : SX X (.While c body [] pos) (sWh fc fbd) :=
  sx_mk (ps_while hp hc.pt hb.pss) fun D σ H F0 H0 ρ F o e h k => by
    obtain ⟨n, h⟩ := sWh_ex h
    refine ⟨fun m σ' H' => ∃ ρ' F', EnvS X.K F0 H0 ρ' σ' F' H' ∧ whL fc fbd m ρ' = some o, ⟨n, ρ, F, e, h⟩, ?_⟩
    rintro m σ' H' ⟨ρ', F', e', hl⟩
    cases m with
    | zero => cases hl
    | succ m =>
      simp only [whL, Option.bind_eq_some_iff] at hl
      obtain ⟨b, h1, h2⟩ := hl
      refine ⟨ρ', F', b, e'.env, h1, fun F1 H1 x1 => ?_⟩
      cases b with
      | false =>
        cases h2
        exact k σ' F1 H1 (e'.to x1)
      | true =>
        simp only [if_true, Option.bind_eq_some_iff] at h2
        obtain ⟨o1, h3, h4⟩ := h2
        refine ⟨fun σ2 H2 => ∃ ρ2 F2, EnvS X.K F0 H0 ρ2 σ2 F2 H2 ∧ whL fc fbd m ρ2 = some o, fun σ2 H2 hN => ⟨m, by omega, hN⟩, F0, H0, ρ', F1, o1, e'.to x1, h3, ?_⟩
        cases o1 with
        | nx ρ2 => exact fun σ4 F4 H4 e4 => ⟨ρ2, F4, e4, h4⟩
        | ct ρ2 => exact fun σ4 F4 H4 e4 => ⟨ρ2, F4, e4, h4⟩
        | bk ρ2 =>
          cases h4
          exact k
        | rt d =>
          cases h4
          exact k
        | rn d =>
          cases h4
          exact k
end
end Zx
/-! Zx8: comprehensions, calls, defs. -/
namespace Zx
open PySem PySem.Spec L2
/-! ### comprehensions -/
def wipeE (ρ : Env) : List Nat → Env
  | [] => ρ
  | v :: vs => (wipeE ρ vs).set v .no
def lcL (g : DenG) (ft : DenB) (fe : Den) (ρ : Env) : List D → Option (List D)
  | [] => some []
  | d :: ds => (g d ρ).bind fun ρ1 => (ft ρ1).bind fun b => if b then (fe ρ1).bind fun x => (lcL g ft fe ρ ds).bind fun xs => some (x :: xs) else lcL g ft fe ρ ds
def dLc (fi : DenI) (g : DenG) (ft : DenB) (fe : Den) (vs : List Nat) : Den := fun ρ => (fi ρ).bind fun ds => (lcL g ft fe (wipeE ρ vs) ds).bind fun out => if out.length ≤ 1000000 then some (.list out) else none
def bYes : DenB := fun _ => some true
section
variable {X : Cx} {K : PySem.W.Frag} {F0 H0 F H F1 H1 F' H' : Hp} {ρ : Env} {σ : L2.St}
theorem EnvOk.no {i : Nat} (e : EnvOk K ρ σ F H) : EnvOk K (ρ.set i .no) (σ.set i none) F H where
  sub := e.sub
  len := by rw [List.length_set, List.length_set]; exact e.len
  at_ := fun j s hs => by
    by_cases hj : i = j
    · subst hj
      by_cases hl : i < ρ.length
      · rw [List.getElem?_set_self hl] at hs
        cases hs
        exact ⟨none, List.getElem?_set_self (by rw [← e.len]; exact hl), trivial⟩
      · rw [List.getElem?_eq_none (by rw [List.length_set]; omega)] at hs
        cases hs
    · rw [List.getElem?_set_ne hj] at hs
      rw [List.getElem?_set_ne hj]
      exact e.at_ j s hs
  dist := fun j k d1 d2 a h1 h2 h3 h4 => by
    have z : ∀ {j : Nat} {d1 : D}, (ρ.set i .no)[j]? = some (.ow d1) → i ≠ j ∧ ρ[j]? = some (.ow d1) := fun {j d1} h => by
      by_cases hj : i = j
      · subst hj
        by_cases hl : i < ρ.length
        · rw [List.getElem?_set_self hl] at h
          cases h
        · rw [List.getElem?_eq_none (by rw [List.length_set]; omega)] at h
          cases h
      · rw [List.getElem?_set_ne hj] at h
        exact ⟨hj, h⟩
    obtain ⟨n1, g1⟩ := z h1
    obtain ⟨n2, g2⟩ := z h2
    rw [List.getElem?_set_ne n1] at h3
    rw [List.getElem?_set_ne n2] at h4
    exact e.dist j k d1 d2 a g1 g2 h3 h4
theorem EnvOk.wipe (e : EnvOk K ρ σ F H) : ∀ vs : List Nat, EnvOk K (wipeE ρ vs) (wipe σ vs) F H
  | [] => e
  | v :: vs => (EnvOk.wipe e vs).no
/-- a new object that no slot owns is written -/
theorem EnvOk.upd {q : Addr} {o : HO} (e : EnvOk K ρ σ F H) (hF : F q = none) (hn : ∀ (i : Nat) d a, ρ[i]? = some (.ow d) → σ[i]? = some (some (.ref a)) → a ≠ q) : EnvOk K ρ σ F (upd H q o) where
  sub := fun b u hb => by
    rw [upd_ne (ne_of_none hb hF)]
    exact e.sub b u hb
  len := e.len
  dist := e.dist
  at_ := fun i s hs => by
    obtain ⟨ov, g1, g2⟩ := e.at_ i s hs
    refine ⟨ov, g1, ?_⟩
    cases s with
    | no => trivial
    | fz d => exact g2
    | ow d =>
      obtain ⟨b, u, g3, g4, g5, g6⟩ := g2
      subst g3
      refine ⟨b, u, rfl, g4, ?_, g6⟩
      rw [upd_ne (hn i d b hs g1)]
      exact g5
theorem Ext.mut {q : Addr} {o : HO} (x : Ext F1 H1 F H) (h1 : H1 q = none) (hF : F q = none) : Ext F1 H1 F (upd H q o) :=
  ⟨x.f, fun a u e => by
    rw [upd_ne (ne_of_none e h1)]
    exact x.h a u e, fun a u e => by
    rw [upd_ne (ne_of_none e hF)]
    exact x.le a u e, x.new⟩
theorem EnvOk.ne_new {q : Addr} (e : EnvOk K ρ σ F H) (hq : H q = none) : ∀ (i : Nat) d a, ρ[i]? = some (.ow d) → σ[i]? = some (some (.ref a)) → a ≠ q := fun i d a h1 h2 z => by
  subst z
  obtain ⟨ov, g1, b, o, g2, g3, g4, _⟩ := e.at_ i _ h1
  rw [h2] at g1
  cases g1
  cases g2
  rw [hq] at g4
  cases g4
/-- the tests of a clause -/
structure ETs (X : Cx) (ifs : List Expr) (f : DenB) : Prop where
  pts : PTs X ifs (tTst X.K f)
theorem PTs.imp {ifs : List Expr} {t t' : TT} (h : PTs X ifs t) (i : ∀ σ H Q, t' σ H Q → t σ H Q) : PTs X ifs t' := ⟨fun pins s σ H Q I hw => h.run pins s σ H Q I (i σ H Q hw)⟩
theorem ets_nil : ETs X [] bYes := ⟨PTs.imp pts_nil fun σ H Q ⟨ρ, F, b, e, h, k⟩ => by
  cases h
  exact k F H (.refl e.sub)⟩
theorem ets_one {c : Expr} {f : DenB} (h : ET X c f) : ETs X [c] f := ⟨pts_one h.pt⟩
theorem wipe_twice (σ σ2 : L2.St) : ∀ vs : List Nat, σ2.length = σ.length → (∀ j, j ∉ vs → σ2[j]? = (wipe σ vs)[j]?) → wipe σ2 vs = wipe σ vs := fun vs hl h => by
  have hw : ∀ (τ : L2.St) (vs : List Nat) (j : Nat), (wipe τ vs)[j]? = if j ∈ vs ∧ j < τ.length then some none else τ[j]? := fun τ vs => by
    induction vs with
    | nil => intro j; simp [L2.wipe]
    | cons v vs ih =>
      intro j
      unfold L2.wipe
      by_cases hj : v = j
      · subst hj
        by_cases hl : v < τ.length
        · rw [List.getElem?_set_self (by rw [wipe_length]; exact hl), if_pos ⟨List.mem_cons_self, hl⟩]
        · rw [List.getElem?_eq_none (by rw [List.length_set, wipe_length]; omega), if_neg (fun z => hl z.2), List.getElem?_eq_none (by omega)]
      · rw [List.getElem?_set_ne hj, ih]
        by_cases hm : j ∈ vs ∧ j < τ.length
        · rw [if_pos hm, if_pos ⟨List.mem_cons_of_mem _ hm.1, hm.2⟩]
        · rw [if_neg hm, if_neg (fun z => hm ⟨(List.mem_cons.mp z.1).resolve_left (Ne.symm hj), z.2⟩)]
  refine List.ext_getElem? fun j => ?_
  rw [hw σ2, hw σ, hl]
  by_cases hj : j ∈ vs
  · by_cases hl2 : j < σ.length
    · rw [if_pos ⟨hj, hl2⟩, if_pos ⟨hj, hl2⟩]
    · rw [if_neg (fun z => hl2 z.2), if_neg (fun z => hl2 z.2), List.getElem?_eq_none (by omega), List.getElem?_eq_none (by omega)]
  · rw [if_neg (fun z => hj z.1), if_neg (fun z => hj z.1), h j hj, wipe_out hj]
section
variable {wi wi1 : TI} {g : DenG} {ft ft1 : DenB} {fe : Den} {fi fi1 : DenI} {ws ws1 vs vs1 : List Nat} {Q : VK} {d : D} {g1 : DenG}
/-- a thing that is walked, told of the state -/
def WiOk (K : PySem.W.Frag) (wi : TI) (fi : DenI) (ρ : Env) (σ : L2.St) (F H : Hp) : Prop := ∀ ds R, fi ρ = some ds → (∀ J F1 H1, Ext F H F1 H1 → Walks K J F1 ds → R J H1) → wi σ H R
theorem EnvOk.wiOk (e : EnvOk K ρ σ F H) : WiOk K (tI K fi) fi ρ σ F H := fun ds R h k => ⟨ρ, F, ds, e, h, k⟩
theorem lc_t (hwi : WiOk K wi fi ρ σ F H) (hw : ∀ j ∈ ws, j ∈ vs) (e : EnvOk K ρ σ F H) (h : dLc fi g ft fe vs ρ = some d) (k : ∀ a o F' H', Ext F H F' H' → F' a = none → H a = none → H' a = some o → OwnRep K F' d o → Q (.ref a) H') :
    tLc wi (tGt K ws g) (tTst K ft) (tX K fe) vs σ H Q := by
  simp only [dLc, Option.bind_eq_some_iff] at h
  obtain ⟨ds, h1, out, h2, h3⟩ := h
  split at h3
  · rename_i hsz
    cases h3
    refine hwi ds _ h1 fun J F1 H1 x1 w q hq => ?_
    have e1 := (e.ext x1).wipe vs
    have hF1 : F1 q = none := x1.le.free hq
    have hne := e1.ne_new hq
    refine ⟨fun i m H' => i ≤ ds.length ∧ m = ds.length - i ∧ ∃ F' acc accD rest, EnvOk K (wipeE ρ vs) (wipe σ vs) F' H' ∧ Ext F1 H1 F' H' ∧ F' q = none ∧ H' q = some (.lst acc) ∧ RpL K F' accD acc ∧
      lcL g ft fe (wipeE ρ vs) (ds.drop i) = some rest ∧ accD ++ rest = out,
      ⟨_, Nat.zero_le _, rfl, F1, [], [], out, e1.upd hF1 hne, .mut (.refl x1.le) hq hF1, hF1, upd_same, .nil, by rw [List.drop_zero]; exact h2, rfl⟩, ?_⟩
    rintro i m H' ⟨hle, rfl, F', acc, accD, rest, e', x', hF', hq', rl, hr, ho⟩
    obtain ⟨w1, w2⟩ := w i F' H' x'.f x'.le
    by_cases hi : i < ds.length
    · have hd : ds.drop i = ds[i] :: ds.drop (i + 1) := List.drop_eq_getElem_cons hi
      rw [hd] at hr
      simp only [lcL, Option.bind_eq_some_iff] at hr
      obtain ⟨ρ1, g1, b, g2, g3⟩ := hr
      obtain ⟨w3, w4⟩ := w1 ds[i] (List.getElem?_eq_getElem hi)
      refine .inr ⟨w3, fun H' => ∃ F' acc accD rest, EnvOk K (wipeE ρ vs) (wipe σ vs) F' H' ∧ Ext F1 H1 F' H' ∧ F' q = none ∧ H' q = some (.lst acc) ∧ RpL K F' accD acc ∧
        lcL g ft fe (wipeE ρ vs) (ds.drop (i + 1)) = some rest ∧ accD ++ rest = out, fun H2 hN => ⟨_, by omega, hi, rfl, hN⟩, fun x H2 hy => ?_⟩
      obtain ⟨F2, x2, r2⟩ := w4 x H2 hy
      refine ⟨_, F2, ds[i], ρ1, e'.ext x2, r2, g1, fun σ3 e3 sb o3 => ⟨?_, ?_⟩⟩
      · refine wipe_twice σ σ3 _ (by rw [sb.len, wipe_length]) fun j hj => sb.at_ j fun z => hj (hw j z)
      refine ⟨ρ1, F2, b, e3, g2, fun F3 H3 x3 => ?_⟩
      have x23 := x2.trans x3
      cases b with
      | false =>
        refine ⟨F3, acc, accD, rest, e'.ext x23, x'.trans x23, x23.new q (by rw [hq']; exact fun z => nomatch z) hF', x23.h _ _ hq', rl.mono x23.f, g3, ho⟩
      | true =>
        simp only [if_true, Option.bind_eq_some_iff, Option.some.injEq] at g3
        obtain ⟨y, g4, rest', g5, rfl⟩ := g3
        refine ⟨ρ1, F3, y, e3.ext x3, g4, fun v F4 H4 x4 r4 => ?_⟩
        have x24 := x23.trans x4
        have hF4 : F4 q = none := x24.new q (by rw [hq']; exact fun z => nomatch z) hF'
        have hH4 : H4 q = some (.lst acc) := x24.h _ _ hq'
        refine ⟨acc, hH4, ?_, F4, acc ++ [v], accD ++ [y], rest', (e'.ext x24).upd hF4 hne, .mut (x'.trans x24) hq hF4, hF4, upd_same, (rl.mono x24.f).append (.one r4), g5, by rw [List.append_assoc]; exact ho⟩
        rw [rl.length]
        refine line_lt ?_
        have := congrArg List.length ho
        rw [List.length_append, List.length_cons] at this
        omega
    · have hd : ds.drop i = [] := List.drop_eq_nil_of_le (by omega)
      rw [hd] at hr
      cases hr
      rw [List.append_nil] at ho
      subst ho
      exact .inl ⟨w2 (by omega), k q _ F' H' (x1.trans x') hF' (x1.h.free hq) hq' (.lst rl)⟩
  · cases h3
/-! two clauses -/
def lc2L (g : DenG) (ft : DenB) (fi1 : DenI) (g1 : DenG) (ft1 : DenB) (fe : Den) (vs1 : List Nat) (ρ : Env) : List D → Option (List D)
  | [] => some []
  | d :: ds => (g d ρ).bind fun ρ1 => (ft ρ1).bind fun b => if b then (fi1 ρ1).bind fun es => (lcL g1 ft1 fe (wipeE ρ1 vs1) es).bind fun xs => (lc2L g ft fi1 g1 ft1 fe vs1 ρ ds).bind fun ys => some (xs ++ ys) else lc2L g ft fi1 g1 ft1 fe vs1 ρ ds
def dLc2 (fi : DenI) (g : DenG) (ft : DenB) (fi1 : DenI) (g1 : DenG) (ft1 : DenB) (fe : Den) (vs vs1 : List Nat) : Den := fun ρ => (fi ρ).bind fun ds => (lc2L g ft fi1 g1 ft1 fe vs1 (wipeE ρ vs) ds).bind fun out => if out.length ≤ 1000000 then some (.list out) else none
theorem wipe_wipe (hv : ∀ j ∈ vs1, j ∈ vs) (τ : L2.St) (h : wipe τ vs = wipe σ vs) (σ3 : L2.St) (hl : σ3.length = τ.length) (h3 : ∀ j, j ∉ vs1 → σ3[j]? = (wipe τ vs1)[j]?) : wipe σ3 vs1 = wipe τ vs1 := wipe_twice τ σ3 vs1 hl h3
theorem lc2_t (hwi : WiOk K wi fi ρ σ F H) (hw : ∀ j ∈ ws, j ∈ vs) (hw1 : ∀ j ∈ ws1, j ∈ vs1) (e : EnvOk K ρ σ F H) (h : dLc2 fi g ft fi1 g1 ft1 fe vs vs1 ρ = some d)
    (k : ∀ a o F' H', Ext F H F' H' → F' a = none → H a = none → H' a = some o → OwnRep K F' d o → Q (.ref a) H') :
    tLc2 wi (tGt K ws g) (tTst K ft) (tI K fi1) (tGt K ws1 g1) (tTst K ft1) (tX K fe) vs vs1 σ H Q := by
  simp only [dLc2, Option.bind_eq_some_iff] at h
  obtain ⟨ds, h1, out, h2, h3⟩ := h
  split at h3
  · rename_i hsz
    cases h3
    refine hwi ds _ h1 fun J F1 H1 x1 w q hq => ?_
    have e1 := (e.ext x1).wipe vs
    have hF1 : F1 q = none := x1.le.free hq
    have hne := e1.ne_new hq
    refine ⟨fun i m H' => i ≤ ds.length ∧ m = ds.length - i ∧ ∃ F' acc accD rest, EnvOk K (wipeE ρ vs) (wipe σ vs) F' H' ∧ Ext F1 H1 F' H' ∧ F' q = none ∧ H' q = some (.lst acc) ∧ RpL K F' accD acc ∧
      lc2L g ft fi1 g1 ft1 fe vs1 (wipeE ρ vs) (ds.drop i) = some rest ∧ accD ++ rest = out,
      ⟨_, Nat.zero_le _, rfl, F1, [], [], out, e1.upd hF1 hne, .mut (.refl x1.le) hq hF1, hF1, upd_same, .nil, by rw [List.drop_zero]; exact h2, rfl⟩, ?_⟩
    rintro i m H' ⟨hle, rfl, F', acc, accD, rest, e', x', hF', hq', rl, hr, ho⟩
    obtain ⟨w1, w2⟩ := w i F' H' x'.f x'.le
    by_cases hi : i < ds.length
    · have hd : ds.drop i = ds[i] :: ds.drop (i + 1) := List.drop_eq_getElem_cons hi
      rw [hd] at hr
      simp only [lc2L, Option.bind_eq_some_iff] at hr
      obtain ⟨ρ1, j1, b, j2, j3⟩ := hr
      obtain ⟨w3, w4⟩ := w1 ds[i] (List.getElem?_eq_getElem hi)
      refine .inr ⟨w3, fun H' => ∃ F' acc accD rest, EnvOk K (wipeE ρ vs) (wipe σ vs) F' H' ∧ Ext F1 H1 F' H' ∧ F' q = none ∧ H' q = some (.lst acc) ∧ RpL K F' accD acc ∧
        lc2L g ft fi1 g1 ft1 fe vs1 (wipeE ρ vs) (ds.drop (i + 1)) = some rest ∧ accD ++ rest = out, fun H2 hN => ⟨_, by omega, hi, rfl, hN⟩, fun x H2 hy => ?_⟩
      obtain ⟨F2, x2, r2⟩ := w4 x H2 hy
      refine ⟨_, F2, ds[i], ρ1, e'.ext x2, r2, j1, fun σ3 e3 sb o3 => ⟨?_, ?_⟩⟩
      · refine wipe_twice σ σ3 _ (by rw [sb.len, wipe_length]) fun j hj => sb.at_ j fun z => hj (hw j z)
      refine ⟨ρ1, F2, b, e3, j2, fun F3 H3 x3 => ?_⟩
      have x23 := x2.trans x3
      have hq3 : H3 q = some (.lst acc) := x23.h _ _ hq'
      have hF3 : F3 q = none := x23.new q (by rw [hq']; exact fun z => nomatch z) hF'
      cases b with
      | false =>
        exact ⟨F3, acc, accD, rest, e'.ext x23, x'.trans x23, hF3, hq3, rl.mono x23.f, j3, ho⟩
      | true =>
        simp only [if_true, Option.bind_eq_some_iff, Option.some.injEq] at j3
        obtain ⟨es, j4, xs, j5, ys, j6, rfl⟩ := j3
        have e33 := e3.ext x3
        refine ⟨ρ1, F3, es, e33, j4, fun J1 F4 H4 x4 u => ?_⟩
        have x24 := x23.trans x4
        have hne3 : ∀ (i : Nat) d a, (wipeE ρ1 vs1)[i]? = some (.ow d) → (wipe σ3 vs1)[i]? = some (some (.ref a)) → a ≠ q := fun i d a g1 g2 => by
          have e4 := (e3.wipe vs1)
          rintro rfl
          obtain ⟨ov, z1, b, o, z2, z3, z4, z5⟩ := e4.at_ i _ g1
          rw [g2] at z1
          cases z1
          cases z2
          have hw' : (wipeE ρ1 vs1)[i]? = some (.ow d) := g1
          rcases o3 i d (by
            have zz : ∀ (vs : List Nat) (τ : Env), (wipeE τ vs)[i]? = some (.ow d) → τ[i]? = some (.ow d) := fun vs => by
              induction vs with
              | nil => exact fun τ h => h
              | cons v vs ih =>
                intro τ h
                unfold wipeE at h
                by_cases hv : v = i
                · subst hv
                  by_cases hl : v < (wipeE τ vs).length
                  · rw [List.getElem?_set_self hl] at h
                    cases h
                  · rw [List.getElem?_eq_none (by rw [List.length_set]; omega)] at h
                    cases h
                · rw [List.getElem?_set_ne hv] at h
                  exact ih τ h
            exact zz vs1 ρ1 hw') with ⟨y1, y2⟩
          have y3 : σ3[i]? = some (some (.ref a)) := by
            have zz : ∀ (vs : List Nat) (τ : L2.St), (wipe τ vs)[i]? = some (some (.ref a)) → τ[i]? = some (some (.ref a)) := fun vs => by
              induction vs with
              | nil => exact fun τ h => h
              | cons v vs ih =>
                intro τ h
                unfold L2.wipe at h
                by_cases hv : v = i
                · subst hv
                  by_cases hl : v < (wipe τ vs).length
                  · rw [List.getElem?_set_self hl] at h
                    cases h
                  · rw [List.getElem?_eq_none (by rw [List.length_set]; omega)] at h
                    cases h
                · rw [List.getElem?_set_ne hv] at h
                  exact ih τ h
            exact zz vs1 σ3 g2
          rw [y2] at y3
          exact hne i d a y1 y3 rfl
        refine ⟨fun j m H' => j ≤ es.length ∧ m = es.length - j ∧ ∃ F' acc' accD' rest', EnvOk K (wipeE ρ1 vs1) (wipe σ3 vs1) F' H' ∧ EnvOk K (wipeE ρ vs) (wipe σ vs) F' H' ∧ Ext F1 H1 F' H' ∧ Sub F4 F' ∧ F' q = none ∧ H' q = some (.lst acc') ∧ RpL K F' accD' acc' ∧
          lcL g1 ft1 fe (wipeE ρ1 vs1) (es.drop j) = some rest' ∧ accD' ++ (rest' ++ ys) = out,
          ⟨_, Nat.zero_le _, rfl, F4, acc, accD, xs, (e33.ext x4).wipe vs1, (e'.ext x24), x'.trans x24, Sub.refl _, x4.new q (by rw [hq3]; exact fun z => nomatch z) hF3, x4.h _ _ hq3, rl.mono x24.f, by rw [List.drop_zero]; exact j5, ho⟩, ?_⟩
        rintro j m H5 ⟨hle1, rfl, F5, acc5, accD5, rest5, e5, e5', x5, sF5, hF5, hq5, rl5, hr5, ho5⟩
        obtain ⟨u1, u2⟩ := u j F5 H5 sF5 x5.le
        by_cases hj : j < es.length
        · have hd5 : es.drop j = es[j] :: es.drop (j + 1) := List.drop_eq_getElem_cons hj
          rw [hd5] at hr5
          simp only [lcL, Option.bind_eq_some_iff] at hr5
          obtain ⟨ρ2, k1, b, k2, k3⟩ := hr5
          obtain ⟨u3, u4⟩ := u1 es[j] (List.getElem?_eq_getElem hj)
          refine .inr ⟨u3, fun H' => ∃ F' acc' accD' rest', EnvOk K (wipeE ρ1 vs1) (wipe σ3 vs1) F' H' ∧ EnvOk K (wipeE ρ vs) (wipe σ vs) F' H' ∧ Ext F1 H1 F' H' ∧ Sub F4 F' ∧ F' q = none ∧ H' q = some (.lst acc') ∧ RpL K F' accD' acc' ∧
            lcL g1 ft1 fe (wipeE ρ1 vs1) (es.drop (j + 1)) = some rest' ∧ accD' ++ (rest' ++ ys) = out, fun H2 hN => ⟨_, by omega, hj, rfl, hN⟩, fun x H6 hy => ?_⟩
          obtain ⟨F6, x6, r6⟩ := u4 x H6 hy
          refine ⟨_, F6, es[j], ρ2, e5.ext x6, r6, k1, fun σ7 e7 sb7 o7 => ⟨?_, ?_⟩⟩
          · refine wipe_twice σ3 σ7 _ (by rw [sb7.len, wipe_length]) fun j hj => sb7.at_ j fun z => hj (hw1 j z)
          refine ⟨ρ2, F6, b, e7, k2, fun F7 H7 x7 => ?_⟩
          have x67 := x6.trans x7
          cases b with
          | false =>
            exact ⟨F7, acc5, accD5, rest5, e5.ext x67, e5'.ext x67, x5.trans x67, sF5.trans x67.f, x67.new q (by rw [hq5]; exact fun z => nomatch z) hF5, x67.h _ _ hq5, rl5.mono x67.f, k3, ho5⟩
          | true =>
            simp only [if_true, Option.bind_eq_some_iff, Option.some.injEq] at k3
            obtain ⟨y, k4, rest', k5, rfl⟩ := k3
            refine ⟨ρ2, F7, y, e7.ext x7, k4, fun v F8 H8 x8 r8 => ?_⟩
            have x68 := x67.trans x8
            have hF8 : F8 q = none := x68.new q (by rw [hq5]; exact fun z => nomatch z) hF5
            have hH8 : H8 q = some (.lst acc5) := x68.h _ _ hq5
            refine ⟨acc5, hH8, ?_, F8, acc5 ++ [v], accD5 ++ [y], rest', (e5.ext x68).upd hF8 hne3, (e5'.ext x68).upd hF8 hne, .mut (x5.trans x68) hq hF8, sF5.trans x68.f, hF8, upd_same, (rl5.mono x68.f).append (.one r8), k5, by rw [List.append_assoc]; exact ho5⟩
            rw [rl5.length]
            refine line_lt ?_
            have := congrArg List.length ho5
            rw [List.length_append, List.length_append, List.length_cons] at this
            omega
        · have hd5 : es.drop j = [] := List.drop_eq_nil_of_le (by omega)
          rw [hd5] at hr5
          cases hr5
          exact .inl ⟨u2 (by omega), F5, acc5, accD5, ys, e5', x5, hF5, hq5, rl5, j6, by simpa using ho5⟩
    · have hd : ds.drop i = [] := List.drop_eq_nil_of_le (by omega)
      rw [hd] at hr
      cases hr
      rw [List.append_nil] at ho
      subst ho
      exact .inl ⟨w2 (by omega), k q _ F' H' (x1.trans x') hF' (x1.h.free hq) hq' (.lst rl)⟩
  · cases h3
end
/-- a block's judgements -/
abbrev InBlk (X : Cx) (scope : Scope) (P : Cx → Prop) : Prop := ∀ (s : Shared) (H : Hp) (C : Addr) (cl : List (Str × Addr)) (fp : List Addr), P (X.blk s H scope (compEnvC scope cl C X.env) fp)
section
variable {elt tg iter tg1 iter1 : Expr} {ifs ifs1 : List Expr} {scope : Scope} {own : List (Str × Nat)} {pos spos : Pos} {ws ws1 vs1 : List Nat} {fi fi1 : DenI} {g g1 : DenG} {ft ft1 : DenB} {fe : Den}
theorem en_lc (hc : X.calm = true) (hN : X.N.Nodup) (hi : EI X tg iter fi) (ok : BlkOk X.N X.env.scope scope own)
    (hg : InBlk X scope fun Y => EG Y tg ws g) (ht : InBlk X scope fun Y => ETs Y ifs ft)
    (he : InBlk X scope fun Y => EX Y elt fe) (hs : ∀ x, foldedSetIterable iter X.env x = pure x) (hw : ∀ j ∈ ws, j ∈ own.map (·.2)) :
    EN X (.ListComp elt [⟨tg, iter, ifs, 0⟩] scope pos) (dLc fi g ft fe (own.map (·.2))) :=
  mkN (pe_lc (te := tX X.K fe) (tt := tTst X.K ft) (g := tGt X.K ws g) hc hN hi.pi ok (fun s H C cl fp => (hg s H C cl fp).pg) (fun s H C cl fp => (ht s H C cl fp).pts) (fun s H C cl fp => (he s H C cl fp).pe) hs) fun σ H Q ρ F d e h k => lc_t e.wiOk hw e h k
theorem en_lc2 (hc : X.calm = true) (hN : X.N.Nodup) (hi : EI X tg iter fi) (ok : BlkOk X.N X.env.scope scope own) (hv : ∀ i ∈ vs1, i ∈ own.map (·.2))
    (hg : InBlk X scope fun Y => EG Y tg ws g) (ht : InBlk X scope fun Y => ETs Y ifs ft) (hi1 : InBlk X scope fun Y => EI Y tg1 iter1 fi1) (hg1 : InBlk X scope fun Y => EG Y tg1 ws1 g1) (ht1 : InBlk X scope fun Y => ETs Y ifs1 ft1)
    (he : InBlk X scope fun Y => EX Y elt fe) (hs : ∀ x, foldedSetIterable iter X.env x = pure x) (hs1 : ∀ env x, foldedSetIterable iter1 env x = pure x) (hw : ∀ j ∈ ws, j ∈ own.map (·.2)) (hw1 : ∀ j ∈ ws1, j ∈ vs1) :
    EN X (.ListComp elt [⟨tg, iter, ifs, 0⟩, ⟨tg1, iter1, ifs1, 0⟩] scope pos) (dLc2 fi g ft fi1 g1 ft1 fe (own.map (·.2)) vs1) :=
  mkN (pe_lc2 (te := tX X.K fe) (tt := tTst X.K ft) (g := tGt X.K ws g) (wi1 := tI X.K fi1) (tt1 := tTst X.K ft1) (g1 := tGt X.K ws1 g1) hc hN hi.pi ok hv (fun s H C cl fp => (hg s H C cl fp).pg) (fun s H C cl fp => (ht s H C cl fp).pts)
    (fun s H C cl fp => (hi1 s H C cl fp).pi) (fun s H C cl fp => (hg1 s H C cl fp).pg) (fun s H C cl fp => (ht1 s H C cl fp).pts) (fun s H C cl fp => (he s H C cl fp).pe) hs hs1) fun σ H Q ρ F d e h k => lc2_t e.wiOk hw hw1 e h k
/-- y = [e for ..] on one line -/
def setNew (i : Nat) (b : Bool) (d : D) (ρ : Env) : Env := ρ.set i (if b then .ow d else .fz d)
def sLcSet (i : Nat) (own : Bool) (f : Den) : DenS := fun ρ => (f ρ).bind fun d => some (.nx (setNew i own d ρ))
theorem frzNew {a : Addr} {o : HO} {d : D} (x : Ext F H F' H') (ha : F' a = none) (hn : H a = none) (ho : H' a = some o) (r : OwnRep K F' d o) : ∃ F2, Ext F H F2 H' ∧ Rp K F2 d (.ref a) := by
  have x' : Ext F H (upd F' a o) H' := ⟨x.f.trans (Sub.new ha), x.h, fun b u eb => by
      by_cases hb : b = a
      · subst hb; rw [upd_same] at eb; cases eb; exact ho
      · rw [upd_ne hb] at eb; exact x.le b u eb,
    fun b h1 h2 => by
      rw [upd_ne (fun z => h1 (by rw [z]; exact hn))]
      exact x.new b h1 h2⟩
  have s : Sub F' (upd F' a o) := Sub.new ha
  refine ⟨_, x', ?_⟩
  cases r with
  | lst t => exact .lst upd_same (t.mono s)
  | dK t => exact .dK (.inl upd_same) (t.mono s)
  | dT t => exact .dT (.inl upd_same) (t.mono s)
theorem sx_setLc (i : Nat) (b : Bool) {y : Str} {py : Pos} (hc : X.calm = true) (hN : X.N.Nodup) (hy : X.N[i]? = some y) (hyl : X.env.scope.names.lookup y = some .local)
    (hsw : swapsWith (.ListComp elt [⟨tg, iter, ifs, 0⟩] scope pos) (some (.Name y py)) spos.line X.env = pure true) (hi : EI X tg iter fi) (ok : BlkOk X.N X.env.scope scope own)
    (hg : InBlk X scope fun Y => EG Y tg ws g) (ht : InBlk X scope fun Y => ETs Y ifs ft) (he : InBlk X scope fun Y => EX Y elt fe) (hs : ∀ x, foldedSetIterable iter X.env x = pure x) (hw : ∀ j ∈ ws, j ∈ own.map (·.2)) :
    SX X (.Assign [.Name y py] (.ListComp elt [⟨tg, iter, ifs, 0⟩] scope pos) spos) (sLcSet i b (dLc fi g ft fe (own.map (·.2)))) :=
  sx_mk (ps_setLc (te := tX X.K fe) (tt := tTst X.K ft) (g := tGt X.K ws g) hc hN hy hyl hsw hi.pi ok (fun s H C cl fp => (hg s H C cl fp).pg) (fun s H C cl fp => (ht s H C cl fp).pts) (fun s H C cl fp => (he s H C cl fp).pe) hs) fun D σ H F0 H0 ρ F o e h k => by
    simp only [sLcSet, Option.bind_eq_some_iff, Option.some.injEq] at h
    obtain ⟨d, h1, rfl⟩ := h
    refine lc_t (Q := fun x H1 => gName i x σ H1 D.nx) e.env.wiOk hw e.env h1 fun a ob F' H' x h2 h3 h4 h5 => ?_
    cases b with
    | true => exact k _ F' H' (e.setOwn x h3 h2 h4 h5)
    | false =>
      obtain ⟨F2, x2, r2⟩ := frzNew x h2 h3 h4 h5
      exact k _ F2 H' ((e.to x2).set r2)
theorem sx_setLc2 (i : Nat) (b : Bool) {y : Str} {py : Pos} (hc : X.calm = true) (hN : X.N.Nodup) (hy : X.N[i]? = some y) (hyl : X.env.scope.names.lookup y = some .local)
    (hsw : swapsWith (.ListComp elt [⟨tg, iter, ifs, 0⟩, ⟨tg1, iter1, ifs1, 0⟩] scope pos) (some (.Name y py)) spos.line X.env = pure true) (hi : EI X tg iter fi) (ok : BlkOk X.N X.env.scope scope own) (hv : ∀ i ∈ vs1, i ∈ own.map (·.2))
    (hg : InBlk X scope fun Y => EG Y tg ws g) (ht : InBlk X scope fun Y => ETs Y ifs ft) (hi1 : InBlk X scope fun Y => EI Y tg1 iter1 fi1) (hg1 : InBlk X scope fun Y => EG Y tg1 ws1 g1) (ht1 : InBlk X scope fun Y => ETs Y ifs1 ft1)
    (he : InBlk X scope fun Y => EX Y elt fe) (hs : ∀ x, foldedSetIterable iter X.env x = pure x) (hs1 : ∀ env x, foldedSetIterable iter1 env x = pure x) (hw : ∀ j ∈ ws, j ∈ own.map (·.2)) (hw1 : ∀ j ∈ ws1, j ∈ vs1) :
    SX X (.Assign [.Name y py] (.ListComp elt [⟨tg, iter, ifs, 0⟩, ⟨tg1, iter1, ifs1, 0⟩] scope pos) spos) (sLcSet i b (dLc2 fi g ft fi1 g1 ft1 fe (own.map (·.2)) vs1)) :=
  sx_mk (ps_setLc2 (te := tX X.K fe) (tt := tTst X.K ft) (g := tGt X.K ws g) (wi1 := tI X.K fi1) (tt1 := tTst X.K ft1) (g1 := tGt X.K ws1 g1) hc hN hy hyl hsw hi.pi ok hv (fun s H C cl fp => (hg s H C cl fp).pg) (fun s H C cl fp => (ht s H C cl fp).pts)
    (fun s H C cl fp => (hi1 s H C cl fp).pi) (fun s H C cl fp => (hg1 s H C cl fp).pg) (fun s H C cl fp => (ht1 s H C cl fp).pts) (fun s H C cl fp => (he s H C cl fp).pe) hs hs1) fun D σ H F0 H0 ρ F o e h k => by
    simp only [sLcSet, Option.bind_eq_some_iff, Option.some.injEq] at h
    obtain ⟨d, h1, rfl⟩ := h
    refine lc2_t (Q := fun x H1 => gName i x σ H1 D.nx) e.env.wiOk hw hw1 e.env h1 fun a ob F' H' x h2 h3 h4 h5 => ?_
    cases b with
    | true => exact k _ F' H' (e.setOwn x h3 h2 h4 h5)
    | false =>
      obtain ⟨F2, x2, r2⟩ := frzNew x h2 h3 h4 h5
      exact k _ F2 H' ((e.to x2).set r2)
end
end
end Zx
/-! Zx9: calls, defs. -/
namespace Zx
open PySem PySem.Spec L2
def spX (K : PySem.W.Frag) (n : Nat) (fn : List D → Option D) : Sp := fun vs H Q _ => ∃ F ds d, Sub F H ∧ RpL K F ds vs ∧ ds.length = n ∧ fn ds = some d ∧ ∀ v F' H', Ext F H F' H' → Rp K F' d v → Q v H'
def spN (K : PySem.W.Frag) (n : Nat) (fn : List D → Option D) : Sp := fun vs H Q _ => ∃ F ds d, Sub F H ∧ RpL K F ds vs ∧ ds.length = n ∧ fn ds = some d ∧ ∀ a o F' H', Ext F H F' H' → F' a = none → H a = none → H' a = some o → OwnRep K F' d o → Q (.ref a) H'
/-- the def of the module's name x, n parameters, hands back what fn says -/
structure FX (P : Program) (w : World) (K : PySem.W.Frag) (mg : Str → Option Value) (base : Heap) (k : Nat) (x : Str) (n : Nat) (fn : List D → Option D) : Prop where
  ex : ∃ (f : Addr) (fd : FuncData) (ps : List Str), FnOk P w K mg base CX0 k f fd ps (spX K n fn) ∧ mg x = some (.ref f) ∧ PySem.W.keepIn K (.ref f) = true ∧ Binds K fd ps []
/-- .. a new list or dict -/
structure FN (P : Program) (w : World) (K : PySem.W.Frag) (mg : Str → Option Value) (base : Heap) (k : Nat) (x : Str) (n : Nat) (fn : List D → Option D) : Prop where
  ex : ∃ (f : Addr) (fd : FuncData) (ps : List Str), FnOk P w K mg base CX0 k f fd ps (spN K n fn) ∧ mg x = some (.ref f) ∧ PySem.W.keepIn K (.ref f) = true ∧ Binds K fd ps []
section
variable {X : Cx} {a : Expr} {es : List Expr} {fl : DenL} {pos p : Pos} {x : Str} {k n : Nat} {fn : List D → Option D}
theorem ex_call (F : FX X.prog X.w X.K X.mg X.base k x n fn) (hr : Room k X.A) (hg : Gl X x) (hdb : (x == ("__debug__" : Str)) = false) (ha : EA X (a :: es) fl) (hn : (a :: es).length = n)
    (he : starEach (a :: es) X.env = (false, eval a X.env) :: starEach es X.env) (hpl : (backTo pos (starEach es X.env)).any (·.1) = false) (hl : ∀ ρ ds, fl ρ = some ds → ds.length = n) : EX X (.Call (.Name x p) (a :: es) [] pos) (fun ρ => (fl ρ).bind fn) := by
  obtain ⟨f, fd, ps, hF, hm, hk, hb⟩ := F.ex
  exact mkX (pe_call hF hr hg hm hk hb .nil pass0 ha.pa hdb he hpl) fun σ H Q ρ F d e h k => by
    simp only [Option.bind_eq_some_iff] at h
    obtain ⟨ds, h1, h2⟩ := h
    refine ⟨ρ, F, ds, e, h1, fun vs F1 H1 x1 r1 => ?_⟩
    show spX X.K n fn (vs ++ []) H1 Q E0
    rw [List.append_nil]
    exact ⟨F1, ds, d, x1.le, r1, hl ρ ds h1, h2, fun v F' H' x' r' => k v F' H' (x1.trans x') r'⟩
theorem en_call (F : FN X.prog X.w X.K X.mg X.base k x n fn) (hr : Room k X.A) (hg : Gl X x) (hdb : (x == ("__debug__" : Str)) = false) (ha : EA X (a :: es) fl) (hn : (a :: es).length = n)
    (he : starEach (a :: es) X.env = (false, eval a X.env) :: starEach es X.env) (hpl : (backTo pos (starEach es X.env)).any (·.1) = false) (hl : ∀ ρ ds, fl ρ = some ds → ds.length = n) : EN X (.Call (.Name x p) (a :: es) [] pos) (fun ρ => (fl ρ).bind fn) := by
  obtain ⟨f, fd, ps, hF, hm, hk, hb⟩ := F.ex
  exact mkN (pe_call hF hr hg hm hk hb .nil pass0 ha.pa hdb he hpl) fun σ H Q ρ F d e h k => by
    simp only [Option.bind_eq_some_iff] at h
    obtain ⟨ds, h1, h2⟩ := h
    refine ⟨ρ, F, ds, e, h1, fun vs F1 H1 x1 r1 => ?_⟩
    show spN X.K n fn (vs ++ []) H1 Q E0
    rw [List.append_nil]
    exact ⟨F1, ds, d, x1.le, r1, hl ρ ds h1, h2, fun a o F' H' x' g1 g2 g3 g4 => k a o F' H' (x1.trans x') g1 (x1.h.free g2) g3 g4⟩
end
/-! ### defs -/
def env0 (n : Nat) (ds : List D) : Env := ds.map .fz ++ List.replicate (n - ds.length) .no
def runX (fb : DenS) (n : Nat) (ds : List D) : Option D := match fb (env0 n ds) with
  | some (.rt d) => some d
  | some (.rn d) => some d
  | some (.nx _) => some .none
  | _ => none
def runN (fb : DenS) (n : Nat) (ds : List D) : Option D := match fb (env0 n ds) with
  | some (.rn d) => some d
  | _ => none
theorem env0_ok {K : PySem.W.Frag} {F H : Hp} {N : List Str} {ds : List D} {vs : List V} (s : Sub F H) (r : RpL K F ds vs) : EnvOk K (env0 N.length ds) (L2.start N vs) F H := by
  have hl : vs.length = ds.length := r.length
  have ow : ∀ {i : Nat} {d : D}, (env0 N.length ds)[i]? = some (.ow d) → False := fun {i d} h => by
    unfold env0 at h
    rw [List.getElem?_append] at h
    split at h
    · rw [List.getElem?_map, Option.map_eq_some_iff] at h
      obtain ⟨_, _, h⟩ := h
      cases h
    · rw [List.getElem?_replicate] at h
      split at h <;> cases h
  refine ⟨s, by unfold env0 L2.start; simp [hl], fun i sl h => ?_, fun i j d e a h1 => (ow h1).elim⟩
  unfold env0 at h
  rw [List.getElem?_append] at h
  unfold L2.start
  split at h
  · rename_i hi
    rw [List.length_map] at hi
    rw [List.getElem?_map, Option.map_eq_some_iff] at h
    obtain ⟨d, hd, rfl⟩ := h
    obtain ⟨v, hv, rv⟩ := r.get hd
    refine ⟨some v, ?_, v, rfl, rv⟩
    rw [List.getElem?_append_left (by rw [List.length_map]; omega), List.getElem?_map, hv]
    rfl
  · rename_i hi
    rw [List.length_map] at hi h
    rw [List.getElem?_replicate] at h
    split at h
    · rename_i hj
      cases h
      refine ⟨none, ?_, trivial⟩
      rw [List.getElem?_append_right (by rw [List.length_map]; omega), List.length_map, List.getElem?_replicate, if_pos (by omega)]
    · cases h
theorem env0_ow {n : Nat} {ds : List D} {i : Nat} {d : D} (h : (env0 n ds)[i]? = some (.ow d)) : False := by
  unfold env0 at h
  rw [List.getElem?_append] at h
  split at h
  · rw [List.getElem?_map, Option.map_eq_some_iff] at h
    obtain ⟨_, _, h⟩ := h
    cases h
  · rw [List.getElem?_replicate] at h
    split at h <;> cases h
/-- a def's body read -/
structure Bd (P : Program) (w : World) (K : PySem.W.Frag) (mg : Str → Option Value) (base : Heap) (k : Nat) (N : List Str) (x : Str) (body : List Stmt) (scope : Scope) (f : Addr) (fb : DenS) : Prop where
  h : ∀ (cdv : Value) (A : Around) (outer : List PySem.Env) (s : Shared) (H : Hp) (E : XK), Room k (A.deeper (PyProof.Rows.envOfC x scope s.heap.objs.size f cdv)) → SXs (cxOf CX0 P w K mg base N x scope f cdv A outer s H E).nox body fb
section
variable {P : Program} {w : World} {K : PySem.W.Frag} {mg : Str → Option Value} {base : Heap} {k : Nat} {N ps : List Str} {x : Str} {params : Arguments} {body : List Stmt} {scope : Scope} {f : Addr} {fd : FuncData} {fb : DenS} {n : Nat}
theorem fo_of (F : FunD K x x params body scope [] [] f fd) (S : FnScope N ps scope) 
    (hb : ∀ (kV doc pm : Value) (an : Option Addr) (cdv ct : Value) (us : List Value), us.length = ps.length → bindArgs (PySem.W.fnOf x x params body scope .none kV doc pm an cdv ct) ⟨us, []⟩ = pure (ps.zip us))
    (hn : ps.length = n) (B : Bd P w K mg base k N x body scope f fb) : FnOk P w K mg base CX0 (k + 1) f fd ps (spX K n (runX fb N.length)) := by
  refine FunD.ok F S (fun vs H Q E h => ?_) fun cdv A outer s H vs Q E hr h => ⟨tSt K fb, (B.h cdv A outer s H E hr).pss.nox, ?_⟩
  · obtain ⟨F1, ds, d, _, r, hl, _⟩ := h
    rw [r.length, hl, hn]
  · obtain ⟨F1, ds, d, s1, r, hl, hd, k⟩ := h
    unfold runX at hd
    refine ⟨F1, H, env0 N.length ds, F1, ?_⟩
    have e : EnvS K F1 H (env0 N.length ds) (L2.start N vs) F1 H := ⟨env0_ok s1 r, .refl s1, fun i d a h1 => (env0_ow h1).elim⟩
    split at hd
    · rename_i d' hf
      cases hd
      exact ⟨_, e, hf, fun v F' H' x' r' => k v F' H' x' r'⟩
    · rename_i d' hf
      cases hd
      refine ⟨_, e, hf, fun a o F' H' x' g1 g2 g3 g4 => ?_⟩
      refine k (.ref a) (upd F' a o) H' ⟨x'.f.trans (Sub.new g1), x'.h, fun b u hb => ?_, fun b h1 h2 => ?_⟩ ?_
      · by_cases hba : b = a
        · subst hba; rw [upd_same] at hb; cases hb; exact g3
        · rw [upd_ne hba] at hb; exact x'.le b u hb
      · rw [upd_ne (fun z => h1 (by rw [z]; exact g2))]
        exact x'.new b h1 h2
      · have sF : Sub F' (upd F' a o) := Sub.new g1
        cases g4 with
        | lst t => exact .lst upd_same (t.mono sF)
        | dK t => exact .dK (.inl upd_same) (t.mono sF)
        | dT t => exact .dT (.inl upd_same) (t.mono sF)
    · rename_i ρ' hf
      cases hd
      exact ⟨_, e, hf, fun σ' F' H' e' => k .non F' H' e'.ext .non⟩
    · cases hd
theorem fx_of (F : FunD K x x params body scope [] [] f fd) (S : FnScope N ps scope) (hm : mg x = some (.ref f))
    (hb : ∀ (kV doc pm : Value) (an : Option Addr) (cdv ct : Value) (us : List Value), us.length = ps.length → bindArgs (PySem.W.fnOf x x params body scope .none kV doc pm an cdv ct) ⟨us, []⟩ = pure (ps.zip us))
    (hn : ps.length = n) (B : Bd P w K mg base k N x body scope f fb) : FX P w K mg base (k + 1) x n (runX fb N.length) := ⟨f, fd, ps, fo_of F S hb hn B, hm, F.kp, F.bindsN hb⟩
theorem fn_of' (F : FunD K x x params body scope [] [] f fd) (S : FnScope N ps scope) (hm : mg x = some (.ref f))
    (hb : ∀ (kV doc pm : Value) (an : Option Addr) (cdv ct : Value) (us : List Value), us.length = ps.length → bindArgs (PySem.W.fnOf x x params body scope .none kV doc pm an cdv ct) ⟨us, []⟩ = pure (ps.zip us))
    (hn : ps.length = n) (B : Bd P w K mg base k N x body scope f fb) : FN P w K mg base (k + 1) x n (runN fb N.length) := by
  refine ⟨f, fd, ps, FunD.ok F S (fun vs H Q E h => ?_) fun cdv A outer s H vs Q E hr h => ⟨tSt K fb, (B.h cdv A outer s H E hr).pss.nox, ?_⟩, hm, F.kp, F.bindsN hb⟩
  · obtain ⟨F1, ds, d, _, r, hl, _⟩ := h
    rw [r.length, hl, hn]
  · obtain ⟨F1, ds, d, s1, r, hl, hd, k⟩ := h
    unfold runN at hd
    refine ⟨F1, H, env0 N.length ds, F1, ?_⟩
    have e : EnvS K F1 H (env0 N.length ds) (L2.start N vs) F1 H := ⟨env0_ok s1 r, .refl s1, fun i d a h1 => (env0_ow h1).elim⟩
    split at hd
    · rename_i d' hf
      cases hd
      exact ⟨_, e, hf, fun a o F' H' x' g1 g2 g3 g4 => k a o F' H' x' g1 g2 g3 g4⟩
    · cases hd
end
theorem len1 {f1 : Den} : ∀ ρ ds, lCons f1 lNil ρ = some ds → ds.length = 1 := fun ρ ds h => by
  simp only [lCons, lNil, Option.bind_eq_some_iff, Option.some.injEq] at h
  obtain ⟨_, _, _, rfl, rfl⟩ := h
  rfl
theorem lenS {f1 : Den} {g : DenL} {n : Nat} (hg : ∀ ρ ds, g ρ = some ds → ds.length = n) : ∀ ρ ds, lCons f1 g ρ = some ds → ds.length = n + 1 := fun ρ ds h => by
  simp only [lCons, Option.bind_eq_some_iff, Option.some.injEq] at h
  obtain ⟨_, _, xs, h2, rfl⟩ := h
  rw [List.length_cons, hg ρ xs h2]
theorem len0 : ∀ ρ ds, lNil ρ = some ds → ds.length = 0 := fun ρ ds h => by
  cases h
  rfl
theorem FX.mono {P : Program} {w : World} {K : PySem.W.Frag} {mg : Str → Option Value} {base : Heap} {j k n : Nat} {x : Str} {fn : List D → Option D} (F : FX P w K mg base j x n fn) (h : j ≤ k) : FX P w K mg base k x n fn := by
  obtain ⟨f, fd, ps, a, b⟩ := F.ex
  exact ⟨f, fd, ps, a.mono h, b⟩
theorem FN.mono {P : Program} {w : World} {K : PySem.W.Frag} {mg : Str → Option Value} {base : Heap} {j k n : Nat} {x : Str} {fn : List D → Option D} (F : FN P w K mg base j x n fn) (h : j ≤ k) : FN P w K mg base k x n fn := by
  obtain ⟨f, fd, ps, a, b⟩ := F.ex
  exact ⟨f, fd, ps, a.mono h, b⟩
/-- what is known of a def's value at the arguments one needs -/
theorem FX.imp {P : Program} {w : World} {K : PySem.W.Frag} {mg : Str → Option Value} {base : Heap} {k n : Nat} {x : Str} {fn fn' : List D → Option D} (F : FX P w K mg base k x n fn) (h : ∀ ds d, fn' ds = some d → fn ds = some d) : FX P w K mg base k x n fn' := by
  obtain ⟨f, fd, ps, a, b⟩ := F.ex
  exact ⟨f, fd, ps, a.imp fun vs H Q E ⟨F1, ds, d, s, r, hl, hd, k⟩ => ⟨F1, ds, d, s, r, hl, h ds d hd, k⟩, b⟩
theorem Room.u1 {k : Nat} {A : Around} (r : Room k A) : A.units + 1 < cLine := by have := r.un; omega
theorem Room.u64 {k : Nat} {A : Around} (r : Room k A) : A.units + 64 < cLine := by have := r.un; omega
theorem Room.u65 {k : Nat} {A : Around} (r : Room k A) : A.units + 65 < cLine := by have := r.un; omega
end Zx
/-! Zx10: sorted, min, max of lists; list.index. -/
namespace Zx
open PySem PySem.Spec L2 PySem.W
/-- the sort's order -/
def leS (a b : D) : Bool := !dataLt b a
def isTup1 : D → Bool
  | .tuple (_ :: _) => true
  | _ => false
def noTup : D → Bool
  | .tuple _ => false
  | .none => false
  | _ => true
def srtOk (ds : List D) : Bool := (ds.all fun x => ds.all fun y => alike x y) && (ds.all isTup1 || ds.all noTup) && ds.all SeqAt.shaped && decide (ds.length ≤ 1000000)
theorem srt_parts {ds : List D} (h : srtOk ds = true) : AllAlike ds ∧ Sortable ds ∧ (∀ d ∈ ds, SeqAt.shaped d = true) ∧ ds.length ≤ 1000000 := by
  unfold srtOk at h
  rw [Bool.and_eq_true, Bool.and_eq_true, Bool.and_eq_true, Bool.or_eq_true] at h
  obtain ⟨⟨⟨h1, h2⟩, h3⟩, h4⟩ := h
  refine ⟨fun d hd d' hd' => ?_, ?_, fun d hd => List.all_eq_true.mp h3 d hd, of_decide_eq_true h4⟩
  · exact List.all_eq_true.mp (List.all_eq_true.mp h1 d hd) d' hd'
  · rcases h2 with h2 | h2
    · refine .inl fun d hd => ?_
      have := List.all_eq_true.mp h2 d hd
      unfold isTup1 at this
      split at this
      · exact ⟨_, _, rfl⟩
      · cases this
    · refine .inr fun d hd => ?_
      have := List.all_eq_true.mp h2 d hd
      refine ⟨?_, fun xs => ?_⟩ <;> rintro rfl <;> cases this
/-- data, its value in the layer, its value -/
abbrev Tri := D × V × Value
inductive Tris (K : PySem.W.Frag) (F : Hp) : List Tri → List D → List V → List Value → Prop
  | nil : Tris K F [] [] [] []
  | cons {d : D} {x : V} {u : Value} {ts : List Tri} {ds : List D} {xs : List V} {us : List Value} : Rp K F d x → RelV x u → Tris K F ts ds xs us → Tris K F ((d, x, u) :: ts) (d :: ds) (x :: xs) (u :: us)
theorem tris_of {K : PySem.W.Frag} {F : Hp} : ∀ {ds : List D} {xs : List V} {us : List Value}, RpL K F ds xs → Vals xs us → ∃ ts, Tris K F ts ds xs us
  | _, _, _, .nil, .nil => ⟨_, .nil⟩
  | _, _, _, .cons a b, .cons c e => by
    obtain ⟨ts, h⟩ := tris_of b e
    exact ⟨_, .cons a c h⟩
theorem Tris.maps {K : PySem.W.Frag} {F : Hp} : ∀ {ts : List Tri} {ds : List D} {xs : List V} {us : List Value}, Tris K F ts ds xs us → ts.map (·.1) = ds ∧ ts.map (·.2.1) = xs ∧ ts.map (·.2.2) = us ∧ ∀ t ∈ ts, Rp K F t.1 t.2.1 ∧ RelV t.2.1 t.2.2
  | _, _, _, _, .nil => ⟨rfl, rfl, rfl, fun _ h => by cases h⟩
  | _, _, _, _, .cons a b c => by
    obtain ⟨h1, h2, h3, h4⟩ := c.maps
    refine ⟨by rw [List.map_cons, h1], by rw [List.map_cons, h2], by rw [List.map_cons, h3], fun t ht => ?_⟩
    rcases List.mem_cons.mp ht with rfl | ht
    · exact ⟨a, b⟩
    · exact h4 t ht
theorem rpl_map {K : PySem.W.Frag} {F : Hp} : ∀ {ts : List Tri}, (∀ t ∈ ts, Rp K F t.1 t.2.1 ∧ RelV t.2.1 t.2.2) → RpL K F (ts.map (·.1)) (ts.map (·.2.1)) ∧ Vals (ts.map (·.2.1)) (ts.map (·.2.2))
  | [], _ => ⟨.nil, .nil⟩
  | t :: ts, h => by
    obtain ⟨a, b⟩ := rpl_map (ts := ts) fun t ht => h t (List.mem_cons_of_mem _ ht)
    obtain ⟨c, d⟩ := h t List.mem_cons_self
    exact ⟨.cons c a, .cons d b⟩
theorem each_fn {α β : Type} {f : β → α} : ∀ {as : List α} {bs : List β}, EachIs (fun a b => a = f b) as bs → as = bs.map f
  | _, _, .nil => rfl
  | _, _, .cons r t => by rw [List.map_cons, ← r, ← each_fn t]
theorem fn_each {α β : Type} {f : β → α} : ∀ {bs : List β}, EachIs (fun a b => a = f b) (bs.map f) bs
  | [] => .nil
  | b :: bs => .cons rfl fn_each
theorem each_mapR {α β : Type} {R : α → β → Prop} {f : β → α} : ∀ {bs : List β}, (∀ b ∈ bs, R (f b) b) → EachIs R (bs.map f) bs
  | [], _ => .nil
  | b :: bs, h => .cons (h b List.mem_cons_self) (each_mapR fun b hb => h b (List.mem_cons_of_mem _ hb))
theorem tri_sort (ts : List Tri) : (ts.mergeSort (dataLe false fun t : Tri => t.1)).map (·.1) = (ts.map (·.1)).mergeSort leS :=
  List.map_mergeSort fun a _ b _ => by
    rw [dataLe_eq]
    rfl
def rSortedD (K : PySem.W.Frag) : List V → Hp → VK → Prop := fun vs H Q => ∃ (a : Addr) (F : Hp) (ds : List D) (xs : List V), vs = [V.ref a] ∧ H a = some (.lst xs) ∧ RpL K F ds xs ∧ Sub F H ∧ srtOk ds = true ∧
  ∀ p ys, H p = none → RpL K F (ds.mergeSort leS) ys → Q (.ref p) (upd H p (.lst ys))
section
variable {X : Cx} {a b : Expr} {f g : Den} {p pos : Pos}
theorem cr_sortedD (hu : X.A.units + 68 < cLine) : CallR X (.builtin "sorted") (rSortedD X.K) := by
  intro pins s σ H vs us Q I r h
  obtain ⟨l, F, ds, xs, rfl, hs, rp, sb, ok, q⟩ := h
  obtain ⟨its, rv, hl, hz⟩ := I.list (.inl (.inl hs))
  rw [Vals.ref1 r]
  obtain ⟨h1, h2, h3, h4⟩ := srt_parts ok
  obtain ⟨ts, ht⟩ := tris_of rp rv
  obtain ⟨m1, m2, m3, m4⟩ := ht.maps
  subst m3
  have hreads : ∀ t ∈ ts, ∃ as, Reads s.heap t.2.2 t.1 as := fun t ht => by
    have hd : t.1 ∈ ds := by rw [← m1]; exact List.mem_map_of_mem ht
    exact Dp.reads I t.1 t.2.1 t.2.2 ((m4 t ht).1.dp sb t.1 t.2.1 (plain_of_shaped (h3 t.1 hd))) (m4 t ht).2
  refine sorted_data (β := Tri) (enc := fun t => t.1) (R := fun v t => v = t.2.2) (bs := ts) hl.isList fn_each (each_mapR hreads) (by rw [m1]; exact h1) (by rw [m1]; exact h2) ?_ (fun t ht => ?_) fun out hlo he => ?_
  · have : ts.length = ds.length := by rw [← m1, List.length_map]
    have := line_of (n := ts.length) (by omega)
    exact this
  · have hd : t.1 ∈ ds := by rw [← m1]; exact List.mem_map_of_mem ht
    have := SeqAt.depth_of_shaped (h3 _ hd)
    omega
  · obtain ⟨ep, he'⟩ := PyProof.Rows.sortedAll_at s.heap (ts.map (·.2.2)) out.toArray
    have e2 := each_fn he
    have hm : ∀ t ∈ ts.mergeSort (dataLe false fun t : Tri => t.1), Rp X.K F t.1 t.2.1 ∧ RelV t.2.1 t.2.2 := fun t ht => m4 t ((List.mergeSort_perm ts _).mem_iff.mp ht)
    obtain ⟨r1, r2⟩ := rpl_map hm
    rw [tri_sort, m1] at r1
    rw [← e2] at r2
    refine ⟨.ref _, upd H (s.heap.objs.size + 1) (.lst ((ts.mergeSort (dataLe false fun t : Tri => t.1)).map (·.2.1))), I.laid (t' := s.toks) (fun _ _ => PyProof.Rows.sortedAll_old) (Nat.le_succ _) ⟨?_, out, ep, r2, he'⟩, rfl, q _ _ (I.hok.fresh (Nat.le_succ _)) r1⟩
    rw [List.length_map, List.length_mergeSort]
    have : ts.length = ds.length := by rw [← m1, List.length_map]
    exact line_of (by omega)
def sortD : D → Option D | .list ds => if srtOk ds then some (.list (ds.mergeSort leS)) else none | _ => none
theorem en_sorted (hu : X.A.units + 68 < cLine) (hg : Gl X "sorted") (hm : X.mg "sorted" = none) (ha : EB X a f) (hs : N1 X a) : EN X (.Call (.Name "sorted" p) [a] [] pos) (d1 sortD f) :=
  en_c1 (pe_callB (cr_sortedD hu) hg hm rfl (pa_cons ha.pe pa_nil hs) (by decide) (by decide) hs rfl) fun x u d F H Q e s ru k => by
    unfold sortD at e
    split at e
    · split at e
      · rename_i ds ok
        cases e
        obtain ⟨q, xs, rfl, hq, rq⟩ := ru.list s
        exact ⟨q, F, ds, xs, rfl, hq, rq, s, ok, fun p' ys hp r' => k p' _ hp (.lst r')⟩
      · cases e
    · cases e
/-! ### min, max of a list of ints -/
def minL : List Int → Option Int
  | [] => none
  | i :: is => some (is.foldl min i)
def maxL : List Int → Option Int
  | [] => none
  | i :: is => some (is.foldl max i)
theorem foldl_min : ∀ (l : List Int) (i m : Int), (m = i ∨ m ∈ l) → m ≤ i → (∀ x ∈ l, m ≤ x) → l.foldl min i = m
  | [], i, m, h, _, _ => by
    rcases h with h | h
    · exact h.symm
    · cases h
  | x :: l, i, m, h, h1, h2 => by
    rw [List.foldl_cons]
    have hx := h2 x List.mem_cons_self
    refine foldl_min l _ m ?_ (by omega) fun y hy => h2 y (List.mem_cons_of_mem _ hy)
    rcases h with h | h
    · left; omega
    · rcases List.mem_cons.mp h with h | h
      · left; omega
      · exact .inr h
theorem foldl_max : ∀ (l : List Int) (i m : Int), (m = i ∨ m ∈ l) → i ≤ m → (∀ x ∈ l, x ≤ m) → l.foldl max i = m
  | [], i, m, h, _, _ => by
    rcases h with h | h
    · exact h.symm
    · cases h
  | x :: l, i, m, h, h1, h2 => by
    rw [List.foldl_cons]
    have hx := h2 x List.mem_cons_self
    refine foldl_max l _ m ?_ (by omega) fun y hy => h2 y (List.mem_cons_of_mem _ hy)
    rcases h with h | h
    · left; omega
    · rcases List.mem_cons.mp h with h | h
      · left; omega
      · exact .inr h
def minLD : D → Option D | .list xs => (intsOf xs).bind fun is => (minL is).bind fun m => some (.int m) | _ => none
def maxLD : D → Option D | .list xs => (intsOf xs).bind fun is => (maxL is).bind fun m => some (.int m) | _ => none
theorem ex_minL (hc : X.calm = true) (hg : Gl X "min") (hm : X.mg "min" = none) (ha : EB X a f) (hs : N1 X a) : EX X (.Call (.Name "min" p) [a] [] pos) (d1 minLD f) :=
  ex_c1 (pe_callB (cr_min hc) hg hm rfl (pa_cons ha.pe pa_nil hs) (by decide) (by decide) hs rfl) fun x u d F H Q e s ru k => by
    unfold minLD at e
    split at e
    · rename_i ds
      simp only [Option.bind_eq_some_iff, Option.some.injEq] at e
      obtain ⟨is, h1, m, h2, rfl⟩ := e
      obtain ⟨q, xs, rfl, hq, rq⟩ := ru.list s
      have e1 := intsOf_eq h1
      subst e1
      have e2 := rq.ints_inv
      subst e2
      cases is with
      | nil => cases h2
      | cons i is =>
        cases h2
        refine ⟨q, i :: is, rfl, .inl (.inl hq), Nat.succ_pos _, fun m h1 h2 => ?_⟩
        rw [foldl_min is i m (List.mem_cons.mp h1) (h2 i List.mem_cons_self) fun x hx => h2 x (List.mem_cons_of_mem _ hx)] at k
        exact k _ F H (.refl s) (.int _)
    · cases e
theorem ex_maxL (hc : X.calm = true) (hg : Gl X "max") (hm : X.mg "max" = none) (ha : EB X a f) (hs : N1 X a) : EX X (.Call (.Name "max" p) [a] [] pos) (d1 maxLD f) :=
  ex_c1 (pe_callB (cr_max hc) hg hm rfl (pa_cons ha.pe pa_nil hs) (by decide) (by decide) hs rfl) fun x u d F H Q e s ru k => by
    unfold maxLD at e
    split at e
    · rename_i ds
      simp only [Option.bind_eq_some_iff, Option.some.injEq] at e
      obtain ⟨is, h1, m, h2, rfl⟩ := e
      obtain ⟨q, xs, rfl, hq, rq⟩ := ru.list s
      have e1 := intsOf_eq h1
      subst e1
      have e2 := rq.ints_inv
      subst e2
      cases is with
      | nil => cases h2
      | cons i is =>
        cases h2
        refine ⟨q, i :: is, rfl, .inl (.inl hq), Nat.succ_pos _, fun m h1 h2 => ?_⟩
        rw [foldl_max is i m (List.mem_cons.mp h1) (h2 i List.mem_cons_self) fun x hx => h2 x (List.mem_cons_of_mem _ hx)] at k
        exact k _ F H (.refl s) (.int _)
    · cases e
/-! ### index -/
def indexL (d : D) : List D → Option Nat
  | [] => none
  | x :: xs => if PyData.eqv x d then some 0 else (indexL d xs).map (· + 1)
def indexD : D → D → Option D
  | .list xs, d => if SeqAt.shaped (.list xs) && SeqAt.shaped d then (indexL d xs).bind fun i => some (.int (i : Nat)) else none
  | _, _ => none
theorem indexL_at : ∀ {xs : List D} {d : D} {i : Nat}, indexL d xs = some i → ∃ z, xs[i]? = some z ∧ PyData.eqv z d = true ∧ ∀ m z', m < i → xs[m]? = some z' → PyData.eqv z' d = false
  | [], _, _, h => by cases h
  | x :: xs, d, i, h => by
    unfold indexL at h
    split at h
    · rename_i hx
      cases h
      exact ⟨x, rfl, hx, fun m z' hm => absurd hm (Nat.not_lt_zero _)⟩
    · rename_i hx
      rw [Option.map_eq_some_iff] at h
      obtain ⟨j, h1, rfl⟩ := h
      obtain ⟨z, h2, h3, h4⟩ := indexL_at h1
      refine ⟨z, by simpa using h2, h3, fun m z' hm hz => ?_⟩
      cases m with
      | zero =>
        simp at hz
        subst hz
        simpa using hx
      | succ m => exact h4 m z' (by omega) (by simpa using hz)
theorem ex_index {apos cpos : Pos} (hu : X.A.units + 65 < cLine) (ha : EB X a f) (hb : EX X b g) (hs : N1 X b) (hbase : attributeBase a "index" X.env (eval a X.env) = eval a X.env) (hline : (apos.endLine == cpos.line) = true) :
    EX X (.Call (.Attribute a "index" apos) [b] [] cpos) (d2 indexD f g) :=
  mkX (pe_bm PySem.F.plainAttrs_list PySem.F.slot_list_index PySem.F.type_list_index (mt_indexD hu) ha.pe (pa_cons hb.b.pe pa_nil hs) hbase (by rw [hs]; rfl) hline hs rfl) fun σ H Q ρ F d e h k => by
    simp only [d2, Option.bind_eq_some_iff] at h
    obtain ⟨x, h1, y, h2, h3⟩ := h
    unfold indexD at h3
    split at h3
    · rename_i ds
      split at h3
      · rename_i hsh
        rw [Bool.and_eq_true] at hsh
        obtain ⟨s1, s2⟩ := hsh
        simp only [Option.bind_eq_some_iff, Option.some.injEq] at h3
        obtain ⟨j, h4, rfl⟩ := h3
        obtain ⟨z, z1, z2, z3⟩ := indexL_at h4
        refine ⟨ρ, F, .list ds, e, h1, fun u F1 H1 x1 r1 => ?_⟩
        obtain ⟨q, xs, rfl, hq, rq⟩ := r1.list x1.le
        refine ⟨.inl ⟨rfl, xs, .inl (.inl hq)⟩, ρ, F1, y, e.ext x1, h2, fun w F2 H2 x2 r2 => ?_⟩
        exact ⟨q, w, y, ds, j, z, rfl, rfl, (r1.ext x2).dp x2.le (plain_of_shaped s1), r2.dp x2.le (plain_of_shaped s2), s1, s2, z1, z2, z3, k _ F2 H2 (x1.trans x2) (.int _)⟩
      · cases h3
    · cases h3
end
end Zx
/-! Zx11: set(list of ints), sorted(set(..)). -/
namespace Zx
open PySem PySem.Spec L2 PyProof.Rows
section
variable {P : Program} {w : World} {A : Around} {E : Value → Shared → Prop} {s : Shared}
abbrev obS (w : World) : Obj := { cls := .type "set", dict := none, data := .set #[] 0 (.fresh 0 0 (!w.params.followText "set-order")) }
theorem setR_list {la : Addr} {its : Array Value} (ks : List Int) {Q : Value → Shared → Prop} (hA : A.handled = none) (hL : s.heap.IsList la its) (hI : IntsAre its.toList ks) (hz : ks.length + 1 < scanBound)
    (fin : ∀ (g : Heap) (tk c : Nat), SetR w g s.heap.objs.size (fun j => decide (j ∈ ks)) c → c ≤ ks.length → (∀ b o, s.heap.get? b = some o → g.get? b = some o) → Q (.ref s.heap.objs.size) { s with heap := g, toks := tk }) :
    wpAny (model P w) A (call (.type "set") [.ref la]) Q E s := by
  have hsz : its.size = ks.length := by have z := IntsAre.length hI; rw [Array.length_toList] at z; exact z
  obtain ⟨c0, t0, hmro⟩ := F.called_set.mro
  have q1 := F.called_set.made; have q2 := F.called_set.sub
  refine wpAny_call (codeAny_of_tree ?_); show wpAny _ _ (callAny (.type "set") _) _ _ _
  refine wpAny_pure ⟨PySem.Code.quiet_builtin _ (by decide +kernel), codeAny_builtin F.entry_type_call ?_⟩
  rw [Around.under_plain (weight_type_call_type "set" [.ref la] []) rfl]
  have q3 := F.called_set.notType; have q4 := F.called_set.canCreate; have q5 := F.typeCall_set_1 (.ref la)
  repeat (any_goals (first | assumption | wp_step))

  refine codeAny_mono (code_set_led1 (.ref la) (E := E) (Q₁ := fun ob s1 => ob = .ref s.heap.objs.size ∧ s1 = { s with heap := s.heap.push (obS w) }) ⟨rfl, rfl⟩) fun rr s1 hrr => ?_
  cases rr with
  | error e => exact hrr
  | ok fl =>
    cases fl with
    | ret ob =>
      obtain ⟨rfl, rfl⟩ := hrr
      have g0 : (s.heap.push (obS w)).get? s.heap.objs.size = some (obS w) := Heap.get?_push_size _ rfl
      have g1 : Shared.TypeIs { s with heap := s.heap.push (obS w) } (.ref s.heap.objs.size) "set" := ⟨_, g0, rfl⟩
      have q6 := F.called_set.init.lookup; have q7 := F.called_set.init.bind (.ref s.heap.objs.size)
      repeat (any_goals (first | assumption | wp_step))

      refine codeAny_mono (codeAny_call_builtin (R := wants (fun r s₂ => r = .none ∧ ∃ g tk c, s₂ = { s with heap := g, toks := tk } ∧ SetR w g s.heap.objs.size (fun j => decide (j ∈ ks)) c ∧ c ≤ ks.length ∧
          ∀ b o, s.heap.get? b = some o → g.get? b = some o) E) F.called_set.init.plain F.entry_set_init (check_set_init_1 g1 ?_)) fun r2 s2 hr2 => ?_
      · obtain ⟨⟨oc, od, oda, osl⟩, hol, hcl, nl, hdl⟩ := hL
        simp only at hcl hdl
        subst hcl; subst hdl
        have g2 : (s.heap.push (obS w)).get? la = some { cls := .type "list", dict := od, data := .seq its nl, slots := osl } := Heap.get?_push_of_some _ hol
        have q8 := F.sub_list_set; have q9 := F.sub_list_frozenset
        have q10 : (Value.type "list" == Value.type "dict") = false := by decide
        have hl1 : (s.heap.push (obS w)).IsList la its := ⟨_, g2, rfl, nl, rfl⟩
        unfold Builtin.«set.__init__» noKeywords Builtin.Frozenset.updateFrom
        generalize hPI : pyIter = PI; wp_walk; subst hPI
        refine wpAny_pyIter_list hl1 ?_; refine wpAny_bind (wpAny_runValue ?_)
        have la_lt : la < s.heap.objs.size := Heap.lt_size hol
        have hz1 : (s.heap.push (obS w)).objs.size = s.heap.objs.size + 1 := Heap.size_push ..
        have hneI : la ≠ (s.heap.push (obS w)).objs.size := by
          rw [hz1]; exact fun z => Nat.lt_irrefl _ (Nat.lt_of_lt_of_le la_lt (Nat.le_trans (Nat.le_succ _) (Nat.le_of_eq z.symm)))
        have hSf : s.heap.objs.size ∉ [(s.heap.push (obS w)).objs.size, la] := by
          rw [hz1]
          intro hm
          rcases List.mem_cons.mp hm with z | z
          · exact absurd z (Nat.ne_of_lt (Nat.lt_succ_self _))
          · exact absurd (List.mem_singleton.mp z).symm (Nat.ne_of_lt la_lt)
        have hv : ∀ (i : Nat) (v : Value), its[i]? = some v → ∃ k t, ks[i]? = some k ∧ v = .int k t := fun i v hv => by
          have hi : i < ks.length := by rw [← hsz]; exact (Array.getElem?_eq_some_iff.mp hv).1
          obtain ⟨t, e⟩ := IntsAre.int_at hI i v (by rw [Array.getElem?_toList]; exact hv)
          refine ⟨ks[i], t, List.getElem?_eq_getElem hi, ?_⟩
          rw [e, List.getD_eq_getElem?_getD, List.getElem?_eq_getElem hi]; rfl
        have hA3 : A.in1.in1.in1.handled = none := by simp [hA]
        refine set_update_ints ((Walks.list hA3 _ la hneI its).toS) _ hSf ks hsz hz hv (its.size - 0) 0 _ (by omega) (Nat.zero_le _) ⟨⟨_, Heap.get?_push_size _ rfl, rfl, rfl⟩, (hl1.push _)⟩ ?hS0 ?hR
        case hS0 => exact ⟨0, Nat.le_refl 0, setR_new_at (Heap.get?_push_of_some _ g0)⟩
        case hR =>
          intro s' c' hm hc' hS'
          obtain ⟨h3, g3, d3, tk3, os3⟩ := s'
          have e1 : g3 = s.gens := hm.gens
          have e2 : d3 = s.drawn := hm.drawn
          have e3 : os3 = s.os := hm.os
          subst e1 e2 e3
          show wpAny _ _ _ _ _ _
          refine wpAny_pure ?_
          show wpAny _ _ (ret Value.none) _ _ _
          refine wpAny_pure ⟨rfl, h3, tk3, c', rfl, hS', by omega, fun b o e => ?_⟩
          have b0 : b < s.heap.objs.size := Heap.lt_size e
          refine hm.heap b o ?_ (Heap.get?_push_of_some _ (Heap.get?_push_of_some _ e))
          rw [hz1]
          intro hm
          rcases List.mem_cons.mp hm with z | hm
          · exact absurd z (Nat.ne_of_lt b0)
          · exact absurd (List.mem_singleton.mp hm) (Nat.ne_of_lt (Nat.lt_succ_of_lt b0))
      · cases r2 with
        | error e => exact hr2
        | ok fl =>
          cases fl with
          | ret v =>
            obtain ⟨rfl, g, tk, c, rfl, k1, k2, k3⟩ := hr2
            repeat (any_goals (first | assumption | wp_step))
            exact fin _ _ _ k1 k2 k3
          | _ => exact hr2.elim
    | _ => exact hrr.elim
end
/-! ### strictly rising lists of ints -/
def sIns (k : Int) : List Int → List Int
  | [] => [k]
  | x :: xs => if k < x then k :: x :: xs else if k = x then x :: xs else x :: sIns k xs
def setSort : List Int → List Int
  | [] => []
  | k :: ks => sIns k (setSort ks)
theorem sIns_mem {k j : Int} : ∀ {xs : List Int}, j ∈ sIns k xs ↔ j = k ∨ j ∈ xs
  | [] => by simp [sIns]
  | x :: xs => by
    unfold sIns
    split
    · simp
    · split
      · rename_i h
        subst h
        simp
      · rw [List.mem_cons, sIns_mem (xs := xs), List.mem_cons]
        constructor
        · rintro (h | h | h)
          · exact .inr (.inl h)
          · exact .inl h
          · exact .inr (.inr h)
        · rintro (h | h | h)
          · exact .inr (.inl h)
          · exact .inl h
          · exact .inr (.inr h)
theorem sIns_lt {k : Int} : ∀ {xs : List Int}, xs.Pairwise (· < ·) → (sIns k xs).Pairwise (· < ·)
  | [], _ => by simp [sIns]
  | x :: xs, h => by
    obtain ⟨h1, h2⟩ := List.pairwise_cons.mp h
    unfold sIns
    split
    · rename_i hk
      refine List.pairwise_cons.mpr ⟨fun y hy => ?_, h⟩
      rcases List.mem_cons.mp hy with rfl | hy
      · exact hk
      · have := h1 y hy; omega
    · split
      · exact h
      · rename_i hk hk2
        refine List.pairwise_cons.mpr ⟨fun y hy => ?_, sIns_lt h2⟩
        rcases sIns_mem.mp hy with rfl | hy
        · omega
        · exact h1 y hy
theorem setSort_lt : ∀ (ks : List Int), (setSort ks).Pairwise (· < ·)
  | [] => .nil
  | _ :: ks => sIns_lt (setSort_lt ks)
theorem setSort_mem {j : Int} : ∀ {ks : List Int}, j ∈ setSort ks ↔ j ∈ ks
  | [] => Iff.rfl
  | k :: ks => by
    show j ∈ sIns k (setSort ks) ↔ _
    rw [sIns_mem, setSort_mem, List.mem_cons]
theorem rising_ext : ∀ {as bs : List Int}, as.Pairwise (· < ·) → bs.Pairwise (· < ·) → (∀ k, k ∈ as ↔ k ∈ bs) → as = bs
  | [], [], _, _, _ => rfl
  | [], b :: bs, _, _, h => by have := (h b).mpr List.mem_cons_self; cases this
  | a :: as, [], _, _, h => by have := (h a).mp List.mem_cons_self; cases this
  | a :: as, b :: bs, ha, hb, h => by
    obtain ⟨a1, a2⟩ := List.pairwise_cons.mp ha
    obtain ⟨b1, b2⟩ := List.pairwise_cons.mp hb
    have e : a = b := by
      rcases List.mem_cons.mp ((h a).mp List.mem_cons_self) with e | e
      · exact e
      · rcases List.mem_cons.mp ((h b).mpr List.mem_cons_self) with e' | e'
        · exact e'.symm
        · have := a1 b e'; have := b1 a e; omega
    subst e
    rw [rising_ext a2 b2 fun k => ?_]
    have := h k
    constructor
    · intro hk
      rcases List.mem_cons.mp (this.mp (List.mem_cons_of_mem _ hk)) with rfl | h'
      · have := a1 k hk; omega
      · exact h'
    · intro hk
      rcases List.mem_cons.mp (this.mpr (List.mem_cons_of_mem _ hk)) with rfl | h'
      · have := b1 k hk; omega
      · exact h'
/-! ### the rules -/
section
variable {X : Cx} {a : Expr} {f : Den} {p p2 pos pos2 : Pos}
def rSetLI (K : PySem.W.Frag) (w : World) : List V → Hp → VK → Prop := fun vs H Q => ∃ (q : Addr) (ks : List Int), vs = [V.ref q] ∧ SqL K H q (ks.map V.int) ∧ ks.length < 64 ∧
  ∀ r S n, (∀ k, S k = true ↔ k ∈ ks) → n ≤ ks.length → H r = none → Q (.ref r) (upd H r (SetO w r S n))
theorem cr_setLI (hc : X.calm = true) : CallR X (.type "set") (rSetLI X.K X.w) := by
  intro pins s σ H vs us Q I r h
  obtain ⟨q, ks, rfl, hs, hl, k⟩ := h
  obtain ⟨its, rv, hL, hz⟩ := I.list hs
  rw [Vals.ref1 r]
  refine setR_list ks (I.ok.hd hc) hL.isList (by simpa using rv.ints) (by unfold scanBound; omega) fun g tk c R hcn up => ?_
  exact ⟨.ref _, upd H s.heap.objs.size (SetO X.w s.heap.objs.size (fun j => decide (j ∈ ks)) c), I.laid (t' := tk) up (Nat.le_refl _) (setO_new R), rfl, k _ _ _ (fun j => by simp) hcn (I.hok.fresh (Nat.le_refl _))⟩
def ssD : D → Option D | .list xs => (intsOf xs).bind fun is => if is.length < 64 then some (.list ((setSort is).map .int)) else none | _ => none
theorem en_sortedSet (hc : X.calm = true) (hg : Gl X "sorted") (hm : X.mg "sorted" = none) (hg2 : Gl X "set") (hm2 : X.mg "set" = none) (ha : EB X a f) (hs : N1 X a) (hs2 : N1 X (.Call (.Name "set" p2) [a] [] pos2)) :
    EN X (.Call (.Name "sorted" p) [.Call (.Name "set" p2) [a] [] pos2] [] pos) (d1 ssD f) :=
  mkN (pe_callB (cr_sortedSet hc) hg hm rfl (pa_cons (pe_callTy (cr_setLI hc) hg2 hm2 rfl (pa_cons ha.pe pa_nil hs) (by decide) (by decide) hs rfl) pa_nil hs2) (by decide) (by decide) hs2 rfl) fun σ H Q ρ F d e h k => by
    simp only [d1, Option.bind_eq_some_iff] at h
    obtain ⟨x, h1, h2⟩ := h
    unfold ssD at h2
    split at h2
    · rename_i ds
      simp only [Option.bind_eq_some_iff] at h2
      obtain ⟨is, h2, h3⟩ := h2
      split at h3
      · rename_i hl
        cases h3
        have e1 := intsOf_eq h2
        subst e1
        refine ⟨ρ, F, .list (is.map .int), e, h1, fun u F1 H1 x1 r1 => ?_⟩
        obtain ⟨q, xs, rfl, hq, rq⟩ := r1.list x1.le
        have e2 := rq.ints_inv
        subst e2
        refine ⟨q, is, rfl, .inl (.inl hq), hl, fun r S n hS hn hr => ?_⟩
        refine ⟨r, S, n, rfl, upd_same, by omega, fun ns p' h1 h2 h3 hp => ?_⟩
        have e3 : ns = setSort is := rising_ext h1 (setSort_lt is) fun k => by rw [h2, hS, setSort_mem]
        subst e3
        have x2 : Ext F H F1 (upd H1 r (SetO X.w r S n)) := x1.trans (.own x1.le hr)
        have x3 := x2.trans (.own (o := .lst ((setSort is).map V.int)) x2.le hp)
        exact k p' _ F1 _ x3 (x2.le.free hp) (x2.h.free hp) upd_same (.lst (.ints _))
      · cases h3
    · cases h2
end
end Zx
/-! Zx12: sorted(d.items()). -/
namespace Zx
open PySem PySem.Spec L2 PyProof.Rows
section
variable {X : Cx} {pins : List (Addr × Obj)} {σ : L2.St} {H : Hp} {s : Shared}
/-- many new objects laid at once -/
theorem lay_many (I : Inv X pins σ H s) {H2 : Hp} {h2 : Heap} {tk : Nat} (hk : ∀ b o, s.heap.get? b = some o → h2.get? b = some o) (kp : ∀ b u, H b = some u → H2 b = some u)
    (nw : ∀ b u, H2 b = some u → H b = none → s.heap.objs.size ≤ b ∧ ObjOk X.prog X.w H2 h2 b u) : Inv X pins σ H2 { s with heap := h2, toks := tk } := by
  have un : Un (frs X.stack) [] H H2 s.heap h2 := {
    keep := fun b o q _ _ _ => hk b o q
    slot := fun b o q _ _ _ => ⟨o.slots, hk b o q⟩
    free := fun b o q n _ => by
      cases e : H2 b with
      | none => rfl
      | some u => exact absurd (Heap.lt_size q) (Nat.not_lt.mpr (nw b u e n).1)
    there := fun b o q _ => ⟨o, hk b o q⟩
    tups := fun b xs q => kp b _ q
    frzs := fun b o u q => kp b _ q
    tbls := fun b ps q => ⟨#[], by rw [kp b _ q]; simp⟩ }
  refine I.call' (ch := []) rfl un (fun b u q => ?_) I.bare fun b z => by simp at z
  cases e : H b with
  | none => exact (nw b u q e).2
  | some u' =>
    rw [kp b u' e] at q
    cases q
    exact (I.hok b u e).stay (fun d v _ y => hk d v y) (fun d y => kp d _ y) fun d xs y => kp d _ y
theorem dk_obj (I : Inv X pins σ H s) {d : Addr} {kvs : List (Key × V)} (h : Rd H d (.dK kvs)) : kvs.length ≤ sizeLine ∧ (d == sysModules) = false ∧ ∃ vs, KV kvs vs ∧ s.heap.DictOf (mixKind X.prog X.w) d vs := by
  rcases h with h | ⟨o, h⟩
  · exact I.hok d _ h
  · exact (I.hok d _ h).2
end
/-- the pairs of a dict -/
def itL (kds : List (D × D)) : List D := kds.map fun p => .tuple [p.1, p.2]
/-- the pairs laid as tuples -/
def putP : Hp → List Addr → List (Key × V) → Hp
  | H, a :: as, p :: kvs => upd (putP H as kvs) a (.tup [kV p.1, p.2])
  | H, _, _ => H
theorem putP_off {b : Addr} : ∀ (as : List Addr) (kvs : List (Key × V)) (H : Hp), b ∉ as → putP H as kvs b = H b
  | [], _, _, _ => rfl
  | _ :: _, [], _, _ => rfl
  | a :: as, p :: kvs, H, h => by
    show upd (putP H as kvs) a _ b = H b
    rw [upd_ne (fun z => h (by rw [z]; exact List.mem_cons_self)), putP_off as kvs H fun z => h (List.mem_cons_of_mem _ z)]
theorem putP_in {b : Addr} {u : HO} : ∀ (as : List Addr) (kvs : List (Key × V)) (H : Hp), putP H as kvs b = some u → H b = none → b ∈ as
  | [], _, H, h, hn => by
    have h : H b = some u := h
    rw [hn] at h
    cases h
  | _ :: _, [], H, h, hn => by
    have h : H b = some u := h
    rw [hn] at h
    cases h
  | a :: as, p :: kvs, H, h, hn => by
    by_cases hb : b = a
    · rw [hb]; exact List.mem_cons_self
    · have h : upd (putP H as kvs) a (.tup [kV p.1, p.2]) b = some u := h
      rw [upd_ne hb] at h
      exact List.mem_cons_of_mem _ (putP_in as kvs H h hn)
theorem putP_at : ∀ (as : List Addr) (kvs : List (Key × V)) (H : Hp) (j : Nat) (a : Addr) (p : Key × V), as.Nodup → as[j]? = some a → kvs[j]? = some p → putP H as kvs a = some (.tup [kV p.1, p.2])
  | [], _, _, _, _, _, _, h, _ => by simp at h
  | _ :: _, [], _, _, _, _, _, _, h => by simp at h
  | b :: as, q :: kvs, H, 0, a, p, hn, h1, h2 => by
    simp at h1 h2
    subst h1 h2
    exact upd_same
  | b :: as, q :: kvs, H, j + 1, a, p, hn, h1, h2 => by
    obtain ⟨n1, n2⟩ := List.nodup_cons.mp hn
    have h1' : as[j]? = some a := by simpa using h1
    have hne : a ≠ b := fun z => n1 (by rw [← z]; exact List.mem_of_getElem? h1')
    show upd (putP H as kvs) b _ a = _
    rw [upd_ne hne]
    exact putP_at as kvs H j a p n2 h1' (by simpa using h2)
theorem keyD_rp {K : PySem.W.Frag} {F : Hp} (k : Key) : Rp K F (keyD k) (kV k) := by
  cases k with
  | inl i => exact .int i
  | inr x => exact .str x
theorem RpK.at_ {K : PySem.W.Frag} {F : Hp} : ∀ {kds : List (D × D)} {kvs : List (Key × V)} {j : Nat} {p : D × D}, RpK K F kds kvs → kds[j]? = some p → ∃ q, kvs[j]? = some q ∧ p.1 = keyD q.1 ∧ Rp K F p.2 q.2
  | _, _, _, _, .nil, h => by simp at h
  | _, _, 0, _, .cons r t, h => by
    simp at h
    subst h
    exact ⟨_, rfl, rfl, r⟩
  | _, _, j + 1, p, .cons r t, h => by
    obtain ⟨q, h1, h2⟩ := RpK.at_ (j := j) (p := p) t (by simpa using h)
    exact ⟨q, by simpa using h1, h2⟩
theorem rpl_ix {K : PySem.W.Frag} {F : Hp} : ∀ {ds : List D} {vs : List V}, ds.length = vs.length → (∀ (i : Nat) d v, ds[i]? = some d → vs[i]? = some v → Rp K F d v) → RpL K F ds vs
  | [], [], _, _ => .nil
  | [], _ :: _, h, _ => by cases h
  | _ :: _, [], h, _ => by cases h
  | d :: ds, v :: vs, h, hr => .cons (hr 0 d v rfl rfl) (rpl_ix (Nat.succ.inj h) fun i a b h1 h2 => hr (i + 1) a b h1 h2)
section
variable {X : Cx} {e : Expr} {f : Den} {p apos cpos pos : Pos}
def tSI (K : PySem.W.Frag) (te : TE) : TE := fun σ H Q => te σ H fun x H1 => ∃ d kvs F kds, x = V.ref d ∧ Rd H1 d (.dK kvs) ∧ RpK K F kds kvs ∧ Sub F H1 ∧ srtOk (itL kds) = true ∧
  ∀ H2 F2 q ys, Ext F H1 F2 H2 → F2 q = none → H1 q = none → H2 q = some (.lst ys) → RpL K F2 ((itL kds).mergeSort leS) ys → Q (.ref q) H2
theorem pe_sortItems {te : TE} (hc : X.calm = true) (hu : X.A.units + 68 < cLine) (he : PE X e te) (hg : Gl X "sorted") (hm : X.mg "sorted" = none) (hbase : attributeBase e "items" X.env (eval e X.env) = eval e X.env) (hline : (apos.endLine == cpos.line) = true)
    (hs : N1 X (.Call (.Attribute e "items" apos) [] [] cpos)) : PE X (.Call (.Name "sorted" p) [.Call (.Attribute e "items" apos) [] [] cpos] [] pos) (tSI X.K te) := by
  refine ⟨fun pins s σ H Q I hq => ?_⟩
  refine wpAny_Call_Name_kw (ld_blt I hg hm rfl ?_ (by decide) (by decide))
  refine PyProof.Rows.callWith_builtin1 ?_ hs rfl
  have hs' : starEach [.Call (.Attribute e "items" apos) [] [] cpos] X.env = [(false, eval (.Call (.Attribute e "items" apos) [] [] cpos) X.env)] := hs
  rw [hs']
  show wpAny _ _ (spliced [(false, eval (.Call (.Attribute e "items" apos) [] [] cpos) X.env)]) _ _ s
  refine Calls.spliced_cons ?_
  refine wpAny_Call_method (T := "dict") (id := "dict.items") hbase rfl hline F.plainAttrs_dict F.slot_dict_items F.type_dict_items (thn (he.run pins s σ H _ I hq) fun u s1 ⟨x, H1, I1, rx, d, kvs, F0, kds, ex, hd, rk, sb, ok, q⟩ => ?_)
  subst ex
  obtain rfl : u = Value.ref d := rx
  obtain ⟨hz, hs0, vs, kv, hdo⟩ := dk_obj I1 hd
  obtain ⟨ep, hat⟩ := hdo.dictAt
  have lk : kvs.length = vs.length := Paired.length kv
  have I2 : Inv X pins σ H1 { s1 with heap := s1.heap.push { cls := .type "dict_items", data := .fields #[.ref d] } } := I1.kept (t' := s1.toks) fun b ob q => Heap.get?_push_of_some _ q
  refine ⟨hdo.typeIs, hdo.mapOf.noDict, ?_⟩
  show wpAny _ _ (callWith cpos (.builtin "dict.items") [.ref d] [] []) _ X.xe s1
  refine method_meetsIn F.slot_dict_items F.entry_dict_items rfl (PySem.evalArgs_none ⟨rfl, hdo.typeIs, F.args_dict_items_1 _, _, meets_dict_items (mixKind X.prog X.w) d hs0, ⟨vs, hdo⟩, ?_⟩)
  refine Calls.spliced_nil ?_
  have hh : X.A.handled = none := I1.ok.hd hc
  generalize hw2 : s1.heap.push { cls := .type "dict_items", data := .fields #[.ref d] } = g2 at I2
  have view : g2.IsItemsView s1.heap.objs.size d := by rw [← hw2]; exact ⟨_, Heap.get?_push_size _ rfl, rfl, rfl⟩
  have hat2 : g2.DictAt (mixKind X.prog X.w) d vs ep := by rw [← hw2]; exact hat.push _
  refine Calls.call_function_entry kind_sorted plain_sorted entry_sorted (args_sorted1 _) ?_
  unfold Builtin.«sorted»
  refine wpAny_bind (m := checkCount "sorted" 1 1 _) (wpAny_pure ?_)
  refine wpAny_bind (PySem.W.kdx_collect (knd := mixKind X.prog X.w) (A := X.A.in1) (kvs := vs) (ep := ep) (by simpa using hh) view hat2 (by omega) fun h3 tk as hk hl hG => ?_)
  refine wpAny_bind (wpAny_newList ?_ (by rw [List.length_map, hl]; omega))
  obtain ⟨o1, o2, o3, o4⟩ := srt_parts ok
  have nd : as.Nodup := List.Pairwise.imp (fun {a b} (h : a < b) => Nat.ne_of_lt h) hG.rise
  have new : ∀ t ∈ as, H1 t = none := fun t ht => I2.hok.fresh (Nat.le_of_lt (hG.above t ht))
  have hkl : kds.length = kvs.length := rk.length.symm
  -- data, address
  let L : List (D × V × Value) := (itL kds).zip ((as.map V.ref).zip (as.map Value.ref))
  have hLl : L.length = as.length := by simp [L, itL]; omega
  have hLat : ∀ (j : Nat) t, L[j]? = some t → ∃ b pd qv, as[j]? = some b ∧ kds[j]? = some pd ∧ kvs[j]? = some qv ∧ t = (.tuple [pd.1, pd.2], .ref b, .ref b) ∧ pd.1 = keyD qv.1 ∧ Rp X.K F0 pd.2 qv.2 := fun j t ht => by
    have hj : j < as.length := by
      rw [← hLl]
      exact (List.getElem?_eq_some_iff.mp ht).1
    have hj2 : j < kds.length := by omega
    obtain ⟨qv, z1, z2, z3⟩ := rk.at_ (List.getElem?_eq_getElem hj2)
    refine ⟨as[j], kds[j], qv, List.getElem?_eq_getElem hj, List.getElem?_eq_getElem hj2, z1, ?_, z2, z3⟩
    have : L[j]? = some ((itL kds)[j]'(by simp [itL]; omega), (as.map V.ref)[j]'(by simpa using hj), (as.map Value.ref)[j]'(by simpa using hj)) := by
      simp only [L]
      rw [List.getElem?_eq_getElem (by simp [itL]; omega)]
      simp
    rw [this] at ht
    cases ht
    simp [itL]
  have m1 : L.map (·.1) = itL kds := by
    simp only [L]
    rw [List.map_fst_zip (by simp [itL]; omega)]
  have m3 : L.map (·.2.2) = as.map Value.ref := by
    simp only [L]
    rw [show (fun t : D × V × Value => t.2.2) = Prod.snd ∘ Prod.snd from rfl, ← List.map_map, List.map_snd_zip (by simp [itL]; omega), List.map_snd_zip (by simp)]
  -- the values read
  have hread : ∀ (j : Nat) t, L[j]? = some t → ∃ bs, Reads h3 t.2.2 t.1 bs ∧ (∀ b ∈ bs, ∃ o, h3.get? b = some o) := fun j t ht => by
    obtain ⟨b, pd, qv, e1, e2, e3, rfl, e5, e6⟩ := hLat j t ht
    obtain ⟨key, k, x, f1, f2, f3⟩ := hG.pairs j b e1
    obtain ⟨qv', g1, g2, g3⟩ := LiI.paired_get kv e3
    rw [f1] at g1
    cases g1
    have hmem : (.tuple [pd.1, pd.2] : D) ∈ itL kds := List.mem_map.mpr ⟨pd, List.mem_of_getElem? e2, rfl⟩
    have hsh := o3 _ hmem
    have hpl : pd.2.plain = true := by
      have := plain_of_shaped hsh
      simp [PyData.plain, PyData.plainAll] at this
      exact this.2
    obtain ⟨bs, r1⟩ := Dp.reads I2 pd.2 qv.2 x (e6.dp sb pd.2 qv.2 hpl) g3
    have r2 : Reads h3 x pd.2 bs := Reads.keeps hk r1
    have r0 : Reads h3 key pd.1 [] := by
      rw [e5, g2]
      have rk1 : RelV (kV k) key := relV_key (show keyIs k key = true from f2)
      cases k with
      | inl i =>
        obtain ⟨t, rfl⟩ := rk1
        exact .int _ _
      | inr z =>
        obtain ⟨t, rfl⟩ := rk1
        exact .str _ _
    have r3 : ReadsAll h3 [key, x] [pd.1, pd.2] ([] ++ (bs ++ [])) := .cons r0 (.cons r2 .nil)
    rw [List.nil_append, List.append_nil] at r3
    exact ⟨bs, .tuple f3 rfl rfl r3, fun b hb => PyProof.On.reads_mem_get r2 b hb⟩
  have hrp : ∀ (j : Nat) t, L[j]? = some t → Rp X.K (putP F0 as kvs) t.1 t.2.1 := fun j t ht => by
    obtain ⟨b, pd, qv, e1, e2, e3, rfl, e5, e6⟩ := hLat j t ht
    have sF : Sub F0 (putP F0 as kvs) := fun c u hc => by
      rw [putP_off as kvs F0 fun z => by have := new c z; rw [sb c u hc] at this; cases this]
      exact hc
    exact .tup (putP_at as kvs F0 j b qv nd e1 e3) (.cons (by rw [e5]; exact keyD_rp _) (.cons (e6.mono sF) .nil))
  have hrv : ∀ (j : Nat) t, L[j]? = some t → RelV t.2.1 t.2.2 := fun j t ht => by
    obtain ⟨b, pd, qv, e1, e2, e3, rfl, e5, e6⟩ := hLat j t ht
    rfl
  have na : h3.get? h3.objs.size = none := Heap.get?_none_of_le (Nat.le_refl _)
  have gsz : g2.objs.size ≤ h3.objs.size := by
    have e1 : g2.get? s1.heap.objs.size = some { cls := .type "dict_items", data := .fields #[.ref d] } := by rw [← hw2]; exact Heap.get?_push_size _ rfl
    have e2 := Heap.lt_size (hk _ _ e1)
    have e3 : g2.objs.size = s1.heap.objs.size + 1 := by rw [← hw2]; exact Heap.size_push ..
    rw [e3]
    exact e2
  have kp3 : ∀ b o, g2.get? b = some o → (h3.push { cls := .type "list", data := .seq (as.map Value.ref).toArray }).get? b = some o := fun b o q => Heap.get?_push_of_some _ (hk b o q)
  refine wpAny_bind (wpAny_holding (PySem.W.list_sort_data (β := Tri) (enc := fun t => t.1) (R := fun v t => v = t.2.2) (bs := L) (vs := as.map Value.ref) (n := 0) (Heap.get?_push_size _ rfl) (by rw [← m3]; exact fn_each) (by
      rw [← m3]
      refine each_mapR fun t ht => ?_
      obtain ⟨j, hj⟩ := List.mem_iff_getElem?.mp ht
      obtain ⟨bs, r1, r2⟩ := hread j t hj
      refine ⟨bs, Reads.keeps (fun b o q => Heap.get?_push_of_some _ q) r1, fun z => ?_⟩
      obtain ⟨o, ho⟩ := r2 _ z
      rw [na] at ho
      cases ho) (by rw [m1]; exact o1) (by rw [m1]; exact o2) (by rw [hLl]; omega) (fun t ht => ?_) fun out hlo he => ?_))
  · have hd : t.1 ∈ itL kds := by rw [← m1]; exact List.mem_map_of_mem ht
    have := SeqAt.depth_of_shaped (o3 _ hd)
    show X.A.units + 1 + 1 + t.1.depth < cLine
    omega
  refine wpAny_pure ?_
  have eo := each_fn he
  have hal : h3.objs.size ∉ as := fun z => Nat.lt_irrefl _ (hG.there z)
  have hH1a : H1 h3.objs.size = none := I2.hok.fresh (by exact gsz)
  have hinj : ∀ b, b ∈ as → b ≠ h3.objs.size := fun b hb => Nat.ne_of_lt (hG.there hb)
  have kpH : ∀ b u, H1 b = some u → upd (putP H1 as kvs) h3.objs.size (.lst ((L.mergeSort (PySem.W.dataLe false fun t : Tri => t.1)).map (·.2.1))) b = some u := fun b u hb => by
    rw [upd_ne (fun z => by rw [z, hH1a] at hb; cases hb), putP_off as kvs H1 fun z => by have := new b z; rw [hb] at this; cases this]
    exact hb
  have hmm : ∀ t ∈ L.mergeSort (PySem.W.dataLe false fun t : Tri => t.1), ∃ j, L[j]? = some t := fun t ht => List.mem_iff_getElem?.mp ((List.mergeSort_perm L _).mem_iff.mp ht)
  obtain ⟨z1, z2⟩ := rpl_map (K := X.K) (F := putP F0 as kvs) (ts := L.mergeSort (PySem.W.dataLe false fun t : Tri => t.1)) fun t ht => by
    obtain ⟨j, hj⟩ := hmm t ht
    exact ⟨hrp j t hj, hrv j t hj⟩
  rw [tri_sort, m1] at z1
  rw [← eo] at z2
  obtain ⟨ep2, hat3⟩ := PyProof.Rows.sortedHeap_at (a := h3.objs.size) (h := h3.push { cls := .type "list", data := .seq (as.map Value.ref).toArray }) (vs := as.map Value.ref) (out := out.toArray) (Heap.get?_push_size _ rfl)
  have kp4 : ∀ b o, b ≠ h3.objs.size → h3.get? b = some o → (sortedHeap (h3.push { cls := .type "list", data := .seq (as.map Value.ref).toArray }) h3.objs.size (as.map Value.ref) out.toArray).get? b = some o := fun b o hb q => by
    rw [PyProof.Rows.sortedHeap_old hb (Heap.lt_size (Heap.get?_push_of_some _ q))]
    exact Heap.get?_push_of_some _ q
  have J := lay_many (tk := tk) I2 (H2 := upd (putP H1 as kvs) h3.objs.size (.lst ((L.mergeSort (PySem.W.dataLe false fun t : Tri => t.1)).map (·.2.1))))
    (h2 := sortedHeap (h3.push { cls := .type "list", data := .seq (as.map Value.ref).toArray }) h3.objs.size (as.map Value.ref) out.toArray)
    (fun b o q => kp4 b o (Nat.ne_of_lt (Nat.lt_of_lt_of_le (Heap.lt_size q) gsz)) (hk b o q)) kpH (fun b u hb hn => by
      by_cases hba : b = h3.objs.size
      · subst hba
        rw [upd_same] at hb
        cases hb
        refine ⟨gsz, ?_, out, ep2, z2, hat3⟩
        rw [List.length_map, List.length_mergeSort, hLl, hl, ← lk]
        exact hz
      · rw [upd_ne hba] at hb
        have hm := putP_in as kvs H1 hb hn
        obtain ⟨j, hj⟩ := List.mem_iff_getElem?.mp hm
        obtain ⟨key, k, x, f1, f2, f3⟩ := hG.pairs j b hj
        have hj2 : j < kvs.length := by
          have := (List.getElem?_eq_some_iff.mp hj).1
          omega
        obtain ⟨qv, g1, g2', g3⟩ := LiI.paired_get kv (List.getElem?_eq_getElem hj2)
        rw [f1] at g1
        cases g1
        rw [putP_at as kvs H1 j b _ nd hj (List.getElem?_eq_getElem hj2)] at hb
        cases hb
        have rk1 : RelV (kV (kvs[j]).1) key := by
          rw [g2']
          exact relV_key (show keyIs k key = true from f2)
        exact ⟨Nat.le_of_lt (hG.above b hm), by show 2 ≤ sizeLine; decide, [key, x], .cons rk1 (.cons g3 .nil), ⟨_, kp4 b _ hba f3, rfl, _, rfl⟩⟩)
  refine ⟨_, rfl, .ref h3.objs.size, _, J, rfl, q _ (putP F0 as kvs) h3.objs.size _ ⟨fun b u hb => ?_, kpH, fun b u hb => ?_, fun b h1 h2 => ?_⟩ ?_ hH1a upd_same z1⟩
  · rw [putP_off as kvs F0 fun z => by have := new b z; rw [sb b u hb] at this; cases this]
    exact hb
  · by_cases hm : b ∈ as
    · rw [upd_ne (hinj b hm)]
      obtain ⟨j, hj⟩ := List.mem_iff_getElem?.mp hm
      have hj2 : j < kvs.length := by
        have := (List.getElem?_eq_some_iff.mp hj).1
        omega
      rw [putP_at as kvs F0 j b _ nd hj (List.getElem?_eq_getElem hj2)] at hb
      rw [putP_at as kvs H1 j b _ nd hj (List.getElem?_eq_getElem hj2)]
      exact hb
    · rw [putP_off as kvs F0 hm] at hb
      exact kpH b u (sb b u hb)
  · rw [putP_off as kvs F0 fun z => h1 (new b z)]
    exact h2
  · rw [putP_off as kvs F0 hal]
    exact sb.free hH1a
def sortItD : D → Option D
  | .dict kds => if notMk kds && srtOk (itL kds) then some (.list ((itL kds).mergeSort leS)) else none
  | _ => none
theorem en_sortItems (hc : X.calm = true) (hu : X.A.units + 68 < cLine) (he : EB X e f) (hg : Gl X "sorted") (hm : X.mg "sorted" = none) (hbase : attributeBase e "items" X.env (eval e X.env) = eval e X.env) (hline : (apos.endLine == cpos.line) = true)
    (hs : N1 X (.Call (.Attribute e "items" apos) [] [] cpos)) : EN X (.Call (.Name "sorted" p) [.Call (.Attribute e "items" apos) [] [] cpos] [] pos) (d1 sortItD f) :=
  mkN (pe_sortItems hc hu he.pe hg hm hbase hline hs) fun σ H Q ρ F d e h k => by
    simp only [d1, Option.bind_eq_some_iff] at h
    obtain ⟨x, h1, h2⟩ := h
    unfold sortItD at h2
    split at h2
    · split at h2
      · rename_i kds ok
        cases h2
        rw [Bool.and_eq_true] at ok
        refine ⟨ρ, F, .dict kds, e, h1, fun u F1 H1 x1 r1 => ?_⟩
        obtain ⟨a, kvs, rfl, ra, rk⟩ := r1.dictK x1.le ok.1
        exact ⟨a, kvs, F1, kds, rfl, ra, rk, x1.le, ok.2, fun H2 F2 q ys x2 g1 g2 g3 g4 => k q _ F2 H2 (x1.trans x2) g1 (x1.h.free g2) g3 (.lst g4)⟩
      · cases h2
    · cases h2
end
end Zx
/-! Zx13: dicts walked under a lock, dict comprehensions, a display of one pair. -/
namespace Zx
open PySem PySem.Spec L2
def isDk : HO → Prop
  | .dK _ => True
  | .dT _ => True
  | _ => False
/-- the same dict, locked or not -/
def DkLike (u w : HO) : Prop := ∃ o v, isDk v ∧ ((u = v ∧ w = .frz o v) ∨ (u = .frz o v ∧ w = v))
theorem DkLike.symm {u w : HO} (h : DkLike u w) : DkLike w u := by
  obtain ⟨o, v, h1, h2 | h2⟩ := h
  · exact ⟨o, v, h1, .inr ⟨h2.2, h2.1⟩⟩
  · exact ⟨o, v, h1, .inl ⟨h2.2, h2.1⟩⟩
section
variable {K : PySem.W.Frag} {F H F' H' F0 H0 : Hp} {p : Addr} {u w : HO} {ρ : Env} {σ : L2.St}
theorem DkLike.nl (h : DkLike u w) (xs : List V) : u ≠ .lst xs ∧ u ≠ .tup xs ∧ ∀ o, u ≠ .frz o (.lst xs) := by
  obtain ⟨o, v, h1, h2 | h2⟩ := h
  · rw [h2.1]
    refine ⟨?_, ?_, fun o => ?_⟩ <;> rintro rfl <;> exact h1
  · rw [h2.1]
    refine ⟨fun z => (nomatch z), fun z => (nomatch z), fun o z => ?_⟩
    injection z with _ z
    subst z
    exact h1
theorem Rd.sw (hp : F p = some u) (d : DkLike u w) {a : Addr} {v : HO} (h : Rd F a v) (hv : isDk v) : Rd (upd F p w) a v := by
  by_cases ha : a = p
  · subst ha
    obtain ⟨o, v', h1, h2 | h2⟩ := d
    · rw [h2.1] at hp
      refine .inr ⟨o, ?_⟩
      rw [upd_same, h2.2]
      rcases h with h | ⟨o', h⟩
      · rw [hp] at h; cases h; rfl
      · rw [hp] at h; cases h; exact h1.elim
    · rw [h2.1] at hp
      refine .inl ?_
      rw [upd_same, h2.2]
      rcases h with h | ⟨o', h⟩
      · rw [hp] at h; cases h; exact hv.elim
      · rw [hp] at h; cases h; rfl
  · rcases h with h | ⟨o', h⟩
    · exact .inl (by rw [upd_ne ha]; exact h)
    · exact .inr ⟨o', by rw [upd_ne ha]; exact h⟩
theorem neDk (hp : F p = some u) (d : DkLike u w) {a : Addr} {o : HO} (h : F a = some o) (ho : o ≠ u) : a ≠ p := fun z => by
  subst z
  rw [hp] at h
  cases h
  exact ho rfl
mutual
theorem Rp.sw (hp : F p = some u) (d : DkLike u w) : ∀ {x : D} {y : V}, Rp K F x y → Rp K (upd F p w) x y
  | _, _, .non => .non
  | _, _, .bl b => .bl b
  | _, _, .int i => .int i
  | _, _, .str x => .str x
  | _, _, .lst (xs := xs) h t => .lst (by rw [upd_ne (neDk hp d h fun z => (d.nl xs).1 z.symm)]; exact h) (RpL.sw hp d t)
  | _, _, .tup (xs := xs) h t => .tup (by rw [upd_ne (neDk hp d h fun z => (d.nl xs).2.1 z.symm)]; exact h) (RpL.sw hp d t)
  | _, _, .dK h t => .dK (Rd.sw hp d h trivial) (RpK.sw hp d t)
  | _, _, .dT h t => .dT (Rd.sw hp d h trivial) (RpT.sw hp d t)
  | _, _, .scr (ns := ns) h => .scr (by
      rcases h with h | h
      · refine .inl ?_
        rcases h with h | ⟨o, h⟩
        · exact .inl (by rw [upd_ne (neDk hp d h fun z => (d.nl (ns.map V.int)).1 z.symm)]; exact h)
        · exact .inr ⟨o, by rw [upd_ne (neDk hp d h fun z => (d.nl (ns.map V.int)).2.2 o z.symm)]; exact h⟩
      · exact .inr h)
theorem RpL.sw (hp : F p = some u) (d : DkLike u w) : ∀ {ds : List D} {vs : List V}, RpL K F ds vs → RpL K (upd F p w) ds vs
  | _, _, .nil => .nil
  | _, _, .cons h t => .cons (Rp.sw hp d h) (RpL.sw hp d t)
theorem RpK.sw (hp : F p = some u) (d : DkLike u w) : ∀ {ds : List (D × D)} {vs : List (Key × V)}, RpK K F ds vs → RpK K (upd F p w) ds vs
  | _, _, .nil => .nil
  | _, _, .cons h t => .cons (Rp.sw hp d h) (RpK.sw hp d t)
theorem RpT.sw (hp : F p = some u) (d : DkLike u w) : ∀ {ds : List (D × D)} {vs : List (List Key × V)}, RpT K F ds vs → RpT K (upd F p w) ds vs
  | _, _, .nil => .nil
  | _, _, .cons h t => .cons (Rp.sw hp d h) (RpT.sw hp d t)
end
theorem OwnRep.sw (hp : F p = some u) (d : DkLike u w) {x : D} {o : HO} (h : OwnRep K F x o) : OwnRep K (upd F p w) x o := by
  cases h with
  | lst t => exact .lst (t.sw hp d)
  | dK t => exact .dK (t.sw hp d)
  | dT t => exact .dT (t.sw hp d)
theorem upd_upd {H : Hp} {p : Addr} {a b : HO} : upd (upd H p a) p b = upd H p b := by
  funext x
  by_cases h : x = p
  · rw [h, upd_same, upd_same]
  · rw [upd_ne h, upd_ne h, upd_ne h]
theorem upd_self {H : Hp} {p : Addr} {a : HO} (h : H p = some a) : upd H p a = H := by
  funext x
  by_cases hx : x = p
  · rw [hx, upd_same, h]
  · rw [upd_ne hx]
theorem Sub.sw (s : Sub F H) : Sub (upd F p w) (upd H p w) := fun a o h => by
  by_cases ha : a = p
  · subst ha; rw [upd_same] at h ⊢; exact h
  · rw [upd_ne ha] at h ⊢; exact s a o h
theorem EnvOk.sw (e : EnvOk K ρ σ F H) (hp : F p = some u) (d : DkLike u w) : EnvOk K ρ σ (L2.upd F p w) (L2.upd H p w) where
  sub := e.sub.sw
  len := e.len
  dist := e.dist
  at_ := fun i s hs => by
    obtain ⟨ov, h1, h2⟩ := e.at_ i s hs
    refine ⟨ov, h1, ?_⟩
    cases s with
    | no => trivial
    | fz d' =>
      obtain ⟨v, h3, h4⟩ := h2
      exact ⟨v, h3, h4.sw hp d⟩
    | ow d' =>
      obtain ⟨a, o, h3, h4, h5, h6⟩ := h2
      have ha : a ≠ p := fun z => by rw [z, hp] at h4; cases h4
      exact ⟨a, o, h3, by rw [upd_ne ha]; exact h4, by rw [upd_ne ha]; exact h5, h6.sw hp d⟩
/-- what went on while it was locked -/
theorem Ext.sw (hF : F p = some u) (hH : H p = some u) (x : Ext (upd F p w) (upd H p w) F' H') : Ext F H (upd F' p u) (upd H' p u) := by
  refine ⟨fun a o h => ?_, fun a o h => ?_, x.le.sw, fun a h1 h2 => ?_⟩
  · by_cases ha : a = p
    · subst ha; rw [upd_same]; rw [hF] at h; exact h
    · rw [upd_ne ha]
      exact x.f a o (by rw [upd_ne ha]; exact h)
  · by_cases ha : a = p
    · subst ha; rw [upd_same]; rw [hH] at h; exact h
    · rw [upd_ne ha]
      exact x.h a o (by rw [upd_ne ha]; exact h)
  · have ha : a ≠ p := fun z => by rw [z, hF] at h2; cases h2
    rw [upd_ne ha]
    exact x.new a (by rw [upd_ne ha]; exact h1) (by rw [upd_ne ha]; exact h2)
/-- slot j's dict is locked -/
def Lk (j : Nat) (σ : L2.St) (F : Hp) : Prop := ∃ p o v, σ[j]? = some (some (.ref p)) ∧ F p = some (.frz o v) ∧ isDk v
/-- slot j holds a dict with plain keys (b: with tuple keys) -/
def dkSlot (j : Nat) (b : Bool) (ρ : Env) : Option (List (D × D)) := match ρ[j]? with
  | some (.fz (.dict kds)) => if b then (match kds with | (.bool true, .none) :: r => some r | _ => none) else if notMk kds then some kds else none
  | _ => none
theorem dk_slot {j : Nat} {b : Bool} {kds : List (D × D)} (e : EnvOk K ρ σ F H) (h : dkSlot j b ρ = some kds) : ∃ p v, σ[j]? = some (some (.ref p)) ∧ Rd F p v ∧ isDk v ∧ Rp K F (.dict (if b then (.bool true, .none) :: kds else kds)) (.ref p) := by
  unfold dkSlot at h
  split at h
  · rename_i kds' hs
    obtain ⟨ov, h1, y, h2, h3⟩ := e.at_ j _ hs
    subst h2
    cases b with
    | true =>
      simp only [if_true] at h
      split at h
      · cases h
        obtain ⟨a, kvs, rfl, h4, h5⟩ := (RpB.of (H := F) h3).dictT (Sub.refl F)
        exact ⟨a, .dT kvs, h1, h4, trivial, h3⟩
      · cases h
    | false =>
      simp only [Bool.false_eq_true, if_false] at h
      split at h
      · rename_i hn
        cases h
        obtain ⟨a, kvs, rfl, h4, h5⟩ := (RpB.of (H := F) h3).dictK (Sub.refl F) hn
        exact ⟨a, .dK kvs, h1, h4, trivial, h3⟩
      · cases h
  · cases h
end
/-! ### what is walked under a lock -/
def tIL (K : PySem.W.Frag) (j : Nat) (f : DenI) : TI := fun σ H R => ∃ ρ F ds, EnvOk K ρ σ F H ∧ Lk j σ F ∧ f ρ = some ds ∧ ∀ J F' H', Ext F H F' H' → Walks K J F' ds → R J H'
structure EIL (X : Cx) (tg e : Expr) (j : Nat) (f : DenI) : Prop where
  pi : PI X tg e (tIL X.K j f)
def tNL (K : PySem.W.Frag) (j : Nat) (f : Den) : TE := fun σ H Q => ∃ ρ F d, EnvOk K ρ σ F H ∧ Lk j σ F ∧ f ρ = some d ∧ ∀ a o F' H', Ext F H F' H' → F' a = none → H a = none → H' a = some o → OwnRep K F' d o → Q (.ref a) H'
structure ENL (X : Cx) (e : Expr) (j : Nat) (f : Den) : Prop where
  pe : PE X e (tNL X.K j f)
def tStL (K : PySem.W.Frag) (j : Nat) (f : DenS) : TS := fun D σ H => ∃ F0 H0 ρ F o, EnvS K F0 H0 ρ σ F H ∧ Lk j σ F ∧ f ρ = some o ∧ Post K F0 H0 D o
structure SXL (X : Cx) (st : Stmt) (j : Nat) (f : DenS) : Prop where
  ps : PS X st (tStL X.K j f)
/-- a reading needs a dict in slot j -/
def Needs {α : Type} (j : Nat) (f : Env → Option α) : Prop := ∀ ρ d, f ρ = some d → ∃ b kds, dkSlot j b ρ = some kds
theorem EnvOk.wiL {K : PySem.W.Frag} {ρ : Env} {σ : L2.St} {F H : Hp} {fi : DenI} {j : Nat} (e : EnvOk K ρ σ F H) (l : Lk j σ F) : WiOk K (tIL K j fi) fi ρ σ F H := fun ds R h k => ⟨ρ, F, ds, e, l, h, k⟩
section
variable {X : Cx} {e : Expr} {f : Den} {st : Stmt} {fs : DenS} {j : Nat}
theorem en_lock (h : ENL X e j f) (n : Needs j f) : EN X e f := by
  refine ⟨⟨fun pins s σ H Q I hw => ?_⟩⟩
  obtain ⟨ρ, F, d, e1, hf, k⟩ := hw
  obtain ⟨b, kds, hd⟩ := n ρ d hf
  obtain ⟨p, v, h1, h2, h3, h4⟩ := dk_slot e1 hd
  rcases h2 with h2 | ⟨o, h2⟩
  · refine (pe_lock h.pe).run pins s σ H Q I ?_
    refine ⟨p, v, e1.sub _ _ h2, by cases v <;> first | exact h3.elim | trivial, fun od => ?_⟩
    have dk : DkLike v (.frz od v) := ⟨od, v, h3, .inl ⟨rfl, rfl⟩⟩
    refine ⟨ρ, _, d, e1.sw h2 dk, ⟨p, od, v, h1, upd_same, h3⟩, hf, fun a o F' H' x g1 g2 g3 g4 => ?_⟩
    have hF' : F' p = some (.frz od v) := x.f _ _ upd_same
    have hH' : H' p = some (.frz od v) := x.h _ _ upd_same
    have ha : a ≠ p := fun z => by rw [z, hF'] at g1; cases g1
    refine ⟨hH', k a o (upd F' p v) (upd H' p v) (Ext.sw h2 (e1.sub _ _ h2) x) (by rw [upd_ne ha]; exact g1) ?_ (by rw [upd_ne ha]; exact g3) (g4.sw hF' dk.symm)⟩
    rw [upd_ne ha] at g2
    exact g2
  · exact h.pe.run pins s σ H Q I ⟨ρ, F, d, e1, ⟨p, o, v, h1, h2, h3⟩, hf, k⟩
theorem sx_lock (h : SXL X st j fs) (n : Needs j fs) : SX X st fs := by
  refine ⟨⟨fun pins s σ H D I hw => ?_⟩⟩
  obtain ⟨F0, H0, ρ, F, o, e1, hf, k⟩ := hw
  obtain ⟨b, kds, hd⟩ := n ρ o hf
  obtain ⟨p, v, h1, h2, h3, h4⟩ := dk_slot e1.env hd
  rcases h2 with h2 | ⟨ob, h2⟩
  · refine (ps_lock h.ps).run pins s σ H D I ?_
    have hHp := e1.env.sub _ _ h2
    refine ⟨p, v, hHp, by cases v <;> first | exact h3.elim | trivial, fun od => ?_⟩
    have dk : DkLike v (.frz od v) := ⟨od, v, h3, .inl ⟨rfl, rfl⟩⟩
    obtain ⟨Hx, xb, eb⟩ := e1.rebase
    have kb := k.base xb
    have hHx : Hx p = some v := eb.ext.le |> fun _ => xb.le _ _ h2
    have e2 : EnvS X.K (upd F p (.frz od v)) (upd Hx p (.frz od v)) ρ σ (upd F p (.frz od v)) (upd H p (.frz od v)) :=
      ⟨eb.env.sw h2 dk, ⟨Sub.refl _, eb.ext.h.sw, eb.env.sub.sw, fun a _ h => h⟩, fun i d a g1 g2 => by
        have := eb.own i d a g1 g2
        rw [upd_ne (fun z => by rw [z, hHx] at this; cases this)]
        exact this⟩
    have un : ∀ {ρ' : Env} {σ' : L2.St} {F' H' : Hp}, EnvS X.K (upd F p (.frz od v)) (upd Hx p (.frz od v)) ρ' σ' F' H' → H' p = some (.frz od v) ∧ EnvS X.K F Hx ρ' σ' (upd F' p v) (upd H' p v) := fun {ρ' σ' F' H'} z => by
      have hF' : F' p = some (.frz od v) := z.ext.f _ _ upd_same
      refine ⟨z.ext.h _ _ upd_same, z.env.sw hF' dk.symm, Ext.sw h2 hHx z.ext, fun i d a g1 g2 => ?_⟩
      have := z.own i d a g1 g2
      have ha : a ≠ p := fun y => by rw [y, upd_same] at this; cases this
      rw [upd_ne ha] at this
      exact this
    refine ⟨_, _, ρ, _, o, e2, ⟨p, od, v, h1, upd_same, h3⟩, hf, ?_⟩
    cases o with
    | nx ρ' => exact fun σ' F' H' z => ⟨(un z).1, kb σ' _ _ (un z).2⟩
    | bk ρ' => exact fun σ' F' H' z => ⟨(un z).1, kb σ' _ _ (un z).2⟩
    | ct ρ' => exact fun σ' F' H' z => ⟨(un z).1, kb σ' _ _ (un z).2⟩
    | rt d =>
      intro y F' H' x r
      have hF' : F' p = some (.frz od v) := x.f _ _ upd_same
      exact ⟨x.h _ _ upd_same, kb y _ _ (Ext.sw h2 hHx x) (r.sw hF' dk.symm)⟩
    | rn d =>
      intro a ob F' H' x g1 g2 g3 g4
      have hF' : F' p = some (.frz od v) := x.f _ _ upd_same
      have ha : a ≠ p := fun z => by rw [z, hF'] at g1; cases g1
      refine ⟨x.h _ _ upd_same, kb a ob _ _ (Ext.sw h2 hHx x) (by rw [upd_ne ha]; exact g1) ?_ (by rw [upd_ne ha]; exact g3) (g4.sw hF' dk.symm)⟩
      rw [upd_ne ha] at g2
      exact g2
  · exact h.ps.run pins s σ H D I ⟨F0, H0, ρ, F, o, e1, ⟨p, ob, v, h1, h2, h3⟩, hf, k⟩
end
/-! ### keys, values, items of the dict in slot j -/
def iKeysJ (j : Nat) : DenI := fun ρ => (dkSlot j false ρ).map fun kds => kds.map (·.1)
def iKeysT (j : Nat) : DenI := fun ρ => (dkSlot j true ρ).map fun kds => kds.map (·.1)
def iValsJ (j : Nat) : DenI := fun ρ => (dkSlot j false ρ).map fun kds => kds.map (·.2)
def iItemsJ (j : Nat) : DenI := fun ρ => (dkSlot j false ρ).map itL
theorem needs_I {j : Nat} {b : Bool} {h : List (D × D) → List D} : Needs j (fun ρ => (dkSlot j b ρ).map h) := fun ρ d e => by
  rw [Option.map_eq_some_iff] at e
  obtain ⟨kds, h1, _⟩ := e
  exact ⟨b, kds, h1⟩
theorem needs_lc {j : Nat} {fi : DenI} {g : DenG} {ft : DenB} {fe : Den} {vs : List Nat} (n : Needs j fi) : Needs j (dLc fi g ft fe vs) := fun ρ d e => by
  simp only [dLc, Option.bind_eq_some_iff] at e
  obtain ⟨ds, h1, _⟩ := e
  exact n ρ ds h1
theorem needs_for {j : Nat} {fi : DenI} {g : DenG} {fb : DenS} (n : Needs j fi) : Needs j (sFor fi g fb) := fun ρ d e => by
  simp only [sFor, Option.bind_eq_some_iff] at e
  obtain ⟨ds, h1, _⟩ := e
  exact n ρ ds h1
theorem needs_bind {j : Nat} {α β : Type} {f : Env → Option α} {h : Env → α → Option β} (n : Needs j f) : Needs j (fun ρ => (f ρ).bind (h ρ)) := fun ρ d e => by
  simp only [Option.bind_eq_some_iff] at e
  obtain ⟨x, h1, _⟩ := e
  exact n ρ x h1
theorem lk_at {K : PySem.W.Frag} {ρ : Env} {σ : L2.St} {F H : Hp} {j : Nat} {kds : List (D × D)} (e : EnvOk K ρ σ F H) (l : Lk j σ F) (h : dkSlot j false ρ = some kds) : ∃ p o kvs, σ[j]? = some (some (.ref p)) ∧ F p = some (.frz o (.dK kvs)) ∧ RpK K F kds kvs := by
  obtain ⟨p, v, h1, h2, h3, h4⟩ := dk_slot e h
  obtain ⟨p', o, v', g1, g2, g3⟩ := l
  rw [h1] at g1
  cases g1
  have hn : notMk kds = true := by
    unfold dkSlot at h
    split at h
    · simp only [Bool.false_eq_true, if_false] at h
      split at h
      · cases h; assumption
      · cases h
    · cases h
  obtain ⟨a, kvs, ea, h5, h6⟩ := (RpB.of (H := F) h4).dictK (Sub.refl F) hn
  cases ea
  have : Rd F p (.dK kvs) := h5
  rcases h5 with h5 | ⟨o', h5⟩
  · rw [g2] at h5; cases h5
  · rw [g2] at h5
    cases h5
    exact ⟨p, _, kvs, h1, g2, h6⟩
theorem RpK.keys {K : PySem.W.Frag} {F : Hp} : ∀ {kds : List (D × D)} {kvs : List (Key × V)}, RpK K F kds kvs → ∀ (i : Nat) d, (kds.map (·.1))[i]? = some d → ∃ k v, kvs[i]? = some (k, v) ∧ d = keyD k
  | _, _, h, i, d, e => by
    rw [List.getElem?_map, Option.map_eq_some_iff] at e
    obtain ⟨q, h1, rfl⟩ := e
    obtain ⟨y, h2, h3, _⟩ := h.at_ h1
    exact ⟨y.1, y.2, h2, h3⟩
section
variable {X : Cx} {tg : Expr} {p apos cpos : Pos} {x : Str} {j : Nat}
theorem mkLk {e : Expr} {fi : DenI} {t : TI} (h : PI X tg e t) (i : ∀ σ H R ρ F d, EnvOk X.K ρ σ F H → Lk j σ F → fi ρ = some d → (∀ J F' H', Ext F H F' H' → Walks X.K J F' d → R J H') → t σ H R) : EIL X tg e j fi :=
  ⟨PI.imp h fun σ H Q ⟨ρ, F, d, e1, l, e2, k⟩ => i σ H Q ρ F d e1 l e2 k⟩
theorem eil_keys (hN : X.N[j]? = some x) (hv : visB X.env.scope x = true) (hd : (x == ("__debug__" : Str)) = false) (hcd : (x == ("__classdict__" : Str)) = false) : EIL X tg (.Name x p) j (iKeysJ j) :=
  mkLk (pi_keys (pe_var hN (vis_of hv) hd hcd)) fun σ H R ρ F ds e l h k => by
    unfold iKeysJ at h
    rw [Option.map_eq_some_iff] at h
    obtain ⟨kds, h1, rfl⟩ := h
    obtain ⟨q, o, kvs, h2, h3, h4⟩ := lk_at e l h1
    refine ⟨.ref q, h2, q, o, rfl, .inl ⟨kvs, e.sub _ _ h3, k _ F H (.refl e.sub) fun i F1 H1 s1 s2 => ?_⟩⟩
    have hq : H1 q = some (.frz o (.dK kvs)) := s2 _ _ (s1 _ _ h3)
    refine ⟨fun d hd => ?_, fun hi => ⟨hq, by rw [h4.length]; simpa using hi⟩⟩
    obtain ⟨kk, v, h5, rfl⟩ := h4.keys i d hd
    refine ⟨⟨hq, (List.getElem?_eq_some_iff.mp h5).1⟩, fun x H' hy => ?_⟩
    obtain ⟨rfl, k', v', h6, rfl⟩ := hy
    rw [h5] at h6
    cases h6
    exact ⟨F1, .refl s2, keyD_rp _⟩
theorem eil_vals (hN : X.N[j]? = some x) (hv : visB X.env.scope x = true) (hd : (x == ("__debug__" : Str)) = false) (hcd : (x == ("__classdict__" : Str)) = false) (hbase : attributeBase (.Name x p) "values" X.env (eval (.Name x p) X.env) = eval (.Name x p) X.env) (hline : (apos.endLine == cpos.line) = true) :
    EIL X tg (.Call (.Attribute (.Name x p) "values" apos) [] [] cpos) j (iValsJ j) :=
  mkLk (pi_values (pe_var hN (vis_of hv) hd hcd) hbase hline) fun σ H R ρ F ds e l h k => by
    unfold iValsJ at h
    rw [Option.map_eq_some_iff] at h
    obtain ⟨kds, h1, rfl⟩ := h
    obtain ⟨q, o, kvs, h2, h3, h4⟩ := lk_at e l h1
    refine ⟨.ref q, h2, q, o, kvs, rfl, e.sub _ _ h3, k _ F H (.refl e.sub) fun i F1 H1 s1 s2 => ?_⟩
    have hq : H1 q = some (.frz o (.dK kvs)) := s2 _ _ (s1 _ _ h3)
    refine ⟨fun d hd => ?_, fun hi => ⟨hq, by rw [h4.length]; simpa using hi⟩⟩
    rw [List.getElem?_map, Option.map_eq_some_iff] at hd
    obtain ⟨y, h5, rfl⟩ := hd
    obtain ⟨z, h6, h7, h8⟩ := h4.at_ h5
    refine ⟨⟨hq, (List.getElem?_eq_some_iff.mp h6).1⟩, fun x H' hy => ?_⟩
    obtain ⟨rfl, k', h9⟩ := hy
    rw [h6] at h9
    cases h9
    exact ⟨F1, .refl s2, h8.mono s1⟩
theorem eil_items {elts : List Expr} {kk : Nat} {tpos : Pos} (hN : X.N[j]? = some x) (hv : visB X.env.scope x = true) (hd : (x == ("__debug__" : Str)) = false) (hcd : (x == ("__classdict__" : Str)) = false) (hbase : attributeBase (.Name x p) "items" X.env (eval (.Name x p) X.env) = eval (.Name x p) X.env) (hline : (apos.endLine == cpos.line) = true) :
    EIL X (.Tuple elts kk tpos) (.Call (.Attribute (.Name x p) "items" apos) [] [] cpos) j (iItemsJ j) :=
  mkLk (pi_items (pe_var hN (vis_of hv) hd hcd) hbase hline) fun σ H R ρ F ds e l h k => by
    unfold iItemsJ at h
    rw [Option.map_eq_some_iff] at h
    obtain ⟨kds, h1, rfl⟩ := h
    obtain ⟨q, o, kvs, h2, h3, h4⟩ := lk_at e l h1
    refine ⟨.ref q, h2, q, o, kvs, rfl, e.sub _ _ h3, k _ F H (.refl e.sub) fun i F1 H1 s1 s2 => ?_⟩
    have hq : H1 q = some (.frz o (.dK kvs)) := s2 _ _ (s1 _ _ h3)
    refine ⟨fun d hd => ?_, fun hi => ⟨hq, by rw [h4.length]; simpa [itL] using hi⟩⟩
    unfold itL at hd
    rw [List.getElem?_map, Option.map_eq_some_iff] at hd
    obtain ⟨y, h5, rfl⟩ := hd
    obtain ⟨z, h6, h7, h8⟩ := h4.at_ h5
    refine ⟨⟨hq, (List.getElem?_eq_some_iff.mp h6).1⟩, fun x H' hy => ?_⟩
    obtain ⟨T, k', v', h9, rfl, hT, rfl⟩ := hy
    rw [h6] at h9
    cases h9
    have sN : Sub F1 (upd F1 T (.tup [kV k', v'])) := Sub.new (s2.free hT)
    exact ⟨_, .add s2 hT, .tup upd_same (.cons (by rw [h7]; exact keyD_rp _) (.cons ((h8.mono s1).mono sN) .nil))⟩
end
/-! ### statements and comprehensions over them -/
section
variable {X : Cx} {elt tg iter kx vx : Expr} {ifs : List Expr} {scope : Scope} {own : List (Str × Nat)} {pos spos : Pos} {ws : List Nat} {fi : DenI} {g : DenG} {ft : DenB} {fe fk fv : Den} {j : Nat} {fb : DenS} {body : List Stmt}
theorem sxl_for (hp : PassesOwn (model X.prog X.w) X.A X.env X.xe) (hc : X.calm = true) (hi : EIL X tg iter j fi) (hg : EG X tg ws g) (hb : SXs X body fb) (hs : ∀ x, foldedSetIterable iter X.env x = pure x) : SXL X (.For tg iter body [] pos) j (sFor fi g fb) :=
  ⟨PS.imp (ps_for hp hc hi.pi hg.pg hb.pss hs) fun D σ H ⟨F0, H0, ρ, F, o, e, l, h, k⟩ => for_t (e.env.wiL l) e h k⟩
theorem enl_lc (hc : X.calm = true) (hN : X.N.Nodup) (hi : EIL X tg iter j fi) (ok : BlkOk X.N X.env.scope scope own)
    (hg : InBlk X scope fun Y => EG Y tg ws g) (ht : InBlk X scope fun Y => ETs Y ifs ft) (he : InBlk X scope fun Y => EX Y elt fe) (hs : ∀ x, foldedSetIterable iter X.env x = pure x) (hw : ∀ j ∈ ws, j ∈ own.map (·.2)) :
    ENL X (.ListComp elt [⟨tg, iter, ifs, 0⟩] scope pos) j (dLc fi g ft fe (own.map (·.2))) :=
  ⟨PE.imp (pe_lc (te := tX X.K fe) (tt := tTst X.K ft) (g := tGt X.K ws g) hc hN hi.pi ok (fun s H C cl fp => (hg s H C cl fp).pg) (fun s H C cl fp => (ht s H C cl fp).pts) (fun s H C cl fp => (he s H C cl fp).pe) hs) fun σ H Q ⟨ρ, F, d, e, l, h, k⟩ => lc_t (e.wiL l) hw e h k⟩
theorem sxl_setLc (i : Nat) (b : Bool) {y : Str} {py : Pos} (hc : X.calm = true) (hN : X.N.Nodup) (hy : X.N[i]? = some y) (hyl : X.env.scope.names.lookup y = some .local)
    (hsw : swapsWith (.ListComp elt [⟨tg, iter, ifs, 0⟩] scope pos) (some (.Name y py)) spos.line X.env = pure true) (hi : EIL X tg iter j fi) (ok : BlkOk X.N X.env.scope scope own)
    (hg : InBlk X scope fun Y => EG Y tg ws g) (ht : InBlk X scope fun Y => ETs Y ifs ft) (he : InBlk X scope fun Y => EX Y elt fe) (hs : ∀ x, foldedSetIterable iter X.env x = pure x) (hw : ∀ j ∈ ws, j ∈ own.map (·.2)) :
    SXL X (.Assign [.Name y py] (.ListComp elt [⟨tg, iter, ifs, 0⟩] scope pos) spos) j (sLcSet i b (dLc fi g ft fe (own.map (·.2)))) :=
  ⟨PS.imp (ps_setLc (te := tX X.K fe) (tt := tTst X.K ft) (g := tGt X.K ws g) hc hN hy hyl hsw hi.pi ok (fun s H C cl fp => (hg s H C cl fp).pg) (fun s H C cl fp => (ht s H C cl fp).pts) (fun s H C cl fp => (he s H C cl fp).pe) hs) fun D σ H ⟨F0, H0, ρ, F, o, e, l, h, k⟩ => by
    simp only [sLcSet, Option.bind_eq_some_iff, Option.some.injEq] at h
    obtain ⟨d, h1, rfl⟩ := h
    refine lc_t (Q := fun x H1 => gName i x σ H1 D.nx) (e.env.wiL l) hw e.env h1 fun a ob F' H' x h2 h3 h4 h5 => ?_
    cases b with
    | true => exact k _ F' H' (e.setOwn x h3 h2 h4 h5)
    | false =>
      obtain ⟨F2, x2, r2⟩ := frzNew x h2 h3 h4 h5
      exact k _ F2 H' ((e.to x2).set r2)⟩
/-! ### dict comprehensions -/
def dcL (g : DenG) (ft : DenB) (fk fv : Den) (ρ : Env) : List D → List (D × D) → Option (List (D × D))
  | [], acc => some acc
  | d :: ds, acc => (g d ρ).bind fun ρ1 => (ft ρ1).bind fun b => if b then (fk ρ1).bind fun x => (keyOf x).bind fun _ => (fv ρ1).bind fun y => dcL g ft fk fv ρ ds (dPut acc x y) else dcL g ft fk fv ρ ds acc
def dDc (fi : DenI) (g : DenG) (ft : DenB) (fk fv : Den) (vs : List Nat) : Den := fun ρ => (fi ρ).bind fun ds => if ds.length ≤ 1000000 then (dcL g ft fk fv (wipeE ρ vs) ds []).bind fun out => some (.dict out) else none
theorem dPut_len (kds : List (D × D)) (k v : D) : (dPut kds k v).length ≤ kds.length + 1 := by
  unfold dPut
  split
  · rw [List.length_map]; omega
  · rw [List.length_append]; exact Nat.le_refl _
theorem dc_t {K : PySem.W.Frag} {wi : TI} {vs : List Nat} {Q : VK} {d : D} {ρ : Env} {σ : L2.St} {F H : Hp} (hwi : WiOk K wi fi ρ σ F H) (hw : ∀ j ∈ ws, j ∈ vs) (e : EnvOk K ρ σ F H) (h : dDc fi g ft fk fv vs ρ = some d)
    (k : ∀ a o F' H', Ext F H F' H' → F' a = none → H a = none → H' a = some o → OwnRep K F' d o → Q (.ref a) H') :
    tDc wi (tGt K ws g) (tTst K ft) (tX K fk) (tX K fv) vs σ H Q := by
  simp only [dDc, Option.bind_eq_some_iff] at h
  obtain ⟨ds, h1, h2⟩ := h
  split at h2
  · rename_i hsz
    rw [Option.bind_eq_some_iff] at h2
    obtain ⟨out, h2, h3⟩ := h2
    cases h3
    refine hwi ds _ h1 fun J F1 H1 x1 w q hq => ?_
    have e1 := (e.ext x1).wipe vs
    have hF1 : F1 q = none := x1.le.free hq
    have hne := e1.ne_new hq
    refine ⟨fun i m H' => i ≤ ds.length ∧ m = ds.length - i ∧ ∃ F' acc accD, EnvOk K (wipeE ρ vs) (wipe σ vs) F' H' ∧ Ext F1 H1 F' H' ∧ F' q = none ∧ H' q = some (.dK acc) ∧ RpK K F' accD acc ∧ acc.length ≤ i ∧
      dcL g ft fk fv (wipeE ρ vs) (ds.drop i) accD = some out,
      ⟨_, Nat.zero_le _, rfl, F1, [], [], e1.upd hF1 hne, .mut (.refl x1.le) hq hF1, hF1, upd_same, .nil, Nat.zero_le _, by rw [List.drop_zero]; exact h2⟩, ?_⟩
    rintro i m H' ⟨hle, rfl, F', acc, accD, e', x', hF', hq', rl, hla, hr⟩
    obtain ⟨w1, w2⟩ := w i F' H' x'.f x'.le
    by_cases hi : i < ds.length
    · have hd : ds.drop i = ds[i] :: ds.drop (i + 1) := List.drop_eq_getElem_cons hi
      rw [hd] at hr
      simp only [dcL, Option.bind_eq_some_iff] at hr
      obtain ⟨ρ1, g1, b, g2, g3⟩ := hr
      obtain ⟨w3, w4⟩ := w1 ds[i] (List.getElem?_eq_getElem hi)
      refine .inr ⟨w3, fun H' => ∃ F' acc accD, EnvOk K (wipeE ρ vs) (wipe σ vs) F' H' ∧ Ext F1 H1 F' H' ∧ F' q = none ∧ H' q = some (.dK acc) ∧ RpK K F' accD acc ∧ acc.length ≤ i + 1 ∧
        dcL g ft fk fv (wipeE ρ vs) (ds.drop (i + 1)) accD = some out, fun H2 hN => ⟨_, by omega, hi, rfl, hN⟩, fun x H2 hy => ?_⟩
      obtain ⟨F2, x2, r2⟩ := w4 x H2 hy
      refine ⟨_, F2, ds[i], ρ1, e'.ext x2, r2, g1, fun σ3 e3 sb o3 => ⟨?_, ?_⟩⟩
      · refine wipe_twice σ σ3 _ (by rw [sb.len, wipe_length]) fun j hj => sb.at_ j fun z => hj (hw j z)
      refine ⟨ρ1, F2, b, e3, g2, fun F3 H3 x3 => ?_⟩
      have x23 := x2.trans x3
      cases b with
      | false =>
        exact ⟨F3, acc, accD, e'.ext x23, x'.trans x23, x23.new q (by rw [hq']; exact fun z => nomatch z) hF', x23.h _ _ hq', rl.mono x23.f, by omega, g3⟩
      | true =>
        simp only [if_true, Option.bind_eq_some_iff] at g3
        obtain ⟨y, g4, kk, g5, z, g6, g7⟩ := g3
        have ey := keyOf_eq g5
        subst ey
        refine ⟨ρ1, F3, _, e3.ext x3, g4, fun vk F4 H4 x4 r4 => ?_⟩
        have ek : vk = kV kk := by
          cases kk with
          | inl i => cases r4; rfl
          | inr i => cases r4; rfl
        subst ek
        refine ⟨ρ1, F4, z, (e3.ext x3).ext x4, g6, fun v F5 H5 x5 r5 => ?_⟩
        have x25 := (x23.trans x4).trans x5
        have hF5 : F5 q = none := x25.new q (by rw [hq']; exact fun z => nomatch z) hF'
        have hH5 : H5 q = some (.dK acc) := x25.h _ _ hq'
        refine ⟨acc, kk, rfl, hH5, line_lt (by omega), F5, putK acc kk v, dPut accD (keyD kk) z, (e'.ext x25).upd hF5 hne, .mut (x'.trans x25) hq hF5, hF5, upd_same, (rl.mono x25.f).put kk r5, ?_, g7⟩
        have h1 := dPut_len accD (keyD kk) z
        have h2 := ((rl.mono x25.f).put kk r5).length
        have h3 := rl.length
        omega
    · have hd : ds.drop i = [] := List.drop_eq_nil_of_le (by omega)
      rw [hd] at hr
      cases hr
      exact .inl ⟨w2 (by omega), k q _ F' H' (x1.trans x') hF' (x1.h.free hq) hq' (.dK rl)⟩
  · cases h2
theorem needs_dc {vs : List Nat} (n : Needs j fi) : Needs j (dDc fi g ft fk fv vs) := fun ρ d e => by
  simp only [dDc, Option.bind_eq_some_iff] at e
  obtain ⟨ds, h1, _⟩ := e
  exact n ρ ds h1
/-- y = {k: v for ..} on one line -/
theorem ps_setDc' {i : Nat} {y : Str} {py : Pos} {wi : TI} {g : TG} {tt : TT} {tk tv : TE} (hc : X.calm = true) (hN : X.N.Nodup) (hy : X.N[i]? = some y) (hyl : X.env.scope.names.lookup y = some .local)
    (hsw : swapsWith (.DictComp kx vx [⟨tg, iter, ifs, 0⟩] scope pos) (some (.Name y py)) spos.line X.env = pure true) (hi : PI X tg iter wi) (ok : BlkOk X.N X.env.scope scope own)
    (hg : InBlk X scope fun Y => PG Y tg g) (ht : InBlk X scope fun Y => PTs Y ifs tt) (hk : InBlk X scope fun Y => PE Y kx tk) (he : InBlk X scope fun Y => PE Y vx tv) (hs : ∀ x, foldedSetIterable iter X.env x = pure x) :
    PS X (.Assign [.Name y py] (.DictComp kx vx [⟨tg, iter, ifs, 0⟩] scope pos) spos) (tAsg (tDc wi g tt tk tv (own.map (·.2))) (gName i)) := by
  refine ⟨fun pins s σ H D I hD => ?_⟩
  rw [exec_Assign_Name_used _ _ _ _ hsw]
  refine wpAny_bind (wpAny_standAt (wpAny_bind ?_))
  show wpAny _ X.A (do let _ ← comprehension (.DictComp kx vx [⟨tg, iter, ifs, 0⟩] scope pos) scope X.env (firstIterPos [⟨tg, iter, ifs, 0⟩] pos) newDict false (eval iter X.env) (some (assign (.Name y py) X.env))) _ _ s
  have hD' : tDc wi g tt tk tv (own.map (·.2)) σ H (fun x H1 => gName i x σ H1 D.nx) := hD
  refine wpAny_bind (thn (dc_core (Qf := fun _ s' => SP X pins D .next s') hc hN I hi ok hg ht hk he hs hD' fun dd C s' m H' I' q hn fo => ?_) fun _ s' hq => wpAny_pure (wpAny_pure hq))
  show wpAny _ _ (assign (.Name y py) X.env (.ref dd)) _ _ _
  refine wpAny_assign_Name (store_ok2 (v := V.ref dd) I' hN hy (.inl hyl) rfl (fun s2 I2 ⟨a, sb, ha⟩ => ?_) (.inr hyl))
  obtain ⟨z0, z1, z2, z3, z4, z5⟩ := fo
  have hne : C ≠ a := ha.elim (fun z => by rw [z]; exact z1) fun z e => z4 y a z e.symm
  exact ⟨m, hn.sameBut sb hne, fun h3 sb3 => ⟨_, H', I2.turned (t' := s2.toks) (fun b o hb e => (sb3.2 b hb).trans e) z0 z1 z3 z4 z5, q⟩⟩
section
variable {hcx : X.calm = true}
theorem en_dc (hc : X.calm = true) (hN : X.N.Nodup) (hi : EI X tg iter fi) (ok : BlkOk X.N X.env.scope scope own)
    (hg : InBlk X scope fun Y => EG Y tg ws g) (ht : InBlk X scope fun Y => ETs Y ifs ft) (hk : InBlk X scope fun Y => EX Y kx fk) (he : InBlk X scope fun Y => EX Y vx fe) (hs : ∀ x, foldedSetIterable iter X.env x = pure x) (hw : ∀ j ∈ ws, j ∈ own.map (·.2)) :
    EN X (.DictComp kx vx [⟨tg, iter, ifs, 0⟩] scope pos) (dDc fi g ft fk fe (own.map (·.2))) :=
  mkN (pe_dc (tk := tX X.K fk) (tv := tX X.K fe) (tt := tTst X.K ft) (g := tGt X.K ws g) hc hN hi.pi ok (fun s H C cl fp => (hg s H C cl fp).pg) (fun s H C cl fp => (ht s H C cl fp).pts) (fun s H C cl fp => (hk s H C cl fp).pe) (fun s H C cl fp => (he s H C cl fp).pe) hs) fun σ H Q ρ F d e h k => dc_t e.wiOk hw e h k
theorem enl_dc (hc : X.calm = true) (hN : X.N.Nodup) (hi : EIL X tg iter j fi) (ok : BlkOk X.N X.env.scope scope own)
    (hg : InBlk X scope fun Y => EG Y tg ws g) (ht : InBlk X scope fun Y => ETs Y ifs ft) (hk : InBlk X scope fun Y => EX Y kx fk) (he : InBlk X scope fun Y => EX Y vx fe) (hs : ∀ x, foldedSetIterable iter X.env x = pure x) (hw : ∀ j ∈ ws, j ∈ own.map (·.2)) :
    ENL X (.DictComp kx vx [⟨tg, iter, ifs, 0⟩] scope pos) j (dDc fi g ft fk fe (own.map (·.2))) :=
  ⟨PE.imp (pe_dc (tk := tX X.K fk) (tv := tX X.K fe) (tt := tTst X.K ft) (g := tGt X.K ws g) hc hN hi.pi ok (fun s H C cl fp => (hg s H C cl fp).pg) (fun s H C cl fp => (ht s H C cl fp).pts) (fun s H C cl fp => (hk s H C cl fp).pe) (fun s H C cl fp => (he s H C cl fp).pe) hs) fun σ H Q ⟨ρ, F, d, e, l, h, k⟩ => dc_t (e.wiL l) hw e h k⟩
theorem setDc_end {K : PySem.W.Frag} {i : Nat} {b : Bool} {DD : Ends} {σ : L2.St} {H F0 H0 F : Hp} {ρ : Env} {d : D} (e : EnvS K F0 H0 ρ σ F H) (k : Post K F0 H0 DD (.nx (setNew i b d ρ))) {a : Addr} {ob : HO} {F' H' : Hp} (x : Ext F H F' H') (h2 : F' a = none) (h3 : H a = none) (h4 : H' a = some ob) (h5 : OwnRep K F' d ob) : gName i (.ref a) σ H' DD.nx := by
  cases b with
  | true => exact k _ F' H' (e.setOwn x h3 h2 h4 h5)
  | false =>
    obtain ⟨F2, x2, r2⟩ := frzNew x h2 h3 h4 h5
    exact k _ F2 H' ((e.to x2).set r2)
theorem sx_setDc (i : Nat) (b : Bool) {y : Str} {py : Pos} (hc : X.calm = true) (hN : X.N.Nodup) (hy : X.N[i]? = some y) (hyl : X.env.scope.names.lookup y = some .local)
    (hsw : swapsWith (.DictComp kx vx [⟨tg, iter, ifs, 0⟩] scope pos) (some (.Name y py)) spos.line X.env = pure true) (hi : EI X tg iter fi) (ok : BlkOk X.N X.env.scope scope own)
    (hg : InBlk X scope fun Y => EG Y tg ws g) (ht : InBlk X scope fun Y => ETs Y ifs ft) (hk : InBlk X scope fun Y => EX Y kx fk) (he : InBlk X scope fun Y => EX Y vx fe) (hs : ∀ x, foldedSetIterable iter X.env x = pure x) (hw : ∀ j ∈ ws, j ∈ own.map (·.2)) :
    SX X (.Assign [.Name y py] (.DictComp kx vx [⟨tg, iter, ifs, 0⟩] scope pos) spos) (sLcSet i b (dDc fi g ft fk fe (own.map (·.2)))) :=
  sx_mk (ps_setDc' (tk := tX X.K fk) (tv := tX X.K fe) (tt := tTst X.K ft) (g := tGt X.K ws g) hc hN hy hyl hsw hi.pi ok (fun s H C cl fp => (hg s H C cl fp).pg) (fun s H C cl fp => (ht s H C cl fp).pts) (fun s H C cl fp => (hk s H C cl fp).pe) (fun s H C cl fp => (he s H C cl fp).pe) hs) fun D σ H F0 H0 ρ F o e h k => by
    simp only [sLcSet, Option.bind_eq_some_iff, Option.some.injEq] at h
    obtain ⟨d, h1, rfl⟩ := h
    exact dc_t (Q := fun x H1 => gName i x σ H1 D.nx) e.env.wiOk hw e.env h1 fun a ob F' H' x h2 h3 h4 h5 => setDc_end e k x h2 h3 h4 h5
theorem sxl_setDc (i : Nat) (b : Bool) {y : Str} {py : Pos} (hc : X.calm = true) (hN : X.N.Nodup) (hy : X.N[i]? = some y) (hyl : X.env.scope.names.lookup y = some .local)
    (hsw : swapsWith (.DictComp kx vx [⟨tg, iter, ifs, 0⟩] scope pos) (some (.Name y py)) spos.line X.env = pure true) (hi : EIL X tg iter j fi) (ok : BlkOk X.N X.env.scope scope own)
    (hg : InBlk X scope fun Y => EG Y tg ws g) (ht : InBlk X scope fun Y => ETs Y ifs ft) (hk : InBlk X scope fun Y => EX Y kx fk) (he : InBlk X scope fun Y => EX Y vx fe) (hs : ∀ x, foldedSetIterable iter X.env x = pure x) (hw : ∀ j ∈ ws, j ∈ own.map (·.2)) :
    SXL X (.Assign [.Name y py] (.DictComp kx vx [⟨tg, iter, ifs, 0⟩] scope pos) spos) j (sLcSet i b (dDc fi g ft fk fe (own.map (·.2)))) :=
  ⟨PS.imp (ps_setDc' (tk := tX X.K fk) (tv := tX X.K fe) (tt := tTst X.K ft) (g := tGt X.K ws g) hc hN hy hyl hsw hi.pi ok (fun s H C cl fp => (hg s H C cl fp).pg) (fun s H C cl fp => (ht s H C cl fp).pts) (fun s H C cl fp => (hk s H C cl fp).pe) (fun s H C cl fp => (he s H C cl fp).pe) hs) fun D σ H ⟨F0, H0, ρ, F, o, e, l, h, k⟩ => by
    simp only [sLcSet, Option.bind_eq_some_iff, Option.some.injEq] at h
    obtain ⟨d, h1, rfl⟩ := h
    exact dc_t (Q := fun x H1 => gName i x σ H1 D.nx) (e.env.wiL l) hw e.env h1 fun a ob F' H' x h2 h3 h4 h5 => setDc_end e k x h2 h3 h4 h5⟩
theorem needs_set {i : Nat} {b : Bool} {f : Den} (n : Needs j f) : Needs j (sLcSet i b f) := fun ρ d e => by
  simp only [sLcSet, Option.bind_eq_some_iff] at e
  obtain ⟨x, h1, _⟩ := e
  exact n ρ x h1
end
/-- {k: v} -/
def dDisp1 (f g : Den) : Den := fun ρ => (f ρ).bind fun k => (keyOf k).bind fun _ => (g ρ).bind fun v => some (.dict [(k, v)])
theorem en_disp1 (hk : EX X kx fk) (hv : EX X vx fe) : EN X (.Dict [some kx] [vx] pos) (dDisp1 fk fe) :=
  mkN (pe_disp (pps_cons hk.pe hv.pe pps_nil) rfl rfl (fun z => nomatch z) (by simp)) fun σ H Q ρ F d e h k => by
    simp only [dDisp1, Option.bind_eq_some_iff, Option.some.injEq] at h
    obtain ⟨x, h1, kk, h2, y, h3, rfl⟩ := h
    have ey := keyOf_eq h2
    subst ey
    intro p hp
    have e1 := e.ext (.own (o := .dK []) e.sub hp)
    refine ⟨ρ, F, _, e1, h1, fun u F1 H1 x1 r1 => ⟨ρ, F1, y, e1.ext x1, h3, fun w F2 H2 x2 r2 => ?_⟩⟩
    have x12 := x1.trans x2
    have hFp : F p = none := e.sub.free hp
    have hH2 : H2 p = some (.dK []) := x12.h _ _ upd_same
    have hF2 : F2 p = none := x12.new p (by rw [upd_same]; exact fun z => nomatch z) hFp
    have ek : u = kV kk := by
      cases kk with
      | inl i => cases r1; rfl
      | inr i => cases r1; rfl
    subst ek
    refine ⟨hH2, [(kk, w)], rfl, by simp, k p _ F2 _ ?_ hF2 hp upd_same (.dK (.cons r2 .nil))⟩
    have x0 : Ext F H F2 H2 := (Ext.own (o := .dK []) e.sub hp).trans x12
    exact .mut x0 hp hF2
end
end Zx
/-! Zx14: what the printed derivations use beside the rules. -/
namespace Zx
open PySem PySem.Spec L2
def vOk (sc : Scope) (x : Str) : Bool := visB sc x && (!(x == ("__debug__" : Str)) && !(x == ("__classdict__" : Str)))
theorem vOk_parts {sc : Scope} {x : Str} (h : vOk sc x = true) : visB sc x = true ∧ (x == ("__debug__" : Str)) = false ∧ (x == ("__classdict__" : Str)) = false := by
  unfold vOk at h
  simp only [Bool.and_eq_true, Bool.not_eq_true'] at h
  exact ⟨h.1, h.2.1, h.2.2⟩
theorem PE.or {X : Cx} {e : Expr} {t t' : TE} (h : PE X e t) (h' : PE X e t') : PE X e (fun σ H Q => t σ H Q ∨ t' σ H Q) := ⟨fun pins s σ H Q I hw => hw.elim (h.run pins s σ H Q I) (h'.run pins s σ H Q I)⟩
theorem PI.or {X : Cx} {tg e : Expr} {t t' : TI} (h : PI X tg e t) (h' : PI X tg e t') : PI X tg e (fun σ H Q => t σ H Q ∨ t' σ H Q) := ⟨fun pins s σ H Q I hw => hw.elim (h.run pins s σ H Q I) (h'.run pins s σ H Q I)⟩
def dCall (fl : DenL) (fn : List D → Option D) : Den := fun ρ => (fl ρ).bind fn
section
variable {X : Cx} {a b c e : Expr} {f g h : Den} {pos p : Pos} {fl : DenL} {x : Str} {es : List Expr} {k n : Nat} {fn : List D → Option D}
theorem vX (i : Nat) (hN : X.N[i]? = some x) (h : vOk X.env.scope x = true) : EX X (.Name x pos) (vR i) := let ⟨h2, h3, h4⟩ := vOk_parts h; ex_var i hN h2 h3 h4
theorem vE (i : Nat) (hN : X.N[i]? = some x) (h : vOk X.env.scope x = true) : EB X (.Name x pos) (vB i) := let ⟨h2, h3, h4⟩ := vOk_parts h; eb_var i hN h2 h3 h4
theorem cX (F : FX X.prog X.w X.K X.mg X.base k x n fn) (hr : Room k X.A) (hg : Gl X x) (hdb : (x == ("__debug__" : Str)) = false) (ha : EA X (a :: es) fl) (hn : (a :: es).length = n)
    (he : starEach (a :: es) X.env = (false, eval a X.env) :: starEach es X.env) (hpl : (backTo pos (starEach es X.env)).any (·.1) = false) (hl : ∀ ρ ds, fl ρ = some ds → ds.length = n) : EX X (.Call (.Name x p) (a :: es) [] pos) (dCall fl fn) := ex_call F hr hg hdb ha hn he hpl hl
/-- any list or tuple is walked -/
theorem ei_seq {tg : Expr} (ha : EX X a f) : EI X tg a (iSeq f) :=
  ⟨PI.imp (PI.or (ei_list (tg := tg) ha).pi (ei_tup (tg := tg) ha).pi) fun σ H R ⟨ρ, F, ds, e, h1, k⟩ => by
    unfold iSeq at h1
    rw [Option.bind_eq_some_iff] at h1
    obtain ⟨x, h2, h3⟩ := h1
    unfold seqOf at h3
    split at h3
    · cases h3
      exact .inl ⟨ρ, F, ds, e, by simp only [h2, Option.bind_some], k⟩
    · cases h3
      exact .inr ⟨ρ, F, ds, e, by simp only [h2, Option.bind_some], k⟩
    · cases h3⟩
/-- a test for which one's own list is frozen, but not longer -/
def bTmp (i : Nat) (fb : DenB) : DenB := fun ρ => fb (frz i ρ)
theorem et_tmp (i : Nat) {fb : DenB} (ht : ET X c fb) : ET X c (bTmp i fb) :=
  ⟨PT.imp ht.pt fun σ H Q ⟨ρ, F, b, e, h1, k⟩ => by
    have e0 : EnvS X.K F F ρ σ F H := ⟨e, ⟨.refl _, e.sub, e.sub, fun a h1 h2 => absurd h2 h1⟩, fun i d a g1 g2 => by
      obtain ⟨ov, h1, q, o, h2, h3, h4, h5⟩ := e.at_ i _ g1
      rw [g2] at h1
      cases h1
      cases h2
      exact h3⟩
    obtain ⟨F', e'⟩ := e0.frz i
    exact ⟨_, F', b, e'.env, h1, fun F2 H2 x => k F H2 ⟨.refl _, x.h, e.sub.trans x.h, fun _ _ h => h⟩⟩⟩
end
def mulI : D → D → Option D | .int i, .int j => mulD (.int i) (.int j) | _, _ => none
def repD : D → D → Option D | .list xs, .int j => mulD (.list xs) (.int j) | _, _ => none
def catL : D → D → Option D | .list xs, .list ys => addD (.list xs) (.list ys) | _, _ => none
section
variable {X : Cx} {a b : Expr} {f g : Den} {pos : Pos}
theorem ex_mulI (ha : EB X a f) (hb : EB X b g) : EX X (.BinOp a .Mult b pos) (d2 mulI f g) := ex_mul ha hb
theorem en_repD (ha : EB X a f) (hb : EB X b g) : EN X (.BinOp a .Mult b pos) (d2 repD f g) := en_rep ha hb
theorem en_catL (ha : EB X a f) (hb : EB X b g) : EN X (.BinOp a .Add b pos) (d2 catL f g) := en_cat ha hb
end
theorem Room.u68 {k : Nat} {A : Around} (r : Room k A) : A.units + 68 < cLine := by have := r.un; omega
theorem gl_of {X : Cx} {x : Str} (h : X.env.kindOf x = some .globalImplicit) : Gl X x := h
/-- the i-th top statement -/
abbrev topOf (P : Program) (i : Nat) : Stmt := P.main.body.getD i (.Pass ⟨0, 0, 0, 0⟩)
end Zx
/-! Zx15: [::-1], sum(d.values()), dicts compared, dict([..]). -/
namespace Zx
open PySem PySem.Spec L2
section
variable {X : Cx} {a b e : Expr} {f g : Den} {p apos cpos pos : Pos}
theorem Room.u0 {k : Nat} {A : Around} (r : Room k A) : A.units < cLine := by have := r.un; omega
def revD : D → Option D | .list xs => some (.list xs.reverse) | _ => none
theorem en_rev {k : Nat} {p1 p2 p3 : Pos} (ha : EB X a f) : EN X (.Subscript a (.Slice none none (some (.UnaryOp .USub (.Constant (.int 1) k p1) p2)) p3) pos) (d1 revD f) :=
  mkN (pe_revL ha.pe) fun σ H Q ρ F d e h k => by
    simp only [d1, Option.bind_eq_some_iff] at h
    obtain ⟨x, h1, h2⟩ := h
    unfold revD at h2
    split at h2
    · cases h2
      refine ⟨ρ, F, _, e, h1, fun v F1 H1 x1 r1 => ?_⟩
      obtain ⟨q, xs, rfl, hq, rq⟩ := r1.list x1.le
      exact ⟨q, xs, rfl, .inl (.inl hq), fun w hw => k w _ F1 _ (x1.trans (.own x1.le hw)) (x1.le.free hw) (x1.h.free hw) upd_same (.lst rq.reverse)⟩
    · cases h2
/-! ### sum(d.values()) -/
theorem preSum_eq (is : List Int) : preSum (fun i => is.getD i 0) is.length = is.sum := by
  have h : ∀ (is : List Int) n, n ≤ is.length → preSum (fun i => is.getD i 0) n = (is.take n).sum := fun is n => by
    induction n with
    | zero => intro _; rfl
    | succ n ih =>
      intro hn
      have hlt : n < is.length := hn
      show preSum _ n + is.getD n 0 = _
      rw [ih (by omega), List.take_add_one, List.getElem?_eq_getElem hlt, List.sum_append, List.getD_eq_getElem?_getD, List.getElem?_eq_getElem hlt]
      simp
  rw [h is is.length (Nat.le_refl _), List.take_length]
def tSV (K : PySem.W.Frag) (te : TE) : TE := fun σ H Q => te σ H fun x H1 => ∃ (d : Addr) (kvs : List (Key × V)) (is : List Int), x = .ref d ∧ Rd H1 d (.dK kvs) ∧ kvs.map (·.2) = is.map V.int ∧ Q (.int is.sum) H1
theorem pe_sumVals {te : TE} (hc : X.calm = true) (he : PE X e te) (hg : Gl X "sum") (hm : X.mg "sum" = none) (hbase : attributeBase e "values" X.env (eval e X.env) = eval e X.env) (hline : (apos.endLine == cpos.line) = true)
    (hs : N1 X (.Call (.Attribute e "values" apos) [] [] cpos)) : PE X (.Call (.Name "sum" p) [.Call (.Attribute e "values" apos) [] [] cpos] [] pos) (tSV X.K te) := by
  refine ⟨fun pins s σ H Q I hq => ?_⟩
  refine wpAny_Call_Name_kw (ld_blt I hg hm rfl ?_ (by decide) (by decide))
  refine PyProof.Rows.callWith_builtin1 ?_ hs rfl
  have hs' : starEach [.Call (.Attribute e "values" apos) [] [] cpos] X.env = [(false, eval (.Call (.Attribute e "values" apos) [] [] cpos) X.env)] := hs
  rw [hs']
  show wpAny _ _ (spliced [(false, eval (.Call (.Attribute e "values" apos) [] [] cpos) X.env)]) _ _ s
  refine Calls.spliced_cons ?_
  refine wpAny_Call_method (T := "dict") (id := "dict.values") hbase rfl hline F.plainAttrs_dict F.slot_dict_values F.type_dict_values (thn (he.run pins s σ H _ I hq) fun u s1 ⟨x, H1, I1, rx, d, kvs, is, ex, hd, hi, q⟩ => ?_)
  subst ex
  obtain rfl : u = Value.ref d := rx
  obtain ⟨hz, hs0, vs, kv, hdo⟩ := dk_obj I1 hd
  obtain ⟨ep, hat⟩ := hdo.dictAt
  have lk : kvs.length = vs.length := Paired.length kv
  refine ⟨hdo.typeIs, hdo.mapOf.noDict, ?_⟩
  show wpAny _ _ (callWith cpos (.builtin "dict.values") [.ref d] [] []) _ X.xe s1
  refine method_meetsIn F.slot_dict_values F.entry_dict_values rfl (PySem.evalArgs_none ⟨rfl, hdo.typeIs, F.args_dict_values_1 _, _, meets_dict_values (mixKind X.prog X.w) d hs0, ⟨vs, hdo⟩, ?_⟩)
  refine Calls.spliced_nil ?_
  have hh : X.A.handled = none := I1.ok.hd hc
  have I2 : Inv X pins σ H1 { s1 with heap := s1.heap.push { cls := .type "dict_values", data := .fields #[.ref d] } } := I1.kept (t' := s1.toks) fun b ob q => Heap.get?_push_of_some _ q
  generalize hw2 : s1.heap.push { cls := .type "dict_values", data := .fields #[.ref d] } = g2 at I2
  have view : g2.IsValuesView s1.heap.objs.size d := by rw [← hw2]; exact ⟨_, Heap.get?_push_size _ rfl, rfl, rfl⟩
  have hat2 : g2.DictAt (mixKind X.prog X.w) d vs ep := by rw [← hw2]; exact hat.push _
  refine call_sum_walkAnyS ?_
  have KK := PySem.W.kdl_values (prog := X.prog) (w := X.w) (knd := mixKind X.prog X.w) (r := s1.heap.objs.size) (d := d) (kvs := vs) (ep := ep)
  obtain ⟨oI, St, hit, W, st⟩ := KK.iter X.A.in1 { s1 with heap := g2 } (by simpa using hh) ⟨view, hat2⟩
  refine hit _ _ ⟨g2.objs.size, _, _, _, vs.length, _, _, fun i => is.getD i 0, rfl, W.toS, st, fun b hb => ?_, fun i v hv => ?_, fun s' t' hm' => ?_⟩
  · rw [Heap.size_push]
    rcases List.mem_cons.mp hb with e1 | hb
    · rw [e1]; exact Nat.lt_succ_self _
    · rw [List.mem_singleton.mp hb]; exact Nat.lt_succ_of_lt hat2.lt_size
  · obtain ⟨k, hk⟩ := hv
    have hlt : i < vs.length := (List.getElem?_eq_some_iff.mp hk).1
    obtain ⟨qv, g1, g2', g3⟩ := LiI.paired_get kv (List.getElem?_eq_getElem (show i < kvs.length by omega))
    rw [hk] at g1
    cases g1
    have e3 : (kvs.map (·.2))[i]? = some (kvs[i]).2 := by rw [List.getElem?_map, List.getElem?_eq_getElem (show i < kvs.length by omega)]; rfl
    rw [hi, List.getElem?_map, Option.map_eq_some_iff] at e3
    obtain ⟨z, z1, z2⟩ := e3
    rw [← z2] at g3
    obtain ⟨t, rfl⟩ := g3
    exact ⟨t, by show Value.int z t = Value.int (is.getD i 0) t; rw [List.getD_eq_getElem?_getD, z1]; rfl⟩
  · have hk : ∀ b o, g2.get? b = some o → s'.heap.get? b = some o := fun b o e1 =>
      hm'.heap b o (fun hI => absurd (Heap.lt_size e1) (by rw [List.mem_singleton.mp hI]; exact Nat.lt_irrefl _)) (Heap.get?_push_of_some _ e1)
    have hl : vs.length = is.length := by
      have := congrArg List.length hi
      simp at this
      omega
    rw [Moved.eq_with hm', hl, preSum_eq]
    exact ⟨.int is.sum, H1, I2.kept (t' := s'.toks) hk, ⟨_, rfl⟩, q⟩
/-- the values of a dict, all ints -/
def sumVD : D → Option D
  | .dict kds => if notMk kds then (intsOf (kds.map (·.2))).bind fun is => some (.int is.sum) else none
  | _ => none
theorem RpK.vals {K : PySem.W.Frag} {F : Hp} : ∀ {kds : List (D × D)} {kvs : List (Key × V)}, RpK K F kds kvs → RpL K F (kds.map (·.2)) (kvs.map (·.2))
  | _, _, .nil => .nil
  | _, _, .cons r t => .cons r t.vals
theorem ex_sumVals (hc : X.calm = true) (he : EB X e f) (hg : Gl X "sum") (hm : X.mg "sum" = none) (hbase : attributeBase e "values" X.env (eval e X.env) = eval e X.env) (hline : (apos.endLine == cpos.line) = true)
    (hs : N1 X (.Call (.Attribute e "values" apos) [] [] cpos)) : EX X (.Call (.Name "sum" p) [.Call (.Attribute e "values" apos) [] [] cpos] [] pos) (d1 sumVD f) :=
  mkX (pe_sumVals hc he.pe hg hm hbase hline hs) fun σ H Q ρ F d e h k => by
    simp only [d1, Option.bind_eq_some_iff] at h
    obtain ⟨x, h1, h2⟩ := h
    unfold sumVD at h2
    split at h2
    · split at h2
      · rename_i kds hn
        simp only [Option.bind_eq_some_iff, Option.some.injEq] at h2
        obtain ⟨is, h2, rfl⟩ := h2
        refine ⟨ρ, F, _, e, h1, fun u F1 H1 x1 r1 => ?_⟩
        obtain ⟨q, kvs, rfl, rq, rk⟩ := r1.dictK x1.le hn
        have e1 := intsOf_eq h2
        have e2 := rk.vals
        rw [e1] at e2
        exact ⟨q, kvs, is, rfl, rq, e2.ints_inv, k _ F1 H1 x1 (.int _)⟩
      · cases h2
    · cases h2
/-! ### dicts of ints compared, where they are equal -/
def dsame (kds lds : List (D × D)) : Bool := decide (kds.length = lds.length) && kds.all fun p => match p.2, dGet lds p.1 with | .int i, some (.int j) => decide (i = j) | _, _ => false
def eqDD : D → D → Option Bool
  | .dict kds, .dict lds => if notMk kds && (notMk lds && dsame kds lds) then some true else none
  | _, _ => none
def neDD : D → D → Option Bool
  | .dict kds, .dict lds => if notMk kds && (notMk lds && dsame kds lds) then some false else none
  | _, _ => none
theorem dsame_ok {K : PySem.W.Frag} {F : Hp} {lds : List (D × D)} {ls : List (Key × V)} (rl : RpK K F lds ls) : ∀ {kds : List (D × D)} {ks : List (Key × V)}, RpK K F kds ks → (∀ p ∈ kds, (match p.2, dGet lds p.1 with | .int i, some (.int j) => decide (i = j) | _, _ => false) = true) → ∀ p ∈ ks, valV ls p.1 = some p.2 ∧ flatB p.2 = true
  | _, _, .nil, _, p, h => by cases h
  | _, _, .cons (k := k) (d := d) (v := v) r t, h, p, hp => by
    rcases List.mem_cons.mp hp with rfl | hp
    · have h1 := h _ List.mem_cons_self
      rcases rl.get k with ⟨g1, g2⟩ | ⟨w, d', g1, g2, g3⟩
      · simp only [g2] at h1
        cases h1
      · simp only [g2] at h1
        split at h1
        · rename_i i j e1 e2
          cases e2
          have := of_decide_eq_true h1
          subst this
          cases r
          cases g3
          exact ⟨g1, rfl⟩
        · cases h1
    · exact dsame_ok rl t (fun q hq => h q (List.mem_cons_of_mem _ hq)) p hp
theorem op_dictRd {op : CmpOp} {k : Bool} (hop : (op = .Eq ∧ k = true) ∨ (op = .NotEq ∧ k = false)) (hu : X.A.units < cLine) : OpR X (compareOp op) (fun x y H Q => ∃ (a b : Addr) (ks ls : List (Key × V)), x = .ref a ∧ y = .ref b ∧ Rd H a (.dK ks) ∧ Rd H b (.dK ls) ∧ ks.length = ls.length ∧ (∀ p ∈ ks, valV ls p.1 = some p.2 ∧ flatB p.2 = true) ∧ Q (.bl k) H) := by
  intro pins s σ H x y v u Q I rx ry hh
  obtain ⟨a, b, ks, ls, rfl, rfl, ea, eb, hlen, hp, q⟩ := hh
  cases rx
  cases ry
  obtain ⟨z1, ya, va, ra, da⟩ := dk_obj I ea
  obtain ⟨z2, yb, vb, rb, db⟩ := dk_obj I eb
  have hl : va.length = vb.length := ra.length.symm.trans (hlen.trans rb.length)
  rcases hop with ⟨rfl, rfl⟩ | ⟨rfl, rfl⟩
  · exact PySem.W.keq_eq (knd := mixKind X.prog X.w) (r := true) ya yb da db hu (fun _ => hits_all rb ra hp) (fin_bl I q (by rw [hl]; simp))
  · exact PySem.W.keq_ne (knd := mixKind X.prog X.w) (r := true) ya yb da db hu (fun _ => hits_all rb ra hp) (fin_bl I q (by rw [hl]; simp))
theorem dd_parts {x y : D} {k : Bool} {b : Bool} {o : D → D → Option Bool} (ho : o = eqDD ∧ k = true ∨ o = neDD ∧ k = false) (h : o x y = some b) : b = k ∧ ∃ kds lds, x = .dict kds ∧ y = .dict lds ∧ notMk kds = true ∧ notMk lds = true ∧ dsame kds lds = true := by
  rcases ho with ⟨rfl, rfl⟩ | ⟨rfl, rfl⟩
  · unfold eqDD at h
    split at h
    · split at h
      · rename_i kds lds hc
        cases h
        simp only [Bool.and_eq_true] at hc
        exact ⟨rfl, kds, lds, rfl, rfl, hc.1, hc.2.1, hc.2.2⟩
      · cases h
    · cases h
  · unfold neDD at h
    split at h
    · split at h
      · rename_i kds lds hc
        cases h
        simp only [Bool.and_eq_true] at hc
        exact ⟨rfl, kds, lds, rfl, rfl, hc.1, hc.2.1, hc.2.2⟩
      · cases h
    · cases h
theorem ec_dict {op : CmpOp} {k : Bool} {o : D → D → Option Bool} (hop : (op = .Eq ∧ k = true) ∨ (op = .NotEq ∧ k = false)) (ho : o = eqDD ∧ k = true ∨ o = neDD ∧ k = false) (hu : X.A.units < cLine) (ha : EB X a f) (hb : EB X b g) : EC X op a b (b2 o f g) :=
  ⟨PC.imp (pc_op (op_dictRd hop hu) ha.pe hb.pe) fun σ H Q ⟨ρ, F, c, e, h, k'⟩ => by
    simp only [b2, Option.bind_eq_some_iff] at h
    obtain ⟨x, h1, y, h2, h3⟩ := h
    refine ⟨ρ, F, x, e, h1, fun u F1 H1 x1 r1 => ⟨ρ, F1, y, e.ext x1, h2, fun w F2 H2 x2 r2 => ?_⟩⟩
    obtain ⟨rfl, kds, lds, rfl, rfl, n1, n2, hs⟩ := dd_parts ho h3
    obtain ⟨p1, ks, rfl, q1, rk⟩ := (r1.ext x2).dictK x2.le n1
    obtain ⟨p2, ls, rfl, q2, rl⟩ := r2.dictK x2.le n2
    unfold dsame at hs
    rw [Bool.and_eq_true, List.all_eq_true] at hs
    exact ⟨p1, p2, ks, ls, rfl, rfl, q1, q2, by rw [rk.length, rl.length]; exact of_decide_eq_true hs.1, dsame_ok rl rk hs.2, k' F2 H2 (x1.trans x2)⟩⟩
theorem ec_eqDD (hu : X.A.units < cLine) (ha : EB X a f) (hb : EB X b g) : EC X .Eq a b (b2 eqDD f g) := ec_dict (.inl ⟨rfl, rfl⟩) (.inl ⟨rfl, rfl⟩) hu ha hb
theorem ec_neDD (hu : X.A.units < cLine) (ha : EB X a f) (hb : EB X b g) : EC X .NotEq a b (b2 neDD f g) := ec_dict (.inr ⟨rfl, rfl⟩) (.inr ⟨rfl, rfl⟩) hu ha hb
/-! ### dict([(k, v), ..]) -/
def dOf : List D → List (D × D) → Option (List (D × D))
  | [], acc => some acc
  | .tuple [k, v] :: r, acc => (keyOf k).bind fun _ => dOf r (dPut acc k v)
  | _, _ => none
def dictD : D → Option D | .list ds => (dOf ds []).bind fun kds => some (.dict kds) | _ => none
theorem dOf_ok {K : PySem.W.Frag} {F : Hp} : ∀ {ds : List D} {vs : List V} {acc out : List (D × D)} {kvs : List (Key × V)}, RpL K F ds vs → RpK K F acc kvs → dOf ds acc = some out →
    ∃ (ps : List Addr) (more : List (Key × V)), vs = ps.map V.ref ∧ Paired (fun (p : Addr) (kv : Key × V) => F p = some (.tup [kV kv.1, kv.2])) ps more ∧ RpK K F out (mergeK kvs more)
  | _, _, acc, out, kvs, .nil, ra, h => by
    cases h
    exact ⟨[], [], rfl, .nil, ra⟩
  | _, _, acc, out, kvs, .cons (d := d) (ds := ds) (v := v) r t, ra, h => by
    unfold dOf at h
    split at h
    · rename_i hx; cases hx
    · rename_i k w r' hx
      cases hx
      rw [Option.bind_eq_some_iff] at h
      obtain ⟨kk, h1, h2⟩ := h
      have ey := keyOf_eq h1
      subst ey
      cases r with
      | tup ha hr =>
        cases hr with
        | cons r1 hr =>
          cases hr with
          | cons r2 hr =>
            cases hr
            rename_i a v1 v2
            have ek : v1 = kV kk := by
              cases kk with
              | inl i => cases r1; rfl
              | inr i => cases r1; rfl
            subst ek
            obtain ⟨ps, more, e1, e2, e3⟩ := dOf_ok t (ra.put kk r2) h2
            exact ⟨a :: ps, (kk, v2) :: more, by rw [e1]; rfl, .cons ha e2, e3⟩
    · cases h
theorem paired_mono {α β : Type} {P Q : α → β → Prop} (h : ∀ a b, P a b → Q a b) : ∀ {as : List α} {bs : List β}, Paired P as bs → Paired Q as bs
  | _, _, .nil => .nil
  | _, _, .cons r t => .cons (h _ _ r) (paired_mono h t)
theorem en_dictP (hc : X.calm = true) (hg : Gl X "dict") (hm : X.mg "dict" = none) (ha : EB X a f) (hs : N1 X a) : EN X (.Call (.Name "dict" p) [a] [] pos) (d1 dictD f) :=
  en_c1 (pe_callTy (call_dictP hc) hg hm rfl (pa_cons ha.pe pa_nil hs) (by decide) (by decide) hs rfl) fun x u d F H Q e s ru k => by
    unfold dictD at e
    split at e
    · rw [Option.bind_eq_some_iff] at e
      obtain ⟨kds, h1, h2⟩ := e
      cases h2
      obtain ⟨q, xs, rfl, hq, rq⟩ := ru.list s
      obtain ⟨ps, more, rfl, e2, e3⟩ := dOf_ok rq .nil h1
      exact ⟨q, ps, more, rfl, .inl (.inl hq), paired_mono (fun p kv hp => .inl (.inl (s _ _ hp))) e2, fun p' hp => k p' _ hp (.dK e3)⟩
    · cases e
end
end Zx
/-! Zx16: xs[i] = v, list(x), list(range(n)). -/
namespace Zx
open PySem PySem.Spec L2
section
variable {X : Cx} {a b e : Expr} {f g fd : Den} {p apos cpos pos : Pos} {K : PySem.W.Frag} {F H : Hp}
/-! ### list(x) -/
def listD : D → Option D | .list xs => some (.list xs) | .tuple xs => some (.list xs) | _ => none
theorem en_listOf (hg : Gl X "list") (hm : X.mg "list" = none) (ha : EB X a f) (hs : N1 X a) : EN X (.Call (.Name "list" p) [a] [] pos) (d1 listD f) :=
  en_c1 (pe_callTy call_list_of hg hm rfl (pa_cons ha.pe pa_nil hs) (by decide) (by decide) hs rfl) fun x u d F H Q e s ru k => by
    unfold listD at e
    split at e
    · cases e
      obtain ⟨q, xs, rfl, hq, rq⟩ := ru.list s
      exact ⟨q, xs, rfl, .inl (.inl (.inl hq)), fun l hl => k l _ hl (.lst rq)⟩
    · cases e
      obtain ⟨q, xs, rfl, hq, rq⟩ := ru.tuple s
      exact ⟨q, xs, rfl, .inr (.inl (.inl hq)), fun l hl => k l _ hl (.lst rq)⟩
    · cases e
/-! ### list(range(n)) -/
def lrD : D → Option D | .int n => if -1000000 ≤ n ∧ n ≤ 1000000 then some (.list (rgL 0 n.toNat)) else none | _ => none
theorem rgL_rel (n : Nat) : RpL K F (rgL 0 n) ((List.range n).map fun i => V.int (0 + (i : Nat))) := by
  unfold rgL
  generalize List.range n = ns
  induction ns with
  | nil => exact .nil
  | cons i ns ih => exact .cons (.int _) ih
theorem en_listR1 {p2 pos2 : Pos} (hc : X.calm = true) (hg : Gl X "list") (hm : X.mg "list" = none) (hgr : Gl X "range") (hmr : X.mg "range" = none) (ha : EX X a f) (na : N1 X a)
    (nr : N1 X (.Call (.Name "range" p2) [a] [] pos2)) : EN X (.Call (.Name "list" p) [.Call (.Name "range" p2) [a] [] pos2] [] pos) (d1 lrD f) :=
  mkN (pe_listRg hc hg hm (prg_1 hgr hmr ha.pe na) nr) fun σ H Q ρ F d e h k => by
    simp only [d1, Option.bind_eq_some_iff] at h
    obtain ⟨x, h1, h2⟩ := h
    unfold lrD at h2
    split at h2
    · split at h2
      · rename_i n hn
        cases h2
        refine ⟨ρ, F, _, e, h1, fun v F1 H1 x1 r1 => ?_⟩
        have ey : v = V.int n := by cases r1; rfl
        refine ⟨n, ey, ⟨by omega, by omega, by omega, by omega, by omega⟩, fun w hw => ?_⟩
        refine k w _ F1 _ (x1.trans (.own x1.le hw)) (x1.le.free hw) (x1.h.free hw) upd_same (.lst ?_)
        have : rgV 0 n = (List.range n.toNat).map fun i => V.int (0 + (i : Nat)) := by
          unfold rgV
          rw [Int.sub_zero]
        rw [this]
        exact rgL_rel _
      · cases h2
    · cases h2
end
end Zx
/-! Zx17: zip of a tuple and a list (any two of both). -/
namespace Zx
open PySem PySem.Spec PyProof.Rows L2
/-- an iterator at `it` over the items xs kept at l; S k h: it stands at k in the heap h -/
structure Itr (P : Program) (w : World) (it l : Addr) (xs : Array Value) (S : Nat → Heap → Prop) : Prop where
  item : ∀ {A : Around} {E : Value → Shared → Prop} {s : Shared} {k : Nat} {x : Value} {Q : Value → Shared → Prop}, S k s.heap → xs[k]? = some x →
    (∀ h', S (k + 1) h' → Heap.SameBut it s.heap h' → Q x { s with heap := h' }) → wpAny (model P w) A (Builtin.SmallTypes.nextOf (.ref it)) Q E s
  stop : ∀ {A : Around} {E : Value → Shared → Prop} {s : Shared} {k : Nat} {Q : Value → Shared → Prop}, A.handled = none → S k s.heap → xs[k]? = none →
    (∀ h' e, Heap.ExtBut it s.heap h' → (∃ o, h'.get? e = some o ∧ o.cls = .type "StopIteration") → E (.ref e) { s with heap := h' }) → wpAny (model P w) A (Builtin.SmallTypes.nextOf (.ref it)) Q E s
  ext : ∀ {k : Nat} {h h' : Heap} {c : Addr}, S k h → Heap.ExtBut c h h' → it ≠ c → l ≠ c → S k h'
theorem itr_list {P : Program} {w : World} {it l : Addr} {xs : Array Value} (hne : l ≠ it) : Itr P w it l xs fun k h => h.IsListIter it l k ∧ h.IsList l xs where
  item := fun st hx hQ => PySem.wpAny_nextOf_list_item st.1 st.2 hx fun h' h1 hs => hQ h' ⟨h1, st.2.extBut hs.extBut hne⟩ hs
  stop := fun hh st hx hE => PySem.wpAny_nextOf_list_end hh st.1 st.2 hx hE
  ext := fun st hs h1 h2 => ⟨st.1.extBut hs h1, st.2.extBut hs h2⟩
theorem itr_tup {P : Program} {w : World} {it l : Addr} {xs : Array Value} (hne : l ≠ it) : Itr P w it l xs fun k h => h.IsTupleIter it l k ∧ h.IsTuple l xs where
  item := fun st hx hQ => RZ.nextOf_tuple_item st.1 st.2 hx fun h' h1 hs => hQ h' ⟨h1, st.2.extBut hs.extBut hne⟩ hs
  stop := fun hh st hx hE => RZ.nextOf_tuple_end hh st.1 st.2 hx hE
  ext := fun st hs h1 h2 => ⟨st.1.extBut hs h1, st.2.extBut hs h2⟩
section
variable {prog : Program} {w : World} {A : Around} {E : Value → Shared → Prop} {s : Shared} {z TI TO i1 i2 l1 l2 : Addr} {k : Nat} {xs ys : Array Value} {a b : Value} {S1 S2 : Nat → Heap → Prop}
theorem zipG_item {x y : Value} {Q : Value → Shared → Prop} (D : ZipApart z TI TO i1 i2 l1 l2) (J1 : Itr prog w i1 l1 xs S1) (J2 : Itr prog w i2 l2 ys S2)
    (hz : IsZip s.heap z TI TO .none) (hTI : IsPair s.heap TI (.ref i1) (.ref i2)) (hTO : IsPair s.heap TO a b) (h1 : S1 k s.heap) (h2 : S2 k s.heap) (hx : xs[k]? = some x) (hy : ys[k]? = some y)
    (hl1 : l1 < s.heap.objs.size) (hl2 : l2 < s.heap.objs.size) (hi1 : i1 < s.heap.objs.size) (hi2 : i2 < s.heap.objs.size)
    (hQ : ∀ h', IsZip h' z TI TO (rawInt s.heap.objs.size) → IsPair h' TO x y → S1 (k + 1) h' → S2 (k + 1) h' → IsPair h' s.heap.objs.size x y → h'.objs.size = s.heap.objs.size + 1 →
      (∀ c o, c ≠ z → c ≠ TO → c ≠ i1 → c ≠ i2 → s.heap.get? c = some o → h'.get? c = some o) → Q (.ref s.heap.objs.size) { s with heap := h' }) :
    wpAny (model prog w) A (Builtin.«zip.__next__» ⟨[.ref z], []⟩) (fun fin s' => ∃ v, fin = .done (.ret v) ∧ Q v s') E s := by
  have hzs : z < s.heap.objs.size := Heap.lt_size hz
  have hTOs : TO < s.heap.objs.size := Heap.lt_size hTO
  show wpAny _ _ (field (.ref z) 2 >>= _) _ _ _
  refine wpAny_bind (wpAny_field hz rfl (x := .bool false) rfl ?_)
  show wpAny _ _ (field (.ref z) 3 >>= _) _ _ _
  refine wpAny_bind (wpAny_field hz rfl (x := .ref TI) rfl (wpAny_bind (wpAny_seqItems hTI rfl ?_)))
  show wpAny _ _ (Builtin.SmallTypes.ownedTupleIsFree (.ref z) >>= _) _ _ _
  refine wpAny_bind ?_
  unfold Builtin.SmallTypes.ownedTupleIsFree
  refine wpAny_bind (wpAny_field hz rfl (x := .none) rfl (wpAny_pure ?_))
  simp only [if_true]
  refine wpAny_bind (wpAny_rule (wpAny_bind (wpAny_field hz rfl (x := .ref TO) rfl ?_)))
  refine wpAny_bind (wpAny_setField_rec hz (by simp) fun g1 z1 s1 => ?_)
  replace z1 : IsZip g1 z TI TO .ellipsis := z1
  refine wpAny_bind ?_
  simp only [List.zipIdx_cons, List.zipIdx_nil, List.forIn_cons, List.forIn_nil]
  refine wpAny_bind (wpAny_bind (wpAny_onRaise ?_))
  show wpAny _ _ (Builtin.SmallTypes.nextOf (.ref i1) >>= _) _ _ _
  refine wpAny_bind (J1.item (J1.ext h1 s1.extBut D.i1z D.l1z) hx fun g2 a2 s2 => wpAny_pure ?_)
  have t2 : IsPair g2 TO a b := s2.extBut _ _ D.TOi1 (s1.extBut _ _ D.TOz hTO)
  refine wpAny_bind (wpAny_seqItems t2 rfl (wpAny_bind (wpAny_updateSeq_pair t2 fun g3 t3 s3 => ?_)))
  replace t3 : IsPair g3 TO x b := t3
  refine wpAny_bind (wpAny_letGo (wpAny_pure ?_))
  refine wpAny_bind (wpAny_bind (wpAny_onRaise ?_))
  show wpAny _ _ (Builtin.SmallTypes.nextOf (.ref i2) >>= _) _ _ _
  refine wpAny_bind (J2.item (J2.ext (J2.ext (J2.ext h2 s1.extBut D.i2z D.l2z) s2.extBut D.i12.symm D.l2i1) s3.extBut D.TOi2.symm D.l2TO) hy fun g4 a4 s4 => wpAny_pure ?_)
  have t4 : IsPair g4 TO x b := s4.extBut _ _ D.TOi2 t3
  refine wpAny_bind (wpAny_seqItems t4 rfl (wpAny_bind (wpAny_updateSeq_pair t4 fun g5 t5 s5 => ?_)))
  replace t5 : IsPair g5 TO x y := t5
  refine wpAny_bind (wpAny_letGo (wpAny_pure (wpAny_pure ?_)))
  refine wpAny_bind (wpAny_seqItems t5 rfl (wpAny_bind (wpAny_newTuple ?_)))
  have sz : g5.objs.size = s.heap.objs.size := by rw [s5.1, s4.1, s3.1, s2.1, s1.1]
  have z5 : IsZip g5 z TI TO .ellipsis := s5.extBut _ _ D.TOz.symm (s4.extBut _ _ D.i2z.symm (s3.extBut _ _ D.TOz.symm (s2.extBut _ _ D.i1z.symm z1)))
  have k5 : ∀ c o, c ≠ z → c ≠ TO → c ≠ i1 → c ≠ i2 → s.heap.get? c = some o → g5.get? c = some o := fun c o c1 c2 c3 c4 e =>
    s5.extBut _ _ c2 (s4.extBut _ _ c4 (s3.extBut _ _ c2 (s2.extBut _ _ c3 (s1.extBut _ _ c1 e))))
  have a5 : S1 (k + 1) g5 := J1.ext (J1.ext (J1.ext a2 s3.extBut D.TOi1.symm D.l1TO) s4.extBut D.i12 D.l1i2) s5.extBut D.TOi1.symm D.l1TO
  have b5 : S2 (k + 1) g5 := J2.ext a4 s5.extBut D.TOi2.symm D.l2TO
  show wpAny _ _ (Builtin.SmallTypes.ownedTupleHandOut (.ref z) (.ref g5.objs.size) >>= _) _ _ _
  refine wpAny_bind ?_
  unfold Builtin.SmallTypes.ownedTupleHandOut
  have z6 : IsZip (g5.push { cls := .type "tuple", data := .seq #[x, y] }) z TI TO .ellipsis := Heap.get?_push_of_some _ z5
  refine wpAny_bind (wpAny_setField_rec z6 (by simp) fun g7 z7 s7 => ?_)
  replace z7 : IsZip g7 z TI TO (rawInt g5.objs.size) := z7
  refine wpAny_setField_rec z7 (by simp) fun g8 z8 s8 => ?_
  replace z8 : IsZip g8 z TI TO (rawInt g5.objs.size) := z8
  have e6 : ∀ c : Addr, Heap.ExtBut c g5 (g5.push { cls := .type "tuple", data := .seq #[x, y] }) := fun c d o _ q => Heap.get?_push_of_some _ q
  have up : ∀ c o, c ≠ z → g5.get? c = some o → g8.get? c = some o := fun c o c1 q => s8.extBut _ _ c1 (s7.extBut _ _ c1 (Heap.get?_push_of_some _ q))
  have t8 : IsPair g8 g5.objs.size x y := s8.extBut _ _ (by rw [sz]; exact Nat.ne_of_gt hzs) (s7.extBut _ _ (by rw [sz]; exact Nat.ne_of_gt hzs) (Heap.get?_push_size _ rfl))
  have z8s : g8.objs.size = g5.objs.size + 1 := by rw [s8.1, s7.1, Heap.size_push]
  have a8 : S1 (k + 1) g8 := J1.ext (J1.ext (J1.ext a5 (e6 z) D.i1z D.l1z) s7.extBut D.i1z D.l1z) s8.extBut D.i1z D.l1z
  have b8 : S2 (k + 1) g8 := J2.ext (J2.ext (J2.ext b5 (e6 z) D.i2z D.l2z) s7.extBut D.i2z D.l2z) s8.extBut D.i2z D.l2z
  rw [sz] at z8 t8 z8s
  refine wpAny_pure ⟨_, rfl, ?_⟩
  show Q (.ref g5.objs.size) _
  rw [sz]
  exact hQ g8 z8 (up _ _ D.TOz t5) a8 b8 t8 z8s fun c o c1 c2 c3 c4 q => up c o c1 (k5 c o c1 c2 c3 c4 q)
theorem zipG_stop {Q : PySem.Fin → Shared → Prop} (hh : A.handled = none) (D : ZipApart z TI TO i1 i2 l1 l2) (J1 : Itr prog w i1 l1 xs S1) (J2 : Itr prog w i2 l2 ys S2)
    (hz : IsZip s.heap z TI TO .none) (hTI : IsPair s.heap TI (.ref i1) (.ref i2)) (hTO : IsPair s.heap TO a b) (h1 : S1 k s.heap) (h2 : S2 k s.heap) (hend : xs[k]? = none ∨ ys[k]? = none)
    (hE : ∀ h' e, (∀ c o, c ≠ z → c ≠ TO → c ≠ i1 → c ≠ i2 → s.heap.get? c = some o → h'.get? c = some o) → (∃ o, h'.get? e = some o ∧ o.cls = .type "StopIteration") → E (.ref e) { s with heap := h' }) :
    wpAny (model prog w) A (Builtin.«zip.__next__» ⟨[.ref z], []⟩) Q E s := by
  show wpAny _ _ (field (.ref z) 2 >>= _) _ _ _
  refine wpAny_bind (wpAny_field hz rfl (x := .bool false) rfl ?_)
  show wpAny _ _ (field (.ref z) 3 >>= _) _ _ _
  refine wpAny_bind (wpAny_field hz rfl (x := .ref TI) rfl (wpAny_bind (wpAny_seqItems hTI rfl ?_)))
  show wpAny _ _ (Builtin.SmallTypes.ownedTupleIsFree (.ref z) >>= _) _ _ _
  refine wpAny_bind ?_
  unfold Builtin.SmallTypes.ownedTupleIsFree
  refine wpAny_bind (wpAny_field hz rfl (x := .none) rfl (wpAny_pure ?_))
  simp only [if_true]
  refine wpAny_bind (wpAny_rule (wpAny_bind (wpAny_field hz rfl (x := .ref TO) rfl ?_)))
  refine wpAny_bind (wpAny_setField_rec hz (by simp) fun g1 z1 s1 => ?_)
  replace z1 : IsZip g1 z TI TO .ellipsis := z1
  refine wpAny_bind ?_
  simp only [List.zipIdx_cons, List.zipIdx_nil, List.forIn_cons, List.forIn_nil]
  refine wpAny_bind (wpAny_bind (wpAny_onRaise ?_))
  show wpAny _ _ (Builtin.SmallTypes.nextOf (.ref i1) >>= _) _ _ _
  cases hx : xs[k]? with
  | none =>
    refine wpAny_bind (J1.stop hh (J1.ext h1 s1.extBut D.i1z D.l1z) hx fun g2 e s2 he => ?_)
    obtain ⟨oe, hoe, hce⟩ := he
    have z2 : IsZip g2 z TI TO .ellipsis := s2 _ _ D.i1z.symm z1
    have hez : e ≠ z := fun q => by subst q; rw [z2] at hoe; cases hoe; simp at hce
    refine wpAny_setField_rec z2 (by simp) fun g3 _ s3 => hE g3 e (fun c o c1 _ c3 _ q => s3.extBut _ _ c1 (s2 _ _ c3 (s1.extBut _ _ c1 q))) ⟨oe, s3.extBut _ _ hez hoe, hce⟩
  | some x =>
    have hy : ys[k]? = none := by
      rcases hend with q | q
      · rw [hx] at q; cases q
      · exact q
    refine wpAny_bind (J1.item (J1.ext h1 s1.extBut D.i1z D.l1z) hx fun g2 a2 s2 => wpAny_pure ?_)
    have t2 : IsPair g2 TO a b := s2.extBut _ _ D.TOi1 (s1.extBut _ _ D.TOz hTO)
    refine wpAny_bind (wpAny_seqItems t2 rfl (wpAny_bind (wpAny_updateSeq_pair t2 fun g3 t3 s3 => ?_)))
    refine wpAny_bind (wpAny_letGo (wpAny_pure ?_))
    refine wpAny_bind (wpAny_bind (wpAny_onRaise ?_))
    show wpAny _ _ (Builtin.SmallTypes.nextOf (.ref i2) >>= _) _ _ _
    refine wpAny_bind (J2.stop hh (J2.ext (J2.ext (J2.ext h2 s1.extBut D.i2z D.l2z) s2.extBut D.i12.symm D.l2i1) s3.extBut D.TOi2.symm D.l2TO) hy fun g4 e s4 he => ?_)
    obtain ⟨oe, hoe, hce⟩ := he
    have z4 : IsZip g4 z TI TO .ellipsis := s4 _ _ D.i2z.symm (s3.extBut _ _ D.TOz.symm (s2.extBut _ _ D.i1z.symm z1))
    have hez : e ≠ z := fun q => by subst q; rw [z4] at hoe; cases hoe; simp at hce
    refine wpAny_setField_rec z4 (by simp) fun g5 _ s5 => hE g5 e (fun c o c1 c2 c3 c4 q => s5.extBut _ _ c1 (s4 _ _ c4 (s3.extBut _ _ c2 (s2.extBut _ _ c3 (s1.extBut _ _ c1 q))))) ⟨oe, s5.extBut _ _ hez hoe, hce⟩
end
end Zx
/-! Zx18: zip(t, l), t a tuple, l a list: the call, the walk, the rule. -/
namespace Zx
open PySem PySem.Spec PyProof.Rows L2
section
variable {prog : Program} {w : World} {A : Around} {E : Value → Shared → Prop} {s : Shared} {z TI TO i1 i2 l1 l2 : Addr} {k : Nat} {xs ys : Array Value} {a b : Value} {S1 S2 : Nat → Heap → Prop}
theorem pyNextG_item {x y : Value} {Q : Option Value → Shared → Prop} (D : ZipApart z TI TO i1 i2 l1 l2) (J1 : Itr prog w i1 l1 xs S1) (J2 : Itr prog w i2 l2 ys S2)
    (hz : IsZip s.heap z TI TO .none) (hTI : IsPair s.heap TI (.ref i1) (.ref i2)) (hTO : IsPair s.heap TO a b) (h1 : S1 k s.heap) (h2 : S2 k s.heap) (hx : xs[k]? = some x) (hy : ys[k]? = some y)
    (hl1 : l1 < s.heap.objs.size) (hl2 : l2 < s.heap.objs.size) (hi1 : i1 < s.heap.objs.size) (hi2 : i2 < s.heap.objs.size)
    (hQ : ∀ h', IsZip h' z TI TO (rawInt s.heap.objs.size) → IsPair h' TO x y → S1 (k + 1) h' → S2 (k + 1) h' → IsPair h' s.heap.objs.size x y → h'.objs.size = s.heap.objs.size + 1 →
      (∀ c o, c ≠ z → c ≠ TO → c ≠ i1 → c ≠ i2 → s.heap.get? c = some o → h'.get? c = some o) → Q (some (.ref s.heap.objs.size)) { s with heap := h' }) :
    wpAny (model prog w) A (pyNext (.ref z)) Q E s := by
  have hT : s.TypeIs (.ref z) "zip" := ⟨_, hz, rfl⟩
  unfold pyNext
  exact wpAny_bind (wpAny_attempt (wpAny_callSpecial?_slot (name := Str.ofString "__next__") hT PySem.F.slot_zip_next
    (wpAny_call_entry PySem.F.slot_zip_next hT PySem.F.entry_zip_next
      (zipG_item D J1 J2 hz hTI hTO h1 h2 hx hy hl1 hl2 hi1 hi2 fun h' a1 a2 a3 a4 a5 a6 a7 => wpAny_pure (hQ h' a1 a2 a3 a4 a5 a6 a7)) (PySem.F.args_zip_next_1 _))))
theorem pyNextG_stop {Q : Option Value → Shared → Prop} (hh : A.handled = none) (D : ZipApart z TI TO i1 i2 l1 l2) (J1 : Itr prog w i1 l1 xs S1) (J2 : Itr prog w i2 l2 ys S2)
    (hz : IsZip s.heap z TI TO .none) (hTI : IsPair s.heap TI (.ref i1) (.ref i2)) (hTO : IsPair s.heap TO a b) (h1 : S1 k s.heap) (h2 : S2 k s.heap) (hend : xs[k]? = none ∨ ys[k]? = none)
    (hQ : ∀ h', (∀ c o, c ≠ z → c ≠ TO → c ≠ i1 → c ≠ i2 → s.heap.get? c = some o → h'.get? c = some o) → Q none { s with heap := h' }) : wpAny (model prog w) A (pyNext (.ref z)) Q E s := by
  have hT : s.TypeIs (.ref z) "zip" := ⟨_, hz, rfl⟩
  unfold pyNext
  refine wpAny_bind (wpAny_attempt (wpAny_callSpecial?_slot (name := Str.ofString "__next__") hT PySem.F.slot_zip_next
    (wpAny_call_entry PySem.F.slot_zip_next hT PySem.F.entry_zip_next (zipG_stop hh D J1 J2 hz hTI hTO h1 h2 hend fun h' e hk he => ?_) (PySem.F.args_zip_next_1 _))))
  obtain ⟨o, ho, hc⟩ := he
  refine wpAny_bind (wpAny_isInstance (T := "StopIteration") (b := true) ⟨o, ho, hc⟩ isSubtype_stop ?_)
  exact wpAny_pure (hQ _ hk)
end
/-- the tuple at a and the list at b as they stand at each turn, the items in new pairs -/
def ItzM (K : PySem.W.Frag) (a b : Addr) : It :=
  ⟨fun i H => ∃ (xs ys : List V) (x y : V), SqT K H a xs ∧ SqL K H b ys ∧ xs[i]? = some x ∧ ys[i]? = some y,
    fun i H v H' => ∃ T x y, v = .ref T ∧ H T = none ∧ H' = upd H T (.tup [x, y]) ∧ (∀ xs, SqT K H a xs → xs[i]? = some x) ∧ ∀ ys, SqL K H b ys → ys[i]? = some y,
    fun i H => ∃ xs ys : List V, SqT K H a xs ∧ SqL K H b ys ∧ (xs.length ≤ i ∨ ys.length ≤ i)⟩
theorem among5 {c z TI TO i1 i2 : Addr} (h : c ∈ [z, TI, TO, i1, i2]) : c = z ∨ c = TI ∨ c = TO ∨ c = i1 ∨ c = i2 := by simpa using h
theorem turn_zipM {P : Program} {w : World} {K : PySem.W.Frag} {elts : List Expr} {kk : Nat} {tpos : Pos} {a b z TI TO i1 i2 : Addr} (D : ZipApart z TI TO i1 i2 a b) :
    Turn P w K (.Tuple elts kk tpos) (ItzM K a b) [z, TI, TO, i1, i2] z (fun i h => IsZip h z TI TO .none ∧ IsPair h TI (.ref i1) (.ref i2) ∧ (∃ x y, IsPair h TO x y) ∧ h.IsTupleIter i1 a i ∧ h.IsListIter i2 b i) where
  mem := by simp
  obj := fun i h st c hc => by
    obtain ⟨hz, hTI, ⟨x, y, hTO⟩, ⟨o1, e1, _, d1⟩, ⟨o2, e2, _, d2⟩⟩ := st
    rcases among5 hc with rfl | rfl | rfl | rfl | rfl
    · exact ⟨_, hz, fun v q => nomatch q⟩
    · exact ⟨_, hTI, fun v q => nomatch q⟩
    · exact ⟨_, hTO, fun v q => nomatch q⟩
    · exact ⟨o1, e1, fun v q => by rw [d1] at q; cases q⟩
    · exact ⟨o2, e2, fun v q => by rw [d2] at q; cases q⟩
  keep := fun i h h' st k => by
    obtain ⟨hz, hTI, ⟨x, y, hTO⟩, h1, h2⟩ := st
    exact ⟨k z (by simp) _ hz, k TI (by simp) _ hTI, ⟨x, y, k TO (by simp) _ hTO⟩, h1.at fun o q => k i1 (by simp) o q, h2.at fun o q => k i2 (by simp) o q⟩
  item := by
    intro X hP hw hK hc i pins s σ H E I hf st hg
    subst hP hw hK
    obtain ⟨hz, hTI, ⟨x0, y0, hTO⟩, h1, h2⟩ := st
    obtain ⟨xs, ys, x, y, hqx, hqy, hx, hy⟩ := hg
    obtain ⟨its, rv, p, _⟩ := I.tuple hqx
    obtain ⟨its2, rv2, p2, _⟩ := I.list hqy
    obtain ⟨u, hu, ru⟩ := rv.get hx
    obtain ⟨u2, hu2, ru2⟩ := rv2.get hy
    have hzl : z < s.heap.objs.size := Heap.lt_size hz
    have hl1 : a < s.heap.objs.size := by obtain ⟨o, ho, _⟩ := id p; exact Heap.lt_size ho
    have hi1 : i1 < s.heap.objs.size := by obtain ⟨o, ho, _⟩ := id h1; exact Heap.lt_size ho
    have hi2 : i2 < s.heap.objs.size := by obtain ⟨o, ho, _⟩ := id h2; exact Heap.lt_size ho
    refine pyNextG_item (x := u) (y := u2) D (itr_tup (xs := its.toArray) D.l1i1) (itr_list (xs := its2.toArray) D.l2i2) hz hTI hTO ⟨h1, p⟩ ⟨h2, p2.isList⟩ (by simpa using hu) (by simpa using hu2) hl1 p2.lt hi1 hi2 fun h' z' TO' h1' h2' hT hsz hk => ?_
    refine ⟨_, rfl, wpAny_letOwnedTupleGo_zip (s := { s with heap := h' }) z' fun h'' z'' sb => ?_⟩
    have hT2 : h''.get? s.heap.objs.size = some { cls := .type "tuple", data := .seq #[u, u2] } := (sb.2 _ (Nat.ne_of_gt hzl)).trans hT
    have new : ObjOk X.prog X.w (upd H s.heap.objs.size (.tup [x, y])) h'' s.heap.objs.size (.tup [x, y]) :=
      ⟨by show 2 ≤ sizeLine; decide, [u, u2], .cons ru (.cons ru2 .nil), ⟨_, hT2, rfl, _, rfl⟩⟩
    have I1 : Inv X pins σ (upd H s.heap.objs.size (.tup [x, y])) { s with heap := h'' } :=
      I.turnedNew (t' := s.toks) (ch := [z, TI, TO, i1, i2]) (fun c o hb q => (sb.2 c (fun q' => hb (by simp [q']))).trans (hk c o (fun q' => hb (by simp [q'])) (fun q' => hb (by simp [q'])) (fun q' => hb (by simp [q'])) (fun q' => hb (by simp [q'])) q)) hf (Nat.le_refl _) new
    refine ⟨.ref s.heap.objs.size, _, I1, rfl, ⟨_, x, y, rfl, I.hok.fresh (Nat.le_refl _), rfl, fun l hl => by rw [I.tuple_inj hl hqx]; exact hx, fun l hl => by rw [I.list_inj hl hqy]; exact hy⟩, ⟨z'', ?_, ⟨u, u2, ?_⟩, ?_, ?_⟩, fun c hcm => ?_⟩
    · exact (sb.2 _ D.TIz).trans (hk _ _ D.TIz D.TITO D.TIi1 D.TIi2 hTI)
    · exact (sb.2 _ D.TOz).trans TO'
    · exact h1'.1.at fun o q => (sb.2 _ D.i1z).trans q
    · exact h2'.1.at fun o q => (sb.2 _ D.i2z).trans q
    · have hlt : c < s.heap.objs.size := by
        rcases among5 hcm with rfl | rfl | rfl | rfl | rfl
        · exact hzl
        · exact Heap.lt_size hTI
        · exact Heap.lt_size hTO
        · exact hi1
        · exact hi2
      rw [upd_ne (Nat.ne_of_lt hlt)]
      exact (hf c hcm).1
  done := by
    intro X hP hw hK hc i pins s σ H E I hf st hg
    subst hP hw hK
    obtain ⟨hz, hTI, ⟨x0, y0, hTO⟩, h1, h2⟩ := st
    obtain ⟨xs, ys, hqx, hqy, hend⟩ := hg
    obtain ⟨its, rv, p, _⟩ := I.tuple hqx
    obtain ⟨its2, rv2, p2, _⟩ := I.list hqy
    have l1 := rv.length
    have l2 := rv2.length
    have he : its.toArray[i]? = none ∨ its2.toArray[i]? = none := by
      rcases hend with q | q
      · exact .inl (by simp; omega)
      · exact .inr (by simp; omega)
    exact pyNextG_stop (I.ok.hd hc) D (itr_tup (xs := its.toArray) D.l1i1) (itr_list (xs := its2.toArray) D.l2i2) hz hTI hTO ⟨h1, p⟩ ⟨h2, p2.isList⟩ he fun h' hk => ⟨rfl, I.turnedL (t' := s.toks) (ch := [z, TI, TO, i1, i2]) (fun c o hb q =>
      hk c o (fun q' => hb (by simp [q'])) (fun q' => hb (by simp [q'])) (fun q' => hb (by simp [q'])) (fun q' => hb (by simp [q'])) q) hf⟩
  self := fun A i s Q E st h => wpAny_pyIter_zip st.1 h
/-! ### the call -/
abbrev zmA (h : Heap) (l1 : Addr) : Heap := h.push { cls := .type "tuple_iterator", data := .fields #[.ref l1, .int 0 0] }
abbrev zmB (h : Heap) (l1 l2 : Addr) : Heap := (zmA h l1).push { cls := .type "list_iterator", data := .fields #[.ref l2, .int 0 0] }
abbrev zmC (h : Heap) (l1 l2 : Addr) : Heap := (zmB h l1 l2).push { cls := .type "tuple", data := .seq #[.ref h.objs.size, .ref (zmA h l1).objs.size] }
abbrev zmD (h : Heap) (l1 l2 : Addr) : Heap := (zmC h l1 l2).push { cls := .type "tuple", data := .seq #[.none, .none] }
abbrev zmE (h : Heap) (l1 l2 : Addr) : Heap := (zmD h l1 l2).push { cls := .type "zip", data := .fields #[.none, .bool false, .bool false, .ref (zmB h l1 l2).objs.size, .ref (zmC h l1 l2).objs.size] }
theorem meets_zipM (l1 l2 : Addr) (xs ys : Array Value) :
    Meets (Builtin.«zip.__new__» ⟨[.type "zip", .ref l1, .ref l2], []⟩) (fun _ R s => s.heap.IsTuple l1 xs ∧ s.heap.IsList l2 ys ∧
      R (.ok (.ret (.ref (zmD s.heap l1 l2).objs.size))) { s with heap := zmE s.heap l1 l2 }) :=
  .of_wp fun prog w A R s h => by
    obtain ⟨hp, g, d, tk, os⟩ := s; obtain ⟨hl1, hl2, h⟩ := h
    have hsub := PySem.sub_zip
    have hL1 : Heap.IsTuple (Shared.heap ⟨hp, g, d, tk, os⟩) l1 xs := hl1
    have hL2 : Heap.IsList (Shared.heap ⟨hp.push { cls := .type "tuple_iterator", data := .fields #[.ref l1, .int 0 0] }, g, d, tk, os⟩) l2 ys := Heap.IsList.push hl2 _
    wp_walk using wpAny_pyIter_tuple hL1, wpAny_pyIter_list hL2
    exact ⟨_, rfl, h⟩
theorem call_zipM {prog : Program} {w : World} {A : Around} {E : Value → Shared → Prop} {s : Shared} {l1 l2 : Addr} {xs ys : Array Value} {Q : Value → Shared → Prop} (hl1 : s.heap.IsTuple l1 xs) (hl2 : s.heap.IsList l2 ys)
    (h : ∀ h', IsZip h' (s.heap.objs.size + 4) (s.heap.objs.size + 2) (s.heap.objs.size + 3) .none → IsPair h' (s.heap.objs.size + 2) (.ref s.heap.objs.size) (.ref (s.heap.objs.size + 1)) →
      IsPair h' (s.heap.objs.size + 3) .none .none → h'.IsTupleIter s.heap.objs.size l1 0 → h'.IsListIter (s.heap.objs.size + 1) l2 0 → h'.objs.size = s.heap.objs.size + 5 →
      (∀ c o, s.heap.get? c = some o → h'.get? c = some o) → Q (.ref (s.heap.objs.size + 4)) { s with heap := h' }) :
    wpAny (model prog w) A (call (.type "zip") [.ref l1, .ref l2]) Q E s := by
  refine callType_new PySem.F.called_zip (by decide) (PySem.F.typeCall_zip_2 _ _) (PySem.F.newCall_zip_2 _ _) (fun obj => PySem.F.args_object_init_3 obj _ _) PySem.F.entry_zip_new
    (meets_zipM l1 l2 xs ys) ⟨hl1, hl2, ?_⟩
  have y1 : (zmA s.heap l1).objs.size = s.heap.objs.size + 1 := Heap.size_push ..
  have y2 : (zmB s.heap l1 l2).objs.size = s.heap.objs.size + 2 := by rw [Heap.size_push, y1]
  have y3 : (zmC s.heap l1 l2).objs.size = s.heap.objs.size + 3 := by rw [Heap.size_push, y2]
  have y4 : (zmD s.heap l1 l2).objs.size = s.heap.objs.size + 4 := by rw [Heap.size_push, y3]
  have y5 : (zmE s.heap l1 l2).objs.size = s.heap.objs.size + 5 := by rw [Heap.size_push, y4]
  have g5 : (zmE s.heap l1 l2).get? (zmD s.heap l1 l2).objs.size = some _ := Heap.get?_push_size _ rfl
  have g4 : (zmE s.heap l1 l2).get? (zmC s.heap l1 l2).objs.size = some _ := Heap.get?_push_of_some _ (Heap.get?_push_size _ rfl)
  have g3 : (zmE s.heap l1 l2).get? (zmB s.heap l1 l2).objs.size = some _ := Heap.get?_push_of_some _ (Heap.get?_push_of_some _ (Heap.get?_push_size _ rfl))
  have g2 : (zmE s.heap l1 l2).get? (zmA s.heap l1).objs.size = some _ := Heap.get?_push_of_some _ (Heap.get?_push_of_some _ (Heap.get?_push_of_some _ (Heap.get?_push_size _ rfl)))
  have g1 : (zmE s.heap l1 l2).get? s.heap.objs.size = some _ := Heap.get?_push_of_some _ (Heap.get?_push_of_some _ (Heap.get?_push_of_some _ (Heap.get?_push_of_some _ (Heap.get?_push_size _ rfl))))
  show _ ∧ _
  rw [y2, y3, y4] at g5
  rw [y1, y2] at g3
  rw [y3] at g4
  rw [y1] at g2
  rw [y4]
  exact ⟨⟨_, g5, rfl⟩, h _ g5 g3 g4 ⟨_, g1, rfl, rfl⟩ ⟨_, g2, rfl, rfl⟩ y5 fun c o x =>
    Heap.get?_push_of_some _ (Heap.get?_push_of_some _ (Heap.get?_push_of_some _ (Heap.get?_push_of_some _ (Heap.get?_push_of_some _ x))))⟩
def iZipX (K : PySem.W.Frag) (ta : TA) : TI := fun σ H R => ta σ H fun vs H1 => ∃ a b xs ys, vs = [.ref a, .ref b] ∧ ((SqL K H1 a xs ∧ SqL K H1 b ys ∧ R (Itz K a b) H1) ∨ (SqT K H1 a xs ∧ SqL K H1 b ys ∧ R (ItzM K a b) H1))
theorem pi_zipX {X : Cx} {e e2 : Expr} {ta : TA} {p pos tpos : Pos} {elts : List Expr} {kk : Nat} (hg : Gl X "zip") (hm : X.mg "zip" = none) (ha : PA X [e, e2] ta)
    (hs : starEach [e, e2] X.env = (false, eval e X.env) :: starEach [e2] X.env := by rfl) (hpl : (backTo pos (starEach [e2] X.env)).any (·.1) = false := by rfl) :
    PI X (.Tuple elts kk tpos) (.Call (.Name "zip" p) [e, e2] [] pos) (iZipX X.K ta) := by
  refine ⟨fun pins s σ H R I h => ?_⟩
  refine Call_ (ld_blt I hg hm PyProof.Rows.boot_zip (PyProof.Rows.callWith_type1 (thn (ha.run pos pins s σ H _ I h) fun us s1 ⟨vs, H1, I1, r1, q1⟩ => ?_) hs hpl))
  obtain ⟨a, b, xs, ys, ex, q1⟩ := q1
  subst ex
  cases r1 with
  | cons r rr =>
    cases rr with
    | cons r' rr =>
      cases rr
      cases r
      cases r'
      have fresh5 : ∀ c, c ∈ [s1.heap.objs.size + 4, s1.heap.objs.size + 2, s1.heap.objs.size + 3, s1.heap.objs.size, s1.heap.objs.size + 1] → FpOk X pins H1 c := fun c hcm => by
        have hle : s1.heap.objs.size ≤ c := by
          rcases among5 hcm with z | z | z | z | z <;> rw [z]
          · exact Nat.le_add_right _ _
          · exact Nat.le_add_right _ _
          · exact Nat.le_add_right _ _
          · exact Nat.le_refl _
          · exact Nat.le_add_right _ _
        exact I1.fpOk hle (I1.hok.fresh hle)
      rcases q1 with ⟨hqx, hqy, q⟩ | ⟨hqx, hqy, q⟩
      · obtain ⟨its, rv, p1, _⟩ := I1.list hqx
        obtain ⟨its2, rv2, p2, _⟩ := I1.list hqy
        refine call_zip_2 p1.isList p2.isList fun h' hz hTI hTO h1 h2 hsz hk => wpAny_pyIter_zip hz ?_
        have I2 : Inv X pins σ H1 { s1 with heap := h' } := I1.kept (t' := s1.toks) hk
        exact ⟨s1.heap.objs.size + 4, [s1.heap.objs.size + 4, s1.heap.objs.size + 2, s1.heap.objs.size + 3, s1.heap.objs.size, s1.heap.objs.size + 1], _, _, H1, rfl, I2, turn_zip (PySem.W.ktu_apart s1.heap.objs.size a b p1.lt p2.lt), ⟨hz, hTI, ⟨_, _, hTO⟩, h1, h2⟩, fresh5, q⟩
      · obtain ⟨its, rv, p1, _⟩ := I1.tuple hqx
        obtain ⟨its2, rv2, p2, _⟩ := I1.list hqy
        obtain ⟨o1, ho1, _⟩ := id p1
        refine call_zipM (show s1.heap.IsTuple a its.toArray from p1) p2.isList fun h' hz hTI hTO h1 h2 hsz hk => wpAny_pyIter_zip hz ?_
        have I2 : Inv X pins σ H1 { s1 with heap := h' } := I1.kept (t' := s1.toks) hk
        exact ⟨s1.heap.objs.size + 4, [s1.heap.objs.size + 4, s1.heap.objs.size + 2, s1.heap.objs.size + 3, s1.heap.objs.size, s1.heap.objs.size + 1], _, _, H1, rfl, I2, turn_zipM (PySem.W.ktu_apart s1.heap.objs.size a b (Heap.lt_size ho1) p2.lt), ⟨hz, hTI, ⟨_, _, hTO⟩, h1, h2⟩, fresh5, q⟩
/-! ### the rule -/
section
variable {X : Cx} {K : PySem.W.Frag} {F : Hp} {a b : Expr} {f g : Den} {p pos : Pos} {elts : List Expr} {kk : Nat} {tpos : Pos}
theorem walks_zipM {q q' : Addr} {xs ys : List V} {ds es : List D} (h : F q = some (.tup xs)) (r : RpL K F ds xs) (h' : F q' = some (.lst ys)) (r' : RpL K F es ys) : Walks K (ItzM K q q') F (zipL ds es) := fun i F1 H1 s1 s2 => by
  have hq : SqT K H1 q xs := .inl (.inl (s2 _ _ (s1 _ _ h)))
  have hq' : SqL K H1 q' ys := .inl (.inl (s2 _ _ (s1 _ _ h')))
  refine ⟨fun d hd => ?_, fun hi => ⟨xs, ys, hq, hq', by rw [r.length, r'.length]; rw [zipL_length] at hi; omega⟩⟩
  obtain ⟨x, y, hx, hy, rfl⟩ := zipL_get hd
  obtain ⟨v, hv, rv⟩ := r.get hx
  obtain ⟨w, hw, rw'⟩ := r'.get hy
  refine ⟨⟨xs, ys, v, w, hq, hq', hv, hw⟩, fun y H' hy => ?_⟩
  obtain ⟨T, z1, z2, rfl, hT, rfl, hz1, hz2⟩ := hy
  have e1 := hz1 xs hq
  rw [hv] at e1
  cases e1
  have e2 := hz2 ys hq'
  rw [hw] at e2
  cases e2
  have s3 := s1.trans (Sub.new (H := F1) (o := .tup [v, w]) (s2.free hT))
  exact ⟨_, .add s2 hT, .tup upd_same (.cons (rv.mono s3) (.cons (rw'.mono s3) .nil))⟩
def iZpX (f g : Den) : DenI := fun ρ => (f ρ).bind fun x => (g ρ).bind fun y => match x, y with | .tuple xs, .list ys => some (zipL xs ys) | .list xs, .list ys => some (zipL xs ys) | _, _ => none
theorem ei_zipX (hg : Gl X "zip") (hm : X.mg "zip" = none) (ha : EX X a f) (hb : EX X b g) (hs : N2 X a b) (hs1 : N1 X b) : EI X (.Tuple elts kk tpos) (.Call (.Name "zip" p) [a, b] [] pos) (iZpX f g) :=
  mkI (pi_zipX hg hm (pa_cons ha.pe (pa_cons hb.pe pa_nil hs1) hs) hs (by rw [hs1]; rfl)) fun σ H R ρ F d e h k => by
    simp only [iZpX, Option.bind_eq_some_iff] at h
    obtain ⟨x, h1, y, h2, h3⟩ := h
    refine ⟨ρ, F, x, e, h1, fun u F1 H1 x1 r1 => ⟨ρ, F1, y, e.ext x1, h2, fun v F2 H2 x2 r2 => ?_⟩⟩
    cases x <;> cases y <;> simp only [reduceCtorEq, Option.some.injEq] at h3
    · subst h3
      cases r1 with
      | lst hq rq =>
        cases r2 with
        | lst hq' rq' => exact ⟨_, _, _, _, rfl, .inl ⟨.inl (.inl (x2.le _ _ (x2.f _ _ hq))), .inl (.inl (x2.le _ _ hq')), k _ F2 H2 (x1.trans x2) (walks_zip (x2.f _ _ hq) (rq.mono x2.f) hq' rq')⟩⟩
    · subst h3
      cases r1 with
      | tup hq rq =>
        cases r2 with
        | lst hq' rq' => exact ⟨_, _, _, _, rfl, .inr ⟨.inl (.inl (x2.le _ _ (x2.f _ _ hq))), .inl (.inl (x2.le _ _ hq')), k _ F2 H2 (x1.trans x2) (walks_zipM (x2.f _ _ hq) (rq.mono x2.f) hq' rq')⟩⟩
end
end Zx
/-! Zx19: a call that gives a new list; simp lemmas for Zx16..Zx18. -/
namespace Zx
open PySem PySem.Spec L2
section
variable {X : Cx} {a : Expr} {es : List Expr} {fl : DenL} {pos p : Pos} {x : Str} {k n : Nat} {fn : List D → Option D}
theorem nX (F : FN X.prog X.w X.K X.mg X.base k x n fn) (hr : Room k X.A) (hg : Gl X x) (hdb : (x == ("__debug__" : Str)) = false) (ha : EA X (a :: es) fl) (hn : (a :: es).length = n)
    (he : starEach (a :: es) X.env = (false, eval a X.env) :: starEach es X.env) (hpl : (backTo pos (starEach es X.env)).any (·.1) = false) (hl : ∀ ρ ds, fl ρ = some ds → ds.length = n) : EN X (.Call (.Name x p) (a :: es) [] pos) (dCall fl fn) := en_call F hr hg hdb ha hn he hpl hl
end
end Zx
/-! Y1: reading denotations: loops, the draws, fractions. -/
namespace Zx
open PySem PySem.Spec L2
/-! ### loops -/
theorem forL_ok {g : DenG} {fb : DenS} (P : Nat → Env → Prop) : ∀ (ds : List D) (i : Nat) (ρ : Env), P i ρ →
    (∀ j d ρ, ds[j]? = some d → P (i + j) ρ → ∃ ρ1 o, g d ρ = some ρ1 ∧ fb ρ1 = some o ∧ ((∃ ρ2, (o = .nx ρ2 ∨ o = .ct ρ2) ∧ P (i + j + 1) ρ2))) → ∃ ρ', forL g fb ds ρ = some (.nx ρ') ∧ P (i + ds.length) ρ'
  | [], i, ρ, h, _ => ⟨ρ, rfl, h⟩
  | d :: ds, i, ρ, h, hs => by
    obtain ⟨ρ1, o, h1, h2, ρ2, h3, h4⟩ := hs 0 d ρ rfl h
    obtain ⟨ρ', h5, h6⟩ := forL_ok P ds (i + 1) ρ2 h4 fun j e τ hj hp => by
      have := hs (j + 1) e τ (by simpa using hj) (by rw [show i + (j + 1) = i + 1 + j by omega]; exact hp)
      rw [show i + (j + 1) + 1 = i + 1 + j + 1 by omega] at this
      exact this
    refine ⟨ρ', ?_, by rw [List.length_cons, show i + (ds.length + 1) = i + 1 + ds.length by omega]; exact h6⟩
    rcases h3 with rfl | rfl
    · simp only [forL, h1, h2, Option.bind_some]; exact h5
    · simp only [forL, h1, h2, Option.bind_some]; exact h5
/-- a loop whose turns all go on -/
theorem sFor_ok {fi : DenI} {g : DenG} {fb : DenS} {ρ : Env} {ds : List D} (P : Nat → Env → Prop) (hi : fi ρ = some ds) (h0 : P 0 ρ)
    (hs : ∀ j d ρ, ds[j]? = some d → P j ρ → ∃ ρ1 o, g d ρ = some ρ1 ∧ fb ρ1 = some o ∧ ∃ ρ2, (o = .nx ρ2 ∨ o = .ct ρ2) ∧ P (j + 1) ρ2) : ∃ ρ', sFor fi g fb ρ = some (.nx ρ') ∧ P ds.length ρ' := by
  obtain ⟨ρ', h1, h2⟩ := forL_ok P ds 0 ρ h0 fun j d τ hj hp => by
    rw [Nat.zero_add] at hp ⊢
    exact hs j d τ hj hp
  rw [Nat.zero_add] at h2
  exact ⟨ρ', by unfold sFor; rw [hi]; exact h1, h2⟩
theorem sSeq_nx {f g : DenS} {ρ ρ' : Env} (h : f ρ = some (.nx ρ')) : sSeq f g ρ = g ρ' := by
  unfold sSeq
  rw [h]
  rfl
theorem sSeq_rt {f g : DenS} {ρ : Env} {d : D} (h : f ρ = some (.rt d)) : sSeq f g ρ = some (.rt d) := by
  unfold sSeq
  rw [h]
  rfl
theorem sIf_t {c : DenB} {f g : DenS} {ρ : Env} (h : c ρ = some true) : sIf c f g ρ = f ρ := by
  unfold sIf
  rw [h]
  rfl
theorem sIf_f {c : DenB} {f g : DenS} {ρ : Env} (h : c ρ = some false) : sIf c f g ρ = g ρ := by
  unfold sIf
  rw [h]
  rfl
/-- small numbers may be multiplied -/
def Sm (n : Nat) (a : Int) : Prop := a.natAbs < 2 ^ n
theorem log2_lt {a n : Nat} (h : a < 2 ^ n) (hn : 0 < n) : a.log2 < n := by
  rcases Nat.eq_zero_or_pos a with rfl | ha
  · simpa using hn
  · exact (Nat.log2_lt (by omega)).mpr h
theorem mulOk_of {a b : Int} (ha : a.natAbs < 2 ^ 10000) (hb : b.natAbs < 2 ^ 10000) : mulOk a b = true := by
  unfold mulOk
  have := log2_lt ha (by decide)
  have := log2_lt hb (by decide)
  exact decide_eq_true (by omega)
section
@[simp] theorem vR_s (i : Nat) {ρ : Env} : vR i ρ = (match ρ[i]? with | some (.fz d) => some d | _ => none) := (rfl)
@[simp] theorem vB_s (i : Nat) {ρ : Env} : vB i ρ = (match ρ[i]? with | some (.fz d) => some d | some (.ow d) => some d | _ => none) := (rfl)
@[simp] theorem kD_s (d : D) {ρ : Env} : kD d ρ = (some d) := (rfl)
@[simp] theorem d1_s (op : D → Option D) (f : Den) {ρ : Env} : d1 op f ρ = ((f ρ).bind op) := (rfl)
@[simp] theorem d2_s (op : D → D → Option D) (f g : Den) {ρ : Env} : d2 op f g ρ = ((f ρ).bind fun x => (g ρ).bind fun y => op x y) := (rfl)
@[simp] theorem d3_s (op : D → D → D → Option D) (f g h : Den) {ρ : Env} : d3 op f g h ρ = ((f ρ).bind fun x => (g ρ).bind fun y => (h ρ).bind fun z => op x y z) := (rfl)
@[simp] theorem b1_s (op : D → Option Bool) (f : Den) {ρ : Env} : b1 op f ρ = ((f ρ).bind op) := (rfl)
@[simp] theorem b2_s (op : D → D → Option Bool) (f g : Den) {ρ : Env} : b2 op f g ρ = ((f ρ).bind fun x => (g ρ).bind fun y => op x y) := (rfl)
@[simp] theorem bV_s (f : DenB) {ρ : Env} : bV f ρ = ((f ρ).bind fun b => some (.bool b)) := (rfl)
@[simp] theorem bCh_s (op op' : D → D → Option Bool) (f g h : Den) {ρ : Env} : bCh op op' f g h ρ = ((f ρ).bind fun x => (g ρ).bind fun y => (op x y).bind fun b => if b then (h ρ).bind fun z => op' y z else some false) := (rfl)
@[simp] theorem bNot_s (f : DenB) {ρ : Env} : bNot f ρ = ((f ρ).bind fun b => some (!b)) := (rfl)
@[simp] theorem bAnd_s (f g : DenB) {ρ : Env} : bAnd f g ρ = ((f ρ).bind fun b => if b then g ρ else some false) := (rfl)
@[simp] theorem bOr_s (f g : DenB) {ρ : Env} : bOr f g ρ = ((f ρ).bind fun b => if b then some true else g ρ) := (rfl)
@[simp] theorem bYes_s {ρ : Env} : bYes  ρ = (some true) := (rfl)
@[simp] theorem bTmp_s (i : Nat) (fb : DenB) {ρ : Env} : bTmp i fb ρ = (fb (frz i ρ)) := (rfl)
@[simp] theorem dIf_s (c : DenB) (f g : Den) {ρ : Env} : dIf c f g ρ = ((c ρ).bind fun b => if b then f ρ else g ρ) := (rfl)
@[simp] theorem dAnd_s (f g : Den) {ρ : Env} : dAnd f g ρ = ((f ρ).bind fun x => match x with | .bool true => g ρ | .bool false => some (.bool false) | _ => none) := (rfl)
@[simp] theorem dOr_s (f g : Den) {ρ : Env} : dOr f g ρ = ((f ρ).bind fun x => match x with | .bool true => some (.bool true) | .bool false => g ρ | _ => none) := (rfl)
@[simp] theorem lNil_s {ρ : Env} : lNil  ρ = (some []) := (rfl)
@[simp] theorem lCons_s (f : Den) (g : DenL) {ρ : Env} : lCons f g ρ = ((f ρ).bind fun x => (g ρ).bind fun xs => some (x :: xs)) := (rfl)
@[simp] theorem lStar_s (f : Den) (g : DenL) {ρ : Env} : lStar f g ρ = ((f ρ).bind fun x => (seqOf x).bind fun ys => (g ρ).bind fun xs => some (ys ++ xs)) := (rfl)
@[simp] theorem mkT_s (g : DenL) {ρ : Env} : mkT g ρ = ((g ρ).bind fun xs => if xs.length ≤ 1000000 then some (.tuple xs) else none) := (rfl)
@[simp] theorem mkL_s (g : DenL) {ρ : Env} : mkL g ρ = ((g ρ).bind fun xs => if xs.length ≤ 1000000 then some (.list xs) else none) := (rfl)
@[simp] theorem dCall_s (fl : DenL) (fn : List D → Option D) {ρ : Env} : dCall fl fn ρ = ((fl ρ).bind fn) := (rfl)
@[simp] theorem sSeq_s (f g : DenS) {ρ : Env} : sSeq f g ρ = ((f ρ).bind fun o => match o with | .nx ρ' => g ρ' | o => some o) := (rfl)
@[simp] theorem sSet_s (i : Nat) (f : Den) {ρ : Env} : sSet i f ρ = ((f ρ).bind fun d => some (.nx (ρ.set i (.fz d)))) := (rfl)
@[simp] theorem sOwn_s (i : Nat) (f : Den) {ρ : Env} : sOwn i f ρ = ((f ρ).bind fun d => some (.nx (ρ.set i (.ow d)))) := (rfl)
@[simp] theorem sIf_s (c : DenB) (f g : DenS) {ρ : Env} : sIf c f g ρ = ((c ρ).bind fun b => if b then f ρ else g ρ) := (rfl)
@[simp] theorem sRet_s (f : Den) {ρ : Env} : sRet f ρ = ((f ρ).bind fun d => some (.rt d)) := (rfl)
@[simp] theorem sAsg_s (g : DenG) (f : Den) {ρ : Env} : sAsg g f ρ = ((f ρ).bind fun d => (g d ρ).bind fun ρ' => some (.nx ρ')) := (rfl)
@[simp] theorem sDrop_s (f : Den) {ρ : Env} : sDrop f ρ = ((f ρ).bind fun _ => some (.nx ρ)) := (rfl)
@[simp] theorem sPar_s (i j : Nat) (f : DenL) {ρ : Env} : sPar i j f ρ = ((f ρ).bind fun ds => match ds with | [d, e] => some (.nx ((ρ.set i (.fz d)).set j (.fz e))) | _ => none) := (rfl)
@[simp] theorem sNo_s {ρ : Env} : sNo  ρ = (none) := (rfl)
@[simp] theorem sNx_s {ρ : Env} : sNx  ρ = (some (.nx ρ)) := (rfl)
@[simp] theorem sRetN_s {ρ : Env} : sRetN  ρ = (some (.rt .none)) := (rfl)
@[simp] theorem sBk_s {ρ : Env} : sBk  ρ = (some (.bk ρ)) := (rfl)
@[simp] theorem sCt_s {ρ : Env} : sCt  ρ = (some (.ct ρ)) := (rfl)
@[simp] theorem sFrz_s (i : Nat) (f : DenS) {ρ : Env} : sFrz i f ρ = (f (frz i ρ)) := (rfl)
@[simp] theorem sApp_s (i : Nat) (f : Den) {ρ : Env} : sApp i f ρ = ((f ρ).bind fun d => (owL ρ i).bind fun xs => if xs.length < 1000000 then some (.nx (ρ.set i (.ow (.list (xs ++ [d]))))) else none) := (rfl)
@[simp] theorem sExt_s (i : Nat) (f : Den) {ρ : Env} : sExt i f ρ = ((f ρ).bind fun d => (listOf d).bind fun ys => (owL ρ i).bind fun xs => if xs.length + ys.length ≤ 1000000 then some (.nx (ρ.set i (.ow (.list (xs ++ ys))))) else none) := (rfl)
@[simp] theorem sStD_s (i : Nat) (fk f : Den) {ρ : Env} : sStD i fk f ρ = ((f ρ).bind fun d => (fk ρ).bind fun j => (owD ρ i).bind fun xs => (putD xs j d).bind fun ys => some (.nx (ρ.set i (.ow (.dict ys))))) := (rfl)
@[simp] theorem sLcSet_s (i : Nat) (own : Bool) (f : Den) {ρ : Env} : sLcSet i own f ρ = ((f ρ).bind fun d => some (.nx (setNew i own d ρ))) := (rfl)
@[simp] theorem gN_s (i : Nat) {d : D} {ρ : Env} : gN i d ρ = (some (ρ.set i (.fz d))) := (rfl)
@[simp] theorem gT_s (gs : DenGs) (n : Nat) {d : D} {ρ : Env} : gT gs n d ρ = (match d with | .tuple ds => if ds.length = n then gs ds ρ else none | _ => none) := (rfl)
@[simp] theorem gLs_s (gs : DenGs) (n : Nat) {d : D} {ρ : Env} : gLs gs n d ρ = (match d with | .list ds => if ds.length = n then gs ds ρ else none | _ => none) := (rfl)
@[simp] theorem oNone_s {ρ : Env} : oNone  ρ = (some none) := (rfl)
@[simp] theorem oSome_s (f : Den) {ρ : Env} : oSome f ρ = ((f ρ).bind fun x => match x with | .int i => some (some i) | _ => none) := (rfl)
@[simp] theorem dSl_s (f : Den) (l h : DenO) {ρ : Env} : dSl f l h ρ = ((f ρ).bind fun x => (l ρ).bind fun lo => (h ρ).bind fun hi => cutD lo hi x) := (rfl)
@[simp] theorem iSeq_s (f : Den) {ρ : Env} : iSeq f ρ = ((f ρ).bind seqOf) := (rfl)
@[simp] theorem iR1_s (f : Den) {ρ : Env} : iR1 f ρ = ((f ρ).bind rg1) := (rfl)
@[simp] theorem iR2_s (f g : Den) {ρ : Env} : iR2 f g ρ = ((f ρ).bind fun x => (g ρ).bind fun y => rg2 x y) := (rfl)
@[simp] theorem iEn_s (f : Den) {ρ : Env} : iEn f ρ = ((f ρ).bind fun x => match x with | .list xs => some (enumL xs) | _ => none) := (rfl)
@[simp] theorem iZp_s (f g : Den) {ρ : Env} : iZp f g ρ = ((f ρ).bind fun x => (g ρ).bind fun y => match x, y with | .list xs, .list ys => some (zipL xs ys) | _, _ => none) := (rfl)
@[simp] theorem dDisp1_s (f g : Den) {ρ : Env} : dDisp1 f g ρ = ((f ρ).bind fun k => (keyOf k).bind fun _ => (g ρ).bind fun v => some (.dict [(k, v)])) := (rfl)
@[simp] theorem runX_s (fb : DenS) (n : Nat) (ds : List D) : runX fb n ds = (match fb (env0 n ds) with | some (.rt d) => some d | some (.rn d) => some d | some (.nx _) => some .none | _ => none) := (rfl)
@[simp] theorem env0_s (n : Nat) (ds : List D) : env0 n ds = ds.map .fz ++ List.replicate (n - ds.length) .no := (rfl)
@[simp] theorem frz_s (i : Nat) (ρ : Env) : frz i ρ = (match ρ[i]? with | some (.ow d) => ρ.set i (.fz d) | _ => ρ) := (rfl)
@[simp] theorem owL_s (i : Nat) (ρ : Env) : owL ρ i = (match ρ[i]? with | some (.ow (.list xs)) => some xs | _ => none) := (rfl)
@[simp] theorem gsNil_s (ρ : Env) : gsNil [] ρ = some ρ := (rfl)
@[simp] theorem gsCons_s (g : DenG) (gs : DenGs) (d : D) (r : List D) (ρ : Env) : gsCons g gs (d :: r) ρ = (g d ρ).bind fun ρ' => gs r ρ' := (rfl)
@[simp] theorem ltI_s (a b : Int) : ltI (.int a) (.int b) = some (decide (a < b)) := (rfl)
@[simp] theorem leI_s (a b : Int) : leI (.int a) (.int b) = some (decide (a ≤ b)) := (rfl)
@[simp] theorem gtI_s (a b : Int) : gtI (.int a) (.int b) = some (decide (b < a)) := (rfl)
@[simp] theorem geI_s (a b : Int) : geI (.int a) (.int b) = some (decide (b ≤ a)) := (rfl)
@[simp] theorem addD_i (a b : Int) : addD (.int a) (.int b) = some (.int (a + b)) := (rfl)
@[simp] theorem addD_l (a b : List D) : addD (.list a) (.list b) = if a.length + b.length ≤ 1000000 then some (.list (a ++ b)) else none := (rfl)
@[simp] theorem addD_t (a b : List D) : addD (.tuple a) (.tuple b) = if a.length + b.length ≤ 1000000 then some (.tuple (a ++ b)) else none := (rfl)
@[simp] theorem subD_i (a b : Int) : subD (.int a) (.int b) = some (.int (a - b)) := (rfl)
@[simp] theorem mulI_i (a b : Int) : mulI (.int a) (.int b) = if mulOk a b then some (.int (a * b)) else none := (rfl)
@[simp] theorem negD_i (a : Int) : negD (.int a) = some (.int (-a)) := (rfl)
@[simp] theorem lenD_l (a : List D) : lenD (.list a) = some (.int a.length) := (rfl)
@[simp] theorem lenD_t (a : List D) : lenD (.tuple a) = some (.int a.length) := (rfl)
@[simp] theorem intD_i (a : Int) : intD (.int a) = some (.int a) := (rfl)
@[simp] theorem intD_b (a : Bool) : intD (.bool a) = some (.int (if a then 1 else 0)) := (rfl)
@[simp] theorem absD_i (i : Int) : absD (.int i) = some (.int (if i < 0 then -i else i)) := (rfl)
@[simp] theorem minD2_i (i j : Int) : minD2 (.int i) (.int j) = some (.int (if j < i then j else i)) := (rfl)
@[simp] theorem maxD2_i (i j : Int) : maxD2 (.int i) (.int j) = some (.int (if j > i then j else i)) := (rfl)
@[simp] theorem ixD_l (xs : List D) (i : Int) : ixD (.list xs) (.int i) = atI xs i := (rfl)
@[simp] theorem ixD_t (xs : List D) (i : Int) : ixD (.tuple xs) (.int i) = atI xs i := (rfl)
@[simp] theorem seqOf_l (xs : List D) : seqOf (.list xs) = some xs := (rfl)
@[simp] theorem seqOf_t (xs : List D) : seqOf (.tuple xs) = some xs := (rfl)
@[simp] theorem modD_i (a b : Int) : modD (.int a) (.int b) = if 0 < b then some (.int (a % b)) else none := (rfl)
@[simp] theorem fdivD_i (a b : Int) : fdivD (.int a) (.int b) = if 0 < b ∧ b.natAbs.log2 < 9000 then some (.int (a / b)) else none := (rfl)
@[simp] theorem gcdD_i (a b : Int) : gcdD (.int a) (.int b) = some (.int (Nat.gcd a.natAbs b.natAbs : Nat)) := (rfl)
theorem atI_nat (xs : List D) (i : Nat) (h : i < xs.length) : atI xs (i : Int) = xs[i]? := by
  unfold atI ixN
  simp [h]
@[simp] theorem atI_0 (x : D) (xs : List D) : atI (x :: xs) 0 = some x := atI_nat _ 0 (by simp)
@[simp] theorem atI_1 (x y : D) (xs : List D) : atI (x :: y :: xs) 1 = some y := atI_nat _ 1 (by simp)
@[simp] theorem atI_2 (x y z : D) (xs : List D) : atI (x :: y :: z :: xs) 2 = some z := atI_nat _ 2 (by simp)
end
namespace Cm
noncomputable def D__law_draws : DenS :=
  (sSeq (sOwn 1 (mkL lNil))
  (sSeq (sFor (iR1 (d2 minD2 (kD (.int 63)) (d1 lenD (vR 0)))) (gN 2) (sSeq (sSet 3 (d1 absD (d2 ixD (vR 0) (vR 2))))
   (sIf (b2 geI (vR 3) (d2 powD (kD (.int 10)) (kD (.int 18)))) (sFor (iR1 (kD (.int 60))) (gN 4) (sIf (b2 gtI (vR 3) (kD (.int 0))) (sSeq (sApp 1 (d2 modD (d1 intD (vR 3)) (kD (.int 65536))))
      (sSet 3 (d2 fdivD (vR 3) (kD (.int 65536))))) sNx)) (sSeq (sSet 5 (d2 modD (d1 intD (d2 addD (d2 mulI (vR 3) (kD (.int 48271))) (d2 mulI (d2 addD (vR 2) (kD (.int 1))) (kD (.int 69621))))) (kD (.int 2147483647))))
    (sSeq (sSet 5 (d2 modD (d1 intD (d2 addD (d2 addD (d2 mulI (vR 5) (kD (.int 16807))) (d2 mulI (kD (.int 11)) (vR 2))) (kD (.int 5)))) (kD (.int 2147483629))))
    (sSeq (sApp 1 (d2 modD (d1 intD (vR 5)) (kD (.int 65536))))
    (sApp 1 (d2 modD (d1 intD (d2 fdivD (vR 5) (kD (.int 65536)))) (kD (.int 32768))))))))))
  (sFrz 1 (sRet (vR 1)))))
noncomputable def f__law_draws : List D → Option D := runX D__law_draws 6
noncomputable def D__law_mix : DenS :=
  (sSeq (sSet 3 (kD (.int 0)))
  (sSeq (sIf (b2 gtI (d1 lenD (vR 0)) (kD (.int 0))) (sSet 3 (d2 ixD (vR 0) (d2 modD (d1 intD (vR 1)) (d1 lenD (vR 0))))) sNx)
  (sSeq (sIf (b2 ltI (vR 1) (d1 lenD (vR 0))) (sRet (d2 modD (d1 intD (vR 3)) (vR 2))) sNx)
  (sRet (d2 modD (d1 intD (d2 fdivD (d1 intD (d2 addD (d2 mulI (vR 3) (kD (.int 7919))) (d2 mulI (vR 1) (kD (.int 104729))))) (kD (.int 3)))) (vR 2))))))
noncomputable def f__law_mix : List D → Option D := runX D__law_mix 4
noncomputable def D_fraction : DenS :=
  (sSeq (sIf (b2 ltI (vR 1) (kD (.int 0))) (sPar 0 1 (lCons (d1 negD (vR 0)) (lCons (d1 negD (vR 1)) lNil))) sNx)
  (sSeq (sSet 2 (d2 gcdD (vR 0) (vR 1)))
  (sRet (mkT (lCons (d2 fdivD (vR 0) (vR 2)) (lCons (d2 fdivD (vR 1) (vR 2)) lNil))))))
noncomputable def f_fraction : List D → Option D := runX D_fraction 3
noncomputable def D_plus : DenS :=
  (sRet (dCall (lCons (d2 addD (d2 mulI (d2 ixD (vR 0) (kD (.int 0))) (d2 ixD (vR 1) (kD (.int 1)))) (d2 mulI (d2 ixD (vR 1) (kD (.int 0))) (d2 ixD (vR 0) (kD (.int 1))))) (lCons (d2 mulI (d2 ixD (vR 0) (kD (.int 1))) (d2 ixD (vR 1) (kD (.int 1)))) lNil)) f_fraction))
noncomputable def f_plus : List D → Option D := runX D_plus 2
noncomputable def D_times : DenS :=
  (sRet (dCall (lCons (d2 mulI (d2 ixD (vR 0) (kD (.int 0))) (d2 ixD (vR 1) (kD (.int 0)))) (lCons (d2 mulI (d2 ixD (vR 0) (kD (.int 1))) (d2 ixD (vR 1) (kD (.int 1)))) lNil)) f_fraction))
noncomputable def f_times : List D → Option D := runX D_times 2
noncomputable def D_total : DenS :=
  (sSeq (sSet 1 (mkT (lCons (kD (.int 0)) (lCons (kD (.int 1)) lNil))))
  (sSeq (sFor (iSeq (vR 0)) (gN 2) (sSet 1 (dCall (lCons (vR 1) (lCons (vR 2) lNil)) f_plus)))
  (sRet (vR 1))))
noncomputable def f_total : List D → Option D := runX D_total 3
end Cm
/-! ### fractions -/
def frD (q : Rat) : D := .tuple [.int q.num, .int q.den]
theorem fraction_eq (a b : Int) (hb : b ≠ 0) (h1 : b.natAbs < 2 ^ 9000) : Cm.f_fraction [.int a, .int b] = some (frD ((a : Rat) / b)) := by
  have hg : 0 < Nat.gcd a.natAbs b.natAbs := Nat.gcd_pos_of_pos_right _ (by omega)
  have hl : (Nat.gcd a.natAbs b.natAbs).log2 < 9000 := log2_lt (Nat.lt_of_le_of_lt (Nat.gcd_le_right _ (by omega)) h1) (by decide)
  have key : ∀ (a b : Int), 0 < b → frD ((a : Rat) / b) = .tuple [.int (a / (Nat.gcd a.natAbs b.natAbs : Nat)), .int (b / (Nat.gcd a.natAbs b.natAbs : Nat))] := fun a b hb => by
    unfold frD
    rw [← Rat.divInt_eq_div, Rat.num_divInt, Rat.den_divInt, if_neg (by omega)]
    have e1 : b.sign = 1 := Int.sign_eq_one_of_pos hb
    have e2 : b.gcd a = Nat.gcd a.natAbs b.natAbs := by rw [Int.gcd_comm]; rfl
    have e3 : ((b.natAbs : Nat) : Int) = b := by omega
    rw [e1, e2, Int.one_mul, Int.natCast_ediv, e3]
  unfold Cm.f_fraction Cm.D_fraction
  by_cases h : b < 0
  · have := key (-a) (-b) (by omega)
    rw [show (((-a : Int) : Rat) / ((-b : Int) : Rat)) = (a : Rat) / b by
      rw [Rat.intCast_neg, Rat.intCast_neg]; grind] at this
    rw [this]
    simp [h, hl, hb]
  · rw [key a b (by omega)]
    simp [h, hl, hb]
/-- a fraction of small parts -/
def Sq (q : Rat) : Prop := q.num.natAbs < 2 ^ 4000 ∧ q.den < 2 ^ 4000
theorem pow_mul_lt {a b m n : Nat} (ha : a < 2 ^ m) (hb : b < 2 ^ n) : a * b < 2 ^ (m + n) := by
  rw [Nat.pow_add]
  exact Nat.mul_lt_mul'' ha hb
theorem plus_eq (p q : Rat) (hp : Sq p) (hq : Sq q) : Cm.f_plus [frD p, frD q] = some (frD (p + q)) := by
  have hw : ∀ a b : Nat, a < 2 ^ 4000 → b < 2 ^ 4000 → a * b < 2 ^ 9000 := fun a b ha hb => Nat.lt_of_lt_of_le (pow_mul_lt ha hb) (Nat.pow_le_pow_right (by decide) (by decide))
  have h1 : ∀ a b : Int, a.natAbs < 2 ^ 4000 → b.natAbs < 2 ^ 4000 → mulOk a b = true := fun a b ha hb => mulOk_of (Nat.lt_of_lt_of_le ha (Nat.pow_le_pow_right (by decide) (by decide))) (Nat.lt_of_lt_of_le hb (Nat.pow_le_pow_right (by decide) (by decide)))
  have e1 := h1 p.num q.den hp.1 (by simpa using hq.2)
  have e2 := h1 q.num p.den hq.1 (by simpa using hp.2)
  have e3 := h1 p.den q.den (by simpa using hp.2) (by simpa using hq.2)
  have hd : ((p.den : Int) * (q.den : Int)) ≠ 0 := by
    have := p.den_nz; have := q.den_nz
    exact Int.mul_ne_zero (by omega) (by omega)
  have key := fraction_eq (p.num * q.den + q.num * p.den) (p.den * q.den) hd (by rw [Int.natAbs_mul]; exact hw _ _ (by simpa using hp.2) (by simpa using hq.2))
  have e4 : ((p.num * q.den + q.num * p.den : Int) : Rat) / ((p.den * q.den : Int) : Rat) = p + q := by
    rw [← Rat.divInt_eq_div, ← Int.natCast_mul, Rat.divInt_ofNat, Rat.add_def']
  rw [e4] at key
  unfold Cm.f_plus Cm.D_plus
  simp [frD, e1, e2, e3] at key ⊢
  rw [key]
  rfl
theorem times_eq (p q : Rat) (hp : Sq p) (hq : Sq q) : Cm.f_times [frD p, frD q] = some (frD (p * q)) := by
  have hw : ∀ a b : Nat, a < 2 ^ 4000 → b < 2 ^ 4000 → a * b < 2 ^ 9000 := fun a b ha hb => Nat.lt_of_lt_of_le (pow_mul_lt ha hb) (Nat.pow_le_pow_right (by decide) (by decide))
  have h1 : ∀ a b : Int, a.natAbs < 2 ^ 4000 → b.natAbs < 2 ^ 4000 → mulOk a b = true := fun a b ha hb => mulOk_of (Nat.lt_of_lt_of_le ha (Nat.pow_le_pow_right (by decide) (by decide))) (Nat.lt_of_lt_of_le hb (Nat.pow_le_pow_right (by decide) (by decide)))
  have e1 := h1 p.num q.num hp.1 hq.1
  have e3 := h1 p.den q.den (by simpa using hp.2) (by simpa using hq.2)
  have hd : ((p.den : Int) * (q.den : Int)) ≠ 0 := by
    have := p.den_nz; have := q.den_nz
    exact Int.mul_ne_zero (by omega) (by omega)
  have key := fraction_eq (p.num * q.num) (p.den * q.den) hd (by rw [Int.natAbs_mul]; exact hw _ _ (by simpa using hp.2) (by simpa using hq.2))
  have e4 : ((p.num * q.num : Int) : Rat) / ((p.den * q.den : Int) : Rat) = p * q := by
    rw [← Rat.divInt_eq_div, ← Int.natCast_mul, Rat.divInt_ofNat, Rat.mul_def']
  rw [e4] at key
  unfold Cm.f_times Cm.D_times
  simp [frD, e1, e3] at key ⊢
  rw [key]
  rfl
theorem run_seq {A B : DenS} {n : Nat} {ds : List D} {ρ' : Env} {r : Option D} (h : A (env0 n ds) = some (.nx ρ')) (h2 : (match B ρ' with | some (.rt d) => some d | some (.rn d) => some d | some (.nx _) => some .none | _ => none) = r) : runX (sSeq A B) n ds = r := by
  rw [runX_s, sSeq_nx h]
  exact h2
theorem sum_take_succ {qs : List Rat} {j : Nat} {q : Rat} (h : qs[j]? = some q) : (qs.take (j + 1)).sum = (qs.take j).sum + q := by
  rw [List.take_add_one, h, List.sum_append]
  simp [Rat.add_zero]
/-- total of fractions whose partial sums are small -/
theorem total_eq (qs : List Rat) (hs : ∀ n, Sq ((qs.take n).sum)) (hq : ∀ q ∈ qs, Sq q) : Cm.f_total [.list (qs.map frD)] = some (frD qs.sum) := by
  unfold Cm.f_total Cm.D_total
  refine run_seq (ρ' := [.fz (.list (qs.map frD)), .fz (frD 0), .no]) (by simp [frD]) ?_
  obtain ⟨ρ', h1, h2⟩ := sFor_ok (fi := iSeq (vR 0)) (g := gN 2) (fb := sSet 1 (dCall (lCons (vR 1) (lCons (vR 2) lNil)) Cm.f_plus)) (ρ := [.fz (.list (qs.map frD)), .fz (frD 0), .no]) (ds := qs.map frD)
    (fun n ρ => ∃ s, ρ = [.fz (.list (qs.map frD)), .fz (frD ((qs.take n).sum)), s]) (by simp) ⟨.no, by simp⟩ (fun j d ρ hd ⟨s, hp⟩ => by
      rw [List.getElem?_map, Option.map_eq_some_iff] at hd
      obtain ⟨q, hq1, rfl⟩ := hd
      subst hp
      refine ⟨_, _, rfl, by simp [plus_eq _ _ (hs j) (hq q (List.mem_of_getElem? hq1))]; rfl, _, .inl rfl, .fz (frD q), ?_⟩
      simp [sum_take_succ hq1])
  obtain ⟨s, rfl⟩ := h2
  rw [sSeq_nx h1]
  simp
end Zx
/-! Y2: the draws. -/
namespace Zx
open PySem PySem.Spec L2
@[simp] theorem ixD_s (ns : List Int) (i : Int) : ixD (scrD ns) (.int i) = atI (ns.map .int) i := (rfl)
@[simp] theorem lenD_s (ns : List Int) : lenD (scrD ns) = some (.int ns.length) := by simp [scrD, lenD]
@[simp] theorem pow18 : powD (.int 10) (.int 18) = some (.int 1000000000000000000) := (rfl)
theorem rgL_at {lo : Int} {n j : Nat} {d : D} (h : (rgL lo n)[j]? = some d) : j < n ∧ d = .int (lo + j) := by
  unfold rgL at h
  rw [List.getElem?_map, Option.map_eq_some_iff] at h
  obtain ⟨i, h1, rfl⟩ := h
  obtain ⟨h2, h3⟩ := List.getElem?_eq_some_iff.mp h1
  rw [List.length_range] at h2
  rw [List.getElem_range] at h3
  subst h3
  exact ⟨h2, rfl⟩
@[simp] theorem rgL_len (lo : Int) (n : Nat) : (rgL lo n).length = n := by simp [rgL]
theorem rg1_ok {n : Int} (h0 : 0 ≤ n) (h : n ≤ 1000000) : rg1 (.int n) = some (rgL 0 n.toNat) := by
  unfold rg1
  simp only
  rw [if_pos (by omega)]
theorem rg2_ok {m n : Int} (hm : -1000 ≤ m) (hm' : m ≤ 1000000) (h0 : -1000 ≤ n) (h : n ≤ 1000000) : rg2 (.int m) (.int n) = some (rgL m (n - m).toNat) := by
  unfold rg2
  simp only
  rw [if_pos ⟨by omega, by omega⟩]
/-- numbers below 65536 -/
def Dr (m : Nat) (dr : List Int) : Prop := (∀ d ∈ dr, 0 ≤ d ∧ d < 65536) ∧ dr.length ≤ m
theorem Dr.add {m : Nat} {dr : List Int} {d : Int} (h : Dr m dr) (h0 : 0 ≤ d) (h1 : d < 65536) : Dr (m + 1) (dr ++ [d]) := by
  refine ⟨fun x hx => ?_, by rw [List.length_append]; have := h.2; simpa using this⟩
  rcases List.mem_append.mp hx with hx | hx
  · exact h.1 x hx
  · rw [List.mem_singleton] at hx
    subst hx
    exact ⟨h0, h1⟩
theorem Dr.le {m n : Nat} {dr : List Int} (h : Dr m dr) (hl : m ≤ n) : Dr n dr := ⟨h.1, Nat.le_trans h.2 hl⟩
theorem mulOk_i {a b : Int} {m n : Nat} (ha : a.natAbs < 2 ^ m) (hb : b.natAbs < 2 ^ n) (hm : 2 ^ m ≤ 2 ^ 10000) (hn : 2 ^ n ≤ 2 ^ 10000) : mulOk a b = true := mulOk_of (Nat.lt_of_lt_of_le ha hm) (Nat.lt_of_lt_of_le hb hn)
theorem mulOk64 {a b : Int} (ha : a.natAbs < 2 ^ 64) (hb : b.natAbs < 2 ^ 64) : mulOk a b = true := by
  unfold mulOk
  have := log2_lt ha (by decide)
  have := log2_lt hb (by decide)
  exact decide_eq_true (by omega)
theorem draws_ok (ns : List Int) (hn : ns.length ≤ 63) : ∃ dr : List Int, Cm.f__law_draws [scrD ns] = some (.list (dr.map .int)) ∧ Dr 3780 dr := by
  unfold Cm.f__law_draws Cm.D__law_draws
  obtain ⟨ρ', h1, h2⟩ := sFor_ok (fi := iR1 (d2 minD2 (kD (.int 63)) (d1 lenD (vR 0)))) (g := gN 2)
    (fb := sSeq (sSet 3 (d1 absD (d2 ixD (vR 0) (vR 2)))) (sIf (b2 geI (vR 3) (d2 powD (kD (.int 10)) (kD (.int 18)))) (sFor (iR1 (kD (.int 60))) (gN 4) (sIf (b2 gtI (vR 3) (kD (.int 0))) (sSeq (sApp 1 (d2 modD (d1 intD (vR 3)) (kD (.int 65536)))) (sSet 3 (d2 fdivD (vR 3) (kD (.int 65536))))) sNx))
      (sSeq (sSet 5 (d2 modD (d1 intD (d2 addD (d2 mulI (vR 3) (kD (.int 48271))) (d2 mulI (d2 addD (vR 2) (kD (.int 1))) (kD (.int 69621))))) (kD (.int 2147483647))))
        (sSeq (sSet 5 (d2 modD (d1 intD (d2 addD (d2 addD (d2 mulI (vR 5) (kD (.int 16807))) (d2 mulI (kD (.int 11)) (vR 2))) (kD (.int 5)))) (kD (.int 2147483629))))
          (sSeq (sApp 1 (d2 modD (d1 intD (vR 5)) (kD (.int 65536)))) (sApp 1 (d2 modD (d1 intD (d2 fdivD (vR 5) (kD (.int 65536)))) (kD (.int 32768)))))))))
    (ρ := [.fz (scrD ns), .ow (.list []), .no, .no, .no, .no]) (ds := rgL 0 ns.length)
    (fun n ρ => ∃ dr s2 s3 s4 s5, ρ = [.fz (scrD ns), .ow (.list (dr.map .int)), s2, s3, s4, s5] ∧ Dr (60 * n) dr)
    (by
      have : (if (ns.length : Int) < 63 then (ns.length : Int) else 63) = ns.length := by split <;> omega
      simp [this]
      rw [rg1_ok (by omega) (by omega)]
      simp) ⟨[], .no, .no, .no, .no, by simp, by simp [Dr]⟩ (fun j d ρ hd ⟨dr, s2, s3, s4, s5, hp, hdr⟩ => by
      obtain ⟨hj, rfl⟩ := rgL_at hd
      subst hp
      have ha : atI (ns.map PyData.int) (0 + (j : Int)) = some (.int ns[j]) := by
        rw [Int.zero_add, atI_nat _ j (by simpa using hj)]
        simp [hj]
      refine ⟨[.fz (scrD ns), .ow (.list (dr.map .int)), .fz (.int (0 + j)), s3, s4, s5], ?_⟩
      generalize hr : (if ns[j] < 0 then -ns[j] else ns[j]) = rest
      have hr0 : 0 ≤ rest := by subst hr; split <;> omega
      have hq : 0 + (j : Int) < 63 := by omega
      generalize hk : (0 : Int) + (j : Int) = k at ha hq
      have hk0 : 0 ≤ k := by omega
      have e1 : sSet 3 (d1 absD (d2 ixD (vR 0) (vR 2))) [.fz (scrD ns), .ow (.list (dr.map .int)), .fz (.int k), s3, s4, s5] = some (.nx [.fz (scrD ns), .ow (.list (dr.map .int)), .fz (.int k), .fz (.int rest), s4, s5]) := by
        simp [ha, hr]
      rw [sSeq_nx e1]
      by_cases hb : 1000000000000000000 ≤ rest
      · obtain ⟨ρ2, g1, g2⟩ := sFor_ok (fi := iR1 (kD (.int 60))) (g := gN 4) (fb := sIf (b2 gtI (vR 3) (kD (.int 0))) (sSeq (sApp 1 (d2 modD (d1 intD (vR 3)) (kD (.int 65536)))) (sSet 3 (d2 fdivD (vR 3) (kD (.int 65536))))) sNx)
          (ρ := [.fz (scrD ns), .ow (.list (dr.map .int)), .fz (.int k), .fz (.int rest), s4, s5]) (ds := rgL 0 60)
          (fun n ρ => ∃ dr r t4, ρ = [.fz (scrD ns), .ow (.list (dr.map .int)), .fz (.int k), .fz (.int r), t4, s5] ∧ Dr (60 * j + n) dr) (by simp [rg1]) ⟨dr, rest, s4, rfl, hdr⟩
          (fun i e τ he ⟨dr', r, t4, hp', hd'⟩ => by
            subst hp'
            obtain ⟨hi, rfl⟩ := rgL_at he
            by_cases h0 : 0 < r
            · have hm1 := Int.emod_nonneg r (b := 65536) (by omega)
              have hm2 := Int.emod_lt_of_pos r (b := 65536) (by omega)
              have hl := hd'.2
              refine ⟨_, _, rfl, by
                have hlt : dr'.length < 1000000 := by omega
                simp [h0, hlt]; rfl, _, .inl rfl, dr' ++ [r % 65536], r / 65536, .fz (.int (0 + i)), by simp, ?_⟩
              exact (hd'.add hm1 hm2)
            · exact ⟨_, _, rfl, by simp [h0]; rfl, _, .inl rfl, dr', r, .fz (.int (0 + i)), by simp, hd'.le (by omega)⟩)
        obtain ⟨dr', r, t4, rfl, hd'⟩ := g2
        refine ⟨_, rfl, ?_, _, .inl rfl, dr', .fz (.int k), .fz (.int r), t4, s5, rfl, hd'.le (by simp; omega)⟩
        rw [sIf_t (by simp [hb])]
        exact g1
      · have hlt : rest < 1000000000000000000 := by omega
        have m1 : mulOk rest 48271 = true := mulOk64 (by omega) (by decide)
        have m2 : mulOk (k + 1) 69621 = true := mulOk64 (by omega) (by decide)
        generalize hx : (rest * 48271 + (k + 1) * 69621) % 2147483647 = x
        have hx1 : 0 ≤ x := by rw [← hx]; exact Int.emod_nonneg _ (by omega)
        have hx2 : x < 2147483647 := by rw [← hx]; exact Int.emod_lt_of_pos _ (by omega)
        have m3 : mulOk x 16807 = true := mulOk64 (by omega) (by decide)
        have m4 : mulOk 11 k = true := mulOk64 (by decide) (by omega)
        generalize hy : (x * 16807 + 11 * k + 5) % 2147483629 = y
        have hl := hdr.2
        have l1 : dr.length < 1000000 := by omega
        have l2 : dr.length + 1 < 1000000 := by omega
        refine ⟨_, rfl, by
          rw [sIf_f (by simp; omega)]
          simp [m1, m2, m3, m4, hx, hy, l1, l2]; rfl, _, .inl rfl, dr ++ [y % 65536, y / 65536 % 32768], .fz (.int k), .fz (.int rest), s4, .fz (.int y), by simp, ?_⟩
        have a1 := Int.emod_nonneg y (b := 65536) (by omega)
        have a2 := Int.emod_lt_of_pos y (b := 65536) (by omega)
        have a3 := Int.emod_nonneg (y / 65536) (b := 32768) (by omega)
        have a4 := Int.emod_lt_of_pos (y / 65536) (b := 32768) (by omega)
        have := (hdr.add a1 a2).add a3 (by omega)
        rw [List.append_assoc] at this
        exact this.le (by omega))
  obtain ⟨dr, s2, s3, s4, s5, rfl, hdr⟩ := h2
  refine ⟨dr, run_seq (ρ' := [.fz (scrD ns), .ow (.list []), .no, .no, .no, .no]) (by simp) ?_, hdr.le (by simp; omega)⟩
  rw [sSeq_nx h1]
  simp
theorem atI_int (xs : List D) (i : Int) (h0 : 0 ≤ i) (h : i < xs.length) : atI xs i = xs[i.toNat]? := by
  have := atI_nat xs i.toNat (by omega)
  rw [show ((i.toNat : Nat) : Int) = i by omega] at this
  exact this
theorem mix_ok {m : Nat} {dr : List Int} (hd : Dr m dr) (hm : m ≤ 100000) (k many : Int) (hk : 0 ≤ k) (hk2 : k < 1000000) (h0 : 0 < many) : ∃ x, Cm.f__law_mix [.list (dr.map .int), .int k, .int many] = some (.int x) ∧ 0 ≤ x ∧ x < many := by
  unfold Cm.f__law_mix Cm.D__law_mix
  have hl := hd.2
  have cell : ∃ c : Int, sIf (b2 gtI (d1 lenD (vR 0)) (kD (.int 0))) (sSet 3 (d2 ixD (vR 0) (d2 modD (d1 intD (vR 1)) (d1 lenD (vR 0))))) sNx [.fz (.list (dr.map .int)), .fz (.int k), .fz (.int many), .fz (.int 0)] =
      some (.nx [.fz (.list (dr.map .int)), .fz (.int k), .fz (.int many), .fz (.int c)]) ∧ 0 ≤ c ∧ c < 65536 := by
    by_cases hz : 0 < dr.length
    · have hz' : (0 : Int) < dr.length := by omega
      have a1 := Int.emod_nonneg k (b := dr.length) (by omega)
      have a2 := Int.emod_lt_of_pos k hz'
      have ha : atI (dr.map PyData.int) (k % (dr.length : Int)) = some (.int (dr[(k % (dr.length : Int)).toNat]'(by omega))) := by
        have hlt : (k % (dr.length : Int)).toNat < dr.length := by omega
        rw [atI_int _ _ a1 (by simpa using a2), List.getElem?_map, List.getElem?_eq_getElem hlt]
        rfl
      refine ⟨dr[(k % (dr.length : Int)).toNat]'(by omega), ?_, hd.1 _ (List.getElem_mem _)⟩
      simp [hz, ha]
    · refine ⟨0, ?_, by omega, by omega⟩
      simp [hz]
  obtain ⟨c, hc, hc0, hc1⟩ := cell
  have m1 : mulOk c 7919 = true := mulOk64 (by omega) (by decide)
  have m2 : mulOk k 104729 = true := mulOk64 (by omega) (by decide)
  by_cases hkl : k < dr.length
  · refine ⟨c % many, run_seq (ρ' := [.fz (.list (dr.map .int)), .fz (.int k), .fz (.int many), .fz (.int 0)]) (by simp) ?_, Int.emod_nonneg _ (by omega), Int.emod_lt_of_pos _ h0⟩
    rw [sSeq_nx hc]
    simp [hkl, h0]
  · refine ⟨((c * 7919 + k * 104729) / 3) % many, run_seq (ρ' := [.fz (.list (dr.map .int)), .fz (.int k), .fz (.int many), .fz (.int 0)]) (by simp) ?_, Int.emod_nonneg _ (by omega), Int.emod_lt_of_pos _ h0⟩
    rw [sSeq_nx hc]
    have l3 : Nat.log2 3 < 9000 := by decide
    simp [hkl, h0, m1, m2, l3]
end Zx
/-! Y3: dicts with int keys as lists; sizes of fractions. -/
namespace Zx
open PySem PySem.Spec L2
/-! ### dicts with int keys -/
section
variable {β : Type}
def kdE (enc : β → D) (l : List (Int × β)) : List (D × D) := l.map fun p => (.int p.1, enc p.2)
def adE (enc : β → D) (l : List (Int × β)) : D := .dict (kdE enc l)
def getE (l : List (Int × β)) (k : Int) : Option β := (l.find? fun p => p.1 == k).map (·.2)
def putE (l : List (Int × β)) (k : Int) (v : β) : List (Int × β) := if l.any (fun p => p.1 == k) then l.map (fun p => if p.1 == k then (p.1, v) else p) else l ++ [(k, v)]
def NDk (l : List (Int × β)) : Prop := (l.map (·.1)).Nodup
theorem eqv_intI (a b : Int) : PyData.eqv (.int a) (.int b) = (a == b) := by
  have e : PyData.eqv (.int a) (.int b) = decide (a = b) := rfl
  rw [e]
  by_cases h : a = b
  · subst h; simp
  · simp [h]
theorem notMkE (enc : β → D) (l : List (Int × β)) : notMk (kdE enc l) = true := by
  cases l with
  | nil => rfl
  | cons p l => rfl
theorem keyOfI (i : Int) : keyOf (.int i) = some (.inl i) := rfl
theorem dkOfE (enc : β → D) (l : List (Int × β)) (k : Int) : dkOf (adE enc l) (.int k) = some (kdE enc l) := by
  cases l with
  | nil => rfl
  | cons p l => rfl
theorem dGetE (enc : β → D) (l : List (Int × β)) (k : Int) : dGet (kdE enc l) (.int k) = (getE l k).map enc := by
  unfold dGet kdE getE
  induction l with
  | nil => rfl
  | cons p l ih =>
    rw [List.map_cons, List.find?_cons, List.find?_cons]
    simp only [eqv_intI]
    by_cases h : p.1 == k
    · simp [h]
    · simp only [h]
      exact ih
theorem dget3E (enc : β → D) (l : List (Int × β)) (k : Int) (x : D) : dgetD3 (adE enc l) (.int k) x = some (((getE l k).map enc).getD x) := by
  unfold dgetD3
  rw [dkOfE, Option.bind_some, dGetE]
theorem dgetE (enc : β → D) (l : List (Int × β)) (k : Int) : dgetD (adE enc l) (.int k) = (getE l k).map enc := by
  unfold dgetD
  rw [dkOfE, Option.bind_some, dGetE]
theorem dHasE (enc : β → D) (l : List (Int × β)) (k : Int) : dHas (kdE enc l) (.int k) = l.any fun p => p.1 == k := by
  unfold dHas kdE
  rw [List.any_map]
  congr 1
theorem dPutE (enc : β → D) (l : List (Int × β)) (k : Int) (v : β) : dPut (kdE enc l) (.int k) (enc v) = kdE enc (putE l k v) := by
  unfold dPut putE
  rw [dHasE]
  split
  · unfold kdE
    rw [List.map_map, List.map_map]
    refine List.map_congr_left fun p _ => ?_
    simp only [Function.comp, eqv_intI]
    split <;> rfl
  · unfold kdE
    rw [List.map_append]
    rfl
theorem kdE_len (enc : β → D) (l : List (Int × β)) : (kdE enc l).length = l.length := by simp [kdE]
theorem putDE (enc : β → D) (l : List (Int × β)) (k : Int) (v : β) (h : l.length < 1000000) : putD (kdE enc l) (.int k) (enc v) = some (kdE enc (putE l k v)) := by
  rw [← dPutE]
  have h2 : (kdE enc l).length < 1000000 := by rw [kdE_len]; exact h
  have h3 := notMkE enc l
  unfold putD
  split
  · rename_i r ds e1 e2
    cases e2
  · simp [h3, keyOfI, h2]
theorem putE_len (l : List (Int × β)) (k : Int) (v : β) : (putE l k v).length ≤ l.length + 1 := by
  unfold putE
  split <;> simp
theorem putE_keys (l : List (Int × β)) (k : Int) (v : β) : ∀ p ∈ putE l k v, p.1 = k ∨ ∃ q ∈ l, q.1 = p.1 := fun p hp => by
  unfold putE at hp
  split at hp
  · obtain ⟨q, h1, h2⟩ := List.mem_map.mp hp
    refine .inr ⟨q, h1, ?_⟩
    subst h2
    split <;> rfl
  · rcases List.mem_append.mp hp with h | h
    · exact .inr ⟨p, h, rfl⟩
    · rw [List.mem_singleton] at h
      subst h
      exact .inl rfl
theorem putE_nd (l : List (Int × β)) (k : Int) (v : β) (h : NDk l) : NDk (putE l k v) := by
  unfold NDk putE at *
  split
  · have e : ((l.map fun p => if p.1 == k then (p.1, v) else p).map (·.1)) = l.map (·.1) := by
      rw [List.map_map]
      refine List.map_congr_left fun p _ => ?_
      simp only [Function.comp]
      split <;> rfl
    rw [e]
    exact h
  · rename_i hn
    rw [List.map_append, List.nodup_append]
    refine ⟨h, by simp, fun x hx y hy => ?_⟩
    simp at hy
    subst hy
    rintro rfl
    obtain ⟨q, h1, h2⟩ := List.mem_map.mp hx
    exact hn (List.any_eq_true.mpr ⟨q, h1, by simpa using h2⟩)
theorem getE_mem {l : List (Int × β)} {k : Int} {v : β} (h : getE l k = some v) : (k, v) ∈ l := by
  unfold getE at h
  rw [Option.map_eq_some_iff] at h
  obtain ⟨p, h1, h2⟩ := h
  have h3 := List.mem_of_find?_eq_some h1
  have h4 := List.find?_some h1
  simp at h4
  subst h4 h2
  exact h3
theorem getE_of {l : List (Int × β)} (nd : NDk l) : ∀ {p : Int × β}, p ∈ l → getE l p.1 = some p.2 := by
  induction l with
  | nil => intro p h; cases h
  | cons q l ih =>
    intro p h
    unfold NDk at nd
    rw [List.map_cons, List.nodup_cons] at nd
    unfold getE
    rw [List.find?_cons]
    rcases List.mem_cons.mp h with rfl | h
    · simp
    · have hne : ¬ q.1 = p.1 := fun z => nd.1 (List.mem_map.mpr ⟨p, h, z.symm⟩)
      have := ih nd.2 h
      unfold getE at this
      have e : (q.1 == p.1) = false := by simpa using hne
      rw [e]
      exact this
theorem itLE (enc : β → D) (l : List (Int × β)) : itL (kdE enc l) = l.map fun p => .tuple [.int p.1, enc p.2] := by
  unfold itL kdE
  rw [List.map_map]
  rfl
theorem itemsE (enc : β → D) (ρ : Env) (j : Nat) (l : List (Int × β)) (h : ρ[j]? = some (.fz (adE enc l))) : iItemsJ j ρ = some (l.map fun p => .tuple [.int p.1, enc p.2]) := by
  unfold iItemsJ dkSlot
  rw [h]
  simp only [adE, Bool.false_eq_true, if_false, notMkE, if_true, Option.map_some, itLE]
theorem keysE (enc : β → D) (ρ : Env) (j : Nat) (l : List (Int × β)) (h : ρ[j]? = some (.fz (adE enc l))) : iKeysJ j ρ = some (l.map fun p => .int p.1) := by
  unfold iKeysJ dkSlot
  rw [h]
  simp only [adE, Bool.false_eq_true, if_false, notMkE, if_true, Option.map_some]
  unfold kdE
  rw [List.map_map]
  rfl
end
/-! ### sizes of fractions -/
def Sk (n : Nat) (q : Rat) : Prop := q.num.natAbs < 2 ^ n ∧ q.den < 2 ^ n
theorem Sk.sq {n : Nat} {q : Rat} (h : Sk n q) (hn : n ≤ 4000) : Sq q := by
  have := Nat.pow_le_pow_right (show 0 < 2 by decide) hn
  exact ⟨Nat.lt_of_lt_of_le h.1 this, Nat.lt_of_lt_of_le h.2 this⟩
theorem Sk.le {m n : Nat} {q : Rat} (h : Sk m q) (hn : m ≤ n) : Sk n q := by
  have := Nat.pow_le_pow_right (show 0 < 2 by decide) hn
  exact ⟨Nat.lt_of_lt_of_le h.1 this, Nat.lt_of_lt_of_le h.2 this⟩
theorem Sk_mk {n : Nat} {a : Int} {b : Nat} (ha : a.natAbs < 2 ^ n) (hb : b < 2 ^ n) (h0 : b ≠ 0) : Sk n (mkRat a b) := by
  unfold Sk
  rw [Rat.num_mkRat, Rat.den_mkRat, if_neg h0, if_neg h0]
  constructor
  · have : (a / ((b.gcd a.natAbs : Nat) : Int)).natAbs ≤ a.natAbs := Int.natAbs_ediv_le_natAbs _ _
    omega
  · have := Nat.div_le_self b (b.gcd a.natAbs)
    omega
theorem Sk.add {m n : Nat} {p q : Rat} (hp : Sk m p) (hq : Sk n q) : Sk (m + n + 1) (p + q) := by
  rw [Rat.add_def']
  refine Sk_mk ?_ ?_ (Nat.mul_ne_zero p.den_nz q.den_nz)
  · have h1 := pow_mul_lt hp.1 hq.2
    have h2 := pow_mul_lt hp.2 hq.1
    have e1 : (p.num * q.den).natAbs = p.num.natAbs * q.den := by rw [Int.natAbs_mul]; rfl
    have e2 : (q.num * p.den).natAbs = p.den * q.num.natAbs := by rw [Int.natAbs_mul, Nat.mul_comm]; rfl
    have := Int.natAbs_add_le (p.num * q.den) (q.num * p.den)
    rw [Nat.pow_succ]
    omega
  · have := pow_mul_lt hp.2 hq.2
    rw [Nat.pow_succ]
    omega
theorem Sk.mul {m n : Nat} {p q : Rat} (hp : Sk m p) (hq : Sk n q) : Sk (m + n) (p * q) := by
  rw [Rat.mul_def']
  refine Sk_mk ?_ (pow_mul_lt hp.2 hq.2) (Nat.mul_ne_zero p.den_nz q.den_nz)
  rw [Int.natAbs_mul]
  exact pow_mul_lt hp.1 hq.1
theorem Sk.neg {m : Nat} {p : Rat} (hp : Sk m p) : Sk m (-p) := by
  unfold Sk at *
  rw [Rat.neg_num, Rat.neg_den, Int.natAbs_neg]
  exact hp
theorem Sk_int {n : Nat} {a : Int} (h : a.natAbs < 2 ^ n) (hn : 1 ≤ n) : Sk n (a : Rat) := ⟨by simpa using h, Nat.one_lt_two_pow (by omega)⟩
theorem Sk_div {n : Nat} {a b : Int} (ha : a.natAbs < 2 ^ n) (hb : b.natAbs < 2 ^ n) (h0 : 0 < b) : Sk n ((a : Rat) / b) := by
  obtain ⟨c, rfl⟩ := Int.eq_ofNat_of_zero_le (Int.le_of_lt h0)
  have e : (a : Rat) / ((c : Int) : Rat) = mkRat a c := by rw [Rat.mkRat_eq_div]; rfl
  rw [e]
  exact Sk_mk ha (by simpa using hb) (by omega)
/-- a list of small ones has small sums -/
theorem Sk_sum {n : Nat} : ∀ (qs : List Rat), (∀ q ∈ qs, Sk n q) → Sk ((n + 1) * qs.length + 1) qs.sum
  | [], _ => ⟨Nat.two_pow_pos _, Nat.one_lt_two_pow (by omega)⟩
  | q :: qs, h => by
    rw [List.sum_cons, List.length_cons]
    have h1 := h q List.mem_cons_self
    have h2 := Sk_sum qs fun x hx => h x (List.mem_cons_of_mem _ hx)
    refine (h1.add h2).le ?_
    rw [Nat.mul_add, Nat.mul_one]
    omega
theorem total_sk {n : Nat} (qs : List Rat) (h : ∀ q ∈ qs, Sk n q) (hl : (n + 1) * qs.length + 1 ≤ 4000) (hn : n ≤ 4000) : Cm.f_total [.list (qs.map frD)] = some (frD qs.sum) := by
  refine total_eq qs (fun j => ?_) fun q hq => (h q hq).sq hn
  have h1 := Sk_sum (n := n) (qs.take j) fun q hq => h q (List.mem_of_mem_take hq)
  refine h1.sq ?_
  have h2 : (qs.take j).length ≤ qs.length := by rw [List.length_take]; omega
  have := Nat.mul_le_mul_left (n + 1) h2
  omega
end Zx
/-! Y4: comprehensions, loops that return, comparing fractions, minus, the law's own fractions. -/
namespace Zx
open PySem PySem.Spec L2
/-! ### comprehensions -/
theorem lcL_all {g : DenG} {fe : Den} {ρ : Env} (e : D → D) : ∀ (ds : List D), (∀ d ∈ ds, ∃ ρ1, g d ρ = some ρ1 ∧ fe ρ1 = some (e d)) → lcL g bYes fe ρ ds = some (ds.map e)
  | [], _ => rfl
  | d :: ds, h => by
    obtain ⟨ρ1, h1, h2⟩ := h d List.mem_cons_self
    have ih := lcL_all e ds fun x hx => h x (List.mem_cons_of_mem _ hx)
    simp [lcL, h1, h2, ih]
theorem lcL_if {g : DenG} {ft : DenB} {fe : Den} {ρ : Env} (b : D → Bool) (e : D → D) : ∀ (ds : List D), (∀ d ∈ ds, ∃ ρ1, g d ρ = some ρ1 ∧ ft ρ1 = some (b d) ∧ (b d = true → fe ρ1 = some (e d))) → lcL g ft fe ρ ds = some ((ds.filter b).map e)
  | [], _ => rfl
  | d :: ds, h => by
    obtain ⟨ρ1, h1, h2, h3⟩ := h d List.mem_cons_self
    have ih := lcL_if b e ds fun x hx => h x (List.mem_cons_of_mem _ hx)
    cases hb : b d with
    | true => simp [lcL, h1, h2, hb, h3 hb, ih]
    | false => simp [lcL, h1, h2, hb, ih]
theorem dLc_of {fi : DenI} {g : DenG} {ft : DenB} {fe : Den} {vs : List Nat} {ρ : Env} {ds out : List D} (h1 : fi ρ = some ds) (h2 : lcL g ft fe (wipeE ρ vs) ds = some out) (h3 : out.length ≤ 1000000) : dLc fi g ft fe vs ρ = some (.list out) := by
  unfold dLc
  simp [h1, h2, h3]
theorem intsOf_map : ∀ (is : List Int), intsOf (is.map .int) = some is
  | [] => rfl
  | i :: is => by
    rw [List.map_cons, intsOf, intsOf_map is]
    rfl
theorem bools_map : ∀ (is : List Bool), bools (is.map .bool) = some is
  | [] => rfl
  | i :: is => by
    rw [List.map_cons, bools, bools_map is]
    rfl
theorem frD_eqv (p q : Rat) : PyData.eqv (frD p) (frD q) = decide (p = q) := by
  have e : PyData.eqv (frD p) (frD q) = (decide (p.num = q.num) && (decide ((p.den : Int) = q.den) && true)) := rfl
  rw [e]
  by_cases h : p = q
  · subst h; simp
  · have : ¬ (p.num = q.num ∧ p.den = q.den) := fun ⟨h1, h2⟩ => h (Rat.ext h1 h2)
    simp [h]
    intro h1 h2
    exact absurd ⟨h1, by omega⟩ this
theorem neD_fr (p q : Rat) : neD (frD p) (frD q) = some (decide (p ≠ q)) := by
  have e : neD (frD p) (frD q) = some (!PyData.eqv (frD p) (frD q)) := rfl
  rw [e, frD_eqv]
  simp
theorem eqD_fr (p q : Rat) : eqD (frD p) (frD q) = some (decide (p = q)) := by
  have e : eqD (frD p) (frD q) = some (PyData.eqv (frD p) (frD q)) := rfl
  rw [e, frD_eqv]
theorem forL_ret {g : DenG} {fb : DenS} {r : D} (P : Env → Prop) : ∀ (ds : List D) (i : Nat) (d : D) (ρ : Env), ds[i]? = some d → P ρ →
    (∀ j e ρ, j < i → ds[j]? = some e → P ρ → ∃ ρ1 ρ2, g e ρ = some ρ1 ∧ fb ρ1 = some (.nx ρ2) ∧ P ρ2) → (∀ ρ, P ρ → ∃ ρ1, g d ρ = some ρ1 ∧ fb ρ1 = some (.rt r)) → forL g fb ds ρ = some (.rt r)
  | [], i, d, ρ, h, _, _, _ => by simp at h
  | e :: ds, 0, d, ρ, h, hp, _, hr => by
    simp at h
    subst h
    obtain ⟨ρ1, h1, h2⟩ := hr ρ hp
    simp only [forL, h1, h2, Option.bind_some]
  | e :: ds, i + 1, d, ρ, h, hp, hs, hr => by
    obtain ⟨ρ1, ρ2, h1, h2, h3⟩ := hs 0 e ρ (by omega) rfl hp
    simp only [forL, h1, h2, Option.bind_some]
    exact forL_ret P ds i d ρ2 (by simpa using h) h3 (fun j e' τ hj he ht => hs (j + 1) e' τ (by omega) (by simpa using he) ht) hr
namespace Cm
noncomputable def D_minus : DenS :=
  (sRet (dCall (lCons (d2 subD (d2 mulI (d2 ixD (vR 0) (kD (.int 0))) (d2 ixD (vR 1) (kD (.int 1)))) (d2 mulI (d2 ixD (vR 1) (kD (.int 0))) (d2 ixD (vR 0) (kD (.int 1))))) (lCons (d2 mulI (d2 ixD (vR 0) (kD (.int 1))) (d2 ixD (vR 1) (kD (.int 1)))) lNil)) f_fraction))
noncomputable def f_minus : List D → Option D := runX D_minus 2
noncomputable def D__law_fraction : DenS :=
  (sSeq (sPar 2 3 (lCons (d1 absD (vR 0)) (lCons (d1 absD (vR 1)) lNil)))
  (sSeq (sWh (b2 neD (vR 3) (kD (.int 0))) (sPar 2 3 (lCons (vR 3) (lCons (d2 modD (d1 intD (vR 2)) (vR 3)) lNil))))
  (sSeq (sIf (b2 ltI (vR 1) (kD (.int 0))) (sRet (mkT (lCons (d2 fdivD (d1 negD (vR 0)) (vR 2)) (lCons (d2 fdivD (d1 negD (vR 1)) (vR 2)) lNil)))) sNx)
  (sRet (mkT (lCons (d2 fdivD (vR 0) (vR 2)) (lCons (d2 fdivD (vR 1) (vR 2)) lNil)))))))
noncomputable def f__law_fraction : List D → Option D := runX D__law_fraction 4
noncomputable def D__law_plus : DenS :=
  (sRet (dCall (lCons (d2 addD (d2 mulI (d2 ixD (vR 0) (kD (.int 0))) (d2 ixD (vR 1) (kD (.int 1)))) (d2 mulI (d2 ixD (vR 1) (kD (.int 0))) (d2 ixD (vR 0) (kD (.int 1))))) (lCons (d2 mulI (d2 ixD (vR 0) (kD (.int 1))) (d2 ixD (vR 1) (kD (.int 1)))) lNil)) f__law_fraction))
noncomputable def f__law_plus : List D → Option D := runX D__law_plus 2
noncomputable def D__law_times : DenS :=
  (sRet (dCall (lCons (d2 mulI (d2 ixD (vR 0) (kD (.int 0))) (d2 ixD (vR 1) (kD (.int 0)))) (lCons (d2 mulI (d2 ixD (vR 0) (kD (.int 1))) (d2 ixD (vR 1) (kD (.int 1)))) lNil)) f__law_fraction))
noncomputable def f__law_times : List D → Option D := runX D__law_times 2
end Cm
theorem minus_eq (p q : Rat) (hp : Sq p) (hq : Sq q) : Cm.f_minus [frD p, frD q] = some (frD (p - q)) := by
  have hw : ∀ a b : Nat, a < 2 ^ 4000 → b < 2 ^ 4000 → a * b < 2 ^ 9000 := fun a b ha hb => Nat.lt_of_lt_of_le (pow_mul_lt ha hb) (Nat.pow_le_pow_right (by decide) (by decide))
  have h1 : ∀ a b : Int, a.natAbs < 2 ^ 4000 → b.natAbs < 2 ^ 4000 → mulOk a b = true := fun a b ha hb => mulOk_of (Nat.lt_of_lt_of_le ha (Nat.pow_le_pow_right (by decide) (by decide))) (Nat.lt_of_lt_of_le hb (Nat.pow_le_pow_right (by decide) (by decide)))
  have e1 := h1 p.num q.den hp.1 (by simpa using hq.2)
  have e2 := h1 q.num p.den hq.1 (by simpa using hp.2)
  have e3 := h1 p.den q.den (by simpa using hp.2) (by simpa using hq.2)
  have hd : ((p.den : Int) * (q.den : Int)) ≠ 0 := by
    have := p.den_nz; have := q.den_nz
    exact Int.mul_ne_zero (by omega) (by omega)
  have key := fraction_eq (p.num * q.den - q.num * p.den) (p.den * q.den) hd (by rw [Int.natAbs_mul]; exact hw _ _ (by simpa using hp.2) (by simpa using hq.2))
  have e4 : ((p.num * q.den - q.num * p.den : Int) : Rat) / ((p.den * q.den : Int) : Rat) = p - q := by
    rw [← Rat.divInt_eq_div, ← Int.natCast_mul, Rat.divInt_ofNat, Rat.sub_def']
  rw [e4] at key
  unfold Cm.f_minus Cm.D_minus
  simp [frD, e1, e2, e3] at key ⊢
  rw [key]
  rfl
theorem gcd_loop2 (n d : D) : ∀ (b a : Nat), ∃ m, whL (b2 neD (vR 3) (kD (.int 0))) (sPar 2 3 (lCons (vR 3) (lCons (d2 modD (d1 intD (vR 2)) (vR 3)) lNil))) m [.fz n, .fz d, .fz (.int a), .fz (.int b)] = some (.nx [.fz n, .fz d, .fz (.int (Nat.gcd a b : Nat)), .fz (.int 0)]) := by
  intro b
  induction b using Nat.strongRecOn with
  | ind b ih =>
    intro a
    have hne : neD (.int b) (.int 0) = some (decide (b ≠ 0)) := by
      have e : neD (.int b) (.int 0) = some (!decide ((b : Int) = 0)) := rfl
      rw [e]
      simp
    by_cases hb : b = 0
    · subst hb
      refine ⟨1, ?_⟩
      simp [whL, hne]
      rfl
    · obtain ⟨m, hn⟩ := ih (a % b) (Nat.mod_lt _ (by omega)) b
      refine ⟨m + 1, ?_⟩
      have hpos : 0 < b := by omega
      have e : Nat.gcd a b = Nat.gcd b (a % b) := by rw [Nat.gcd_comm, Nat.gcd_rec, Nat.gcd_comm]
      rw [e, ← hn]
      simp [whL, hne, hb, hpos]
theorem absI (a : Int) : (if a < 0 then -a else a) = (a.natAbs : Int) := by split <;> omega
theorem lfrac_eq (a b : Int) (hb : 0 < b) (h1 : b.natAbs < 2 ^ 9000) : Cm.f__law_fraction [.int a, .int b] = some (frD ((a : Rat) / b)) := by
  have hg : 0 < Nat.gcd a.natAbs b.natAbs := Nat.gcd_pos_of_pos_right _ (by omega)
  have hl : (Nat.gcd a.natAbs b.natAbs).log2 < 9000 := log2_lt (Nat.lt_of_le_of_lt (Nat.gcd_le_right _ (by omega)) h1) (by decide)
  have key : frD ((a : Rat) / b) = .tuple [.int (a / (Nat.gcd a.natAbs b.natAbs : Nat)), .int (b / (Nat.gcd a.natAbs b.natAbs : Nat))] := by
    unfold frD
    rw [← Rat.divInt_eq_div, Rat.num_divInt, Rat.den_divInt, if_neg (by omega)]
    have e1 : b.sign = 1 := Int.sign_eq_one_of_pos hb
    have e2 : b.gcd a = Nat.gcd a.natAbs b.natAbs := by rw [Int.gcd_comm]; rfl
    have e3 : ((b.natAbs : Nat) : Int) = b := by omega
    rw [e1, e2, Int.one_mul, Int.natCast_ediv, e3]
  unfold Cm.f__law_fraction Cm.D__law_fraction
  refine run_seq (ρ' := [.fz (.int a), .fz (.int b), .fz (.int a.natAbs), .fz (.int b.natAbs)]) (by simp [absI]) ?_
  obtain ⟨m, hn⟩ := gcd_loop2 (.int a) (.int b) b.natAbs a.natAbs
  rw [sSeq_nx (sWh_of hn), key]
  have hnb : ¬ b < 0 := by omega
  simp [hnb, hl, hg]
theorem lplus_eq (p q : Rat) (hp : Sq p) (hq : Sq q) : Cm.f__law_plus [frD p, frD q] = some (frD (p + q)) := by
  have hw : ∀ a b : Nat, a < 2 ^ 4000 → b < 2 ^ 4000 → a * b < 2 ^ 9000 := fun a b ha hb => Nat.lt_of_lt_of_le (pow_mul_lt ha hb) (Nat.pow_le_pow_right (by decide) (by decide))
  have h1 : ∀ a b : Int, a.natAbs < 2 ^ 4000 → b.natAbs < 2 ^ 4000 → mulOk a b = true := fun a b ha hb => mulOk_of (Nat.lt_of_lt_of_le ha (Nat.pow_le_pow_right (by decide) (by decide))) (Nat.lt_of_lt_of_le hb (Nat.pow_le_pow_right (by decide) (by decide)))
  have e1 := h1 p.num q.den hp.1 (by simpa using hq.2)
  have e2 := h1 q.num p.den hq.1 (by simpa using hp.2)
  have e3 := h1 p.den q.den (by simpa using hp.2) (by simpa using hq.2)
  have hd : 0 < ((p.den : Int) * (q.den : Int)) := by
    have := p.den_pos; have := q.den_pos
    exact Int.mul_pos (by omega) (by omega)
  have key := lfrac_eq (p.num * q.den + q.num * p.den) (p.den * q.den) hd (by rw [Int.natAbs_mul]; exact hw _ _ (by simpa using hp.2) (by simpa using hq.2))
  have e4 : ((p.num * q.den + q.num * p.den : Int) : Rat) / ((p.den * q.den : Int) : Rat) = p + q := by
    rw [← Rat.divInt_eq_div, ← Int.natCast_mul, Rat.divInt_ofNat, Rat.add_def']
  rw [e4] at key
  unfold Cm.f__law_plus Cm.D__law_plus
  simp [frD, e1, e2, e3] at key ⊢
  rw [key]
  rfl
theorem ltimes_eq (p q : Rat) (hp : Sq p) (hq : Sq q) : Cm.f__law_times [frD p, frD q] = some (frD (p * q)) := by
  have hw : ∀ a b : Nat, a < 2 ^ 4000 → b < 2 ^ 4000 → a * b < 2 ^ 9000 := fun a b ha hb => Nat.lt_of_lt_of_le (pow_mul_lt ha hb) (Nat.pow_le_pow_right (by decide) (by decide))
  have h1 : ∀ a b : Int, a.natAbs < 2 ^ 4000 → b.natAbs < 2 ^ 4000 → mulOk a b = true := fun a b ha hb => mulOk_of (Nat.lt_of_lt_of_le ha (Nat.pow_le_pow_right (by decide) (by decide))) (Nat.lt_of_lt_of_le hb (Nat.pow_le_pow_right (by decide) (by decide)))
  have e1 := h1 p.num q.num hp.1 hq.1
  have e3 := h1 p.den q.den (by simpa using hp.2) (by simpa using hq.2)
  have hd : 0 < ((p.den : Int) * (q.den : Int)) := by
    have := p.den_pos; have := q.den_pos
    exact Int.mul_pos (by omega) (by omega)
  have key := lfrac_eq (p.num * q.num) (p.den * q.den) hd (by rw [Int.natAbs_mul]; exact hw _ _ (by simpa using hp.2) (by simpa using hq.2))
  have e4 : ((p.num * q.num : Int) : Rat) / ((p.den * q.den : Int) : Rat) = p * q := by
    rw [← Rat.divInt_eq_div, ← Int.natCast_mul, Rat.divInt_ofNat, Rat.mul_def']
  rw [e4] at key
  unfold Cm.f__law_times Cm.D__law_times
  simp [frD, e1, e3] at key ⊢
  rw [key]
  rfl
end Zx
/-! Y5: over, is_fraction, is_share; simp lemmas of the later layer. -/
namespace Zx
open PySem PySem.Spec L2
@[simp] theorem sStL_s (i : Nat) (fj fd : Den) {ρ : Env} : sStL i fj fd ρ = ((fd ρ).bind fun d => (fj ρ).bind fun j => (owL ρ i).bind fun xs => match j with | .int j => (ixN xs.length j).bind fun n => some (.nx (ρ.set i (.ow (.list (xs.set n d))))) | _ => none) := (rfl)
@[simp] theorem iZpX_s (f g : Den) {ρ : Env} : iZpX f g ρ = ((f ρ).bind fun x => (g ρ).bind fun y => match x, y with | .tuple xs, .list ys => some (zipL xs ys) | .list xs, .list ys => some (zipL xs ys) | _, _ => none) := (rfl)
@[simp] theorem sRetOwn_s (i : Nat) {ρ : Env} : sRetOwn i ρ = (match ρ[i]? with | some (.ow d) => some (.rn d) | _ => none) := (rfl)
theorem ixN_nat {n k : Nat} (h : k < n) : ixN n (k : Int) = some k := by
  unfold ixN
  simp [h]
theorem eqD_i (a b : Int) : eqD (.int a) (.int b) = some (decide (a = b)) := rfl
theorem neD_i (a b : Int) : neD (.int a) (.int b) = some (decide (a ≠ b)) := by
  have e : neD (.int a) (.int b) = some (!decide (a = b)) := rfl
  rw [e]
  simp
namespace Cm
noncomputable def D_over : DenS :=
  (sRet (dCall (lCons (d2 mulI (d2 ixD (vR 0) (kD (.int 0))) (d2 ixD (vR 1) (kD (.int 1)))) (lCons (d2 mulI (d2 ixD (vR 0) (kD (.int 1))) (d2 ixD (vR 1) (kD (.int 0)))) lNil)) f_fraction))
noncomputable def f_over : List D → Option D := runX D_over 2
noncomputable def D_is_fraction : DenS :=
  (sRet (dAnd (bV (b2 gtI (d2 ixD (vR 0) (kD (.int 1))) (kD (.int 0)))) (bV (b2 eqD (d2 gcdD (d2 ixD (vR 0) (kD (.int 0))) (d2 ixD (vR 0) (kD (.int 1)))) (kD (.int 1))))))
noncomputable def f_is_fraction : List D → Option D := runX D_is_fraction 1
noncomputable def D_is_share : DenS :=
  (sRet (dAnd (dCall (lCons (vR 0) lNil) f_is_fraction) (bV (bCh leI leI (kD (.int 0)) (d2 ixD (vR 0) (kD (.int 0))) (d2 ixD (vR 0) (kD (.int 1)))))))
noncomputable def f_is_share : List D → Option D := runX D_is_share 1
end Cm
theorem over_eq (p q : Rat) (hp : Sq p) (hq : Sq q) (h0 : q ≠ 0) : Cm.f_over [frD p, frD q] = some (frD (p / q)) := by
  have hw : ∀ a b : Nat, a < 2 ^ 4000 → b < 2 ^ 4000 → a * b < 2 ^ 9000 := fun a b ha hb => Nat.lt_of_lt_of_le (pow_mul_lt ha hb) (Nat.pow_le_pow_right (by decide) (by decide))
  have h1 : ∀ a b : Int, a.natAbs < 2 ^ 4000 → b.natAbs < 2 ^ 4000 → mulOk a b = true := fun a b ha hb => mulOk_of (Nat.lt_of_lt_of_le ha (Nat.pow_le_pow_right (by decide) (by decide))) (Nat.lt_of_lt_of_le hb (Nat.pow_le_pow_right (by decide) (by decide)))
  have e1 := h1 p.num q.den hp.1 (by simpa using hq.2)
  have e3 := h1 p.den q.num (by simpa using hp.2) hq.1
  have hn : q.num ≠ 0 := fun z => h0 (Rat.num_eq_zero.mp z)
  have hd : ((p.den : Int) * q.num) ≠ 0 := by
    have := p.den_nz
    exact Int.mul_ne_zero (by omega) hn
  have key := fraction_eq (p.num * q.den) (p.den * q.num) hd (by rw [Int.natAbs_mul]; exact hw _ _ (by simpa using hp.2) hq.1)
  have e4 : ((p.num * q.den : Int) : Rat) / ((p.den * q.num : Int) : Rat) = p / q := by
    have hp' : (p.num : Rat) / ((p.den : Int) : Rat) = p := by rw [← Rat.divInt_eq_div]; exact Rat.num_divInt_den p
    have hq' : (q.num : Rat) / ((q.den : Int) : Rat) = q := by rw [← Rat.divInt_eq_div]; exact Rat.num_divInt_den q
    have n1 : ((p.den : Int) : Rat) ≠ 0 := fun z => p.den_nz (by have := Rat.intCast_eq_zero_iff.mp z; omega)
    have n2 : ((q.den : Int) : Rat) ≠ 0 := fun z => q.den_nz (by have := Rat.intCast_eq_zero_iff.mp z; omega)
    have n3 : ((q.num : Int) : Rat) ≠ 0 := fun z => hn (Rat.intCast_eq_zero_iff.mp z)
    have hp2 : p = (p.num : Rat) / ((p.den : Int) : Rat) := hp'.symm
    have hq2 : q = (q.num : Rat) / ((q.den : Int) : Rat) := hq'.symm
    rw [Rat.intCast_mul, Rat.intCast_mul]
    generalize ((p.num : Int) : Rat) = a at *
    generalize ((p.den : Int) : Rat) = b at *
    generalize ((q.num : Int) : Rat) = c at *
    generalize ((q.den : Int) : Rat) = d at *
    rw [hp2, hq2]
    grind
  rw [e4] at key
  unfold Cm.f_over Cm.D_over
  simp [frD, e1, e3] at key ⊢
  rw [key]
  rfl
theorem is_fraction_eq (q : Rat) : Cm.f_is_fraction [frD q] = some (.bool true) := by
  have h1 : 0 < q.den := q.den_pos
  have h2 : Nat.gcd q.num.natAbs q.den = 1 := q.reduced
  unfold Cm.f_is_fraction Cm.D_is_fraction
  simp [frD, h1, h2, eqD_i, dAnd]
theorem is_share_eq (q : Rat) (h0 : 0 ≤ q) (h1 : q ≤ 1) : Cm.f_is_share [frD q] = some (.bool true) := by
  have n0 : 0 ≤ q.num := Rat.num_nonneg.mpr h0
  have n1 : q.num ≤ q.den := by
    have := (Rat.le_iff q 1).mp h1
    simpa using this
  have hf := is_fraction_eq q
  unfold Cm.f_is_share Cm.D_is_share
  simp [hf, dAnd]
  simp [frD, n0, n1]
end Zx
/-! Y6: the laws' own fractions, with gcd by a loop; both kinds of _law_low. -/
namespace Zx
open PySem PySem.Spec L2
namespace Cm
noncomputable def D_lgcd : DenS :=
  (sSeq (sWh (b2 neD (vR 1) (kD (.int 0))) (sAsg (gLs (gsCons (gN 0) (gsCons (gN 1) gsNil)) 2) (mkL (lCons (vR 1) (lCons (d2 modD (d1 intD (vR 0)) (vR 1)) lNil)))))
  (sRet (d1 absD (vR 0))))
noncomputable def f_lgcd : List D → Option D := runX D_lgcd 2
noncomputable def D_lowA : DenS :=
  (sSeq (sSet 2 (dCall (lCons (vR 0) (lCons (vR 1) lNil)) f_lgcd))
  (sSeq (sIf (b2 ltI (vR 1) (kD (.int 0))) (sSet 2 (d1 negD (vR 2))) sNx)
  (sRet (mkT (lCons (d1 intD (d2 fdivD (vR 0) (vR 2))) (lCons (d1 intD (d2 fdivD (vR 1) (vR 2))) lNil))))))
noncomputable def f_lowA : List D → Option D := runX D_lowA 3
noncomputable def D_lowB : DenS :=
  (sSeq (sSet 2 (dCall (lCons (vR 0) (lCons (vR 1) lNil)) f_lgcd))
  (sRet (mkT (lCons (d1 intD (d2 fdivD (vR 0) (vR 2))) (lCons (d1 intD (d2 fdivD (vR 1) (vR 2))) lNil)))))
noncomputable def f_lowB : List D → Option D := runX D_lowB 3
noncomputable def f_lp (low : List D → Option D) : List D → Option D := runX (sRet (dCall (lCons (d2 addD (d2 mulI (d2 ixD (vR 0) (kD (.int 0))) (d2 ixD (vR 1) (kD (.int 1)))) (d2 mulI (d2 ixD (vR 1) (kD (.int 0))) (d2 ixD (vR 0) (kD (.int 1))))) (lCons (d2 mulI (d2 ixD (vR 0) (kD (.int 1))) (d2 ixD (vR 1) (kD (.int 1)))) lNil)) low)) 2
noncomputable def f_lm (low : List D → Option D) : List D → Option D := runX (sRet (dCall (lCons (d2 subD (d2 mulI (d2 ixD (vR 0) (kD (.int 0))) (d2 ixD (vR 1) (kD (.int 1)))) (d2 mulI (d2 ixD (vR 1) (kD (.int 0))) (d2 ixD (vR 0) (kD (.int 1))))) (lCons (d2 mulI (d2 ixD (vR 0) (kD (.int 1))) (d2 ixD (vR 1) (kD (.int 1)))) lNil)) low)) 2
noncomputable def f_lt (low : List D → Option D) : List D → Option D := runX (sRet (dCall (lCons (d2 mulI (d2 ixD (vR 0) (kD (.int 0))) (d2 ixD (vR 1) (kD (.int 0)))) (lCons (d2 mulI (d2 ixD (vR 0) (kD (.int 1))) (d2 ixD (vR 1) (kD (.int 1)))) lNil)) low)) 2
noncomputable def f_lo (low : List D → Option D) : List D → Option D := runX (sRet (dCall (lCons (d2 mulI (d2 ixD (vR 0) (kD (.int 0))) (d2 ixD (vR 1) (kD (.int 1)))) (lCons (d2 mulI (d2 ixD (vR 0) (kD (.int 1))) (d2 ixD (vR 1) (kD (.int 0)))) lNil)) low)) 2
noncomputable def f_ll : List D → Option D := runX (sRet (bV (b2 ltI (d2 mulI (d2 ixD (vR 0) (kD (.int 0))) (d2 ixD (vR 1) (kD (.int 1)))) (d2 mulI (d2 ixD (vR 1) (kD (.int 0))) (d2 ixD (vR 0) (kD (.int 1))))))) 2
end Cm
theorem lgcd_loop : ∀ (b a : Nat), ∃ n, whL (b2 neD (vR 1) (kD (.int 0))) (sAsg (gLs (gsCons (gN 0) (gsCons (gN 1) gsNil)) 2) (mkL (lCons (vR 1) (lCons (d2 modD (d1 intD (vR 0)) (vR 1)) lNil)))) n [.fz (.int a), .fz (.int b)] = some (.nx [.fz (.int (Nat.gcd a b : Nat)), .fz (.int 0)]) := by
  intro b
  induction b using Nat.strongRecOn with
  | ind b ih =>
    intro a
    have hne : neD (.int b) (.int 0) = some (decide (b ≠ 0)) := by
      have e : neD (.int b) (.int 0) = some (!decide ((b : Int) = 0)) := rfl
      rw [e]
      simp
    by_cases hb : b = 0
    · subst hb
      refine ⟨1, ?_⟩
      simp [whL, hne]
      rfl
    · obtain ⟨n, hn⟩ := ih (a % b) (Nat.mod_lt _ (by omega)) b
      refine ⟨n + 1, ?_⟩
      have hpos : 0 < b := by omega
      have e : Nat.gcd a b = Nat.gcd b (a % b) := by rw [Nat.gcd_comm, Nat.gcd_rec, Nat.gcd_comm]
      rw [e, ← hn]
      simp [whL, hne, hb, hpos]
theorem lgcd_int (a : Int) (b : Nat) (hb : 0 < b) : Cm.f_lgcd [.int a, .int b] = some (.int (Nat.gcd a.natAbs b : Nat)) := by
  have h0 : 0 ≤ a % (b : Int) := Int.emod_nonneg _ (by omega)
  obtain ⟨c, hc⟩ := Int.eq_ofNat_of_zero_le h0
  obtain ⟨n, hn⟩ := lgcd_loop c b
  have hg : Nat.gcd b c = Nat.gcd a.natAbs b := by
    have h1 : Int.gcd a b = Int.gcd (a % b) b := by
      rw [Int.emod_def, Int.gcd_sub_mul_left_left]
    have h2 : Int.gcd a b = Nat.gcd a.natAbs b := rfl
    rw [← h2, h1, hc, Int.gcd_comm]
    rfl
  have hne : neD (.int (b : Nat)) (.int 0) = some true := by
    rw [neD_i]
    simp
    omega
  have hw : whL (b2 neD (vR 1) (kD (.int 0))) (sAsg (gLs (gsCons (gN 0) (gsCons (gN 1) gsNil)) 2) (mkL (lCons (vR 1) (lCons (d2 modD (d1 intD (vR 0)) (vR 1)) lNil)))) (n + 1) [.fz (.int a), .fz (.int b)] = some (.nx [.fz (.int (Nat.gcd a.natAbs b : Nat)), .fz (.int 0)]) := by
    rw [← hg, ← hn]
    have : whL (b2 neD (vR 1) (kD (.int 0))) (sAsg (gLs (gsCons (gN 0) (gsCons (gN 1) gsNil)) 2) (mkL (lCons (vR 1) (lCons (d2 modD (d1 intD (vR 0)) (vR 1)) lNil)))) (n + 1) [.fz (.int a), .fz (.int b)] = whL (b2 neD (vR 1) (kD (.int 0))) (sAsg (gLs (gsCons (gN 0) (gsCons (gN 1) gsNil)) 2) (mkL (lCons (vR 1) (lCons (d2 modD (d1 intD (vR 0)) (vR 1)) lNil)))) n [.fz (.int b), .fz (.int c)] := by
      rw [whL]
      simp [hne, hb, hc]
    exact this
  unfold Cm.f_lgcd Cm.D_lgcd
  refine run_seq (ρ' := [.fz (.int (Nat.gcd a.natAbs b : Nat)), .fz (.int 0)]) (sWh_of hw) ?_
  simp
  intro h
  omega
theorem low_key (a : Int) (b : Nat) (hb : 0 < b) : frD ((a : Rat) / ((b : Int) : Rat)) = .tuple [.int (a / (Nat.gcd a.natAbs b : Nat)), .int ((b : Int) / (Nat.gcd a.natAbs b : Nat))] := by
  unfold frD
  rw [← Rat.divInt_eq_div, Rat.num_divInt, Rat.den_divInt, if_neg (by omega)]
  have e1 : (b : Int).sign = 1 := Int.sign_eq_one_of_pos (by omega)
  have e2 : (b : Int).gcd a = Nat.gcd a.natAbs b := by rw [Int.gcd_comm]; rfl
  rw [e1, e2, Int.one_mul, Int.natCast_ediv]
  rfl
theorem gcd_log (a : Int) (b : Nat) (hb : 0 < b) (h1 : b < 2 ^ 9000) : 0 < Nat.gcd a.natAbs b ∧ (Nat.gcd a.natAbs b).log2 < 9000 := ⟨Nat.gcd_pos_of_pos_right _ hb, log2_lt (Nat.lt_of_le_of_lt (Nat.gcd_le_right _ hb) h1) (by decide)⟩
theorem lowA_eq (a b : Int) (hb : 0 < b) (h1 : b.natAbs < 2 ^ 9000) : Cm.f_lowA [.int a, .int b] = some (frD ((a : Rat) / b)) := by
  obtain ⟨c, rfl⟩ := Int.eq_ofNat_of_zero_le (Int.le_of_lt hb)
  have hc : 0 < c := by omega
  have h2 : c < 2 ^ 9000 := h1
  obtain ⟨g1, g2⟩ := gcd_log a c hc h2
  have hg := lgcd_int a c hc
  have hn : ¬ (c : Int) < 0 := by omega
  unfold Cm.f_lowA Cm.D_lowA
  rw [low_key a c hc]
  simp [hg, hn, g1, g2]
theorem lowB_eq (a b : Int) (hb : 0 < b) (h1 : b.natAbs < 2 ^ 9000) : Cm.f_lowB [.int a, .int b] = some (frD ((a : Rat) / b)) := by
  obtain ⟨c, rfl⟩ := Int.eq_ofNat_of_zero_le (Int.le_of_lt hb)
  have hc : 0 < c := by omega
  have h2 : c < 2 ^ 9000 := h1
  obtain ⟨g1, g2⟩ := gcd_log a c hc h2
  have hg := lgcd_int a c hc
  unfold Cm.f_lowB Cm.D_lowB
  rw [low_key a c hc]
  simp [hg, g1, g2]
section
variable {low : List D → Option D} (hl : ∀ a b : Int, 0 < b → b.natAbs < 2 ^ 9000 → low [.int a, .int b] = some (frD ((a : Rat) / b)))
theorem sq_w : ∀ a b : Nat, a < 2 ^ 4000 → b < 2 ^ 4000 → a * b < 2 ^ 9000 := fun a b ha hb => Nat.lt_of_lt_of_le (pow_mul_lt ha hb) (Nat.pow_le_pow_right (by decide) (by decide))
theorem sq_mul : ∀ a b : Int, a.natAbs < 2 ^ 4000 → b.natAbs < 2 ^ 4000 → mulOk a b = true := fun a b ha hb => mulOk_of (Nat.lt_of_lt_of_le ha (Nat.pow_le_pow_right (by decide) (by decide))) (Nat.lt_of_lt_of_le hb (Nat.pow_le_pow_right (by decide) (by decide)))
include hl
theorem lp_eq (p q : Rat) (hp : Sq p) (hq : Sq q) : Cm.f_lp low [frD p, frD q] = some (frD (p + q)) := by
  have e1 := sq_mul p.num q.den hp.1 (by simpa using hq.2)
  have e2 := sq_mul q.num p.den hq.1 (by simpa using hp.2)
  have e3 := sq_mul p.den q.den (by simpa using hp.2) (by simpa using hq.2)
  have hd : 0 < ((p.den : Int) * (q.den : Int)) := by
    have := p.den_pos; have := q.den_pos
    exact Int.mul_pos (by omega) (by omega)
  have key := hl (p.num * q.den + q.num * p.den) (p.den * q.den) hd (by rw [Int.natAbs_mul]; exact sq_w _ _ (by simpa using hp.2) (by simpa using hq.2))
  have e4 : ((p.num * q.den + q.num * p.den : Int) : Rat) / ((p.den * q.den : Int) : Rat) = p + q := by
    rw [← Rat.divInt_eq_div, ← Int.natCast_mul, Rat.divInt_ofNat, Rat.add_def']
  rw [e4] at key
  unfold Cm.f_lp
  simp [frD, e1, e2, e3] at key ⊢
  rw [key]
  rfl
theorem lm_eq (p q : Rat) (hp : Sq p) (hq : Sq q) : Cm.f_lm low [frD p, frD q] = some (frD (p - q)) := by
  have e1 := sq_mul p.num q.den hp.1 (by simpa using hq.2)
  have e2 := sq_mul q.num p.den hq.1 (by simpa using hp.2)
  have e3 := sq_mul p.den q.den (by simpa using hp.2) (by simpa using hq.2)
  have hd : 0 < ((p.den : Int) * (q.den : Int)) := by
    have := p.den_pos; have := q.den_pos
    exact Int.mul_pos (by omega) (by omega)
  have key := hl (p.num * q.den - q.num * p.den) (p.den * q.den) hd (by rw [Int.natAbs_mul]; exact sq_w _ _ (by simpa using hp.2) (by simpa using hq.2))
  have e4 : ((p.num * q.den - q.num * p.den : Int) : Rat) / ((p.den * q.den : Int) : Rat) = p - q := by
    rw [← Rat.divInt_eq_div, ← Int.natCast_mul, Rat.divInt_ofNat, Rat.sub_def']
  rw [e4] at key
  unfold Cm.f_lm
  simp [frD, e1, e2, e3] at key ⊢
  rw [key]
  rfl
theorem lt_eq (p q : Rat) (hp : Sq p) (hq : Sq q) : Cm.f_lt low [frD p, frD q] = some (frD (p * q)) := by
  have e1 := sq_mul p.num q.num hp.1 hq.1
  have e3 := sq_mul p.den q.den (by simpa using hp.2) (by simpa using hq.2)
  have hd : 0 < ((p.den : Int) * (q.den : Int)) := by
    have := p.den_pos; have := q.den_pos
    exact Int.mul_pos (by omega) (by omega)
  have key := hl (p.num * q.num) (p.den * q.den) hd (by rw [Int.natAbs_mul]; exact sq_w _ _ (by simpa using hp.2) (by simpa using hq.2))
  have e4 : ((p.num * q.num : Int) : Rat) / ((p.den * q.den : Int) : Rat) = p * q := by
    rw [← Rat.divInt_eq_div, ← Int.natCast_mul, Rat.divInt_ofNat, Rat.mul_def']
  rw [e4] at key
  unfold Cm.f_lt
  simp [frD, e1, e3] at key ⊢
  rw [key]
  rfl
theorem lo_eq (p q : Rat) (hp : Sq p) (hq : Sq q) (h0 : 0 < q) : Cm.f_lo low [frD p, frD q] = some (frD (p / q)) := by
  have e1 := sq_mul p.num q.den hp.1 (by simpa using hq.2)
  have e3 := sq_mul p.den q.num (by simpa using hp.2) hq.1
  have hn : 0 < q.num := by
    have h1 : 0 ≤ q.num := Rat.num_nonneg.mpr (by grind)
    have h2 : q.num ≠ 0 := fun z => by
      have := Rat.num_eq_zero.mp z
      grind
    omega
  have hd : 0 < ((p.den : Int) * q.num) := by
    have := p.den_pos
    exact Int.mul_pos (by omega) (by omega)
  have key := hl (p.num * q.den) (p.den * q.num) hd (by rw [Int.natAbs_mul]; exact sq_w _ _ (by simpa using hp.2) hq.1)
  have e4 : ((p.num * q.den : Int) : Rat) / ((p.den * q.num : Int) : Rat) = p / q := by
    have hp' : (p.num : Rat) / ((p.den : Int) : Rat) = p := by rw [← Rat.divInt_eq_div]; exact Rat.num_divInt_den p
    have hq' : (q.num : Rat) / ((q.den : Int) : Rat) = q := by rw [← Rat.divInt_eq_div]; exact Rat.num_divInt_den q
    have n1 : ((p.den : Int) : Rat) ≠ 0 := fun z => p.den_nz (by have := Rat.intCast_eq_zero_iff.mp z; omega)
    have n2 : ((q.den : Int) : Rat) ≠ 0 := fun z => q.den_nz (by have := Rat.intCast_eq_zero_iff.mp z; omega)
    have n3 : ((q.num : Int) : Rat) ≠ 0 := fun z => by have := Rat.intCast_eq_zero_iff.mp z; omega
    have hp2 : p = (p.num : Rat) / ((p.den : Int) : Rat) := hp'.symm
    have hq2 : q = (q.num : Rat) / ((q.den : Int) : Rat) := hq'.symm
    rw [Rat.intCast_mul, Rat.intCast_mul]
    clear key hd e1 e3 hn h0
    generalize ((p.num : Int) : Rat) = a at *
    generalize ((p.den : Int) : Rat) = b at *
    generalize ((q.num : Int) : Rat) = c at *
    generalize ((q.den : Int) : Rat) = d at *
    rw [hp2, hq2]
    grind
  rw [e4] at key
  unfold Cm.f_lo
  simp [frD, e1, e3] at key ⊢
  rw [key]
  rfl
omit hl
theorem ll_eq (p q : Rat) (hp : Sq p) (hq : Sq q) : Cm.f_ll [frD p, frD q] = some (.bool (decide (p < q))) := by
  have e1 := sq_mul p.num q.den hp.1 (by simpa using hq.2)
  have e2 := sq_mul q.num p.den hq.1 (by simpa using hp.2)
  unfold Cm.f_ll
  simp [frD, e1, e2]
  rw [Rat.lt_iff]
end
end Zx
/-! Y7: encodings that may be compared. -/
namespace Zx
open PySem PySem.Spec L2
structure EncOk {α : Type} (enc : α → D) (n : Nat) : Prop where
  can : ∀ a, PyData.canLay0 (enc a) = true
  dep : ∀ a, PyData.depth (enc a) ≤ n
  inj : ∀ a b, PyData.eqv (enc a) (enc b) = true ↔ a = b
section
variable {α β γ : Type} {ea : α → D} {eb : β → D} {ec : γ → D} {m n k : Nat}
theorem EncOk.shaped (h : EncOk ea n) (hn : n ≤ 64) (a : α) : SeqAt.shaped (ea a) = true := by
  unfold SeqAt.shaped
  have := h.dep a
  rw [h.can a, decide_eq_true (show PyData.depth (ea a) ≤ 64 by omega)]
  rfl
theorem EncOk.eqv_of [DecidableEq α] (h : EncOk ea n) (a b : α) : PyData.eqv (ea a) (ea b) = decide (a = b) := by
  by_cases e : a = b
  · rw [decide_eq_true e, (h.inj a b).mpr e]
  · rw [decide_eq_false e]
    cases hb : PyData.eqv (ea a) (ea b) with
    | false => rfl
    | true => exact absurd ((h.inj a b).mp hb) e
theorem EncOk.ne [DecidableEq α] (h : EncOk ea n) (hn : n ≤ 64) (a b : α) : neD (ea a) (ea b) = some (decide (a ≠ b)) := by
  unfold neD
  rw [h.shaped hn a, h.shaped hn b, h.eqv_of]
  simp
theorem EncOk.eq [DecidableEq α] (h : EncOk ea n) (hn : n ≤ 64) (a b : α) : eqD (ea a) (ea b) = some (decide (a = b)) := by
  unfold eqD
  rw [h.shaped hn a, h.shaped hn b, h.eqv_of]
  simp
theorem EncOk.ne_self (h : EncOk ea n) (hn : n ≤ 64) (a : α) : neD (ea a) (ea a) = some false := by
  unfold neD
  rw [h.shaped hn a, (h.inj a a).mpr rfl]
  simp
theorem EncOk.eq_self (h : EncOk ea n) (hn : n ≤ 64) (a : α) : eqD (ea a) (ea a) = some true := by
  unfold eqD
  rw [h.shaped hn a, (h.inj a a).mpr rfl]
  simp
theorem EncOk.le (h : EncOk ea n) (hn : n ≤ m) : EncOk ea m := ⟨h.can, fun a => Nat.le_trans (h.dep a) hn, h.inj⟩
theorem EncOk.comp (h : EncOk ea n) (f : β → α) (hf : ∀ a b, f a = f b → a = b) : EncOk (fun b => ea (f b)) n := ⟨fun b => h.can _, fun b => h.dep _, fun a b => ⟨fun e => hf a b ((h.inj _ _).mp e), fun e => by rw [e]; exact (h.inj _ _).mpr rfl⟩⟩
theorem enc_int : EncOk (fun i : Int => PyData.int i) 0 := ⟨fun _ => rfl, fun _ => Nat.le_refl 0, fun a b => by
  have e : PyData.eqv (.int a) (.int b) = (a == b) := rfl
  rw [e]
  simp⟩
theorem enc_nat : EncOk (fun i : Nat => PyData.int (i : Int)) 0 := enc_int.comp (fun i : Nat => (i : Int)) fun a b h => by omega
theorem enc_bool : EncOk (fun i : Bool => PyData.bool i) 0 := ⟨fun _ => rfl, fun _ => Nat.le_refl 0, fun a b => by
  have e : PyData.eqv (.bool a) (.bool b) = (a == b) := rfl
  rw [e]
  simp⟩
theorem enc_all (h : EncOk ea n) : ∀ xs : List α, PyData.canLayAll0 (xs.map ea) = true ∧ PyData.depthAll (xs.map ea) ≤ n ∧ ∀ ys : List α, PyData.eqvAll (xs.map ea) (ys.map ea) = true ↔ xs = ys
  | [] => ⟨rfl, Nat.zero_le _, fun ys => by
    cases ys with
    | nil => exact ⟨fun _ => rfl, fun _ => rfl⟩
    | cons y ys => exact ⟨(fun z => by cases z), (fun z => by cases z)⟩⟩
  | x :: xs => by
    obtain ⟨h1, h2, h3⟩ := enc_all h xs
    refine ⟨?_, ?_, fun ys => ?_⟩
    · rw [List.map_cons, PyData.canLayAll0, h.can x, h1]
      rfl
    · rw [List.map_cons, PyData.depthAll]
      have := h.dep x
      omega
    · cases ys with
      | nil => exact ⟨(fun z => by cases z), (fun z => by cases z)⟩
      | cons y ys =>
        rw [List.map_cons, List.map_cons, PyData.eqvAll, Bool.and_eq_true_iff, h.inj, h3, List.cons.injEq]
theorem enc_list (h : EncOk ea n) : EncOk (fun xs : List α => PyData.list (xs.map ea)) (n + 1) := ⟨fun xs => (enc_all h xs).1, fun xs => by
  have := (enc_all h xs).2.1
  show PyData.depthAll _ + 1 ≤ n + 1
  omega, fun xs ys => (enc_all h xs).2.2 ys⟩
theorem enc_tup (h : EncOk ea n) : EncOk (fun xs : List α => PyData.tuple (xs.map ea)) (n + 1) := ⟨fun xs => (enc_all h xs).1, fun xs => by
  have := (enc_all h xs).2.1
  show PyData.depthAll _ + 1 ≤ n + 1
  omega, fun xs ys => (enc_all h xs).2.2 ys⟩
theorem enc_pair (ha : EncOk ea m) (hb : EncOk eb n) : EncOk (fun p : α × β => PyData.tuple [ea p.1, eb p.2]) (max m n + 1) := ⟨fun p => by
  show (PyData.canLay0 (ea p.1) && (PyData.canLay0 (eb p.2) && true)) = true
  rw [ha.can, hb.can]
  rfl, fun p => by
  show max (PyData.depth (ea p.1)) (max (PyData.depth (eb p.2)) 0) + 1 ≤ _
  have := ha.dep p.1
  have := hb.dep p.2
  omega, fun p q => by
  show (PyData.eqv (ea p.1) (ea q.1) && (PyData.eqv (eb p.2) (eb q.2) && true)) = true ↔ _
  rw [Bool.and_true, Bool.and_eq_true_iff, ha.inj, hb.inj, Prod.ext_iff]⟩
theorem enc_tri (ha : EncOk ea m) (hb : EncOk eb n) (hc : EncOk ec k) : EncOk (fun p : α × β × γ => PyData.tuple [ea p.1, eb p.2.1, ec p.2.2]) (max (max m n) k + 1) := ⟨fun p => by
  show (PyData.canLay0 (ea p.1) && (PyData.canLay0 (eb p.2.1) && (PyData.canLay0 (ec p.2.2) && true))) = true
  rw [ha.can, hb.can, hc.can]
  rfl, fun p => by
  show max (PyData.depth (ea p.1)) (max (PyData.depth (eb p.2.1)) (max (PyData.depth (ec p.2.2)) 0)) + 1 ≤ _
  have := ha.dep p.1
  have := hb.dep p.2.1
  have := hc.dep p.2.2
  omega, fun p q => by
  show (PyData.eqv (ea p.1) (ea q.1) && (PyData.eqv (eb p.2.1) (eb q.2.1) && (PyData.eqv (ec p.2.2) (ec q.2.2) && true))) = true ↔ _
  rw [Bool.and_true, Bool.and_eq_true_iff, Bool.and_eq_true_iff, ha.inj, hb.inj, hc.inj, Prod.ext_iff, Prod.ext_iff]⟩
/-- an optional value -/
def optE (ea : α → D) : Option α → D
  | none => .none
  | some a => ea a
theorem enc_opt (h : EncOk ea n) (h0 : ∀ a, PyData.eqv (ea a) .none = false ∧ PyData.eqv .none (ea a) = false) : EncOk (optE ea) n := ⟨fun p => by
  cases p with
  | none => rfl
  | some a => exact h.can a, fun p => by
  cases p with
  | none => exact Nat.zero_le _
  | some a => exact h.dep a, fun p q => by
  cases p with
  | none =>
    cases q with
    | none => exact ⟨fun _ => rfl, fun _ => rfl⟩
    | some b =>
      show PyData.eqv .none (ea b) = true ↔ _
      rw [(h0 b).2]
      exact ⟨(fun z => by cases z), (fun z => by cases z)⟩
  | some a =>
    cases q with
    | none =>
      show PyData.eqv (ea a) .none = true ↔ _
      rw [(h0 a).1]
      exact ⟨(fun z => by cases z), (fun z => by cases z)⟩
    | some b =>
      show PyData.eqv (ea a) (ea b) = true ↔ _
      rw [h.inj, Option.some.injEq]⟩
end
theorem enc_fr : EncOk frD 1 := ⟨fun _ => rfl, fun _ => by show max 0 (max 0 0) + 1 ≤ 1; omega, fun p q => by rw [frD_eqv]; simp⟩
end Zx
/-! M1: matrices as functions, row steps, their kernels. -/
namespace Zx
def qs : Nat → (Nat → Rat) → Rat
  | 0, _ => 0
  | n + 1, f => qs n f + f n
theorem qs_congr {f g : Nat → Rat} : ∀ {n : Nat}, (∀ i, i < n → f i = g i) → qs n f = qs n g
  | 0, _ => rfl
  | n + 1, h => by rw [qs, qs, qs_congr fun i hi => h i (by omega), h n (by omega)]
theorem qs_zero {f : Nat → Rat} : ∀ {n : Nat}, (∀ i, i < n → f i = 0) → qs n f = 0
  | 0, _ => rfl
  | n + 1, h => by rw [qs, qs_zero fun i hi => h i (by omega), h n (by omega)]; grind
theorem qs_add (f g : Nat → Rat) : ∀ n, qs n (fun i => f i + g i) = qs n f + qs n g
  | 0 => by rw [qs, qs, qs]; grind
  | n + 1 => by rw [qs, qs, qs, qs_add f g n]; grind
theorem qs_mul (c : Rat) (f : Nat → Rat) : ∀ n, qs n (fun i => c * f i) = c * qs n f
  | 0 => by rw [qs, qs, Rat.mul_zero]
  | n + 1 => by rw [qs, qs, qs_mul c f n]; grind
theorem qs_one {f : Nat → Rat} {k : Nat} : ∀ {n : Nat}, k < n → (∀ i, i < n → i ≠ k → f i = 0) → qs n f = f k
  | 0, h, _ => by omega
  | n + 1, h, hz => by
    by_cases e : n = k
    · subst e
      rw [qs, qs_zero fun i hi => hz i (by omega) (by omega)]
      grind
    · rw [qs, qs_one (n := n) (by omega) fun i hi => hz i (by omega), hz n (by omega) e]
      grind
theorem qs_swap (F : Nat → Nat → Rat) (m : Nat) : ∀ n, qs n (fun i => qs m fun j => F i j) = qs m fun j => qs n fun i => F i j
  | 0 => (qs_zero fun _ _ => rfl).symm
  | n + 1 => by rw [qs, qs_swap F m n, ← qs_add]; rfl
/-- a row times a vector -/
def lin (w : Nat) (r x : Nat → Rat) : Rat := qs w fun j => r j * x j
/-- one round: row h to place k, divided by its pivot in column c; column c cleared elsewhere -/
def rstep (c k h : Nat) (A : Nat → Nat → Rat) : Nat → Nat → Rat := fun i j =>
  if i = k then A h j / A h c else (if i = h then A k j else A i j) - (if i = h then A k c else A i c) * (A h j / A h c)
theorem lin_div (w : Nat) (r x : Nat → Rat) (q : Rat) : lin w (fun j => r j / q) x = lin w r x / q := by
  unfold lin
  have : (fun j => r j / q * x j) = fun j => (1 / q) * (r j * x j) := by
    funext j
    grind
  rw [this, qs_mul]
  grind
theorem lin_sub (w : Nat) (r p x : Nat → Rat) (s : Rat) : lin w (fun j => r j - s * p j) x = lin w r x - s * lin w p x := by
  unfold lin
  have : (fun j => (r j - s * p j) * x j) = fun j => r j * x j + (-s) * (p j * x j) := by
    funext j
    grind
  rw [this, qs_add, qs_mul]
  grind
/-- x is in the kernel of the n rows -/
def Ker (n w : Nat) (A : Nat → Nat → Rat) (x : Nat → Rat) : Prop := ∀ i, i < n → lin w (A i) x = 0
theorem ker_step {n w c k h : Nat} {A : Nat → Nat → Rat} {x : Nat → Rat} (hk : k < n) (hh : h < n) (hp : A h c ≠ 0) : Ker n w (rstep c k h A) x ↔ Ker n w A x := by
  have ek : lin w (rstep c k h A k) x = lin w (A h) x / A h c := by
    rw [← lin_div]
    congr 1
    funext j
    unfold rstep
    rw [if_pos rfl]
  have eo : ∀ i, i ≠ k → lin w (rstep c k h A i) x = lin w (if i = h then A k else A i) x - (if i = h then A k c else A i c) * (lin w (A h) x / A h c) := fun i hi => by
    rw [← lin_div, ← lin_sub]
    congr 1
    funext j
    unfold rstep
    rw [if_neg hi]
    split <;> rfl
  constructor
  · intro H
    have z : lin w (A h) x = 0 := by
      have := H k hk
      rw [ek] at this
      grind
    intro i hi
    by_cases e : i = h
    · rw [e]; exact z
    · by_cases e2 : i = k
      · have := H h hh
        by_cases e3 : h = k
        · rw [e2, ← e3]; exact z
        · rw [eo h e3, if_pos rfl, z] at this
          rw [e2]
          grind
      · have := H i hi
        rw [eo i e2, if_neg e, z] at this
        grind
  · intro H i hi
    by_cases e2 : i = k
    · rw [e2, ek, H h hh]
      grind
    · rw [eo i e2, H h hh]
      have : lin w (if i = h then A k else A i) x = 0 := by
        split
        · exact H k hk
        · exact H i hi
      rw [this]
      grind
/-- the first k columns are unit columns: row r has its pivot in column r -/
def Diag (n k : Nat) (A : Nat → Nat → Rat) : Prop := ∀ c, c < k → ∀ i, i < n → A i c = if i = c then 1 else 0
theorem diag_step {n k h : Nat} {A : Nat → Nat → Rat} (hk : k < n) (hh : k ≤ h) (hn : h < n) (hp : A h k ≠ 0) (D : Diag n k A) : Diag n (k + 1) (rstep k k h A) := by
  intro c hc i hi
  unfold rstep
  by_cases e : c = k
  · subst e
    by_cases e2 : i = c
    · rw [if_pos e2, if_pos e2]
      grind
    · rw [if_neg e2, if_neg e2]
      split <;> grind
  · have hck : c < k := by omega
    have dh := D c hck h hn
    rw [if_neg (by omega)] at dh
    by_cases e2 : i = k
    · rw [if_pos e2, dh, if_neg (by omega)]
      grind
    · rw [if_neg e2, dh]
      by_cases e3 : i = h
      · have dk := D c hck k hk
        rw [if_neg (by omega)] at dk
        rw [if_pos e3, if_pos e3, dk, if_neg (by omega)]
        grind
      · rw [if_neg e3, if_neg e3, D c hck i hi]
        grind
/-- where the kernel is trivial there is a pivot -/
theorem pivot {n w k : Nat} {A : Nat → Nat → Rat} (hk : k < n) (hw : n ≤ w) (D : Diag n k A) (reg : ∀ x, Ker n w A x → (∀ j, n ≤ j → x j = 0) → ∀ j, j < n → x j = 0) : ∃ h, k ≤ h ∧ h < n ∧ A h k ≠ 0 := by
  apply Classical.byContradiction
  intro hn
  have hz : ∀ h, k ≤ h → h < n → A h k = 0 := fun h h1 h2 => Classical.byContradiction fun h3 => hn ⟨h, h1, h2, h3⟩
  have kr : Ker n w A (fun j => if j < k then - A j k else if j = k then 1 else 0) := by
    intro i hi
    unfold lin
    by_cases hik : i < k
    · have e : ∀ j, j < w → A i j * (if j < k then - A j k else if j = k then 1 else 0) = (if j = i then - A i k else 0) + (if j = k then A i k else 0) := fun j _ => by
        by_cases h1 : j < k
        · rw [if_pos h1, D j h1 i hi, if_neg (show j ≠ k by omega)]
          by_cases h2 : j = i
          · rw [if_pos h2.symm, if_pos h2, h2]; grind
          · rw [if_neg (fun z => h2 z.symm), if_neg h2]; grind
        · rw [if_neg h1, if_neg (show j ≠ i by omega)]
          by_cases h2 : j = k
          · rw [if_pos h2, if_pos h2, h2]; grind
          · rw [if_neg h2, if_neg h2]; grind
      rw [qs_congr e, qs_add, qs_one (k := i) (by omega) (fun j _ hj => by rw [if_neg hj]), qs_one (k := k) (by omega) (fun j _ hj => by rw [if_neg hj]), if_pos rfl, if_pos rfl]
      grind
    · refine qs_zero fun j _ => ?_
      dsimp only
      by_cases h1 : j < k
      · rw [D j h1 i hi, if_neg (by omega)]
        grind
      · rw [if_neg h1]
        by_cases h2 : j = k
        · rw [h2, hz i (by omega) hi]
          grind
        · rw [if_neg h2]
          grind
  have := reg _ kr (fun j hj => by rw [if_neg (by omega), if_neg (by omega)]) k hk
  rw [if_neg (by omega), if_pos rfl] at this
  exact absurd this (by decide)
/-- the end: the kernel told by the last columns -/
theorem diag_ker {n w : Nat} {A : Nat → Nat → Rat} (hw : n ≤ w) (D : Diag n n A) {i : Nat} (hi : i < n) (x : Nat → Rat) : lin w (A i) x = x i + qs (w - n) fun j => A i (n + j) * x (n + j) := by
  have split : ∀ m, qs (n + m) (fun j => A i j * x j) = qs n (fun j => A i j * x j) + qs m fun j => A i (n + j) * x (n + j) := by
    intro m
    induction m with
    | zero =>
      rw [Nat.add_zero, qs]
      grind
    | succ m ih =>
      show qs (n + m) _ + _ = _
      rw [ih, qs]
      grind
  unfold lin
  rw [show w = n + (w - n) by omega, split, show n + (w - n) - n = w - n by omega]
  congr 1
  rw [qs_one hi fun j hj hne => by rw [D j hj i hi, if_neg (fun z => hne z.symm)]; grind]
  rw [D i hi i hi, if_pos rfl]
  grind
end Zx
/-! M2: sizes of the fractions of a matrix under row steps; matrices as data. -/
namespace Zx
open PySem PySem.Spec L2
/-- rows of integers over one integer each -/
def Bits (b e n w : Nat) (A : Nat → Nat → Rat) : Prop := ∃ (N : Nat → Nat → Int) (d : Nat → Int), ∀ i, i < n → d i ≠ 0 ∧ (d i).natAbs < 2 ^ e ∧ ∀ j, j < w → (N i j).natAbs < 2 ^ b ∧ A i j = (N i j : Rat) / (d i : Rat)
theorem Sk_div' {n : Nat} {a b : Int} (ha : a.natAbs < 2 ^ n) (hb : b.natAbs < 2 ^ n) (h0 : b ≠ 0) : Sk n ((a : Rat) / b) := by
  by_cases h : 0 < b
  · exact Sk_div ha hb h
  · have e : (a : Rat) / b = ((-a : Int) : Rat) / ((-b : Int) : Rat) := by
      rw [Rat.intCast_neg, Rat.intCast_neg]
      grind
    rw [e]
    exact Sk_div (by rwa [Int.natAbs_neg]) (by rwa [Int.natAbs_neg]) (by omega)
theorem int_nz {a : Int} (h : a ≠ 0) : (a : Rat) ≠ 0 := fun z => h (Rat.intCast_eq_zero_iff.mp z)
theorem Bits.sk {b e n w : Nat} {A : Nat → Nat → Rat} (h : Bits b e n w A) {m : Nat} (hb : b ≤ m) (he : e ≤ m) {i j : Nat} (hi : i < n) (hj : j < w) : Sk m (A i j) := by
  obtain ⟨N, d, hN⟩ := h
  obtain ⟨h1, h2, h3⟩ := hN i hi
  obtain ⟨h4, h5⟩ := h3 j hj
  rw [h5]
  exact Sk_div' (Nat.lt_of_lt_of_le h4 (Nat.pow_le_pow_right (by decide) hb)) (Nat.lt_of_lt_of_le h2 (Nat.pow_le_pow_right (by decide) he)) h1
theorem bits_step {b e n w c k h : Nat} {A : Nat → Nat → Rat} (hk : k < n) (hh : h < n) (hc : c < w) (hp : A h c ≠ 0) (H : Bits b e n w A) : Bits (2 * b + 1) (e + b) n w (rstep c k h A) := by
  obtain ⟨N, d, hN⟩ := H
  obtain ⟨q1, q2, q3⟩ := hN h hh
  obtain ⟨q4, q5⟩ := q3 c hc
  have pz : N h c ≠ 0 := fun z => hp (by rw [q5, z]; have n2 := int_nz q1; simp; grind)
  refine ⟨fun i j => if i = k then N h j else N (if i = h then k else i) j * N h c - N (if i = h then k else i) c * N h j, fun i => if i = k then N h c else d (if i = h then k else i) * N h c, fun i hi => ?_⟩
  by_cases hik : i = k
  · subst hik
    simp only [if_true]
    refine ⟨pz, Nat.lt_of_lt_of_le q4 (Nat.pow_le_pow_right (by decide) (by omega)), fun j hj => ?_⟩
    obtain ⟨q6, q7⟩ := q3 j hj
    refine ⟨Nat.lt_of_lt_of_le q6 (Nat.pow_le_pow_right (by decide) (by omega)), ?_⟩
    unfold rstep
    rw [if_pos rfl, q7, q5]
    have n1 := int_nz pz
    have n2 := int_nz q1
    grind
  · simp only [if_neg hik]
    have hr : (if i = h then k else i) < n := by split <;> assumption
    have er : ∀ j, (if i = h then A k j else A i j) = A (if i = h then k else i) j := fun j => by split <;> rfl
    obtain ⟨p1, p2, p3⟩ := hN _ hr
    obtain ⟨p4, p5⟩ := p3 c hc
    refine ⟨Int.mul_ne_zero p1 pz, by rw [Int.natAbs_mul]; exact pow_mul_lt p2 q4, fun j hj => ?_⟩
    obtain ⟨p6, p7⟩ := p3 j hj
    obtain ⟨q6, q7⟩ := q3 j hj
    constructor
    · have h1 := pow_mul_lt p6 q4
      have h2 := pow_mul_lt p4 q6
      rw [← Int.natAbs_mul] at h1 h2
      have : (2 : Nat) ^ (2 * b + 1) = 2 ^ (b + b) + 2 ^ (b + b) := by rw [Nat.pow_succ, show 2 * b = b + b by omega]; omega
      omega
    · unfold rstep
      rw [if_neg hik, er, er, p7, p5, q7, q5]
      have n1 := int_nz pz
      have n2 := int_nz q1
      have n3 := int_nz p1
      rw [Rat.intCast_sub, Rat.intCast_mul, Rat.intCast_mul, Rat.intCast_mul]
      grind
/-! data -/
def rowD (w : Nat) (r : Nat → Rat) : D := .list ((List.range w).map fun j => frD (r j))
def matD (n w : Nat) (A : Nat → Nat → Rat) : List D := (List.range n).map fun i => rowD w (A i)
theorem range_set {α : Type} (n : Nat) (f : Nat → α) (k : Nat) (x : α) : ((List.range n).map f).set k x = (List.range n).map fun i => if i = k then x else f i := by
  refine List.ext_getElem? fun i => ?_
  rw [List.getElem?_set, List.getElem?_map, List.getElem?_map]
  by_cases hi : i < n
  · rw [List.getElem?_range hi]
    simp only [List.length_map, List.length_range, Option.map_some]
    by_cases e : k = i
    · rw [if_pos e, if_pos (by omega), if_pos e.symm]
    · rw [if_neg e, if_neg (fun z => e z.symm)]
  · rw [List.getElem?_eq_none (by simp; omega)]
    simp only [List.length_map, List.length_range, Option.map_none]
    split
    · rw [if_neg (by omega)]
    · rfl
theorem mat_at {n w : Nat} {A : Nat → Nat → Rat} {i : Nat} (hi : i < n) : atI (matD n w A) (i : Int) = some (rowD w (A i)) := by
  rw [atI_nat _ _ (by simp [matD]; exact hi)]
  unfold matD
  rw [List.getElem?_map, List.getElem?_range hi]
  rfl
theorem row_at {w : Nat} {r : Nat → Rat} {j : Nat} (hj : j < w) : ixD (rowD w r) (.int (j : Nat)) = some (frD (r j)) := by
  unfold rowD
  rw [ixD_l, atI_nat _ _ (by simp; exact hj), List.getElem?_map, List.getElem?_range hj]
  rfl
theorem mat_len (n w : Nat) (A : Nat → Nat → Rat) : (matD n w A).length = n := by simp [matD]
theorem mat_set (n w : Nat) (A : Nat → Nat → Rat) (k : Nat) (r : Nat → Rat) : (matD n w A).set k (rowD w r) = matD n w fun i => if i = k then r else A i := by
  unfold matD
  rw [range_set]
  refine List.map_congr_left fun i _ => ?_
  by_cases e : i = k
  · simp only [if_pos e]
  · simp only [if_neg e]
end Zx
namespace Zx.k76
open PySem PySem.Spec L2 Zx
abbrev PR : PySem.Program := PySem.Challenge.pw_triedwares_k76_whole_walks_turned_about
/-! ### _law_draws -/
abbrev N__law_draws : List Str := ["script", "draws", "k", "rest", "turn", "mixed"]
noncomputable def D__law_draws : DenS :=
  (sSeq (sOwn 1 (mkL lNil))
  (sSeq (sFor (iR1 (d2 minD2 (kD (.int 63)) (d1 lenD (vR 0)))) (gN 2) (sSeq (sSet 3 (d1 absD (d2 ixD (vR 0) (vR 2))))
   (sIf (b2 geI (vR 3) (d2 powD (kD (.int 10)) (kD (.int 18)))) (sFor (iR1 (kD (.int 60))) (gN 4) (sIf (b2 gtI (vR 3) (kD (.int 0))) (sSeq (sApp 1 (d2 modD (d1 intD (vR 3)) (kD (.int 65536))))
      (sSet 3 (d2 fdivD (vR 3) (kD (.int 65536))))) sNx)) (sSeq (sSet 5 (d2 modD (d1 intD (d2 addD (d2 mulI (vR 3) (kD (.int 48271))) (d2 mulI (d2 addD (vR 2) (kD (.int 1))) (kD (.int 69621))))) (kD (.int 2147483647))))
    (sSeq (sSet 5 (d2 modD (d1 intD (d2 addD (d2 addD (d2 mulI (vR 5) (kD (.int 16807))) (d2 mulI (kD (.int 11)) (vR 2))) (kD (.int 5)))) (kD (.int 2147483629))))
    (sSeq (sApp 1 (d2 modD (d1 intD (vR 5)) (kD (.int 65536))))
    (sApp 1 (d2 modD (d1 intD (d2 fdivD (vR 5) (kD (.int 65536)))) (kD (.int 32768))))))))))
  (sFrz 1 (sRet (vR 1)))))
noncomputable def f__law_draws : List D → Option D := runX D__law_draws 6
theorem sc__law_draws : FnScope N__law_draws ["script"] (defScope (topOf PR 29)) := ⟨rfl, rfl, rfl, by decide +kernel, rfl, by decide +kernel, by decide +kernel⟩
theorem b__law_draws {w : World} {K : PySem.W.Frag} {mg : Str → Option Value} {base : Heap} {f : Addr} (h_abs : mg "abs" = none) (h_int : mg "int" = none) (h_len : mg "len" = none) (h_min : mg "min" = none) (h_range : mg "range" = none) : Bd PR w K mg base 0 N__law_draws "_law_draws" (defBody (topOf PR 29)) (defScope (topOf PR 29)) f D__law_draws :=
  ⟨fun cdv A outer s H E hr => by
  have nd : N__law_draws.Nodup := sc__law_draws.nd
  exact (sxs_cons (sx_own 1 nd (by kernel_rfl) (by kernel_rfl) (by kernel_rfl) (en_lst ea_nil) (by kernel_rfl))
  (sxs_cons (sx_for PySem.PassesOwn.never rfl (ei_r1 (gl_of (by kernel_rfl)) h_range (ex_min2 rfl (gl_of (by kernel_rfl)) h_min ex_int.b (ex_len (gl_of (by kernel_rfl)) h_len (vX 0 (by kernel_rfl) (by kernel_rfl)).b (by kernel_rfl)).b (by kernel_rfl) (by kernel_rfl)) (by kernel_rfl)) (eg_name 2 nd (by kernel_rfl) (by kernel_rfl) (by kernel_rfl)) (sxs_cons (sx_set 3 nd (by kernel_rfl) (by kernel_rfl) (by kernel_rfl) (ex_abs (gl_of (by kernel_rfl)) h_abs (ex_ix (vX 0 (by kernel_rfl) (by kernel_rfl)).b (vX 2 (by kernel_rfl) (by kernel_rfl)).b (fun _ _ => rfl)).b (by kernel_rfl)) (by kernel_rfl))
   (sxs_one (sx_if (et_cmp (ec_geI (vX 3 (by kernel_rfl) (by kernel_rfl)).b (ex_pow ex_int.b ex_int.b).b) (by kernel_rfl)) (sxs_one (sx_for PySem.PassesOwn.never rfl (ei_r1 (gl_of (by kernel_rfl)) h_range ex_int (by kernel_rfl)) (eg_name 4 nd (by kernel_rfl) (by kernel_rfl) (by kernel_rfl)) (sxs_one (sx_if (et_cmp (ec_gtI (vX 3 (by kernel_rfl) (by kernel_rfl)).b ex_int.b) (by kernel_rfl)) (sxs_cons (sx_append 1 (by kernel_rfl) (by kernel_rfl) (by kernel_rfl) (by kernel_rfl) (ex_mod (ex_int1 (gl_of (by kernel_rfl)) h_int (vX 3 (by kernel_rfl) (by kernel_rfl)).b (by kernel_rfl)).b ex_int.b) (by kernel_rfl) (by kernel_rfl))
      (sxs_one (sx_set 3 nd (by kernel_rfl) (by kernel_rfl) (by kernel_rfl) (ex_fdiv (vX 3 (by kernel_rfl) (by kernel_rfl)).b ex_int.b) (by kernel_rfl)))) sxs_nil)) (fun _ => rfl))) (sxs_cons (sx_set 5 nd (by kernel_rfl) (by kernel_rfl) (by kernel_rfl) (ex_mod (ex_int1 (gl_of (by kernel_rfl)) h_int (ex_add (ex_mulI (vX 3 (by kernel_rfl) (by kernel_rfl)).b ex_int.b).b (ex_mulI (ex_add (vX 2 (by kernel_rfl) (by kernel_rfl)).b ex_int.b).b ex_int.b).b).b (by kernel_rfl)).b ex_int.b) (by kernel_rfl))
    (sxs_cons (sx_set 5 nd (by kernel_rfl) (by kernel_rfl) (by kernel_rfl) (ex_mod (ex_int1 (gl_of (by kernel_rfl)) h_int (ex_add (ex_add (ex_mulI (vX 5 (by kernel_rfl) (by kernel_rfl)).b ex_int.b).b (ex_mulI ex_int.b (vX 2 (by kernel_rfl) (by kernel_rfl)).b).b).b ex_int.b).b (by kernel_rfl)).b ex_int.b) (by kernel_rfl))
    (sxs_cons (sx_append 1 (by kernel_rfl) (by kernel_rfl) (by kernel_rfl) (by kernel_rfl) (ex_mod (ex_int1 (gl_of (by kernel_rfl)) h_int (vX 5 (by kernel_rfl) (by kernel_rfl)).b (by kernel_rfl)).b ex_int.b) (by kernel_rfl) (by kernel_rfl))
    (sxs_one (sx_append 1 (by kernel_rfl) (by kernel_rfl) (by kernel_rfl) (by kernel_rfl) (ex_mod (ex_int1 (gl_of (by kernel_rfl)) h_int (ex_fdiv (vX 5 (by kernel_rfl) (by kernel_rfl)).b ex_int.b).b (by kernel_rfl)).b ex_int.b) (by kernel_rfl) (by kernel_rfl))))))))) (fun _ => rfl))
  (sxs_one (sx_frz 1 (sx_ret (vX 1 (by kernel_rfl) (by kernel_rfl)))))))⟩
/-! ### _law_gcd -/
abbrev N__law_gcd : List Str := ["one", "two"]
noncomputable def D__law_gcd : DenS :=
  (sSeq (sWh (b2 neD (vR 1) (kD (.int 0))) (sAsg (gLs (gsCons (gN 0) (gsCons (gN 1) gsNil)) 2) (mkL (lCons (vR 1) (lCons (d2 modD (d1 intD (vR 0)) (vR 1)) lNil)))))
  (sRet (d1 absD (vR 0))))
noncomputable def f__law_gcd : List D → Option D := runX D__law_gcd 2
theorem sc__law_gcd : FnScope N__law_gcd ["one", "two"] (defScope (topOf PR 31)) := ⟨rfl, rfl, rfl, by decide +kernel, rfl, by decide +kernel, by decide +kernel⟩
theorem b__law_gcd {w : World} {K : PySem.W.Frag} {mg : Str → Option Value} {base : Heap} {f : Addr} (h_abs : mg "abs" = none) (h_int : mg "int" = none) : Bd PR w K mg base 0 N__law_gcd "_law_gcd" (defBody (topOf PR 31)) (defScope (topOf PR 31)) f D__law_gcd :=
  ⟨fun cdv A outer s H E hr => by
  have nd : N__law_gcd.Nodup := sc__law_gcd.nd
  exact (sxs_cons (sx_while PySem.PassesOwn.never (et_cmp (ec_ne (Zx.Room.u64 hr) (vX 1 (by kernel_rfl) (by kernel_rfl)).b ex_int.b) (by kernel_rfl)) (sxs_one (sx_asg (en_lst (ea_cons (vX 1 (by kernel_rfl) (by kernel_rfl)) (ea_cons (ex_mod (ex_int1 (gl_of (by kernel_rfl)) h_int (vX 0 (by kernel_rfl) (by kernel_rfl)).b (by kernel_rfl)).b (vX 1 (by kernel_rfl) (by kernel_rfl)).b) ea_nil (by kernel_rfl)) (by kernel_rfl))).x (eg_lst (n := 2) rfl (egs_cons (eg_name 0 nd (by kernel_rfl) (by kernel_rfl) (by kernel_rfl)) (egs_cons (eg_name 1 nd (by kernel_rfl) (by kernel_rfl) (by kernel_rfl)) egs_nil (by kernel_rfl)) (by kernel_rfl)) (by kernel_rfl) (by kernel_rfl)) (by kernel_rfl) (by kernel_rfl) (by kernel_rfl))))
  (sxs_one (sx_ret (ex_abs (gl_of (by kernel_rfl)) h_abs (vX 0 (by kernel_rfl) (by kernel_rfl)).b (by kernel_rfl)))))⟩
/-! ### _law_low -/
abbrev N__law_low : List Str := ["number", "by", "common"]
noncomputable def D__law_low : DenS :=
  (sSeq (sSet 2 (dCall (lCons (vR 0) (lCons (vR 1) lNil)) f__law_gcd))
  (sSeq (sIf (b2 ltI (vR 1) (kD (.int 0))) (sSet 2 (d1 negD (vR 2))) sNx)
  (sRet (mkT (lCons (d1 intD (d2 fdivD (vR 0) (vR 2))) (lCons (d1 intD (d2 fdivD (vR 1) (vR 2))) lNil))))))
noncomputable def f__law_low : List D → Option D := runX D__law_low 3
theorem sc__law_low : FnScope N__law_low ["number", "by"] (defScope (topOf PR 32)) := ⟨rfl, rfl, rfl, by decide +kernel, rfl, by decide +kernel, by decide +kernel⟩
theorem b__law_low {w : World} {K : PySem.W.Frag} {mg : Str → Option Value} {base : Heap} {f : Addr} (h_int : mg "int" = none) (c__law_gcd : FX PR w K mg base 1 "_law_gcd" 2 f__law_gcd) : Bd PR w K mg base 1 N__law_low "_law_low" (defBody (topOf PR 32)) (defScope (topOf PR 32)) f D__law_low :=
  ⟨fun cdv A outer s H E hr => by
  have nd : N__law_low.Nodup := sc__law_low.nd
  exact (sxs_cons (sx_set 2 nd (by kernel_rfl) (by kernel_rfl) (by kernel_rfl) (cX (c__law_gcd : FX PR w K mg base _ _ _ _) hr (gl_of (by kernel_rfl)) (by kernel_rfl) (ea_cons (vX 0 (by kernel_rfl) (by kernel_rfl)) (ea_cons (vX 1 (by kernel_rfl) (by kernel_rfl)) ea_nil (by kernel_rfl)) (by kernel_rfl)) rfl (by kernel_rfl) (by kernel_rfl) (lenS (lenS len0))) (by kernel_rfl))
  (sxs_cons (sx_if (et_cmp (ec_ltI (vX 1 (by kernel_rfl) (by kernel_rfl)).b ex_int.b) (by kernel_rfl)) (sxs_one (sx_set 2 nd (by kernel_rfl) (by kernel_rfl) (by kernel_rfl) (ex_neg (vX 2 (by kernel_rfl) (by kernel_rfl)).b) (by kernel_rfl))) sxs_nil)
  (sxs_one (sx_ret (ex_tup (ea_cons (ex_int1 (gl_of (by kernel_rfl)) h_int (ex_fdiv (vX 0 (by kernel_rfl) (by kernel_rfl)).b (vX 2 (by kernel_rfl) (by kernel_rfl)).b).b (by kernel_rfl)) (ea_cons (ex_int1 (gl_of (by kernel_rfl)) h_int (ex_fdiv (vX 1 (by kernel_rfl) (by kernel_rfl)).b (vX 2 (by kernel_rfl) (by kernel_rfl)).b).b (by kernel_rfl)) ea_nil (by kernel_rfl)) (by kernel_rfl)))))))⟩
/-! ### _law_mix -/
abbrev N__law_mix : List Str := ["draws", "k", "many", "cell"]
noncomputable def D__law_mix : DenS :=
  (sSeq (sSet 3 (kD (.int 0)))
  (sSeq (sIf (b2 gtI (d1 lenD (vR 0)) (kD (.int 0))) (sSet 3 (d2 ixD (vR 0) (d2 modD (d1 intD (vR 1)) (d1 lenD (vR 0))))) sNx)
  (sSeq (sIf (b2 ltI (vR 1) (d1 lenD (vR 0))) (sRet (d2 modD (d1 intD (vR 3)) (vR 2))) sNx)
  (sRet (d2 modD (d1 intD (d2 fdivD (d1 intD (d2 addD (d2 mulI (vR 3) (kD (.int 7919))) (d2 mulI (vR 1) (kD (.int 104729))))) (kD (.int 3)))) (vR 2))))))
noncomputable def f__law_mix : List D → Option D := runX D__law_mix 4
theorem sc__law_mix : FnScope N__law_mix ["draws", "k", "many"] (defScope (topOf PR 30)) := ⟨rfl, rfl, rfl, by decide +kernel, rfl, by decide +kernel, by decide +kernel⟩
theorem b__law_mix {w : World} {K : PySem.W.Frag} {mg : Str → Option Value} {base : Heap} {f : Addr} (h_int : mg "int" = none) (h_len : mg "len" = none) : Bd PR w K mg base 0 N__law_mix "_law_mix" (defBody (topOf PR 30)) (defScope (topOf PR 30)) f D__law_mix :=
  ⟨fun cdv A outer s H E hr => by
  have nd : N__law_mix.Nodup := sc__law_mix.nd
  exact (sxs_cons (sx_set 3 nd (by kernel_rfl) (by kernel_rfl) (by kernel_rfl) ex_int (by kernel_rfl))
  (sxs_cons (sx_if (et_cmp (ec_gtI (ex_len (gl_of (by kernel_rfl)) h_len (vX 0 (by kernel_rfl) (by kernel_rfl)).b (by kernel_rfl)).b ex_int.b) (by kernel_rfl)) (sxs_one (sx_set 3 nd (by kernel_rfl) (by kernel_rfl) (by kernel_rfl) (ex_ix (vX 0 (by kernel_rfl) (by kernel_rfl)).b (ex_mod (ex_int1 (gl_of (by kernel_rfl)) h_int (vX 1 (by kernel_rfl) (by kernel_rfl)).b (by kernel_rfl)).b (ex_len (gl_of (by kernel_rfl)) h_len (vX 0 (by kernel_rfl) (by kernel_rfl)).b (by kernel_rfl)).b).b (fun _ _ => rfl)) (by kernel_rfl))) sxs_nil)
  (sxs_cons (sx_if (et_cmp (ec_ltI (vX 1 (by kernel_rfl) (by kernel_rfl)).b (ex_len (gl_of (by kernel_rfl)) h_len (vX 0 (by kernel_rfl) (by kernel_rfl)).b (by kernel_rfl)).b) (by kernel_rfl)) (sxs_one (sx_ret (ex_mod (ex_int1 (gl_of (by kernel_rfl)) h_int (vX 3 (by kernel_rfl) (by kernel_rfl)).b (by kernel_rfl)).b (vX 2 (by kernel_rfl) (by kernel_rfl)).b))) sxs_nil)
  (sxs_one (sx_ret (ex_mod (ex_int1 (gl_of (by kernel_rfl)) h_int (ex_fdiv (ex_int1 (gl_of (by kernel_rfl)) h_int (ex_add (ex_mulI (vX 3 (by kernel_rfl) (by kernel_rfl)).b ex_int.b).b (ex_mulI (vX 1 (by kernel_rfl) (by kernel_rfl)).b ex_int.b).b).b (by kernel_rfl)).b ex_int.b).b (by kernel_rfl)).b (vX 2 (by kernel_rfl) (by kernel_rfl)).b))))))⟩
/-! ### _law_walk -/
abbrev N__law_walk : List Str := ["draws", "first", "top", "chance", "most"]
noncomputable def D__law_walk : DenS :=
  (sSeq (sSet 2 (d2 addD (kD (.int 2)) (dCall (lCons (vR 0) (lCons (vR 1) (lCons (kD (.int 9)) lNil))) f__law_mix)))
  (sSeq (sSet 3 (dCall (lCons (dCall (lCons (vR 0) (lCons (d2 addD (vR 1) (kD (.int 1))) (lCons (kD (.int 8)) lNil))) f__law_mix) (lCons (d2 ixD (mkL (lCons (kD (.int 7)) (lCons (kD (.int 8)) (lCons (kD (.int 9)) lNil)))) (dCall (lCons (vR 0) (lCons (d2 addD (vR 1) (kD (.int 2))) (lCons (kD (.int 3)) lNil))) f__law_mix)) lNil)) f__law_low))
  (sSeq (sSet 4 (d2 ixD (mkL (lCons (kD (.int 1)) (lCons (kD (.int 6)) lNil))) (dCall (lCons (vR 0) (lCons (d2 addD (vR 1) (kD (.int 3))) (lCons (kD (.int 2)) lNil))) f__law_mix)))
  (sRet (mkT (lCons (vR 2) (lCons (d2 addD (kD (.int 1)) (dCall (lCons (vR 0) (lCons (d2 addD (vR 1) (kD (.int 4))) (lCons (d2 subD (vR 2) (kD (.int 1))) lNil))) f__law_mix)) (lCons (d2 addD (kD (.int 1)) (dCall (lCons (vR 0) (lCons (d2 addD (vR 1) (kD (.int 5))) (lCons (vR 4) lNil))) f__law_mix)) (lCons (d2 addD (kD (.int 1)) (dCall (lCons (vR 0) (lCons (d2 addD (vR 1) (kD (.int 6))) (lCons (vR 4) lNil))) f__law_mix)) (lCons (vR 3) lNil))))))))))
noncomputable def f__law_walk : List D → Option D := runX D__law_walk 5
theorem sc__law_walk : FnScope N__law_walk ["draws", "first"] (defScope (topOf PR 38)) := ⟨rfl, rfl, rfl, by decide +kernel, rfl, by decide +kernel, by decide +kernel⟩
theorem b__law_walk {w : World} {K : PySem.W.Frag} {mg : Str → Option Value} {base : Heap} {f : Addr} (c__law_low : FX PR w K mg base 2 "_law_low" 2 f__law_low) (c__law_mix : FX PR w K mg base 2 "_law_mix" 3 f__law_mix) : Bd PR w K mg base 2 N__law_walk "_law_walk" (defBody (topOf PR 38)) (defScope (topOf PR 38)) f D__law_walk :=
  ⟨fun cdv A outer s H E hr => by
  have nd : N__law_walk.Nodup := sc__law_walk.nd
  exact (sxs_cons (sx_set 2 nd (by kernel_rfl) (by kernel_rfl) (by kernel_rfl) (ex_add ex_int.b (cX (c__law_mix : FX PR w K mg base _ _ _ _) hr (gl_of (by kernel_rfl)) (by kernel_rfl) (ea_cons (vX 0 (by kernel_rfl) (by kernel_rfl)) (ea_cons (vX 1 (by kernel_rfl) (by kernel_rfl)) (ea_cons ex_int ea_nil (by kernel_rfl)) (by kernel_rfl)) (by kernel_rfl)) rfl (by kernel_rfl) (by kernel_rfl) (lenS (lenS (lenS len0)))).b) (by kernel_rfl))
  (sxs_cons (sx_set 3 nd (by kernel_rfl) (by kernel_rfl) (by kernel_rfl) (cX (c__law_low : FX PR w K mg base _ _ _ _) hr (gl_of (by kernel_rfl)) (by kernel_rfl) (ea_cons (cX (c__law_mix : FX PR w K mg base _ _ _ _) hr (gl_of (by kernel_rfl)) (by kernel_rfl) (ea_cons (vX 0 (by kernel_rfl) (by kernel_rfl)) (ea_cons (ex_add (vX 1 (by kernel_rfl) (by kernel_rfl)).b ex_int.b) (ea_cons ex_int ea_nil (by kernel_rfl)) (by kernel_rfl)) (by kernel_rfl)) rfl (by kernel_rfl) (by kernel_rfl) (lenS (lenS (lenS len0)))) (ea_cons (ex_ix (en_lst (ea_cons ex_int (ea_cons ex_int (ea_cons ex_int ea_nil (by kernel_rfl)) (by kernel_rfl)) (by kernel_rfl))).x.b (cX (c__law_mix : FX PR w K mg base _ _ _ _) hr (gl_of (by kernel_rfl)) (by kernel_rfl) (ea_cons (vX 0 (by kernel_rfl) (by kernel_rfl)) (ea_cons (ex_add (vX 1 (by kernel_rfl) (by kernel_rfl)).b ex_int.b) (ea_cons ex_int ea_nil (by kernel_rfl)) (by kernel_rfl)) (by kernel_rfl)) rfl (by kernel_rfl) (by kernel_rfl) (lenS (lenS (lenS len0)))).b (fun _ _ => rfl)) ea_nil (by kernel_rfl)) (by kernel_rfl)) rfl (by kernel_rfl) (by kernel_rfl) (lenS (lenS len0))) (by kernel_rfl))
  (sxs_cons (sx_set 4 nd (by kernel_rfl) (by kernel_rfl) (by kernel_rfl) (ex_ix (en_lst (ea_cons ex_int (ea_cons ex_int ea_nil (by kernel_rfl)) (by kernel_rfl))).x.b (cX (c__law_mix : FX PR w K mg base _ _ _ _) hr (gl_of (by kernel_rfl)) (by kernel_rfl) (ea_cons (vX 0 (by kernel_rfl) (by kernel_rfl)) (ea_cons (ex_add (vX 1 (by kernel_rfl) (by kernel_rfl)).b ex_int.b) (ea_cons ex_int ea_nil (by kernel_rfl)) (by kernel_rfl)) (by kernel_rfl)) rfl (by kernel_rfl) (by kernel_rfl) (lenS (lenS (lenS len0)))).b (fun _ _ => rfl)) (by kernel_rfl))
  (sxs_one (sx_ret (ex_tup (ea_cons (vX 2 (by kernel_rfl) (by kernel_rfl)) (ea_cons (ex_add ex_int.b (cX (c__law_mix : FX PR w K mg base _ _ _ _) hr (gl_of (by kernel_rfl)) (by kernel_rfl) (ea_cons (vX 0 (by kernel_rfl) (by kernel_rfl)) (ea_cons (ex_add (vX 1 (by kernel_rfl) (by kernel_rfl)).b ex_int.b) (ea_cons (ex_sub (vX 2 (by kernel_rfl) (by kernel_rfl)).b ex_int.b) ea_nil (by kernel_rfl)) (by kernel_rfl)) (by kernel_rfl)) rfl (by kernel_rfl) (by kernel_rfl) (lenS (lenS (lenS len0)))).b) (ea_cons (ex_add ex_int.b (cX (c__law_mix : FX PR w K mg base _ _ _ _) hr (gl_of (by kernel_rfl)) (by kernel_rfl) (ea_cons (vX 0 (by kernel_rfl) (by kernel_rfl)) (ea_cons (ex_add (vX 1 (by kernel_rfl) (by kernel_rfl)).b ex_int.b) (ea_cons (vX 4 (by kernel_rfl) (by kernel_rfl)) ea_nil (by kernel_rfl)) (by kernel_rfl)) (by kernel_rfl)) rfl (by kernel_rfl) (by kernel_rfl) (lenS (lenS (lenS len0)))).b) (ea_cons (ex_add ex_int.b (cX (c__law_mix : FX PR w K mg base _ _ _ _) hr (gl_of (by kernel_rfl)) (by kernel_rfl) (ea_cons (vX 0 (by kernel_rfl) (by kernel_rfl)) (ea_cons (ex_add (vX 1 (by kernel_rfl) (by kernel_rfl)).b ex_int.b) (ea_cons (vX 4 (by kernel_rfl) (by kernel_rfl)) ea_nil (by kernel_rfl)) (by kernel_rfl)) (by kernel_rfl)) rfl (by kernel_rfl) (by kernel_rfl) (lenS (lenS (lenS len0)))).b) (ea_cons (vX 3 (by kernel_rfl) (by kernel_rfl)) ea_nil (by kernel_rfl)) (by kernel_rfl)) (by kernel_rfl)) (by kernel_rfl)) (by kernel_rfl))))))))⟩
/-! ### is_fraction -/
abbrev N_is_fraction : List Str := ["told"]
noncomputable def D_is_fraction : DenS :=
  (sRet (dAnd (bV (b2 gtI (d2 ixD (vR 0) (kD (.int 1))) (kD (.int 0)))) (bV (b2 eqD (d2 gcdD (d2 ixD (vR 0) (kD (.int 0))) (d2 ixD (vR 0) (kD (.int 1)))) (kD (.int 1))))))
noncomputable def f_is_fraction : List D → Option D := runX D_is_fraction 1
theorem sc_is_fraction : FnScope N_is_fraction ["told"] (defScope (topOf PR 8)) := ⟨rfl, rfl, rfl, by decide +kernel, rfl, by decide +kernel, by decide +kernel⟩
theorem b_is_fraction {w : World} {K : PySem.W.Frag} {mg : Str → Option Value} {base : Heap} {f : Addr} (h_gcd : mg "gcd" = some (.builtin "math.gcd")) : Bd PR w K mg base 0 N_is_fraction "is_fraction" (defBody (topOf PR 8)) (defScope (topOf PR 8)) f D_is_fraction :=
  ⟨fun cdv A outer s H E hr => by
  have nd : N_is_fraction.Nodup := sc_is_fraction.nd
  exact (sxs_one (sx_ret (ex_and (ex_cmp (ec_gtI (ex_ix (vX 0 (by kernel_rfl) (by kernel_rfl)).b ex_int.b (fun _ _ => rfl)).b ex_int.b) (by kernel_rfl)) (ex_one (ex_cmp (ec_eq (Zx.Room.u64 hr) (ex_gcd (gl_of (by kernel_rfl)) h_gcd (ex_ix (vX 0 (by kernel_rfl) (by kernel_rfl)).b ex_int.b (fun _ _ => rfl)).b (ex_ix (vX 0 (by kernel_rfl) (by kernel_rfl)).b ex_int.b (fun _ _ => rfl)).b (by kernel_rfl) (by kernel_rfl)).b ex_int.b) (by kernel_rfl))))))⟩
/-! ### is_share -/
abbrev N_is_share : List Str := ["one"]
noncomputable def D_is_share : DenS :=
  (sRet (dAnd (dCall (lCons (vR 0) lNil) f_is_fraction) (bV (bCh leI leI (kD (.int 0)) (d2 ixD (vR 0) (kD (.int 0))) (d2 ixD (vR 0) (kD (.int 1)))))))
noncomputable def f_is_share : List D → Option D := runX D_is_share 1
theorem sc_is_share : FnScope N_is_share ["one"] (defScope (topOf PR 15)) := ⟨rfl, rfl, rfl, by decide +kernel, rfl, by decide +kernel, by decide +kernel⟩
theorem b_is_share {w : World} {K : PySem.W.Frag} {mg : Str → Option Value} {base : Heap} {f : Addr} (c_is_fraction : FX PR w K mg base 1 "is_fraction" 1 f_is_fraction) : Bd PR w K mg base 1 N_is_share "is_share" (defBody (topOf PR 15)) (defScope (topOf PR 15)) f D_is_share :=
  ⟨fun cdv A outer s H E hr => by
  have nd : N_is_share.Nodup := sc_is_share.nd
  exact (sxs_one (sx_ret (ex_and (cX (c_is_fraction : FX PR w K mg base _ _ _ _) hr (gl_of (by kernel_rfl)) (by kernel_rfl) (ea_cons (vX 0 (by kernel_rfl) (by kernel_rfl)) ea_nil (by kernel_rfl)) rfl (by kernel_rfl) (by kernel_rfl) (lenS len0)) (ex_one (ex_leLe ex_int.b (ex_ix (vX 0 (by kernel_rfl) (by kernel_rfl)).b ex_int.b (fun _ _ => rfl)).b (ex_ix (vX 0 (by kernel_rfl) (by kernel_rfl)).b ex_int.b (fun _ _ => rfl)).b (by kernel_rfl))))))⟩
/-! ### check_walk -/
abbrev N_check_walk : List Str := ["walk", "top", "start", "up", "down", "chance", "step"]
noncomputable def D_check_walk : DenS :=
  (sSeq (sAsg (gT (gsCons (gN 1) (gsCons (gN 2) (gsCons (gN 3) (gsCons (gN 4) (gsCons (gN 5) gsNil))))) 5) (vR 0))
  (sSeq (sIf (bNot (bCh leI leI (kD (.int 2)) (vR 1) (kD (.int (10))))) sNo sNx)
  (sSeq (sIf (bNot (bCh ltI ltI (kD (.int 0)) (vR 2) (vR 1))) sNo sNx)
  (sSeq (sFor (iSeq (mkT (lCons (vR 3) (lCons (vR 4) lNil)))) (gN 6) (sIf (bNot (bCh leI leI (kD (.int 1)) (vR 6) (kD (.int (6))))) sNo sNx))
  (sIf (bNot (b1 truD (dCall (lCons (vR 5) lNil) f_is_share))) sNo sNx)))))
noncomputable def f_check_walk : List D → Option D := runX D_check_walk 7
theorem sc_check_walk : FnScope N_check_walk ["walk"] (defScope (topOf PR 20)) := ⟨rfl, rfl, rfl, by decide +kernel, rfl, by decide +kernel, by decide +kernel⟩
theorem b_check_walk {w : World} {K : PySem.W.Frag} {mg : Str → Option Value} {base : Heap} {f : Addr} {t_MOST_STEP : Tok} (h_MOST_STEP : mg "MOST_STEP" = some (.int (6) t_MOST_STEP)) {t_MOST_TOP : Tok} (h_MOST_TOP : mg "MOST_TOP" = some (.int (10) t_MOST_TOP)) (c_is_share : FX PR w K mg base 2 "is_share" 1 f_is_share) : Bd PR w K mg base 2 N_check_walk "check_walk" (defBody (topOf PR 20)) (defScope (topOf PR 20)) f D_check_walk :=
  ⟨fun cdv A outer s H E hr => by
  have nd : N_check_walk.Nodup := sc_check_walk.nd
  exact (sxs_cons (sx_asg (vX 0 (by kernel_rfl) (by kernel_rfl)) (eg_tup (n := 5) rfl (egs_cons (eg_name 1 nd (by kernel_rfl) (by kernel_rfl) (by kernel_rfl)) (egs_cons (eg_name 2 nd (by kernel_rfl) (by kernel_rfl) (by kernel_rfl)) (egs_cons (eg_name 3 nd (by kernel_rfl) (by kernel_rfl) (by kernel_rfl)) (egs_cons (eg_name 4 nd (by kernel_rfl) (by kernel_rfl) (by kernel_rfl)) (egs_cons (eg_name 5 nd (by kernel_rfl) (by kernel_rfl) (by kernel_rfl)) egs_nil (by kernel_rfl)) (by kernel_rfl)) (by kernel_rfl)) (by kernel_rfl)) (by kernel_rfl)) (by kernel_rfl) (by kernel_rfl)) (by kernel_rfl) (by kernel_rfl) (by kernel_rfl))
  (sxs_cons (sx_if (et_not (et_leLe ex_int.b (vX 1 (by kernel_rfl) (by kernel_rfl)).b (ex_glob (gl_of (by kernel_rfl)) h_MOST_TOP (by kernel_rfl)).b (by kernel_rfl))) (sxs_one sx_no) sxs_nil)
  (sxs_cons (sx_if (et_not (et_ltLt ex_int.b (vX 2 (by kernel_rfl) (by kernel_rfl)).b (vX 1 (by kernel_rfl) (by kernel_rfl)).b (by kernel_rfl))) (sxs_one sx_no) sxs_nil)
  (sxs_cons (sx_for PySem.PassesOwn.never rfl (ei_seq (ex_tup (ea_cons (vX 3 (by kernel_rfl) (by kernel_rfl)) (ea_cons (vX 4 (by kernel_rfl) (by kernel_rfl)) ea_nil (by kernel_rfl)) (by kernel_rfl)))) (eg_name 6 nd (by kernel_rfl) (by kernel_rfl) (by kernel_rfl)) (sxs_one (sx_if (et_not (et_leLe ex_int.b (vX 6 (by kernel_rfl) (by kernel_rfl)).b (ex_glob (gl_of (by kernel_rfl)) h_MOST_STEP (by kernel_rfl)).b (by kernel_rfl))) (sxs_one sx_no) sxs_nil)) (fun _ => rfl))
  (sxs_one (sx_if (et_not (et_val (cX (c_is_share : FX PR w K mg base _ _ _ _) hr (gl_of (by kernel_rfl)) (by kernel_rfl) (ea_cons (vX 5 (by kernel_rfl) (by kernel_rfl)) ea_nil (by kernel_rfl)) rfl (by kernel_rfl) (by kernel_rfl) (lenS len0)).b (fun _ => rfl))) (sxs_one sx_no) sxs_nil))))))⟩
/-! ### fraction -/
abbrev N_fraction : List Str := ["number", "by", "common"]
noncomputable def D_fraction : DenS :=
  (sSeq (sIf (b2 ltI (vR 1) (kD (.int 0))) (sPar 0 1 (lCons (d1 negD (vR 0)) (lCons (d1 negD (vR 1)) lNil))) sNx)
  (sSeq (sSet 2 (d2 gcdD (vR 0) (vR 1)))
  (sRet (mkT (lCons (d2 fdivD (vR 0) (vR 2)) (lCons (d2 fdivD (vR 1) (vR 2)) lNil))))))
noncomputable def f_fraction : List D → Option D := runX D_fraction 3
theorem sc_fraction : FnScope N_fraction ["number", "by"] (defScope (topOf PR 9)) := ⟨rfl, rfl, rfl, by decide +kernel, rfl, by decide +kernel, by decide +kernel⟩
theorem b_fraction {w : World} {K : PySem.W.Frag} {mg : Str → Option Value} {base : Heap} {f : Addr} (h_gcd : mg "gcd" = some (.builtin "math.gcd")) : Bd PR w K mg base 0 N_fraction "fraction" (defBody (topOf PR 9)) (defScope (topOf PR 9)) f D_fraction :=
  ⟨fun cdv A outer s H E hr => by
  have nd : N_fraction.Nodup := sc_fraction.nd
  exact (sxs_cons (sx_if (et_cmp (ec_ltI (vX 1 (by kernel_rfl) (by kernel_rfl)).b ex_int.b) (by kernel_rfl)) (sxs_one (sx_par 0 1 rfl nd (by kernel_rfl) (by kernel_rfl) (by decide) (by kernel_rfl) (by kernel_rfl) (ea_cons (ex_neg (vX 0 (by kernel_rfl) (by kernel_rfl)).b) (ea_cons (ex_neg (vX 1 (by kernel_rfl) (by kernel_rfl)).b) ea_nil (by kernel_rfl)) (by kernel_rfl)) (by kernel_rfl) (by kernel_rfl))) sxs_nil)
  (sxs_cons (sx_set 2 nd (by kernel_rfl) (by kernel_rfl) (by kernel_rfl) (ex_gcd (gl_of (by kernel_rfl)) h_gcd (vX 0 (by kernel_rfl) (by kernel_rfl)).b (vX 1 (by kernel_rfl) (by kernel_rfl)).b (by kernel_rfl) (by kernel_rfl)) (by kernel_rfl))
  (sxs_one (sx_ret (ex_tup (ea_cons (ex_fdiv (vX 0 (by kernel_rfl) (by kernel_rfl)).b (vX 2 (by kernel_rfl) (by kernel_rfl)).b) (ea_cons (ex_fdiv (vX 1 (by kernel_rfl) (by kernel_rfl)).b (vX 2 (by kernel_rfl) (by kernel_rfl)).b) ea_nil (by kernel_rfl)) (by kernel_rfl)))))))⟩
/-! ### minus -/
abbrev N_minus : List Str := ["one", "two"]
noncomputable def D_minus : DenS :=
  (sRet (dCall (lCons (d2 subD (d2 mulI (d2 ixD (vR 0) (kD (.int 0))) (d2 ixD (vR 1) (kD (.int 1)))) (d2 mulI (d2 ixD (vR 1) (kD (.int 0))) (d2 ixD (vR 0) (kD (.int 1))))) (lCons (d2 mulI (d2 ixD (vR 0) (kD (.int 1))) (d2 ixD (vR 1) (kD (.int 1)))) lNil)) f_fraction))
noncomputable def f_minus : List D → Option D := runX D_minus 2
theorem sc_minus : FnScope N_minus ["one", "two"] (defScope (topOf PR 11)) := ⟨rfl, rfl, rfl, by decide +kernel, rfl, by decide +kernel, by decide +kernel⟩
theorem b_minus {w : World} {K : PySem.W.Frag} {mg : Str → Option Value} {base : Heap} {f : Addr} (c_fraction : FX PR w K mg base 1 "fraction" 2 f_fraction) : Bd PR w K mg base 1 N_minus "minus" (defBody (topOf PR 11)) (defScope (topOf PR 11)) f D_minus :=
  ⟨fun cdv A outer s H E hr => by
  have nd : N_minus.Nodup := sc_minus.nd
  exact (sxs_one (sx_ret (cX (c_fraction : FX PR w K mg base _ _ _ _) hr (gl_of (by kernel_rfl)) (by kernel_rfl) (ea_cons (ex_sub (ex_mulI (ex_ix (vX 0 (by kernel_rfl) (by kernel_rfl)).b ex_int.b (fun _ _ => rfl)).b (ex_ix (vX 1 (by kernel_rfl) (by kernel_rfl)).b ex_int.b (fun _ _ => rfl)).b).b (ex_mulI (ex_ix (vX 1 (by kernel_rfl) (by kernel_rfl)).b ex_int.b (fun _ _ => rfl)).b (ex_ix (vX 0 (by kernel_rfl) (by kernel_rfl)).b ex_int.b (fun _ _ => rfl)).b).b) (ea_cons (ex_mulI (ex_ix (vX 0 (by kernel_rfl) (by kernel_rfl)).b ex_int.b (fun _ _ => rfl)).b (ex_ix (vX 1 (by kernel_rfl) (by kernel_rfl)).b ex_int.b (fun _ _ => rfl)).b) ea_nil (by kernel_rfl)) (by kernel_rfl)) rfl (by kernel_rfl) (by kernel_rfl) (lenS (lenS len0)))))⟩
/-! ### behind -/
abbrev N_behind : List Str := ["walk", "place", "_", "up", "down", "chance"]
noncomputable def D_behind : DenS :=
  (sSeq (sAsg (gT (gsCons (gN 2) (gsCons (gN 2) (gsCons (gN 3) (gsCons (gN 4) (gsCons (gN 5) gsNil))))) 5) (vR 0))
  (sRet (mkL (lCons (mkT (lCons (d2 addD (vR 1) (vR 3)) (lCons (vR 5) lNil))) (lCons (mkT (lCons (d2 subD (vR 1) (vR 4)) (lCons (dCall (lCons (mkT (lCons (kD (.int 1)) (lCons (kD (.int 1)) lNil))) (lCons (vR 5) lNil)) f_minus) lNil))) lNil)))))
noncomputable def f_behind : List D → Option D := runX D_behind 6
theorem sc_behind : FnScope N_behind ["walk", "place"] (defScope (topOf PR 22)) := ⟨rfl, rfl, rfl, by decide +kernel, rfl, by decide +kernel, by decide +kernel⟩
theorem b_behind {w : World} {K : PySem.W.Frag} {mg : Str → Option Value} {base : Heap} {f : Addr} (c_minus : FX PR w K mg base 2 "minus" 2 f_minus) : Bd PR w K mg base 2 N_behind "behind" (defBody (topOf PR 22)) (defScope (topOf PR 22)) f D_behind :=
  ⟨fun cdv A outer s H E hr => by
  have nd : N_behind.Nodup := sc_behind.nd
  exact (sxs_cons (sx_asg (vX 0 (by kernel_rfl) (by kernel_rfl)) (eg_tup (n := 5) rfl (egs_cons (eg_name 2 nd (by kernel_rfl) (by kernel_rfl) (by kernel_rfl)) (egs_cons (eg_name 2 nd (by kernel_rfl) (by kernel_rfl) (by kernel_rfl)) (egs_cons (eg_name 3 nd (by kernel_rfl) (by kernel_rfl) (by kernel_rfl)) (egs_cons (eg_name 4 nd (by kernel_rfl) (by kernel_rfl) (by kernel_rfl)) (egs_cons (eg_name 5 nd (by kernel_rfl) (by kernel_rfl) (by kernel_rfl)) egs_nil (by kernel_rfl)) (by kernel_rfl)) (by kernel_rfl)) (by kernel_rfl)) (by kernel_rfl)) (by kernel_rfl) (by kernel_rfl)) (by kernel_rfl) (by kernel_rfl) (by kernel_rfl))
  (sxs_one (sx_ret (en_lst (ea_cons (ex_tup (ea_cons (ex_add (vX 1 (by kernel_rfl) (by kernel_rfl)).b (vX 3 (by kernel_rfl) (by kernel_rfl)).b) (ea_cons (vX 5 (by kernel_rfl) (by kernel_rfl)) ea_nil (by kernel_rfl)) (by kernel_rfl))) (ea_cons (ex_tup (ea_cons (ex_sub (vX 1 (by kernel_rfl) (by kernel_rfl)).b (vX 4 (by kernel_rfl) (by kernel_rfl)).b) (ea_cons (cX (c_minus : FX PR w K mg base _ _ _ _) hr (gl_of (by kernel_rfl)) (by kernel_rfl) (ea_cons (ex_tup (ea_cons ex_int (ea_cons ex_int ea_nil (by kernel_rfl)) (by kernel_rfl))) (ea_cons (vX 5 (by kernel_rfl) (by kernel_rfl)) ea_nil (by kernel_rfl)) (by kernel_rfl)) rfl (by kernel_rfl) (by kernel_rfl) (lenS (lenS len0))) ea_nil (by kernel_rfl)) (by kernel_rfl))) ea_nil (by kernel_rfl)) (by kernel_rfl))).x)))⟩
/-! ### plus -/
abbrev N_plus : List Str := ["one", "two"]
noncomputable def D_plus : DenS :=
  (sRet (dCall (lCons (d2 addD (d2 mulI (d2 ixD (vR 0) (kD (.int 0))) (d2 ixD (vR 1) (kD (.int 1)))) (d2 mulI (d2 ixD (vR 1) (kD (.int 0))) (d2 ixD (vR 0) (kD (.int 1))))) (lCons (d2 mulI (d2 ixD (vR 0) (kD (.int 1))) (d2 ixD (vR 1) (kD (.int 1)))) lNil)) f_fraction))
noncomputable def f_plus : List D → Option D := runX D_plus 2
theorem sc_plus : FnScope N_plus ["one", "two"] (defScope (topOf PR 10)) := ⟨rfl, rfl, rfl, by decide +kernel, rfl, by decide +kernel, by decide +kernel⟩
theorem b_plus {w : World} {K : PySem.W.Frag} {mg : Str → Option Value} {base : Heap} {f : Addr} (c_fraction : FX PR w K mg base 1 "fraction" 2 f_fraction) : Bd PR w K mg base 1 N_plus "plus" (defBody (topOf PR 10)) (defScope (topOf PR 10)) f D_plus :=
  ⟨fun cdv A outer s H E hr => by
  have nd : N_plus.Nodup := sc_plus.nd
  exact (sxs_one (sx_ret (cX (c_fraction : FX PR w K mg base _ _ _ _) hr (gl_of (by kernel_rfl)) (by kernel_rfl) (ea_cons (ex_add (ex_mulI (ex_ix (vX 0 (by kernel_rfl) (by kernel_rfl)).b ex_int.b (fun _ _ => rfl)).b (ex_ix (vX 1 (by kernel_rfl) (by kernel_rfl)).b ex_int.b (fun _ _ => rfl)).b).b (ex_mulI (ex_ix (vX 1 (by kernel_rfl) (by kernel_rfl)).b ex_int.b (fun _ _ => rfl)).b (ex_ix (vX 0 (by kernel_rfl) (by kernel_rfl)).b ex_int.b (fun _ _ => rfl)).b).b) (ea_cons (ex_mulI (ex_ix (vX 0 (by kernel_rfl) (by kernel_rfl)).b ex_int.b (fun _ _ => rfl)).b (ex_ix (vX 1 (by kernel_rfl) (by kernel_rfl)).b ex_int.b (fun _ _ => rfl)).b) ea_nil (by kernel_rfl)) (by kernel_rfl)) rfl (by kernel_rfl) (by kernel_rfl) (lenS (lenS len0)))))⟩
/-! ### rows_of -/
abbrev N_rows_of : List Str := ["walk", "top", "found", "place", "row", "other", "part", "side"]
noncomputable def D_rows_of : DenS :=
  (sSeq (sSet 1 (d2 ixD (vR 0) (kD (.int 0))))
  (sSeq (sOwn 2 (mkL lNil))
  (sSeq (sFor (iR2 (kD (.int 1)) (vR 1)) (gN 3) (sSeq (sOwn 4 (d2 catL (dLc (iR2 (kD (.int 1)) (vR 1)) (gN 5) bYes (mkT (lCons (d1 intD (bV (b2 eqD (vR 3) (vR 5)))) (lCons (kD (.int 1)) lNil))) [5]) (mkL (lCons (mkT (lCons (kD (.int 0)) (lCons (kD (.int 1)) lNil))) (lCons (mkT (lCons (kD (.int 0)) (lCons (kD (.int 1)) lNil))) (lCons (mkT (lCons (kD (.int 1)) (lCons (kD (.int 1)) lNil))) lNil))))))
   (sSeq (sFor (iSeq (dCall (lCons (vR 0) (lCons (vR 3) lNil)) f_behind)) (gT (gsCons (gN 5) (gsCons (gN 6) gsNil)) 2) (sIf (bCh ltI ltI (kD (.int 0)) (vR 5) (vR 1)) (sStL 4 (d2 subD (vR 5) (kD (.int 1))) (dCall (lCons (d2 ixD (vB 4) (d2 subD (vR 5) (kD (.int 1)))) (lCons (vR 6) lNil)) f_minus)) (sSeq (sSet 7 (dIf (b2 leI (vR 5) (kD (.int 0))) (d2 subD (vR 1) (kD (.int 1))) (vR 1)))
     (sStL 4 (vR 7) (dCall (lCons (d2 ixD (vB 4) (vR 7)) (lCons (vR 6) lNil)) f_plus)))))
   (sFrz 4 (sApp 2 (vR 4))))))
  (sRetOwn 2))))
noncomputable def f_rows_of : List D → Option D := runN D_rows_of 8
theorem sc_rows_of : FnScope N_rows_of ["walk"] (defScope (topOf PR 23)) := ⟨rfl, rfl, rfl, by decide +kernel, rfl, by decide +kernel, by decide +kernel⟩
theorem b_rows_of {w : World} {K : PySem.W.Frag} {mg : Str → Option Value} {base : Heap} {f : Addr} (h_int : mg "int" = none) (h_range : mg "range" = none) (c_behind : FX PR w K mg base 3 "behind" 2 f_behind) (c_minus : FX PR w K mg base 3 "minus" 2 f_minus) (c_plus : FX PR w K mg base 3 "plus" 2 f_plus) : Bd PR w K mg base 3 N_rows_of "rows_of" (defBody (topOf PR 23)) (defScope (topOf PR 23)) f D_rows_of :=
  ⟨fun cdv A outer s H E hr => by
  have nd : N_rows_of.Nodup := sc_rows_of.nd
  exact (sxs_cons (sx_set 1 nd (by kernel_rfl) (by kernel_rfl) (by kernel_rfl) (ex_ix (vX 0 (by kernel_rfl) (by kernel_rfl)).b ex_int.b (fun _ _ => rfl)) (by kernel_rfl))
  (sxs_cons (sx_own 2 nd (by kernel_rfl) (by kernel_rfl) (by kernel_rfl) (en_lst ea_nil) (by kernel_rfl))
  (sxs_cons (sx_for PySem.PassesOwn.never rfl (ei_r2 (gl_of (by kernel_rfl)) h_range ex_int (vX 1 (by kernel_rfl) (by kernel_rfl)) (by kernel_rfl) (by kernel_rfl)) (eg_name 3 nd (by kernel_rfl) (by kernel_rfl) (by kernel_rfl)) (sxs_cons (sx_own 4 nd (by kernel_rfl) (by kernel_rfl) (by kernel_rfl) (en_catL (en_lc (own := [("other", 5)]) rfl nd (ei_r2 (gl_of (by kernel_rfl)) h_range ex_int (vX 1 (by kernel_rfl) (by kernel_rfl)) (by kernel_rfl) (by kernel_rfl)) (blkOk_by (by kernel_rfl)) (fun _ _ _ _ _ => (eg_name 5 nd (by kernel_rfl) (by kernel_rfl) (by kernel_rfl))) (fun _ _ _ _ _ => ets_nil) (fun _ _ _ _ _ => (ex_tup (ea_cons (ex_int1 (gl_of (by kernel_rfl)) h_int (ex_cmp (ec_eq (Zx.Room.u64 hr) (vX 3 (by kernel_rfl) (by kernel_rfl)).b (vX 5 (by kernel_rfl) (by kernel_rfl)).b) (by kernel_rfl)).b (by kernel_rfl)) (ea_cons ex_int ea_nil (by kernel_rfl)) (by kernel_rfl)))) (fun _ => rfl) (by decide)).x.b (en_lst (ea_cons (ex_tup (ea_cons ex_int (ea_cons ex_int ea_nil (by kernel_rfl)) (by kernel_rfl))) (ea_cons (ex_tup (ea_cons ex_int (ea_cons ex_int ea_nil (by kernel_rfl)) (by kernel_rfl))) (ea_cons (ex_tup (ea_cons ex_int (ea_cons ex_int ea_nil (by kernel_rfl)) (by kernel_rfl))) ea_nil (by kernel_rfl)) (by kernel_rfl)) (by kernel_rfl))).x.b) (by kernel_rfl))
   (sxs_cons (sx_for PySem.PassesOwn.never rfl (ei_seq (cX (c_behind : FX PR w K mg base _ _ _ _) hr (gl_of (by kernel_rfl)) (by kernel_rfl) (ea_cons (vX 0 (by kernel_rfl) (by kernel_rfl)) (ea_cons (vX 3 (by kernel_rfl) (by kernel_rfl)) ea_nil (by kernel_rfl)) (by kernel_rfl)) rfl (by kernel_rfl) (by kernel_rfl) (lenS (lenS len0)))) (eg_tup (n := 2) rfl (egs_cons (eg_name 5 nd (by kernel_rfl) (by kernel_rfl) (by kernel_rfl)) (egs_cons (eg_name 6 nd (by kernel_rfl) (by kernel_rfl) (by kernel_rfl)) egs_nil (by kernel_rfl)) (by kernel_rfl)) (by kernel_rfl) (by kernel_rfl)) (sxs_one (sx_if (et_ltLt ex_int.b (vX 5 (by kernel_rfl) (by kernel_rfl)).b (vX 1 (by kernel_rfl) (by kernel_rfl)).b (by kernel_rfl)) (sxs_one (sx_setL 4 (by kernel_rfl) (by kernel_rfl) (by kernel_rfl) (by kernel_rfl) (cX (c_minus : FX PR w K mg base _ _ _ _) hr (gl_of (by kernel_rfl)) (by kernel_rfl) (ea_cons (ex_ix (vE 4 (by kernel_rfl) (by kernel_rfl)) (ex_sub (vX 5 (by kernel_rfl) (by kernel_rfl)).b ex_int.b).b (fun _ _ => rfl)) (ea_cons (vX 6 (by kernel_rfl) (by kernel_rfl)) ea_nil (by kernel_rfl)) (by kernel_rfl)) rfl (by kernel_rfl) (by kernel_rfl) (lenS (lenS len0))) (ex_sub (vX 5 (by kernel_rfl) (by kernel_rfl)).b ex_int.b).b (fun _ => rfl) (by kernel_rfl) (by kernel_rfl) (by kernel_rfl))) (sxs_cons (sx_set 7 nd (by kernel_rfl) (by kernel_rfl) (by kernel_rfl) (ex_if (et_cmp (ec_leI (vX 5 (by kernel_rfl) (by kernel_rfl)).b ex_int.b) (by kernel_rfl)) (ex_sub (vX 1 (by kernel_rfl) (by kernel_rfl)).b ex_int.b) (vX 1 (by kernel_rfl) (by kernel_rfl))) (by kernel_rfl))
     (sxs_one (sx_setL 4 (by kernel_rfl) (by kernel_rfl) (by kernel_rfl) (by kernel_rfl) (cX (c_plus : FX PR w K mg base _ _ _ _) hr (gl_of (by kernel_rfl)) (by kernel_rfl) (ea_cons (ex_ix (vE 4 (by kernel_rfl) (by kernel_rfl)) (vX 7 (by kernel_rfl) (by kernel_rfl)).b (fun _ _ => rfl)) (ea_cons (vX 6 (by kernel_rfl) (by kernel_rfl)) ea_nil (by kernel_rfl)) (by kernel_rfl)) rfl (by kernel_rfl) (by kernel_rfl) (lenS (lenS len0))) (vX 7 (by kernel_rfl) (by kernel_rfl)).b (fun _ => rfl) (by kernel_rfl) (by kernel_rfl) (by kernel_rfl)))))) (fun _ => rfl))
   (sxs_one (sx_frz 4 (sx_append 2 (by kernel_rfl) (by kernel_rfl) (by kernel_rfl) (by kernel_rfl) (vX 4 (by kernel_rfl) (by kernel_rfl)) (by kernel_rfl) (by kernel_rfl)))))) (fun _ => rfl))
  (sxs_one (sx_retOwn 2 (by kernel_rfl) (by kernel_rfl) (by kernel_rfl) (by kernel_rfl))))))⟩
/-! ### over -/
abbrev N_over : List Str := ["one", "two"]
noncomputable def D_over : DenS :=
  (sRet (dCall (lCons (d2 mulI (d2 ixD (vR 0) (kD (.int 0))) (d2 ixD (vR 1) (kD (.int 1)))) (lCons (d2 mulI (d2 ixD (vR 0) (kD (.int 1))) (d2 ixD (vR 1) (kD (.int 0)))) lNil)) f_fraction))
noncomputable def f_over : List D → Option D := runX D_over 2
theorem sc_over : FnScope N_over ["one", "two"] (defScope (topOf PR 13)) := ⟨rfl, rfl, rfl, by decide +kernel, rfl, by decide +kernel, by decide +kernel⟩
theorem b_over {w : World} {K : PySem.W.Frag} {mg : Str → Option Value} {base : Heap} {f : Addr} (c_fraction : FX PR w K mg base 1 "fraction" 2 f_fraction) : Bd PR w K mg base 1 N_over "over" (defBody (topOf PR 13)) (defScope (topOf PR 13)) f D_over :=
  ⟨fun cdv A outer s H E hr => by
  have nd : N_over.Nodup := sc_over.nd
  exact (sxs_one (sx_ret (cX (c_fraction : FX PR w K mg base _ _ _ _) hr (gl_of (by kernel_rfl)) (by kernel_rfl) (ea_cons (ex_mulI (ex_ix (vX 0 (by kernel_rfl) (by kernel_rfl)).b ex_int.b (fun _ _ => rfl)).b (ex_ix (vX 1 (by kernel_rfl) (by kernel_rfl)).b ex_int.b (fun _ _ => rfl)).b) (ea_cons (ex_mulI (ex_ix (vX 0 (by kernel_rfl) (by kernel_rfl)).b ex_int.b (fun _ _ => rfl)).b (ex_ix (vX 1 (by kernel_rfl) (by kernel_rfl)).b ex_int.b (fun _ _ => rfl)).b) ea_nil (by kernel_rfl)) (by kernel_rfl)) rfl (by kernel_rfl) (by kernel_rfl) (lenS (lenS len0)))))⟩
/-! ### times -/
abbrev N_times : List Str := ["one", "two"]
noncomputable def D_times : DenS :=
  (sRet (dCall (lCons (d2 mulI (d2 ixD (vR 0) (kD (.int 0))) (d2 ixD (vR 1) (kD (.int 0)))) (lCons (d2 mulI (d2 ixD (vR 0) (kD (.int 1))) (d2 ixD (vR 1) (kD (.int 1)))) lNil)) f_fraction))
noncomputable def f_times : List D → Option D := runX D_times 2
theorem sc_times : FnScope N_times ["one", "two"] (defScope (topOf PR 12)) := ⟨rfl, rfl, rfl, by decide +kernel, rfl, by decide +kernel, by decide +kernel⟩
theorem b_times {w : World} {K : PySem.W.Frag} {mg : Str → Option Value} {base : Heap} {f : Addr} (c_fraction : FX PR w K mg base 1 "fraction" 2 f_fraction) : Bd PR w K mg base 1 N_times "times" (defBody (topOf PR 12)) (defScope (topOf PR 12)) f D_times :=
  ⟨fun cdv A outer s H E hr => by
  have nd : N_times.Nodup := sc_times.nd
  exact (sxs_one (sx_ret (cX (c_fraction : FX PR w K mg base _ _ _ _) hr (gl_of (by kernel_rfl)) (by kernel_rfl) (ea_cons (ex_mulI (ex_ix (vX 0 (by kernel_rfl) (by kernel_rfl)).b ex_int.b (fun _ _ => rfl)).b (ex_ix (vX 1 (by kernel_rfl) (by kernel_rfl)).b ex_int.b (fun _ _ => rfl)).b) (ea_cons (ex_mulI (ex_ix (vX 0 (by kernel_rfl) (by kernel_rfl)).b ex_int.b (fun _ _ => rfl)).b (ex_ix (vX 1 (by kernel_rfl) (by kernel_rfl)).b ex_int.b (fun _ _ => rfl)).b) ea_nil (by kernel_rfl)) (by kernel_rfl)) rfl (by kernel_rfl) (by kernel_rfl) (lenS (lenS len0)))))⟩
/-! ### values_of -/
abbrev N_values_of : List Str := ["walk", "left", "many", "k", "head", "first", "i", "share", "row", "one", "two"]
noncomputable def D_values_of : DenS :=
  (sSeq (sOwn 1 (dCall (lCons (vR 0) lNil) f_rows_of))
  (sSeq (sSet 2 (d1 lenD (vB 1)))
  (sSeq (sFor (iR1 (vR 2)) (gN 3) (sSeq (sSet 4 (d2 ixD (dLc (iR2 (vR 3) (vR 2)) (gN 6) (b2 neD (d2 ixD (d2 ixD (d2 ixD (vB 1) (vR 6)) (vR 3)) (kD (.int 0))) (kD (.int 0))) (vR 6) [6]) (kD (.int 0))))
   (sSeq (sSet 5 (d2 ixD (vB 1) (vR 4)))
   (sSeq (sStL 1 (vR 4) (d2 ixD (vB 1) (vR 3)))
   (sSeq (sStL 1 (vR 3) (dLc (iSeq (vR 5)) (gN 9) bYes (dCall (lCons (vR 9) (lCons (d2 ixD (vR 5) (vR 3)) lNil)) f_over) [9]))
   (sFor (iR1 (vR 2)) (gN 6) (sSeq (sSet 7 (d2 ixD (d2 ixD (vB 1) (vR 6)) (vR 3)))
    (sIf (bAnd (b2 neD (vR 6) (vR 3)) (b2 neD (d2 ixD (vR 7) (kD (.int 0))) (kD (.int 0)))) (sStL 1 (vR 6) (dLc (iZpX (d2 ixD (vB 1) (vR 6)) (d2 ixD (vB 1) (vR 3))) (gT (gsCons (gN 9) (gsCons (gN 10) gsNil)) 2) bYes (dCall (lCons (vR 9) (lCons (dCall (lCons (vR 7) (lCons (vR 10) lNil)) f_times) lNil)) f_minus) [9, 10])) sNx))))))))
  (sFrz 1 (sRet (dLc (iSeq (vR 1)) (gN 8) bYes (mkT (lCons (d2 ixD (vR 8) (vR 2)) (lCons (d2 ixD (vR 8) (d2 addD (vR 2) (kD (.int 1)))) (lCons (d2 ixD (vR 8) (d2 addD (vR 2) (kD (.int 2)))) lNil)))) [8]))))))
noncomputable def f_values_of : List D → Option D := runX D_values_of 11
theorem sc_values_of : FnScope N_values_of ["walk"] (defScope (topOf PR 24)) := ⟨rfl, rfl, rfl, by decide +kernel, rfl, by decide +kernel, by decide +kernel⟩
theorem b_values_of {w : World} {K : PySem.W.Frag} {mg : Str → Option Value} {base : Heap} {f : Addr} (h_len : mg "len" = none) (h_range : mg "range" = none) (h_zip : mg "zip" = none) (c_minus : FX PR w K mg base 4 "minus" 2 f_minus) (c_over : FX PR w K mg base 4 "over" 2 f_over) (c_rows_of : FN PR w K mg base 4 "rows_of" 1 f_rows_of) (c_times : FX PR w K mg base 4 "times" 2 f_times) : Bd PR w K mg base 4 N_values_of "values_of" (defBody (topOf PR 24)) (defScope (topOf PR 24)) f D_values_of :=
  ⟨fun cdv A outer s H E hr => by
  have nd : N_values_of.Nodup := sc_values_of.nd
  exact (sxs_cons (sx_own 1 nd (by kernel_rfl) (by kernel_rfl) (by kernel_rfl) (nX (c_rows_of : FN PR w K mg base _ _ _ _) hr (gl_of (by kernel_rfl)) (by kernel_rfl) (ea_cons (vX 0 (by kernel_rfl) (by kernel_rfl)) ea_nil (by kernel_rfl)) rfl (by kernel_rfl) (by kernel_rfl) (lenS len0)) (by kernel_rfl))
  (sxs_cons (sx_set 2 nd (by kernel_rfl) (by kernel_rfl) (by kernel_rfl) (ex_len (gl_of (by kernel_rfl)) h_len (vE 1 (by kernel_rfl) (by kernel_rfl)) (by kernel_rfl)) (by kernel_rfl))
  (sxs_cons (sx_for PySem.PassesOwn.never rfl (ei_r1 (gl_of (by kernel_rfl)) h_range (vX 2 (by kernel_rfl) (by kernel_rfl)) (by kernel_rfl)) (eg_name 3 nd (by kernel_rfl) (by kernel_rfl) (by kernel_rfl)) (sxs_cons (sx_set 4 nd (by kernel_rfl) (by kernel_rfl) (by kernel_rfl) (ex_ix (en_lc (own := [("i", 6)]) rfl nd (ei_r2 (gl_of (by kernel_rfl)) h_range (vX 3 (by kernel_rfl) (by kernel_rfl)) (vX 2 (by kernel_rfl) (by kernel_rfl)) (by kernel_rfl) (by kernel_rfl)) (blkOk_by (by kernel_rfl)) (fun _ _ _ _ _ => (eg_name 6 nd (by kernel_rfl) (by kernel_rfl) (by kernel_rfl))) (fun _ _ _ _ _ => (ets_one (et_cmp (ec_ne (Zx.Room.u64 hr) (ex_ix (ex_ix (ex_ix (vE 1 (by kernel_rfl) (by kernel_rfl)) (vX 6 (by kernel_rfl) (by kernel_rfl)).b (fun _ _ => rfl)).b (vX 3 (by kernel_rfl) (by kernel_rfl)).b (fun _ _ => rfl)).b ex_int.b (fun _ _ => rfl)).b ex_int.b) (by kernel_rfl)))) (fun _ _ _ _ _ => (vX 6 (by kernel_rfl) (by kernel_rfl))) (fun _ => rfl) (by decide)).x.b ex_int.b (fun _ _ => rfl)) (by kernel_rfl))
   (sxs_cons (sx_set 5 nd (by kernel_rfl) (by kernel_rfl) (by kernel_rfl) (ex_ix (vE 1 (by kernel_rfl) (by kernel_rfl)) (vX 4 (by kernel_rfl) (by kernel_rfl)).b (fun _ _ => rfl)) (by kernel_rfl))
   (sxs_cons (sx_setL 1 (by kernel_rfl) (by kernel_rfl) (by kernel_rfl) (by kernel_rfl) (ex_ix (vE 1 (by kernel_rfl) (by kernel_rfl)) (vX 3 (by kernel_rfl) (by kernel_rfl)).b (fun _ _ => rfl)) (vX 4 (by kernel_rfl) (by kernel_rfl)).b (fun _ => rfl) (by kernel_rfl) (by kernel_rfl) (by kernel_rfl))
   (sxs_cons (sx_setL 1 (by kernel_rfl) (by kernel_rfl) (by kernel_rfl) (by kernel_rfl) (en_lc (own := [("one", 9)]) rfl nd (ei_seq (vX 5 (by kernel_rfl) (by kernel_rfl))) (blkOk_by (by kernel_rfl)) (fun _ _ _ _ _ => (eg_name 9 nd (by kernel_rfl) (by kernel_rfl) (by kernel_rfl))) (fun _ _ _ _ _ => ets_nil) (fun _ _ _ _ _ => (cX (c_over : FX PR w K mg base _ _ _ _) hr (gl_of (by kernel_rfl)) (by kernel_rfl) (ea_cons (vX 9 (by kernel_rfl) (by kernel_rfl)) (ea_cons (ex_ix (vX 5 (by kernel_rfl) (by kernel_rfl)).b (vX 3 (by kernel_rfl) (by kernel_rfl)).b (fun _ _ => rfl)) ea_nil (by kernel_rfl)) (by kernel_rfl)) rfl (by kernel_rfl) (by kernel_rfl) (lenS (lenS len0)))) (fun _ => rfl) (by decide)).x (vX 3 (by kernel_rfl) (by kernel_rfl)).b (fun _ => rfl) (by kernel_rfl) (by kernel_rfl) (by kernel_rfl))
   (sxs_one (sx_for PySem.PassesOwn.never rfl (ei_r1 (gl_of (by kernel_rfl)) h_range (vX 2 (by kernel_rfl) (by kernel_rfl)) (by kernel_rfl)) (eg_name 6 nd (by kernel_rfl) (by kernel_rfl) (by kernel_rfl)) (sxs_cons (sx_set 7 nd (by kernel_rfl) (by kernel_rfl) (by kernel_rfl) (ex_ix (ex_ix (vE 1 (by kernel_rfl) (by kernel_rfl)) (vX 6 (by kernel_rfl) (by kernel_rfl)).b (fun _ _ => rfl)).b (vX 3 (by kernel_rfl) (by kernel_rfl)).b (fun _ _ => rfl)) (by kernel_rfl))
    (sxs_one (sx_if (ew_and (et_cmp (ec_ne (Zx.Room.u64 hr) (vX 6 (by kernel_rfl) (by kernel_rfl)).b (vX 3 (by kernel_rfl) (by kernel_rfl)).b) (by kernel_rfl)) (ew_and1 (et_cmp (ec_ne (Zx.Room.u64 hr) (ex_ix (vX 7 (by kernel_rfl) (by kernel_rfl)).b ex_int.b (fun _ _ => rfl)).b ex_int.b) (by kernel_rfl)))).t (sxs_one (sx_setL 1 (by kernel_rfl) (by kernel_rfl) (by kernel_rfl) (by kernel_rfl) (en_lc (own := [("one", 9), ("two", 10)]) rfl nd (ei_zipX (gl_of (by kernel_rfl)) h_zip (ex_ix (vE 1 (by kernel_rfl) (by kernel_rfl)) (vX 6 (by kernel_rfl) (by kernel_rfl)).b (fun _ _ => rfl)) (ex_ix (vE 1 (by kernel_rfl) (by kernel_rfl)) (vX 3 (by kernel_rfl) (by kernel_rfl)).b (fun _ _ => rfl)) (by kernel_rfl) (by kernel_rfl)) (blkOk_by (by kernel_rfl)) (fun _ _ _ _ _ => (eg_tup (n := 2) rfl (egs_cons (eg_name 9 nd (by kernel_rfl) (by kernel_rfl) (by kernel_rfl)) (egs_cons (eg_name 10 nd (by kernel_rfl) (by kernel_rfl) (by kernel_rfl)) egs_nil (by kernel_rfl)) (by kernel_rfl)) (by kernel_rfl) (by kernel_rfl))) (fun _ _ _ _ _ => ets_nil) (fun _ _ _ _ _ => (cX (c_minus : FX PR w K mg base _ _ _ _) hr (gl_of (by kernel_rfl)) (by kernel_rfl) (ea_cons (vX 9 (by kernel_rfl) (by kernel_rfl)) (ea_cons (cX (c_times : FX PR w K mg base _ _ _ _) hr (gl_of (by kernel_rfl)) (by kernel_rfl) (ea_cons (vX 7 (by kernel_rfl) (by kernel_rfl)) (ea_cons (vX 10 (by kernel_rfl) (by kernel_rfl)) ea_nil (by kernel_rfl)) (by kernel_rfl)) rfl (by kernel_rfl) (by kernel_rfl) (lenS (lenS len0))) ea_nil (by kernel_rfl)) (by kernel_rfl)) rfl (by kernel_rfl) (by kernel_rfl) (lenS (lenS len0)))) (fun _ => rfl) (by decide)).x (vX 6 (by kernel_rfl) (by kernel_rfl)).b (fun _ => rfl) (by kernel_rfl) (by kernel_rfl) (by kernel_rfl))) sxs_nil))) (fun _ => rfl))))))) (fun _ => rfl))
  (sxs_one (sx_frz 1 (sx_ret (en_lc (own := [("row", 8)]) rfl nd (ei_seq (vX 1 (by kernel_rfl) (by kernel_rfl))) (blkOk_by (by kernel_rfl)) (fun _ _ _ _ _ => (eg_name 8 nd (by kernel_rfl) (by kernel_rfl) (by kernel_rfl))) (fun _ _ _ _ _ => ets_nil) (fun _ _ _ _ _ => (ex_tup (ea_cons (ex_ix (vX 8 (by kernel_rfl) (by kernel_rfl)).b (vX 2 (by kernel_rfl) (by kernel_rfl)).b (fun _ _ => rfl)) (ea_cons (ex_ix (vX 8 (by kernel_rfl) (by kernel_rfl)).b (ex_add (vX 2 (by kernel_rfl) (by kernel_rfl)).b ex_int.b).b (fun _ _ => rfl)) (ea_cons (ex_ix (vX 8 (by kernel_rfl) (by kernel_rfl)).b (ex_add (vX 2 (by kernel_rfl) (by kernel_rfl)).b ex_int.b).b (fun _ _ => rfl)) ea_nil (by kernel_rfl)) (by kernel_rfl)) (by kernel_rfl)))) (fun _ => rfl) (by decide)).x))))))⟩
/-! ### values -/
abbrev N_values : List Str := ["walk"]
noncomputable def D_values : DenS :=
  (sSeq (sDrop (dCall (lCons (vR 0) lNil) f_check_walk))
  (sRet (d2 ixD (dCall (lCons (vR 0) lNil) f_values_of) (d2 subD (d2 ixD (vR 0) (kD (.int 1))) (kD (.int 1))))))
noncomputable def f_values : List D → Option D := runX D_values 1
theorem sc_values : FnScope N_values ["walk"] (defScope (topOf PR 25)) := ⟨rfl, rfl, rfl, by decide +kernel, rfl, by decide +kernel, by decide +kernel⟩
theorem b_values {w : World} {K : PySem.W.Frag} {mg : Str → Option Value} {base : Heap} {f : Addr} (c_check_walk : FX PR w K mg base 5 "check_walk" 1 f_check_walk) (c_values_of : FX PR w K mg base 5 "values_of" 1 f_values_of) : Bd PR w K mg base 5 N_values "values" (defBody (topOf PR 25)) (defScope (topOf PR 25)) f D_values :=
  ⟨fun cdv A outer s H E hr => by
  have nd : N_values.Nodup := sc_values.nd
  exact (sxs_cons (sx_expr (cX (c_check_walk : FX PR w K mg base _ _ _ _) hr (gl_of (by kernel_rfl)) (by kernel_rfl) (ea_cons (vX 0 (by kernel_rfl) (by kernel_rfl)) ea_nil (by kernel_rfl)) rfl (by kernel_rfl) (by kernel_rfl) (lenS len0)) (by kernel_rfl))
  (sxs_one (sx_ret (ex_ix (cX (c_values_of : FX PR w K mg base _ _ _ _) hr (gl_of (by kernel_rfl)) (by kernel_rfl) (ea_cons (vX 0 (by kernel_rfl) (by kernel_rfl)) ea_nil (by kernel_rfl)) rfl (by kernel_rfl) (by kernel_rfl) (lenS len0)).b (ex_sub (ex_ix (vX 0 (by kernel_rfl) (by kernel_rfl)).b ex_int.b (fun _ _ => rfl)).b ex_int.b).b (fun _ _ => rfl)))))⟩
/-! ### _law_minus -/
abbrev N__law_minus : List Str := ["one", "two"]
noncomputable def D__law_minus : DenS :=
  (sRet (dCall (lCons (d2 subD (d2 mulI (d2 ixD (vR 0) (kD (.int 0))) (d2 ixD (vR 1) (kD (.int 1)))) (d2 mulI (d2 ixD (vR 1) (kD (.int 0))) (d2 ixD (vR 0) (kD (.int 1))))) (lCons (d2 mulI (d2 ixD (vR 0) (kD (.int 1))) (d2 ixD (vR 1) (kD (.int 1)))) lNil)) f__law_low))
noncomputable def f__law_minus : List D → Option D := runX D__law_minus 2
theorem sc__law_minus : FnScope N__law_minus ["one", "two"] (defScope (topOf PR 36)) := ⟨rfl, rfl, rfl, by decide +kernel, rfl, by decide +kernel, by decide +kernel⟩
theorem b__law_minus {w : World} {K : PySem.W.Frag} {mg : Str → Option Value} {base : Heap} {f : Addr} (c__law_low : FX PR w K mg base 2 "_law_low" 2 f__law_low) : Bd PR w K mg base 2 N__law_minus "_law_minus" (defBody (topOf PR 36)) (defScope (topOf PR 36)) f D__law_minus :=
  ⟨fun cdv A outer s H E hr => by
  have nd : N__law_minus.Nodup := sc__law_minus.nd
  exact (sxs_one (sx_ret (cX (c__law_low : FX PR w K mg base _ _ _ _) hr (gl_of (by kernel_rfl)) (by kernel_rfl) (ea_cons (ex_sub (ex_mulI (ex_ix (vX 0 (by kernel_rfl) (by kernel_rfl)).b ex_int.b (fun _ _ => rfl)).b (ex_ix (vX 1 (by kernel_rfl) (by kernel_rfl)).b ex_int.b (fun _ _ => rfl)).b).b (ex_mulI (ex_ix (vX 1 (by kernel_rfl) (by kernel_rfl)).b ex_int.b (fun _ _ => rfl)).b (ex_ix (vX 0 (by kernel_rfl) (by kernel_rfl)).b ex_int.b (fun _ _ => rfl)).b).b) (ea_cons (ex_mulI (ex_ix (vX 0 (by kernel_rfl) (by kernel_rfl)).b ex_int.b (fun _ _ => rfl)).b (ex_ix (vX 1 (by kernel_rfl) (by kernel_rfl)).b ex_int.b (fun _ _ => rfl)).b) ea_nil (by kernel_rfl)) (by kernel_rfl)) rfl (by kernel_rfl) (by kernel_rfl) (lenS (lenS len0)))))⟩
/-! ### check_most -/
abbrev N_check_most : List Str := ["most"]
noncomputable def D_check_most : DenS :=
  (sIf (bNot (bCh leI leI (kD (.int 0)) (vR 0) (kD (.int (12))))) sNo sNx)
noncomputable def f_check_most : List D → Option D := runX D_check_most 1
theorem sc_check_most : FnScope N_check_most ["most"] (defScope (topOf PR 21)) := ⟨rfl, rfl, rfl, by decide +kernel, rfl, by decide +kernel, by decide +kernel⟩
theorem b_check_most {w : World} {K : PySem.W.Frag} {mg : Str → Option Value} {base : Heap} {f : Addr} {t_MOST_PIECES : Tok} (h_MOST_PIECES : mg "MOST_PIECES" = some (.int (12) t_MOST_PIECES)) : Bd PR w K mg base 0 N_check_most "check_most" (defBody (topOf PR 21)) (defScope (topOf PR 21)) f D_check_most :=
  ⟨fun cdv A outer s H E hr => by
  have nd : N_check_most.Nodup := sc_check_most.nd
  exact (sxs_one (sx_if (et_not (et_leLe ex_int.b (vX 0 (by kernel_rfl) (by kernel_rfl)).b (ex_glob (gl_of (by kernel_rfl)) h_MOST_PIECES (by kernel_rfl)).b (by kernel_rfl))) (sxs_one sx_no) sxs_nil))⟩
/-! ### course -/
abbrev N_course : List Str := ["walk", "most", "row", "found", "_", "now", "ends", "place", "part", "other", "share", "side"]
noncomputable def D_course : DenS :=
  (sSeq (sDrop (dCall (lCons (vR 0) lNil) f_check_walk))
  (sSeq (sDrop (dCall (lCons (vR 1) lNil) f_check_most))
  (sSeq (sSet 2 (dDisp1 (d2 ixD (vR 0) (kD (.int 1))) (mkT (lCons (kD (.int 1)) (lCons (kD (.int 1)) lNil)))))
  (sSeq (sOwn 3 (mkL lNil))
  (sSeq (sFor (iR1 (vR 1)) (gN 4) (sSeq (sOwn 5 (kD (.dict [])))
   (sSeq (sOwn 6 (mkL (lCons (mkT (lCons (kD (.int 0)) (lCons (kD (.int 1)) lNil))) (lCons (mkT (lCons (kD (.int 0)) (lCons (kD (.int 1)) lNil))) lNil))))
   (sSeq (sFor (iSeq (d1 sortItD (vR 2))) (gT (gsCons (gN 7) (gsCons (gN 8) gsNil)) 2) (sFor (iSeq (dCall (lCons (vR 0) (lCons (vR 7) lNil)) f_behind)) (gT (gsCons (gN 9) (gsCons (gN 10) gsNil)) 2) (sIf (bCh ltI ltI (kD (.int 0)) (vR 9) (d2 ixD (vR 0) (kD (.int 0)))) (sStD 5 (vR 9) (dCall (lCons (d3 dgetD3 (vB 5) (vR 9) (mkT (lCons (kD (.int 0)) (lCons (kD (.int 1)) lNil)))) (lCons (dCall (lCons (vR 8) (lCons (vR 10) lNil)) f_times) lNil)) f_plus)) (sSeq (sSet 11 (d1 intD (bV (b2 gtI (vR 9) (kD (.int 0))))))
      (sStL 6 (vR 11) (dCall (lCons (d2 ixD (vB 6) (vR 11)) (lCons (dCall (lCons (vR 8) (lCons (vR 10) lNil)) f_times) lNil)) f_plus))))))
   (sSeq (sApp 3 (mkT (lCons (d2 ixD (vB 6) (kD (.int 0))) (lCons (d2 ixD (vB 6) (kD (.int 1))) lNil))))
   (sFrz 5 (sSet 2 (vR 5))))))))
  (sFrz 3 (sRet (vR 3))))))))
noncomputable def f_course : List D → Option D := runX D_course 12
theorem sc_course : FnScope N_course ["walk", "most"] (defScope (topOf PR 27)) := ⟨rfl, rfl, rfl, by decide +kernel, rfl, by decide +kernel, by decide +kernel⟩
theorem b_course {w : World} {K : PySem.W.Frag} {mg : Str → Option Value} {base : Heap} {f : Addr} (h_int : mg "int" = none) (h_range : mg "range" = none) (h_sorted : mg "sorted" = none) (c_behind : FX PR w K mg base 3 "behind" 2 f_behind) (c_check_most : FX PR w K mg base 3 "check_most" 1 f_check_most) (c_check_walk : FX PR w K mg base 3 "check_walk" 1 f_check_walk) (c_plus : FX PR w K mg base 3 "plus" 2 f_plus) (c_times : FX PR w K mg base 3 "times" 2 f_times) : Bd PR w K mg base 3 N_course "course" (defBody (topOf PR 27)) (defScope (topOf PR 27)) f D_course :=
  ⟨fun cdv A outer s H E hr => by
  have nd : N_course.Nodup := sc_course.nd
  exact (sxs_cons (sx_expr (cX (c_check_walk : FX PR w K mg base _ _ _ _) hr (gl_of (by kernel_rfl)) (by kernel_rfl) (ea_cons (vX 0 (by kernel_rfl) (by kernel_rfl)) ea_nil (by kernel_rfl)) rfl (by kernel_rfl) (by kernel_rfl) (lenS len0)) (by kernel_rfl))
  (sxs_cons (sx_expr (cX (c_check_most : FX PR w K mg base _ _ _ _) hr (gl_of (by kernel_rfl)) (by kernel_rfl) (ea_cons (vX 1 (by kernel_rfl) (by kernel_rfl)) ea_nil (by kernel_rfl)) rfl (by kernel_rfl) (by kernel_rfl) (lenS len0)) (by kernel_rfl))
  (sxs_cons (sx_set 2 nd (by kernel_rfl) (by kernel_rfl) (by kernel_rfl) (en_disp1 (ex_ix (vX 0 (by kernel_rfl) (by kernel_rfl)).b ex_int.b (fun _ _ => rfl)) (ex_tup (ea_cons ex_int (ea_cons ex_int ea_nil (by kernel_rfl)) (by kernel_rfl)))).x (by kernel_rfl))
  (sxs_cons (sx_own 3 nd (by kernel_rfl) (by kernel_rfl) (by kernel_rfl) (en_lst ea_nil) (by kernel_rfl))
  (sxs_cons (sx_for PySem.PassesOwn.never rfl (ei_r1 (gl_of (by kernel_rfl)) h_range (vX 1 (by kernel_rfl) (by kernel_rfl)) (by kernel_rfl)) (eg_name 4 nd (by kernel_rfl) (by kernel_rfl) (by kernel_rfl)) (sxs_cons (sx_own 5 nd (by kernel_rfl) (by kernel_rfl) (by kernel_rfl) en_dK (by kernel_rfl))
   (sxs_cons (sx_own 6 nd (by kernel_rfl) (by kernel_rfl) (by kernel_rfl) (en_lst (ea_cons (ex_tup (ea_cons ex_int (ea_cons ex_int ea_nil (by kernel_rfl)) (by kernel_rfl))) (ea_cons (ex_tup (ea_cons ex_int (ea_cons ex_int ea_nil (by kernel_rfl)) (by kernel_rfl))) ea_nil (by kernel_rfl)) (by kernel_rfl))) (by kernel_rfl))
   (sxs_cons (sx_for PySem.PassesOwn.never rfl (ei_seq (en_sortItems rfl (Zx.Room.u68 hr) (vX 2 (by kernel_rfl) (by kernel_rfl)).b (gl_of (by kernel_rfl)) h_sorted (by kernel_rfl) (by kernel_rfl) (by kernel_rfl)).x) (eg_tup (n := 2) rfl (egs_cons (eg_name 7 nd (by kernel_rfl) (by kernel_rfl) (by kernel_rfl)) (egs_cons (eg_name 8 nd (by kernel_rfl) (by kernel_rfl) (by kernel_rfl)) egs_nil (by kernel_rfl)) (by kernel_rfl)) (by kernel_rfl) (by kernel_rfl)) (sxs_one (sx_for PySem.PassesOwn.never rfl (ei_seq (cX (c_behind : FX PR w K mg base _ _ _ _) hr (gl_of (by kernel_rfl)) (by kernel_rfl) (ea_cons (vX 0 (by kernel_rfl) (by kernel_rfl)) (ea_cons (vX 7 (by kernel_rfl) (by kernel_rfl)) ea_nil (by kernel_rfl)) (by kernel_rfl)) rfl (by kernel_rfl) (by kernel_rfl) (lenS (lenS len0)))) (eg_tup (n := 2) rfl (egs_cons (eg_name 9 nd (by kernel_rfl) (by kernel_rfl) (by kernel_rfl)) (egs_cons (eg_name 10 nd (by kernel_rfl) (by kernel_rfl) (by kernel_rfl)) egs_nil (by kernel_rfl)) (by kernel_rfl)) (by kernel_rfl) (by kernel_rfl)) (sxs_one (sx_if (et_ltLt ex_int.b (vX 9 (by kernel_rfl) (by kernel_rfl)).b (ex_ix (vX 0 (by kernel_rfl) (by kernel_rfl)).b ex_int.b (fun _ _ => rfl)).b (by kernel_rfl)) (sxs_one (sx_setD 5 (Zx.Room.u1 hr) (by kernel_rfl) (by kernel_rfl) (by kernel_rfl) (by kernel_rfl) (cX (c_plus : FX PR w K mg base _ _ _ _) hr (gl_of (by kernel_rfl)) (by kernel_rfl) (ea_cons (ex_dget3 (Zx.Room.u1 hr) (vE 5 (by kernel_rfl) (by kernel_rfl)) (vX 9 (by kernel_rfl) (by kernel_rfl)).b (ex_tup (ea_cons ex_int (ea_cons ex_int ea_nil (by kernel_rfl)) (by kernel_rfl))) ⟨(by kernel_rfl), (by kernel_rfl), (by kernel_rfl), (by kernel_rfl)⟩) (ea_cons (cX (c_times : FX PR w K mg base _ _ _ _) hr (gl_of (by kernel_rfl)) (by kernel_rfl) (ea_cons (vX 8 (by kernel_rfl) (by kernel_rfl)) (ea_cons (vX 10 (by kernel_rfl) (by kernel_rfl)) ea_nil (by kernel_rfl)) (by kernel_rfl)) rfl (by kernel_rfl) (by kernel_rfl) (lenS (lenS len0))) ea_nil (by kernel_rfl)) (by kernel_rfl)) rfl (by kernel_rfl) (by kernel_rfl) (lenS (lenS len0))) (vX 9 (by kernel_rfl) (by kernel_rfl)) (by kernel_rfl))) (sxs_cons (sx_set 11 nd (by kernel_rfl) (by kernel_rfl) (by kernel_rfl) (ex_int1 (gl_of (by kernel_rfl)) h_int (ex_cmp (ec_gtI (vX 9 (by kernel_rfl) (by kernel_rfl)).b ex_int.b) (by kernel_rfl)).b (by kernel_rfl)) (by kernel_rfl))
      (sxs_one (sx_setL 6 (by kernel_rfl) (by kernel_rfl) (by kernel_rfl) (by kernel_rfl) (cX (c_plus : FX PR w K mg base _ _ _ _) hr (gl_of (by kernel_rfl)) (by kernel_rfl) (ea_cons (ex_ix (vE 6 (by kernel_rfl) (by kernel_rfl)) (vX 11 (by kernel_rfl) (by kernel_rfl)).b (fun _ _ => rfl)) (ea_cons (cX (c_times : FX PR w K mg base _ _ _ _) hr (gl_of (by kernel_rfl)) (by kernel_rfl) (ea_cons (vX 8 (by kernel_rfl) (by kernel_rfl)) (ea_cons (vX 10 (by kernel_rfl) (by kernel_rfl)) ea_nil (by kernel_rfl)) (by kernel_rfl)) rfl (by kernel_rfl) (by kernel_rfl) (lenS (lenS len0))) ea_nil (by kernel_rfl)) (by kernel_rfl)) rfl (by kernel_rfl) (by kernel_rfl) (lenS (lenS len0))) (vX 11 (by kernel_rfl) (by kernel_rfl)).b (fun _ => rfl) (by kernel_rfl) (by kernel_rfl) (by kernel_rfl)))))) (fun _ => rfl))) (fun _ => rfl))
   (sxs_cons (sx_append 3 (by kernel_rfl) (by kernel_rfl) (by kernel_rfl) (by kernel_rfl) (ex_tup (ea_cons (ex_ix (vE 6 (by kernel_rfl) (by kernel_rfl)) ex_int.b (fun _ _ => rfl)) (ea_cons (ex_ix (vE 6 (by kernel_rfl) (by kernel_rfl)) ex_int.b (fun _ _ => rfl)) ea_nil (by kernel_rfl)) (by kernel_rfl))) (by kernel_rfl) (by kernel_rfl))
   (sxs_one (sx_frz 5 (sx_set 2 nd (by kernel_rfl) (by kernel_rfl) (by kernel_rfl) (vX 5 (by kernel_rfl) (by kernel_rfl)) (by kernel_rfl)))))))) (fun _ => rfl))
  (sxs_one (sx_frz 3 (sx_ret (vX 3 (by kernel_rfl) (by kernel_rfl))))))))))⟩
/-! ### _law_less -/
abbrev N__law_less : List Str := ["one", "two"]
noncomputable def D__law_less : DenS :=
  (sRet (bV (b2 ltI (d2 mulI (d2 ixD (vR 0) (kD (.int 0))) (d2 ixD (vR 1) (kD (.int 1)))) (d2 mulI (d2 ixD (vR 1) (kD (.int 0))) (d2 ixD (vR 0) (kD (.int 1)))))))
noncomputable def f__law_less : List D → Option D := runX D__law_less 2
theorem sc__law_less : FnScope N__law_less ["one", "two"] (defScope (topOf PR 35)) := ⟨rfl, rfl, rfl, by decide +kernel, rfl, by decide +kernel, by decide +kernel⟩
theorem b__law_less {w : World} {K : PySem.W.Frag} {mg : Str → Option Value} {base : Heap} {f : Addr}  : Bd PR w K mg base 0 N__law_less "_law_less" (defBody (topOf PR 35)) (defScope (topOf PR 35)) f D__law_less :=
  ⟨fun cdv A outer s H E hr => by
  have nd : N__law_less.Nodup := sc__law_less.nd
  exact (sxs_one (sx_ret (ex_cmp (ec_ltI (ex_mulI (ex_ix (vX 0 (by kernel_rfl) (by kernel_rfl)).b ex_int.b (fun _ _ => rfl)).b (ex_ix (vX 1 (by kernel_rfl) (by kernel_rfl)).b ex_int.b (fun _ _ => rfl)).b).b (ex_mulI (ex_ix (vX 1 (by kernel_rfl) (by kernel_rfl)).b ex_int.b (fun _ _ => rfl)).b (ex_ix (vX 0 (by kernel_rfl) (by kernel_rfl)).b ex_int.b (fun _ _ => rfl)).b).b) (by kernel_rfl))))⟩
/-! ### _law_plus -/
abbrev N__law_plus : List Str := ["one", "two"]
noncomputable def D__law_plus : DenS :=
  (sRet (dCall (lCons (d2 addD (d2 mulI (d2 ixD (vR 0) (kD (.int 0))) (d2 ixD (vR 1) (kD (.int 1)))) (d2 mulI (d2 ixD (vR 1) (kD (.int 0))) (d2 ixD (vR 0) (kD (.int 1))))) (lCons (d2 mulI (d2 ixD (vR 0) (kD (.int 1))) (d2 ixD (vR 1) (kD (.int 1)))) lNil)) f__law_low))
noncomputable def f__law_plus : List D → Option D := runX D__law_plus 2
theorem sc__law_plus : FnScope N__law_plus ["one", "two"] (defScope (topOf PR 33)) := ⟨rfl, rfl, rfl, by decide +kernel, rfl, by decide +kernel, by decide +kernel⟩
theorem b__law_plus {w : World} {K : PySem.W.Frag} {mg : Str → Option Value} {base : Heap} {f : Addr} (c__law_low : FX PR w K mg base 2 "_law_low" 2 f__law_low) : Bd PR w K mg base 2 N__law_plus "_law_plus" (defBody (topOf PR 33)) (defScope (topOf PR 33)) f D__law_plus :=
  ⟨fun cdv A outer s H E hr => by
  have nd : N__law_plus.Nodup := sc__law_plus.nd
  exact (sxs_one (sx_ret (cX (c__law_low : FX PR w K mg base _ _ _ _) hr (gl_of (by kernel_rfl)) (by kernel_rfl) (ea_cons (ex_add (ex_mulI (ex_ix (vX 0 (by kernel_rfl) (by kernel_rfl)).b ex_int.b (fun _ _ => rfl)).b (ex_ix (vX 1 (by kernel_rfl) (by kernel_rfl)).b ex_int.b (fun _ _ => rfl)).b).b (ex_mulI (ex_ix (vX 1 (by kernel_rfl) (by kernel_rfl)).b ex_int.b (fun _ _ => rfl)).b (ex_ix (vX 0 (by kernel_rfl) (by kernel_rfl)).b ex_int.b (fun _ _ => rfl)).b).b) (ea_cons (ex_mulI (ex_ix (vX 0 (by kernel_rfl) (by kernel_rfl)).b ex_int.b (fun _ _ => rfl)).b (ex_ix (vX 1 (by kernel_rfl) (by kernel_rfl)).b ex_int.b (fun _ _ => rfl)).b) ea_nil (by kernel_rfl)) (by kernel_rfl)) rfl (by kernel_rfl) (by kernel_rfl) (lenS (lenS len0)))))⟩
/-! ### all_values -/
abbrev N_all_values : List Str := ["walk"]
noncomputable def D_all_values : DenS :=
  (sSeq (sDrop (dCall (lCons (vR 0) lNil) f_check_walk))
  (sRet (dCall (lCons (vR 0) lNil) f_values_of)))
noncomputable def f_all_values : List D → Option D := runX D_all_values 1
theorem sc_all_values : FnScope N_all_values ["walk"] (defScope (topOf PR 26)) := ⟨rfl, rfl, rfl, by decide +kernel, rfl, by decide +kernel, by decide +kernel⟩
theorem b_all_values {w : World} {K : PySem.W.Frag} {mg : Str → Option Value} {base : Heap} {f : Addr} (c_check_walk : FX PR w K mg base 5 "check_walk" 1 f_check_walk) (c_values_of : FX PR w K mg base 5 "values_of" 1 f_values_of) : Bd PR w K mg base 5 N_all_values "all_values" (defBody (topOf PR 26)) (defScope (topOf PR 26)) f D_all_values :=
  ⟨fun cdv A outer s H E hr => by
  have nd : N_all_values.Nodup := sc_all_values.nd
  exact (sxs_cons (sx_expr (cX (c_check_walk : FX PR w K mg base _ _ _ _) hr (gl_of (by kernel_rfl)) (by kernel_rfl) (ea_cons (vX 0 (by kernel_rfl) (by kernel_rfl)) ea_nil (by kernel_rfl)) rfl (by kernel_rfl) (by kernel_rfl) (lenS len0)) (by kernel_rfl))
  (sxs_one (sx_ret (cX (c_values_of : FX PR w K mg base _ _ _ _) hr (gl_of (by kernel_rfl)) (by kernel_rfl) (ea_cons (vX 0 (by kernel_rfl) (by kernel_rfl)) ea_nil (by kernel_rfl)) rfl (by kernel_rfl) (by kernel_rfl) (lenS len0)))))⟩
/-! ### _law_over -/
abbrev N__law_over : List Str := ["one", "two"]
noncomputable def D__law_over : DenS :=
  (sRet (dCall (lCons (d2 mulI (d2 ixD (vR 0) (kD (.int 0))) (d2 ixD (vR 1) (kD (.int 1)))) (lCons (d2 mulI (d2 ixD (vR 0) (kD (.int 1))) (d2 ixD (vR 1) (kD (.int 0)))) lNil)) f__law_low))
noncomputable def f__law_over : List D → Option D := runX D__law_over 2
theorem sc__law_over : FnScope N__law_over ["one", "two"] (defScope (topOf PR 37)) := ⟨rfl, rfl, rfl, by decide +kernel, rfl, by decide +kernel, by decide +kernel⟩
theorem b__law_over {w : World} {K : PySem.W.Frag} {mg : Str → Option Value} {base : Heap} {f : Addr} (c__law_low : FX PR w K mg base 2 "_law_low" 2 f__law_low) : Bd PR w K mg base 2 N__law_over "_law_over" (defBody (topOf PR 37)) (defScope (topOf PR 37)) f D__law_over :=
  ⟨fun cdv A outer s H E hr => by
  have nd : N__law_over.Nodup := sc__law_over.nd
  exact (sxs_one (sx_ret (cX (c__law_low : FX PR w K mg base _ _ _ _) hr (gl_of (by kernel_rfl)) (by kernel_rfl) (ea_cons (ex_mulI (ex_ix (vX 0 (by kernel_rfl) (by kernel_rfl)).b ex_int.b (fun _ _ => rfl)).b (ex_ix (vX 1 (by kernel_rfl) (by kernel_rfl)).b ex_int.b (fun _ _ => rfl)).b) (ea_cons (ex_mulI (ex_ix (vX 0 (by kernel_rfl) (by kernel_rfl)).b ex_int.b (fun _ _ => rfl)).b (ex_ix (vX 1 (by kernel_rfl) (by kernel_rfl)).b ex_int.b (fun _ _ => rfl)).b) ea_nil (by kernel_rfl)) (by kernel_rfl)) rfl (by kernel_rfl) (by kernel_rfl) (lenS (lenS len0)))))⟩
/-! ### law -/
abbrev N_law : List Str := ["script", "draws", "walk", "top", "start", "up", "down", "chance", "turned", "taken", "refused", "number", "most", "by", "wide", "more", "one", "two", "three"]
noncomputable def D_law : DenS :=
  (sSeq (sSet 1 (dCall (lCons (vR 0) lNil) f__law_draws))
  (sSeq (sSet 2 (dCall (lCons (vR 1) (lCons (kD (.int 10)) lNil)) f__law_walk))
  (sSeq (sAsg (gT (gsCons (gN 3) (gsCons (gN 4) (gsCons (gN 5) (gsCons (gN 6) (gsCons (gN 7) gsNil))))) 5) (vR 2))
  (sSeq (sSet 8 (mkT (lCons (vR 3) (lCons (d2 subD (vR 3) (vR 4)) (lCons (vR 6) (lCons (vR 5) (lCons (dCall (lCons (mkT (lCons (kD (.int 1)) (lCons (kD (.int 1)) lNil))) (lCons (vR 7) lNil)) f__law_minus) lNil)))))))
  (sSeq (sAsg (gT (gsCons (gN 9) (gsCons (gN 10) (gsCons (gN 11) gsNil))) 3) (dCall (lCons (vR 2) lNil) f_values))
  (sSeq (sIf (bOr (b2 neD (dCall (lCons (vR 8) lNil) f_values) (mkT (lCons (vR 10) (lCons (vR 9) (lCons (vR 11) lNil))))) (b2 neD (dCall (lCons (vR 8) lNil) f_all_values) (dLc (iSeq (d1 revD (dCall (lCons (vR 2) lNil) f_all_values))) (gT (gsCons (gN 16) (gsCons (gN 17) (gsCons (gN 18) gsNil))) 3) bYes (mkT (lCons (vR 17) (lCons (vR 16) (lCons (vR 18) lNil)))) [16, 17, 18]))) (sRet (kD (.bool false))) sNx)
  (sSeq (sSet 12 (dCall (lCons (vR 1) (lCons (kD (.int 0)) (lCons (kD (.int 10)) lNil))) f__law_mix))
  (sSeq (sIf (b2 neD (dCall (lCons (vR 8) (lCons (vR 12) lNil)) f_course) (dLc (iSeq (dCall (lCons (vR 2) (lCons (vR 12) lNil)) f_course)) (gT (gsCons (gN 16) (gsCons (gN 17) gsNil)) 2) bYes (mkT (lCons (vR 17) (lCons (vR 16) lNil))) [16, 17])) (sRet (kD (.bool false))) sNx)
  (sSeq (sSet 13 (d2 addD (kD (.int 1)) (dCall (lCons (vR 1) (lCons (kD (.int 1)) (lCons (kD (.int 3)) lNil))) f__law_mix)))
  (sSeq (sIf (bAnd (b2 leI (d2 mulI (vR 13) (vR 3)) (kD (.int 10))) (b2 leI (d2 mulI (vR 13) (d2 maxD2 (vR 5) (vR 6))) (kD (.int 6)))) (sSeq (sSet 14 (mkT (lCons (d2 mulI (vR 13) (vR 3)) (lCons (d2 mulI (vR 13) (vR 4)) (lCons (d2 mulI (vR 13) (vR 5)) (lCons (d2 mulI (vR 13) (vR 6)) (lCons (vR 7) lNil)))))))
   (sIf (bOr (b2 neD (dCall (lCons (vR 14) lNil) f_values) (mkT (lCons (vR 9) (lCons (vR 10) (lCons (vR 11) lNil))))) (b2 neD (dCall (lCons (vR 14) (lCons (vR 12) lNil)) f_course) (dCall (lCons (vR 2) (lCons (vR 12) lNil)) f_course))) (sRet (kD (.bool false))) sNx)) sNx)
  (sSeq (sIf (b2 ltI (d2 ixD (vR 7) (kD (.int 0))) (d2 ixD (vR 7) (kD (.int 1)))) (sSeq (sSet 15 (mkT (lCons (vR 3) (lCons (vR 4) (lCons (vR 5) (lCons (vR 6) (lCons (dCall (lCons (dCall (lCons (vR 7) (lCons (mkT (lCons (kD (.int 1)) (lCons (kD (.int 1)) lNil))) lNil)) f__law_plus) (lCons (mkT (lCons (kD (.int 2)) (lCons (kD (.int 1)) lNil))) lNil)) f__law_over) lNil)))))))
   (sIf (b1 truD (dCall (lCons (vR 9) (lCons (d2 ixD (dCall (lCons (vR 15) lNil) f_values) (kD (.int 0))) lNil)) f__law_less)) (sRet (kD (.bool false))) sNx)) sNx)
  (sRet (bV (b2 eqD (dCall (lCons (vR 9) (lCons (vR 10) lNil)) f__law_plus) (mkT (lCons (kD (.int 1)) (lCons (kD (.int 1)) lNil)))))))))))))))))
noncomputable def f_law : List D → Option D := runX D_law 19
theorem sc_law : FnScope N_law ["script"] (defScope (topOf PR 39)) := ⟨rfl, rfl, rfl, by decide +kernel, rfl, by decide +kernel, by decide +kernel⟩
theorem b_law {w : World} {K : PySem.W.Frag} {mg : Str → Option Value} {base : Heap} {f : Addr} (h_max : mg "max" = none) (c__law_draws : FX PR w K mg base 6 "_law_draws" 1 f__law_draws) (c__law_less : FX PR w K mg base 6 "_law_less" 2 f__law_less) (c__law_minus : FX PR w K mg base 6 "_law_minus" 2 f__law_minus) (c__law_mix : FX PR w K mg base 6 "_law_mix" 3 f__law_mix) (c__law_over : FX PR w K mg base 6 "_law_over" 2 f__law_over) (c__law_plus : FX PR w K mg base 6 "_law_plus" 2 f__law_plus) (c__law_walk : FX PR w K mg base 6 "_law_walk" 2 f__law_walk) (c_all_values : FX PR w K mg base 6 "all_values" 1 f_all_values) (c_course : FX PR w K mg base 6 "course" 2 f_course) (c_values : FX PR w K mg base 6 "values" 1 f_values) : Bd PR w K mg base 6 N_law "law" (defBody (topOf PR 39)) (defScope (topOf PR 39)) f D_law :=
  ⟨fun cdv A outer s H E hr => by
  have nd : N_law.Nodup := sc_law.nd
  exact (sxs_cons (sx_set 1 nd (by kernel_rfl) (by kernel_rfl) (by kernel_rfl) (cX (c__law_draws : FX PR w K mg base _ _ _ _) hr (gl_of (by kernel_rfl)) (by kernel_rfl) (ea_cons (vX 0 (by kernel_rfl) (by kernel_rfl)) ea_nil (by kernel_rfl)) rfl (by kernel_rfl) (by kernel_rfl) (lenS len0)) (by kernel_rfl))
  (sxs_cons (sx_set 2 nd (by kernel_rfl) (by kernel_rfl) (by kernel_rfl) (cX (c__law_walk : FX PR w K mg base _ _ _ _) hr (gl_of (by kernel_rfl)) (by kernel_rfl) (ea_cons (vX 1 (by kernel_rfl) (by kernel_rfl)) (ea_cons ex_int ea_nil (by kernel_rfl)) (by kernel_rfl)) rfl (by kernel_rfl) (by kernel_rfl) (lenS (lenS len0))) (by kernel_rfl))
  (sxs_cons (sx_asg (vX 2 (by kernel_rfl) (by kernel_rfl)) (eg_tup (n := 5) rfl (egs_cons (eg_name 3 nd (by kernel_rfl) (by kernel_rfl) (by kernel_rfl)) (egs_cons (eg_name 4 nd (by kernel_rfl) (by kernel_rfl) (by kernel_rfl)) (egs_cons (eg_name 5 nd (by kernel_rfl) (by kernel_rfl) (by kernel_rfl)) (egs_cons (eg_name 6 nd (by kernel_rfl) (by kernel_rfl) (by kernel_rfl)) (egs_cons (eg_name 7 nd (by kernel_rfl) (by kernel_rfl) (by kernel_rfl)) egs_nil (by kernel_rfl)) (by kernel_rfl)) (by kernel_rfl)) (by kernel_rfl)) (by kernel_rfl)) (by kernel_rfl) (by kernel_rfl)) (by kernel_rfl) (by kernel_rfl) (by kernel_rfl))
  (sxs_cons (sx_set 8 nd (by kernel_rfl) (by kernel_rfl) (by kernel_rfl) (ex_tup (ea_cons (vX 3 (by kernel_rfl) (by kernel_rfl)) (ea_cons (ex_sub (vX 3 (by kernel_rfl) (by kernel_rfl)).b (vX 4 (by kernel_rfl) (by kernel_rfl)).b) (ea_cons (vX 6 (by kernel_rfl) (by kernel_rfl)) (ea_cons (vX 5 (by kernel_rfl) (by kernel_rfl)) (ea_cons (cX (c__law_minus : FX PR w K mg base _ _ _ _) hr (gl_of (by kernel_rfl)) (by kernel_rfl) (ea_cons (ex_tup (ea_cons ex_int (ea_cons ex_int ea_nil (by kernel_rfl)) (by kernel_rfl))) (ea_cons (vX 7 (by kernel_rfl) (by kernel_rfl)) ea_nil (by kernel_rfl)) (by kernel_rfl)) rfl (by kernel_rfl) (by kernel_rfl) (lenS (lenS len0))) ea_nil (by kernel_rfl)) (by kernel_rfl)) (by kernel_rfl)) (by kernel_rfl)) (by kernel_rfl))) (by kernel_rfl))
  (sxs_cons (sx_asg (cX (c_values : FX PR w K mg base _ _ _ _) hr (gl_of (by kernel_rfl)) (by kernel_rfl) (ea_cons (vX 2 (by kernel_rfl) (by kernel_rfl)) ea_nil (by kernel_rfl)) rfl (by kernel_rfl) (by kernel_rfl) (lenS len0)) (eg_tup (n := 3) rfl (egs_cons (eg_name 9 nd (by kernel_rfl) (by kernel_rfl) (by kernel_rfl)) (egs_cons (eg_name 10 nd (by kernel_rfl) (by kernel_rfl) (by kernel_rfl)) (egs_cons (eg_name 11 nd (by kernel_rfl) (by kernel_rfl) (by kernel_rfl)) egs_nil (by kernel_rfl)) (by kernel_rfl)) (by kernel_rfl)) (by kernel_rfl) (by kernel_rfl)) (by kernel_rfl) (by kernel_rfl) (by kernel_rfl))
  (sxs_cons (sx_if (ew_or (et_cmp (ec_ne (Zx.Room.u64 hr) (cX (c_values : FX PR w K mg base _ _ _ _) hr (gl_of (by kernel_rfl)) (by kernel_rfl) (ea_cons (vX 8 (by kernel_rfl) (by kernel_rfl)) ea_nil (by kernel_rfl)) rfl (by kernel_rfl) (by kernel_rfl) (lenS len0)).b (ex_tup (ea_cons (vX 10 (by kernel_rfl) (by kernel_rfl)) (ea_cons (vX 9 (by kernel_rfl) (by kernel_rfl)) (ea_cons (vX 11 (by kernel_rfl) (by kernel_rfl)) ea_nil (by kernel_rfl)) (by kernel_rfl)) (by kernel_rfl))).b) (by kernel_rfl)) (ew_or1 (et_cmp (ec_ne (Zx.Room.u64 hr) (cX (c_all_values : FX PR w K mg base _ _ _ _) hr (gl_of (by kernel_rfl)) (by kernel_rfl) (ea_cons (vX 8 (by kernel_rfl) (by kernel_rfl)) ea_nil (by kernel_rfl)) rfl (by kernel_rfl) (by kernel_rfl) (lenS len0)).b (en_lc (own := [("one", 16), ("two", 17), ("three", 18)]) rfl nd (ei_seq (en_rev (cX (c_all_values : FX PR w K mg base _ _ _ _) hr (gl_of (by kernel_rfl)) (by kernel_rfl) (ea_cons (vX 2 (by kernel_rfl) (by kernel_rfl)) ea_nil (by kernel_rfl)) rfl (by kernel_rfl) (by kernel_rfl) (lenS len0)).b).x) (blkOk_by (by kernel_rfl)) (fun _ _ _ _ _ => (eg_tup (n := 3) rfl (egs_cons (eg_name 16 nd (by kernel_rfl) (by kernel_rfl) (by kernel_rfl)) (egs_cons (eg_name 17 nd (by kernel_rfl) (by kernel_rfl) (by kernel_rfl)) (egs_cons (eg_name 18 nd (by kernel_rfl) (by kernel_rfl) (by kernel_rfl)) egs_nil (by kernel_rfl)) (by kernel_rfl)) (by kernel_rfl)) (by kernel_rfl) (by kernel_rfl))) (fun _ _ _ _ _ => ets_nil) (fun _ _ _ _ _ => (ex_tup (ea_cons (vX 17 (by kernel_rfl) (by kernel_rfl)) (ea_cons (vX 16 (by kernel_rfl) (by kernel_rfl)) (ea_cons (vX 18 (by kernel_rfl) (by kernel_rfl)) ea_nil (by kernel_rfl)) (by kernel_rfl)) (by kernel_rfl)))) (fun _ => rfl) (by decide)).x.b) (by kernel_rfl)))).t (sxs_one (sx_ret ex_bl)) sxs_nil)
  (sxs_cons (sx_set 12 nd (by kernel_rfl) (by kernel_rfl) (by kernel_rfl) (cX (c__law_mix : FX PR w K mg base _ _ _ _) hr (gl_of (by kernel_rfl)) (by kernel_rfl) (ea_cons (vX 1 (by kernel_rfl) (by kernel_rfl)) (ea_cons ex_int (ea_cons ex_int ea_nil (by kernel_rfl)) (by kernel_rfl)) (by kernel_rfl)) rfl (by kernel_rfl) (by kernel_rfl) (lenS (lenS (lenS len0)))) (by kernel_rfl))
  (sxs_cons (sx_if (et_cmp (ec_ne (Zx.Room.u64 hr) (cX (c_course : FX PR w K mg base _ _ _ _) hr (gl_of (by kernel_rfl)) (by kernel_rfl) (ea_cons (vX 8 (by kernel_rfl) (by kernel_rfl)) (ea_cons (vX 12 (by kernel_rfl) (by kernel_rfl)) ea_nil (by kernel_rfl)) (by kernel_rfl)) rfl (by kernel_rfl) (by kernel_rfl) (lenS (lenS len0))).b (en_lc (own := [("one", 16), ("two", 17)]) rfl nd (ei_seq (cX (c_course : FX PR w K mg base _ _ _ _) hr (gl_of (by kernel_rfl)) (by kernel_rfl) (ea_cons (vX 2 (by kernel_rfl) (by kernel_rfl)) (ea_cons (vX 12 (by kernel_rfl) (by kernel_rfl)) ea_nil (by kernel_rfl)) (by kernel_rfl)) rfl (by kernel_rfl) (by kernel_rfl) (lenS (lenS len0)))) (blkOk_by (by kernel_rfl)) (fun _ _ _ _ _ => (eg_tup (n := 2) rfl (egs_cons (eg_name 16 nd (by kernel_rfl) (by kernel_rfl) (by kernel_rfl)) (egs_cons (eg_name 17 nd (by kernel_rfl) (by kernel_rfl) (by kernel_rfl)) egs_nil (by kernel_rfl)) (by kernel_rfl)) (by kernel_rfl) (by kernel_rfl))) (fun _ _ _ _ _ => ets_nil) (fun _ _ _ _ _ => (ex_tup (ea_cons (vX 17 (by kernel_rfl) (by kernel_rfl)) (ea_cons (vX 16 (by kernel_rfl) (by kernel_rfl)) ea_nil (by kernel_rfl)) (by kernel_rfl)))) (fun _ => rfl) (by decide)).x.b) (by kernel_rfl)) (sxs_one (sx_ret ex_bl)) sxs_nil)
  (sxs_cons (sx_set 13 nd (by kernel_rfl) (by kernel_rfl) (by kernel_rfl) (ex_add ex_int.b (cX (c__law_mix : FX PR w K mg base _ _ _ _) hr (gl_of (by kernel_rfl)) (by kernel_rfl) (ea_cons (vX 1 (by kernel_rfl) (by kernel_rfl)) (ea_cons ex_int (ea_cons ex_int ea_nil (by kernel_rfl)) (by kernel_rfl)) (by kernel_rfl)) rfl (by kernel_rfl) (by kernel_rfl) (lenS (lenS (lenS len0)))).b) (by kernel_rfl))
  (sxs_cons (sx_if (ew_and (et_cmp (ec_leI (ex_mulI (vX 13 (by kernel_rfl) (by kernel_rfl)).b (vX 3 (by kernel_rfl) (by kernel_rfl)).b).b ex_int.b) (by kernel_rfl)) (ew_and1 (et_cmp (ec_leI (ex_mulI (vX 13 (by kernel_rfl) (by kernel_rfl)).b (ex_max2 rfl (gl_of (by kernel_rfl)) h_max (vX 5 (by kernel_rfl) (by kernel_rfl)).b (vX 6 (by kernel_rfl) (by kernel_rfl)).b (by kernel_rfl) (by kernel_rfl)).b).b ex_int.b) (by kernel_rfl)))).t (sxs_cons (sx_set 14 nd (by kernel_rfl) (by kernel_rfl) (by kernel_rfl) (ex_tup (ea_cons (ex_mulI (vX 13 (by kernel_rfl) (by kernel_rfl)).b (vX 3 (by kernel_rfl) (by kernel_rfl)).b) (ea_cons (ex_mulI (vX 13 (by kernel_rfl) (by kernel_rfl)).b (vX 4 (by kernel_rfl) (by kernel_rfl)).b) (ea_cons (ex_mulI (vX 13 (by kernel_rfl) (by kernel_rfl)).b (vX 5 (by kernel_rfl) (by kernel_rfl)).b) (ea_cons (ex_mulI (vX 13 (by kernel_rfl) (by kernel_rfl)).b (vX 6 (by kernel_rfl) (by kernel_rfl)).b) (ea_cons (vX 7 (by kernel_rfl) (by kernel_rfl)) ea_nil (by kernel_rfl)) (by kernel_rfl)) (by kernel_rfl)) (by kernel_rfl)) (by kernel_rfl))) (by kernel_rfl))
   (sxs_one (sx_if (ew_or (et_cmp (ec_ne (Zx.Room.u64 hr) (cX (c_values : FX PR w K mg base _ _ _ _) hr (gl_of (by kernel_rfl)) (by kernel_rfl) (ea_cons (vX 14 (by kernel_rfl) (by kernel_rfl)) ea_nil (by kernel_rfl)) rfl (by kernel_rfl) (by kernel_rfl) (lenS len0)).b (ex_tup (ea_cons (vX 9 (by kernel_rfl) (by kernel_rfl)) (ea_cons (vX 10 (by kernel_rfl) (by kernel_rfl)) (ea_cons (vX 11 (by kernel_rfl) (by kernel_rfl)) ea_nil (by kernel_rfl)) (by kernel_rfl)) (by kernel_rfl))).b) (by kernel_rfl)) (ew_or1 (et_cmp (ec_ne (Zx.Room.u64 hr) (cX (c_course : FX PR w K mg base _ _ _ _) hr (gl_of (by kernel_rfl)) (by kernel_rfl) (ea_cons (vX 14 (by kernel_rfl) (by kernel_rfl)) (ea_cons (vX 12 (by kernel_rfl) (by kernel_rfl)) ea_nil (by kernel_rfl)) (by kernel_rfl)) rfl (by kernel_rfl) (by kernel_rfl) (lenS (lenS len0))).b (cX (c_course : FX PR w K mg base _ _ _ _) hr (gl_of (by kernel_rfl)) (by kernel_rfl) (ea_cons (vX 2 (by kernel_rfl) (by kernel_rfl)) (ea_cons (vX 12 (by kernel_rfl) (by kernel_rfl)) ea_nil (by kernel_rfl)) (by kernel_rfl)) rfl (by kernel_rfl) (by kernel_rfl) (lenS (lenS len0))).b) (by kernel_rfl)))).t (sxs_one (sx_ret ex_bl)) sxs_nil))) sxs_nil)
  (sxs_cons (sx_if (et_cmp (ec_ltI (ex_ix (vX 7 (by kernel_rfl) (by kernel_rfl)).b ex_int.b (fun _ _ => rfl)).b (ex_ix (vX 7 (by kernel_rfl) (by kernel_rfl)).b ex_int.b (fun _ _ => rfl)).b) (by kernel_rfl)) (sxs_cons (sx_set 15 nd (by kernel_rfl) (by kernel_rfl) (by kernel_rfl) (ex_tup (ea_cons (vX 3 (by kernel_rfl) (by kernel_rfl)) (ea_cons (vX 4 (by kernel_rfl) (by kernel_rfl)) (ea_cons (vX 5 (by kernel_rfl) (by kernel_rfl)) (ea_cons (vX 6 (by kernel_rfl) (by kernel_rfl)) (ea_cons (cX (c__law_over : FX PR w K mg base _ _ _ _) hr (gl_of (by kernel_rfl)) (by kernel_rfl) (ea_cons (cX (c__law_plus : FX PR w K mg base _ _ _ _) hr (gl_of (by kernel_rfl)) (by kernel_rfl) (ea_cons (vX 7 (by kernel_rfl) (by kernel_rfl)) (ea_cons (ex_tup (ea_cons ex_int (ea_cons ex_int ea_nil (by kernel_rfl)) (by kernel_rfl))) ea_nil (by kernel_rfl)) (by kernel_rfl)) rfl (by kernel_rfl) (by kernel_rfl) (lenS (lenS len0))) (ea_cons (ex_tup (ea_cons ex_int (ea_cons ex_int ea_nil (by kernel_rfl)) (by kernel_rfl))) ea_nil (by kernel_rfl)) (by kernel_rfl)) rfl (by kernel_rfl) (by kernel_rfl) (lenS (lenS len0))) ea_nil (by kernel_rfl)) (by kernel_rfl)) (by kernel_rfl)) (by kernel_rfl)) (by kernel_rfl))) (by kernel_rfl))
   (sxs_one (sx_if (et_val (cX (c__law_less : FX PR w K mg base _ _ _ _) hr (gl_of (by kernel_rfl)) (by kernel_rfl) (ea_cons (vX 9 (by kernel_rfl) (by kernel_rfl)) (ea_cons (ex_ix (cX (c_values : FX PR w K mg base _ _ _ _) hr (gl_of (by kernel_rfl)) (by kernel_rfl) (ea_cons (vX 15 (by kernel_rfl) (by kernel_rfl)) ea_nil (by kernel_rfl)) rfl (by kernel_rfl) (by kernel_rfl) (lenS len0)).b ex_int.b (fun _ _ => rfl)) ea_nil (by kernel_rfl)) (by kernel_rfl)) rfl (by kernel_rfl) (by kernel_rfl) (lenS (lenS len0))).b (fun _ => rfl)) (sxs_one (sx_ret ex_bl)) sxs_nil))) sxs_nil)
  (sxs_one (sx_ret (ex_cmp (ec_eq (Zx.Room.u64 hr) (cX (c__law_plus : FX PR w K mg base _ _ _ _) hr (gl_of (by kernel_rfl)) (by kernel_rfl) (ea_cons (vX 9 (by kernel_rfl) (by kernel_rfl)) (ea_cons (vX 10 (by kernel_rfl) (by kernel_rfl)) ea_nil (by kernel_rfl)) (by kernel_rfl)) rfl (by kernel_rfl) (by kernel_rfl) (lenS (lenS len0))).b (ex_tup (ea_cons ex_int (ea_cons ex_int ea_nil (by kernel_rfl)) (by kernel_rfl))).b) (by kernel_rfl)))))))))))))))⟩
end Zx.k76
/-! V1: one round of the elimination in values_of. -/
namespace Zx.k76
open PySem PySem.Spec L2 Zx
theorem e_fraction : f_fraction = Cm.f_fraction := rfl
theorem e_plus : f_plus = Cm.f_plus := rfl
theorem e_minus : f_minus = Cm.f_minus := rfl
theorem e_times : f_times = Cm.f_times := rfl
theorem e_over : f_over = Cm.f_over := rfl
theorem e_is_share : f_is_share = Cm.f_is_share := rfl
theorem e_draws : f__law_draws = Cm.f__law_draws := rfl
theorem e_mix : f__law_mix = Cm.f__law_mix := rfl
theorem lcL_if2 {α β : Type} (enc : α → D) (enc' : β → D) (b : α → Bool) (e : α → β) {g : DenG} {ft : DenB} {fe : Den} {ρ : Env} : ∀ (xs : List α), (∀ x ∈ xs, ∃ ρ1, g (enc x) ρ = some ρ1 ∧ ft ρ1 = some (b x) ∧ (b x = true → fe ρ1 = some (enc' (e x)))) → lcL g ft fe ρ (xs.map enc) = some (((xs.filter b).map e).map enc')
  | [], _ => rfl
  | x :: xs, h => by
    obtain ⟨ρ1, h1, h2, h3⟩ := h x List.mem_cons_self
    have ih := lcL_if2 enc enc' b e xs fun y hy => h y (List.mem_cons_of_mem _ hy)
    rw [List.map_cons, lcL, h1, ih]
    cases hb : b x with
    | true => simp [h2, hb, h3 hb]
    | false => simp [h2, hb]
theorem fr_num (q : Rat) : ixD (frD q) (.int 0) = some (.int q.num) := rfl
theorem head_ok {n w k : Nat} {A : Nat → Nat → Rat} (hn : n ≤ 1000) (hkw : k < w) (hk : k < n) (hp : ∃ h, k ≤ h ∧ h < n ∧ A h k ≠ 0) (S s4 s5 s6 s7 s8 s9 s10 : Slot) :
    ∃ h, k ≤ h ∧ h < n ∧ A h k ≠ 0 ∧ d2 ixD (dLc (iR2 (vR 3) (vR 2)) (gN 6) (b2 neD (d2 ixD (d2 ixD (d2 ixD (vB 1) (vR 6)) (vR 3)) (kD (.int 0))) (kD (.int 0))) (vR 6) [6]) (kD (.int 0))
      [S, .ow (.list (matD n w A)), .fz (.int (n : Nat)), .fz (.int (k : Nat)), s4, s5, s6, s7, s8, s9, s10] = some (.int (h : Nat)) := by
  have hr : rg2 (.int (k : Nat)) (.int (n : Nat)) = some ((List.range (n - k)).map fun i => PyData.int ((k + i : Nat) : Int)) := by
    rw [rg2_ok (by omega) (by omega) (by omega) (by omega)]
    unfold rgL
    rw [show ((n : Int) - (k : Int)).toNat = n - k by omega]
    congr 1
  have hl : lcL (gN 6) (b2 neD (d2 ixD (d2 ixD (d2 ixD (vB 1) (vR 6)) (vR 3)) (kD (.int 0))) (kD (.int 0))) (vR 6) (wipeE [S, .ow (.list (matD n w A)), .fz (.int (n : Nat)), .fz (.int (k : Nat)), s4, s5, s6, s7, s8, s9, s10] [6]) ((List.range (n - k)).map fun i => PyData.int ((k + i : Nat) : Int)) =
      some ((((List.range (n - k)).filter fun i => decide (A (k + i) k ≠ 0)).map fun i => k + i).map fun i => PyData.int ((i : Nat) : Int)) := by
    refine lcL_if2 (fun i => PyData.int ((k + i : Nat) : Int)) (fun i => PyData.int ((i : Nat) : Int)) _ _ _ fun i hi => ?_
    have hi' : k + i < n := by have := List.mem_range.mp hi; omega
    have m1 := mat_at (w := w) (A := A) hi'
    have m2 := row_at (r := A (k + i)) hkw
    refine ⟨_, rfl, ?_, fun _ => by simp [wipeE]⟩
    simp only [wipeE, List.set_cons_zero, List.set_cons_succ, b2_s, d2_s, vB_s, vR_s, kD_s, List.getElem?_cons_zero, List.getElem?_cons_succ, Option.bind_some, ixD_l, m1, m2, fr_num, neD_i]
    congr 1
    simp [Rat.num_eq_zero]
  obtain ⟨h, h1, h2, h3⟩ := hp
  have hm : h - k ∈ (List.range (n - k)).filter fun i => decide (A (k + i) k ≠ 0) := by
    rw [List.mem_filter, List.mem_range]
    refine ⟨by omega, ?_⟩
    rw [show k + (h - k) = h by omega]
    simpa using h3
  have hlen : ((List.range (n - k)).filter fun i => decide (A (k + i) k ≠ 0)).length ≤ n := by
    have := List.length_filter_le (fun i => decide (A (k + i) k ≠ 0)) (List.range (n - k))
    rw [List.length_range] at this
    omega
  cases hf : (List.range (n - k)).filter fun i => decide (A (k + i) k ≠ 0) with
  | nil => rw [hf] at hm; cases hm
  | cons i0 rest =>
    have hi0 : i0 ∈ (List.range (n - k)).filter fun i => decide (A (k + i) k ≠ 0) := by rw [hf]; exact List.mem_cons_self
    obtain ⟨g1, g2⟩ := List.mem_filter.mp hi0
    have g1' := List.mem_range.mp g1
    refine ⟨k + i0, by omega, by omega, by simpa using g2, ?_⟩
    rw [hf] at hl hlen
    have hd := dLc_of (fi := iR2 (vR 3) (vR 2)) (g := gN 6) (vs := [6]) (ρ := [S, .ow (.list (matD n w A)), .fz (.int (n : Nat)), .fz (.int (k : Nat)), s4, s5, s6, s7, s8, s9, s10]) (by simp only [iR2_s, vR_s, List.getElem?_cons_zero, List.getElem?_cons_succ, Option.bind_some]; exact hr) hl (by simp at hlen ⊢; omega)
    simp only [d2_s, hd, Option.bind_some, kD_s, List.map_cons, ixD_l, atI_0]
end Zx.k76
/-! V2: a whole round of values_of. -/
namespace Zx.k76
open PySem PySem.Spec L2 Zx
noncomputable abbrev clB : DenS := sSeq (sSet 7 (d2 ixD (d2 ixD (vB 1) (vR 6)) (vR 3)))
    (sIf (bAnd (b2 neD (vR 6) (vR 3)) (b2 neD (d2 ixD (vR 7) (kD (.int 0))) (kD (.int 0)))) (sStL 1 (vR 6) (dLc (iZpX (d2 ixD (vB 1) (vR 6)) (d2 ixD (vB 1) (vR 3))) (gT (gsCons (gN 9) (gsCons (gN 10) gsNil)) 2) bYes (dCall (lCons (vR 9) (lCons (dCall (lCons (vR 7) (lCons (vR 10) lNil)) f_times) lNil)) f_minus) [9, 10])) sNx)
/-- the rows that are cleared up to j -/
def clr (k j : Nat) (p : Nat → Rat) (C : Nat → Nat → Rat) : Nat → Nat → Rat := fun i c => if i < j ∧ i ≠ k then C i c - C i k * p c else C i c
theorem zip_rows (w : Nat) (r p : Nat → Rat) : zipL ((List.range w).map fun j => frD (r j)) ((List.range w).map fun j => frD (p j)) = (List.range w).map fun j => PyData.tuple [frD (r j), frD (p j)] := by
  refine List.ext_getElem? fun i => ?_
  unfold zipL
  rw [List.getElem?_zipWith, List.getElem?_map, List.getElem?_map, List.getElem?_map]
  by_cases hi : i < w
  · simp [hi]
  · simp [hi]
theorem clear_ok {n w k m : Nat} {C : Nat → Nat → Rat} (hn : n ≤ 1000) (hw : w ≤ 1000) (hkw : k < w) (hk : k < n) (hs : ∀ i, i < n → ∀ j, j < w → Sk m (C i j)) (hm : m + m ≤ 4000) (S s4 s5 s6 s7 s8 s9 s10 : Slot) :
    ∃ u6 u7, sFor (iR1 (vR 2)) (gN 6) clB [S, .ow (.list (matD n w C)), .fz (.int (n : Nat)), .fz (.int (k : Nat)), s4, s5, s6, s7, s8, .no, .no] =
      some (.nx [S, .ow (.list (matD n w (clr k n (C k) C))), .fz (.int (n : Nat)), .fz (.int (k : Nat)), s4, s5, u6, u7, s8, .no, .no]) := by
  obtain ⟨ρ', g1, g2⟩ := sFor_ok (fi := iR1 (vR 2)) (g := gN 6) (fb := clB) (ρ := [S, .ow (.list (matD n w C)), .fz (.int (n : Nat)), .fz (.int (k : Nat)), s4, s5, s6, s7, s8, .no, .no]) (ds := rgL 0 n)
    (fun j ρ => ∃ u6 u7, ρ = [S, .ow (.list (matD n w (clr k j (C k) C))), .fz (.int (n : Nat)), .fz (.int (k : Nat)), s4, s5, u6, u7, s8, .no, .no])
    (by simp only [iR1_s, vR_s, List.getElem?_cons_zero, List.getElem?_cons_succ, Option.bind_some]; rw [rg1_ok (by omega) (by omega)]; rfl)
    ⟨s6, s7, by
      have : clr k 0 (C k) C = C := by
        funext i c
        unfold clr
        rw [if_neg (by omega)]
      rw [this]⟩ (fun j d ρ hd ⟨u6, u7, hρ⟩ => by
      subst hρ
      obtain ⟨hj, rfl⟩ := rgL_at hd
      rw [show (0 : Int) + (j : Int) = (j : Int) by omega]
      have ej : ∀ c, clr k j (C k) C j c = C j c := fun c => by unfold clr; rw [if_neg (by omega)]
      have ek : ∀ c, clr k j (C k) C k c = C k c := fun c => by unfold clr; rw [if_neg (by omega)]
      have mj := mat_at (w := w) (A := clr k j (C k) C) hj
      have mk := mat_at (w := w) (A := clr k j (C k) C) hk
      rw [show clr k j (C k) C j = C j from funext ej] at mj
      rw [show clr k j (C k) C k = C k from funext ek] at mk
      have rj := row_at (r := C j) hkw
      refine ⟨_, _, rfl, ?_, _, .inl rfl, .fz (.int (j : Nat)), .fz (frD (C j k)), rfl⟩
      unfold clB
      rw [sSeq_nx (ρ' := [S, .ow (.list (matD n w (clr k j (C k) C))), .fz (.int (n : Nat)), .fz (.int (k : Nat)), s4, s5, .fz (.int (j : Nat)), .fz (frD (C j k)), s8, .no, .no]) (by
        simp only [sSet_s, d2_s, vB_s, vR_s, gN_s, List.set_cons_zero, List.set_cons_succ, List.getElem?_cons_zero, List.getElem?_cons_succ, Option.bind_some, ixD_l, mj, rj])]
      by_cases hc : j ≠ k ∧ C j k ≠ 0
      · have hjk : ((j : Nat) : Int) ≠ ((k : Nat) : Int) := by omega
        have hnum : (C j k).num ≠ 0 := fun z => hc.2 (Rat.num_eq_zero.mp z)
        rw [sIf_t (by
          simp only [bAnd_s, b2_s, d2_s, vR_s, kD_s, List.getElem?_cons_zero, List.getElem?_cons_succ, Option.bind_some, neD_i, fr_num]
          simp [hjk, hnum, Rat.num_eq_zero, hc.2])]
        have hlc : dLc (iZpX (d2 ixD (vB 1) (vR 6)) (d2 ixD (vB 1) (vR 3))) (gT (gsCons (gN 9) (gsCons (gN 10) gsNil)) 2) bYes (dCall (lCons (vR 9) (lCons (dCall (lCons (vR 7) (lCons (vR 10) lNil)) f_times) lNil)) f_minus) [9, 10]
            [S, .ow (.list (matD n w (clr k j (C k) C))), .fz (.int (n : Nat)), .fz (.int (k : Nat)), s4, s5, .fz (.int (j : Nat)), .fz (frD (C j k)), s8, .no, .no] = some (rowD w fun c => C j c - C j k * C k c) := by
          unfold rowD
          refine dLc_of (ds := (List.range w).map fun c => PyData.tuple [frD (C j c), frD (C k c)]) ?_ ?_ (by simp; omega)
          · simp only [iZpX_s, d2_s, vB_s, vR_s, List.getElem?_cons_zero, List.getElem?_cons_succ, Option.bind_some, ixD_l, mj, mk]
            unfold rowD
            simp only [zip_rows]
          · have := lcL_if2 (fun c => PyData.tuple [frD (C j c), frD (C k c)]) (fun c => frD (C j c - C j k * C k c)) (fun _ => true) (fun c => c) (g := gT (gsCons (gN 9) (gsCons (gN 10) gsNil)) 2) (ft := bYes) (fe := dCall (lCons (vR 9) (lCons (dCall (lCons (vR 7) (lCons (vR 10) lNil)) f_times) lNil)) f_minus)
              (ρ := wipeE [S, .ow (.list (matD n w (clr k j (C k) C))), .fz (.int (n : Nat)), .fz (.int (k : Nat)), s4, s5, .fz (.int (j : Nat)), .fz (frD (C j k)), s8, .no, .no] [9, 10]) (List.range w) (fun c hcw => by
                have hcw' := List.mem_range.mp hcw
                have k1 := hs j hj k hkw
                have k2 := hs k hk c hcw'
                have k3 := hs j hj c hcw'
                have t1 := times_eq (C j k) (C k c) (k1.sq (by omega)) (k2.sq (by omega))
                have t2 := minus_eq (C j c) (C j k * C k c) (k3.sq (by omega)) ((k1.mul k2).sq hm)
                refine ⟨_, by simp only [wipeE, gT_s, gsCons_s, gsNil_s, gN_s, List.set_cons_zero, List.set_cons_succ, List.length_cons, List.length_nil, Nat.reduceAdd, if_true, Option.bind_some]; rfl, rfl, fun _ => ?_⟩
                simp only [dCall_s, lCons_s, lNil_s, vR_s, List.set_cons_zero, List.set_cons_succ, List.getElem?_cons_zero, List.getElem?_cons_succ, Option.bind_some, e_times, e_minus, t1, t2])
            rw [this, List.filter_eq_self.mpr (fun _ _ => rfl), List.map_id']
        have eM : (fun i => if i = j then (fun c => C j c - C j k * C k c) else clr k j (C k) C i) = clr k (j + 1) (C k) C := by
          funext i c
          unfold clr
          by_cases e : i = j
          · subst e
            rw [if_pos rfl, if_pos (by omega)]
          · rw [if_neg e]
            by_cases e2 : i < j ∧ i ≠ k
            · rw [if_pos e2, if_pos (by omega)]
            · rw [if_neg e2, if_neg (by omega)]
        simp only [sStL_s, hlc, vR_s, List.getElem?_cons_zero, List.getElem?_cons_succ, Option.bind_some, owL_s, mat_len, ixN_nat hj, mat_set, List.set_cons_zero, List.set_cons_succ]
        rw [eM]
      · rw [sIf_f (by
          simp only [bAnd_s, b2_s, d2_s, vR_s, kD_s, List.getElem?_cons_zero, List.getElem?_cons_succ, Option.bind_some, neD_i, fr_num]
          by_cases e : j = k
          · simp [e]
          · have : C j k = 0 := Classical.byContradiction fun z => hc ⟨e, z⟩
            simp [this])]
        have eM : clr k j (C k) C = clr k (j + 1) (C k) C := by
          funext i c
          unfold clr
          by_cases e : i = j
          · subst e
            rw [if_neg (by omega)]
            by_cases e2 : i = k
            · rw [if_neg (by omega)]
            · have : C i k = 0 := Classical.byContradiction fun z => hc ⟨e2, z⟩
              rw [if_pos ⟨by omega, e2⟩, this]
              grind
          · by_cases e2 : i < j ∧ i ≠ k
            · rw [if_pos e2, if_pos (by omega)]
            · rw [if_neg e2, if_neg (by omega)]
        rw [← eM]
        rfl)
  obtain ⟨u6, u7, rfl⟩ := g2
  rw [rgL_len] at g1
  exact ⟨u6, u7, g1⟩
end Zx.k76
/-! V3: the round joined; all rounds. -/
namespace Zx.k76
open PySem PySem.Spec L2 Zx
theorem mat_congr {n w : Nat} {A B : Nat → Nat → Rat} (h : ∀ i, i < n → ∀ j, j < w → A i j = B i j) : matD n w A = matD n w B := by
  unfold matD
  refine List.map_congr_left fun i hi => ?_
  unfold rowD
  congr 1
  refine List.map_congr_left fun j hj => ?_
  rw [h i (List.mem_range.mp hi) j (List.mem_range.mp hj)]
noncomputable abbrev rdB : DenS := (sSeq (sSet 4 (d2 ixD (dLc (iR2 (vR 3) (vR 2)) (gN 6) (b2 neD (d2 ixD (d2 ixD (d2 ixD (vB 1) (vR 6)) (vR 3)) (kD (.int 0))) (kD (.int 0))) (vR 6) [6]) (kD (.int 0))))
   (sSeq (sSet 5 (d2 ixD (vB 1) (vR 4)))
   (sSeq (sStL 1 (vR 4) (d2 ixD (vB 1) (vR 3)))
   (sSeq (sStL 1 (vR 3) (dLc (iSeq (vR 5)) (gN 9) bYes (dCall (lCons (vR 9) (lCons (d2 ixD (vR 5) (vR 3)) lNil)) f_over) [9]))
   (sFor (iR1 (vR 2)) (gN 6) clB)))))
theorem round_ok {n w k b e m : Nat} {A : Nat → Nat → Rat} (hn : n ≤ 1000) (hw : w ≤ 1000) (hnw : n ≤ w) (hk : k < n) (D : Diag n k A) (reg : ∀ x, Ker n w A x → (∀ j, n ≤ j → x j = 0) → ∀ j, j < n → x j = 0)
    (B : Bits b e n w A) (hb : b ≤ m) (he : e ≤ m) (hm : m + m ≤ 4000) (S s4 s5 s6 s7 s8 : Slot) :
    ∃ h u4 u5 u6 u7, k ≤ h ∧ h < n ∧ A h k ≠ 0 ∧ rdB [S, .ow (.list (matD n w A)), .fz (.int (n : Nat)), .fz (.int (k : Nat)), s4, s5, s6, s7, s8, .no, .no] =
      some (.nx [S, .ow (.list (matD n w (rstep k k h A))), .fz (.int (n : Nat)), .fz (.int (k : Nat)), u4, u5, u6, u7, s8, .no, .no]) := by
  have hkw : k < w := by omega
  obtain ⟨h, h1, h2, h3, h4⟩ := head_ok hn hkw hk (pivot hk hnw D reg) S s4 s5 s6 s7 s8 .no .no
  have sk : ∀ i, i < n → ∀ j, j < w → Sk m (A i j) := fun i hi j hj => B.sk hb he hi hj
  have skq : ∀ j, j < w → Sk m (A h j / A h k) := fun j hj => by
    obtain ⟨N, d, hN⟩ := B
    obtain ⟨q1, q2, q3⟩ := hN h h2
    obtain ⟨q4, q5⟩ := q3 k hkw
    obtain ⟨q6, q7⟩ := q3 j hj
    have pz : N h k ≠ 0 := fun z => h3 (by rw [q5, z]; have n2 := int_nz q1; simp; grind)
    have : A h j / A h k = (N h j : Rat) / (N h k : Rat) := by
      rw [q5, q7]
      have n1 := int_nz pz
      have n2 := int_nz q1
      grind
    rw [this]
    exact Sk_div' (Nat.lt_of_lt_of_le q6 (Nat.pow_le_pow_right (by decide) hb)) (Nat.lt_of_lt_of_le q4 (Nat.pow_le_pow_right (by decide) hb)) pz
  have mh := mat_at (w := w) (A := A) h2
  have mk := mat_at (w := w) (A := A) hk
  have rk := row_at (r := A h) hkw
  have hov : ∀ sM s6' s7', dLc (iSeq (vR 5)) (gN 9) bYes (dCall (lCons (vR 9) (lCons (d2 ixD (vR 5) (vR 3)) lNil)) f_over) [9] [S, sM, .fz (.int (n : Nat)), .fz (.int (k : Nat)), .fz (.int (h : Nat)), .fz (rowD w (A h)), s6', s7', s8, .no, .no] = some (rowD w fun c => A h c / A h k) := fun sM s6' s7' => by
    conv => rhs; unfold rowD
    refine dLc_of (ds := (List.range w).map fun c => frD (A h c)) (by simp only [iSeq_s, vR_s, List.getElem?_cons_zero, List.getElem?_cons_succ, Option.bind_some]; rfl) ?_ (by simp; omega)
    have := lcL_if2 (fun c => frD (A h c)) (fun c => frD (A h c / A h k)) (fun _ => true) (fun c => c) (g := gN 9) (ft := bYes) (fe := dCall (lCons (vR 9) (lCons (d2 ixD (vR 5) (vR 3)) lNil)) f_over)
      (ρ := wipeE [S, sM, .fz (.int (n : Nat)), .fz (.int (k : Nat)), .fz (.int (h : Nat)), .fz (rowD w (A h)), s6', s7', s8, .no, .no] [9]) (List.range w) (fun c hcw => by
        have hcw' := List.mem_range.mp hcw
        have ov := over_eq (A h c) (A h k) ((sk h h2 c hcw').sq (by omega)) ((sk h h2 k hkw).sq (by omega)) h3
        refine ⟨_, rfl, rfl, fun _ => ?_⟩
        simp only [wipeE, dCall_s, lCons_s, lNil_s, d2_s, vR_s, List.set_cons_zero, List.set_cons_succ, List.getElem?_cons_zero, List.getElem?_cons_succ, Option.bind_some, rk, e_over, ov])
    rw [this, List.filter_eq_self.mpr (fun _ _ => rfl), List.map_id']
  refine ⟨h, ?_⟩
  obtain ⟨u6, u7, hcl⟩ := clear_ok (n := n) (w := w) (k := k) (m := m) (C := fun i => if i = k then (fun c => A h c / A h k) else if i = h then A k else A i) hn hw hkw hk (fun i hi j hj => by
    by_cases e1 : i = k
    · rw [if_pos e1]; exact skq j hj
    · rw [if_neg e1]
      by_cases e2 : i = h
      · rw [if_pos e2]; exact sk k hk j hj
      · rw [if_neg e2]; exact sk i hi j hj) hm S (.fz (.int (h : Nat))) (.fz (rowD w (A h))) s6 s7 s8 .no .no
  refine ⟨.fz (.int (h : Nat)), .fz (rowD w (A h)), u6, u7, h1, h2, h3, ?_⟩
  unfold rdB
  rw [sSeq_nx (ρ' := [S, .ow (.list (matD n w A)), .fz (.int (n : Nat)), .fz (.int (k : Nat)), .fz (.int (h : Nat)), s5, s6, s7, s8, .no, .no]) (by
    rw [sSet_s, h4]
    rfl)]
  rw [sSeq_nx (ρ' := [S, .ow (.list (matD n w A)), .fz (.int (n : Nat)), .fz (.int (k : Nat)), .fz (.int (h : Nat)), .fz (rowD w (A h)), s6, s7, s8, .no, .no]) (by
    simp only [sSet_s, d2_s, vB_s, vR_s, List.getElem?_cons_zero, List.getElem?_cons_succ, Option.bind_some, ixD_l, mh, List.set_cons_zero, List.set_cons_succ])]
  rw [sSeq_nx (ρ' := [S, .ow (.list (matD n w fun i => if i = h then A k else A i)), .fz (.int (n : Nat)), .fz (.int (k : Nat)), .fz (.int (h : Nat)), .fz (rowD w (A h)), s6, s7, s8, .no, .no]) (by
    simp only [sStL_s, d2_s, vB_s, vR_s, List.getElem?_cons_zero, List.getElem?_cons_succ, Option.bind_some, ixD_l, mk, owL_s, mat_len, ixN_nat h2, mat_set, List.set_cons_zero, List.set_cons_succ])]
  rw [sSeq_nx (ρ' := [S, .ow (.list (matD n w fun i => if i = k then (fun c => A h c / A h k) else if i = h then A k else A i)), .fz (.int (n : Nat)), .fz (.int (k : Nat)), .fz (.int (h : Nat)), .fz (rowD w (A h)), s6, s7, s8, .no, .no]) (by
    simp only [sStL_s, hov, vR_s, List.getElem?_cons_zero, List.getElem?_cons_succ, Option.bind_some, owL_s, mat_len, ixN_nat hk, mat_set, List.set_cons_zero, List.set_cons_succ])]
  rw [hcl]
  congr 4
  congr 1
  refine congrArg PyData.list (mat_congr fun i hi j hj => ?_)
  unfold clr rstep
  by_cases e1 : i = k
  · simp [e1]
  · by_cases e2 : i = h
    · have hk2 : ¬ h = k := fun z => e1 (e2.trans z)
      simp [hi, e1, e2, h2, hk2]
    · simp [hi, e1, e2]
end Zx.k76
/-! V4: all rounds of the elimination. -/
namespace Zx.k76
open PySem PySem.Spec L2 Zx
theorem bits_le {b b' e e' n w : Nat} {A : Nat → Nat → Rat} (h : Bits b e n w A) (hb : b ≤ b') (he : e ≤ e') : Bits b' e' n w A := by
  obtain ⟨N, d, hN⟩ := h
  refine ⟨N, d, fun i hi => ?_⟩
  obtain ⟨q1, q2, q3⟩ := hN i hi
  refine ⟨q1, Nat.lt_of_lt_of_le q2 (Nat.pow_le_pow_right (by decide) he), fun j hj => ?_⟩
  obtain ⟨q4, q5⟩ := q3 j hj
  exact ⟨Nat.lt_of_lt_of_le q4 (Nat.pow_le_pow_right (by decide) hb), q5⟩
theorem p2_le {k : Nat} (h : k ≤ 8) : 2 ^ k ≤ 256 := by
  have e : ∀ j : Fin 9, 2 ^ j.val ≤ 256 := by decide
  exact e ⟨k, by omega⟩
theorem elim_ok {n w : Nat} {A0 : Nat → Nat → Rat} (hn : n ≤ 9) (hw : w ≤ 1000) (hnw : n ≤ w) (reg : ∀ x, Ker n w A0 x → (∀ j, n ≤ j → x j = 0) → ∀ j, j < n → x j = 0) (B : Bits 6 6 n w A0) (S s3 s4 s5 s6 s7 s8 : Slot) :
    ∃ A u3 u4 u5 u6 u7, Diag n n A ∧ (∀ x, Ker n w A x ↔ Ker n w A0 x) ∧ Bits 3584 3584 n w A ∧ sFor (iR1 (vR 2)) (gN 3) rdB [S, .ow (.list (matD n w A0)), .fz (.int (n : Nat)), s3, s4, s5, s6, s7, s8, .no, .no] =
      some (.nx [S, .ow (.list (matD n w A)), .fz (.int (n : Nat)), u3, u4, u5, u6, u7, s8, .no, .no]) := by
  obtain ⟨ρ', g1, g2⟩ := sFor_ok (fi := iR1 (vR 2)) (g := gN 3) (fb := rdB) (ρ := [S, .ow (.list (matD n w A0)), .fz (.int (n : Nat)), s3, s4, s5, s6, s7, s8, .no, .no]) (ds := rgL 0 n)
    (fun k ρ => ∃ A u3 u4 u5 u6 u7, ρ = [S, .ow (.list (matD n w A)), .fz (.int (n : Nat)), u3, u4, u5, u6, u7, s8, .no, .no] ∧ Diag n k A ∧ (∀ x, Ker n w A x ↔ Ker n w A0 x) ∧ Bits (2 ^ k * 7 - 1) (2 ^ k * 7) n w A)
    (by simp only [iR1_s, vR_s, List.getElem?_cons_zero, List.getElem?_cons_succ, Option.bind_some]; rw [rg1_ok (by omega) (by omega)]; rfl)
    ⟨A0, s3, s4, s5, s6, s7, rfl, fun c hc => by omega, fun x => Iff.rfl, bits_le B (by decide) (by decide)⟩ (fun k d ρ hd ⟨A, u3, u4, u5, u6, u7, hρ, D, hK, hB⟩ => by
      subst hρ
      obtain ⟨hk, rfl⟩ := rgL_at hd
      rw [show (0 : Int) + (k : Int) = (k : Int) by omega]
      have h2 := p2_le (k := k) (by omega)
      obtain ⟨h, v4, v5, v6, v7, h1, h2', h3, h4⟩ := round_ok (m := 2 ^ k * 7) (by omega) hw hnw hk D (fun x hx => reg x ((hK x).mp hx)) hB (by omega) (by omega) (by omega) S u4 u5 u6 u7 s8
      refine ⟨_, _, rfl, h4, _, .inl rfl, rstep k k h A, .fz (.int (k : Nat)), v4, v5, v6, v7, rfl, diag_step hk h1 h2' h3 D, fun x => (ker_step hk h2' h3).trans (hK x), ?_⟩
      have hp : 0 < 2 ^ k := Nat.two_pow_pos k
      refine bits_le (bits_step hk h2' (by omega) h3 hB) ?_ ?_
      · rw [Nat.pow_succ]; omega
      · rw [Nat.pow_succ]; omega)
  obtain ⟨A, u3, u4, u5, u6, u7, rfl, D, hK, hB⟩ := g2
  rw [rgL_len] at D hB
  refine ⟨A, u3, u4, u5, u6, u7, D, hK, ?_, g1⟩
  have : (2 : Nat) ^ n ≤ 512 := by
    have e : ∀ j : Fin 10, 2 ^ j.val ≤ 512 := by decide
    exact e ⟨n, by omega⟩
  exact bits_le hB (by omega) (by omega)
end Zx.k76
/-! V5: walks, their checks, the two places behind one. -/
namespace Zx.k76
open PySem PySem.Spec L2 Zx
structure Walk where
  top : Nat
  start : Nat
  up : Nat
  down : Nat
  c : Rat
structure WOk (k : Walk) : Prop where
  t2 : 2 ≤ k.top
  t10 : k.top ≤ 10
  s1 : 1 ≤ k.start
  st : k.start < k.top
  u1 : 1 ≤ k.up
  u6 : k.up ≤ 6
  d1 : 1 ≤ k.down
  d6 : k.down ≤ 6
  c0 : 0 ≤ k.c
  c1 : k.c ≤ 1
  cd : k.c.den ≤ 18
def wkD (k : Walk) : D := .tuple [.int (k.top : Nat), .int (k.start : Nat), .int (k.up : Nat), .int (k.down : Nat), frD k.c]
theorem num_le (q : Rat) (h0 : 0 ≤ q) (h1 : q ≤ 1) : 0 ≤ q.num ∧ q.num ≤ q.den := by
  refine ⟨Rat.num_nonneg.mpr h0, ?_⟩
  have := (Rat.le_iff q 1).mp h1
  simpa using this
theorem c_sk (k : Walk) (h : WOk k) : Sk 5 k.c ∧ Sk 5 (1 - k.c) := by
  obtain ⟨n0, n1⟩ := num_le k.c h.c0 h.c1
  have hd := h.cd
  refine ⟨⟨by omega, by omega⟩, ?_⟩
  have e : 1 - k.c = ((k.c.den - k.c.num : Int) : Rat) / ((k.c.den : Int) : Rat) := by
    have hp' : (k.c.num : Rat) / ((k.c.den : Int) : Rat) = k.c := by rw [← Rat.divInt_eq_div]; exact Rat.num_divInt_den k.c
    have n1 : ((k.c.den : Int) : Rat) ≠ 0 := fun z => k.c.den_nz (by have := Rat.intCast_eq_zero_iff.mp z; omega)
    rw [Rat.intCast_sub]
    generalize ((k.c.num : Int) : Rat) = a at *
    generalize ((k.c.den : Int) : Rat) = b at *
    rw [← hp']
    grind
  rw [e]
  have := k.c.den_pos
  exact Sk_div (by omega) (by omega) (by omega)
theorem check_walk_eq (k : Walk) (h : WOk k) : f_check_walk [wkD k] = some .none := by
  have a1 := h.t2
  have a2 := h.t10
  have a3 := h.s1
  have a4 := h.st
  have a5 := h.u1
  have a6 := h.u6
  have a7 := h.d1
  have a8 := h.d6
  have sh := is_share_eq k.c h.c0 h.c1
  have b1 : (2 : Int) ≤ k.top := by omega
  have b2 : (k.top : Int) ≤ 10 := by omega
  have b3 : (0 : Int) < k.start := by omega
  have b4 : (k.start : Int) < k.top := by omega
  have b5 : (1 : Int) ≤ k.up := by omega
  have b6 : (k.up : Int) ≤ 6 := by omega
  have b7 : (1 : Int) ≤ k.down := by omega
  have b8 : (k.down : Int) ≤ 6 := by omega
  unfold f_check_walk D_check_walk
  refine run_seq (ρ' := [.fz (wkD k), .fz (.int (k.top : Nat)), .fz (.int (k.start : Nat)), .fz (.int (k.up : Nat)), .fz (.int (k.down : Nat)), .fz (frD k.c), .no]) (by simp [wkD]) ?_
  rw [sSeq_nx (ρ' := [.fz (wkD k), .fz (.int (k.top : Nat)), .fz (.int (k.start : Nat)), .fz (.int (k.up : Nat)), .fz (.int (k.down : Nat)), .fz (frD k.c), .no]) (by
    rw [sIf_f (by simp only [bNot_s, bCh_s, kD_s, vR_s, leI_s, List.getElem?_cons_zero, List.getElem?_cons_succ, Option.bind_some]; simp [b1, b2, a1, a2])]
    rfl)]
  rw [sSeq_nx (ρ' := [.fz (wkD k), .fz (.int (k.top : Nat)), .fz (.int (k.start : Nat)), .fz (.int (k.up : Nat)), .fz (.int (k.down : Nat)), .fz (frD k.c), .no]) (by
    rw [sIf_f (by simp only [bNot_s, bCh_s, kD_s, vR_s, ltI_s, List.getElem?_cons_zero, List.getElem?_cons_succ, Option.bind_some]; simp [b3, b4, a3, a4, show 0 < k.start by omega])]
    rfl)]
  rw [sSeq_nx (ρ' := [.fz (wkD k), .fz (.int (k.top : Nat)), .fz (.int (k.start : Nat)), .fz (.int (k.up : Nat)), .fz (.int (k.down : Nat)), .fz (frD k.c), .fz (.int (k.down : Nat))]) (by
    simp only [sFor, iSeq_s, mkT_s, lCons_s, lNil_s, vR_s, List.getElem?_cons_zero, List.getElem?_cons_succ, Option.bind_some, List.length_cons, List.length_nil, Nat.reduceAdd, Nat.reduceLeDiff, if_true, seqOf_t, forL, gN_s, List.set_cons_zero, List.set_cons_succ, sIf_s, bNot_s, bCh_s, kD_s, leI_s]
    simp [b5, b6, b7, b8, a5, a6, a7, a8])]
  rw [sIf_f (by simp [e_is_share, sh, truD])]
  rfl
theorem behind_eq (k : Walk) (h : WOk k) (p : Int) : f_behind [wkD k, .int p] = some (.list [.tuple [.int (p + (k.up : Nat)), frD k.c], .tuple [.int (p - (k.down : Nat)), frD (1 - k.c)]]) := by
  have one : PyData.tuple [.int 1, .int 1] = frD 1 := rfl
  have s1 : Sq (1 : Rat) := by
    have : Sk 1 ((1 : Int) : Rat) := Sk_int (by decide) (by decide)
    exact this.sq (by decide)
  have mi := minus_eq 1 k.c s1 ((c_sk k h).1.sq (by decide))
  unfold f_behind D_behind
  refine run_seq (ρ' := [.fz (wkD k), .fz (.int p), .fz (.int (k.start : Nat)), .fz (.int (k.up : Nat)), .fz (.int (k.down : Nat)), .fz (frD k.c)]) (by simp [wkD]) ?_
  simp [one, e_minus, mi]
end Zx.k76
/-! V6: the rows of a walk's system. -/
namespace Zx.k76
open PySem PySem.Spec L2 Zx
/-- a row changed by a place reached with a share -/
def hit (top : Nat) (t : Int) (q : Rat) (r : Nat → Rat) : Nat → Rat := fun j =>
  if 0 < t ∧ t < (top : Int) then (if (j : Int) = t - 1 then r j - q else r j)
  else if t ≤ 0 then (if j = top - 1 then r j + q else r j) else (if j = top then r j + q else r j)
def row0 (top i : Nat) : Nat → Rat := fun j => if j < top - 1 then (if j = i then 1 else 0) else if j = top + 1 then 1 else 0
def sysR (k : Walk) : Nat → Nat → Rat := fun i => hit k.top ((i : Int) + 1 - (k.down : Nat)) (1 - k.c) (hit k.top ((i : Int) + 1 + (k.up : Nat)) k.c (row0 k.top i))
theorem row_set (w : Nat) (r : Nat → Rat) (j : Nat) (x : Rat) : ((List.range w).map fun c => frD (r c)).set j (frD x) = (List.range w).map fun c => frD (if c = j then x else r c) := by
  rw [range_set]
  refine List.map_congr_left fun c _ => ?_
  by_cases e : c = j
  · simp only [if_pos e]
  · simp only [if_neg e]
theorem range_at {α : Type} {w : Nat} {f : Nat → α} {j : Nat} (h : j < w) : ((List.range w).map f)[j]? = some (f j) := by
  rw [List.getElem?_map, List.getElem?_range h]
  rfl
noncomputable abbrev hitB : DenS := (sIf (bCh ltI ltI (kD (.int 0)) (vR 5) (vR 1)) (sStL 4 (d2 subD (vR 5) (kD (.int 1))) (dCall (lCons (d2 ixD (vB 4) (d2 subD (vR 5) (kD (.int 1)))) (lCons (vR 6) lNil)) f_minus)) (sSeq (sSet 7 (dIf (b2 leI (vR 5) (kD (.int 0))) (d2 subD (vR 1) (kD (.int 1))) (vR 1)))
     (sStL 4 (vR 7) (dCall (lCons (d2 ixD (vB 4) (vR 7)) (lCons (vR 6) lNil)) f_plus))))
theorem hit_ok (top : Nat) (h2 : 2 ≤ top) (h10 : top ≤ 10) (t : Int) (q : Rat) (r : Nat → Rat) (hq : Sq q) (hr : ∀ j, j < top + 2 → Sq (r j)) (S s2 s3 s7 : Slot) :
    ∃ u7, hitB [S, .fz (.int (top : Nat)), s2, s3, .ow (rowD (top + 2) r), .fz (.int t), .fz (frD q), s7] = some (.nx [S, .fz (.int (top : Nat)), s2, s3, .ow (rowD (top + 2) (hit top t q r)), .fz (.int t), .fz (frD q), u7]) := by
  unfold hitB
  by_cases hin : 0 < t ∧ t < (top : Int)
  · obtain ⟨j, hj⟩ := Int.eq_ofNat_of_zero_le (show 0 ≤ t - 1 by omega)
    have hjt : j < top + 2 := by omega
    have mi := minus_eq (r j) q (hr j hjt) hq
    refine ⟨s7, ?_⟩
    rw [sIf_t (by simp only [bCh_s, kD_s, vR_s, ltI_s, List.getElem?_cons_zero, List.getElem?_cons_succ, Option.bind_some]; simp [hin.1, hin.2])]
    have e1 : atI ((List.range (top + 2)).map fun c => frD (r c)) (j : Int) = some (frD (r j)) := by
      rw [atI_nat _ _ (by simp; omega), range_at hjt]
    have e2 : ixN ((List.range (top + 2)).map fun c => frD (r c)).length (j : Int) = some j := ixN_nat (by simp; omega)
    have eR : (fun c => if c = j then r j - q else r c) = hit top t q r := by
      funext c
      unfold hit
      rw [if_pos hin]
      by_cases e : c = j
      · rw [if_pos e, if_pos (by omega), e]
      · rw [if_neg e, if_neg (by omega)]
    simp only [sStL_s, dCall_s, lCons_s, lNil_s, d2_s, vB_s, vR_s, kD_s, subD_i, hj, rowD, List.getElem?_cons_zero, List.getElem?_cons_succ, Option.bind_some, ixD_l, e1, e_minus, mi, owL_s, e2, row_set, List.set_cons_zero, List.set_cons_succ, ← eR]
  · by_cases h0 : t ≤ 0
    · have pl := plus_eq (r (top - 1)) q (hr _ (by omega)) hq
      refine ⟨.fz (.int ((top - 1 : Nat) : Int)), ?_⟩
      rw [sIf_f (by
        simp only [bCh_s, kD_s, vR_s, ltI_s, List.getElem?_cons_zero, List.getElem?_cons_succ, Option.bind_some]
        have : ¬ 0 < t := by omega
        simp [this])]
      rw [sSeq_nx (ρ' := [S, .fz (.int (top : Nat)), s2, s3, .ow (rowD (top + 2) r), .fz (.int t), .fz (frD q), .fz (.int ((top - 1 : Nat) : Int))]) (by
        have : (top : Int) - 1 = ((top - 1 : Nat) : Int) := by omega
        simp [h0, this])]
      have e1 : atI ((List.range (top + 2)).map fun c => frD (r c)) ((top - 1 : Nat) : Int) = some (frD (r (top - 1))) := by
        rw [atI_nat _ _ (by simp; omega), range_at (by omega)]
      have e2 : ixN ((List.range (top + 2)).map fun c => frD (r c)).length ((top - 1 : Nat) : Int) = some (top - 1) := ixN_nat (by simp; omega)
      have eR : (fun c => if c = top - 1 then r (top - 1) + q else r c) = hit top t q r := by
        funext c
        unfold hit
        rw [if_neg hin, if_pos h0]
        by_cases e : c = top - 1
        · rw [if_pos e, if_pos e, e]
        · rw [if_neg e, if_neg e]
      simp only [sStL_s, dCall_s, lCons_s, lNil_s, d2_s, vB_s, vR_s, rowD, List.getElem?_cons_zero, List.getElem?_cons_succ, Option.bind_some, ixD_l, e1, e_plus, pl, owL_s, e2, row_set, List.set_cons_zero, List.set_cons_succ, ← eR]
    · have pl := plus_eq (r top) q (hr _ (by omega)) hq
      refine ⟨.fz (.int (top : Nat)), ?_⟩
      rw [sIf_f (by
        simp only [bCh_s, kD_s, vR_s, ltI_s, List.getElem?_cons_zero, List.getElem?_cons_succ, Option.bind_some]
        have h3 : 0 < t := by omega
        have h4 : ¬ t < (top : Int) := by omega
        simp [h3, h4])]
      rw [sSeq_nx (ρ' := [S, .fz (.int (top : Nat)), s2, s3, .ow (rowD (top + 2) r), .fz (.int t), .fz (frD q), .fz (.int (top : Nat))]) (by simp [h0])]
      have e1 : atI ((List.range (top + 2)).map fun c => frD (r c)) (top : Int) = some (frD (r top)) := by
        rw [atI_nat _ _ (by simp), range_at (by omega)]
      have e2 : ixN ((List.range (top + 2)).map fun c => frD (r c)).length (top : Int) = some top := ixN_nat (by simp)
      have eR : (fun c => if c = top then r top + q else r c) = hit top t q r := by
        funext c
        unfold hit
        rw [if_neg hin, if_neg h0]
        by_cases e : c = top
        · rw [if_pos e, if_pos e, e]
        · rw [if_neg e, if_neg e]
      simp only [sStL_s, dCall_s, lCons_s, lNil_s, d2_s, vB_s, vR_s, rowD, List.getElem?_cons_zero, List.getElem?_cons_succ, Option.bind_some, ixD_l, e1, e_plus, pl, owL_s, e2, row_set, List.set_cons_zero, List.set_cons_succ, ← eR]
end Zx.k76
/-! V7: rows_of. -/
namespace Zx.k76
open PySem PySem.Spec L2 Zx
theorem row0_data (top i : Nat) (h : 2 ≤ top) : ((List.range (top - 1)).map fun j => PyData.tuple [.int (if i = j then 1 else 0), .int 1]) ++ [PyData.tuple [.int 0, .int 1], .tuple [.int 0, .int 1], .tuple [.int 1, .int 1]] = (List.range (top + 2)).map fun j => frD (row0 top i j) := by
  have e : top + 2 = (top - 1) + 1 + 1 + 1 := by omega
  rw [e, List.range_succ, List.range_succ, List.range_succ]
  simp only [List.map_append, List.map_cons, List.map_nil, List.append_assoc, List.cons_append, List.nil_append]
  congr 1
  · refine List.map_congr_left fun j hj => ?_
    have hj' := List.mem_range.mp hj
    unfold row0
    rw [if_pos hj']
    by_cases e : i = j
    · rw [if_pos e, if_pos e.symm]; rfl
    · rw [if_neg e, if_neg (fun z => e z.symm)]; rfl
  · unfold row0
    rw [if_neg (by omega), if_neg (by omega), if_neg (by omega), if_neg (by omega), if_neg (by omega), if_pos (by omega)]
    rfl
theorem hit_sk {top m : Nat} {t : Int} {q : Rat} {r : Nat → Rat} (hq : Sk 5 q) {j : Nat} (hr : Sk m (r j)) : Sk (m + 6) (hit top t q r j) := by
  unfold hit
  split
  · split
    · rw [Rat.sub_eq_add_neg]
      exact hr.add hq.neg
    · exact hr.le (by omega)
  · split
    · split
      · exact hr.add hq
      · exact hr.le (by omega)
    · split
      · exact hr.add hq
      · exact hr.le (by omega)
theorem row0_sk (top i j : Nat) : Sk 1 (row0 top i j) := by
  have o : Sk 1 (1 : Rat) := Sk_int (a := 1) (by decide) (by decide)
  have z : Sk 1 (0 : Rat) := Sk_int (a := 0) (by decide) (by decide)
  unfold row0
  split
  · split
    · exact o
    · exact z
  · split
    · exact o
    · exact z
noncomputable abbrev rowB : DenS := (sSeq (sOwn 4 (d2 catL (dLc (iR2 (kD (.int 1)) (vR 1)) (gN 5) bYes (mkT (lCons (d1 intD (bV (b2 eqD (vR 3) (vR 5)))) (lCons (kD (.int 1)) lNil))) [5]) (mkL (lCons (mkT (lCons (kD (.int 0)) (lCons (kD (.int 1)) lNil))) (lCons (mkT (lCons (kD (.int 0)) (lCons (kD (.int 1)) lNil))) (lCons (mkT (lCons (kD (.int 1)) (lCons (kD (.int 1)) lNil))) lNil))))))
   (sSeq (sFor (iSeq (dCall (lCons (vR 0) (lCons (vR 3) lNil)) f_behind)) (gT (gsCons (gN 5) (gsCons (gN 6) gsNil)) 2) hitB)
   (sFrz 4 (sApp 2 (vR 4)))))
theorem rowB_ok (k : Walk) (h : WOk k) (i : Nat) (hi : i < k.top - 1) (xs : List D) (hx : xs.length ≤ 100) (s4 s5 s6 s7 : Slot) :
    ∃ u4 u5 u6 u7, rowB [.fz (wkD k), .fz (.int (k.top : Nat)), .ow (.list xs), .fz (.int ((i : Int) + 1)), s4, s5, s6, s7] = some (.nx [.fz (wkD k), .fz (.int (k.top : Nat)), .ow (.list (xs ++ [rowD (k.top + 2) (sysR k i)])), .fz (.int ((i : Int) + 1)), u4, u5, u6, u7]) := by
  have h2 := h.t2
  have h10 := h.t10
  obtain ⟨c1, c2⟩ := c_sk k h
  have hb := behind_eq k h ((i : Int) + 1)
  generalize hW : wkD k = W at *
  have hlc : dLc (iR2 (kD (.int 1)) (vR 1)) (gN 5) bYes (mkT (lCons (d1 intD (bV (b2 eqD (vR 3) (vR 5)))) (lCons (kD (.int 1)) lNil))) [5] [.fz W, .fz (.int (k.top : Nat)), .ow (.list xs), .fz (.int ((i : Int) + 1)), s4, s5, s6, s7] =
      some (.list ((List.range (k.top - 1)).map fun j => PyData.tuple [.int (if i = j then 1 else 0), .int 1])) := by
    have hr : rg2 (.int 1) (.int (k.top : Nat)) = some ((List.range (k.top - 1)).map fun j : Nat => PyData.int ((j : Int) + 1)) := by
      rw [rg2_ok (by omega) (by omega) (by omega) (by omega)]
      unfold rgL
      rw [show ((k.top : Int) - 1).toNat = k.top - 1 by omega]
      congr 1
      refine List.map_congr_left fun j _ => ?_
      congr 1
      omega
    refine dLc_of (by simp only [iR2_s, kD_s, vR_s, List.getElem?_cons_zero, List.getElem?_cons_succ, Option.bind_some]; exact hr) ?_ (by simp; omega)
    have := lcL_if2 (fun j : Nat => PyData.int ((j : Int) + 1)) (fun j : Nat => PyData.tuple [.int (if i = j then 1 else 0), .int 1]) (fun _ => true) (fun c => c) (g := gN 5) (ft := bYes) (fe := mkT (lCons (d1 intD (bV (b2 eqD (vR 3) (vR 5)))) (lCons (kD (.int 1)) lNil)))
      (ρ := wipeE [.fz W, .fz (.int (k.top : Nat)), .ow (.list xs), .fz (.int ((i : Int) + 1)), s4, s5, s6, s7] [5]) (List.range (k.top - 1)) (fun j hj => by
        refine ⟨_, rfl, rfl, fun _ => ?_⟩
        simp only [wipeE, mkT_s, lCons_s, lNil_s, d1_s, bV_s, b2_s, vR_s, kD_s, List.set_cons_zero, List.set_cons_succ, List.getElem?_cons_zero, List.getElem?_cons_succ, Option.bind_some, eqD_i, intD_b, List.length_cons, List.length_nil, Nat.reduceAdd, Nat.reduceLeDiff, if_true]
        congr 4
        by_cases e : i = j
        · rw [if_pos e, if_pos (by simp; omega)]
        · rw [if_neg e, if_neg (by simp; omega)])
    rw [this, List.filter_eq_self.mpr (fun _ _ => rfl), List.map_id']
  have r0 : ∀ j, j < k.top + 2 → Sq (row0 k.top i j) := fun j _ => (row0_sk k.top i j).sq (by decide)
  obtain ⟨u7, f1⟩ := hit_ok k.top h2 h10 ((i : Int) + 1 + (k.up : Nat)) k.c (row0 k.top i) (c1.sq (by decide)) r0 (.fz W) (.ow (.list xs)) (.fz (.int ((i : Int) + 1))) s7
  obtain ⟨v7, f2⟩ := hit_ok k.top h2 h10 ((i : Int) + 1 - (k.down : Nat)) (1 - k.c) (hit k.top ((i : Int) + 1 + (k.up : Nat)) k.c (row0 k.top i)) (c2.sq (by decide)) (fun j _ => (hit_sk c1 (row0_sk k.top i j)).sq (by decide)) (.fz W) (.ow (.list xs)) (.fz (.int ((i : Int) + 1))) u7
  refine ⟨.fz (rowD (k.top + 2) (sysR k i)), .fz (.int ((i : Int) + 1 - (k.down : Nat))), .fz (frD (1 - k.c)), v7, ?_⟩
  unfold rowB
  rw [sSeq_nx (ρ' := [.fz W, .fz (.int (k.top : Nat)), .ow (.list xs), .fz (.int ((i : Int) + 1)), .ow (rowD (k.top + 2) (row0 k.top i)), s5, s6, s7]) (by
    have hc := row0_data k.top i h2
    rw [sOwn_s]
    simp only [d2_s, hlc, Option.bind_some, mkL_s, lCons_s, lNil_s, mkT_s, kD_s, List.length_cons, List.length_nil, Nat.reduceAdd, Nat.reduceLeDiff, if_true]
    have hl : ((List.range (k.top - 1)).map fun j => PyData.tuple [.int (if i = j then 1 else 0), .int 1]).length + [PyData.tuple [.int 0, .int 1], .tuple [.int 0, .int 1], .tuple [.int 1, .int 1]].length ≤ 1000000 := by simp; omega
    show (addD (PyData.list ((List.range (k.top - 1)).map fun j => PyData.tuple [.int (if i = j then 1 else 0), .int 1])) (PyData.list [PyData.tuple [.int 0, .int 1], .tuple [.int 0, .int 1], .tuple [.int 1, .int 1]])).bind _ = _
    rw [addD_l, if_pos hl, hc]
    rfl)]
  rw [sSeq_nx (ρ' := [.fz W, .fz (.int (k.top : Nat)), .ow (.list xs), .fz (.int ((i : Int) + 1)), .ow (rowD (k.top + 2) (sysR k i)), .fz (.int ((i : Int) + 1 - (k.down : Nat))), .fz (frD (1 - k.c)), v7]) (by
    unfold sFor
    simp only [iSeq_s, dCall_s, lCons_s, lNil_s, vR_s, List.getElem?_cons_zero, List.getElem?_cons_succ, Option.bind_some, hb, seqOf_l, forL, gT_s, gsCons_s, gsNil_s, gN_s, List.set_cons_zero, List.set_cons_succ, List.length_cons, List.length_nil, Nat.reduceAdd, if_true, f1, f2]
    rfl)]
  have hxl : xs.length < 1000000 := by omega
  simp only [sFrz_s, frz_s, sApp_s, vR_s, owL_s, rowD, List.getElem?_cons_zero, List.getElem?_cons_succ, Option.bind_some, List.set_cons_zero, List.set_cons_succ, hxl, if_true]
end Zx.k76
/-! V8: rows_of and values_of as a whole. -/
namespace Zx.k76
open PySem PySem.Spec L2 Zx
theorem rows_of_eq (k : Walk) (h : WOk k) : f_rows_of [wkD k] = some (.list (matD (k.top - 1) (k.top + 2) (sysR k))) := by
  have h2 := h.t2
  have h10 := h.t10
  obtain ⟨ρ', g1, g2⟩ := sFor_ok (fi := iR2 (kD (.int 1)) (vR 1)) (g := gN 3) (fb := rowB) (ρ := [.fz (wkD k), .fz (.int (k.top : Nat)), .ow (.list []), .no, .no, .no, .no, .no]) (ds := rgL 1 (k.top - 1))
    (fun j ρ => ∃ s3 s4 s5 s6 s7, ρ = [.fz (wkD k), .fz (.int (k.top : Nat)), .ow (.list ((List.range j).map fun i => rowD (k.top + 2) (sysR k i))), s3, s4, s5, s6, s7])
    (by simp only [iR2_s, kD_s, vR_s, List.getElem?_cons_zero, List.getElem?_cons_succ, Option.bind_some]; rw [rg2_ok (by omega) (by omega) (by omega) (by omega), show ((k.top : Int) - 1).toNat = k.top - 1 by omega])
    ⟨.no, .no, .no, .no, .no, rfl⟩ (fun j d ρ hd ⟨s3, s4, s5, s6, s7, hρ⟩ => by
      subst hρ
      obtain ⟨hj, rfl⟩ := rgL_at hd
      rw [show (1 : Int) + (j : Int) = (j : Int) + 1 by omega]
      obtain ⟨u4, u5, u6, u7, hu⟩ := rowB_ok k h j hj ((List.range j).map fun i => rowD (k.top + 2) (sysR k i)) (by simp; omega) s4 s5 s6 s7
      refine ⟨_, _, rfl, hu, _, .inl rfl, .fz (.int ((j : Int) + 1)), u4, u5, u6, u7, ?_⟩
      rw [List.range_succ, List.map_append]
      rfl)
  obtain ⟨s3, s4, s5, s6, s7, rfl⟩ := g2
  rw [rgL_len] at g1
  unfold f_rows_of D_rows_of runN
  have e1 : env0 8 [wkD k] = [.fz (wkD k), .no, .no, .no, .no, .no, .no, .no] := rfl
  rw [e1]
  rw [sSeq_nx (ρ' := [.fz (wkD k), .fz (.int (k.top : Nat)), .no, .no, .no, .no, .no, .no]) (by simp [wkD])]
  rw [sSeq_nx (ρ' := [.fz (wkD k), .fz (.int (k.top : Nat)), .ow (.list []), .no, .no, .no, .no, .no]) (by simp)]
  unfold rowB hitB at g1
  rw [sSeq_nx g1]
  simp [matD]
end Zx.k76
/-! V9: the sizes of the system, and that it is regular. -/
namespace Zx.k76
open PySem PySem.Spec L2 Zx
/-- c as integers -/
theorem c_int (k : Walk) (h : WOk k) : ∃ (a d : Int), 0 ≤ a ∧ a ≤ d ∧ 0 < d ∧ d ≤ 18 ∧ k.c = (a : Rat) / (d : Rat) := by
  obtain ⟨n0, n1⟩ := num_le k.c h.c0 h.c1
  have hd := h.cd
  have hp := k.c.den_pos
  refine ⟨k.c.num, k.c.den, n0, n1, by omega, by omega, ?_⟩
  rw [← Rat.divInt_eq_div]
  exact (Rat.num_divInt_den k.c).symm
theorem sys_val (k : Walk) (i j : Nat) : ∃ e p q : Int, (e = 0 ∨ e = 1) ∧ (p = 0 ∨ p = 1 ∨ p = -1) ∧ (q = 0 ∨ q = 1 ∨ q = -1) ∧ sysR k i j = (e : Rat) + (p : Rat) * k.c + (q : Rat) * (1 - k.c) := by
  have r0 : ∃ e : Int, (e = 0 ∨ e = 1) ∧ row0 k.top i j = (e : Rat) := by
    unfold row0
    split
    · split
      · exact ⟨1, .inr rfl, rfl⟩
      · exact ⟨0, .inl rfl, rfl⟩
    · split
      · exact ⟨1, .inr rfl, rfl⟩
      · exact ⟨0, .inl rfl, rfl⟩
  have hh : ∀ (t : Int) (q : Rat) (r : Nat → Rat), ∃ p : Int, (p = 0 ∨ p = 1 ∨ p = -1) ∧ hit k.top t q r j = r j + (p : Rat) * q := fun t q r => by
    have m1 : ((-1 : Int) : Rat) = -1 := rfl
    have m0 : ((0 : Int) : Rat) = 0 := rfl
    have m2 : ((1 : Int) : Rat) = 1 := rfl
    unfold hit
    split
    · split
      · exact ⟨-1, .inr (.inr rfl), by rw [m1]; grind⟩
      · exact ⟨0, .inl rfl, by rw [m0]; grind⟩
    · split
      · split
        · exact ⟨1, .inr (.inl rfl), by rw [m2]; grind⟩
        · exact ⟨0, .inl rfl, by rw [m0]; grind⟩
      · split
        · exact ⟨1, .inr (.inl rfl), by rw [m2]; grind⟩
        · exact ⟨0, .inl rfl, by rw [m0]; grind⟩
  obtain ⟨e, he, e1⟩ := r0
  obtain ⟨p, hp, p1⟩ := hh ((i : Int) + 1 + (k.up : Nat)) k.c (row0 k.top i)
  obtain ⟨q, hq, q1⟩ := hh ((i : Int) + 1 - (k.down : Nat)) (1 - k.c) (hit k.top ((i : Int) + 1 + (k.up : Nat)) k.c (row0 k.top i))
  refine ⟨e, p, q, he, hp, hq, ?_⟩
  unfold sysR
  rw [q1, p1, e1]
end Zx.k76
/-! V10: the sizes of the system. -/
namespace Zx.k76
open PySem PySem.Spec L2 Zx
theorem sys_bits (k : Walk) (h : WOk k) (n w : Nat) : Bits 6 6 n w (sysR k) := by
  obtain ⟨a, d, a0, a1, d0, d1, hc⟩ := c_int k h
  have key : ∀ i j, ∃ N : Int, N.natAbs < 2 ^ 6 ∧ sysR k i j = (N : Rat) / (d : Rat) := fun i j => by
    obtain ⟨e, p, q, he, hp, hq, hs⟩ := sys_val k i j
    refine ⟨e * d + p * a + q * (d - a), ?_, ?_⟩
    · rcases he with rfl | rfl <;> rcases hp with rfl | rfl | rfl <;> rcases hq with rfl | rfl | rfl <;> omega
    · have hn := int_nz (show d ≠ 0 by omega)
      rw [hs, hc, Rat.intCast_add, Rat.intCast_add, Rat.intCast_mul, Rat.intCast_mul, Rat.intCast_mul, Rat.intCast_sub]
      grind
  exact ⟨fun i j => Classical.choose (key i j), fun _ => d, fun i _ => ⟨show d ≠ 0 by omega, show d.natAbs < 2 ^ 6 by omega, fun j _ => Classical.choose_spec (key i j)⟩⟩
end Zx.k76
/-! V11: the minimum principle of a walk. -/
namespace Zx.k76
open PySem PySem.Spec L2 Zx
theorem has_min (y : Nat → Rat) : ∀ n, 0 < n → ∃ i, i < n ∧ ∀ j, j < n → y i ≤ y j
  | 1, _ => ⟨0, by omega, fun j hj => by rw [show j = 0 by omega]; exact Rat.le_refl⟩
  | n + 2, _ => by
    obtain ⟨i, h1, h2⟩ := has_min y (n + 1) (by omega)
    by_cases h : y i ≤ y (n + 1)
    · refine ⟨i, by omega, fun j hj => ?_⟩
      by_cases e : j = n + 1
      · rw [e]; exact h
      · exact h2 j (by omega)
    · refine ⟨n + 1, by omega, fun j hj => ?_⟩
      by_cases e : j = n + 1
      · rw [e]; exact Rat.le_refl
      · have := h2 j (by omega)
        grind
theorem mul_lt' {c a b : Rat} (hc : 0 < c) (h : a < b) : c * a < c * b := by
  have := Rat.mul_lt_mul_left hc (a := a) (b := b)
  grind
theorem mul_le' {c a b : Rat} (hc : 0 ≤ c) (h : a ≤ b) : c * a ≤ c * b := Rat.mul_le_mul_of_nonneg_left h hc
theorem min_pr (k : Walk) (h : WOk k) (y : Int → Rat) (hout : ∀ t, (t ≤ 0 ∨ (k.top : Int) ≤ t) → 0 ≤ y t)
    (hin : ∀ p : Int, 0 < p → p < k.top → k.c * y (p + (k.up : Nat)) + (1 - k.c) * y (p - (k.down : Nat)) ≤ y p) : ∀ t, 0 ≤ y t := by
  have h2 := h.t2
  have hu := h.u1
  have hd := h.d1
  have c0 := h.c0
  have c1 := h.c1
  apply Classical.byContradiction
  intro hneg
  have hneg' : ∃ t, y t < 0 := Classical.byContradiction fun z => hneg fun t => by
    have : ¬ y t < 0 := fun w => z ⟨t, w⟩
    grind
  obtain ⟨t, ht⟩ := hneg'
  have htin : 0 < t ∧ t < k.top := Classical.byContradiction fun z => by
    have := hout t (by omega)
    grind
  obtain ⟨i, hi, hmin⟩ := has_min (fun i => y ((i : Int) + 1)) (k.top - 1) (by omega)
  have hmt := hmin (t - 1).toNat (by omega)
  rw [show (((t - 1).toNat : Nat) : Int) + 1 = t by omega] at hmt
  generalize hm : y ((i : Int) + 1) = m at *
  have m0 : m < 0 := by
    have : m ≤ y t := by simpa [hm] using hmt
    grind
  have hall : ∀ p, m ≤ y p := fun p => by
    by_cases hp : 0 < p ∧ p < k.top
    · have := hmin (p - 1).toNat (by omega)
      rw [show (((p - 1).toNat : Nat) : Int) + 1 = p by omega] at this
      simpa [hm] using this
    · have := hout p (by omega)
      grind
  have strict : ∀ p : Int, 0 < p → p < k.top → m < y p := by
    by_cases hc : 0 < k.c
    · have : ∀ n : Nat, ∀ p : Int, ((k.top : Int) - p).toNat = n → 0 < p → p < k.top → m < y p := by
        intro n
        induction n using Nat.strongRecOn with
        | ind n ih =>
          intro p hn hp0 hp1
          have s1 : m < y (p + (k.up : Nat)) := by
            by_cases hq : p + (k.up : Nat) < k.top
            · exact ih _ (by omega) _ rfl (by omega) hq
            · have := hout (p + (k.up : Nat)) (by omega)
              grind
          have s2 := hall (p - (k.down : Nat))
          have s3 := hin p hp0 hp1
          have s4 := mul_lt' hc s1
          have s5 := mul_le' (c := 1 - k.c) (by grind) s2
          grind
      exact fun p => this _ p rfl
    · have hcz : k.c = 0 := by grind
      have : ∀ n : Nat, ∀ p : Int, p.toNat = n → 0 < p → p < k.top → m < y p := by
        intro n
        induction n using Nat.strongRecOn with
        | ind n ih =>
          intro p hn hp0 hp1
          have s1 : m < y (p - (k.down : Nat)) := by
            by_cases hq : 0 < p - (k.down : Nat)
            · exact ih _ (by omega) _ rfl hq (by omega)
            · have := hout (p - (k.down : Nat)) (by omega)
              grind
          have s3 := hin p hp0 hp1
          rw [hcz] at s3
          grind
      exact fun p => this _ p rfl
  have := strict ((i : Int) + 1) (by omega) (by omega)
  rw [hm] at this
  grind
end Zx.k76
/-! V12: the system read as equations over the places; it is regular. -/
namespace Zx.k76
open PySem PySem.Spec L2 Zx
theorem qs_upd (w : Nat) (r x : Nat → Rat) (j : Nat) (s : Rat) (hj : j < w) : lin w (fun c => if c = j then r c + s else r c) x = lin w r x + s * x j := by
  unfold lin
  have : (fun c => (if c = j then r c + s else r c) * x c) = fun c => r c * x c + (if c = j then s * x j else 0) := by
    funext c
    by_cases e : c = j
    · rw [if_pos e, if_pos e, e]; grind
    · rw [if_neg e, if_neg e]; grind
  rw [this, qs_add, qs_one (f := fun c => if c = j then s * x j else 0) hj fun i _ hne => by rw [if_neg hne], if_pos rfl]
/-- the value at a place: inside the unknown, outside the edges' -/
def val (top : Nat) (x : Nat → Rat) (t : Int) : Rat := if 0 < t ∧ t < (top : Int) then x (t - 1).toNat else if t ≤ 0 then - x (top - 1) else - x top
theorem lin_hit (top : Nat) (h2 : 2 ≤ top) (t : Int) (q : Rat) (r x : Nat → Rat) : lin (top + 2) (hit top t q r) x = lin (top + 2) r x - q * val top x t := by
  unfold val
  by_cases hin : 0 < t ∧ t < (top : Int)
  · have e : hit top t q r = fun c => if c = (t - 1).toNat then r c + (-q) else r c := by
      funext c
      unfold hit
      rw [if_pos hin]
      by_cases ec : c = (t - 1).toNat
      · rw [if_pos ec, if_pos (by omega)]; grind
      · rw [if_neg ec, if_neg (by omega)]
    rw [e, qs_upd _ _ _ _ _ (by omega), if_pos hin]
    grind
  · by_cases h0 : t ≤ 0
    · have e : hit top t q r = fun c => if c = top - 1 then r c + q else r c := by
        funext c
        unfold hit
        rw [if_neg hin, if_pos h0]
      rw [e, qs_upd _ _ _ _ _ (by omega), if_neg hin, if_pos h0]
      grind
    · have e : hit top t q r = fun c => if c = top then r c + q else r c := by
        funext c
        unfold hit
        rw [if_neg hin, if_neg h0]
      rw [e, qs_upd _ _ _ _ _ (by omega), if_neg hin, if_neg h0]
      grind
theorem lin_row0 (top i : Nat) (h2 : 2 ≤ top) (hi : i < top - 1) (x : Nat → Rat) : lin (top + 2) (row0 top i) x = x i + x (top + 1) := by
  unfold lin
  have : ∀ c, c < top + 2 → row0 top i c * x c = (if c = i then x i else 0) + (if c = top + 1 then x (top + 1) else 0) := fun c hc => by
    unfold row0
    by_cases h1 : c < top - 1
    · rw [if_pos h1, if_neg (show ¬ c = top + 1 by omega)]
      by_cases e : c = i
      · rw [if_pos e, if_pos e, e]; grind
      · rw [if_neg e, if_neg e]; grind
    · rw [if_neg h1, if_neg (show ¬ c = i by omega)]
      by_cases e : c = top + 1
      · rw [if_pos e, if_pos e, e]; grind
      · rw [if_neg e, if_neg e]; grind
  rw [qs_congr this, qs_add, qs_one (f := fun c => if c = i then x i else 0) (k := i) (by omega) (fun j _ hj => by rw [if_neg hj]), qs_one (f := fun c => if c = top + 1 then x (top + 1) else 0) (k := top + 1) (by omega) (fun j _ hj => by rw [if_neg hj]), if_pos rfl, if_pos rfl]
theorem lin_sys (k : Walk) (h : WOk k) (i : Nat) (hi : i < k.top - 1) (x : Nat → Rat) : lin (k.top + 2) (sysR k i) x = x i + x (k.top + 1) - k.c * val k.top x ((i : Int) + 1 + (k.up : Nat)) - (1 - k.c) * val k.top x ((i : Int) + 1 - (k.down : Nat)) := by
  unfold sysR
  rw [lin_hit _ h.t2, lin_hit _ h.t2, lin_row0 _ _ h.t2 hi]
theorem sys_reg (k : Walk) (h : WOk k) : ∀ x, Ker (k.top - 1) (k.top + 2) (sysR k) x → (∀ j, k.top - 1 ≤ j → x j = 0) → ∀ j, j < k.top - 1 → x j = 0 := by
  have h2 := h.t2
  have half : ∀ x, Ker (k.top - 1) (k.top + 2) (sysR k) x → (∀ j, k.top - 1 ≤ j → x j = 0) → ∀ j, j < k.top - 1 → 0 ≤ x j := fun x hK hz j hj => by
    have v0 : ∀ t, (t ≤ 0 ∨ (k.top : Int) ≤ t) → val k.top x t = 0 := fun t ht => by
      unfold val
      rw [if_neg (by omega), hz (k.top - 1) (by omega), hz k.top (by omega)]
      split <;> grind
    have := min_pr k h (val k.top x) (fun t ht => by rw [v0 t ht]; exact Rat.le_refl) (fun p p0 p1 => by
      have e := hK (p - 1).toNat (by omega)
      rw [lin_sys k h _ (by omega), hz (k.top + 1) (by omega), show (((p - 1).toNat : Nat) : Int) + 1 = p by omega] at e
      have ev : val k.top x p = x (p - 1).toNat := by
        unfold val
        rw [if_pos ⟨p0, p1⟩]
      rw [ev]
      grind) ((j : Int) + 1)
    unfold val at this
    rw [if_pos (by omega)] at this
    simpa using this
  intro x hK hz j hj
  have h1 := half x hK hz j hj
  have h3 := half (fun j => - x j) (fun i hi => by
    have e := hK i hi
    unfold lin at e ⊢
    have : (fun j => sysR k i j * -x j) = fun j => (-1) * (sysR k i j * x j) := by
      funext j
      grind
    rw [this, qs_mul, e]
    grind) (fun j hj => by rw [hz j hj]; grind) j hj
  grind
end Zx.k76
/-! V13: values_of gives the one solution. -/
namespace Zx.k76
open PySem PySem.Spec L2 Zx
/-- a at the low edge, b at the high one, g gained at each step -/
structure Sol (k : Walk) (a b g : Rat) (y : Int → Rat) : Prop where
  lo : ∀ t, t ≤ 0 → y t = a
  hi : ∀ t, (k.top : Int) ≤ t → y t = b
  eq : ∀ p : Int, 0 < p → p < k.top → y p = g + k.c * y (p + (k.up : Nat)) + (1 - k.c) * y (p - (k.down : Nat))
theorem sol_uniq {k : Walk} (h : WOk k) {a b g : Rat} {y z : Int → Rat} (hy : Sol k a b g y) (hz : Sol k a b g z) : ∀ t, y t = z t := by
  have h2 := h.t2
  have half : ∀ {y z : Int → Rat}, Sol k a b g y → Sol k a b g z → ∀ t, 0 ≤ y t - z t := fun {y z} hy hz => by
    refine min_pr k h (fun t => y t - z t) (fun t ht => ?_) fun p p0 p1 => ?_
    · rcases ht with ht | ht
      · rw [hy.lo t ht, hz.lo t ht]; grind
      · rw [hy.hi t ht, hz.hi t ht]; grind
    · rw [hy.eq p p0 p1, hz.eq p p0 p1]
      grind
  intro t
  have := half hy hz t
  have := half hz hy t
  grind
abbrev tri (p q r : Rat) : D := .tuple [frD p, frD q, frD r]
theorem sol_of_ker (k : Walk) (h : WOk k) (a b g : Rat) (x : Nat → Rat) (ha : x (k.top - 1) = -a) (hb : x k.top = -b) (hg : x (k.top + 1) = -g) (hK : Ker (k.top - 1) (k.top + 2) (sysR k) x) : Sol k a b g (val k.top x) := by
  have h2 := h.t2
  refine ⟨fun t ht => ?_, fun t ht => ?_, fun p p0 p1 => ?_⟩
  · unfold val
    rw [if_neg (by omega), if_pos ht, ha]
    grind
  · unfold val
    rw [if_neg (by omega), if_neg (by omega), hb]
    grind
  · have e := hK (p - 1).toNat (by omega)
    rw [lin_sys k h _ (by omega), hg, show (((p - 1).toNat : Nat) : Int) + 1 = p by omega] at e
    have ev : val k.top x p = x (p - 1).toNat := by
      unfold val
      rw [if_pos ⟨p0, p1⟩]
    rw [ev]
    grind
theorem last_col {top : Nat} (h2 : 2 ≤ top) {A : Nat → Nat → Rat} (D : Diag (top - 1) (top - 1) A) (c : Nat) (hc : c < 3) : Ker (top - 1) (top + 2) A fun j => if j < top - 1 then A j (top - 1 + c) else if j = top - 1 + c then -1 else 0 := by
  intro i hi
  rw [diag_ker (by omega) D hi, if_pos hi, show top + 2 - (top - 1) = 3 by omega]
  rw [qs_one (k := c) hc fun j hj hne => by
    rw [if_neg (by omega), if_neg (by omega)]
    grind]
  rw [if_neg (by omega), if_pos rfl]
  grind
theorem values_of_eq (k : Walk) (h : WOk k) : ∃ y0 y1 y2 : Int → Rat, Sol k 1 0 0 y0 ∧ Sol k 0 1 0 y1 ∧ Sol k 0 0 1 y2 ∧ (∀ i, i < k.top - 1 → Sk 3584 (y0 ((i : Int) + 1)) ∧ Sk 3584 (y1 ((i : Int) + 1)) ∧ Sk 3584 (y2 ((i : Int) + 1))) ∧
    f_values_of [wkD k] = some (.list ((List.range (k.top - 1)).map fun i : Nat => tri (y0 ((i : Int) + 1)) (y1 ((i : Int) + 1)) (y2 ((i : Int) + 1)))) := by
  have h2 := h.t2
  have h10 := h.t10
  obtain ⟨A, u3, u4, u5, u6, u7, D, hK, hB, hE⟩ := elim_ok (n := k.top - 1) (w := k.top + 2) (A0 := sysR k) (by omega) (by omega) (by omega) (sys_reg k h) (sys_bits k h _ _) (.fz (wkD k)) .no .no .no .no .no .no
  have sol : ∀ (c : Nat) (hc : c < 3) (a b g : Rat), (a = if c = 0 then 1 else 0) → (b = if c = 1 then 1 else 0) → (g = if c = 2 then 1 else 0) → Sol k a b g (val k.top fun j => if j < k.top - 1 then A j (k.top - 1 + c) else if j = k.top - 1 + c then -1 else 0) := fun c hc a b g ha hb hg => by
    refine sol_of_ker k h a b g _ ?_ ?_ ?_ ((hK _).mp (last_col h2 D c hc))
    · rw [if_neg (by omega), ha]
      by_cases e : c = 0
      · rw [if_pos e, if_pos (by omega)]
      · rw [if_neg e, if_neg (by omega)]; grind
    · rw [if_neg (by omega), hb]
      by_cases e : c = 1
      · rw [if_pos e, if_pos (by omega)]
      · rw [if_neg e, if_neg (by omega)]; grind
    · rw [if_neg (by omega), hg]
      by_cases e : c = 2
      · rw [if_pos e, if_pos (by omega)]
      · rw [if_neg e, if_neg (by omega)]; grind
  have at_ : ∀ (c i : Nat), i < k.top - 1 → val k.top (fun j => if j < k.top - 1 then A j (k.top - 1 + c) else if j = k.top - 1 + c then -1 else 0) ((i : Int) + 1) = A i (k.top - 1 + c) := fun c i hi => by
    unfold val
    rw [if_pos (by omega), show ((i : Int) + 1 - 1).toNat = i by omega]
    exact if_pos hi
  refine ⟨_, _, _, sol 0 (by omega) 1 0 0 rfl rfl rfl, sol 1 (by omega) 0 1 0 rfl rfl rfl, sol 2 (by omega) 0 0 1 rfl rfl rfl, fun i hi => ?_, ?_⟩
  · rw [at_ 0 i hi, at_ 1 i hi, at_ 2 i hi]
    exact ⟨hB.sk (Nat.le_refl _) (Nat.le_refl _) hi (by omega), hB.sk (Nat.le_refl _) (Nat.le_refl _) hi (by omega), hB.sk (Nat.le_refl _) (Nat.le_refl _) hi (by omega)⟩
  · have hmap : ((List.range (k.top - 1)).map fun i : Nat => tri (val k.top (fun j => if j < k.top - 1 then A j (k.top - 1 + 0) else if j = k.top - 1 + 0 then -1 else 0) ((i : Int) + 1)) (val k.top (fun j => if j < k.top - 1 then A j (k.top - 1 + 1) else if j = k.top - 1 + 1 then -1 else 0) ((i : Int) + 1)) (val k.top (fun j => if j < k.top - 1 then A j (k.top - 1 + 2) else if j = k.top - 1 + 2 then -1 else 0) ((i : Int) + 1))) =
        (List.range (k.top - 1)).map fun i : Nat => tri (A i (k.top - 1 + 0)) (A i (k.top - 1 + 1)) (A i (k.top - 1 + 2)) := List.map_congr_left fun i hi => by
      have hi' := List.mem_range.mp hi
      rw [at_ 0 i hi', at_ 1 i hi', at_ 2 i hi']
    rw [hmap]
    unfold f_values_of D_values_of
    have hr := rows_of_eq k h
    refine run_seq (ρ' := [.fz (wkD k), .ow (.list (matD (k.top - 1) (k.top + 2) (sysR k))), .no, .no, .no, .no, .no, .no, .no, .no, .no]) (by simp [hr]) ?_
    rw [sSeq_nx (ρ' := [.fz (wkD k), .ow (.list (matD (k.top - 1) (k.top + 2) (sysR k))), .fz (.int ((k.top - 1 : Nat) : Int)), .no, .no, .no, .no, .no, .no, .no, .no]) (by
      simp only [sSet_s, d1_s, vB_s, List.getElem?_cons_zero, List.getElem?_cons_succ, Option.bind_some, lenD_l, mat_len, List.set_cons_zero, List.set_cons_succ])]
    unfold rdB clB at hE
    rw [sSeq_nx hE]
    have hlc : dLc (iSeq (vR 1)) (gN 8) bYes (mkT (lCons (d2 ixD (vR 8) (vR 2)) (lCons (d2 ixD (vR 8) (d2 addD (vR 2) (kD (.int 1)))) (lCons (d2 ixD (vR 8) (d2 addD (vR 2) (kD (.int 2)))) lNil)))) [8]
        [.fz (wkD k), .fz (.list (matD (k.top - 1) (k.top + 2) A)), .fz (.int ((k.top - 1 : Nat) : Int)), u3, u4, u5, u6, u7, .no, .no, .no] = some (.list ((List.range (k.top - 1)).map fun i : Nat => tri (A i (k.top - 1 + 0)) (A i (k.top - 1 + 1)) (A i (k.top - 1 + 2)))) := by
      refine dLc_of (ds := (List.range (k.top - 1)).map fun i => rowD (k.top + 2) (A i)) (by simp only [iSeq_s, vR_s, List.getElem?_cons_zero, List.getElem?_cons_succ, Option.bind_some]; rfl) ?_ (by simp; omega)
      have := lcL_if2 (fun i : Nat => rowD (k.top + 2) (A i)) (fun i : Nat => tri (A i (k.top - 1 + 0)) (A i (k.top - 1 + 1)) (A i (k.top - 1 + 2))) (fun _ => true) (fun c => c) (g := gN 8) (ft := bYes) (fe := mkT (lCons (d2 ixD (vR 8) (vR 2)) (lCons (d2 ixD (vR 8) (d2 addD (vR 2) (kD (.int 1)))) (lCons (d2 ixD (vR 8) (d2 addD (vR 2) (kD (.int 2)))) lNil))))
        (ρ := wipeE [.fz (wkD k), .fz (.list (matD (k.top - 1) (k.top + 2) A)), .fz (.int ((k.top - 1 : Nat) : Int)), u3, u4, u5, u6, u7, .no, .no, .no] [8]) (List.range (k.top - 1)) (fun i hi => by
          have r0 := row_at (w := k.top + 2) (r := A i) (j := k.top - 1 + 0) (by omega)
          have r1 := row_at (w := k.top + 2) (r := A i) (j := k.top - 1 + 1) (by omega)
          have r2 := row_at (w := k.top + 2) (r := A i) (j := k.top - 1 + 2) (by omega)
          have r0' : ixD (rowD (k.top + 2) (A i)) (.int ((k.top - 1 : Nat) : Int)) = some (frD (A i (k.top - 1 + 0))) := r0
          rw [Int.natCast_add] at r1 r2
          refine ⟨_, rfl, rfl, fun _ => ?_⟩
          simp only [wipeE, mkT_s, lCons_s, lNil_s, d2_s, vR_s, kD_s, List.set_cons_zero, List.set_cons_succ, List.getElem?_cons_zero, List.getElem?_cons_succ, Option.bind_some, addD_i, r0']
          rw [show ((k.top - 1 : Nat) : Int) + 1 = ((k.top - 1 : Nat) : Int) + ((1 : Nat) : Int) from rfl, show ((k.top - 1 : Nat) : Int) + 2 = ((k.top - 1 : Nat) : Int) + ((2 : Nat) : Int) from rfl, r1, r2]
          rfl)
      rw [this, List.filter_eq_self.mpr (fun _ _ => rfl), List.map_id']
    simp only [sFrz_s, frz_s, List.getElem?_cons_zero, List.getElem?_cons_succ, List.set_cons_zero, List.set_cons_succ, sRet_s, hlc, Option.bind_some]
end Zx.k76
/-! V14: what the solutions obey: turned about, wide, a greater chance. -/
namespace Zx.k76
open PySem PySem.Spec L2 Zx
theorem den_le {a : Int} {d : Nat} (h : 0 < d) : ((a : Rat) / ((d : Int) : Rat)).den ≤ d := by
  have e : (a : Rat) / ((d : Int) : Rat) = mkRat a d := by rw [Rat.mkRat_eq_div]; rfl
  rw [e, Rat.den_mkRat, if_neg (by omega)]
  exact Nat.div_le_self _ _
theorem c_form (c : Rat) : c = (c.num : Rat) / ((c.den : Int) : Rat) := by
  rw [← Rat.divInt_eq_div]
  exact (Rat.num_divInt_den c).symm
theorem den_nz' (c : Rat) : ((c.den : Int) : Rat) ≠ 0 := fun z => c.den_nz (by have := Rat.intCast_eq_zero_iff.mp z; omega)
theorem den_turn (c : Rat) : (1 - c).den ≤ c.den := by
  have e : 1 - c = ((c.den - c.num : Int) : Rat) / ((c.den : Int) : Rat) := by
    have h1 := c_form c
    have h2 := den_nz' c
    rw [Rat.intCast_sub]
    generalize ((c.num : Int) : Rat) = a at *
    generalize ((c.den : Int) : Rat) = b at *
    rw [h1]
    grind
  rw [e]
  exact den_le c.den_pos
theorem den_more (c : Rat) : ((c + 1) / 2).den ≤ 2 * c.den := by
  have e : (c + 1) / 2 = ((c.num + c.den : Int) : Rat) / (((2 * c.den : Nat) : Int) : Rat) := by
    have h1 := c_form c
    have h2 := den_nz' c
    rw [Rat.intCast_add, Int.natCast_mul, Rat.intCast_mul]
    generalize ((c.num : Int) : Rat) = a at *
    generalize ((c.den : Int) : Rat) = b at *
    have h3 : (((2 : Nat) : Int) : Rat) = 2 := rfl
    rw [h3, h1]
    grind
  rw [e]
  have := c.den_pos
  exact den_le (by omega)
def turnW (k : Walk) : Walk := ⟨k.top, k.top - k.start, k.down, k.up, 1 - k.c⟩
theorem turn_ok (k : Walk) (h : WOk k) : WOk (turnW k) := by
  have s1 := h.s1
  have st := h.st
  have c0 := h.c0
  have c1 := h.c1
  refine ⟨h.t2, h.t10, ?_, ?_, h.d1, h.d6, h.u1, h.u6, ?_, ?_, Nat.le_trans (den_turn k.c) h.cd⟩
  · show 1 ≤ k.top - k.start
    omega
  · show k.top - k.start < k.top
    omega
  · show 0 ≤ 1 - k.c
    grind
  · show 1 - k.c ≤ 1
    grind
theorem turn_sol {k : Walk} {a b g : Rat} {y : Int → Rat} (hy : Sol k a b g y) : Sol (turnW k) b a g fun t => y ((k.top : Int) - t) := by
  refine ⟨fun t ht => hy.hi _ (by omega), fun t ht => hy.lo _ (by have : (k.top : Int) ≤ t := ht; omega), fun p p0 p1 => ?_⟩
  have p1' : p < (k.top : Int) := p1
  have e := hy.eq ((k.top : Int) - p) (by omega) (by omega)
  show y ((k.top : Int) - p) = g + (1 - k.c) * y ((k.top : Int) - (p + (k.down : Nat))) + (1 - (1 - k.c)) * y ((k.top : Int) - (p - (k.up : Nat)))
  rw [show (k.top : Int) - (p + (k.down : Nat)) = (k.top : Int) - p - (k.down : Nat) by omega, show (k.top : Int) - (p - (k.up : Nat)) = (k.top : Int) - p + (k.up : Nat) by omega, e]
  grind
def wideW (by_ : Nat) (k : Walk) : Walk := ⟨by_ * k.top, by_ * k.start, by_ * k.up, by_ * k.down, k.c⟩
theorem wide_ok (m : Nat) (k : Walk) (h : WOk k) (hm : 1 ≤ m) (h1 : m * k.top ≤ 10) (h2 : m * k.up ≤ 6) (h3 : m * k.down ≤ 6) : WOk (wideW m k) := by
  have mono : ∀ {a b : Nat}, a ≤ b → a ≤ m * b := fun {a b} hab => Nat.le_trans hab (Nat.le_mul_of_pos_left _ hm)
  exact ⟨mono h.t2, h1, mono h.s1, Nat.mul_lt_mul_of_pos_left h.st hm, mono h.u1, h2, mono h.d1, h3, h.c0, h.c1, h.cd⟩
theorem wide_sol {m : Nat} {k : Walk} {a b g : Rat} {z : Int → Rat} (hm : 1 ≤ m) (hz : Sol (wideW m k) a b g z) : Sol k a b g fun t => z ((m : Int) * t) := by
  have et : ((wideW m k).top : Int) = (m : Int) * (k.top : Int) := by
    show ((m * k.top : Nat) : Int) = _
    rw [Int.natCast_mul]
  have eu : ((wideW m k).up : Int) = (m : Int) * (k.up : Int) := by
    show ((m * k.up : Nat) : Int) = _
    rw [Int.natCast_mul]
  have ed : ((wideW m k).down : Int) = (m : Int) * (k.down : Int) := by
    show ((m * k.down : Nat) : Int) = _
    rw [Int.natCast_mul]
  have mp : (0 : Int) < m := by omega
  refine ⟨fun t ht => hz.lo _ ?_, fun t ht => hz.hi _ ?_, fun p p0 p1 => ?_⟩
  · exact Int.mul_nonpos_of_nonneg_of_nonpos (by omega) ht
  · rw [et]
    exact Int.mul_le_mul_of_nonneg_left ht (by omega)
  · have e := hz.eq ((m : Int) * p) (Int.mul_pos mp p0) (by rw [et]; exact Int.mul_lt_mul_of_pos_left p1 mp)
    show z ((m : Int) * p) = g + k.c * z ((m : Int) * (p + (k.up : Nat))) + (1 - k.c) * z ((m : Int) * (p - (k.down : Nat)))
    rw [Int.mul_add, Int.mul_sub, ← eu, ← ed]
    exact e
theorem sol_01 {k : Walk} (h : WOk k) {y : Int → Rat} (hy : Sol k 1 0 0 y) : ∀ t, 0 ≤ y t ∧ y t ≤ 1 := by
  intro t
  have h1 := min_pr k h y (fun t ht => by
    rcases ht with ht | ht
    · rw [hy.lo t ht]; decide
    · rw [hy.hi t ht]; decide) (fun p p0 p1 => by rw [hy.eq p p0 p1]; grind) t
  have h2 := min_pr k h (fun t => 1 - y t) (fun t ht => by
    rcases ht with ht | ht
    · rw [hy.lo t ht]; grind
    · rw [hy.hi t ht]; grind) (fun p p0 p1 => by rw [hy.eq p p0 p1]; grind) t
  grind
theorem sol_falls {k : Walk} (h : WOk k) {y : Int → Rat} (hy : Sol k 1 0 0 y) : ∀ t, y (t + 1) ≤ y t := by
  have h2 := h.t2
  have b := sol_01 h hy
  by_cases h3 : k.top = 2
  · intro t
    by_cases ht : t ≤ 0
    · rw [hy.lo t ht]
      exact (b _).2
    · rw [hy.hi (t + 1) (by omega)]
      exact (b _).1
  · have hw : WOk ⟨k.top - 1, 1, k.up, k.down, k.c⟩ := ⟨by show 2 ≤ k.top - 1; omega, by have := h.t10; show k.top - 1 ≤ 10; omega, Nat.le_refl 1, by show 1 < k.top - 1; omega, h.u1, h.u6, h.d1, h.d6, h.c0, h.c1, h.cd⟩
    have := min_pr _ hw (fun t => y t - y (t + 1)) (fun t ht => by
      have ht' : t ≤ 0 ∨ ((k.top - 1 : Nat) : Int) ≤ t := ht
      rcases ht' with ht | ht
      · rw [hy.lo t ht]
        have := (b (t + 1)).2
        grind
      · rw [hy.hi (t + 1) (by omega)]
        have := (b t).1
        grind) (fun p p0 p1 => by
      have p1' : p < ((k.top - 1 : Nat) : Int) := p1
      show k.c * (y (p + (k.up : Nat)) - y (p + (k.up : Nat) + 1)) + (1 - k.c) * (y (p - (k.down : Nat)) - y (p - (k.down : Nat) + 1)) ≤ y p - y (p + 1)
      rw [hy.eq p p0 (by omega), hy.eq (p + 1) (by omega) (by omega), show p + 1 + (k.up : Nat) = p + (k.up : Nat) + 1 by omega, show p + 1 - (k.down : Nat) = p - (k.down : Nat) + 1 by omega]
      grind)
    intro t
    have := this t
    grind
theorem sol_mono {k : Walk} (h : WOk k) {y : Int → Rat} (hy : Sol k 1 0 0 y) (t : Int) : ∀ n : Nat, y (t + n) ≤ y t
  | 0 => by rw [show t + ((0 : Nat) : Int) = t by omega]; exact Rat.le_refl
  | n + 1 => by
    have h1 := sol_mono h hy t n
    have h2 := sol_falls h hy (t + n)
    rw [show t + ((n + 1 : Nat) : Int) = t + (n : Int) + 1 by omega]
    grind
def moreW (c' : Rat) (k : Walk) : Walk := ⟨k.top, k.start, k.up, k.down, c'⟩
theorem more_le {k : Walk} {c' : Rat} (h : WOk k) (h' : WOk (moreW c' k)) (hc : k.c ≤ c') {y z : Int → Rat} (hy : Sol k 1 0 0 y) (hz : Sol (moreW c' k) 1 0 0 z) : ∀ t, z t ≤ y t := by
  intro t
  have := min_pr _ h' (fun t => y t - z t) (fun t ht => by
    rcases ht with ht | ht
    · rw [hy.lo t ht, hz.lo t ht]; grind
    · rw [hy.hi t ht, hz.hi t ht]; grind) (fun p p0 p1 => by
    show c' * (y (p + (k.up : Nat)) - z (p + (k.up : Nat))) + (1 - c') * (y (p - (k.down : Nat)) - z (p - (k.down : Nat))) ≤ y p - z p
    have e := hz.eq p p0 p1
    have e' : z p = 0 + c' * z (p + (k.up : Nat)) + (1 - c') * z (p - (k.down : Nat)) := e
    rw [hy.eq p p0 p1, e']
    have m := sol_mono h hy (p - (k.down : Nat)) (k.down + k.up)
    rw [show p - (k.down : Nat) + ((k.down + k.up : Nat) : Int) = p + (k.up : Nat) by omega] at m
    have := mul_le' (c := c' - k.c) (by grind) m
    grind) t
  grind
theorem sol_one {k : Walk} (h : WOk k) {y z : Int → Rat} (hy : Sol k 1 0 0 y) (hz : Sol k 0 1 0 z) (t : Int) : y t + z t = 1 := by
  refine sol_uniq (y := fun t => y t + z t) (z := fun _ => 1) h (a := 1) (b := 1) (g := 0) ⟨fun t ht => ?_, fun t ht => ?_, fun p p0 p1 => ?_⟩ ⟨fun _ _ => rfl, fun _ _ => rfl, fun p p0 p1 => ?_⟩ t
  · rw [hy.lo t ht, hz.lo t ht]; grind
  · rw [hy.hi t ht, hz.hi t ht]; grind
  · rw [hy.eq p p0 p1, hz.eq p p0 p1]
    grind
  · grind
end Zx.k76
/-! V15: one contribution in a course. -/
namespace Zx.k76
open PySem PySem.Spec L2 Zx
def cls (top : Nat) (x : Int) : Int := if x ≤ 0 then 0 else if (top : Int) ≤ x then top else x
def addW (top : Nat) (W : Int → Rat) (x : Int) (v : Rat) : Int → Rat := fun t => if t = cls top x then W t + v else W t
structure Rep (top : Nat) (W : Int → Rat) (l : List (Int × Rat)) : Prop where
  nd : NDk l
  keys : ∀ p ∈ l, 0 < p.1 ∧ p.1 < (top : Int)
  val : ∀ p : Int, 0 < p → p < top → (getE l p).getD 0 = W p
theorem getE_put {β : Type} (l : List (Int × β)) (k : Int) (v : β) (j : Int) : getE (putE l k v) j = if j = k then some v else getE l j := by
  unfold putE getE
  split
  · rename_i h
    induction l with
    | nil => simp at h
    | cons p l ih =>
      rw [List.map_cons, List.find?_cons, List.find?_cons]
      by_cases hp : p.1 = k
      · subst hp
        by_cases hj : j = p.1
        · subst hj
          simp
        · have e : (p.1 == j) = false := by simpa using fun z => hj z.symm
          simp only [beq_self_eq_true, if_true, e, if_neg hj]
          by_cases ha : (l.any fun q => q.1 == p.1) = true
          · have := ih ha
            rw [if_neg hj] at this
            exact this
          · have : l.map (fun q => if q.1 == p.1 then (q.1, v) else q) = l := by
              refine (List.map_congr_left fun q hq => ?_).trans (List.map_id' l)
              have : ¬ (q.1 == p.1) = true := fun z => ha (List.any_eq_true.mpr ⟨q, hq, z⟩)
              simp only [this]
              rfl
            rw [this]
      · have hk : (p.1 == k) = false := by simpa using hp
        have ha : (l.any fun q => q.1 == k) = true := by
          rw [List.any_cons, hk] at h
          simpa using h
        simp only [hk, Bool.false_eq_true, if_false]
        by_cases hj : p.1 = j
        · subst hj
          simp [hp]
        · have e : (p.1 == j) = false := by simpa using hj
          simp only [e]
          exact ih ha
  · rename_i h
    rw [List.find?_append]
    by_cases hj : j = k
    · subst hj
      have : l.find? (fun p => p.1 == j) = none := by
        rw [List.find?_eq_none]
        intro q hq z
        exact h (List.any_eq_true.mpr ⟨q, hq, z⟩)
      rw [this]
      simp
    · have e : (k == j) = false := by simpa using fun z => hj z.symm
      rw [if_neg hj]
      cases hf : l.find? (fun p => p.1 == j) with
      | none => simp [e]
      | some q => simp
theorem Rep.put {top : Nat} {W : Int → Rat} {l : List (Int × Rat)} (h : Rep top W l) {x : Int} {v : Rat} (x0 : 0 < x) (x1 : x < top) : Rep top (addW top W x v) (putE l x ((getE l x).getD 0 + v)) := by
  have hc : cls top x = x := by
    unfold cls
    rw [if_neg (by omega), if_neg (by omega)]
  refine ⟨putE_nd l x _ h.nd, fun p hp => ?_, fun p p0 p1 => ?_⟩
  · rcases putE_keys l x _ p hp with e | ⟨q, h1, h2⟩
    · rw [e]; exact ⟨x0, x1⟩
    · rw [← h2]; exact h.keys q h1
  · rw [getE_put]
    unfold addW
    rw [hc]
    by_cases e : p = x
    · rw [if_pos e, if_pos e, e, ← h.val x x0 x1]
      rfl
    · rw [if_neg e, if_neg e, h.val p p0 p1]
theorem Rep.out {top : Nat} {W : Int → Rat} {l : List (Int × Rat)} (h : Rep top W l) {x : Int} {v : Rat} (hx : x ≤ 0 ∨ (top : Int) ≤ x) : Rep top (addW top W x v) l := by
  refine ⟨h.nd, h.keys, fun p p0 p1 => ?_⟩
  rw [h.val p p0 p1]
  unfold addW cls
  rw [if_neg]
  split
  · omega
  · rw [if_pos (by omega)]; omega
noncomputable abbrev conB : DenS := (sIf (bCh ltI ltI (kD (.int 0)) (vR 9) (d2 ixD (vR 0) (kD (.int 0)))) (sStD 5 (vR 9) (dCall (lCons (d3 dgetD3 (vB 5) (vR 9) (mkT (lCons (kD (.int 0)) (lCons (kD (.int 1)) lNil)))) (lCons (dCall (lCons (vR 8) (lCons (vR 10) lNil)) f_times) lNil)) f_plus)) (sSeq (sSet 11 (d1 intD (bV (b2 gtI (vR 9) (kD (.int 0))))))
      (sStL 6 (vR 11) (dCall (lCons (d2 ixD (vB 6) (vR 11)) (lCons (dCall (lCons (vR 8) (lCons (vR 10) lNil)) f_times) lNil)) f_plus))))
theorem zero_fr : PyData.tuple [.int 0, .int 1] = frD 0 := rfl
theorem con_ok (k : Walk) (h : WOk k) (W : Int → Rat) (now : List (Int × Rat)) (r : Rep k.top W now) (hl : now.length < 1000000) (x : Int) (q s : Rat) (hq : Sq q) (hs : Sq s) (hv : Sq (q * s)) (hW : ∀ t, Sq (W t)) (S1 S2 S3 s4 s7 s11 : Slot) :
    ∃ now' s11', Rep k.top (addW k.top W x (q * s)) now' ∧ now'.length ≤ now.length + 1 ∧ conB [.fz (wkD k), S1, S2, S3, s4, .ow (adE frD now), .ow (.list [frD (W 0), frD (W k.top)]), s7, .fz (frD q), .fz (.int x), .fz (frD s), s11] =
      some (.nx [.fz (wkD k), S1, S2, S3, s4, .ow (adE frD now'), .ow (.list [frD (addW k.top W x (q * s) 0), frD (addW k.top W x (q * s) k.top)]), s7, .fz (frD q), .fz (.int x), .fz (frD s), s11']) := by
  have h2 := h.t2
  have t1 := times_eq q s hq hs
  have ix0 : ixD (wkD k) (.int 0) = some (.int (k.top : Nat)) := by simp [wkD]
  by_cases hx : 0 < x ∧ x < (k.top : Int)
  · obtain ⟨x0, x1⟩ := hx
    have hval := r.val x x0 x1
    have p1 := plus_eq (W x) (q * s) (hW x) hv
    have hc : cls k.top x = x := by
      unfold cls
      rw [if_neg (by omega), if_neg (by omega)]
    have a0 : addW k.top W x (q * s) 0 = W 0 := by
      unfold addW
      rw [hc, if_neg (by omega)]
    have a1 : addW k.top W x (q * s) k.top = W k.top := by
      unfold addW
      rw [hc, if_neg (by omega)]
    refine ⟨putE now x ((getE now x).getD 0 + q * s), s11, r.put x0 x1, putE_len _ _ _, ?_⟩
    have hg : dgetD3 (adE frD now) (.int x) (frD 0) = some (frD (W x)) := by
      rw [dget3E, ← hval]
      cases getE now x <;> rfl
    rw [a0, a1, hval]
    unfold conB
    rw [sIf_t (by simp only [bCh_s, kD_s, vR_s, d2_s, ix0, ltI_s, List.getElem?_cons_zero, List.getElem?_cons_succ, Option.bind_some]; simp [x0, x1])]
    simp only [sStD_s, dCall_s, lCons_s, lNil_s, d3_s, vB_s, vR_s, kD_s, mkT_s, List.length_cons, List.length_nil, Nat.zero_add, Nat.reduceAdd, Nat.reduceLeDiff, if_true, zero_fr, hg, e_times, e_plus, t1, p1, List.getElem?_cons_zero, List.getElem?_cons_succ, Option.bind_some]
    have ho : owD [.fz (wkD k), S1, S2, S3, s4, .ow (adE frD now), .ow (.list [frD (W 0), frD (W k.top)]), s7, .fz (frD q), .fz (.int x), .fz (frD s), s11] 5 = some (kdE frD now) := rfl
    rw [ho, Option.bind_some, putDE frD now x _ hl, Option.bind_some]
    rfl
  · have hx' : x ≤ 0 ∨ (k.top : Int) ≤ x := by omega
    by_cases hn : x ≤ 0
    · have hc : cls k.top x = 0 := by
        unfold cls
        rw [if_pos hn]
      have p1 := plus_eq (W 0) (q * s) (hW 0) hv
      have a0 : addW k.top W x (q * s) 0 = W 0 + q * s := by
        unfold addW
        rw [hc, if_pos rfl]
      have a1 : addW k.top W x (q * s) k.top = W k.top := by
        unfold addW
        rw [hc, if_neg (by omega)]
      refine ⟨now, .fz (.int 0), r.out hx', by omega, ?_⟩
      have hg : ¬ (0 : Int) < x := by omega
      rw [a0, a1]
      unfold conB
      rw [sIf_f (by simp only [bCh_s, kD_s, vR_s, d2_s, ix0, ltI_s, List.getElem?_cons_zero, List.getElem?_cons_succ, Option.bind_some]; simp [hg])]
      rw [sSeq_nx (ρ' := [.fz (wkD k), S1, S2, S3, s4, .ow (adE frD now), .ow (.list [frD (W 0), frD (W k.top)]), s7, .fz (frD q), .fz (.int x), .fz (frD s), .fz (.int 0)]) (by simp [hg])]
      simp [e_times, e_plus, t1, p1, ixN]
    · have hc : cls k.top x = k.top := by
        unfold cls
        rw [if_neg hn, if_pos (by omega)]
      have p1 := plus_eq (W k.top) (q * s) (hW k.top) hv
      have a0 : addW k.top W x (q * s) 0 = W 0 := by
        unfold addW
        rw [hc, if_neg (by omega)]
      have a1 : addW k.top W x (q * s) k.top = W k.top + q * s := by
        unfold addW
        rw [hc, if_pos rfl]
      refine ⟨now, .fz (.int 1), r.out hx', by omega, ?_⟩
      have hg : (0 : Int) < x := by omega
      have hg2 : ¬ x < (k.top : Int) := by omega
      rw [a0, a1]
      unfold conB
      rw [sIf_f (by simp only [bCh_s, kD_s, vR_s, d2_s, ix0, ltI_s, List.getElem?_cons_zero, List.getElem?_cons_succ, Option.bind_some]; simp [hg, hg2])]
      rw [sSeq_nx (ρ' := [.fz (wkD k), S1, S2, S3, s4, .ow (adE frD now), .ow (.list [frD (W 0), frD (W k.top)]), s7, .fz (frD q), .fz (.int x), .fz (frD s), .fz (.int 1)]) (by simp [hg])]
      simp [e_times, e_plus, t1, p1, ixN]
end Zx.k76
/-! V16: a round of a course. -/
namespace Zx.k76
open PySem PySem.Spec L2 Zx
/-! ### sums over the entries -/
def sumR (G : Int → Rat) (l : List (Int × Rat)) : Rat := (l.map fun p => p.2 * G p.1).sum
theorem sumR_cons (G : Int → Rat) (p : Int × Rat) (l : List (Int × Rat)) : sumR G (p :: l) = p.2 * G p.1 + sumR G l := by simp [sumR]
theorem sumR_append (G : Int → Rat) : ∀ (l m : List (Int × Rat)), sumR G (l ++ m) = sumR G l + sumR G m
  | [], m => by
    have : sumR G [] = 0 := rfl
    rw [List.nil_append, this]
    grind
  | p :: l, m => by
    rw [List.cons_append, sumR_cons, sumR_cons, sumR_append G l m]
    grind
theorem sumR_perm (G : Int → Rat) {l m : List (Int × Rat)} (h : l.Perm m) : sumR G l = sumR G m := by
  induction h with
  | nil => rfl
  | cons p _ ih => rw [sumR_cons, sumR_cons, ih]
  | swap p q l =>
    rw [sumR_cons, sumR_cons, sumR_cons, sumR_cons]
    grind
  | trans _ _ h1 h2 => rw [h1, h2]
theorem getE_none {l : List (Int × Rat)} {k : Int} (h : ∀ p ∈ l, p.1 ≠ k) : getE l k = none := by
  unfold getE
  have : l.find? (fun p => p.1 == k) = none := by
    rw [List.find?_eq_none]
    intro q hq z
    exact h q hq (by simpa using z)
  rw [this]
  rfl
theorem getE_cons (p : Int × Rat) (l : List (Int × Rat)) (k : Int) : getE (p :: l) k = if p.1 = k then some p.2 else getE l k := by
  unfold getE
  rw [List.find?_cons]
  by_cases h : p.1 = k
  · subst h; simp
  · have e : (p.1 == k) = false := by simpa using h
    rw [e, if_neg h]
theorem sumR_qs (top : Nat) (G : Int → Rat) : ∀ (l : List (Int × Rat)), NDk l → (∀ p ∈ l, 0 < p.1 ∧ p.1 < (top : Int)) → sumR G l = qs (top + 1) fun i => (getE l (i : Int)).getD 0 * G i
  | [], _, _ => (qs_zero fun i _ => by
    show (0 : Rat) * G i = 0
    grind).symm
  | p :: l, nd, hk => by
    unfold NDk at nd
    rw [List.map_cons, List.nodup_cons] at nd
    obtain ⟨h0, h1⟩ := hk p List.mem_cons_self
    have ih := sumR_qs top G l nd.2 fun q hq => hk q (List.mem_cons_of_mem _ hq)
    have hn : getE l p.1 = none := getE_none fun q hq z => nd.1 (z ▸ List.mem_map_of_mem hq)
    have e : (fun i : Nat => (getE (p :: l) (i : Int)).getD 0 * G i) = fun i : Nat => (getE l (i : Int)).getD 0 * G i + (if i = p.1.toNat then p.2 * G p.1 else 0) := by
      funext i
      rw [getE_cons]
      by_cases hi : i = p.1.toNat
      · have hi' : p.1 = (i : Int) := by omega
        rw [if_pos hi', if_pos hi, ← hi', hn]
        show p.2 * G p.1 = 0 * G p.1 + p.2 * G p.1
        grind
      · rw [if_neg (by omega), if_neg hi]
        grind
    rw [e, qs_add, ← ih, qs_one (k := p.1.toNat) (by omega) (fun i _ hne => by rw [if_neg hne]), if_pos rfl, sumR_cons]
    grind
/-! ### the shares handed on -/
def gk (k : Walk) (t i : Int) : Rat := (if t = cls k.top (i + (k.up : Nat)) then k.c else 0) + (if t = cls k.top (i - (k.down : Nat)) then 1 - k.c else 0)
def ins (top : Nat) (W : Int → Rat) (i : Int) : Rat := if 0 < i ∧ i < (top : Int) then W i else 0
def nextW (k : Walk) (W : Int → Rat) : Int → Rat := fun t => qs (k.top + 1) fun i => ins k.top W (i : Int) * gk k t i
def stepW (k : Walk) (W : Int → Rat) (p : Int × Rat) : Int → Rat := addW k.top (addW k.top W (p.1 + (k.up : Nat)) (p.2 * k.c)) (p.1 - (k.down : Nat)) (p.2 * (1 - k.c))
theorem stepW_eq (k : Walk) (W : Int → Rat) (p : Int × Rat) (t : Int) : stepW k W p t = W t + p.2 * gk k t p.1 := by
  unfold stepW addW gk
  split <;> split <;> grind
theorem fold_eq (k : Walk) (t : Int) : ∀ (l : List (Int × Rat)) (W : Int → Rat), l.foldl (stepW k) W t = W t + sumR (gk k t) l
  | [], W => by
    have : sumR (gk k t) [] = 0 := rfl
    rw [List.foldl_nil, this]
    grind
  | p :: l, W => by
    rw [List.foldl_cons, fold_eq k t l, stepW_eq, sumR_cons]
    grind
theorem rep_next {k : Walk} {W : Int → Rat} {l l' : List (Int × Rat)} (r : Rep k.top W l) (hp : l'.Perm l) (t : Int) : l'.foldl (stepW k) (fun _ => 0) t = nextW k W t := by
  rw [fold_eq, sumR_perm _ hp, sumR_qs k.top _ l r.nd r.keys]
  have e : ∀ i, i < k.top + 1 → (getE l (i : Int)).getD 0 * gk k t i = ins k.top W (i : Int) * gk k t i := fun i hi => by
    congr 1
    unfold ins
    by_cases h : 0 < (i : Int) ∧ (i : Int) < k.top
    · rw [if_pos h, r.val _ h.1 h.2]
    · rw [if_neg h, getE_none fun p hp z => h (by have := r.keys p hp; rw [z] at this; exact this)]
      rfl
  unfold nextW
  rw [qs_congr e]
  grind
/-! ### sizes -/
def Fr (d : Int) (B : Nat) (q : Rat) : Prop := ∃ N : Int, N.natAbs ≤ B ∧ q = (N : Rat) / (d : Rat)
theorem Fr.le {d : Int} {B C : Nat} {q : Rat} (h : Fr d B q) (hb : B ≤ C) : Fr d C q := by
  obtain ⟨N, h1, h2⟩ := h
  exact ⟨N, Nat.le_trans h1 hb, h2⟩
theorem Fr.add {d : Int} {B C : Nat} {p q : Rat} (hp : Fr d B p) (hq : Fr d C q) : Fr d (B + C) (p + q) := by
  obtain ⟨N, h1, h2⟩ := hp
  obtain ⟨M, h3, h4⟩ := hq
  refine ⟨N + M, by omega, ?_⟩
  rw [h2, h4, Rat.intCast_add]
  grind
theorem Fr.mul {d e : Int} {B C : Nat} {p q : Rat} (hp : Fr d B p) (hq : Fr e C q) (hd : d ≠ 0) (he : e ≠ 0) : Fr (d * e) (B * C) (p * q) := by
  obtain ⟨N, h1, h2⟩ := hp
  obtain ⟨M, h3, h4⟩ := hq
  refine ⟨N * M, by rw [Int.natAbs_mul]; exact Nat.mul_le_mul h1 h3, ?_⟩
  have n1 := int_nz hd
  have n2 := int_nz he
  rw [h2, h4, Rat.intCast_mul, Rat.intCast_mul]
  grind
theorem Fr.zero (d : Int) (B : Nat) : Fr d B 0 := ⟨0, by simp, by
  have : ((0 : Int) : Rat) = 0 := rfl
  rw [this]
  grind⟩
theorem Fr.sq {d : Int} {B : Nat} {q : Rat} (h : Fr d B q) (hd : d ≠ 0) (h1 : d.natAbs < 2 ^ 4000) (h2 : B < 2 ^ 4000) : Sq q := by
  obtain ⟨N, h3, h4⟩ := h
  rw [h4]
  exact (Sk_div' (Nat.lt_of_le_of_lt h3 h2) h1 hd).sq (Nat.le_refl _)
theorem addW_fr {top : Nat} {W : Int → Rat} {d : Int} {B C : Nat} (h : ∀ t, Fr d B (W t)) {v : Rat} (hv : Fr d C v) (x : Int) : ∀ t, Fr d (B + C) (addW top W x v t) := fun t => by
  unfold addW
  split
  · exact (h t).add hv
  · exact (h t).le (by omega)
theorem forL_two {g : DenG} {fb : DenS} {a b : D} {ρ ρ1 ρ2 ρ3 ρ4 : Env} (h1 : g a ρ = some ρ1) (h2 : fb ρ1 = some (.nx ρ2)) (h3 : g b ρ2 = some ρ3) (h4 : fb ρ3 = some (.nx ρ4)) : forL g fb [a, b] ρ = some (.nx ρ4) := by
  simp only [forL, h1, h2, h3, h4, Option.bind_some]
noncomputable abbrev itemB : DenS := sFor (iSeq (dCall (lCons (vR 0) (lCons (vR 7) lNil)) f_behind)) (gT (gsCons (gN 9) (gsCons (gN 10) gsNil)) 2) conB
theorem item_ok (k : Walk) (h : WOk k) (d : Int) (B C : Nat) (hd : d ≠ 0) (hdl : d.natAbs < 2 ^ 4000) (hB : B + C + C < 2 ^ 4000) (W : Int → Rat) (now : List (Int × Rat)) (r : Rep k.top W now) (hl : now.length + 1 < 1000000) (p : Int) (q : Rat) (hq : Sq q) (hv1 : Fr d C (q * k.c)) (hv2 : Fr d C (q * (1 - k.c))) (hW : ∀ t, Fr d B (W t)) (S1 S2 S3 s4 s9 s10 s11 : Slot) :
    ∃ now' s9' s10' s11', Rep k.top (stepW k W (p, q)) now' ∧ now'.length ≤ now.length + 2 ∧ (∀ t, Fr d (B + C + C) (stepW k W (p, q) t)) ∧ itemB [.fz (wkD k), S1, S2, S3, s4, .ow (adE frD now), .ow (.list [frD (W 0), frD (W k.top)]), .fz (.int p), .fz (frD q), s9, s10, s11] =
      some (.nx [.fz (wkD k), S1, S2, S3, s4, .ow (adE frD now'), .ow (.list [frD (stepW k W (p, q) 0), frD (stepW k W (p, q) k.top)]), .fz (.int p), .fz (frD q), s9', s10', s11']) := by
  have hc := c_sk k h
  have sqv : ∀ {v : Rat}, Fr d C v → Sq v := fun hv => hv.sq hd hdl (by omega)
  have w1 := addW_fr (top := k.top) hW hv1 (p + (k.up : Nat))
  have w2 := addW_fr (top := k.top) w1 hv2 (p - (k.down : Nat))
  obtain ⟨n1, t1, r1, l1, c1⟩ := con_ok k h W now r (by omega) (p + (k.up : Nat)) q k.c hq (hc.1.sq (by decide)) (sqv hv1) (fun t => (hW t).sq hd hdl (by omega)) S1 S2 S3 s4 (.fz (.int p)) s11
  obtain ⟨n2, t2, r2, l2, c2⟩ := con_ok k h _ n1 r1 (by omega) (p - (k.down : Nat)) q (1 - k.c) hq (hc.2.sq (by decide)) (sqv hv2) (fun t => (w1 t).sq hd hdl (by omega)) S1 S2 S3 s4 (.fz (.int p)) t1
  refine ⟨n2, .fz (.int (p - (k.down : Nat))), .fz (frD (1 - k.c)), t2, r2, by omega, w2, ?_⟩
  have hb := behind_eq k h p
  unfold itemB
  unfold sFor
  have hi : iSeq (dCall (lCons (vR 0) (lCons (vR 7) lNil)) f_behind) [.fz (wkD k), S1, S2, S3, s4, .ow (adE frD now), .ow (.list [frD (W 0), frD (W k.top)]), .fz (.int p), .fz (frD q), s9, s10, s11] = some [.tuple [.int (p + (k.up : Nat)), frD k.c], .tuple [.int (p - (k.down : Nat)), frD (1 - k.c)]] := by
    simp only [iSeq_s, dCall_s, lCons_s, lNil_s, vR_s, List.getElem?_cons_zero, List.getElem?_cons_succ, Option.bind_some, hb]
    rfl
  rw [hi, Option.bind_some]
  exact forL_two (ρ1 := [.fz (wkD k), S1, S2, S3, s4, .ow (adE frD now), .ow (.list [frD (W 0), frD (W k.top)]), .fz (.int p), .fz (frD q), .fz (.int (p + (k.up : Nat))), .fz (frD k.c), s11]) (by simp) c1 (by simp) c2
end Zx.k76
/-! V17: a course. -/
namespace Zx.k76
open PySem PySem.Spec L2 Zx
abbrev itE (p : Int × Rat) : D := .tuple [.int p.1, frD p.2]
theorem sortE (l : List (Int × Rat)) (h : l.length ≤ 1000000) : ∃ l' : List (Int × Rat), l'.Perm l ∧ sortItD (adE frD l) = some (.list (l'.map itE)) := by
  refine ⟨l.mergeSort fun a b => leS (itE a) (itE b), List.mergeSort_perm _ _, ?_⟩
  have hs : srtOk (l.map itE) = true := by
    unfold srtOk
    have h1 : ((l.map itE).all fun x => (l.map itE).all fun y => PySem.W.alike x y) = true := by
      rw [List.all_eq_true]
      intro x hx
      rw [List.all_eq_true]
      intro y hy
      obtain ⟨p, _, rfl⟩ := List.mem_map.mp hx
      obtain ⟨q, _, rfl⟩ := List.mem_map.mp hy
      rfl
    have h2 : (l.map itE).all isTup1 = true := by
      rw [List.all_eq_true]
      intro x hx
      obtain ⟨p, _, rfl⟩ := List.mem_map.mp hx
      rfl
    have h3 : (l.map itE).all SeqAt.shaped = true := by
      rw [List.all_eq_true]
      intro x hx
      obtain ⟨p, _, rfl⟩ := List.mem_map.mp hx
      rfl
    rw [h1, h2, h3]
    simp [h]
  unfold sortItD adE
  simp only
  rw [itLE, notMkE]
  have : (l.map fun p => PyData.tuple [.int p.1, frD p.2]) = l.map itE := rfl
  rw [this, hs]
  simp only [Bool.and_self, if_true]
  rw [List.map_mergeSort (s := leS) fun a _ b _ => rfl]
theorem c_fr (k : Walk) (h : WOk k) : ∃ dc : Int, dc ≠ 0 ∧ dc.natAbs ≤ 18 ∧ Fr dc 18 k.c ∧ Fr dc 18 (1 - k.c) := by
  obtain ⟨a, d, a0, a1, d0, d1, hc⟩ := c_int k h
  refine ⟨d, by omega, by omega, ⟨a, by omega, hc⟩, ⟨d - a, by omega, ?_⟩⟩
  have := int_nz (show d ≠ 0 by omega)
  rw [hc, Rat.intCast_sub]
  grind
noncomputable abbrev rdC : DenS := (sSeq (sOwn 5 (kD (.dict [])))
   (sSeq (sOwn 6 (mkL (lCons (mkT (lCons (kD (.int 0)) (lCons (kD (.int 1)) lNil))) (lCons (mkT (lCons (kD (.int 0)) (lCons (kD (.int 1)) lNil))) lNil))))
   (sSeq (sFor (iSeq (d1 sortItD (vR 2))) (gT (gsCons (gN 7) (gsCons (gN 8) gsNil)) 2) itemB)
   (sSeq (sApp 3 (mkT (lCons (d2 ixD (vB 6) (kD (.int 0))) (lCons (d2 ixD (vB 6) (kD (.int 1))) lNil))))
   (sFrz 5 (sSet 2 (vR 5)))))))
theorem roundC_ok (k : Walk) (h : WOk k) (dc : Int) (hdc : dc ≠ 0) (hc1 : Fr dc 18 k.c) (hc2 : Fr dc 18 (1 - k.c)) (d : Int) (B L : Nat) (hd : d ≠ 0) (hdl : d.natAbs < 2 ^ 4000) (hdl2 : (d * dc).natAbs < 2 ^ 4000) (hB : (L + 1) * (36 * B) < 2 ^ 4000) (hL : L ≤ 2000) (W : Int → Rat) (l : List (Int × Rat)) (r : Rep k.top W l) (hl : l.length ≤ L) (hW : ∀ t, Fr d B (W t)) (fnd : List D) (hf : fnd.length < 1000000) (S1 s4 s5 s6 s7 s8 s9 s10 s11 : Slot) :
    ∃ now u6 u7 u8 u9 u10 u11, Rep k.top (nextW k W) now ∧ now.length ≤ 2 * L ∧ (∀ t, Fr (d * dc) (L * (36 * B)) (nextW k W t)) ∧ rdC [.fz (wkD k), S1, .fz (adE frD l), .ow (.list fnd), s4, s5, s6, s7, s8, s9, s10, s11] =
      some (.nx [.fz (wkD k), S1, .fz (adE frD now), .ow (.list (fnd ++ [.tuple [frD (nextW k W 0), frD (nextW k W k.top)]])), s4, .fz (adE frD now), u6, u7, u8, u9, u10, u11]) := by
  obtain ⟨l', hp, hsort⟩ := sortE l (by omega)
  have hll := hp.length_eq
  have hdd : d * dc ≠ 0 := Int.mul_ne_zero hd hdc
  have wz : ∀ t : Int, (List.take 0 l').foldl (stepW k) (fun _ => (0 : Rat)) t = 0 := fun t => rfl
  obtain ⟨ρ', g1, g2⟩ := sFor_ok (fi := iSeq (d1 sortItD (vR 2))) (g := gT (gsCons (gN 7) (gsCons (gN 8) gsNil)) 2) (fb := itemB)
    (ρ := [.fz (wkD k), S1, .fz (adE frD l), .ow (.list fnd), s4, .ow (adE frD []), .ow (.list [frD 0, frD 0]), s7, s8, s9, s10, s11])
    (ds := l'.map itE)
    (fun j ρ => ∃ now s7 s8 s9 s10 s11, ρ = [.fz (wkD k), S1, .fz (adE frD l), .ow (.list fnd), s4, .ow (adE frD now), .ow (.list [frD ((l'.take j).foldl (stepW k) (fun _ => 0) 0), frD ((l'.take j).foldl (stepW k) (fun _ => 0) k.top)]), s7, s8, s9, s10, s11] ∧
      Rep k.top ((l'.take j).foldl (stepW k) (fun _ => 0)) now ∧ now.length ≤ 2 * j ∧ ∀ t, Fr (d * dc) (j * (36 * B)) ((l'.take j).foldl (stepW k) (fun _ => 0) t))
    (by simp [hsort]) ⟨[], s7, s8, s9, s10, s11, rfl, ⟨List.nodup_nil, by simp, fun _ _ _ => rfl⟩, by simp, fun t => Fr.zero _ _⟩
    (fun j e ρ he ⟨now, t7, t8, t9, t10, t11, hρ, r1, l1, f1⟩ => by
      rw [List.getElem?_map, Option.map_eq_some_iff] at he
      obtain ⟨q, hq, rfl⟩ := he
      subst hρ
      have hql : q ∈ l := hp.mem_iff.mp (List.mem_of_getElem? hq)
      have hj : j < l'.length := (List.getElem?_eq_some_iff.mp hq).1
      obtain ⟨k0, k1⟩ := r.keys q hql
      have hv := r.val q.1 k0 k1
      rw [getE_of r.nd hql] at hv
      have hv' : q.2 = W q.1 := hv
      have fq : Fr d B q.2 := by rw [hv']; exact hW _
      have hjB : j * (36 * B) + 18 * B + 18 * B = (j + 1) * (36 * B) := by
        rw [Nat.add_mul]
        omega
      have hjL : (j + 1) * (36 * B) ≤ (L + 1) * (36 * B) := Nat.mul_le_mul_right _ (by omega)
      have hBB : B < 2 ^ 4000 := by
        have : 1 * (36 * B) ≤ (L + 1) * (36 * B) := Nat.mul_le_mul_right _ (by omega)
        omega
      obtain ⟨now', u9, u10, u11, r2, l2, f2, e2⟩ := item_ok k h (d * dc) (j * (36 * B)) (18 * B) hdd hdl2 (by omega) _ now r1 (by omega) q.1 q.2 (fq.sq hd hdl hBB) (by rw [Nat.mul_comm]; exact fq.mul hc1 hd hdc) (by rw [Nat.mul_comm]; exact fq.mul hc2 hd hdc) f1 S1 (.fz (adE frD l)) (.ow (.list fnd)) s4 t9 t10 t11
      have ht : (l'.take (j + 1)).foldl (stepW k) (fun _ => 0) = stepW k ((l'.take j).foldl (stepW k) (fun _ => 0)) (q.1, q.2) := by
        rw [List.take_add_one, hq, List.foldl_append]
        rfl
      rw [hjB] at f2
      refine ⟨[.fz (wkD k), S1, .fz (adE frD l), .ow (.list fnd), s4, .ow (adE frD now), .ow (.list [frD ((l'.take j).foldl (stepW k) (fun _ => 0) 0), frD ((l'.take j).foldl (stepW k) (fun _ => 0) k.top)]), .fz (.int q.1), .fz (frD q.2), t9, t10, t11], _, by simp, e2, _, .inl rfl, now', .fz (.int q.1), .fz (frD q.2), u9, u10, u11, ?_, ?_, by omega, ?_⟩
      · rw [ht]
      · rw [ht]; exact r2
      · rw [ht]; exact f2)
  obtain ⟨now, t7, t8, t9, t10, t11, rfl, r1, l1, f1⟩ := g2
  have hw : l'.foldl (stepW k) (fun _ => 0) = nextW k W := by
    funext t
    exact rep_next r hp t
  rw [List.length_map, hll] at l1 f1
  rw [List.length_map, List.take_length, hw] at g1 r1
  rw [← hll, List.take_length, hw] at f1
  refine ⟨now, .ow (.list [frD (nextW k W 0), frD (nextW k W k.top)]), t7, t8, t9, t10, t11, r1, by omega, fun t => (f1 t).le (Nat.mul_le_mul_right _ (by omega)), ?_⟩
  unfold rdC
  rw [sSeq_nx (ρ' := [.fz (wkD k), S1, .fz (adE frD l), .ow (.list fnd), s4, .ow (adE frD []), s6, s7, s8, s9, s10, s11]) (by simp; rfl)]
  rw [sSeq_nx (ρ' := [.fz (wkD k), S1, .fz (adE frD l), .ow (.list fnd), s4, .ow (adE frD []), .ow (.list [frD 0, frD 0]), s7, s8, s9, s10, s11]) (by simp [zero_fr])]
  rw [sSeq_nx g1]
  simp [hf]
/-! ### all rounds -/
def dist (k : Walk) : Nat → Int → Rat
  | 0 => fun t => if t = (k.start : Nat) then 1 else 0
  | n + 1 => nextW k (dist k n)
theorem pow_nz {d : Int} (h : d ≠ 0) (n : Nat) : d ^ n ≠ 0 := Int.pow_ne_zero h
theorem pow_lt' {d : Int} (h : d.natAbs ≤ 18) {n : Nat} (hn : n ≤ 10) : (d ^ n).natAbs < 2 ^ 4000 := by
  rw [Int.natAbs_pow]
  have h1 : d.natAbs ^ n ≤ 32 ^ n := Nat.pow_le_pow_left (by omega) n
  have h2 : (32 : Nat) ^ n ≤ 32 ^ 10 := Nat.pow_le_pow_right (by decide) hn
  have h3 : (32 : Nat) ^ 10 < 2 ^ 4000 := by
    rw [show (32 : Nat) = 2 ^ 5 from rfl, ← Nat.pow_mul]
    exact Nat.pow_lt_pow_right (by decide) (by decide)
  omega
theorem course_eq (k : Walk) (h : WOk k) (n : Nat) (hn : n ≤ 9) : f_course [wkD k, .int (n : Nat)] = some (.list ((List.range n).map fun j => .tuple [frD (dist k (j + 1) 0), frD (dist k (j + 1) k.top)])) := by
  obtain ⟨dc, hdc, hd18, hc1, hc2⟩ := c_fr k h
  have hs := h.s1
  have hst := h.st
  obtain ⟨ρ', g1, g2⟩ := sFor_ok (fi := iR1 (vR 1)) (g := gN 4) (fb := rdC)
    (ρ := [.fz (wkD k), .fz (.int (n : Nat)), .fz (adE frD [((k.start : Int), 1)]), .ow (.list []), .no, .no, .no, .no, .no, .no, .no, .no]) (ds := rgL 0 n)
    (fun j ρ => ∃ l u4 u5 u6 u7 u8 u9 u10 u11, ρ = [.fz (wkD k), .fz (.int (n : Nat)), .fz (adE frD l), .ow (.list ((List.range j).map fun j => .tuple [frD (dist k (j + 1) 0), frD (dist k (j + 1) k.top)])), u4, u5, u6, u7, u8, u9, u10, u11] ∧ Rep k.top (dist k j) l ∧ l.length ≤ 2 ^ j ∧ ∀ t, Fr (dc ^ j) (2 ^ (16 * j)) (dist k j t))
    (by simp only [iR1_s, vR_s, List.getElem?_cons_zero, List.getElem?_cons_succ, Option.bind_some]; rw [rg1_ok (by omega) (by omega)]; rfl)
    ⟨[((k.start : Int), 1)], .no, .no, .no, .no, .no, .no, .no, .no, rfl, ⟨by simp [NDk], by simp; omega, fun p p0 p1 => by
      rw [getE_cons]
      unfold dist
      by_cases e : p = (k.start : Int)
      · rw [if_pos e.symm, if_pos e]; rfl
      · rw [if_neg (fun z => e z.symm), if_neg e]; rfl⟩, by simp, fun t => by
      unfold dist
      have o : ((1 : Int) : Rat) = 1 := rfl
      have z : ((0 : Int) : Rat) = 0 := rfl
      split
      · exact ⟨1, by simp, by rw [Int.pow_zero, o]; grind⟩
      · exact ⟨0, by simp, by rw [Int.pow_zero, o, z]; grind⟩⟩
    (fun j e ρ he ⟨l, u4, u5, u6, u7, u8, u9, u10, u11, hρ, r, hl, hW⟩ => by
      subst hρ
      obtain ⟨hj, rfl⟩ := rgL_at he
      have hp : (2 : Nat) ^ j ≤ 2 ^ 9 := Nat.pow_le_pow_right (by decide) (by omega)
      have hp9 : (2 : Nat) ^ 9 = 512 := by decide
      have hb1 : (2 ^ j + 1) * (36 * 2 ^ (16 * j)) ≤ 2 ^ (16 * (j + 1)) := by
        have e1 : (2 : Nat) ^ (16 * (j + 1)) = 2 ^ 16 * 2 ^ (16 * j) := by rw [← Nat.pow_add]; congr 1; omega
        rw [e1, ← Nat.mul_assoc]
        exact Nat.mul_le_mul_right _ (by have : (2 : Nat) ^ 16 = 65536 := by decide
                                         omega)
      have hb2 : (2 : Nat) ^ (16 * (j + 1)) < 2 ^ 4000 := Nat.pow_lt_pow_right (by decide) (by omega)
      have hb3 : 2 ^ j * (36 * 2 ^ (16 * j)) ≤ (2 ^ j + 1) * (36 * 2 ^ (16 * j)) := Nat.mul_le_mul_right _ (by omega)
      obtain ⟨now, v6, v7, v8, v9, v10, v11, r2, l2, f2, e2⟩ := roundC_ok k h dc hdc hc1 hc2 (dc ^ j) (2 ^ (16 * j)) (2 ^ j) (pow_nz hdc j) (pow_lt' hd18 (by omega)) (by rw [← Int.pow_succ]; exact pow_lt' hd18 (by omega)) (by omega) (by omega) (dist k j) l r hl hW ((List.range j).map fun j => .tuple [frD (dist k (j + 1) 0), frD (dist k (j + 1) k.top)]) (by simp; omega) (.fz (.int (n : Nat))) (.fz (.int (0 + (j : Int)))) u5 u6 u7 u8 u9 u10 u11
      refine ⟨_, _, rfl, e2, _, .inl rfl, now, .fz (.int (0 + (j : Int))), .fz (adE frD now), v6, v7, v8, v9, v10, v11, ?_, r2, by rw [Nat.pow_succ]; omega, fun t => ?_⟩
      · rw [List.range_succ, List.map_append]
        rfl
      · rw [Int.pow_succ]
        exact (f2 t).le (by omega))
  obtain ⟨l, u4, u5, u6, u7, u8, u9, u10, u11, rfl, _⟩ := g2
  rw [rgL_len] at g1
  have cw := check_walk_eq k h
  have cm : f_check_most [.int (n : Nat)] = some .none := by
    have b1 : (n : Int) ≤ 12 := by omega
    unfold f_check_most D_check_most
    simp [b1]
  unfold f_course D_course
  refine run_seq (ρ' := [.fz (wkD k), .fz (.int (n : Nat)), .no, .no, .no, .no, .no, .no, .no, .no, .no, .no]) (by simp [cw]) ?_
  rw [sSeq_nx (ρ' := [.fz (wkD k), .fz (.int (n : Nat)), .no, .no, .no, .no, .no, .no, .no, .no, .no, .no]) (by simp [cm])]
  rw [sSeq_nx (ρ' := [.fz (wkD k), .fz (.int (n : Nat)), .fz (adE frD [((k.start : Int), 1)]), .no, .no, .no, .no, .no, .no, .no, .no, .no]) (by simp [wkD, keyOfI]; rfl)]
  rw [sSeq_nx (ρ' := [.fz (wkD k), .fz (.int (n : Nat)), .fz (adE frD [((k.start : Int), 1)]), .ow (.list []), .no, .no, .no, .no, .no, .no, .no, .no]) (by simp)]
  unfold rdC itemB conB at g1
  rw [sSeq_nx g1]
  simp
end Zx.k76
/-! V18: courses turned about and wide. -/
namespace Zx.k76
open PySem PySem.Spec L2 Zx
theorem qs_first (f : Nat → Rat) : ∀ n, qs (n + 1) f = f 0 + qs n fun i => f (i + 1)
  | 0 => by
    rw [qs, qs, qs]
    grind
  | n + 1 => by
    rw [qs, qs_first f n, qs]
    grind
theorem qs_rev (f : Nat → Rat) : ∀ n, qs (n + 1) f = qs (n + 1) fun i => f (n - i)
  | 0 => rfl
  | n + 1 => by
    rw [qs_first (fun i => f (n + 1 - i)), qs, qs_rev f n]
    have : qs (n + 1) (fun i => f (n + 1 - (i + 1))) = qs (n + 1) fun i => f (n - i) := qs_congr fun i _ => by
      show f (n + 1 - (i + 1)) = f (n - i)
      rw [show n + 1 - (i + 1) = n - i by omega]
    rw [this]
    show _ = f (n + 1) + _
    grind
theorem cls_turn {top : Nat} (x y : Int) (h : x + y = top) (ht : 0 < top) : cls top x = (top : Int) - cls top y := by
  unfold cls
  by_cases h1 : x ≤ 0
  · rw [if_pos h1, if_neg (show ¬ y ≤ 0 by omega), if_pos (by omega)]
    omega
  · by_cases h2 : (top : Int) ≤ x
    · rw [if_neg h1, if_pos h2, if_pos (by omega)]
      omega
    · rw [if_neg h1, if_neg h2, if_neg (by omega), if_neg (by omega)]
      omega
theorem gk_turn (k : Walk) (h : WOk k) (t i : Int) : gk (turnW k) ((k.top : Int) - t) ((k.top : Int) - i) = gk k t i := by
  have h2 := h.t2
  have c1 := cls_turn (top := k.top) ((k.top : Int) - i + (k.down : Nat)) (i - (k.down : Nat)) (by omega) (by omega)
  have c2 := cls_turn (top := k.top) ((k.top : Int) - i - (k.up : Nat)) (i + (k.up : Nat)) (by omega) (by omega)
  unfold gk
  show (if (k.top : Int) - t = cls k.top ((k.top : Int) - i + (k.down : Nat)) then 1 - k.c else 0) + (if (k.top : Int) - t = cls k.top ((k.top : Int) - i - (k.up : Nat)) then 1 - (1 - k.c) else 0) = _
  rw [c1, c2]
  have e1 : (k.top : Int) - t = (k.top : Int) - cls k.top (i - (k.down : Nat)) ↔ t = cls k.top (i - (k.down : Nat)) := by omega
  have e2 : (k.top : Int) - t = (k.top : Int) - cls k.top (i + (k.up : Nat)) ↔ t = cls k.top (i + (k.up : Nat)) := by omega
  simp only [e1, e2]
  have : 1 - (1 - k.c) = k.c := by grind
  rw [this]
  grind
theorem dist_turn (k : Walk) (h : WOk k) : ∀ (n : Nat) (t : Int), dist (turnW k) n ((k.top : Int) - t) = dist k n t
  | 0, t => by
    have s := h.st
    unfold dist
    have e : (turnW k).start = k.top - k.start := rfl
    have e2 : (k.top : Int) - t = ((turnW k).start : Nat) ↔ t = (k.start : Nat) := by rw [e]; omega
    simp only [e2]
  | n + 1, t => by
    show nextW (turnW k) (dist (turnW k) n) ((k.top : Int) - t) = nextW k (dist k n) t
    unfold nextW
    show qs (k.top + 1) _ = _
    rw [qs_rev]
    refine qs_congr fun i hi => ?_
    have ei : ((k.top - i : Nat) : Int) = (k.top : Int) - (i : Int) := by omega
    show ins k.top (dist (turnW k) n) ((k.top - i : Nat) : Int) * gk (turnW k) ((k.top : Int) - t) ((k.top - i : Nat) : Int) = ins k.top (dist k n) i * gk k t i
    rw [ei, gk_turn k h]
    congr 1
    unfold ins
    by_cases hx : 0 < (i : Int) ∧ (i : Int) < k.top
    · rw [if_pos hx, if_pos (by omega), dist_turn k h n]
    · rw [if_neg hx, if_neg (by omega)]
/-! ### wide -/
theorem cls_wide (m top : Nat) (hm : 0 < m) (x : Int) : cls (m * top) ((m : Int) * x) = (m : Int) * cls top x := by
  have hm' : (0 : Int) < m := by omega
  unfold cls
  by_cases h1 : x ≤ 0
  · rw [if_pos h1, if_pos (Int.mul_nonpos_of_nonneg_of_nonpos (by omega) h1), Int.mul_zero]
  · have h1' : ¬ (m : Int) * x ≤ 0 := by
      have := Int.mul_pos hm' (show 0 < x by omega)
      omega
    rw [if_neg h1, if_neg h1', Int.natCast_mul]
    by_cases h2 : (top : Int) ≤ x
    · rw [if_pos h2, if_pos (Int.mul_le_mul_of_nonneg_left h2 (by omega))]
    · have := Int.mul_lt_mul_of_pos_left (show x < (top : Int) by omega) hm'
      rw [if_neg h2, if_neg (by omega)]
theorem gk_wide (m : Nat) (k : Walk) (hm : 0 < m) (t i : Int) : gk (wideW m k) ((m : Int) * t) ((m : Int) * i) = gk k t i := by
  have eu : ((wideW m k).up : Int) = (m : Int) * (k.up : Int) := by
    show ((m * k.up : Nat) : Int) = _
    rw [Int.natCast_mul]
  have ed : ((wideW m k).down : Int) = (m : Int) * (k.down : Int) := by
    show ((m * k.down : Nat) : Int) = _
    rw [Int.natCast_mul]
  have et : (wideW m k).top = m * k.top := rfl
  have ec : (wideW m k).c = k.c := rfl
  unfold gk
  rw [eu, ed, et, ec, ← Int.mul_add, ← Int.mul_sub, cls_wide m k.top hm, cls_wide m k.top hm]
  have inj : ∀ a b : Int, (m : Int) * a = (m : Int) * b ↔ a = b := fun a b => ⟨fun e => Int.eq_of_mul_eq_mul_left (show (m : Int) ≠ 0 by omega) e, fun e => by rw [e]⟩
  simp only [inj]
theorem qs_step (m : Nat) (hm : 0 < m) (F : Nat → Rat) (h : ∀ i, ¬ m ∣ i → F i = 0) : ∀ n, qs (m * n) F = qs n fun j => F (m * j)
  | 0 => rfl
  | n + 1 => by
    have key : ∀ r, r < m → qs (m * n + (r + 1)) F = qs (m * n) F + F (m * n) := fun r => by
      induction r with
      | zero => intro _; rfl
      | succ r ih =>
        intro hr
        show qs (m * n + (r + 1)) F + F (m * n + (r + 1)) = _
        rw [ih (by omega), h (m * n + (r + 1)) (fun hd => by
          have h2 : m ∣ r + 1 := (Nat.dvd_add_right (Nat.dvd_mul_right m n)).mp hd
          have := Nat.le_of_dvd (by omega) h2
          omega)]
        grind
    have := key (m - 1) (by omega)
    rw [show m - 1 + 1 = m by omega] at this
    rw [Nat.mul_succ, this, qs_step m hm F h n]
    rfl
theorem dist_wide (m : Nat) (k : Walk) (hm : 0 < m) : ∀ (n : Nat), (∀ t : Int, dist (wideW m k) n ((m : Int) * t) = dist k n t) ∧ ∀ t : Int, ¬ (m : Int) ∣ t → dist (wideW m k) n t = 0
  | 0 => by
    have es : ((wideW m k).start : Int) = (m : Int) * (k.start : Int) := by
      show ((m * k.start : Nat) : Int) = _
      rw [Int.natCast_mul]
    have inj : ∀ a b : Int, (m : Int) * a = (m : Int) * b ↔ a = b := fun a b => ⟨fun e => Int.eq_of_mul_eq_mul_left (show (m : Int) ≠ 0 by omega) e, fun e => by rw [e]⟩
    constructor
    · intro t
      unfold dist
      rw [es]
      simp only [inj]
    · intro t ht
      unfold dist
      rw [es, if_neg]
      intro e
      exact ht (e ▸ Int.dvd_mul_right _ _)
  | n + 1 => by
    obtain ⟨h1, h2⟩ := dist_wide m k hm n
    have hz : ∀ (t : Int) (i : Nat), ¬ m ∣ i → ins (m * k.top) (dist (wideW m k) n) (i : Int) * gk (wideW m k) t (i : Int) = 0 := fun t i hi => by
      have : ins (m * k.top) (dist (wideW m k) n) (i : Int) = 0 := by
        unfold ins
        split
        · exact h2 _ fun z => hi (Int.natCast_dvd_natCast.mp z)
        · rfl
      rw [this]
      grind
    have red : ∀ t : Int, dist (wideW m k) (n + 1) t = qs (k.top + 1) fun j => ins (m * k.top) (dist (wideW m k) n) ((m * j : Nat) : Int) * gk (wideW m k) t ((m * j : Nat) : Int) := fun t => by
      show nextW (wideW m k) (dist (wideW m k) n) t = _
      unfold nextW
      show qs (m * k.top + 1) _ = _
      rw [qs, qs, ← qs_step m hm _ (hz t)]
      rfl
    constructor
    · intro t
      rw [red]
      show _ = nextW k (dist k n) t
      unfold nextW
      refine qs_congr fun i hi => ?_
      rw [Int.natCast_mul, gk_wide m k hm]
      congr 1
      unfold ins
      have hm' : (0 : Int) < m := by omega
      rw [Int.natCast_mul]
      by_cases hx : 0 < (i : Int) ∧ (i : Int) < k.top
      · rw [if_pos hx, if_pos ⟨Int.mul_pos hm' hx.1, Int.mul_lt_mul_of_pos_left hx.2 hm'⟩, h1]
      · rw [if_neg hx, if_neg]
        rintro ⟨z1, z2⟩
        exact hx ⟨Int.pos_of_mul_pos_left (by rw [Int.mul_comm]; exact z1) hm', Int.lt_of_mul_lt_mul_left z2 (by omega)⟩
    · intro t ht
      rw [red]
      refine qs_zero fun j _ => ?_
      have : gk (wideW m k) t ((m * j : Nat) : Int) = 0 := by
        have eu : ((wideW m k).up : Int) = (m : Int) * (k.up : Int) := by
          show ((m * k.up : Nat) : Int) = _
          rw [Int.natCast_mul]
        have ed : ((wideW m k).down : Int) = (m : Int) * (k.down : Int) := by
          show ((m * k.down : Nat) : Int) = _
          rw [Int.natCast_mul]
        have et : (wideW m k).top = m * k.top := rfl
        unfold gk
        rw [eu, ed, et, Int.natCast_mul, ← Int.mul_add, ← Int.mul_sub, cls_wide m k.top hm, cls_wide m k.top hm, if_neg (fun e => ht (by rw [e]; exact Int.dvd_mul_right _ _)), if_neg (fun e => ht (by rw [e]; exact Int.dvd_mul_right _ _))]
        grind
      rw [this]
      grind
end Zx.k76
/-! V19: values, all_values; the walk that is drawn. -/
namespace Zx.k76
open PySem PySem.Spec L2 Zx
theorem e_lgcd : f__law_gcd = Cm.f_lgcd := rfl
theorem e_low : f__law_low = Cm.f_lowA := rfl
theorem e_lplus : f__law_plus = Cm.f_lp Cm.f_lowA := rfl
theorem e_lminus : f__law_minus = Cm.f_lm Cm.f_lowA := rfl
theorem e_lover : f__law_over = Cm.f_lo Cm.f_lowA := rfl
theorem e_lless : f__law_less = Cm.f_ll := rfl
structure Vals (k : Walk) (y0 y1 y2 : Int → Rat) : Prop where
  s0 : Sol k 1 0 0 y0
  s1 : Sol k 0 1 0 y1
  s2 : Sol k 0 0 1 y2
  sz : Sk 3584 (y0 k.start) ∧ Sk 3584 (y1 k.start)
  one : f_values [wkD k] = some (tri (y0 k.start) (y1 k.start) (y2 k.start))
  all : f_all_values [wkD k] = some (.list ((List.range (k.top - 1)).map fun i : Nat => tri (y0 ((i : Int) + 1)) (y1 ((i : Int) + 1)) (y2 ((i : Int) + 1))))
theorem vals (k : Walk) (h : WOk k) : ∃ y0 y1 y2, Vals k y0 y1 y2 := by
  obtain ⟨y0, y1, y2, s0, s1, s2, sz, e⟩ := values_of_eq k h
  have h1 := h.s1
  have h2 := h.st
  have es : ((k.start - 1 : Nat) : Int) + 1 = k.start := by omega
  have cw := check_walk_eq k h
  have z := sz (k.start - 1) (by omega)
  rw [es] at z
  refine ⟨y0, y1, y2, s0, s1, s2, ⟨z.1, z.2.1⟩, ?_, ?_⟩
  · have ix : ixD (wkD k) (.int 1) = some (.int (k.start : Nat)) := by simp [wkD]
    have at_ : atI ((List.range (k.top - 1)).map fun i : Nat => tri (y0 ((i : Int) + 1)) (y1 ((i : Int) + 1)) (y2 ((i : Int) + 1))) ((k.start : Int) - 1) = some (tri (y0 k.start) (y1 k.start) (y2 k.start)) := by
      rw [show (k.start : Int) - 1 = ((k.start - 1 : Nat) : Int) by omega, atI_nat _ _ (by simp; omega), List.getElem?_map, List.getElem?_range (by omega), Option.map_some, es]
    unfold f_values D_values
    refine run_seq (ρ' := [.fz (wkD k)]) (by simp [cw]) ?_
    simp [e, ix, at_]
  · unfold f_all_values D_all_values
    refine run_seq (ρ' := [.fz (wkD k)]) (by simp [cw]) ?_
    simp [e]
theorem walk_ok (dr : List Int) (hd : Dr 3780 dr) : ∃ k : Walk, WOk k ∧ k.c.den ≤ 9 ∧ f__law_walk [.list (dr.map .int), .int 10] = some (wkD k) := by
  obtain ⟨a, m0, a0, a1⟩ := mix_ok hd (by decide) 10 9 (by decide) (by decide) (by decide)
  obtain ⟨b, m1, b0, b1⟩ := mix_ok hd (by decide) 11 8 (by decide) (by decide) (by decide)
  obtain ⟨c, m2, c0, c1⟩ := mix_ok hd (by decide) 12 3 (by decide) (by decide) (by decide)
  obtain ⟨e, m3, e0, e1⟩ := mix_ok hd (by decide) 13 2 (by decide) (by decide) (by decide)
  have hix : ∃ w : Int, ixD (.list [.int 7, .int 8, .int 9]) (.int c) = some (.int w) ∧ 7 ≤ w ∧ w ≤ 9 := by
    have : c = 0 ∨ c = 1 ∨ c = 2 := by omega
    rcases this with rfl | rfl | rfl
    · exact ⟨7, rfl, by decide, by decide⟩
    · exact ⟨8, rfl, by decide, by decide⟩
    · exact ⟨9, rfl, by decide, by decide⟩
  obtain ⟨w, w1, w2, w3⟩ := hix
  have hiy : ∃ m : Int, ixD (.list [.int 1, .int 6]) (.int e) = some (.int m) ∧ 1 ≤ m ∧ m ≤ 6 := by
    have : e = 0 ∨ e = 1 := by omega
    rcases this with rfl | rfl
    · exact ⟨1, rfl, by decide, by decide⟩
    · exact ⟨6, rfl, by decide, by decide⟩
  obtain ⟨m, n1, n2, n3⟩ := hiy
  obtain ⟨s, m4, s0, s1⟩ := mix_ok hd (by decide) 14 (2 + a - 1) (by decide) (by decide) (by omega)
  obtain ⟨u, m5, u0, u1⟩ := mix_ok hd (by decide) 15 m (by decide) (by decide) (by omega)
  obtain ⟨v, m6, v0, v1⟩ := mix_ok hd (by decide) 16 m (by decide) (by decide) (by omega)
  have hlow := lowA_eq b w (by omega) (Nat.lt_of_lt_of_le (show w.natAbs < 2 ^ 4 by omega) (Nat.pow_le_pow_right (by decide) (by decide)))
  have hw0 : (0 : Rat) < w := Rat.intCast_pos.mpr (by omega)
  obtain ⟨d, rfl⟩ := Int.eq_ofNat_of_zero_le (show 0 ≤ w by omega)
  have hb : (b : Rat) ≤ ((d : Int) : Rat) := Rat.intCast_le_intCast.mpr (by omega)
  have hb0 : (0 : Rat) ≤ (b : Rat) := Rat.intCast_nonneg.mpr b0
  have q0 : 0 ≤ (b : Rat) / ((d : Int) : Rat) := by
    rw [Rat.div_def]
    exact Rat.mul_nonneg hb0 (Rat.le_of_lt (Rat.inv_pos.mpr hw0))
  have q1 : (b : Rat) / ((d : Int) : Rat) ≤ 1 := by
    refine Rat.le_of_mul_le_mul_right (c := ((d : Int) : Rat)) ?_ hw0
    rw [Rat.div_mul_cancel (Rat.ne_of_gt hw0), Rat.one_mul]
    exact hb
  have qd : ((b : Rat) / ((d : Int) : Rat)).den ≤ 9 := Nat.le_trans (den_le (by omega)) (by omega)
  refine ⟨⟨(2 + a).toNat, (1 + s).toNat, (1 + u).toNat, (1 + v).toNat, (b : Rat) / ((d : Int) : Rat)⟩, ⟨by show 2 ≤ (2 + a).toNat; omega, by show (2 + a).toNat ≤ 10; omega, by show 1 ≤ (1 + s).toNat; omega, by show (1 + s).toNat < (2 + a).toNat; omega, by show 1 ≤ (1 + u).toNat; omega, by show (1 + u).toNat ≤ 6; omega, by show 1 ≤ (1 + v).toNat; omega, by show (1 + v).toNat ≤ 6; omega, q0, q1, Nat.le_trans qd (by decide)⟩, qd, ?_⟩
  unfold wkD
  simp only
  rw [show (((2 + a).toNat : Nat) : Int) = 2 + a by omega, show (((1 + s).toNat : Nat) : Int) = 1 + s by omega, show (((1 + u).toNat : Nat) : Int) = 1 + u by omega, show (((1 + v).toNat : Nat) : Int) = 1 + v by omega]
  unfold f__law_walk D__law_walk
  refine run_seq (ρ' := [.fz (.list (dr.map .int)), .fz (.int 10), .fz (.int (2 + a)), .no, .no]) (by simp [e_mix, m0]) ?_
  rw [sSeq_nx (ρ' := [.fz (.list (dr.map .int)), .fz (.int 10), .fz (.int (2 + a)), .fz (frD ((b : Rat) / ((d : Int) : Rat))), .no]) (by
    simp only [sSet_s, dCall_s, lCons_s, lNil_s, d2_s, mkL_s, vR_s, kD_s, List.getElem?_cons_zero, List.getElem?_cons_succ, Option.bind_some, addD_i, List.length_cons, List.length_nil, Nat.zero_add, Nat.reduceAdd, Nat.reduceLeDiff, if_true, Int.reduceAdd, e_mix, m1, m2, w1, e_low, hlow, List.set_cons_zero, List.set_cons_succ])]
  rw [sSeq_nx (ρ' := [.fz (.list (dr.map .int)), .fz (.int 10), .fz (.int (2 + a)), .fz (frD ((b : Rat) / ((d : Int) : Rat))), .fz (.int m)]) (by
    simp only [sSet_s, dCall_s, lCons_s, lNil_s, d2_s, mkL_s, vR_s, kD_s, List.getElem?_cons_zero, List.getElem?_cons_succ, Option.bind_some, addD_i, List.length_cons, List.length_nil, Nat.zero_add, Nat.reduceAdd, Nat.reduceLeDiff, if_true, Int.reduceAdd, e_mix, m3, n1, List.set_cons_zero, List.set_cons_succ])]
  simp only [sRet_s, dCall_s, lCons_s, lNil_s, d2_s, mkT_s, vR_s, kD_s, List.getElem?_cons_zero, List.getElem?_cons_succ, Option.bind_some, addD_i, subD_i, List.length_cons, List.length_nil, Nat.zero_add, Nat.reduceAdd, Nat.reduceLeDiff, if_true, Int.reduceAdd, e_mix, m4, m5, m6]
end Zx.k76
/-! V20: the law. -/
namespace Zx.k76
open PySem PySem.Spec L2 Zx
theorem enc_tr : EncOk (fun p : Rat × Rat × Rat => tri p.1 p.2.1 p.2.2) 2 := enc_tri enc_fr enc_fr enc_fr
theorem enc_pr : EncOk (fun p : Rat × Rat => PyData.tuple [frD p.1, frD p.2]) 2 := enc_pair enc_fr enc_fr
theorem trs_self (n : Nat) (f : Nat → Rat × Rat × Rat) : neD (.list ((List.range n).map fun i => tri (f i).1 (f i).2.1 (f i).2.2)) (.list ((List.range n).map fun i => tri (f i).1 (f i).2.1 (f i).2.2)) = some false := by
  have := (enc_list enc_tr).ne_self (by decide) ((List.range n).map f)
  rw [List.map_map] at this
  exact this
theorem prs_self (n : Nat) (f : Nat → Rat × Rat) : neD (.list ((List.range n).map fun i => .tuple [frD (f i).1, frD (f i).2])) (.list ((List.range n).map fun i => .tuple [frD (f i).1, frD (f i).2])) = some false := by
  have := (enc_list enc_pr).ne_self (by decide) ((List.range n).map f)
  rw [List.map_map] at this
  exact this
theorem tr_self (a b c : Rat) : neD (.tuple [frD a, frD b, frD c]) (.tuple [frD a, frD b, frD c]) = some false := enc_tr.ne_self (by decide) (a, b, c)
theorem one_fr : PyData.tuple [.int 1, .int 1] = frD 1 := rfl
theorem two_fr : PyData.tuple [.int 2, .int 1] = frD 2 := rfl
theorem rev_range {α : Type} (n : Nat) (f : Nat → α) : ((List.range n).map f).reverse = (List.range n).map fun i => f (n - 1 - i) := by
  refine List.ext_getElem? fun i => ?_
  by_cases hi : i < n
  · rw [List.getElem?_reverse (by simpa using hi), List.length_map, List.length_range, List.getElem?_map, List.getElem?_map, List.getElem?_range hi, List.getElem?_range (by omega)]
    rfl
  · rw [List.getElem?_eq_none (by simp; omega), List.getElem?_eq_none (by simp; omega)]
theorem law_core (k : Walk) (h : WOk k) (hd9 : k.c.den ≤ 9) (dr : List Int) (hd : Dr 3780 dr) (S : D) (hdr : f__law_draws [S] = some (.list (dr.map .int))) (hw : f__law_walk [.list (dr.map .int), .int 10] = some (wkD k)) : f_law [S] = some (.bool true) := by
  have t2 := h.t2
  have t10 := h.t10
  have s1 := h.s1
  have st := h.st
  have u6 := h.u6
  have d6 := h.d6
  obtain ⟨y0, y1, y2, V⟩ := vals k h
  have hT := turn_ok k h
  obtain ⟨z0, z1, z2, Z⟩ := vals _ hT
  have ez0 : ∀ t, z0 t = y1 ((k.top : Int) - t) := sol_uniq hT Z.s0 (turn_sol V.s1)
  have ez1 : ∀ t, z1 t = y0 ((k.top : Int) - t) := sol_uniq hT Z.s1 (turn_sol V.s0)
  have ez2 : ∀ t, z2 t = y2 ((k.top : Int) - t) := sol_uniq hT Z.s2 (turn_sol V.s2)
  have v1 := V.one
  have v2 := V.all
  have ts : ((turnW k).start : Int) = (k.top : Int) - (k.start : Int) := by
    show ((k.top - k.start : Nat) : Int) = _
    omega
  have w1 := Z.one
  rw [ez0, ez1, ez2, ts, show (k.top : Int) - ((k.top : Int) - (k.start : Int)) = k.start by omega] at w1
  have w2 := Z.all
  have tt : (turnW k).top = k.top := rfl
  rw [tt] at w2
  have ew : ((List.range (k.top - 1)).map fun i : Nat => tri (z0 ((i : Int) + 1)) (z1 ((i : Int) + 1)) (z2 ((i : Int) + 1))) = (List.range (k.top - 1)).map fun i : Nat => tri (y1 (((k.top - 1 - 1 - i : Nat) : Int) + 1)) (y0 (((k.top - 1 - 1 - i : Nat) : Int) + 1)) (y2 (((k.top - 1 - 1 - i : Nat) : Int) + 1)) := List.map_congr_left fun i hi => by
    have hi' := List.mem_range.mp hi
    rw [ez0, ez1, ez2, show (k.top : Int) - ((i : Int) + 1) = ((k.top - 1 - 1 - i : Nat) : Int) + 1 by omega]
  rw [ew] at w2
  have q1 : 1 - k.c = (turnW k).c := rfl
  have hsk := c_sk k h
  have so : Sq (1 : Rat) := (Sk_int (n := 1) (a := 1) (by decide) (by decide)).sq (by decide)
  have stw : Sq (2 : Rat) := (Sk_int (n := 2) (a := 2) (by decide) (by decide)).sq (by decide)
  have mn := lm_eq lowA_eq 1 k.c so (hsk.1.sq (by decide))
  obtain ⟨m, m0, ma, mb⟩ := mix_ok hd (by decide) 0 10 (by decide) (by decide) (by decide)
  obtain ⟨most, rfl⟩ := Int.eq_ofNat_of_zero_le ma
  obtain ⟨b, m1, ba, bb⟩ := mix_ok hd (by decide) 1 3 (by decide) (by decide) (by decide)
  obtain ⟨by0, rfl⟩ := Int.eq_ofNat_of_zero_le ba
  have c1 := course_eq k h most (by omega)
  have c2 := course_eq _ hT most (by omega)
  have ec : ((List.range most).map fun j => PyData.tuple [frD (dist (turnW k) (j + 1) 0), frD (dist (turnW k) (j + 1) (turnW k).top)]) = (List.range most).map fun j => PyData.tuple [frD (dist k (j + 1) k.top), frD (dist k (j + 1) 0)] := List.map_congr_left fun j _ => by
    have d1 := dist_turn k h (j + 1) k.top
    have d2 := dist_turn k h (j + 1) 0
    rw [show (k.top : Int) - (k.top : Int) = 0 by omega] at d1
    rw [show (k.top : Int) - 0 = (k.top : Int) by omega] at d2
    rw [d1]
    show PyData.tuple [_, frD (dist (turnW k) (j + 1) k.top)] = _
    rw [d2]
  rw [ec] at c2
  have ewk : wkD k = .tuple [.int (k.top : Nat), .int (k.start : Nat), .int (k.up : Nat), .int (k.down : Nat), frD k.c] := rfl
  have etk : PyData.tuple [.int (k.top : Nat), .int ((k.top : Int) - (k.start : Int)), .int (k.down : Nat), .int (k.up : Nat), frD (1 - k.c)] = wkD (turnW k) := by
    unfold wkD
    rw [ts]
    rfl
  have sum1 := sol_one h V.s0 V.s1 k.start
  have lp := lp_eq lowA_eq (y0 k.start) (y1 k.start) (V.sz.1.sq (by decide)) (V.sz.2.sq (by decide))
  rw [sum1] at lp
  generalize hDR : PyData.list (dr.map .int) = DR at *
  generalize hK : wkD k = K at *
  generalize hKT : wkD (turnW k) = KT at *
  unfold f_law D_law
  refine run_seq (ρ' := [.fz S, .fz DR, .no, .no, .no, .no, .no, .no, .no, .no, .no, .no, .no, .no, .no, .no, .no, .no, .no]) (by simp [hdr]) ?_
  rw [sSeq_nx (ρ' := [.fz S, .fz DR, .fz K, .no, .no, .no, .no, .no, .no, .no, .no, .no, .no, .no, .no, .no, .no, .no, .no]) (by simp [hw])]
  rw [sSeq_nx (ρ' := [.fz S, .fz DR, .fz K, .fz (.int (k.top : Nat)), .fz (.int (k.start : Nat)), .fz (.int (k.up : Nat)), .fz (.int (k.down : Nat)), .fz (frD k.c), .no, .no, .no, .no, .no, .no, .no, .no, .no, .no, .no]) (by simp [ewk])]
  rw [sSeq_nx (ρ' := [.fz S, .fz DR, .fz K, .fz (.int (k.top : Nat)), .fz (.int (k.start : Nat)), .fz (.int (k.up : Nat)), .fz (.int (k.down : Nat)), .fz (frD k.c), .fz KT, .no, .no, .no, .no, .no, .no, .no, .no, .no, .no]) (by
    simp only [sSet_s, mkT_s, lCons_s, lNil_s, dCall_s, d2_s, vR_s, kD_s, List.getElem?_cons_zero, List.getElem?_cons_succ, Option.bind_some, List.length_cons, List.length_nil, Nat.zero_add, Nat.reduceAdd, Nat.reduceLeDiff, if_true, subD_i, e_lminus, one_fr, mn, List.set_cons_zero, List.set_cons_succ, etk])]
  rw [sSeq_nx (ρ' := [.fz S, .fz DR, .fz K, .fz (.int (k.top : Nat)), .fz (.int (k.start : Nat)), .fz (.int (k.up : Nat)), .fz (.int (k.down : Nat)), .fz (frD k.c), .fz KT, .fz (frD (y0 k.start)), .fz (frD (y1 k.start)), .fz (frD (y2 k.start)), .no, .no, .no, .no, .no, .no, .no]) (by simp [v1])]
  have hlc : dLc (iSeq (d1 revD (dCall (lCons (vR 2) lNil) f_all_values))) (gT (gsCons (gN 16) (gsCons (gN 17) (gsCons (gN 18) gsNil))) 3) bYes (mkT (lCons (vR 17) (lCons (vR 16) (lCons (vR 18) lNil)))) [16, 17, 18] [.fz S, .fz DR, .fz K, .fz (.int (k.top : Nat)), .fz (.int (k.start : Nat)), .fz (.int (k.up : Nat)), .fz (.int (k.down : Nat)), .fz (frD k.c), .fz KT, .fz (frD (y0 k.start)), .fz (frD (y1 k.start)), .fz (frD (y2 k.start)), .no, .no, .no, .no, .no, .no, .no] =
      some (.list ((List.range (k.top - 1)).map fun i : Nat => tri (y1 (((k.top - 1 - 1 - i : Nat) : Int) + 1)) (y0 (((k.top - 1 - 1 - i : Nat) : Int) + 1)) (y2 (((k.top - 1 - 1 - i : Nat) : Int) + 1)))) := by
    have hr : revD (.list ((List.range (k.top - 1)).map fun i : Nat => tri (y0 ((i : Int) + 1)) (y1 ((i : Int) + 1)) (y2 ((i : Int) + 1)))) = some (.list ((List.range (k.top - 1)).map fun i : Nat => tri (y0 (((k.top - 1 - 1 - i : Nat) : Int) + 1)) (y1 (((k.top - 1 - 1 - i : Nat) : Int) + 1)) (y2 (((k.top - 1 - 1 - i : Nat) : Int) + 1)))) := by
      have e : ∀ xs : List D, revD (.list xs) = some (.list xs.reverse) := fun _ => rfl
      rw [e, rev_range]
    refine dLc_of (ds := (List.range (k.top - 1)).map fun i : Nat => tri (y0 (((k.top - 1 - 1 - i : Nat) : Int) + 1)) (y1 (((k.top - 1 - 1 - i : Nat) : Int) + 1)) (y2 (((k.top - 1 - 1 - i : Nat) : Int) + 1))) (by simp only [iSeq_s, d1_s, dCall_s, lCons_s, lNil_s, vR_s, List.getElem?_cons_zero, List.getElem?_cons_succ, Option.bind_some, v2, hr]; rfl) ?_ (by simp; omega)
    have := lcL_if2 (fun i : Nat => tri (y0 (((k.top - 1 - 1 - i : Nat) : Int) + 1)) (y1 (((k.top - 1 - 1 - i : Nat) : Int) + 1)) (y2 (((k.top - 1 - 1 - i : Nat) : Int) + 1))) (fun i : Nat => tri (y1 (((k.top - 1 - 1 - i : Nat) : Int) + 1)) (y0 (((k.top - 1 - 1 - i : Nat) : Int) + 1)) (y2 (((k.top - 1 - 1 - i : Nat) : Int) + 1))) (fun _ => true) (fun c => c) (g := gT (gsCons (gN 16) (gsCons (gN 17) (gsCons (gN 18) gsNil))) 3) (ft := bYes) (fe := mkT (lCons (vR 17) (lCons (vR 16) (lCons (vR 18) lNil))))
      (ρ := wipeE [.fz S, .fz DR, .fz K, .fz (.int (k.top : Nat)), .fz (.int (k.start : Nat)), .fz (.int (k.up : Nat)), .fz (.int (k.down : Nat)), .fz (frD k.c), .fz KT, .fz (frD (y0 k.start)), .fz (frD (y1 k.start)), .fz (frD (y2 k.start)), .no, .no, .no, .no, .no, .no, .no] [16, 17, 18]) (List.range (k.top - 1)) (fun i hi => ⟨_, by simp [wipeE]; rfl, rfl, fun _ => by simp⟩)
    rw [this, List.filter_eq_self.mpr (fun _ _ => rfl), List.map_id']
  have n1 := tr_self (y1 k.start) (y0 k.start) (y2 k.start)
  have n2 := trs_self (k.top - 1) fun i : Nat => (y1 (((k.top - 1 - 1 - i : Nat) : Int) + 1), y0 (((k.top - 1 - 1 - i : Nat) : Int) + 1), y2 (((k.top - 1 - 1 - i : Nat) : Int) + 1))
  rw [sSeq_nx (ρ' := [.fz S, .fz DR, .fz K, .fz (.int (k.top : Nat)), .fz (.int (k.start : Nat)), .fz (.int (k.up : Nat)), .fz (.int (k.down : Nat)), .fz (frD k.c), .fz KT, .fz (frD (y0 k.start)), .fz (frD (y1 k.start)), .fz (frD (y2 k.start)), .no, .no, .no, .no, .no, .no, .no]) (by
    rw [sIf_f (by
      simp only [bOr_s, b2_s, hlc, dCall_s, lCons_s, lNil_s, mkT_s, vR_s, List.getElem?_cons_zero, List.getElem?_cons_succ, Option.bind_some, w1, w2, n2, List.length_cons, List.length_nil, Nat.zero_add, Nat.reduceAdd, Nat.reduceLeDiff, if_true]
      simp [n1])]
    rfl)]
  rw [sSeq_nx (ρ' := [.fz S, .fz DR, .fz K, .fz (.int (k.top : Nat)), .fz (.int (k.start : Nat)), .fz (.int (k.up : Nat)), .fz (.int (k.down : Nat)), .fz (frD k.c), .fz KT, .fz (frD (y0 k.start)), .fz (frD (y1 k.start)), .fz (frD (y2 k.start)), .fz (.int (most : Nat)), .no, .no, .no, .no, .no, .no]) (by simp [e_mix, m0])]
  have hlc2 : dLc (iSeq (dCall (lCons (vR 2) (lCons (vR 12) lNil)) f_course)) (gT (gsCons (gN 16) (gsCons (gN 17) gsNil)) 2) bYes (mkT (lCons (vR 17) (lCons (vR 16) lNil))) [16, 17] [.fz S, .fz DR, .fz K, .fz (.int (k.top : Nat)), .fz (.int (k.start : Nat)), .fz (.int (k.up : Nat)), .fz (.int (k.down : Nat)), .fz (frD k.c), .fz KT, .fz (frD (y0 k.start)), .fz (frD (y1 k.start)), .fz (frD (y2 k.start)), .fz (.int (most : Nat)), .no, .no, .no, .no, .no, .no] =
      some (.list ((List.range most).map fun j => PyData.tuple [frD (dist k (j + 1) k.top), frD (dist k (j + 1) 0)])) := by
    refine dLc_of (ds := (List.range most).map fun j => PyData.tuple [frD (dist k (j + 1) 0), frD (dist k (j + 1) k.top)]) (by simp only [iSeq_s, dCall_s, lCons_s, lNil_s, vR_s, List.getElem?_cons_zero, List.getElem?_cons_succ, Option.bind_some, c1]; rfl) ?_ (by simp; omega)
    have := lcL_if2 (fun j : Nat => PyData.tuple [frD (dist k (j + 1) 0), frD (dist k (j + 1) k.top)]) (fun j : Nat => PyData.tuple [frD (dist k (j + 1) k.top), frD (dist k (j + 1) 0)]) (fun _ => true) (fun c => c) (g := gT (gsCons (gN 16) (gsCons (gN 17) gsNil)) 2) (ft := bYes) (fe := mkT (lCons (vR 17) (lCons (vR 16) lNil)))
      (ρ := wipeE [.fz S, .fz DR, .fz K, .fz (.int (k.top : Nat)), .fz (.int (k.start : Nat)), .fz (.int (k.up : Nat)), .fz (.int (k.down : Nat)), .fz (frD k.c), .fz KT, .fz (frD (y0 k.start)), .fz (frD (y1 k.start)), .fz (frD (y2 k.start)), .fz (.int (most : Nat)), .no, .no, .no, .no, .no, .no] [16, 17]) (List.range most) (fun i hi => ⟨_, by simp [wipeE]; rfl, rfl, fun _ => by simp⟩)
    rw [this, List.filter_eq_self.mpr (fun _ _ => rfl), List.map_id']
  have n3 := prs_self most fun j => (dist k (j + 1) k.top, dist k (j + 1) 0)
  rw [sSeq_nx (ρ' := [.fz S, .fz DR, .fz K, .fz (.int (k.top : Nat)), .fz (.int (k.start : Nat)), .fz (.int (k.up : Nat)), .fz (.int (k.down : Nat)), .fz (frD k.c), .fz KT, .fz (frD (y0 k.start)), .fz (frD (y1 k.start)), .fz (frD (y2 k.start)), .fz (.int (most : Nat)), .no, .no, .no, .no, .no, .no]) (by
    rw [sIf_f (by simp only [b2_s, hlc2, dCall_s, lCons_s, lNil_s, vR_s, List.getElem?_cons_zero, List.getElem?_cons_succ, Option.bind_some, c2, n3])]
    rfl)]
  have eby : (1 : Int) + (by0 : Nat) = ((1 + by0 : Nat) : Int) := by omega
  generalize hby : 1 + by0 = by_ at eby
  have by1 : 1 ≤ by_ := by omega
  have by3 : by_ ≤ 3 := by omega
  rw [sSeq_nx (ρ' := [.fz S, .fz DR, .fz K, .fz (.int (k.top : Nat)), .fz (.int (k.start : Nat)), .fz (.int (k.up : Nat)), .fz (.int (k.down : Nat)), .fz (frD k.c), .fz KT, .fz (frD (y0 k.start)), .fz (frD (y1 k.start)), .fz (frD (y2 k.start)), .fz (.int (most : Nat)), .fz (.int (by_ : Nat)), .no, .no, .no, .no, .no]) (by simp [e_mix, m1, eby])]
  have mt : mulOk (by_ : Int) (k.top : Int) = true := mulOk64 (by omega) (by omega)
  have ms : mulOk (by_ : Int) (k.start : Int) = true := mulOk64 (by omega) (by omega)
  have mu : mulOk (by_ : Int) (k.up : Int) = true := mulOk64 (by omega) (by omega)
  have md : mulOk (by_ : Int) (k.down : Int) = true := mulOk64 (by omega) (by omega)
  have mm : mulOk (by_ : Int) (if (k.down : Int) > (k.up : Int) then (k.down : Int) else (k.up : Int)) = true := by split <;> assumption
  have wide : ∃ s14 : Slot, (sIf (bAnd (b2 leI (d2 mulI (vR 13) (vR 3)) (kD (.int 10))) (b2 leI (d2 mulI (vR 13) (d2 maxD2 (vR 5) (vR 6))) (kD (.int 6)))) (sSeq (sSet 14 (mkT (lCons (d2 mulI (vR 13) (vR 3)) (lCons (d2 mulI (vR 13) (vR 4)) (lCons (d2 mulI (vR 13) (vR 5)) (lCons (d2 mulI (vR 13) (vR 6)) (lCons (vR 7) lNil)))))))
   (sIf (bOr (b2 neD (dCall (lCons (vR 14) lNil) f_values) (mkT (lCons (vR 9) (lCons (vR 10) (lCons (vR 11) lNil))))) (b2 neD (dCall (lCons (vR 14) (lCons (vR 12) lNil)) f_course) (dCall (lCons (vR 2) (lCons (vR 12) lNil)) f_course))) (sRet (kD (.bool false))) sNx)) sNx) [.fz S, .fz DR, .fz K, .fz (.int (k.top : Nat)), .fz (.int (k.start : Nat)), .fz (.int (k.up : Nat)), .fz (.int (k.down : Nat)), .fz (frD k.c), .fz KT, .fz (frD (y0 k.start)), .fz (frD (y1 k.start)), .fz (frD (y2 k.start)), .fz (.int (most : Nat)), .fz (.int (by_ : Nat)), .no, .no, .no, .no, .no] =
      some (.nx [.fz S, .fz DR, .fz K, .fz (.int (k.top : Nat)), .fz (.int (k.start : Nat)), .fz (.int (k.up : Nat)), .fz (.int (k.down : Nat)), .fz (frD k.c), .fz KT, .fz (frD (y0 k.start)), .fz (frD (y1 k.start)), .fz (frD (y2 k.start)), .fz (.int (most : Nat)), .fz (.int (by_ : Nat)), s14, .no, .no, .no, .no]) := by
    by_cases hc1 : (by_ : Int) * (k.top : Int) ≤ 10
    · by_cases hc2 : (by_ : Int) * (if (k.down : Int) > (k.up : Int) then (k.down : Int) else (k.up : Int)) ≤ 6
      · have hn1 : by_ * k.top ≤ 10 := by rw [← Int.natCast_mul] at hc1; omega
        have mono : ∀ x : Nat, (x : Int) ≤ (if (k.down : Int) > (k.up : Int) then (k.down : Int) else (k.up : Int)) → by_ * x ≤ 6 := fun x hx => by
          have h5 := Int.mul_le_mul_of_nonneg_left hx (show (0 : Int) ≤ by_ by omega)
          rw [← Int.natCast_mul] at h5
          omega
        have hn2 := mono k.up (by split <;> omega)
        have hn3 := mono k.down (by split <;> omega)
        have hW := wide_ok by_ k h by1 hn1 hn2 hn3
        obtain ⟨x0, x1, x2, X⟩ := vals _ hW
        have ex0 : ∀ t, x0 ((by_ : Int) * t) = y0 t := sol_uniq h (wide_sol by1 X.s0) V.s0
        have ex1 : ∀ t, x1 ((by_ : Int) * t) = y1 t := sol_uniq h (wide_sol by1 X.s1) V.s1
        have ex2 : ∀ t, x2 ((by_ : Int) * t) = y2 t := sol_uniq h (wide_sol by1 X.s2) V.s2
        have ws : ((wideW by_ k).start : Int) = (by_ : Int) * (k.start : Int) := by
          show ((by_ * k.start : Nat) : Int) = _
          rw [Int.natCast_mul]
        have wt : ((wideW by_ k).top : Int) = (by_ : Int) * (k.top : Int) := by
          show ((by_ * k.top : Nat) : Int) = _
          rw [Int.natCast_mul]
        have wu : ((wideW by_ k).up : Int) = (by_ : Int) * (k.up : Int) := by
          show ((by_ * k.up : Nat) : Int) = _
          rw [Int.natCast_mul]
        have wd : ((wideW by_ k).down : Int) = (by_ : Int) * (k.down : Int) := by
          show ((by_ * k.down : Nat) : Int) = _
          rw [Int.natCast_mul]
        have X1 := X.one
        rw [ws, ex0, ex1, ex2] at X1
        have c3 := course_eq _ hW most (by omega)
        have ec3 : ((List.range most).map fun j => PyData.tuple [frD (dist (wideW by_ k) (j + 1) 0), frD (dist (wideW by_ k) (j + 1) (wideW by_ k).top)]) = (List.range most).map fun j => PyData.tuple [frD (dist k (j + 1) 0), frD (dist k (j + 1) k.top)] := List.map_congr_left fun j _ => by
          have d1 := (dist_wide by_ k by1 (j + 1)).1 k.top
          have d2 := (dist_wide by_ k by1 (j + 1)).1 0
          rw [Int.mul_zero] at d2
          rw [wt, d1, d2]
        rw [ec3] at c3
        have eK : PyData.tuple [.int ((by_ : Int) * (k.top : Int)), .int ((by_ : Int) * (k.start : Int)), .int ((by_ : Int) * (k.up : Int)), .int ((by_ : Int) * (k.down : Int)), frD k.c] = wkD (wideW by_ k) := by
          unfold wkD
          rw [ws, wt, wu, wd]
          rfl
        have n4 := tr_self (y0 k.start) (y1 k.start) (y2 k.start)
        have n5 := prs_self most fun j => (dist k (j + 1) 0, dist k (j + 1) k.top)
        generalize hKW : wkD (wideW by_ k) = KW at *
        refine ⟨.fz KW, ?_⟩
        rw [sIf_t (by simp only [bAnd_s, b2_s, d2_s, vR_s, kD_s, List.getElem?_cons_zero, List.getElem?_cons_succ, Option.bind_some, maxD2_i, mulI_i, mt, mm, if_true, leI_s, decide_eq_true hc1, decide_eq_true hc2])]
        rw [sSeq_nx (ρ' := [.fz S, .fz DR, .fz K, .fz (.int (k.top : Nat)), .fz (.int (k.start : Nat)), .fz (.int (k.up : Nat)), .fz (.int (k.down : Nat)), .fz (frD k.c), .fz KT, .fz (frD (y0 k.start)), .fz (frD (y1 k.start)), .fz (frD (y2 k.start)), .fz (.int (most : Nat)), .fz (.int (by_ : Nat)), .fz KW, .no, .no, .no, .no]) (by
          simp only [sSet_s, mkT_s, lCons_s, lNil_s, d2_s, vR_s, List.getElem?_cons_zero, List.getElem?_cons_succ, Option.bind_some, mulI_i, mt, ms, mu, md, if_true, List.length_cons, List.length_nil, Nat.zero_add, Nat.reduceAdd, Nat.reduceLeDiff, List.set_cons_zero, List.set_cons_succ, eK])]
        rw [sIf_f (by
          simp only [bOr_s, b2_s, dCall_s, lCons_s, lNil_s, mkT_s, vR_s, List.getElem?_cons_zero, List.getElem?_cons_succ, Option.bind_some, X1, c1, c3, n5, List.length_cons, List.length_nil, Nat.zero_add, Nat.reduceAdd, Nat.reduceLeDiff, if_true]
          simp [n4])]
        rfl
      · refine ⟨.no, ?_⟩
        rw [sIf_f (by simp only [bAnd_s, b2_s, d2_s, vR_s, kD_s, List.getElem?_cons_zero, List.getElem?_cons_succ, Option.bind_some, maxD2_i, mulI_i, mt, mm, if_true, leI_s, decide_eq_true hc1, decide_eq_false hc2])]
        rfl
    · refine ⟨.no, ?_⟩
      rw [sIf_f (by simp only [bAnd_s, b2_s, d2_s, vR_s, kD_s, List.getElem?_cons_zero, List.getElem?_cons_succ, Option.bind_some, maxD2_i, mulI_i, mt, mm, if_true, leI_s]; simp [hc1])]
      rfl
  obtain ⟨s14, wide⟩ := wide
  rw [sSeq_nx wide]
  have more : ∃ s15 : Slot, (sIf (b2 ltI (d2 ixD (vR 7) (kD (.int 0))) (d2 ixD (vR 7) (kD (.int 1)))) (sSeq (sSet 15 (mkT (lCons (vR 3) (lCons (vR 4) (lCons (vR 5) (lCons (vR 6) (lCons (dCall (lCons (dCall (lCons (vR 7) (lCons (mkT (lCons (kD (.int 1)) (lCons (kD (.int 1)) lNil))) lNil)) f__law_plus) (lCons (mkT (lCons (kD (.int 2)) (lCons (kD (.int 1)) lNil))) lNil)) f__law_over) lNil)))))))
   (sIf (b1 truD (dCall (lCons (vR 9) (lCons (d2 ixD (dCall (lCons (vR 15) lNil) f_values) (kD (.int 0))) lNil)) f__law_less)) (sRet (kD (.bool false))) sNx)) sNx) [.fz S, .fz DR, .fz K, .fz (.int (k.top : Nat)), .fz (.int (k.start : Nat)), .fz (.int (k.up : Nat)), .fz (.int (k.down : Nat)), .fz (frD k.c), .fz KT, .fz (frD (y0 k.start)), .fz (frD (y1 k.start)), .fz (frD (y2 k.start)), .fz (.int (most : Nat)), .fz (.int (by_ : Nat)), s14, .no, .no, .no, .no] =
      some (.nx [.fz S, .fz DR, .fz K, .fz (.int (k.top : Nat)), .fz (.int (k.start : Nat)), .fz (.int (k.up : Nat)), .fz (.int (k.down : Nat)), .fz (frD k.c), .fz KT, .fz (frD (y0 k.start)), .fz (frD (y1 k.start)), .fz (frD (y2 k.start)), .fz (.int (most : Nat)), .fz (.int (by_ : Nat)), s14, s15, .no, .no, .no]) := by
    have i0 : ixD (frD k.c) (.int 0) = some (.int k.c.num) := rfl
    have i1 : ixD (frD k.c) (.int 1) = some (.int (k.c.den : Int)) := rfl
    by_cases hlt : k.c.num < (k.c.den : Int)
    · have k0 := h.c0
      have k1 := h.c1
      have hM : WOk (moreW ((k.c + 1) / 2) k) := ⟨h.t2, h.t10, h.s1, h.st, h.u1, h.u6, h.d1, h.d6, by show 0 ≤ (k.c + 1) / 2; grind, by show (k.c + 1) / 2 ≤ 1; grind, Nat.le_trans (den_more k.c) (by omega)⟩
      obtain ⟨x0, x1, x2, X⟩ := vals _ hM
      have le := more_le h hM (by grind) V.s0 X.s0 k.start
      have X1 : f_values [wkD (moreW ((k.c + 1) / 2) k)] = some (tri (x0 k.start) (x1 k.start) (x2 k.start)) := X.one
      have p1 := lp_eq lowA_eq k.c 1 (hsk.1.sq (by decide)) so
      have p2 := lo_eq lowA_eq (k.c + 1) 2 ((hsk.1.add (Sk_int (n := 1) (a := 1) (by decide) (by decide))).sq (by decide)) stw (by decide)
      have eK : PyData.tuple [.int (k.top : Nat), .int (k.start : Nat), .int (k.up : Nat), .int (k.down : Nat), frD ((k.c + 1) / 2)] = wkD (moreW ((k.c + 1) / 2) k) := rfl
      have ls := ll_eq (y0 k.start) (x0 k.start) (V.sz.1.sq (by decide)) (X.sz.1.sq (by decide))
      have nl : ¬ y0 k.start < x0 k.start := by grind
      rw [decide_eq_false nl] at ls
      generalize hKM : wkD (moreW ((k.c + 1) / 2) k) = KM at *
      refine ⟨.fz KM, ?_⟩
      rw [sIf_t (by simp only [b2_s, d2_s, vR_s, kD_s, List.getElem?_cons_zero, List.getElem?_cons_succ, Option.bind_some, i0, i1, ltI_s, decide_eq_true hlt])]
      rw [sSeq_nx (ρ' := [.fz S, .fz DR, .fz K, .fz (.int (k.top : Nat)), .fz (.int (k.start : Nat)), .fz (.int (k.up : Nat)), .fz (.int (k.down : Nat)), .fz (frD k.c), .fz KT, .fz (frD (y0 k.start)), .fz (frD (y1 k.start)), .fz (frD (y2 k.start)), .fz (.int (most : Nat)), .fz (.int (by_ : Nat)), s14, .fz KM, .no, .no, .no]) (by
        simp only [sSet_s, mkT_s, lCons_s, lNil_s, dCall_s, vR_s, kD_s, List.getElem?_cons_zero, List.getElem?_cons_succ, Option.bind_some, List.length_cons, List.length_nil, Nat.zero_add, Nat.reduceAdd, Nat.reduceLeDiff, if_true, one_fr, two_fr, e_lplus, e_lover, p1, p2, List.set_cons_zero, List.set_cons_succ, eK])]
      have ix : ixD (tri (x0 k.start) (x1 k.start) (x2 k.start)) (.int 0) = some (frD (x0 k.start)) := rfl
      rw [sIf_f (by
        simp only [b1_s, dCall_s, lCons_s, lNil_s, d2_s, vR_s, kD_s, List.getElem?_cons_zero, List.getElem?_cons_succ, Option.bind_some, X1, ix, e_lless, ls]
        rfl)]
      rfl
    · refine ⟨.no, ?_⟩
      rw [sIf_f (by simp only [b2_s, d2_s, vR_s, kD_s, List.getElem?_cons_zero, List.getElem?_cons_succ, Option.bind_some, i0, i1, ltI_s, decide_eq_false hlt])]
      rfl
  obtain ⟨s15, more⟩ := more
  rw [sSeq_nx more]
  have eo := enc_fr.eq_self (by decide) (1 : Rat)
  simp only [sRet_s, bV_s, b2_s, dCall_s, lCons_s, lNil_s, mkT_s, vR_s, kD_s, List.getElem?_cons_zero, List.getElem?_cons_succ, Option.bind_some, List.length_cons, List.length_nil, Nat.zero_add, Nat.reduceAdd, Nat.reduceLeDiff, if_true, one_fr, e_lplus, lp, eo]
theorem law_true (ns : List Int) (hn : ns.length ≤ 63) : f_law [scrD ns] = some (.bool true) := by
  obtain ⟨dr, hdr, hd⟩ := draws_ok ns hn
  obtain ⟨k, h, h9, hw⟩ := walk_ok dr hd
  exact law_core k h h9 dr hd _ (by rw [e_draws]; exact hdr) hw
end Zx.k76
namespace Zx.k76
open PySem PySem.Spec PyProof.Rows L2 Zx
/-! ### the head -/
def d__law_draws : He.DefD := ⟨("_law_draws", none), "_law_draws", "_law_draws", defArgs (topOf PR 29), defBody (topOf PR 29), defScope (topOf PR 29), [], []⟩
def d__law_gcd : He.DefD := ⟨("_law_gcd", none), "_law_gcd", "_law_gcd", defArgs (topOf PR 31), defBody (topOf PR 31), defScope (topOf PR 31), [], []⟩
def d__law_low : He.DefD := ⟨("_law_low", none), "_law_low", "_law_low", defArgs (topOf PR 32), defBody (topOf PR 32), defScope (topOf PR 32), [], []⟩
def d__law_mix : He.DefD := ⟨("_law_mix", none), "_law_mix", "_law_mix", defArgs (topOf PR 30), defBody (topOf PR 30), defScope (topOf PR 30), [], []⟩
def d__law_walk : He.DefD := ⟨("_law_walk", none), "_law_walk", "_law_walk", defArgs (topOf PR 38), defBody (topOf PR 38), defScope (topOf PR 38), [], []⟩
def d_is_fraction : He.DefD := ⟨("is_fraction", none), "is_fraction", "is_fraction", defArgs (topOf PR 8), defBody (topOf PR 8), defScope (topOf PR 8), [], []⟩
def d_is_share : He.DefD := ⟨("is_share", none), "is_share", "is_share", defArgs (topOf PR 15), defBody (topOf PR 15), defScope (topOf PR 15), [], []⟩
def d_check_walk : He.DefD := ⟨("check_walk", none), "check_walk", "check_walk", defArgs (topOf PR 20), defBody (topOf PR 20), defScope (topOf PR 20), [], []⟩
def d_fraction : He.DefD := ⟨("fraction", none), "fraction", "fraction", defArgs (topOf PR 9), defBody (topOf PR 9), defScope (topOf PR 9), [], []⟩
def d_minus : He.DefD := ⟨("minus", none), "minus", "minus", defArgs (topOf PR 11), defBody (topOf PR 11), defScope (topOf PR 11), [], []⟩
def d_behind : He.DefD := ⟨("behind", none), "behind", "behind", defArgs (topOf PR 22), defBody (topOf PR 22), defScope (topOf PR 22), [], []⟩
def d_plus : He.DefD := ⟨("plus", none), "plus", "plus", defArgs (topOf PR 10), defBody (topOf PR 10), defScope (topOf PR 10), [], []⟩
def d_rows_of : He.DefD := ⟨("rows_of", none), "rows_of", "rows_of", defArgs (topOf PR 23), defBody (topOf PR 23), defScope (topOf PR 23), [], []⟩
def d_over : He.DefD := ⟨("over", none), "over", "over", defArgs (topOf PR 13), defBody (topOf PR 13), defScope (topOf PR 13), [], []⟩
def d_times : He.DefD := ⟨("times", none), "times", "times", defArgs (topOf PR 12), defBody (topOf PR 12), defScope (topOf PR 12), [], []⟩
def d_values_of : He.DefD := ⟨("values_of", none), "values_of", "values_of", defArgs (topOf PR 24), defBody (topOf PR 24), defScope (topOf PR 24), [], []⟩
def d_values : He.DefD := ⟨("values", none), "values", "values", defArgs (topOf PR 25), defBody (topOf PR 25), defScope (topOf PR 25), [], []⟩
def d__law_minus : He.DefD := ⟨("_law_minus", none), "_law_minus", "_law_minus", defArgs (topOf PR 36), defBody (topOf PR 36), defScope (topOf PR 36), [], []⟩
def d_check_most : He.DefD := ⟨("check_most", none), "check_most", "check_most", defArgs (topOf PR 21), defBody (topOf PR 21), defScope (topOf PR 21), [], []⟩
def d_course : He.DefD := ⟨("course", none), "course", "course", defArgs (topOf PR 27), defBody (topOf PR 27), defScope (topOf PR 27), [], []⟩
def d__law_less : He.DefD := ⟨("_law_less", none), "_law_less", "_law_less", defArgs (topOf PR 35), defBody (topOf PR 35), defScope (topOf PR 35), [], []⟩
def d__law_plus : He.DefD := ⟨("_law_plus", none), "_law_plus", "_law_plus", defArgs (topOf PR 33), defBody (topOf PR 33), defScope (topOf PR 33), [], []⟩
def d_all_values : He.DefD := ⟨("all_values", none), "all_values", "all_values", defArgs (topOf PR 26), defBody (topOf PR 26), defScope (topOf PR 26), [], []⟩
def d__law_over : He.DefD := ⟨("_law_over", none), "_law_over", "_law_over", defArgs (topOf PR 37), defBody (topOf PR 37), defScope (topOf PR 37), [], []⟩
def d_law : He.DefD := ⟨("law", none), "law", "law", defArgs (topOf PR 39), defBody (topOf PR 39), defScope (topOf PR 39), [], []⟩
def fn : List He.DefD := [d__law_draws, d__law_gcd, d__law_low, d__law_mix, d__law_walk, d_is_fraction, d_is_share, d_check_walk, d_fraction, d_minus, d_behind, d_plus, d_rows_of, d_over, d_times, d_values_of, d_values, d__law_minus, d_check_most, d_course, d__law_less, d__law_plus, d_all_values, d__law_over, d_law]
def fa : List He.Fa := [.glo "_law_draws", .glo "_law_gcd", .glo "_law_low", .glo "_law_mix", .glo "_law_walk", .glo "is_fraction", .glo "is_share", .glo "check_walk", .glo "fraction", .glo "minus", .glo "behind", .glo "plus", .glo "rows_of", .glo "over", .glo "times", .glo "values_of", .glo "values", .glo "_law_minus", .glo "check_most", .glo "course", .glo "_law_less", .glo "_law_plus", .glo "all_values", .glo "_law_over", .glo "law", .free "abs", .free "int", .free "len", .free "max", .free "min", .free "range", .free "sorted", .free "zip", .int "MOST_PIECES" (12), .int "MOST_STEP" (6), .int "MOST_TOP" (10)]
def loose : List PySem.Str := (["__name__", "WareError", "OutOfRange", "BadFraction", "BadStart", "BadStep", "is_fraction", "fraction", "plus", "minus", "times", "over", "is_share", "MOST_TOP", "MOST_STEP", "MOST_PIECES", "check_walk", "check_most", "behind", "rows_of", "values_of", "values", "all_values", "course", "_law_draws", "_law_mix", "_law_gcd", "_law_low", "_law_plus", "_law_times"] : List PySem.Str) ++ (["_law_less", "_law_minus", "_law_over", "_law_walk"] : List PySem.Str)
abbrev R : PySem.W.OpenRow := PySem.W.OpenLaw.row PySem.Challenge.rw_triedwares_k76_whole_walks_turned_about
def ex (K : PySem.W.Frag) : Bool := He.eqO (PySem.W.nsIn K mainGlobals "gcd") (some (some (.builtin "math.gcd")))
abbrev hk : PySem.W.Hook := He.hookX 4 fa fn [] [] ex
def ob (s : PySem.W.SharedT) : He.AlX := He.obsX 4 fa fn [] [] ex (HandSHeadRun.getT s)
theorem ob_eq (s : PySem.W.SharedT) : ob s = hk.obs s.abs := He.obsX_eq (HandSHeadRun.getT_eq s)
theorem run (w : World) : HandSHeadRun.RunEqI R (PySem.W.view R.prog [0, 39]) hk ob 6000 loose w := by
  unfold HandSHeadRun.RunEqI
  kernel_rfl
theorem facts {w : World} {K : PySem.W.Frag} {mg : Str → Option Value} {h : Heap} {f : Addr} (X : K.In h) (G : h.Ns mainGlobals mg) (hfa : mg ("law" : Str) = some (.ref f)) (c : He.SaysD fa fn K) (hgcd : ex K = true) :
    ∃ fd : FuncData, (∀ (s : Shared) (v : Value), BindsTo s fd ⟨[v], []⟩ [("script", v)]) ∧ ∀ base : Heap, K.In base → base.Ns mainGlobals mg → FnOk PR w K mg base CX0 7 f fd ["script"] (spX K 1 f_law) := by
  obtain ⟨fd__law_draws, F__law_draws⟩ := c.def_ 0 (d := d__law_draws) rfl
  have m__law_draws := He.glo_ok X G (c.fact 0 (f := .glo "_law_draws") rfl)
  obtain ⟨fd__law_gcd, F__law_gcd⟩ := c.def_ 1 (d := d__law_gcd) rfl
  have m__law_gcd := He.glo_ok X G (c.fact 1 (f := .glo "_law_gcd") rfl)
  obtain ⟨fd__law_low, F__law_low⟩ := c.def_ 2 (d := d__law_low) rfl
  have m__law_low := He.glo_ok X G (c.fact 2 (f := .glo "_law_low") rfl)
  obtain ⟨fd__law_mix, F__law_mix⟩ := c.def_ 3 (d := d__law_mix) rfl
  have m__law_mix := He.glo_ok X G (c.fact 3 (f := .glo "_law_mix") rfl)
  obtain ⟨fd__law_walk, F__law_walk⟩ := c.def_ 4 (d := d__law_walk) rfl
  have m__law_walk := He.glo_ok X G (c.fact 4 (f := .glo "_law_walk") rfl)
  obtain ⟨fd_is_fraction, F_is_fraction⟩ := c.def_ 5 (d := d_is_fraction) rfl
  have m_is_fraction := He.glo_ok X G (c.fact 5 (f := .glo "is_fraction") rfl)
  obtain ⟨fd_is_share, F_is_share⟩ := c.def_ 6 (d := d_is_share) rfl
  have m_is_share := He.glo_ok X G (c.fact 6 (f := .glo "is_share") rfl)
  obtain ⟨fd_check_walk, F_check_walk⟩ := c.def_ 7 (d := d_check_walk) rfl
  have m_check_walk := He.glo_ok X G (c.fact 7 (f := .glo "check_walk") rfl)
  obtain ⟨fd_fraction, F_fraction⟩ := c.def_ 8 (d := d_fraction) rfl
  have m_fraction := He.glo_ok X G (c.fact 8 (f := .glo "fraction") rfl)
  obtain ⟨fd_minus, F_minus⟩ := c.def_ 9 (d := d_minus) rfl
  have m_minus := He.glo_ok X G (c.fact 9 (f := .glo "minus") rfl)
  obtain ⟨fd_behind, F_behind⟩ := c.def_ 10 (d := d_behind) rfl
  have m_behind := He.glo_ok X G (c.fact 10 (f := .glo "behind") rfl)
  obtain ⟨fd_plus, F_plus⟩ := c.def_ 11 (d := d_plus) rfl
  have m_plus := He.glo_ok X G (c.fact 11 (f := .glo "plus") rfl)
  obtain ⟨fd_rows_of, F_rows_of⟩ := c.def_ 12 (d := d_rows_of) rfl
  have m_rows_of := He.glo_ok X G (c.fact 12 (f := .glo "rows_of") rfl)
  obtain ⟨fd_over, F_over⟩ := c.def_ 13 (d := d_over) rfl
  have m_over := He.glo_ok X G (c.fact 13 (f := .glo "over") rfl)
  obtain ⟨fd_times, F_times⟩ := c.def_ 14 (d := d_times) rfl
  have m_times := He.glo_ok X G (c.fact 14 (f := .glo "times") rfl)
  obtain ⟨fd_values_of, F_values_of⟩ := c.def_ 15 (d := d_values_of) rfl
  have m_values_of := He.glo_ok X G (c.fact 15 (f := .glo "values_of") rfl)
  obtain ⟨fd_values, F_values⟩ := c.def_ 16 (d := d_values) rfl
  have m_values := He.glo_ok X G (c.fact 16 (f := .glo "values") rfl)
  obtain ⟨fd__law_minus, F__law_minus⟩ := c.def_ 17 (d := d__law_minus) rfl
  have m__law_minus := He.glo_ok X G (c.fact 17 (f := .glo "_law_minus") rfl)
  obtain ⟨fd_check_most, F_check_most⟩ := c.def_ 18 (d := d_check_most) rfl
  have m_check_most := He.glo_ok X G (c.fact 18 (f := .glo "check_most") rfl)
  obtain ⟨fd_course, F_course⟩ := c.def_ 19 (d := d_course) rfl
  have m_course := He.glo_ok X G (c.fact 19 (f := .glo "course") rfl)
  obtain ⟨fd__law_less, F__law_less⟩ := c.def_ 20 (d := d__law_less) rfl
  have m__law_less := He.glo_ok X G (c.fact 20 (f := .glo "_law_less") rfl)
  obtain ⟨fd__law_plus, F__law_plus⟩ := c.def_ 21 (d := d__law_plus) rfl
  have m__law_plus := He.glo_ok X G (c.fact 21 (f := .glo "_law_plus") rfl)
  obtain ⟨fd_all_values, F_all_values⟩ := c.def_ 22 (d := d_all_values) rfl
  have m_all_values := He.glo_ok X G (c.fact 22 (f := .glo "all_values") rfl)
  obtain ⟨fd__law_over, F__law_over⟩ := c.def_ 23 (d := d__law_over) rfl
  have m__law_over := He.glo_ok X G (c.fact 23 (f := .glo "_law_over") rfl)
  obtain ⟨fd_law, F_law⟩ := c.def_ 24 (d := d_law) rfl
  have h_abs := He.free_ok X G (c.fact 25 (f := .free "abs") rfl)
  have h_int := He.free_ok X G (c.fact 26 (f := .free "int") rfl)
  have h_len := He.free_ok X G (c.fact 27 (f := .free "len") rfl)
  have h_max := He.free_ok X G (c.fact 28 (f := .free "max") rfl)
  have h_min := He.free_ok X G (c.fact 29 (f := .free "min") rfl)
  have h_range := He.free_ok X G (c.fact 30 (f := .free "range") rfl)
  have h_sorted := He.free_ok X G (c.fact 31 (f := .free "sorted") rfl)
  have h_zip := He.free_ok X G (c.fact 32 (f := .free "zip") rfl)
  obtain ⟨t_MOST_PIECES, h_MOST_PIECES⟩ := He.int_ok X G (c.fact 33 (f := .int "MOST_PIECES" (12)) rfl)
  obtain ⟨t_MOST_STEP, h_MOST_STEP⟩ := He.int_ok X G (c.fact 34 (f := .int "MOST_STEP" (6)) rfl)
  obtain ⟨t_MOST_TOP, h_MOST_TOP⟩ := He.int_ok X G (c.fact 35 (f := .int "MOST_TOP" (10)) rfl)
  have h_gcd : mg "gcd" = some (.builtin "math.gcd") := PySem.W.mg_of X G (He.eqO_ok hgcd)
  have e := hfa.symm.trans (He.glo_ok X G (c.fact 24 (f := .glo "law") rfl))
  cases e
  have bl := FunD.bindsA (ps := ["script"]) F_law fun _ _ _ _ _ _ us hl => match us, hl with | [_], _ => rfl
  refine ⟨fd_law, fun s v => bl s [v] rfl, fun base _ _ => ?_⟩
  have c__law_draws : FX PR w K mg base 1 "_law_draws" 1 f__law_draws := fx_of F__law_draws sc__law_draws m__law_draws (fun _ _ _ _ _ _ us hl => match us, hl with | [_], _ => rfl) rfl (b__law_draws h_abs h_int h_len h_min h_range)
  have c__law_gcd : FX PR w K mg base 1 "_law_gcd" 2 f__law_gcd := fx_of F__law_gcd sc__law_gcd m__law_gcd (fun _ _ _ _ _ _ us hl => match us, hl with | [_, _], _ => rfl) rfl (b__law_gcd h_abs h_int)
  have c__law_low : FX PR w K mg base 2 "_law_low" 2 f__law_low := fx_of F__law_low sc__law_low m__law_low (fun _ _ _ _ _ _ us hl => match us, hl with | [_, _], _ => rfl) rfl (b__law_low h_int (c__law_gcd.mono (by decide)))
  have c__law_mix : FX PR w K mg base 1 "_law_mix" 3 f__law_mix := fx_of F__law_mix sc__law_mix m__law_mix (fun _ _ _ _ _ _ us hl => match us, hl with | [_, _, _], _ => rfl) rfl (b__law_mix h_int h_len)
  have c__law_walk : FX PR w K mg base 3 "_law_walk" 2 f__law_walk := fx_of F__law_walk sc__law_walk m__law_walk (fun _ _ _ _ _ _ us hl => match us, hl with | [_, _], _ => rfl) rfl (b__law_walk (c__law_low.mono (by decide)) (c__law_mix.mono (by decide)))
  have c_is_fraction : FX PR w K mg base 1 "is_fraction" 1 f_is_fraction := fx_of F_is_fraction sc_is_fraction m_is_fraction (fun _ _ _ _ _ _ us hl => match us, hl with | [_], _ => rfl) rfl (b_is_fraction h_gcd)
  have c_is_share : FX PR w K mg base 2 "is_share" 1 f_is_share := fx_of F_is_share sc_is_share m_is_share (fun _ _ _ _ _ _ us hl => match us, hl with | [_], _ => rfl) rfl (b_is_share (c_is_fraction.mono (by decide)))
  have c_check_walk : FX PR w K mg base 3 "check_walk" 1 f_check_walk := fx_of F_check_walk sc_check_walk m_check_walk (fun _ _ _ _ _ _ us hl => match us, hl with | [_], _ => rfl) rfl (b_check_walk h_MOST_STEP h_MOST_TOP (c_is_share.mono (by decide)))
  have c_fraction : FX PR w K mg base 1 "fraction" 2 f_fraction := fx_of F_fraction sc_fraction m_fraction (fun _ _ _ _ _ _ us hl => match us, hl with | [_, _], _ => rfl) rfl (b_fraction h_gcd)
  have c_minus : FX PR w K mg base 2 "minus" 2 f_minus := fx_of F_minus sc_minus m_minus (fun _ _ _ _ _ _ us hl => match us, hl with | [_, _], _ => rfl) rfl (b_minus (c_fraction.mono (by decide)))
  have c_behind : FX PR w K mg base 3 "behind" 2 f_behind := fx_of F_behind sc_behind m_behind (fun _ _ _ _ _ _ us hl => match us, hl with | [_, _], _ => rfl) rfl (b_behind (c_minus.mono (by decide)))
  have c_plus : FX PR w K mg base 2 "plus" 2 f_plus := fx_of F_plus sc_plus m_plus (fun _ _ _ _ _ _ us hl => match us, hl with | [_, _], _ => rfl) rfl (b_plus (c_fraction.mono (by decide)))
  have c_rows_of : FN PR w K mg base 4 "rows_of" 1 f_rows_of := fn_of' F_rows_of sc_rows_of m_rows_of (fun _ _ _ _ _ _ us hl => match us, hl with | [_], _ => rfl) rfl (b_rows_of h_int h_range (c_behind.mono (by decide)) (c_minus.mono (by decide)) (c_plus.mono (by decide)))
  have c_over : FX PR w K mg base 2 "over" 2 f_over := fx_of F_over sc_over m_over (fun _ _ _ _ _ _ us hl => match us, hl with | [_, _], _ => rfl) rfl (b_over (c_fraction.mono (by decide)))
  have c_times : FX PR w K mg base 2 "times" 2 f_times := fx_of F_times sc_times m_times (fun _ _ _ _ _ _ us hl => match us, hl with | [_, _], _ => rfl) rfl (b_times (c_fraction.mono (by decide)))
  have c_values_of : FX PR w K mg base 5 "values_of" 1 f_values_of := fx_of F_values_of sc_values_of m_values_of (fun _ _ _ _ _ _ us hl => match us, hl with | [_], _ => rfl) rfl (b_values_of h_len h_range h_zip (c_minus.mono (by decide)) (c_over.mono (by decide)) (c_rows_of.mono (by decide)) (c_times.mono (by decide)))
  have c_values : FX PR w K mg base 6 "values" 1 f_values := fx_of F_values sc_values m_values (fun _ _ _ _ _ _ us hl => match us, hl with | [_], _ => rfl) rfl (b_values (c_check_walk.mono (by decide)) (c_values_of.mono (by decide)))
  have c__law_minus : FX PR w K mg base 3 "_law_minus" 2 f__law_minus := fx_of F__law_minus sc__law_minus m__law_minus (fun _ _ _ _ _ _ us hl => match us, hl with | [_, _], _ => rfl) rfl (b__law_minus (c__law_low.mono (by decide)))
  have c_check_most : FX PR w K mg base 1 "check_most" 1 f_check_most := fx_of F_check_most sc_check_most m_check_most (fun _ _ _ _ _ _ us hl => match us, hl with | [_], _ => rfl) rfl (b_check_most h_MOST_PIECES)
  have c_course : FX PR w K mg base 4 "course" 2 f_course := fx_of F_course sc_course m_course (fun _ _ _ _ _ _ us hl => match us, hl with | [_, _], _ => rfl) rfl (b_course h_int h_range h_sorted (c_behind.mono (by decide)) (c_check_most.mono (by decide)) (c_check_walk.mono (by decide)) (c_plus.mono (by decide)) (c_times.mono (by decide)))
  have c__law_less : FX PR w K mg base 1 "_law_less" 2 f__law_less := fx_of F__law_less sc__law_less m__law_less (fun _ _ _ _ _ _ us hl => match us, hl with | [_, _], _ => rfl) rfl (b__law_less )
  have c__law_plus : FX PR w K mg base 3 "_law_plus" 2 f__law_plus := fx_of F__law_plus sc__law_plus m__law_plus (fun _ _ _ _ _ _ us hl => match us, hl with | [_, _], _ => rfl) rfl (b__law_plus (c__law_low.mono (by decide)))
  have c_all_values : FX PR w K mg base 6 "all_values" 1 f_all_values := fx_of F_all_values sc_all_values m_all_values (fun _ _ _ _ _ _ us hl => match us, hl with | [_], _ => rfl) rfl (b_all_values (c_check_walk.mono (by decide)) (c_values_of.mono (by decide)))
  have c__law_over : FX PR w K mg base 3 "_law_over" 2 f__law_over := fx_of F__law_over sc__law_over m__law_over (fun _ _ _ _ _ _ us hl => match us, hl with | [_, _], _ => rfl) rfl (b__law_over (c__law_low.mono (by decide)))
  exact fo_of F_law sc_law (fun _ _ _ _ _ _ us hl => match us, hl with | [_], _ => rfl) rfl (b_law h_max (c__law_draws.mono (by decide)) (c__law_less.mono (by decide)) (c__law_minus.mono (by decide)) (c__law_mix.mono (by decide)) (c__law_over.mono (by decide)) (c__law_plus.mono (by decide)) (c__law_walk.mono (by decide)) (c_all_values.mono (by decide)) (c_course.mono (by decide)) (c_values.mono (by decide)))
end Zx.k76
open PySem PySem.W PySem.Calls PyProof.Rows
theorem PySem.Challenge.cw_triedwares_k76_whole_walks_turned_about_holds : PySem.Challenge.rw_triedwares_k76_whole_walks_turned_about.Holds := by
  w_on; o_law
  refine HandSHeadRun.head_imp (r := OpenLaw.row PySem.Challenge.rw_triedwares_k76_whole_walks_turned_about) (q := view (OpenLaw.row PySem.Challenge.rw_triedwares_k76_whole_walks_turned_about).prog [0, 39]) (H := Zx.k76.hk) (ob := Zx.k76.ob) (M := 6000) (loose := Zx.k76.loose) (d := HandSHeadRun.topDef (OpenLaw.row PySem.Challenge.rw_triedwares_k76_whole_walks_turned_about).prog 39) (kwd := []) Zx.k76.ob_eq Zx.k76.run
    (by kernel_rfl) (by kernel_rfl) (by kernel_rfl) (by rfl) (by first | assumption | decide +kernel) (by decide +kernel) ⟨rfl, rfl, rfl, rfl, rfl, by decide +kernel⟩ ?hw ?hc
  case hw => w_witness2
  case hc =>
    refine L2.walk_ofE (l := PySem.Challenge.rw_triedwares_k76_whole_walks_turned_about) (n := 63) (k := 7) (x := "script") (CX := L2.CX0) rfl (by decide) (by kernel_rfl) ⟨rfl, by decide, by decide⟩ ?F (fun _ _ _ _ z => z)
    intro w mg fa h Y G hmg0
    obtain ⟨K, KX, c⟩ := Y
    have hmg : mg ("law" : PySem.Str) = some (.ref fa) := by
      have e : (HandSHeadRun.topDef (OpenLaw.row PySem.Challenge.rw_triedwares_k76_whole_walks_turned_about).prog 39).name = ("law" : PySem.Str) := by kernel_rfl
      rw [← e]
      exact hmg0
    obtain ⟨fd, hb, hF⟩ := Zx.k76.facts (w := w) KX G hmg c.t.d c.more
    refine ⟨K, fd, Zx.spX K 1 Zx.k76.f_law, KX, hb, fun H a ns hl _ hS => ?_, hF⟩
    exact ⟨H, [Zx.scrD ns], .bool true, Zx.Sub.refl H, .cons (.scr hS) .nil, rfl, Zx.k76.law_true ns hl, fun v F' H' x r => by cases r; rfl⟩
