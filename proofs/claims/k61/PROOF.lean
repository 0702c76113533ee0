import PyProof.Rows.All
import HandS.ForMost
import HandS.Wide
import HandS.Gcd
import HandS.Flow
import HandS.Style
import KE.DataCmp
import KE.DataEq
import KE.SortData
import KE.DataMinMax
import HandS.Star
import HandS.TupAny
import HandS.Deep
import HandS.NoneIn
import HandS.Conv
import HandS.Zip
import HandS.Iter
import HandS.Defaults
import HandS.DictTup
import HandS.SetFor
import HandS.Strs
import HandS.ListItems
import PyProof.Transfer
import HandS.DictComp
import HandS.Words
import KE.KDictSum
import PySem.Challenge.RW_triedwares_k61_whole_chains_put_together
import HandS.Ends
import HandS.More
import HandS.WordsExc
import HandS.Head0
import HandS.Head1
import HandS.Head2
import HandS.Head3
import HandS.HeadEnd
import HandS.HeadHook1
import HandS.HeadHook2
import HandS.HeadHook3
import HandS.HeadHook4
set_option Elab.async false
set_option linter.all false
set_option maxRecDepth 100000
set_option maxHeartbeats 0
/-! Zx: denotations over PyData for the hand layer's judgements. -/
namespace Zx
open PySem PySem.Spec L2
abbrev D := PyData

/-! ### heaps -/
def Sub (F H : Hp) : Prop := ∀ a o, F a = some o → H a = some o
theorem Sub.refl (F : Hp) : Sub F F := fun _ _ h => h
theorem Sub.trans {F G H : Hp} (a : Sub F G) (b : Sub G H) : Sub F H := fun x o h => b x o (a x o h)
theorem Sub.rd {F H : Hp} (s : Sub F H) {a : Addr} {u : HO} (h : Rd F a u) : Rd H a u := by
  rcases h with h | ⟨o, h⟩
  · exact .inl (s _ _ h)
  · exact .inr ⟨o, s _ _ h⟩
theorem Sub.free {F H : Hp} (s : Sub F H) {a : Addr} (h : H a = none) : F a = none := by
  cases e : F a with
  | none => rfl
  | some o => rw [s a o e] at h; cases h
theorem Sub.new {H : Hp} {p : Addr} {o : HO} (h : H p = none) : Sub H (upd H p o) := fun a u e => by
  rw [upd_ne (ne_of_none e h)]
  exact e

/-! ### what a value stands for -/
def keyD : Key → D
  | .inl i => .int i
  | .inr x => .str x
/-- the script -/
def scrD (ns : List Int) : D := .dict [(.none, .list (ns.map .int))]
mutual
inductive Rp (K : PySem.W.Frag) (F : Hp) : D → V → Prop
  | non : Rp K F .none .non
  | bl (b : Bool) : Rp K F (.bool b) (.bl b)
  | int (i : Int) : Rp K F (.int i) (.int i)
  | str (x : Str) : Rp K F (.str x) (.str x)
  | lst {a : Addr} {xs : List V} {ds : List D} : F a = some (.lst xs) → RpL K F ds xs → Rp K F (.list ds) (.ref a)
  | tup {a : Addr} {xs : List V} {ds : List D} : F a = some (.tup xs) → RpL K F ds xs → Rp K F (.tuple ds) (.ref a)
  | dK {a : Addr} {kvs : List (Key × V)} {kds : List (D × D)} : Rd F a (.dK kvs) → RpK K F kds kvs → Rp K F (.dict kds) (.ref a)
  | dT {a : Addr} {kvs : List (List Key × V)} {kds : List (D × D)} : Rd F a (.dT kvs) → RpT K F kds kvs → Rp K F (.dict ((.bool true, .none) :: kds)) (.ref a)
  | scr {a : Addr} {ns : List Int} : SqL K F a (ns.map V.int) → Rp K F (scrD ns) (.ref a)
inductive RpL (K : PySem.W.Frag) (F : Hp) : List D → List V → Prop
  | nil : RpL K F [] []
  | cons {d : D} {ds : List D} {v : V} {vs : List V} : Rp K F d v → RpL K F ds vs → RpL K F (d :: ds) (v :: vs)
inductive RpK (K : PySem.W.Frag) (F : Hp) : List (D × D) → List (Key × V) → Prop
  | nil : RpK K F [] []
  | cons {k : Key} {d : D} {kds : List (D × D)} {v : V} {kvs : List (Key × V)} : Rp K F d v → RpK K F kds kvs → RpK K F ((keyD k, d) :: kds) ((k, v) :: kvs)
inductive RpT (K : PySem.W.Frag) (F : Hp) : List (D × D) → List (List Key × V) → Prop
  | nil : RpT K F [] []
  | cons {k : List Key} {d : D} {kds : List (D × D)} {v : V} {kvs : List (List Key × V)} : Rp K F d v → RpT K F kds kvs → RpT K F ((.tuple (k.map keyD), d) :: kds) ((k, v) :: kvs)
end
section
variable {K : PySem.W.Frag} {F G H : Hp}
mutual
theorem Rp.mono (s : Sub F G) : ∀ {d : D} {v : V}, Rp K F d v → Rp K G d v
  | _, _, .non => .non
  | _, _, .bl b => .bl b
  | _, _, .int i => .int i
  | _, _, .str x => .str x
  | _, _, .lst h t => .lst (s _ _ h) (RpL.mono s t)
  | _, _, .tup h t => .tup (s _ _ h) (RpL.mono s t)
  | _, _, .dK h t => .dK (s.rd h) (RpK.mono s t)
  | _, _, .dT h t => .dT (s.rd h) (RpT.mono s t)
  | _, _, .scr h => .scr (by
      rcases h with h | h
      · exact .inl (s.rd h)
      · exact .inr h)
theorem RpL.mono (s : Sub F G) : ∀ {ds : List D} {vs : List V}, RpL K F ds vs → RpL K G ds vs
  | _, _, .nil => .nil
  | _, _, .cons h t => .cons (Rp.mono s h) (RpL.mono s t)
theorem RpK.mono (s : Sub F G) : ∀ {ds : List (D × D)} {vs : List (Key × V)}, RpK K F ds vs → RpK K G ds vs
  | _, _, .nil => .nil
  | _, _, .cons h t => .cons (Rp.mono s h) (RpK.mono s t)
theorem RpT.mono (s : Sub F G) : ∀ {ds : List (D × D)} {vs : List (List Key × V)}, RpT K F ds vs → RpT K G ds vs
  | _, _, .nil => .nil
  | _, _, .cons h t => .cons (Rp.mono s h) (RpT.mono s t)
end
theorem RpL.length : ∀ {ds : List D} {vs : List V}, RpL K F ds vs → vs.length = ds.length
  | _, _, .nil => rfl
  | _, _, .cons _ t => by rw [List.length_cons, List.length_cons, RpL.length t]
theorem RpL.append : ∀ {ds es : List D} {vs us : List V}, RpL K F ds vs → RpL K F es us → RpL K F (ds ++ es) (vs ++ us)
  | _, _, _, _, .nil, s => s
  | _, _, _, _, .cons h t, s => .cons h (RpL.append t s)
theorem RpL.get : ∀ {ds : List D} {vs : List V} {i : Nat} {d : D}, RpL K F ds vs → ds[i]? = some d → ∃ v, vs[i]? = some v ∧ Rp K F d v
  | _, _, _, _, .nil, e => by simp at e
  | _, _, 0, _, .cons h _, e => by
    simp at e; subst e; exact ⟨_, rfl, h⟩
  | _, _, i + 1, d, .cons _ t, e => by
    obtain ⟨u, h1, h2⟩ := RpL.get (i := i) (d := d) t (by simpa using e)
    exact ⟨u, by simpa using h1, h2⟩
theorem RpL.getV : ∀ {ds : List D} {vs : List V} {i : Nat} {v : V}, RpL K F ds vs → vs[i]? = some v → ∃ d, ds[i]? = some d ∧ Rp K F d v
  | _, _, _, _, .nil, e => by simp at e
  | _, _, 0, _, .cons h _, e => by
    simp at e; subst e; exact ⟨_, rfl, h⟩
  | _, _, i + 1, d, .cons _ t, e => by
    obtain ⟨u, h1, h2⟩ := RpL.getV (i := i) (v := d) t (by simpa using e)
    exact ⟨u, by simpa using h1, h2⟩
theorem RpL.take : ∀ {ds : List D} {vs : List V} (n : Nat), RpL K F ds vs → RpL K F (ds.take n) (vs.take n)
  | _, _, 0, _ => .nil
  | _, _, _ + 1, .nil => .nil
  | _, _, n + 1, .cons h t => .cons h (RpL.take n t)
theorem RpL.drop : ∀ {ds : List D} {vs : List V} (n : Nat), RpL K F ds vs → RpL K F (ds.drop n) (vs.drop n)
  | _, _, 0, h => h
  | _, _, _ + 1, .nil => .nil
  | _, _, n + 1, .cons _ t => RpL.drop n t
theorem RpL.set {d : D} {v : V} (r : Rp K F d v) : ∀ {ds : List D} {vs : List V} (i : Nat), RpL K F ds vs → RpL K F (ds.set i d) (vs.set i v)
  | _, _, _, .nil => .nil
  | _, _, 0, .cons _ t => .cons r t
  | _, _, i + 1, .cons q t => .cons q (RpL.set r i t)
theorem RpL.one {d : D} {v : V} (r : Rp K F d v) : RpL K F [d] [v] := .cons r .nil
theorem RpL.reverse : ∀ {ds : List D} {vs : List V}, RpL K F ds vs → RpL K F ds.reverse vs.reverse
  | _, _, .nil => .nil
  | _, _, .cons h t => by
    rw [List.reverse_cons, List.reverse_cons]
    exact RpL.append (RpL.reverse t) (.one h)
theorem RpL.ints : ∀ (ns : List Int), RpL K F (ns.map .int) (ns.map V.int)
  | [] => .nil
  | n :: ns => .cons (.int n) (RpL.ints ns)
theorem RpL.ints_inv : ∀ {ns : List Int} {vs : List V}, RpL K F (ns.map .int) vs → vs = ns.map V.int
  | [], _, .nil => rfl
  | n :: ns, _, .cons h t => by
    cases h
    rw [RpL.ints_inv t, List.map_cons]

/-- an owned container's object -/
inductive OwnRep (K : PySem.W.Frag) (F : Hp) : D → HO → Prop
  | lst {ds : List D} {xs : List V} : RpL K F ds xs → OwnRep K F (.list ds) (.lst xs)
  | dK {kds : List (D × D)} {kvs : List (Key × V)} : RpK K F kds kvs → OwnRep K F (.dict kds) (.dK kvs)
  | dT {kds : List (D × D)} {kvs : List (List Key × V)} : RpT K F kds kvs → OwnRep K F (.dict ((.bool true, .none) :: kds)) (.dT kvs)
theorem OwnRep.mono (s : Sub F G) {d : D} {o : HO} (h : OwnRep K F d o) : OwnRep K G d o := by
  cases h with
  | lst t => exact .lst (t.mono s)
  | dK t => exact .dK (t.mono s)
  | dT t => exact .dT (t.mono s)
/-- read where it is frozen or owned -/
def RpB (K : PySem.W.Frag) (F H : Hp) (d : D) (v : V) : Prop := Rp K F d v ∨ ∃ a o, v = .ref a ∧ F a = none ∧ H a = some o ∧ OwnRep K F d o
theorem RpB.of {d : D} {v : V} (h : Rp K F d v) : RpB K F H d v := .inl h
theorem RpB.list (s : Sub F H) {ds : List D} {v : V} (h : RpB K F H (.list ds) v) : ∃ a xs, v = .ref a ∧ H a = some (.lst xs) ∧ RpL K F ds xs := by
  rcases h with h | ⟨a, o, e, _, h1, h2⟩
  · cases h with
    | lst h1 h2 => exact ⟨_, _, rfl, s _ _ h1, h2⟩
  · cases h2 with
    | lst h2 => exact ⟨_, _, e, h1, h2⟩
theorem RpB.tuple (s : Sub F H) {ds : List D} {v : V} (h : RpB K F H (.tuple ds) v) : ∃ a xs, v = .ref a ∧ H a = some (.tup xs) ∧ RpL K F ds xs := by
  rcases h with h | ⟨a, o, e, _, h1, h2⟩
  · cases h with
    | tup h1 h2 => exact ⟨_, _, rfl, s _ _ h1, h2⟩
  · cases h2
theorem RpB.int {i : Int} {v : V} (h : RpB K F H (.int i) v) : v = .int i := by
  rcases h with h | ⟨a, o, e, _, h1, h2⟩
  · cases h; rfl
  · cases h2
theorem RpB.bool {i : Bool} {v : V} (h : RpB K F H (.bool i) v) : v = .bl i := by
  rcases h with h | ⟨a, o, e, _, h1, h2⟩
  · cases h; rfl
  · cases h2
theorem RpB.str {i : Str} {v : V} (h : RpB K F H (.str i) v) : v = .str i := by
  rcases h with h | ⟨a, o, e, _, h1, h2⟩
  · cases h; rfl
  · cases h2
theorem RpB.none' {v : V} (h : RpB K F H .none v) : v = .non := by
  rcases h with h | ⟨a, o, e, _, h1, h2⟩
  · cases h; rfl
  · cases h2
theorem RpB.isN {d : D} {v : V} (h : RpB K F H d v) : decide (v = .non) = (match d with | .none => true | _ => false) := by
  rcases h with h | ⟨a, o, e, _, h1, h2⟩
  · cases h <;> rfl
  · subst e
    cases h2 <;> rfl
end

/-! ### environments -/
inductive Slot where
  | no | fz (d : D) | ow (d : D)
abbrev Env := List Slot
def SlotOk (K : PySem.W.Frag) (F H : Hp) : Slot → Option V → Prop
  | .no, _ => True
  | .fz d, ov => ∃ v, ov = some v ∧ Rp K F d v
  | .ow d, ov => ∃ a o, ov = some (.ref a) ∧ F a = none ∧ H a = some o ∧ OwnRep K F d o
structure EnvOk (K : PySem.W.Frag) (ρ : Env) (σ : L2.St) (F H : Hp) : Prop where
  sub : Sub F H
  len : ρ.length = σ.length
  at_ : ∀ (i : Nat) s, ρ[i]? = some s → ∃ ov, σ[i]? = some ov ∧ SlotOk K F H s ov
  dist : ∀ (i j : Nat) d e a, ρ[i]? = some (.ow d) → ρ[j]? = some (.ow e) → σ[i]? = some (some (.ref a)) → σ[j]? = some (some (.ref a)) → i = j
structure Ext (F H F' H' : Hp) : Prop where
  f : Sub F F'
  h : Sub H H'
  le : Sub F' H'
  new : ∀ a, H a ≠ none → F a = none → F' a = none
section
variable {K : PySem.W.Frag} {ρ : Env} {σ : L2.St} {F H F' H' F'' H'' : Hp}
theorem Ext.refl (s : Sub F H) : Ext F H F H := ⟨Sub.refl _, Sub.refl _, s, fun _ _ h => h⟩
theorem Ext.trans (a : Ext F H F' H') (b : Ext F' H' F'' H'') : Ext F H F'' H'' :=
  ⟨a.f.trans b.f, a.h.trans b.h, b.le, fun x h1 h2 => b.new x (fun z => by
    cases e : H x with
    | none => exact h1 e
    | some o => rw [a.h x o e] at z; cases z) (a.new x h1 h2)⟩
/-- a new object that is frozen at once -/
theorem Ext.add (s : Sub F H) {p : Addr} {o : HO} (hp : H p = none) : Ext F H (upd F p o) (upd H p o) where
  f := Sub.new (s.free hp)
  h := Sub.new hp
  le := fun a u e => by
    by_cases h : a = p
    · subst h; rw [upd_same] at e ⊢; exact e
    · rw [upd_ne h] at e ⊢; exact s a u e
  new := fun a h1 h2 => by
    rw [upd_ne (fun z => h1 (by rw [z]; exact hp))]
    exact h2
/-- a new object that is not frozen -/
theorem Ext.own (s : Sub F H) {p : Addr} {o : HO} (hp : H p = none) : Ext F H F (upd H p o) :=
  ⟨Sub.refl _, Sub.new hp, s.trans (Sub.new hp), fun _ _ h => h⟩
theorem EnvOk.ext (e : EnvOk K ρ σ F H) (x : Ext F H F' H') : EnvOk K ρ σ F' H' where
  sub := x.le
  len := e.len
  dist := e.dist
  at_ := fun i s hs => by
    obtain ⟨ov, h1, h2⟩ := e.at_ i s hs
    refine ⟨ov, h1, ?_⟩
    cases s with
    | no => trivial
    | fz d =>
      obtain ⟨v, h3, h4⟩ := h2
      exact ⟨v, h3, h4.mono x.f⟩
    | ow d =>
      obtain ⟨a, o, h3, h4, h5, h6⟩ := h2
      exact ⟨a, o, h3, x.new a (by rw [h5]; exact fun z => nomatch z) h4, x.h _ _ h5, h6.mono x.f⟩
theorem RpB.ext {d : D} {v : V} (h : RpB K F H d v) (x : Ext F H F' H') : RpB K F' H' d v := by
  rcases h with h | ⟨a, o, e, h1, h2, h3⟩
  · exact .inl (h.mono x.f)
  · exact .inr ⟨a, o, e, x.new a (by rw [h2]; exact fun z => nomatch z) h1, x.h _ _ h2, h3.mono x.f⟩
end

/-! ### judgements of expressions -/
abbrev Den := Env → Option D
def tX (K : PySem.W.Frag) (f : Den) : TE := fun σ H Q => ∃ ρ F d, EnvOk K ρ σ F H ∧ f ρ = some d ∧ ∀ v F' H', Ext F H F' H' → Rp K F' d v → Q v H'
def tB' (K : PySem.W.Frag) (f : Den) : TE := fun σ H Q => ∃ ρ F d, EnvOk K ρ σ F H ∧ f ρ = some d ∧ ∀ v F' H', Ext F H F' H' → RpB K F' H' d v → Q v H'
def tN (K : PySem.W.Frag) (f : Den) : TE := fun σ H Q => ∃ ρ F d, EnvOk K ρ σ F H ∧ f ρ = some d ∧ ∀ a o F' H', Ext F H F' H' → F' a = none → H a = none → H' a = some o → OwnRep K F' d o → Q (.ref a) H'
def tTst (K : PySem.W.Frag) (f : Env → Option Bool) : TT := fun σ H Q => ∃ ρ F b, EnvOk K ρ σ F H ∧ f ρ = some b ∧ ∀ F' H', Ext F H F' H' → Q b H'
/-- a value, frozen -/
structure EX (X : Cx) (e : Expr) (f : Den) : Prop where
  pe : PE X e (tX X.K f)
/-- a value, perhaps a borrowed one -/
structure EB (X : Cx) (e : Expr) (f : Den) : Prop where
  pe : PE X e (tB' X.K f)
/-- a new list or dict -/
structure EN (X : Cx) (e : Expr) (f : Den) : Prop where
  pe : PE X e (tN X.K f)
/-- a test -/
structure ET (X : Cx) (e : Expr) (f : Env → Option Bool) : Prop where
  pt : PT X e (tTst X.K f)
theorem PE.imp {X : Cx} {e : Expr} {t t' : TE} (h : PE X e t) (i : ∀ σ H Q, t' σ H Q → t σ H Q) : PE X e t' := ⟨fun pins s σ H Q I hw => h.run pins s σ H Q I (i σ H Q hw)⟩
theorem PT.imp {X : Cx} {e : Expr} {t t' : TT} (h : PT X e t) (i : ∀ σ H Q, t' σ H Q → t σ H Q) : PT X e t' := ⟨fun pins s σ H Q I hw => h.run pins s σ H Q I (i σ H Q hw)⟩
theorem PI.imp {X : Cx} {tg e : Expr} {t t' : TI} (h : PI X tg e t) (i : ∀ σ H Q, t' σ H Q → t σ H Q) : PI X tg e t' := ⟨fun pins s σ H Q I hw => h.run pins s σ H Q I (i σ H Q hw)⟩
theorem PA.imp {X : Cx} {e : List Expr} {t t' : TA} (h : PA X e t) (i : ∀ σ H Q, t' σ H Q → t σ H Q) : PA X e t' := ⟨fun pos pins s σ H Q I hw => h.run pos pins s σ H Q I (i σ H Q hw)⟩
theorem PS.imp {X : Cx} {e : Stmt} {t t' : TS} (h : PS X e t) (i : ∀ D σ H, t' D σ H → t D σ H) : PS X e t' := ⟨fun pins s σ H D I hw => h.run pins s σ H D I (i D σ H hw)⟩
theorem PSs.imp {X : Cx} {e : List Stmt} {t t' : TS} (h : PSs X e t) (i : ∀ D σ H, t' D σ H → t D σ H) : PSs X e t' := ⟨fun pins s σ H D I hw => h.run pins s σ H D I (i D σ H hw)⟩
section
variable {X : Cx} {e : Expr} {f : Den}
theorem EX.b (h : EX X e f) : EB X e f := ⟨PE.imp h.pe fun σ H Q ⟨ρ, F, d, e1, e2, k⟩ => ⟨ρ, F, d, e1, e2, fun v F' H' x r => k v F' H' x (.inl r)⟩⟩
theorem EN.x (h : EN X e f) : EX X e f := ⟨PE.imp h.pe fun σ H Q ⟨ρ, F, d, e1, e2, k⟩ => ⟨ρ, F, d, e1, e2, fun a o F' H' x ha hn ho r => by
  have x' : Ext F H (upd F' a o) H' := ⟨x.f.trans (Sub.new ha), x.h, fun b u eb => by
      by_cases hb : b = a
      · subst hb; rw [upd_same] at eb; cases eb; exact ho
      · rw [upd_ne hb] at eb; exact x.le b u eb,
    fun b h1 h2 => by
      rw [upd_ne (fun z => h1 (by rw [z]; exact hn))]
      exact x.new b h1 h2⟩
  refine k _ _ _ x' ?_
  have s : Sub F' (upd F' a o) := Sub.new ha
  cases r with
  | lst t => exact .lst upd_same (t.mono s)
  | dK t => exact .dK (.inl upd_same) (t.mono s)
  | dT t => exact .dT (.inl upd_same) (t.mono s)⟩⟩
theorem EN.b (h : EN X e f) : EB X e f := h.x.b
end
end Zx
/-! Zx2: names, constants, displays, operators, comparisons. -/
namespace Zx
open PySem PySem.Spec L2
theorem line_of {n : Nat} (h : n ≤ 1000000) : n ≤ sizeLine := by rw [sizeLine_eq]; omega
theorem line_lt {n : Nat} (h : n < 1000000) : n < sizeLine := by rw [sizeLine_eq]; omega

/-! ### denotations -/
def vR (i : Nat) : Den := fun ρ => match ρ[i]? with | some (.fz d) => some d | _ => none
def vB (i : Nat) : Den := fun ρ => match ρ[i]? with | some (.fz d) => some d | some (.ow d) => some d | _ => none
def kD (d : D) : Den := fun _ => some d
def d1 (op : D → Option D) (f : Den) : Den := fun ρ => (f ρ).bind op
def d2 (op : D → D → Option D) (f g : Den) : Den := fun ρ => (f ρ).bind fun x => (g ρ).bind fun y => op x y
abbrev DenL := Env → Option (List D)
def lNil : DenL := fun _ => some []
def lCons (f : Den) (g : DenL) : DenL := fun ρ => (f ρ).bind fun x => (g ρ).bind fun xs => some (x :: xs)
def seqOf : D → Option (List D)
  | .list xs => some xs
  | .tuple xs => some xs
  | _ => none
def lStar (f : Den) (g : DenL) : DenL := fun ρ => (f ρ).bind fun x => (seqOf x).bind fun ys => (g ρ).bind fun xs => some (ys ++ xs)
def mkT (g : DenL) : Den := fun ρ => (g ρ).bind fun xs => if xs.length ≤ 1000000 then some (.tuple xs) else none
def mkL (g : DenL) : Den := fun ρ => (g ρ).bind fun xs => if xs.length ≤ 1000000 then some (.list xs) else none
/-- the bits of a factor -/
def mulOk (a b : Int) : Bool := decide (a.natAbs.log2 + b.natAbs.log2 < 100000000)
def addD : D → D → Option D
  | .int a, .int b => some (.int (a + b))
  | .list xs, .list ys => if xs.length + ys.length ≤ 1000000 then some (.list (xs ++ ys)) else none
  | .tuple xs, .tuple ys => if xs.length + ys.length ≤ 1000000 then some (.tuple (xs ++ ys)) else none
  | _, _ => none
def subD : D → D → Option D
  | .int a, .int b => some (.int (a - b))
  | _, _ => none
def mulD : D → D → Option D
  | .int a, .int b => if mulOk a b then some (.int (a * b)) else none
  | .list xs, .int k => if k.natAbs ≤ 1000000 ∧ xs.length * k.toNat ≤ 1000000 then some (.list (List.replicate k.toNat xs).flatten) else none
  | _, _ => none
def fdivD : D → D → Option D
  | .int a, .int b => if 0 < b ∧ b.natAbs.log2 < 9000 then some (.int (a / b)) else none
  | _, _ => none
def modD : D → D → Option D
  | .int a, .int b => if 0 < b then some (.int (a % b)) else none
  | _, _ => none
def powD : D → D → Option D
  | .int a, .int b => if 0 ≤ b ∧ b.natAbs ≤ 1000000 ∧ a.natAbs < 2 ^ 64 then some (.int (a ^ b.toNat)) else none
  | _, _ => none
def shlD : D → D → Option D
  | .int a, .int b => if 0 ≤ b ∧ b.natAbs ≤ 1000000 ∧ a.natAbs < 2 ^ 64 then some (.int (a * 2 ^ b.toNat)) else none
  | _, _ => none
def negD : D → Option D
  | .int a => some (.int (-a))
  | _ => none

section
variable {X : Cx} {a b : Expr} {f g : Den} {fl : DenL} {pos : Pos}
theorem mkX {e : Expr} {t : TE} (h : PE X e t) (i : ∀ σ H Q ρ F d, EnvOk X.K ρ σ F H → f ρ = some d → (∀ v F' H', Ext F H F' H' → Rp X.K F' d v → Q v H') → t σ H Q) : EX X e f :=
  ⟨PE.imp h fun σ H Q ⟨ρ, F, d, e1, e2, k⟩ => i σ H Q ρ F d e1 e2 k⟩
theorem mkN {e : Expr} {t : TE} (h : PE X e t) (i : ∀ σ H Q ρ F d, EnvOk X.K ρ σ F H → f ρ = some d → (∀ a o F' H', Ext F H F' H' → F' a = none → H a = none → H' a = some o → OwnRep X.K F' d o → Q (.ref a) H') → t σ H Q) : EN X e f :=
  ⟨PE.imp h fun σ H Q ⟨ρ, F, d, e1, e2, k⟩ => i σ H Q ρ F d e1 e2 k⟩
theorem mkBb {e : Expr} {t : TE} (h : PE X e t) (i : ∀ σ H Q ρ F d, EnvOk X.K ρ σ F H → f ρ = some d → (∀ v F' H', Ext F H F' H' → RpB X.K F' H' d v → Q v H') → t σ H Q) : EB X e f :=
  ⟨PE.imp h fun σ H Q ⟨ρ, F, d, e1, e2, k⟩ => i σ H Q ρ F d e1 e2 k⟩
theorem mkTs {e : Expr} {t : TT} {h' : Env → Option Bool} (h : PT X e t) (i : ∀ σ H Q ρ F b, EnvOk X.K ρ σ F H → h' ρ = some b → (∀ F' H', Ext F H F' H' → Q b H') → t σ H Q) : ET X e h' :=
  ⟨PT.imp h fun σ H Q ⟨ρ, F, d, e1, e2, k⟩ => i σ H Q ρ F d e1 e2 k⟩

/-! ### names -/
def visB (sc : Scope) (x : Str) : Bool := match sc.names.lookup x with | some .local => true | some .cell => true | some .free => true | _ => false
theorem vis_of {sc : Scope} {x : Str} (h : visB sc x = true) : Vis sc x := by
  unfold visB at h
  unfold Vis
  split at h
  · rename_i e; exact .inl e
  · rename_i e; exact .inr (.inl e)
  · rename_i e; exact .inr (.inr e)
  · cases h
theorem ex_var (i : Nat) {x : Str} (hN : X.N[i]? = some x) (hv : visB X.env.scope x = true) (hd : (x == ("__debug__" : Str)) = false) (hcd : (x == ("__classdict__" : Str)) = false) : EX X (.Name x pos) (vR i) :=
  mkX (pe_var hN (vis_of hv) hd hcd) fun σ H Q ρ F d e h k => by
    unfold vR at h
    split at h
    · rename_i d' hs
      cases h
      obtain ⟨ov, h1, v, h2, h3⟩ := e.at_ i _ hs
      subst h2
      exact ⟨v, h1, k v F H (.refl e.sub) h3⟩
    · cases h
theorem eb_var (i : Nat) {x : Str} (hN : X.N[i]? = some x) (hv : visB X.env.scope x = true) (hd : (x == ("__debug__" : Str)) = false) (hcd : (x == ("__classdict__" : Str)) = false) : EB X (.Name x pos) (vB i) :=
  mkBb (pe_var hN (vis_of hv) hd hcd) fun σ H Q ρ F d e h k => by
    unfold vB at h
    split at h
    · rename_i d' hs
      cases h
      obtain ⟨ov, h1, v, h2, h3⟩ := e.at_ i _ hs
      subst h2
      exact ⟨v, h1, k v F H (.refl e.sub) (.inl h3)⟩
    · rename_i d' hs
      cases h
      obtain ⟨ov, h1, a, o, h2, h3, h4, h5⟩ := e.at_ i _ hs
      subst h2
      exact ⟨_, h1, k _ F H (.refl e.sub) (.inr ⟨a, o, rfl, h3, h4, h5⟩)⟩
    · cases h
/-! ### constants -/
theorem ex_const {e : Expr} {v : V} (d : D) (h : PE X e (tC v)) (r : ∀ F, Rp X.K F d v) : EX X e (kD d) :=
  mkX h fun σ H Q ρ F d' e h k => by
    cases h
    exact k v F H (.refl e.sub) (r F)
theorem ex_int {i j} : EX X (.Constant (.int i) j pos) (kD (.int i)) := ex_const _ pe_int fun _ => .int i
theorem ex_bl {b j} : EX X (.Constant (.bool b) j pos) (kD (.bool b)) := ex_const _ pe_bl fun _ => .bl b
theorem ex_non {j} : EX X (.Constant .none j pos) (kD .none) := ex_const _ pe_non fun _ => .non
theorem ex_str {x j} : EX X (.Constant (.str x) j pos) (kD (.str x)) := ex_const _ pe_str fun _ => .str x
/-- an int constant of the module -/
theorem ex_glob {x : Str} {i : Int} {t : Tok} (hg : Gl X x) (hm : X.mg x = some (.int i t)) (hd : (x == ("__debug__" : Str)) = false) : EX X (.Name x pos) (kD (.int i)) := ex_const (v := .int i) _ (pe_glob hg hm ⟨t, rfl⟩ hd) fun _ => .int i
/-! ### displays -/
def tA (K : PySem.W.Frag) (f : DenL) : TA := fun σ H Q => ∃ ρ F ds, EnvOk K ρ σ F H ∧ f ρ = some ds ∧ ∀ vs F' H', Ext F H F' H' → RpL K F' ds vs → Q vs H'
structure EA (X : Cx) (es : List Expr) (f : DenL) : Prop where
  pa : PA X es (tA X.K f)
theorem mkA {es : List Expr} {t : TA} (h : PA X es t) (i : ∀ σ H Q ρ F d, EnvOk X.K ρ σ F H → fl ρ = some d → (∀ v F' H', Ext F H F' H' → RpL X.K F' d v → Q v H') → t σ H Q) : EA X es fl :=
  ⟨PA.imp h fun σ H Q ⟨ρ, F, d, e1, e2, k⟩ => i σ H Q ρ F d e1 e2 k⟩
theorem ea_nil : EA X [] lNil := mkA pa_nil fun σ H Q ρ F d e h k => by
  cases h
  exact k [] F H (.refl e.sub) .nil
theorem ea_cons {es : List Expr} (ha : EX X a f) (hr : EA X es fl) (hs : starEach (a :: es) X.env = (false, eval a X.env) :: starEach es X.env) : EA X (a :: es) (lCons f fl) :=
  mkA (pa_cons ha.pe hr.pa hs) fun σ H Q ρ F d e h k => by
    simp only [lCons, Option.bind_eq_some_iff, Option.some.injEq] at h
    obtain ⟨x, h1, xs, h2, rfl⟩ := h
    exact ⟨ρ, F, x, e, h1, fun v F1 H1 x1 r1 => ⟨ρ, F1, xs, e.ext x1, h2, fun vs F2 H2 x2 r2 => k _ F2 H2 (x1.trans x2) (.cons (r1.mono x2.f) r2)⟩⟩
theorem ea_star {es : List Expr} {p : Pos} (ha : EB X a f) (hr : EA X es fl) (hs : starEach (.Starred a p :: es) X.env = (true, eval a X.env) :: starEach es X.env) : EA X (.Starred a p :: es) (lStar f fl) :=
  mkA (StX.pa_star ha.pe hr.pa hs) fun σ H Q ρ F d e h k => by
    simp only [lStar, Option.bind_eq_some_iff, Option.some.injEq] at h
    obtain ⟨x, h1, ys, h0, xs, h2, rfl⟩ := h
    refine ⟨ρ, F, x, e, h1, fun v F1 H1 x1 r1 => ?_⟩
    cases x <;> simp only [seqOf, Option.some.injEq, reduceCtorEq] at h0
    · subst h0
      obtain ⟨p, vs, rfl, hp, hr⟩ := r1.list x1.le
      exact ⟨p, vs, rfl, .inr (.inl (.inl hp)), ρ, F1, xs, e.ext x1, h2, fun us F2 H2 x2 r2 => k _ F2 H2 (x1.trans x2) (RpL.append (hr.mono x2.f) r2)⟩
    · subst h0
      obtain ⟨p, vs, rfl, hp, hr⟩ := r1.tuple x1.le
      exact ⟨p, vs, rfl, .inl (.inl (.inl hp)), ρ, F1, xs, e.ext x1, h2, fun us F2 H2 x2 r2 => k _ F2 H2 (x1.trans x2) (RpL.append (hr.mono x2.f) r2)⟩
theorem ex_tup {es : List Expr} {x1} (h : EA X es fl) : EX X (.Tuple es x1 pos) (mkT fl) :=
  mkX (pe_tup h.pa) fun σ H Q ρ F d e h k => by
    simp only [mkT, Option.bind_eq_some_iff] at h
    obtain ⟨xs, h1, h2⟩ := h
    split at h2
    · rename_i hl
      cases h2
      refine ⟨ρ, F, xs, e, h1, fun vs F1 H1 x1 r1 => ⟨by rw [r1.length]; exact line_of hl, fun p hp => ?_⟩⟩
      exact k _ _ _ (x1.trans (.add x1.le hp)) (.tup upd_same (r1.mono (Sub.new (x1.le.free hp))))
    · cases h2
theorem en_lst {es : List Expr} (h : EA X es fl) : EN X (.List es pos) (mkL fl) :=
  mkN (pe_lst h.pa) fun σ H Q ρ F d e h k => by
    simp only [mkL, Option.bind_eq_some_iff] at h
    obtain ⟨xs, h1, h2⟩ := h
    split at h2
    · rename_i hl
      cases h2
      refine ⟨ρ, F, xs, e, h1, fun vs F1 H1 x1 r1 => ⟨by rw [r1.length]; exact line_of hl, fun p hp => ?_⟩⟩
      have hp0 : H p = none := x1.h.free hp
      exact k p _ _ _ (x1.trans (.own x1.le hp)) (x1.le.free hp) hp0 upd_same (.lst r1)
    · cases h2

/-! ### two operands -/
theorem ex_op2 {op : D → D → Option D} {e : Expr} {ta tb : TE} {r : R2} (h : PE X e (tOp r (tB' X.K f) (tB' X.K g)))
    (hr : ∀ x y u v d F H Q, op x y = some d → Sub F H → RpB X.K F H x u → RpB X.K F H y v → (∀ w F' H', Ext F H F' H' → Rp X.K F' d w → Q w H') → r u v H Q) : EX X e (d2 op f g) :=
  mkX h fun σ H Q ρ F d e h k => by
    simp only [d2, Option.bind_eq_some_iff] at h
    obtain ⟨x, h1, y, h2, h3⟩ := h
    exact ⟨ρ, F, x, e, h1, fun u F1 H1 x1 r1 => ⟨ρ, F1, y, e.ext x1, h2, fun v F2 H2 x2 r2 => hr x y u v d F2 H2 Q h3 x2.le (r1.ext x2) r2 fun w F' H' x3 rw => k w F' H' ((x1.trans x2).trans x3) rw⟩⟩
theorem en_op2 {op : D → D → Option D} {e : Expr} {ta tb : TE} {r : R2} (h : PE X e (tOp r (tB' X.K f) (tB' X.K g)))
    (hr : ∀ x y u v d F H Q, op x y = some d → Sub F H → RpB X.K F H x u → RpB X.K F H y v → (∀ p o, H p = none → OwnRep X.K F d o → Q (.ref p) (upd H p o)) → r u v H Q) : EN X e (d2 op f g) :=
  mkN h fun σ H Q ρ F d e h k => by
    simp only [d2, Option.bind_eq_some_iff] at h
    obtain ⟨x, h1, y, h2, h3⟩ := h
    exact ⟨ρ, F, x, e, h1, fun u F1 H1 x1 r1 => ⟨ρ, F1, y, e.ext x1, h2, fun v F2 H2 x2 r2 => hr x y u v d F2 H2 Q h3 x2.le (r1.ext x2) r2 fun p o hp ho =>
      k p o F2 _ ((x1.trans x2).trans (.own x2.le hp)) (x2.le.free hp) ((x1.trans x2).h.free hp) upd_same ho⟩⟩
/-- ints alone -/
theorem ex_opI {op : D → D → Option D} {e : Expr} {C : Int → Int → Prop} {z : Int → Int → Int} (h : PE X e (tOp (rI C fun i j => .int (z i j)) (tB' X.K f) (tB' X.K g)))
    (ho : ∀ x y d, op x y = some d → ∃ i j, x = .int i ∧ y = .int j ∧ C i j ∧ d = .int (z i j)) : EX X e (d2 op f g) :=
  ex_op2 (ta := tC .non) (tb := tC .non) h fun x y u v d F H Q e s ru rv k => by
    obtain ⟨i, j, rfl, rfl, hc, rfl⟩ := ho x y d e
    exact ⟨i, j, ru.int, rv.int, hc, k _ F H (.refl s) (.int _)⟩
theorem ex_opI0 {op : D → D → Option D} {e : Expr} {z : Int → Int → Int} (h : PE X e (tOp (rI0 fun i j => .int (z i j)) (tB' X.K f) (tB' X.K g)))
    (ho : ∀ x y d, op x y = some d → ∃ i j, x = .int i ∧ y = .int j ∧ d = .int (z i j)) : EX X e (d2 op f g) :=
  ex_op2 (ta := tC .non) (tb := tC .non) h fun x y u v d F H Q e s ru rv k => by
    obtain ⟨i, j, rfl, rfl, rfl⟩ := ho x y d e
    exact ⟨i, j, ru.int, rv.int, k _ F H (.refl s) (.int _)⟩
theorem ints_of2 {op : D → D → Option D} {C : Int → Int → Prop} {z : Int → Int → Int} (hi : ∀ i j d, op (.int i) (.int j) = some d → C i j ∧ d = .int (z i j)) (hn : ∀ x y d, op x y = some d → ∃ i j, x = .int i ∧ y = .int j) :
    ∀ x y d, op x y = some d → ∃ i j, x = .int i ∧ y = .int j ∧ C i j ∧ d = .int (z i j) := fun x y d h => by
  obtain ⟨i, j, rfl, rfl⟩ := hn x y d h
  obtain ⟨h1, h2⟩ := hi i j d h
  exact ⟨i, j, rfl, rfl, h1, h2⟩
/-- + of ints, lists or tuples; a new list is frozen -/
theorem ex_add (ha : EB X a f) (hb : EB X b g) : EX X (.BinOp a .Add b pos) (d2 addD f g) := by
  refine ex_op2 (ta := tC .non) (tb := tC .non) (pe_op ((op_add.or op_cat).or op_catA) ha.pe hb.pe) fun x y u v d F H Q e s ru rv k => ?_
  cases x <;> cases y <;> simp only [addD, reduceCtorEq, Option.some.injEq] at e
  · subst e
    exact .inl (.inl ⟨_, _, ru.int, rv.int, k _ F H (.refl s) (.int _)⟩)
  · split at e
    · rename_i hl
      cases e
      obtain ⟨p, xs, rfl, hp, rp⟩ := ru.list s
      obtain ⟨q, ys, rfl, hq, rq⟩ := rv.list s
      refine .inl (.inr ⟨p, q, xs, ys, rfl, rfl, hp, hq, by rw [rp.length, rq.length]; exact line_of hl, fun t ht => ?_⟩)
      exact k _ _ _ (.add s ht) (.lst upd_same ((rp.append rq).mono (Sub.new (s.free ht))))
    · cases e
  · split at e
    · rename_i hl
      cases e
      obtain ⟨p, xs, rfl, hp, rp⟩ := ru.tuple s
      obtain ⟨q, ys, rfl, hq, rq⟩ := rv.tuple s
      refine .inr ⟨p, q, xs, ys, rfl, rfl, .inl (.inl hp), .inl (.inl hq), by rw [rp.length, rq.length]; exact line_of hl, fun e1 => ?_, fun e1 e2 => ?_, fun e1 e2 t ht => ?_⟩
      · subst e1
        cases rp
        rw [List.nil_append] at k
        exact k _ F H (.refl s) (rv.elim id fun ⟨a, o, z, _, z1, z2⟩ => nomatch z2)
      · subst e2
        cases rq
        rw [List.append_nil] at k
        exact k _ F H (.refl s) (ru.elim id fun ⟨a, o, z, _, z1, z2⟩ => nomatch z2)
      · exact k _ _ _ (.add s ht) (.tup upd_same ((rp.append rq).mono (Sub.new (s.free ht))))
    · cases e
/-- + of lists, the new list one's own -/
theorem en_cat (ha : EB X a f) (hb : EB X b g) : EN X (.BinOp a .Add b pos) (d2 (fun x y => match x, y with | .list xs, .list ys => addD (.list xs) (.list ys) | _, _ => none) f g) := by
  refine en_op2 (ta := tC .non) (tb := tC .non) (pe_op op_cat ha.pe hb.pe) fun x y u v d F H Q e s ru rv k => ?_
  cases x <;> cases y <;> simp only [addD, reduceCtorEq] at e
  split at e
  · rename_i hl
    cases e
    obtain ⟨p, xs, rfl, hp, rp⟩ := ru.list s
    obtain ⟨q, ys, rfl, hq, rq⟩ := rv.list s
    exact ⟨p, q, xs, ys, rfl, rfl, hp, hq, by rw [rp.length, rq.length]; exact line_of hl, fun t ht => k t _ ht (.lst (rp.append rq))⟩
  · cases e
theorem ex_sub (ha : EB X a f) (hb : EB X b g) : EX X (.BinOp a .Sub b pos) (d2 subD f g) :=
  ex_opI0 (pe_op op_sub ha.pe hb.pe) fun x y d e => by
    cases x <;> cases y <;> simp only [subD, reduceCtorEq, Option.some.injEq] at e
    exact ⟨_, _, rfl, rfl, e.symm⟩
theorem mulOk_ok {i j : Int} (h : mulOk i j = true) : IntMulOk i j := by
  have b : ∀ x : Int, Builtin.Int.intBits x ≤ x.natAbs.log2 + 1 := fun x => by
    unfold Builtin.Int.intBits
    split <;> omega
  have h1 := b i
  have h2 := b j
  have h3 := of_decide_eq_true h
  have e : bitsLine = 134217728 := by decide
  unfold IntMulOk
  intro z
  rw [Bool.and_eq_true] at z
  have z2 := z.2
  unfold Builtin.Int.intTooBig at z2
  have z3 := of_decide_eq_true z2
  rw [e] at z3
  omega
theorem op_mulZ : OpR X (binaryOp .Mult) (rI (fun i j => mulOk i j = true) fun i j => .int (i * j)) := opI fun _ _ _ _ _ _ _ hc q => PyProof.Rows.mul_int q (mulOk_ok hc)
theorem repL {K : PySem.W.Frag} {F : Hp} {xs : List D} {vs : List V} (h : RpL K F xs vs) : ∀ n : Nat, RpL K F (List.replicate n xs).flatten (List.replicate n vs).flatten
  | 0 => .nil
  | n + 1 => by
    rw [List.replicate_succ, List.replicate_succ, List.flatten_cons, List.flatten_cons]
    exact h.append (repL h n)
/-- * of ints -/
theorem ex_mul (ha : EB X a f) (hb : EB X b g) : EX X (.BinOp a .Mult b pos) (d2 (fun x y => match x, y with | .int i, .int j => mulD (.int i) (.int j) | _, _ => none) f g) :=
  ex_opI (pe_op op_mulZ ha.pe hb.pe) fun x y d e => by
    cases x <;> cases y <;> simp only [mulD, reduceCtorEq] at e
    split at e
    · rename_i h
      cases e
      exact ⟨_, _, rfl, rfl, h, rfl⟩
    · cases e
/-- a list times an int -/
theorem en_rep (ha : EB X a f) (hb : EB X b g) : EN X (.BinOp a .Mult b pos) (d2 (fun x y => match x, y with | .list xs, .int j => mulD (.list xs) (.int j) | _, _ => none) f g) := by
  refine en_op2 (ta := tC .non) (tb := tC .non) (pe_op op_rep ha.pe hb.pe) fun x y u v d F H Q e s ru rv k => ?_
  cases x <;> cases y <;> simp only [mulD, reduceCtorEq] at e
  split at e
  · rename_i hl
    cases e
    obtain ⟨p, xs, rfl, hp, rp⟩ := ru.list s
    refine ⟨p, _, xs, rfl, rv.int, hp, by omega, by omega, by rw [rp.length]; exact line_of hl.2, fun t ht => k t _ ht (.lst (repL rp _))⟩
  · cases e
theorem ex_fdiv (ha : EB X a f) (hb : EB X b g) : EX X (.BinOp a .FloorDiv b pos) (d2 fdivD f g) :=
  ex_opI (pe_op op_fdivW ha.pe hb.pe) fun x y d e => by
    cases x <;> cases y <;> simp only [fdivD, reduceCtorEq] at e
    split at e
    · rename_i h
      cases e
      exact ⟨_, _, rfl, rfl, h, rfl⟩
    · cases e
theorem ex_mod (ha : EB X a f) (hb : EB X b g) : EX X (.BinOp a .Mod b pos) (d2 modD f g) :=
  ex_opI (pe_op op_mod ha.pe hb.pe) fun x y d e => by
    cases x <;> cases y <;> simp only [modD, reduceCtorEq] at e
    split at e
    · rename_i h
      cases e
      exact ⟨_, _, rfl, rfl, h, rfl⟩
    · cases e
theorem ex_pow (ha : EB X a f) (hb : EB X b g) : EX X (.BinOp a .Pow b pos) (d2 powD f g) :=
  ex_opI (pe_op op_pow ha.pe hb.pe) fun x y d e => by
    cases x <;> cases y <;> simp only [powD, reduceCtorEq] at e
    split at e
    · rename_i h
      cases e
      exact ⟨_, _, rfl, rfl, ⟨h.1, by have := h.2.1; omega, h.2.2⟩, rfl⟩
    · cases e
theorem ex_shl (ha : EB X a f) (hb : EB X b g) : EX X (.BinOp a .LShift b pos) (d2 shlD f g) :=
  ex_opI (pe_op op_shl ha.pe hb.pe) fun x y d e => by
    cases x <;> cases y <;> simp only [shlD, reduceCtorEq] at e
    split at e
    · rename_i h
      cases e
      exact ⟨_, _, rfl, rfl, ⟨h.1, by have := h.2.1; omega, h.2.2⟩, rfl⟩
    · cases e
theorem ex_neg (ha : EB X a f) : EX X (.UnaryOp .USub a pos) (d1 negD f) :=
  mkX (pe_un un_neg ha.pe) fun σ H Q ρ F d e h k => by
    simp only [d1, Option.bind_eq_some_iff] at h
    obtain ⟨x, h1, h2⟩ := h
    refine ⟨ρ, F, x, e, h1, fun u F1 H1 x1 r1 => ?_⟩
    cases x <;> simp only [negD, reduceCtorEq, Option.some.injEq] at h2
    subst h2
    exact ⟨_, r1.int, k _ F1 H1 x1 (.int _)⟩
end

/-! ### what reads as data -/
mutual
theorem Rp.dp {K : PySem.W.Frag} {F H : Hp} (s : Sub F H) : ∀ (d : D) (v : V), d.plain = true → Rp K F d v → Dp K H v d
  | .none, _, _, h => by cases h; exact .non
  | .bool b, _, _, h => by cases h; exact .bl b
  | .int i, _, _, h => by cases h; exact .int i
  | .str x, _, _, h => by cases h; exact .str x
  | .list ds, _, p, h => by
    cases h with
    | lst h1 h2 => exact .lst (.inl (.inl (s _ _ h1))) (RpL.dp s ds _ (by simpa [PyData.plain] using p) h2)
  | .tuple ds, _, p, h => by
    cases h with
    | tup h1 h2 => exact .tup (.inl (.inl (s _ _ h1))) (RpL.dp s ds _ (by simpa [PyData.plain] using p) h2)
  | .dict _, _, p, _ => by simp [PyData.plain] at p
theorem RpL.dp {K : PySem.W.Frag} {F H : Hp} (s : Sub F H) : ∀ (ds : List D) (vs : List V), PyData.plainAll ds = true → RpL K F ds vs → DpAll K H vs ds
  | [], _, _, h => by cases h; exact .nil
  | d :: ds, _, p, h => by
    cases h with
    | cons h1 h2 =>
      rw [PyData.plainAll, Bool.and_eq_true] at p
      exact .cons (Rp.dp s d _ p.1 h1) (RpL.dp s ds _ p.2 h2)
end
theorem RpB.dp {K : PySem.W.Frag} {F H : Hp} (s : Sub F H) {d : D} {v : V} (p : d.plain = true) (h : RpB K F H d v) : Dp K H v d := by
  rcases h with h | ⟨a, o, rfl, _, h1, h2⟩
  · exact h.dp s d v p
  · cases h2 with
    | lst h2 => exact .lst (.inl (.inl h1)) (RpL.dp s _ _ (by simpa [PyData.plain] using p) h2)
    | dK _ => simp [PyData.plain] at p
    | dT _ => simp [PyData.plain] at p
theorem plain_of_shaped {d : D} (h : SeqAt.shaped d = true) : d.plain = true := by
  unfold SeqAt.shaped at h
  rw [Bool.and_eq_true] at h
  exact PyData.plain_of_canLay0 d h.1
end Zx
/-! Zx3: comparisons, tests, and | or | not, conditional expressions. -/
namespace Zx
open PySem PySem.Spec L2
abbrev DenB := Env → Option Bool
def b2 (op : D → D → Option Bool) (f g : Den) : DenB := fun ρ => (f ρ).bind fun x => (g ρ).bind fun y => op x y
def bV (f : DenB) : Den := fun ρ => (f ρ).bind fun b => some (.bool b)
def eqD (x y : D) : Option Bool := if SeqAt.shaped x && SeqAt.shaped y then some (PyData.eqv x y) else none
def neD (x y : D) : Option Bool := if SeqAt.shaped x && SeqAt.shaped y then some (!PyData.eqv x y) else none
def ordOk (x y : D) : Bool := SeqAt.shaped x && SeqAt.shaped y && PySem.W.alike x y && (match x with | .none => false | _ => true)
def ltD (x y : D) : Option Bool := if ordOk x y then some (PySem.W.dataLt x y) else none
def gtD (x y : D) : Option Bool := if ordOk x y then some (PySem.W.dataLt y x) else none
def leD (x y : D) : Option Bool := if ordOk x y then some (!PySem.W.dataLt y x) else none
def geD (x y : D) : Option Bool := if ordOk x y then some (!PySem.W.dataLt x y) else none
/-- ints -/
def ltI : D → D → Option Bool | .int a, .int b => some (decide (a < b)) | _, _ => none
def leI : D → D → Option Bool | .int a, .int b => some (decide (a ≤ b)) | _, _ => none
def gtI : D → D → Option Bool | .int a, .int b => some (decide (b < a)) | _, _ => none
def geI : D → D → Option Bool | .int a, .int b => some (decide (b ≤ a)) | _, _ => none
def inD (x : D) : D → Option Bool
  | .list ys => if SeqAt.shaped x && SeqAt.shaped (.list ys) then some (ys.any fun z => PyData.eqv z x) else none
  | .tuple ys => if SeqAt.shaped x && SeqAt.shaped (.tuple ys) then some (ys.any fun z => PyData.eqv z x) else none
  | _ => none
def ninD (x y : D) : Option Bool := (inD x y).map (!·)
def isN : D → Option Bool | .none => some true | _ => some false
def notN : D → Option Bool | .none => some false | _ => some true
def b1 (op : D → Option Bool) (f : Den) : DenB := fun ρ => (f ρ).bind op
def bAnd (f g : DenB) : DenB := fun ρ => (f ρ).bind fun b => if b then g ρ else some false
def bOr (f g : DenB) : DenB := fun ρ => (f ρ).bind fun b => if b then some true else g ρ
def bNot (f : DenB) : DenB := fun ρ => (f ρ).bind fun b => some (!b)
def bCh (op op' : D → D → Option Bool) (f g h : Den) : DenB := fun ρ => (f ρ).bind fun x => (g ρ).bind fun y => (op x y).bind fun b => if b then (h ρ).bind fun z => op' y z else some false
def dIf (c : DenB) (f g : Den) : Den := fun ρ => (c ρ).bind fun b => if b then f ρ else g ρ
def truD : D → Option Bool
  | .none => some false
  | .bool b => some b
  | .int i => some (i != 0)
  | .list xs => some (!xs.isEmpty)
  | .tuple xs => some (!xs.isEmpty)
  | _ => none

section
variable {X : Cx} {a b c : Expr} {f g : Den} {fb gb : DenB} {pos : Pos}
def tBl (K : PySem.W.Frag) (f : DenB) : TE := fun σ H Q => ∃ ρ F b, EnvOk K ρ σ F H ∧ f ρ = some b ∧ ∀ F' H', Ext F H F' H' → Q (.bl b) H'
structure EC (X : Cx) (op : CmpOp) (a b : Expr) (f : DenB) : Prop where
  pc : PC X op a b (tBl X.K f)
theorem PC.imp {op : CmpOp} {t t' : TE} (h : PC X op a b t) (i : ∀ σ H Q, t' σ H Q → t σ H Q) : PC X op a b t' := ⟨fun pins s σ H Q I hw => h.run pins s σ H Q I (i σ H Q hw)⟩
theorem pc_op {op : CmpOp} {r : R2} {ta tb : TE} (ho : OpR X (compareOp op) r) (ha : PE X a ta) (hb : PE X b tb) : PC X op a b (tOp r ta tb) :=
  ⟨fun pins s σ H Q I h => binT ha hb I h fun v u s2 x y H2 I2 rx ry q => ho pins s2 σ H2 x y v u Q I2 rx ry q⟩
theorem mkC {op : CmpOp} {o : D → D → Option Bool} {r : R2} (ho : OpR X (compareOp op) r) (ha : EB X a f) (hb : EB X b g)
    (hr : ∀ x y u v d F H Q, o x y = some d → Sub F H → RpB X.K F H x u → RpB X.K F H y v → Q (.bl d) H → r u v H Q) : EC X op a b (b2 o f g) :=
  ⟨PC.imp (pc_op ho ha.pe hb.pe) fun σ H Q ⟨ρ, F, d, e, h, k⟩ => by
    simp only [b2, Option.bind_eq_some_iff] at h
    obtain ⟨x, h1, y, h2, h3⟩ := h
    exact ⟨ρ, F, x, e, h1, fun u F1 H1 x1 r1 => ⟨ρ, F1, y, e.ext x1, h2, fun v F2 H2 x2 r2 => hr x y u v d F2 H2 Q h3 x2.le (r1.ext x2) r2 (k F2 H2 (x1.trans x2))⟩⟩⟩
theorem ec_eq (hu : X.A.units + 64 < cLine) (ha : EB X a f) (hb : EB X b g) : EC X .Eq a b (b2 eqD f g) :=
  mkC (op_eqD hu) ha hb fun x y u v d F H Q e s ru rv k => by
    unfold eqD at e
    split at e
    · rename_i h
      cases e
      rw [Bool.and_eq_true] at h
      exact ⟨x, y, ru.dp s (plain_of_shaped h.1), rv.dp s (plain_of_shaped h.2), h.1, h.2, k⟩
    · cases e
theorem ec_ne (hu : X.A.units + 64 < cLine) (ha : EB X a f) (hb : EB X b g) : EC X .NotEq a b (b2 neD f g) :=
  mkC (op_neD hu) ha hb fun x y u v d F H Q e s ru rv k => by
    unfold neD at e
    split at e
    · rename_i h
      cases e
      rw [Bool.and_eq_true] at h
      exact ⟨x, y, ru.dp s (plain_of_shaped h.1), rv.dp s (plain_of_shaped h.2), h.1, h.2, k⟩
    · cases e
def rOrdD (K : PySem.W.Frag) (z : D → D → Bool) : R2 := fun x y H Q => ∃ d e, Dp K H x d ∧ Dp K H y e ∧ ordOk d e = true ∧ Q (.bl (z d e)) H
theorem ord_parts {d e : D} (h : ordOk d e = true) : SeqAt.shaped d = true ∧ SeqAt.shaped e = true ∧ PySem.W.alike d e = true ∧ d ≠ .none := by
  unfold ordOk at h
  rw [Bool.and_eq_true, Bool.and_eq_true, Bool.and_eq_true] at h
  refine ⟨h.1.1.1, h.1.1.2, h.1.2, ?_⟩
  rintro rfl
  exact Bool.noConfusion h.2
theorem depth64 {d : D} (h : SeqAt.shaped d = true) : d.depth ≤ 64 := by
  unfold SeqAt.shaped at h
  rw [Bool.and_eq_true] at h
  exact of_decide_eq_true h.2
theorem op_ordD {op : CmpOp} {z : D → D → Bool} (hu : X.A.units + 64 < cLine)
    (rule : ∀ {da db : D} {s : Shared} {a b : Value} {as bs : List Addr} {Q : Value → Shared → Prop}, Reads s.heap a da as → Reads s.heap b db bs → PySem.W.alike da db = true → da ≠ .none → X.A.units + min da.depth db.depth < cLine → Q (.bool (z da db)) s → wpAny (model X.prog X.w) X.A (compareOp op a b) Q X.xe s) :
    OpR X (compareOp op) (rOrdD X.K z) := by
  intro pins s σ H x y v u Q I rx ry h
  obtain ⟨d, e, hd, he, ho, q⟩ := h
  obtain ⟨as, r1⟩ := Dp.reads I d x v hd rx
  obtain ⟨bs, r2⟩ := Dp.reads I e y u he ry
  obtain ⟨s1, s2, s3, s4⟩ := ord_parts ho
  have h1 := depth64 s1
  exact rule r1 r2 s3 s4 (by have : min d.depth e.depth ≤ d.depth := Nat.min_le_left _ _; omega) ⟨.bl _, H, I, rfl, q⟩
theorem ec_ord {op : CmpOp} {z : D → D → Bool} (ho : OpR X (compareOp op) (rOrdD X.K z)) (ha : EB X a f) (hb : EB X b g) : EC X op a b (b2 (fun x y => if ordOk x y then some (z x y) else none) f g) :=
  mkC ho ha hb fun x y u v d F H Q e s ru rv k => by
    split at e
    · rename_i h
      cases e
      obtain ⟨s1, s2, _, _⟩ := ord_parts h
      exact ⟨x, y, ru.dp s (plain_of_shaped s1), rv.dp s (plain_of_shaped s2), h, k⟩
    · cases e
theorem ec_lt (hu : X.A.units + 64 < cLine) (ha : EB X a f) (hb : EB X b g) : EC X .Lt a b (b2 ltD f g) := ec_ord (op_ordD hu fun r1 r2 h1 h2 h3 h4 => PySem.W.lt_data r1 r2 h1 h2 h3 h4) ha hb
theorem ec_gt (hu : X.A.units + 64 < cLine) (ha : EB X a f) (hb : EB X b g) : EC X .Gt a b (b2 gtD f g) := ec_ord (op_ordD hu fun r1 r2 h1 h2 h3 h4 => PySem.W.gt_data r1 r2 h1 h2 h3 h4) ha hb
theorem ec_le (hu : X.A.units + 64 < cLine) (ha : EB X a f) (hb : EB X b g) : EC X .LtE a b (b2 leD f g) := ec_ord (op_ordD hu fun r1 r2 h1 h2 h3 h4 => PySem.W.le_data r1 r2 h1 h2 h3 h4) ha hb
theorem ec_ge (hu : X.A.units + 64 < cLine) (ha : EB X a f) (hb : EB X b g) : EC X .GtE a b (b2 geD f g) := ec_ord (op_ordD hu fun r1 r2 h1 h2 h3 h4 => PySem.W.ge_data r1 r2 h1 h2 h3 h4) ha hb
theorem ec_int {op : CmpOp} {o : D → D → Option Bool} {z : Int → Int → Bool} (ho : OpR X (compareOp op) (rI0 fun i j => .bl (z i j))) (h : ∀ x y d, o x y = some d → ∃ i j, x = .int i ∧ y = .int j ∧ d = z i j) (ha : EB X a f) (hb : EB X b g) : EC X op a b (b2 o f g) :=
  mkC ho ha hb fun x y u v d F H Q e s ru rv k => by
    obtain ⟨i, j, rfl, rfl, rfl⟩ := h x y d e
    exact ⟨i, j, ru.int, rv.int, k⟩
theorem ltI_i (x y : D) (d : Bool) (e : ltI x y = some d) : ∃ i j, x = .int i ∧ y = .int j ∧ d = decide (i < j) := by
  cases x <;> cases y <;> simp only [ltI, reduceCtorEq, Option.some.injEq] at e
  exact ⟨_, _, rfl, rfl, e.symm⟩
theorem leI_i (x y : D) (d : Bool) (e : leI x y = some d) : ∃ i j, x = .int i ∧ y = .int j ∧ d = decide (i ≤ j) := by
  cases x <;> cases y <;> simp only [leI, reduceCtorEq, Option.some.injEq] at e
  exact ⟨_, _, rfl, rfl, e.symm⟩
theorem gtI_i (x y : D) (d : Bool) (e : gtI x y = some d) : ∃ i j, x = .int i ∧ y = .int j ∧ d = decide (j < i) := by
  cases x <;> cases y <;> simp only [gtI, reduceCtorEq, Option.some.injEq] at e
  exact ⟨_, _, rfl, rfl, e.symm⟩
theorem geI_i (x y : D) (d : Bool) (e : geI x y = some d) : ∃ i j, x = .int i ∧ y = .int j ∧ d = decide (j ≤ i) := by
  cases x <;> cases y <;> simp only [geI, reduceCtorEq, Option.some.injEq] at e
  exact ⟨_, _, rfl, rfl, e.symm⟩
theorem ec_ltI (ha : EB X a f) (hb : EB X b g) : EC X .Lt a b (b2 ltI f g) := ec_int op_lt ltI_i ha hb
theorem ec_leI (ha : EB X a f) (hb : EB X b g) : EC X .LtE a b (b2 leI f g) := ec_int op_le leI_i ha hb
theorem ec_gtI (ha : EB X a f) (hb : EB X b g) : EC X .Gt a b (b2 gtI f g) := ec_int op_gt gtI_i ha hb
theorem ec_geI (ha : EB X a f) (hb : EB X b g) : EC X .GtE a b (b2 geI f g) := ec_int op_ge geI_i ha hb
theorem ec_isN {j pos'} (ha : EB X a f) : EC X .Is a (.Constant .none j pos') (b1 isN f) :=
  ⟨PC.imp (pc_isN ha.pe) fun σ H Q ⟨ρ, F, d, e, h, k⟩ => by
    simp only [b1, Option.bind_eq_some_iff] at h
    obtain ⟨x, h1, h3⟩ := h
    refine ⟨ρ, F, x, e, h1, fun u F1 H1 x1 r1 => ?_⟩
    have z := k F1 H1 x1
    show Q (.bl (decide (u = .non))) H1
    rw [r1.isN]
    cases x <;> simp only [isN, Option.some.injEq] at h3 <;> subst h3 <;> exact z⟩
theorem ec_notN {j pos'} (ha : EB X a f) : EC X .IsNot a (.Constant .none j pos') (b1 notN f) :=
  ⟨PC.imp (pc_notN ha.pe) fun σ H Q ⟨ρ, F, d, e, h, k⟩ => by
    simp only [b1, Option.bind_eq_some_iff] at h
    obtain ⟨x, h1, h3⟩ := h
    refine ⟨ρ, F, x, e, h1, fun u F1 H1 x1 r1 => ?_⟩
    have z := k F1 H1 x1
    show Q (.bl (!decide (u = .non))) H1
    rw [r1.isN]
    cases x <;> simp only [notN, Option.some.injEq] at h3 <;> subst h3 <;> exact z⟩
/-! ### a comparison as a value, as a test -/
theorem ex_cmp {op : CmpOp} (h : EC X op a b fb) (hm : behindInMarks op b = false) : EX X (.Compare a [op] [b] pos) (bV fb) :=
  mkX (pe_cmp h.pc hm) fun σ H Q ρ F d e h k => by
    simp only [bV, Option.bind_eq_some_iff, Option.some.injEq] at h
    obtain ⟨x, h1, rfl⟩ := h
    exact ⟨ρ, F, x, e, h1, fun F1 H1 x1 => k _ F1 H1 x1 (.bl _)⟩
theorem et_cmp {op : CmpOp} (h : EC X op a b fb) (hm : behindInMarks op b = false) : ET X (.Compare a [op] [b] pos) fb :=
  mkTs (pt_cmp h.pc hm) fun σ H Q ρ F d e h k => ⟨ρ, F, d, e, h, fun F1 H1 x1 => ⟨d, rfl, k F1 H1 x1⟩⟩
/-! ### chains of ints -/
theorem chain_t {h : Den} {o o' : D → D → Option Bool} {z z' : Int → Int → Bool} (ho : ∀ x y d, o x y = some d → ∃ i j, x = .int i ∧ y = .int j ∧ d = z i j) (ho' : ∀ x y d, o' x y = some d → ∃ i j, x = .int i ∧ y = .int j ∧ d = z' i j)
    {σ : L2.St} {H : Hp} {Q : VK} {ρ : Env} {F : Hp} {d : Bool} (e : EnvOk X.K ρ σ F H) (hd : bCh o o' f g h ρ = some d) (k : ∀ F' H', Ext F H F' H' → Q (.bl d) H') :
    tChain (rI0 fun i j => .bl (z i j)) (rI0 fun i j => .bl (z' i j)) (tB' X.K f) (tB' X.K g) (tB' X.K h) σ H Q := by
  simp only [bCh, Option.bind_eq_some_iff] at hd
  obtain ⟨x, h1, y, h2, b0, h3, h4⟩ := hd
  obtain ⟨i, j, rfl, rfl, rfl⟩ := ho x y b0 h3
  refine ⟨ρ, F, _, e, h1, fun u F1 H1 x1 r1 => ⟨ρ, F1, _, e.ext x1, h2, fun v F2 H2 x2 r2 => ⟨i, j, (r1.ext x2).int, r2.int, _, rfl, ?_⟩⟩⟩
  split
  · rename_i hb
    rw [if_pos hb] at h4
    simp only [Option.bind_eq_some_iff] at h4
    obtain ⟨w, h5, h6⟩ := h4
    obtain ⟨i', j', ei, rfl, rfl⟩ := ho' _ w d h6
    cases ei
    exact ⟨ρ, F2, _, (e.ext x1).ext x2, h5, fun v3 F3 H3 x3 r3 => ⟨j, j', (r2.ext x3).int, r3.int, k F3 H3 ((x1.trans x2).trans x3)⟩⟩
  · rename_i hb
    rw [if_neg hb] at h4
    cases h4
    exact k F2 H2 (x1.trans x2)
theorem ex_chain {h : Den} {op op' : CmpOp} {o o' : D → D → Option Bool} {z z' : Int → Int → Bool} (hop : OpR X (compareOp op) (rI0 fun i j => .bl (z i j))) (hop' : OpR X (compareOp op') (rI0 fun i j => .bl (z' i j)))
    (ho : ∀ x y d, o x y = some d → ∃ i j, x = .int i ∧ y = .int j ∧ d = z i j) (ho' : ∀ x y d, o' x y = some d → ∃ i j, x = .int i ∧ y = .int j ∧ d = z' i j) (ha : EB X a f) (hb : EB X b g) (hc : EB X c h)
    (hm : lastMarks [op, op'] [b, c] = false) : EX X (.Compare a [op, op'] [b, c] pos) (bV (bCh o o' f g h)) :=
  mkX (pe_chain hop hop' ha.pe hb.pe hc.pe hm) fun σ H Q ρ F d e h k => by
    simp only [bV, Option.bind_eq_some_iff, Option.some.injEq] at h
    obtain ⟨x, h1, rfl⟩ := h
    exact chain_t ho ho' e h1 fun F' H' x' => k _ F' H' x' (.bl _)
theorem et_chain {h : Den} {op op' : CmpOp} {o o' : D → D → Option Bool} {z z' : Int → Int → Bool} (hop : OpR X (compareOp op) (rI0 fun i j => .bl (z i j))) (hop' : OpR X (compareOp op') (rI0 fun i j => .bl (z' i j)))
    (ho : ∀ x y d, o x y = some d → ∃ i j, x = .int i ∧ y = .int j ∧ d = z i j) (ho' : ∀ x y d, o' x y = some d → ∃ i j, x = .int i ∧ y = .int j ∧ d = z' i j) (ha : EB X a f) (hb : EB X b g) (hc : EB X c h)
    (hm : lastMarks [op, op'] [b, c] = false) : ET X (.Compare a [op, op'] [b, c] pos) (bCh o o' f g h) :=
  mkTs (pt_chain hop hop' ha.pe hb.pe hc.pe hm) fun σ H Q ρ F d e h k => chain_t (Q := fun x H' => ∃ k, x = .bl k ∧ Q k H') ho ho' e h fun F' H' x' => ⟨d, rfl, k F' H' x'⟩
theorem et_leLe {h : Den} (ha : EB X a f) (hb : EB X b g) (hc : EB X c h) (hm : lastMarks [.LtE, .LtE] [b, c] = false) : ET X (.Compare a [.LtE, .LtE] [b, c] pos) (bCh leI leI f g h) := et_chain op_le op_le leI_i leI_i ha hb hc hm
theorem et_leLt {h : Den} (ha : EB X a f) (hb : EB X b g) (hc : EB X c h) (hm : lastMarks [.LtE, .Lt] [b, c] = false) : ET X (.Compare a [.LtE, .Lt] [b, c] pos) (bCh leI ltI f g h) := et_chain op_le op_lt leI_i ltI_i ha hb hc hm
theorem et_ltLe {h : Den} (ha : EB X a f) (hb : EB X b g) (hc : EB X c h) (hm : lastMarks [.Lt, .LtE] [b, c] = false) : ET X (.Compare a [.Lt, .LtE] [b, c] pos) (bCh ltI leI f g h) := et_chain op_lt op_le ltI_i leI_i ha hb hc hm
theorem et_ltLt {h : Den} (ha : EB X a f) (hb : EB X b g) (hc : EB X c h) (hm : lastMarks [.Lt, .Lt] [b, c] = false) : ET X (.Compare a [.Lt, .Lt] [b, c] pos) (bCh ltI ltI f g h) := et_chain op_lt op_lt ltI_i ltI_i ha hb hc hm
theorem ex_leLe {h : Den} (ha : EB X a f) (hb : EB X b g) (hc : EB X c h) (hm : lastMarks [.LtE, .LtE] [b, c] = false) : EX X (.Compare a [.LtE, .LtE] [b, c] pos) (bV (bCh leI leI f g h)) := ex_chain op_le op_le leI_i leI_i ha hb hc hm
theorem ex_leLt {h : Den} (ha : EB X a f) (hb : EB X b g) (hc : EB X c h) (hm : lastMarks [.LtE, .Lt] [b, c] = false) : EX X (.Compare a [.LtE, .Lt] [b, c] pos) (bV (bCh leI ltI f g h)) := ex_chain op_le op_lt leI_i ltI_i ha hb hc hm
theorem ex_ltLt {h : Den} (ha : EB X a f) (hb : EB X b g) (hc : EB X c h) (hm : lastMarks [.Lt, .Lt] [b, c] = false) : EX X (.Compare a [.Lt, .Lt] [b, c] pos) (bV (bCh ltI ltI f g h)) := ex_chain op_lt op_lt ltI_i ltI_i ha hb hc hm
/-! ### in, not in: a list or a tuple -/
def rInZ (K : PySem.W.Frag) (neg : Bool) : R2 := fun x y H Q => ∃ d ds, Dp K H x d ∧ (Dp K H y (.list ds) ∨ Dp K H y (.tuple ds)) ∧ SeqAt.shaped d = true ∧ SeqAt.shaped (.list ds) = true ∧ Q (.bl (if neg then !ds.any (fun z => PyData.eqv z d) else ds.any fun z => PyData.eqv z d)) H
theorem shaped_lt {ds : List D} : SeqAt.shaped (.list ds) = SeqAt.shaped (.tuple ds) := rfl
theorem inz_room {A : Around} {d : D} {n : Nat} (h : SeqAt.shaped d = true) (hu : A.units + 65 < cLine) : A.units + 1 + min n d.depth < cLine := by
  have h1 := depth64 h
  have : min n d.depth ≤ d.depth := Nat.min_le_right _ _
  omega
theorem plainAll_of {ds : List D} (h : SeqAt.shaped (.list ds) = true) : PyData.plainAll ds = true := by
  have := plain_of_shaped h
  simpa [PyData.plain] using this
theorem op_inZ (hu : X.A.units + 65 < cLine) : OpR X (compareOp .In) (rInZ X.K false) := by
  intro pins s σ H x y v u Q I rx ry h
  obtain ⟨d, ds, hd, he, sd, se, q⟩ := h
  obtain ⟨as, r1⟩ := Dp.reads I d x v hd rx
  rcases he with he | he
  · obtain ⟨bs, r2⟩ := Dp.reads I (.list ds) y u he ry
    exact SeqAt.in_list_data r2 r1 (plainAll_of se) (plain_of_shaped sd) (inz_room sd hu) ⟨.bl _, H, I, rfl, q⟩
  · obtain ⟨bs, r2⟩ := Dp.reads I (.tuple ds) y u he ry
    exact SeqAt.in_tuple_data r2 r1 (plainAll_of se) (plain_of_shaped sd) (inz_room sd hu) ⟨.bl _, H, I, rfl, q⟩
theorem op_ninZ (hu : X.A.units + 65 < cLine) : OpR X (compareOp .NotIn) (rInZ X.K true) := by
  intro pins s σ H x y v u Q I rx ry h
  obtain ⟨d, ds, hd, he, sd, se, q⟩ := h
  obtain ⟨as, r1⟩ := Dp.reads I d x v hd rx
  rcases he with he | he
  · obtain ⟨bs, r2⟩ := Dp.reads I (.list ds) y u he ry
    exact SeqAt.notIn_list_data r2 r1 (plainAll_of se) (plain_of_shaped sd) (inz_room sd hu) ⟨.bl _, H, I, rfl, q⟩
  · obtain ⟨bs, r2⟩ := Dp.reads I (.tuple ds) y u he ry
    exact SeqAt.notIn_tuple_data r2 r1 (plainAll_of se) (plain_of_shaped sd) (inz_room sd hu) ⟨.bl _, H, I, rfl, q⟩
theorem inD_parts {x y : D} {b : Bool} (e : inD x y = some b) : ∃ ds, (y = .list ds ∨ y = .tuple ds) ∧ SeqAt.shaped x = true ∧ SeqAt.shaped (.list ds) = true ∧ b = ds.any fun z => PyData.eqv z x := by
  cases y <;> simp only [inD, reduceCtorEq] at e <;> split at e
  · rename_i h
    rw [Bool.and_eq_true] at h
    cases e
    exact ⟨_, .inl rfl, h.1, h.2, rfl⟩
  · cases e
  · rename_i h
    rw [Bool.and_eq_true] at h
    cases e
    exact ⟨_, .inr rfl, h.1, h.2, rfl⟩
  · cases e
theorem dp_seq {K : PySem.W.Frag} {F H : Hp} {y : D} {ds : List D} {v : V} (s : Sub F H) (hy : y = .list ds ∨ y = .tuple ds) (h : SeqAt.shaped (.list ds) = true) (r : RpB K F H y v) : Dp K H v (.list ds) ∨ Dp K H v (.tuple ds) := by
  rcases hy with rfl | rfl
  · exact .inl (r.dp s (plain_of_shaped h))
  · exact .inr (r.dp s (plain_of_shaped (shaped_lt ▸ h)))
theorem ec_in (hu : X.A.units + 65 < cLine) (ha : EB X a f) (hb : EB X b g) : EC X .In a b (b2 inD f g) :=
  mkC (op_inZ hu) ha hb fun x y u v d F H Q e s ru rv k => by
    obtain ⟨ds, hy, sx, sy, rfl⟩ := inD_parts e
    exact ⟨x, ds, ru.dp s (plain_of_shaped sx), dp_seq s hy sy rv, sx, sy, k⟩
theorem ec_nin (hu : X.A.units + 65 < cLine) (ha : EB X a f) (hb : EB X b g) : EC X .NotIn a b (b2 ninD f g) :=
  mkC (op_ninZ hu) ha hb fun x y u v d F H Q e s ru rv k => by
    simp only [ninD, Option.map_eq_some_iff] at e
    obtain ⟨b0, e, rfl⟩ := e
    obtain ⟨ds, hy, sx, sy, rfl⟩ := inD_parts e
    exact ⟨x, ds, ru.dp s (plain_of_shaped sx), dp_seq s hy sy rv, sx, sy, k⟩
/-! ### tests -/
/-- a test whatever its whole is -/
structure EW (X : Cx) (e : Expr) (f : DenB) : Prop where
  pw : PW X e (tTst X.K f)
theorem EW.t {e : Expr} (h : EW X e fb) : ET X e fb := ⟨h.pw.pt⟩
theorem PW.imp {e : Expr} {t t' : TT} (h : PW X e t) (i : ∀ σ H Q, t' σ H Q → t σ H Q) : PW X e t' := ⟨fun wh pins s σ H Q I hw => h.run wh pins s σ H Q I (i σ H Q hw)⟩
variable {rest : List Expr}
theorem ew_and1 (ha : ET X a fb) : EW X (.BoolOp .And [a] pos) fb := ⟨pw_and1 ha.pt⟩
theorem ew_or1 (ha : ET X a fb) : EW X (.BoolOp .Or [a] pos) fb := ⟨pw_or1 ha.pt⟩
theorem ew_and (ha : ET X a fb) (hb : EW X (.BoolOp .And (b :: rest) pos) gb) : EW X (.BoolOp .And (a :: b :: rest) pos) (bAnd fb gb) :=
  ⟨PW.imp (pw_and ha.pt hb.pw) fun σ H Q ⟨ρ, F, d, e, h, k⟩ => by
    simp only [bAnd, Option.bind_eq_some_iff] at h
    obtain ⟨x, h1, h2⟩ := h
    refine ⟨ρ, F, x, e, h1, fun F1 H1 x1 => ?_⟩
    cases x with
    | true => exact ⟨ρ, F1, d, e.ext x1, h2, fun F2 H2 x2 => k F2 H2 (x1.trans x2)⟩
    | false =>
      cases h2
      exact k F1 H1 x1⟩
theorem ew_or (ha : ET X a fb) (hb : EW X (.BoolOp .Or (b :: rest) pos) gb) : EW X (.BoolOp .Or (a :: b :: rest) pos) (bOr fb gb) :=
  ⟨PW.imp (pw_or ha.pt hb.pw) fun σ H Q ⟨ρ, F, d, e, h, k⟩ => by
    simp only [bOr, Option.bind_eq_some_iff] at h
    obtain ⟨x, h1, h2⟩ := h
    refine ⟨ρ, F, x, e, h1, fun F1 H1 x1 => ?_⟩
    cases x with
    | true =>
      cases h2
      exact k F1 H1 x1
    | false => exact ⟨ρ, F1, d, e.ext x1, h2, fun F2 H2 x2 => k F2 H2 (x1.trans x2)⟩⟩
theorem et_not (ha : ET X a fb) : ET X (.UnaryOp .Not a pos) (bNot fb) :=
  mkTs (pt_not ha.pt) fun σ H Q ρ F d e h k => by
    simp only [bNot, Option.bind_eq_some_iff, Option.some.injEq] at h
    obtain ⟨x, h1, rfl⟩ := h
    exact ⟨ρ, F, x, e, h1, fun F1 H1 x1 => k F1 H1 x1⟩
theorem truD_ok {K : PySem.W.Frag} {F H : Hp} {x : D} {v : V} {k : Bool} (s : Sub F H) (r : RpB K F H x v) (h : truD x = some k) : TruV K v H k := by
  cases x <;> simp only [truD, Option.some.injEq, reduceCtorEq] at h
  · rw [r.none']; exact h.symm
  · rw [r.bool]; exact h.symm
  · rw [r.int]; exact h.symm
  · obtain ⟨a, xs, rfl, h1, h2⟩ := r.list s
    refine .inl ⟨xs, .inl (.inl h1), ?_⟩
    rw [← h]
    cases h2 <;> rfl
  · obtain ⟨a, xs, rfl, h1, h2⟩ := r.tuple s
    refine .inr (.inl ⟨xs, .inl (.inl h1), ?_⟩)
    rw [← h]
    cases h2 <;> rfl
/-- a value's truth -/
theorem et_val (ha : EB X a f) (he : ∀ whole, isTrue a X.env whole = (do let v ← whole; standAt a.pos; holding [v] (truthy v))) : ET X a (b1 truD f) :=
  mkTs (pt_truth ha.pe he) fun σ H Q ρ F d e h k => by
    simp only [b1, Option.bind_eq_some_iff] at h
    obtain ⟨x, h1, h2⟩ := h
    exact ⟨ρ, F, x, e, h1, fun v F1 H1 x1 r1 => ⟨d, truD_ok x1.le r1 h2, k F1 H1 x1⟩⟩
/-! ### and, or, not as values of bools -/
def dAnd (f g : Den) : Den := fun ρ => (f ρ).bind fun x => match x with | .bool true => g ρ | .bool false => some (.bool false) | _ => none
def dOr (f g : Den) : Den := fun ρ => (f ρ).bind fun x => match x with | .bool true => some (.bool true) | .bool false => g ρ | _ => none
theorem ex_one {op} (h : EX X a f) : EX X (.BoolOp op [a] pos) f := ⟨pe_one h.pe⟩
theorem ex_and (ha : EX X a f) (hb : EX X (.BoolOp .And (b :: rest) pos) g) : EX X (.BoolOp .And (a :: b :: rest) pos) (dAnd f g) :=
  mkX (pe_and ha.pe hb.pe) fun σ H Q ρ F d e h k => by
    simp only [dAnd, Option.bind_eq_some_iff] at h
    obtain ⟨x, h1, h2⟩ := h
    refine ⟨ρ, F, x, e, h1, fun v F1 H1 x1 r1 => ?_⟩
    split at h2
    · cases r1
      refine ⟨true, rfl, ?_⟩
      exact ⟨ρ, F1, d, e.ext x1, h2, fun w F2 H2 x2 r2 => k w F2 H2 (x1.trans x2) r2⟩
    · cases r1
      cases h2
      exact ⟨false, rfl, k _ F1 H1 x1 (.bl _)⟩
    · cases h2
theorem ex_or (ha : EX X a f) (hb : EX X (.BoolOp .Or (b :: rest) pos) g) : EX X (.BoolOp .Or (a :: b :: rest) pos) (dOr f g) :=
  mkX (pe_or ha.pe hb.pe) fun σ H Q ρ F d e h k => by
    simp only [dOr, Option.bind_eq_some_iff] at h
    obtain ⟨x, h1, h2⟩ := h
    refine ⟨ρ, F, x, e, h1, fun v F1 H1 x1 r1 => ?_⟩
    split at h2
    · cases r1
      cases h2
      exact ⟨true, rfl, k _ F1 H1 x1 (.bl _)⟩
    · cases r1
      refine ⟨false, rfl, ?_⟩
      exact ⟨ρ, F1, d, e.ext x1, h2, fun w F2 H2 x2 r2 => k w F2 H2 (x1.trans x2) r2⟩
    · cases h2
def notD : D → Option D | .bool b => some (.bool (!b)) | _ => none
theorem ex_not (ha : EX X a f) : EX X (.UnaryOp .Not a pos) (d1 notD f) :=
  mkX (pe_not ha.pe) fun σ H Q ρ F d e h k => by
    simp only [d1, Option.bind_eq_some_iff] at h
    obtain ⟨x, h1, h2⟩ := h
    refine ⟨ρ, F, x, e, h1, fun v F1 H1 x1 r1 => ?_⟩
    cases x <;> simp only [notD, reduceCtorEq, Option.some.injEq] at h2
    subst h2
    cases r1
    exact ⟨_, rfl, k _ F1 H1 x1 (.bl _)⟩
/-! ### a if c else b -/
theorem ex_if (hc : ET X c fb) (ha : EX X a f) (hb : EX X b g) : EX X (.IfExp c a b pos) (dIf fb f g) :=
  mkX (pe_ifExp hc.pt ha.pe hb.pe) fun σ H Q ρ F d e h k => by
    simp only [dIf, Option.bind_eq_some_iff] at h
    obtain ⟨x, h1, h2⟩ := h
    refine ⟨ρ, F, x, e, h1, fun F1 H1 x1 => ?_⟩
    cases x with
    | true => exact ⟨ρ, F1, d, e.ext x1, h2, fun w F2 H2 x2 r2 => k w F2 H2 (x1.trans x2) r2⟩
    | false => exact ⟨ρ, F1, d, e.ext x1, h2, fun w F2 H2 x2 r2 => k w F2 H2 (x1.trans x2) r2⟩
end
end Zx
/-! Zx4: subscripts, slices, built-in functions, what is walked. -/
namespace Zx
open PySem PySem.Spec L2
/-! ### denotations -/
def ixD : D → D → Option D
  | .list xs, .int i => atI xs i
  | .tuple xs, .int i => atI xs i
  | .dict [(.none, .list xs)], .int i => atI xs i
  | _, _ => none
abbrev DenO := Env → Option (Option Int)
def oNone : DenO := fun _ => some none
def oSome (f : Den) : DenO := fun ρ => (f ρ).bind fun x => match x with | .int i => some (some i) | _ => none
def cutL {α : Type} (xs : List α) (lo hi : Option Int) : List α := (xs.drop (HT.sIx xs.length 0 lo)).take (HT.sIx xs.length xs.length hi - HT.sIx xs.length 0 lo)
def cutD (lo hi : Option Int) : D → Option D
  | .list xs => some (.list (cutL xs lo hi))
  | .tuple xs => some (.tuple (cutL xs lo hi))
  | _ => none
def dSl (f : Den) (l h : DenO) : Den := fun ρ => (f ρ).bind fun x => (l ρ).bind fun lo => (h ρ).bind fun hi => cutD lo hi x
def lenD : D → Option D
  | .list xs => some (.int xs.length)
  | .tuple xs => some (.int xs.length)
  | .dict [(.none, .list xs)] => some (.int xs.length)
  | _ => none
def absD : D → Option D | .int i => some (.int (if i < 0 then -i else i)) | _ => none
def minD2 : D → D → Option D | .int i, .int j => some (.int (if j < i then j else i)) | _, _ => none
def maxD2 : D → D → Option D | .int i, .int j => some (.int (if j > i then j else i)) | _, _ => none
def intD : D → Option D | .int i => some (.int i) | .bool k => some (.int (if k then 1 else 0)) | _ => none
def intsOf : List D → Option (List Int)
  | [] => some []
  | .int i :: r => (intsOf r).bind fun is => some (i :: is)
  | _ => none
def bools : List D → Option (List Bool)
  | [] => some []
  | .bool i :: r => (bools r).bind fun is => some (i :: is)
  | _ => none
def sumD : D → Option D | .list xs => (intsOf xs).bind fun is => some (.int is.sum) | _ => none
def anyD : D → Option D | .list xs => (bools xs).bind fun is => some (.bool (is.any id)) | _ => none
def allD : D → Option D | .list xs => (bools xs).bind fun is => some (.bool (is.all id)) | _ => none
def tupD : D → Option D | .list xs => some (.tuple xs) | .tuple xs => some (.tuple xs) | _ => none
def gcdD : D → D → Option D | .int a, .int b => some (.int (Nat.gcd a.natAbs b.natAbs : Nat)) | _, _ => none
def rgL (lo : Int) (n : Nat) : List D := (List.range n).map fun i => .int (lo + (i : Nat))
def rg1 : D → Option (List D) | .int j => if j.natAbs ≤ 1000000 then some (rgL 0 j.toNat) else none | _ => none
def rg2 : D → D → Option (List D) | .int i, .int j => if j.natAbs ≤ 1000000 ∧ i.natAbs ≤ 1000000 then some (rgL i (j - i).toNat) else none | _, _ => none
abbrev DenI := Env → Option (List D)
def iSeq (f : Den) : DenI := fun ρ => (f ρ).bind seqOf
def iR1 (f : Den) : DenI := fun ρ => (f ρ).bind rg1
def iR2 (f g : Den) : DenI := fun ρ => (f ρ).bind fun x => (g ρ).bind fun y => rg2 x y
def enumL (xs : List D) : List D := (List.range xs.length).zipWith (fun i x => .tuple [.int (i : Nat), x]) xs
def zipL (xs ys : List D) : List D := xs.zipWith (fun x y => .tuple [x, y]) ys
def iEn (f : Den) : DenI := fun ρ => (f ρ).bind fun x => match x with | .list xs => some (enumL xs) | _ => none
def iZp (f g : Den) : DenI := fun ρ => (f ρ).bind fun x => (g ρ).bind fun y => match x, y with | .list xs, .list ys => some (zipL xs ys) | _, _ => none

theorem RpK.nn {K : PySem.W.Frag} {F : Hp} {l : List (D × D)} {kvs : List (Key × V)} (h : RpK K F l kvs) {d : D} {r : List (D × D)} (e : l = (.none, d) :: r) : False := by
  cases h with
  | nil => cases e
  | @cons k _ _ _ _ _ _ =>
    injection e with e1 _
    injection e1 with e2 _
    cases k <;> cases e2
theorem RpB.scr {K : PySem.W.Frag} {F H : Hp} {xs : List D} {v : V} (s : Sub F H) (h : RpB K F H (.dict [(.none, .list xs)]) v) : ∃ (a : Addr) (ns : List Int), v = .ref a ∧ xs = ns.map .int ∧ SqL K H a (ns.map V.int) := by
  rcases h with h | ⟨_, o, _, _, _, h⟩
  · generalize hz : PyData.dict [(.none, .list xs)] = z at h
    cases h with
    | non => cases hz
    | bl => cases hz
    | int => cases hz
    | str => cases hz
    | lst => cases hz
    | tup => cases hz
    | dK h1 h2 =>
      injection hz with hz
      exact (h2.nn hz.symm).elim
    | dT h1 h2 =>
      injection hz with hz
      injection hz with hz _
      injection hz with hz _
      cases hz
    | @scr a ns h =>
      unfold scrD at hz
      injection hz with hz
      injection hz with hz _
      injection hz with _ hz
      injection hz with hz
      subst hz
      refine ⟨a, ns, rfl, rfl, ?_⟩
      rcases h with h | h
      · exact .inl (s.rd h)
      · exact .inr h
  · generalize hz : PyData.dict [(.none, .list xs)] = z at h
    cases h with
    | lst => cases hz
    | dK h2 =>
      injection hz with hz
      exact (h2.nn hz.symm).elim
    | dT h2 =>
      injection hz with hz
      injection hz with hz _
      injection hz with hz _
      cases hz
theorem ixN_len {α β : Type} {xs : List α} {ys : List β} (h : xs.length = ys.length) (i : Int) : ixN xs.length i = ixN ys.length i := by rw [h]
section
variable {X : Cx} {a b c : Expr} {f g : Den} {fl : DenL} {pos : Pos} {K : PySem.W.Frag} {F H : Hp}
theorem RpL.atI {ds : List D} {vs : List V} {i : Int} {d : D} (r : RpL K F ds vs) (h : L2.atI ds i = some d) : ∃ v, L2.atI vs i = some v ∧ Rp K F d v := by
  unfold L2.atI at h ⊢
  rw [Option.bind_eq_some_iff] at h
  obtain ⟨j, h1, h2⟩ := h
  obtain ⟨v, h3, h4⟩ := r.get h2
  exact ⟨v, by rw [ixN_len r.length, h1]; exact h3, h4⟩
theorem ex_ix (ha : EB X a f) (hb : EB X b g) (hs : PlainIx b) : EX X (.Subscript a b pos) (d2 ixD f g) := by
  refine ex_op2 (ta := tC .non) (tb := tC .non) (pe_ix (ix_list.or ix_tup) ha.pe hb.pe hs) fun x y u v d F H Q e s ru rv k => ?_
  unfold ixD at e
  split at e
  · obtain ⟨p, xs, rfl, hp, rp⟩ := ru.list s
    obtain ⟨w, h1, h2⟩ := rp.atI e
    exact .inl ⟨p, xs, _, w, rfl, rv.int, .inl (.inl hp), h1, k w F H (.refl s) h2⟩
  · obtain ⟨p, xs, rfl, hp, rp⟩ := ru.tuple s
    obtain ⟨w, h1, h2⟩ := rp.atI e
    exact .inr ⟨p, xs, _, w, rfl, rv.int, .inl (.inl hp), h1, k w F H (.refl s) h2⟩
  · obtain ⟨p, ns, rfl, rfl, hp⟩ := ru.scr s
    obtain ⟨w, h1, h2⟩ := (RpL.ints (K := X.K) (F := F) ns).atI e
    exact .inl ⟨p, _, _, w, rfl, rv.int, hp, h1, k w F H (.refl s) h2⟩
  · cases e
/-! ### slices -/
def tO (K : PySem.W.Frag) (f : DenO) : TO := fun σ H Q => ∃ ρ F o, EnvOk K ρ σ F H ∧ f ρ = some o ∧ ∀ F' H', Ext F H F' H' → Q o H'
structure EO (X : Cx) (e : Option Expr) (f : DenO) : Prop where
  po : PO X e (tO X.K f)
theorem PO.imp {e : Option Expr} {t t' : TO} (h : PO X e t) (i : ∀ σ H Q, t' σ H Q → t σ H Q) : PO X e t' := ⟨fun pins s σ H Q I hw => h.run pins s σ H Q I (i σ H Q hw)⟩
theorem eo_none : EO X none oNone := ⟨PO.imp po_none fun σ H Q ⟨ρ, F, o, e, h, k⟩ => by
  cases h
  exact k F H (.refl e.sub)⟩
theorem eo_some (ha : EB X a f) : EO X (some a) (oSome f) := ⟨PO.imp (po_some ha.pe) fun σ H Q ⟨ρ, F, o, e, h, k⟩ => by
  simp only [oSome, Option.bind_eq_some_iff] at h
  obtain ⟨x, h1, h2⟩ := h
  refine ⟨ρ, F, x, e, h1, fun v F1 H1 x1 r1 => ?_⟩
  cases x <;> simp only [reduceCtorEq, Option.some.injEq] at h2
  subst h2
  exact ⟨_, r1.int, k F1 H1 x1⟩⟩
theorem cut_rp {ds : List D} {vs : List V} (r : RpL K F ds vs) (lo hi : Option Int) : RpL K F (cutL ds lo hi) (cutV vs lo hi) := by
  unfold cutL cutV
  rw [r.length]
  exact (r.drop _).take _
theorem sl_t {lo hi : Option Expr} {fl fh : DenO} {p2 : Pos} {r} {σ : L2.St} {H : Hp} {Q : VK} {ρ : Env} {F : Hp} {d : D} (e : EnvOk X.K ρ σ F H) (h : dSl f fl fh ρ = some d)
    (k : ∀ x lo hi v F' H', Ext F H F' H' → RpB X.K F' H' x v → cutD lo hi x = some d → r v lo hi H' Q) : tSl r (tB' X.K f) (tO X.K fl) (tO X.K fh) σ H Q := by
  simp only [dSl, Option.bind_eq_some_iff] at h
  obtain ⟨x, h1, lo, h2, hi, h3, h4⟩ := h
  exact ⟨ρ, F, x, e, h1, fun v F1 H1 x1 r1 => ⟨ρ, F1, lo, e.ext x1, h2, fun F2 H2 x2 => ⟨ρ, F2, hi, (e.ext x1).ext x2, h3, fun F3 H3 x3 => k x lo hi v F3 H3 ((x1.trans x2).trans x3) ((r1.ext x2).ext x3) h4⟩⟩⟩
theorem ex_sl {lo hi : Option Expr} {fl fh : DenO} {p2 : Pos} (ha : EB X a f) (hl : EO X lo fl) (hh : EO X hi fh) : EX X (.Subscript a (.Slice lo hi none p2) pos) (dSl f fl fh) :=
  mkX (pe_slice (sl_list.or sl_tupA) ha.pe hl.po hh.po) fun σ H Q ρ F d e h k => sl_t (p2 := p2) (lo := lo) (hi := hi) e h fun x lo hi v F' H' x' r' hd => by
    unfold cutD at hd
    split at hd
    · cases hd
      obtain ⟨p, xs, rfl, hp, rp⟩ := r'.list x'.le
      exact .inl ⟨p, xs, rfl, .inl (.inl hp), fun q hq => k _ _ _ (x'.trans (.add x'.le hq)) (.lst upd_same ((cut_rp rp lo hi).mono (Sub.new (x'.le.free hq))))⟩
    · cases hd
      obtain ⟨p, xs, rfl, hp, rp⟩ := r'.tuple x'.le
      refine .inr ⟨p, xs, rfl, .inl (.inl hp), fun hw => ?_, fun hw q hq => ?_⟩
      · refine k _ F' H' x' ?_
        rename_i ds
        have e1 : cutL ds lo hi = ds := by
          unfold cutL
          rw [← rp.length, hw.1, hw.2, List.drop_zero, Nat.sub_zero, rp.length, List.take_length]
        rw [e1]
        exact r'.elim id fun ⟨_, _, _, _, _, z⟩ => nomatch z
      · exact k _ _ _ (x'.trans (.add x'.le hq)) (.tup upd_same ((cut_rp rp lo hi).mono (Sub.new (x'.le.free hq))))
    · cases hd
/-- a slice of a list, the new list one's own -/
theorem en_sl {lo hi : Option Expr} {fl fh : DenO} {p2 : Pos} (ha : EB X a (fun ρ => (f ρ).bind fun x => match x with | .list xs => some (.list xs) | _ => none)) (hl : EO X lo fl) (hh : EO X hi fh) : EN X (.Subscript a (.Slice lo hi none p2) pos) (dSl (fun ρ => (f ρ).bind fun x => match x with | .list xs => some (.list xs) | _ => none) fl fh) :=
  mkN (pe_slice sl_list ha.pe hl.po hh.po) fun σ H Q ρ F d e h k => by
    have hx : ∃ xs, (f ρ) = some (.list xs) := by
      simp only [dSl, Option.bind_eq_some_iff] at h
      obtain ⟨x, ⟨y, h1, h2⟩, _⟩ := h
      cases y <;> simp only [reduceCtorEq] at h2
      exact ⟨_, h1⟩
    obtain ⟨ys, hys⟩ := hx
    simp only [dSl, Option.bind_eq_some_iff] at h
    obtain ⟨x, ⟨y, h1, h1'⟩, lo, h2, hi, h3, h4⟩ := h
    rw [hys] at h1
    cases h1
    simp only [Option.some.injEq] at h1'
    subst h1'
    simp only [cutD, Option.some.injEq] at h4
    subst h4
    refine ⟨ρ, F, .list ys, e, by show (f ρ).bind _ = _; rw [hys]; rfl, fun v F1 H1 x1 r1 => ⟨ρ, F1, lo, e.ext x1, h2, fun F2 H2 x2 => ⟨ρ, F2, hi, (e.ext x1).ext x2, h3, fun F3 H3 x3 => ?_⟩⟩⟩
    obtain ⟨p, xs, rfl, hp, rp⟩ := ((r1.ext x2).ext x3).list x3.le
    have x' := (x1.trans x2).trans x3
    exact ⟨p, xs, rfl, .inl (.inl hp), fun q hq => k q _ F3 _ (x'.trans (.own x'.le hq)) (x'.le.free hq) (x'.h.free hq) upd_same (.lst (cut_rp rp lo hi))⟩

/-! ### built-in functions of one or two values -/
theorem ex_c1 {op : D → Option D} {e : Expr} {r : List V → Hp → VK → Prop} (h : PE X e (tCB r (tCons (tB' X.K f) tNil)))
    (hr : ∀ x u d F H Q, op x = some d → Sub F H → RpB X.K F H x u → (∀ w F' H', Ext F H F' H' → Rp X.K F' d w → Q w H') → r [u] H Q) : EX X e (d1 op f) :=
  mkX h fun σ H Q ρ F d e h k => by
    simp only [d1, Option.bind_eq_some_iff] at h
    obtain ⟨x, h1, h2⟩ := h
    exact ⟨ρ, F, x, e, h1, fun u F1 H1 x1 r1 => hr x u d F1 H1 Q h2 x1.le r1 fun w F' H' x2 rw => k w F' H' (x1.trans x2) rw⟩
theorem en_c1 {op : D → Option D} {e : Expr} {r : List V → Hp → VK → Prop} (h : PE X e (tCB r (tCons (tB' X.K f) tNil)))
    (hr : ∀ x u d F H Q, op x = some d → Sub F H → RpB X.K F H x u → (∀ p o, H p = none → OwnRep X.K F d o → Q (.ref p) (upd H p o)) → r [u] H Q) : EN X e (d1 op f) :=
  mkN h fun σ H Q ρ F d e h k => by
    simp only [d1, Option.bind_eq_some_iff] at h
    obtain ⟨x, h1, h2⟩ := h
    exact ⟨ρ, F, x, e, h1, fun u F1 H1 x1 r1 => hr x u d F1 H1 Q h2 x1.le r1 fun p o hp ho => k p o F1 _ (x1.trans (.own x1.le hp)) (x1.le.free hp) (x1.h.free hp) upd_same ho⟩
theorem ex_c2 {op : D → D → Option D} {e : Expr} {r : List V → Hp → VK → Prop} (h : PE X e (tCB r (tCons (tB' X.K f) (tCons (tB' X.K g) tNil))))
    (hr : ∀ x y u v d F H Q, op x y = some d → Sub F H → RpB X.K F H x u → RpB X.K F H y v → (∀ w F' H', Ext F H F' H' → Rp X.K F' d w → Q w H') → r [u, v] H Q) : EX X e (d2 op f g) :=
  mkX h fun σ H Q ρ F d e h k => by
    simp only [d2, Option.bind_eq_some_iff] at h
    obtain ⟨x, h1, y, h2, h3⟩ := h
    exact ⟨ρ, F, x, e, h1, fun u F1 H1 x1 r1 => ⟨ρ, F1, y, e.ext x1, h2, fun v F2 H2 x2 r2 => hr x y u v d F2 H2 Q h3 x2.le (r1.ext x2) r2 fun w F' H' x3 rw => k w F' H' ((x1.trans x2).trans x3) rw⟩⟩
variable {p : Pos}
abbrev N1 (X : Cx) (a : Expr) : Prop := starEach [a] X.env = (false, eval a X.env) :: starEach [] X.env
abbrev N2 (X : Cx) (a b : Expr) : Prop := starEach [a, b] X.env = (false, eval a X.env) :: starEach [b] X.env
theorem ex_len (hg : Gl X "len") (hm : X.mg "len" = none) (ha : EB X a f) (hs : N1 X a) : EX X (.Call (.Name "len" p) [a] [] pos) (d1 lenD f) :=
  ex_c1 (pe_callB call_len hg hm boot_len (pa_cons ha.pe pa_nil hs) (by decide) (by decide) hs rfl) fun x u d F H Q e s ru k => by
    unfold lenD at e
    split at e
    · cases e
      obtain ⟨q, xs, rfl, hq, rq⟩ := ru.list s
      rw [← rq.length] at k
      exact ⟨_, _, rfl, .inl ⟨xs, .inl (.inl hq), rfl⟩, k _ F H (.refl s) (.int _)⟩
    · cases e
      obtain ⟨q, xs, rfl, hq, rq⟩ := ru.tuple s
      rw [← rq.length] at k
      exact ⟨_, _, rfl, .inr ⟨xs, .inl (.inl hq), rfl⟩, k _ F H (.refl s) (.int _)⟩
    · cases e
      obtain ⟨q, ns, rfl, rfl, hq⟩ := ru.scr s
      rw [List.length_map] at k
      refine ⟨_, (ns.map V.int).length, rfl, .inl ⟨ns.map V.int, hq, rfl⟩, ?_⟩
      rw [List.length_map]
      exact k _ F H (.refl s) (.int _)
    · cases e
theorem ex_abs (hg : Gl X "abs") (hm : X.mg "abs" = none) (ha : EB X a f) (hs : N1 X a) : EX X (.Call (.Name "abs" p) [a] [] pos) (d1 absD f) :=
  ex_c1 (pe_callB call_abs hg hm rfl (pa_cons ha.pe pa_nil hs) (by decide) (by decide) hs rfl) fun x u d F H Q e s ru k => by
    cases x <;> simp only [absD, reduceCtorEq, Option.some.injEq] at e
    subst e
    exact ⟨_, congrArg (fun z => [z]) ru.int, k _ F H (.refl s) (.int _)⟩
theorem ex_int1 (hg : Gl X "int") (hm : X.mg "int" = none) (ha : EB X a f) (hs : N1 X a) : EX X (.Call (.Name "int" p) [a] [] pos) (d1 intD f) :=
  ex_c1 (pe_callTy call_int1 hg hm rfl (pa_cons ha.pe pa_nil hs) (by decide) (by decide) hs rfl) fun x u d F H Q e s ru k => by
    cases x <;> simp only [intD, reduceCtorEq, Option.some.injEq] at e
    · subst e
      exact .inr ⟨_, congrArg (fun z => [z]) ru.bool, k _ F H (.refl s) (.int _)⟩
    · subst e
      exact .inl ⟨_, congrArg (fun z => [z]) ru.int, k _ F H (.refl s) (.int _)⟩
theorem ex_min2 (hc : X.calm = true) (hg : Gl X "min") (hm : X.mg "min" = none) (ha : EB X a f) (hb : EB X b g) (hs : N2 X a b) (hs1 : N1 X b) : EX X (.Call (.Name "min" p) [a, b] [] pos) (d2 minD2 f g) :=
  ex_c2 (pe_callB (call_min2 hc) hg hm rfl (pa_cons ha.pe (pa_cons hb.pe pa_nil hs1) hs) (by decide) (by decide) hs (by rw [hs1]; rfl)) fun x y u v d F H Q e s ru rv k => by
    cases x <;> cases y <;> simp only [minD2, reduceCtorEq, Option.some.injEq] at e
    subst e
    exact ⟨_, _, by rw [ru.int, rv.int], k _ F H (.refl s) (.int _)⟩
theorem ex_max2 (hc : X.calm = true) (hg : Gl X "max") (hm : X.mg "max" = none) (ha : EB X a f) (hb : EB X b g) (hs : N2 X a b) (hs1 : N1 X b) : EX X (.Call (.Name "max" p) [a, b] [] pos) (d2 maxD2 f g) :=
  ex_c2 (pe_callB (call_max2 hc) hg hm rfl (pa_cons ha.pe (pa_cons hb.pe pa_nil hs1) hs) (by decide) (by decide) hs (by rw [hs1]; rfl)) fun x y u v d F H Q e s ru rv k => by
    cases x <;> cases y <;> simp only [maxD2, reduceCtorEq, Option.some.injEq] at e
    subst e
    exact ⟨_, _, by rw [ru.int, rv.int], k _ F H (.refl s) (.int _)⟩
theorem intsOf_eq : ∀ {xs : List D} {is : List Int}, intsOf xs = some is → xs = is.map .int
  | [], is, h => by cases h; rfl
  | .int i :: r, is, h => by
    simp only [intsOf, Option.bind_eq_some_iff, Option.some.injEq] at h
    obtain ⟨js, h1, rfl⟩ := h
    rw [intsOf_eq h1, List.map_cons]
  | .none :: r, is, h => by simp [intsOf] at h
  | .bool _ :: r, is, h => by simp [intsOf] at h
  | .str _ :: r, is, h => by simp [intsOf] at h
  | .list _ :: r, is, h => by simp [intsOf] at h
  | .tuple _ :: r, is, h => by simp [intsOf] at h
  | .dict _ :: r, is, h => by simp [intsOf] at h
theorem bools_eq : ∀ {xs : List D} {is : List Bool}, bools xs = some is → xs = is.map .bool
  | [], is, h => by cases h; rfl
  | .bool i :: r, is, h => by
    simp only [bools, Option.bind_eq_some_iff, Option.some.injEq] at h
    obtain ⟨js, h1, rfl⟩ := h
    rw [bools_eq h1, List.map_cons]
  | .none :: r, is, h => by simp [bools] at h
  | .int _ :: r, is, h => by simp [bools] at h
  | .str _ :: r, is, h => by simp [bools] at h
  | .list _ :: r, is, h => by simp [bools] at h
  | .tuple _ :: r, is, h => by simp [bools] at h
  | .dict _ :: r, is, h => by simp [bools] at h
theorem RpL.bls : ∀ {bs : List Bool} {vs : List V}, RpL K F (bs.map .bool) vs → vs = bs.map V.bl
  | [], _, .nil => rfl
  | n :: ns, _, .cons h t => by
    cases h
    rw [RpL.bls t, List.map_cons]
theorem ex_sum (hc : X.calm = true) (hg : Gl X "sum") (hm : X.mg "sum" = none) (ha : EB X a f) (hs : N1 X a) : EX X (.Call (.Name "sum" p) [a] [] pos) (d1 sumD f) :=
  ex_c1 (pe_callB (cr_sum hc) hg hm rfl (pa_cons ha.pe pa_nil hs) (by decide) (by decide) hs rfl) fun x u d F H Q e s ru k => by
    cases x <;> simp only [sumD, reduceCtorEq, Option.bind_eq_some_iff, Option.some.injEq] at e
    obtain ⟨is, h1, rfl⟩ := e
    have h2 := intsOf_eq h1
    subst h2
    obtain ⟨q, xs, rfl, hq, rq⟩ := ru.list s
    rw [rq.ints_inv] at hq
    exact ⟨q, is, rfl, .inl (.inl hq), k _ F H (.refl s) (.int _)⟩
theorem ex_any (hc : X.calm = true) (hg : Gl X "any") (hm : X.mg "any" = none) (ha : EB X a f) (hs : N1 X a) : EX X (.Call (.Name "any" p) [a] [] pos) (d1 anyD f) :=
  ex_c1 (pe_callB (cr_any hc) hg hm rfl (pa_cons ha.pe pa_nil hs) (by decide) (by decide) hs rfl) fun x u d F H Q e s ru k => by
    cases x <;> simp only [anyD, reduceCtorEq, Option.bind_eq_some_iff, Option.some.injEq] at e
    obtain ⟨is, h1, rfl⟩ := e
    have h2 := bools_eq h1
    subst h2
    obtain ⟨q, xs, rfl, hq, rq⟩ := ru.list s
    rw [rq.bls] at hq
    exact ⟨q, is, rfl, .inl (.inl hq), k _ F H (.refl s) (.bl _)⟩
theorem ex_all (hc : X.calm = true) (hg : Gl X "all") (hm : X.mg "all" = none) (ha : EB X a f) (hs : N1 X a) : EX X (.Call (.Name "all" p) [a] [] pos) (d1 allD f) :=
  ex_c1 (pe_callB (cr_all hc) hg hm rfl (pa_cons ha.pe pa_nil hs) (by decide) (by decide) hs rfl) fun x u d F H Q e s ru k => by
    cases x <;> simp only [allD, reduceCtorEq, Option.bind_eq_some_iff, Option.some.injEq] at e
    obtain ⟨is, h1, rfl⟩ := e
    have h2 := bools_eq h1
    subst h2
    obtain ⟨q, xs, rfl, hq, rq⟩ := ru.list s
    rw [rq.bls] at hq
    exact ⟨q, is, rfl, .inl (.inl hq), k _ F H (.refl s) (.bl _)⟩
theorem ex_gcd (hg : Gl X "gcd") (hm : X.mg "gcd" = some (.builtin "math.gcd")) (ha : EB X a f) (hb : EB X b g) (hs : N2 X a b) (hs1 : N1 X b) : EX X (.Call (.Name "gcd" p) [a, b] [] pos) (d2 gcdD f g) :=
  ex_c2 (pe_callBfun cr_gcd hg hm (pa_cons ha.pe (pa_cons hb.pe pa_nil hs1) hs) (by decide) hs (by rw [hs1]; rfl)) fun x y u v d F H Q e s ru rv k => by
    cases x <;> cases y <;> simp only [gcdD, reduceCtorEq, Option.some.injEq] at e
    subst e
    exact ⟨_, _, by rw [ru.int, rv.int], k _ F H (.refl s) (.int _)⟩
theorem ex_tuple (hg : Gl X "tuple") (hm : X.mg "tuple" = none) (ha : EB X a f) (hs : N1 X a) : EX X (.Call (.Name "tuple" p) [a] [] pos) (d1 tupD f) :=
  mkX (pe_tupleOf hg hm ha.pe hs) fun σ H Q ρ F d e h k => by
    simp only [d1, Option.bind_eq_some_iff] at h
    obtain ⟨x, h1, h2⟩ := h
    refine ⟨ρ, F, x, e, h1, fun u F1 H1 x1 r1 => ?_⟩
    unfold tupD at h2
    split at h2
    · cases h2
      obtain ⟨q, xs, rfl, hq, rq⟩ := r1.list x1.le
      exact .inl ⟨q, xs, rfl, .inl (.inl hq), fun t ht => k _ _ _ (x1.trans (.add x1.le ht)) (.tup upd_same (rq.mono (Sub.new (x1.le.free ht))))⟩
    · cases h2
      obtain ⟨q, xs, rfl, hq, rq⟩ := r1.tuple x1.le
      exact .inr ⟨q, xs, rfl, .inl (.inl hq), k _ F1 H1 x1 (r1.elim id fun ⟨_, _, _, _, _, z⟩ => nomatch z)⟩
    · cases h2

/-! ### what is walked -/
def Walks (K : PySem.W.Frag) (J : It) (F0 : Hp) (ds : List D) : Prop := ∀ (i : Nat) F H, Sub F0 F → Sub F H →
  (∀ d, ds[i]? = some d → J.go i H ∧ ∀ x H', J.yld i H x H' → ∃ F', Ext F H F' H' ∧ Rp K F' d x) ∧ (ds.length ≤ i → J.stop i H)
def tI (K : PySem.W.Frag) (f : DenI) : TI := fun σ H R => ∃ ρ F ds, EnvOk K ρ σ F H ∧ f ρ = some ds ∧ ∀ J F' H', Ext F H F' H' → Walks K J F' ds → R J H'
structure EI (X : Cx) (tg e : Expr) (f : DenI) : Prop where
  pi : PI X tg e (tI X.K f)
variable {tg : Expr} {fi : DenI}
theorem mkI {e : Expr} {t : TI} (h : PI X tg e t) (i : ∀ σ H R ρ F d, EnvOk X.K ρ σ F H → fi ρ = some d → (∀ J F' H', Ext F H F' H' → Walks X.K J F' d → R J H') → t σ H R) : EI X tg e fi :=
  ⟨PI.imp h fun σ H Q ⟨ρ, F, d, e1, e2, k⟩ => i σ H Q ρ F d e1 e2 k⟩
theorem walks_list {q : Addr} {xs : List V} {ds : List D} (h : F q = some (.lst xs)) (r : RpL K F ds xs) : Walks K (Itl K q) F ds := fun i F1 H1 s1 s2 => by
  have hq : SqL K H1 q xs := .inl (.inl (s2 _ _ (s1 _ _ h)))
  refine ⟨fun d hd => ?_, fun hi => ⟨xs, hq, by rw [r.length]; exact hi⟩⟩
  obtain ⟨v, hv, rv⟩ := r.get hd
  refine ⟨⟨xs, v, hq, hv⟩, fun x H' hy => ?_⟩
  obtain ⟨e, hy⟩ := hy
  subst e
  have := hy xs hq
  rw [hv] at this
  cases this
  exact ⟨F1, .refl s2, rv.mono s1⟩
theorem walks_tup {q : Addr} {xs : List V} {ds : List D} (h : F q = some (.tup xs)) (r : RpL K F ds xs) : Walks K (Itt K q) F ds := fun i F1 H1 s1 s2 => by
  have hq : SqT K H1 q xs := .inl (.inl (s2 _ _ (s1 _ _ h)))
  refine ⟨fun d hd => ?_, fun hi => ⟨xs, hq, by rw [r.length]; exact hi⟩⟩
  obtain ⟨v, hv, rv⟩ := r.get hd
  refine ⟨⟨xs, v, hq, hv⟩, fun x H' hy => ?_⟩
  obtain ⟨e, hy⟩ := hy
  subst e
  have := hy xs hq
  rw [hv] at this
  cases this
  exact ⟨F1, .refl s2, rv.mono s1⟩
theorem rgL_get {lo : Int} {n i : Nat} {d : D} (h : (rgL lo n)[i]? = some d) : i < n ∧ d = .int (lo + (i : Nat)) := by
  unfold rgL at h
  rw [List.getElem?_map, Option.map_eq_some_iff] at h
  obtain ⟨j, h1, rfl⟩ := h
  rw [List.getElem?_eq_some_iff] at h1
  obtain ⟨h2, h3⟩ := h1
  rw [List.getElem_range] at h3
  subst h3
  exact ⟨by simpa using h2, rfl⟩
theorem rgL_length (lo : Int) (n : Nat) : (rgL lo n).length = n := by unfold rgL; rw [List.length_map, List.length_range]
theorem walks_range (lo : Int) (n : Nat) : Walks K (Itr lo n) F (rgL lo n) := fun i F1 H1 s1 s2 => by
  refine ⟨fun d hd => ?_, fun hi => by rw [rgL_length] at hi; exact hi⟩
  obtain ⟨h1, rfl⟩ := rgL_get hd
  refine ⟨h1, fun x H' hy => ?_⟩
  obtain ⟨e, rfl⟩ := hy
  subst e
  exact ⟨F1, .refl s2, .int _⟩
/-- over a list -/
theorem ei_list (ha : EX X a f) : EI X tg a (fun ρ => (f ρ).bind fun x => match x with | .list xs => some xs | _ => none) :=
  mkI (pi_list ha.pe) fun σ H R ρ F d e h k => by
    simp only [Option.bind_eq_some_iff] at h
    obtain ⟨x, h1, h2⟩ := h
    refine ⟨ρ, F, x, e, h1, fun u F1 H1 x1 r1 => ?_⟩
    cases x <;> simp only [reduceCtorEq, Option.some.injEq] at h2
    subst h2
    cases r1 with
    | lst hq rq => exact ⟨_, rfl, ⟨_, .inl (.inl (x1.le _ _ hq))⟩, k _ F1 H1 x1 (walks_list hq rq)⟩
/-- over a tuple -/
theorem ei_tup (ha : EX X a f) : EI X tg a (fun ρ => (f ρ).bind fun x => match x with | .tuple xs => some xs | _ => none) :=
  mkI (pi_tup ha.pe) fun σ H R ρ F d e h k => by
    simp only [Option.bind_eq_some_iff] at h
    obtain ⟨x, h1, h2⟩ := h
    refine ⟨ρ, F, x, e, h1, fun u F1 H1 x1 r1 => ?_⟩
    cases x <;> simp only [reduceCtorEq, Option.some.injEq] at h2
    subst h2
    cases r1 with
    | tup hq rq => exact ⟨_, rfl, ⟨_, .inl (.inl (x1.le _ _ hq))⟩, k _ F1 H1 x1 (walks_tup hq rq)⟩
theorem ei_r1 (hg : Gl X "range") (hm : X.mg "range" = none) (ha : EX X a f) (hs : N1 X a) : EI X tg (.Call (.Name "range" p) [a] [] pos) (iR1 f) :=
  mkI (pi_range1 hg hm (pa_cons ha.pe pa_nil hs) (by rw [hs]; rfl)) fun σ H R ρ F d e h k => by
    simp only [iR1, Option.bind_eq_some_iff] at h
    obtain ⟨x, h1, h2⟩ := h
    refine ⟨ρ, F, x, e, h1, fun u F1 H1 x1 r1 => ?_⟩
    cases x <;> simp only [rg1, reduceCtorEq] at h2
    split at h2
    · rename_i hz
      cases h2
      cases r1
      exact ⟨_, rfl, by omega, by omega, k _ F1 H1 x1 (walks_range 0 _)⟩
    · cases h2
theorem ei_r2 (hg : Gl X "range") (hm : X.mg "range" = none) (ha : EX X a f) (hb : EX X b g) (hs : N2 X a b) (hs1 : N1 X b) : EI X tg (.Call (.Name "range" p) [a, b] [] pos) (iR2 f g) :=
  mkI (pi_range2 hg hm (pa_cons ha.pe (pa_cons hb.pe pa_nil hs1) hs) (by rw [hs, hs1]; rfl) (by rw [hs1]; rfl)) fun σ H R ρ F d e h k => by
    simp only [iR2, Option.bind_eq_some_iff] at h
    obtain ⟨x, h1, y, h2, h3⟩ := h
    refine ⟨ρ, F, x, e, h1, fun u F1 H1 x1 r1 => ⟨ρ, F1, y, e.ext x1, h2, fun v F2 H2 x2 r2 => ?_⟩⟩
    cases x <;> cases y <;> simp only [rg2, reduceCtorEq] at h3
    split at h3
    · rename_i hz
      cases h3
      cases r1
      cases r2
      exact ⟨_, _, rfl, ⟨by omega, by omega, by omega, by omega⟩, k _ F2 H2 (x1.trans x2) (walks_range _ _)⟩
    · cases h3
theorem enumL_get {xs : List D} {i : Nat} {d : D} (h : (enumL xs)[i]? = some d) : ∃ x, xs[i]? = some x ∧ d = .tuple [.int (i : Nat), x] := by
  unfold enumL at h
  rw [List.getElem?_zipWith] at h
  split at h
  · rename_i j x h1 h2
    cases h
    rw [List.getElem?_eq_some_iff] at h1
    obtain ⟨_, h3⟩ := h1
    rw [List.getElem_range] at h3
    subst h3
    exact ⟨x, h2, rfl⟩
  · cases h
theorem enumL_length (xs : List D) : (enumL xs).length = xs.length := by
  unfold enumL
  rw [List.length_zipWith, List.length_range, Nat.min_self]
theorem zipL_get {xs ys : List D} {i : Nat} {d : D} (h : (zipL xs ys)[i]? = some d) : ∃ x y, xs[i]? = some x ∧ ys[i]? = some y ∧ d = .tuple [x, y] := by
  unfold zipL at h
  rw [List.getElem?_zipWith] at h
  split at h
  · rename_i x y h1 h2
    cases h
    exact ⟨x, y, h1, h2, rfl⟩
  · cases h
theorem zipL_length (xs ys : List D) : (zipL xs ys).length = min xs.length ys.length := by
  unfold zipL
  rw [List.length_zipWith]
theorem walks_enum {q : Addr} {xs : List V} {ds : List D} (h : F q = some (.lst xs)) (r : RpL K F ds xs) : Walks K (Ite K q) F (enumL ds) := fun i F1 H1 s1 s2 => by
  have hq : SqL K H1 q xs := .inl (.inl (s2 _ _ (s1 _ _ h)))
  refine ⟨fun d hd => ?_, fun hi => ⟨xs, hq, by rw [r.length]; rw [enumL_length] at hi; exact hi⟩⟩
  obtain ⟨x, hx, rfl⟩ := enumL_get hd
  obtain ⟨v, hv, rv⟩ := r.get hx
  refine ⟨⟨xs, v, hq, hv⟩, fun y H' hy => ?_⟩
  obtain ⟨T, z, rfl, hT, rfl, hz⟩ := hy
  have := hz xs hq
  rw [hv] at this
  cases this
  exact ⟨_, .add s2 hT, .tup upd_same (.cons (.int _) (.cons (rv.mono (s1.trans (Sub.new (s2.free hT)))) .nil))⟩
theorem walks_zip {q q' : Addr} {xs ys : List V} {ds es : List D} (h : F q = some (.lst xs)) (r : RpL K F ds xs) (h' : F q' = some (.lst ys)) (r' : RpL K F es ys) : Walks K (Itz K q q') F (zipL ds es) := fun i F1 H1 s1 s2 => by
  have hq : SqL K H1 q xs := .inl (.inl (s2 _ _ (s1 _ _ h)))
  have hq' : SqL K H1 q' ys := .inl (.inl (s2 _ _ (s1 _ _ h')))
  refine ⟨fun d hd => ?_, fun hi => ⟨xs, ys, hq, hq', by rw [r.length, r'.length]; rw [zipL_length] at hi; omega⟩⟩
  obtain ⟨x, y, hx, hy, rfl⟩ := zipL_get hd
  obtain ⟨v, hv, rv⟩ := r.get hx
  obtain ⟨w, hw, rw'⟩ := r'.get hy
  refine ⟨⟨xs, ys, v, w, hq, hq', hv, hw⟩, fun y H' hy => ?_⟩
  obtain ⟨T, z1, z2, rfl, hT, rfl, hz1, hz2⟩ := hy
  have e1 := hz1 xs hq
  rw [hv] at e1
  cases e1
  have e2 := hz2 ys hq'
  rw [hw] at e2
  cases e2
  have s3 := s1.trans (Sub.new (H := F1) (o := .tup [v, w]) (s2.free hT))
  exact ⟨_, .add s2 hT, .tup upd_same (.cons (rv.mono s3) (.cons (rw'.mono s3) .nil))⟩
variable {elts : List Expr} {kk : Nat} {tpos : Pos}
theorem ei_enum (hg : Gl X "enumerate") (hm : X.mg "enumerate" = none) (ha : EX X a f) (hs : N1 X a) : EI X (.Tuple elts kk tpos) (.Call (.Name "enumerate" p) [a] [] pos) (iEn f) :=
  mkI (pi_enum hg hm (pa_cons ha.pe pa_nil hs) (by rw [hs]; rfl)) fun σ H R ρ F d e h k => by
    simp only [iEn, Option.bind_eq_some_iff] at h
    obtain ⟨x, h1, h2⟩ := h
    refine ⟨ρ, F, x, e, h1, fun u F1 H1 x1 r1 => ?_⟩
    cases x <;> simp only [reduceCtorEq, Option.some.injEq] at h2
    subst h2
    cases r1 with
    | lst hq rq => exact ⟨_, _, rfl, .inl (.inl (x1.le _ _ hq)), k _ F1 H1 x1 (walks_enum hq rq)⟩
theorem ei_zip (hg : Gl X "zip") (hm : X.mg "zip" = none) (ha : EX X a f) (hb : EX X b g) (hs : N2 X a b) (hs1 : N1 X b) : EI X (.Tuple elts kk tpos) (.Call (.Name "zip" p) [a, b] [] pos) (iZp f g) :=
  mkI (pi_zip hg hm (pa_cons ha.pe (pa_cons hb.pe pa_nil hs1) hs) hs (by rw [hs1]; rfl)) fun σ H R ρ F d e h k => by
    simp only [iZp, Option.bind_eq_some_iff] at h
    obtain ⟨x, h1, y, h2, h3⟩ := h
    refine ⟨ρ, F, x, e, h1, fun u F1 H1 x1 r1 => ⟨ρ, F1, y, e.ext x1, h2, fun v F2 H2 x2 r2 => ?_⟩⟩
    cases x <;> cases y <;> simp only [reduceCtorEq, Option.some.injEq] at h3
    subst h3
    cases r1 with
    | lst hq rq =>
      cases r2 with
      | lst hq' rq' => exact ⟨_, _, _, _, rfl, .inl (.inl (x2.le _ _ (x2.f _ _ hq))), .inl (.inl (x2.le _ _ hq')), k _ F2 H2 (x1.trans x2) (walks_zip (x2.f _ _ hq) (rq.mono x2.f) hq' rq')⟩
end
end Zx
/-! Zx5: targets, statements, loops. -/
namespace Zx
open PySem PySem.Spec L2
/-! ### targets that store names alone -/
abbrev DenG := D → Env → Option Env
structure SameBut (ws : List Nat) (σ σ' : L2.St) : Prop where
  len : σ'.length = σ.length
  at_ : ∀ j, j ∉ ws → σ'[j]? = σ[j]?
theorem SameBut.trans {ws vs : List Nat} {σ σ' σ'' : L2.St} (a : SameBut ws σ σ') (b : SameBut vs σ' σ'') : SameBut (ws ++ vs) σ σ'' :=
  ⟨b.len.trans a.len, fun j hj => by
    rw [List.mem_append, not_or] at hj
    rw [b.at_ j hj.2, a.at_ j hj.1]⟩
/-- what is one's own was so before -/
def OwK (ρ : Env) (σ : L2.St) (ρ' : Env) (σ' : L2.St) : Prop := ∀ (j : Nat) d, ρ'[j]? = some (.ow d) → ρ[j]? = some (.ow d) ∧ σ'[j]? = σ[j]?
theorem OwK.trans {ρ ρ' ρ'' : Env} {σ σ' σ'' : L2.St} (a : OwK ρ σ ρ' σ') (b : OwK ρ' σ' ρ'' σ'') : OwK ρ σ ρ'' σ'' := fun j d h => by
  obtain ⟨h1, h2⟩ := b j d h
  obtain ⟨h3, h4⟩ := a j d h1
  exact ⟨h3, h2.trans h4⟩
theorem OwK.set {ρ : Env} {σ : L2.St} {i : Nat} {d : D} {v : Option V} : OwK ρ σ (ρ.set i (.fz d)) (σ.set i v) := fun j d' h => by
  by_cases hj : i = j
  · subst hj
    by_cases hl : i < ρ.length
    · rw [List.getElem?_set_self hl] at h
      cases h
    · rw [List.getElem?_eq_none (by rw [List.length_set]; omega)] at h
      cases h
  · rw [List.getElem?_set_ne hj] at h
    exact ⟨h, List.getElem?_set_ne hj⟩
def tGt (K : PySem.W.Frag) (ws : List Nat) (g : DenG) : TG := fun v σ H Q => ∃ ρ F d ρ', EnvOk K ρ σ F H ∧ Rp K F d v ∧ g d ρ = some ρ' ∧ ∀ σ', EnvOk K ρ' σ' F H → SameBut ws σ σ' → OwK ρ σ ρ' σ' → Q σ' H
structure EG (X : Cx) (tg : Expr) (ws : List Nat) (g : DenG) : Prop where
  pg : PG X tg (tGt X.K ws g)
abbrev DenGs := List D → Env → Option Env
def tGts (K : PySem.W.Frag) (ws : List Nat) (g : DenGs) : TGs := fun vs σ H Q => ∃ ρ F ds ρ', EnvOk K ρ σ F H ∧ RpL K F ds vs ∧ g ds ρ = some ρ' ∧ ∀ σ', EnvOk K ρ' σ' F H → SameBut ws σ σ' → OwK ρ σ ρ' σ' → Q σ' H
structure EGs (X : Cx) (tg : List Expr) (ws : List Nat) (g : DenGs) : Prop where
  pg : PGs X tg (tGts X.K ws g)
theorem PG.imp {X : Cx} {e : Expr} {t t' : TG} (h : PG X e t) (i : ∀ v σ H Q, t' v σ H Q → t v σ H Q) : PG X e t' := ⟨fun pins s σ H v u Q I r hw => h.run pins s σ H v u Q I r (i v σ H Q hw)⟩
theorem PGs.imp {X : Cx} {e : List Expr} {t t' : TGs} (h : PGs X e t) (i : ∀ v σ H Q, t' v σ H Q → t v σ H Q) : PGs X e t' := ⟨fun pins s σ H v u Q I r hw => h.run pins s σ H v u Q I r (i v σ H Q hw)⟩
def gN (i : Nat) : DenG := fun d ρ => some (ρ.set i (.fz d))
def gsNil : DenGs := fun ds ρ => match ds with | [] => some ρ | _ => none
def gsCons (g : DenG) (gs : DenGs) : DenGs := fun ds ρ => match ds with | d :: r => (g d ρ).bind fun ρ' => gs r ρ' | _ => none
def gT (gs : DenGs) (n : Nat) : DenG := fun d ρ => match d with | .tuple ds => if ds.length = n then gs ds ρ else none | _ => none
def gLs (gs : DenGs) (n : Nat) : DenG := fun d ρ => match d with | .list ds => if ds.length = n then gs ds ρ else none | _ => none
theorem EnvOk.set {K : PySem.W.Frag} {ρ : Env} {σ : L2.St} {F H : Hp} {i : Nat} {d : D} {v : V} (e : EnvOk K ρ σ F H) (r : Rp K F d v) : EnvOk K (ρ.set i (.fz d)) (σ.set i (some v)) F H where
  sub := e.sub
  len := by rw [List.length_set, List.length_set]; exact e.len
  at_ := fun j s hs => by
    by_cases hj : i = j
    · subst hj
      by_cases hl : i < ρ.length
      · rw [List.getElem?_set_self hl] at hs
        cases hs
        exact ⟨some v, List.getElem?_set_self (by rw [← e.len]; exact hl), v, rfl, r⟩
      · rw [List.getElem?_eq_none (by rw [List.length_set]; omega)] at hs
        cases hs
    · rw [List.getElem?_set_ne hj] at hs
      rw [List.getElem?_set_ne hj]
      exact e.at_ j s hs
  dist := fun j k d1 d2 a h1 h2 h3 h4 => by
    have z : ∀ {j : Nat} {d1 : D}, (ρ.set i (.fz d))[j]? = some (.ow d1) → i ≠ j ∧ ρ[j]? = some (.ow d1) := fun {j d1} h => by
      by_cases hj : i = j
      · subst hj
        by_cases hl : i < ρ.length
        · rw [List.getElem?_set_self hl] at h
          cases h
        · rw [List.getElem?_eq_none (by rw [List.length_set]; omega)] at h
          cases h
      · rw [List.getElem?_set_ne hj] at h
        exact ⟨hj, h⟩
    obtain ⟨n1, g1⟩ := z h1
    obtain ⟨n2, g2⟩ := z h2
    rw [List.getElem?_set_ne n1] at h3
    rw [List.getElem?_set_ne n2] at h4
    exact e.dist j k d1 d2 a g1 g2 h3 h4
theorem SameBut.set {i : Nat} {σ : L2.St} {v : Option V} : SameBut [i] σ (σ.set i v) := ⟨List.length_set, fun j hj => List.getElem?_set_ne fun e => hj (by rw [e]; exact List.mem_singleton_self _)⟩
section
variable {X : Cx} {pos : Pos} {K : PySem.W.Frag}
def locB (sc : Scope) (x : Str) : Bool := match sc.names.lookup x with | some .local => true | some .cell => true | _ => false
theorem loc_of {sc : Scope} {x : Str} (h : locB sc x = true) : L2.Loc sc x := by
  unfold locB at h
  unfold L2.Loc
  split at h
  · rename_i e; exact .inl e
  · rename_i e; exact .inr e
  · cases h
def fnB (X : Cx) (x : Str) : Bool := X.fn x || (match X.env.scope.names.lookup x with | some .local => true | _ => false)
theorem fn_or {x : Str} (h : fnB X x = true) : X.fn x = true ∨ X.env.scope.names.lookup x = some .local := by
  unfold fnB at h
  rw [Bool.or_eq_true] at h
  rcases h with h | h
  · exact .inl h
  · right
    split at h
    · assumption
    · cases h
theorem eg_name (i : Nat) {x : Str} (hN : X.N.Nodup) (hi : X.N[i]? = some x) (hx : locB X.env.scope x = true) (hf : fnB X x = true) : EG X (.Name x pos) [i] (gN i) :=
  ⟨PG.imp (pg_name hN hi (loc_of hx) (fn_or hf)) fun v σ H Q ⟨ρ, F, d, ρ', e, r, h, k⟩ => by
    cases h
    exact k _ (e.set r) .set .set⟩
theorem egs_nil : EGs X [] [] gsNil :=
  ⟨PGs.imp pgs_nil fun vs σ H Q ⟨ρ, F, ds, ρ', e, r, h, k⟩ => by
    cases r with
    | nil =>
      cases h
      exact ⟨rfl, k σ e ⟨rfl, fun _ _ => rfl⟩ fun _ _ z => ⟨z, rfl⟩⟩
    | cons _ _ => cases h⟩
theorem egs_cons {a : Expr} {es : List Expr} {ws vs : List Nat} {g : DenG} {gs : DenGs} (h1 : EG X a ws g) (h2 : EGs X es vs gs) (hs : (assignEach (a :: es) X.env).map (·.2) = assign a X.env :: (assignEach es X.env).map (·.2)) : EGs X (a :: es) (ws ++ vs) (gsCons g gs) :=
  ⟨PGs.imp (pgs_cons h1.pg h2.pg hs) fun us σ H Q ⟨ρ, F, ds, ρ', e, r, h, k⟩ => by
    cases r with
    | nil => cases h
    | cons r t =>
      simp only [gsCons, Option.bind_eq_some_iff] at h
      obtain ⟨ρ1, g1, g2⟩ := h
      exact ⟨_, _, rfl, ρ, F, _, ρ1, e, r, g1, fun σ1 e1 s1 o1 => ⟨ρ1, F, _, ρ', e1, t, g2, fun σ2 e2 s2 o2 => k σ2 e2 (s1.trans s2) (o1.trans o2)⟩⟩⟩
theorem eg_tup {es : List Expr} {kk : Nat} {ws : List Nat} {gs : DenGs} {n : Nat} (hc : X.calm = true) (h : EGs X es ws gs) (hn : (assignEach es X.env).length = n) (hst : (assignEach es X.env).findIdx? (·.1) = none) : EG X (.Tuple es kk pos) ws (gT gs n) :=
  ⟨PG.imp (pg_tup hc h.pg hn hst) fun v σ H Q ⟨ρ, F, d, ρ', e, r, hg, k⟩ => by
    unfold gT at hg
    split at hg
    · split at hg
      · rename_i hl
        cases r with
        | tup ha hr => exact ⟨_, _, rfl, .inl (.inl (e.sub _ _ ha)), by rw [hr.length]; exact hl, ρ, F, _, ρ', e, hr, hg, k⟩
      · cases hg
    · cases hg⟩
theorem eg_lst {es : List Expr} {kk : Nat} {ws : List Nat} {gs : DenGs} {n : Nat} (hc : X.calm = true) (h : EGs X es ws gs) (hn : (assignEach es X.env).length = n) (hst : (assignEach es X.env).findIdx? (·.1) = none) : EG X (.Tuple es kk pos) ws (gLs gs n) :=
  ⟨PG.imp (pg_unl hc h.pg hn hst) fun v σ H Q ⟨ρ, F, d, ρ', e, r, hg, k⟩ => by
    unfold gLs at hg
    split at hg
    · split at hg
      · rename_i hl
        cases r with
        | lst ha hr => exact ⟨_, _, rfl, .inl (.inl (e.sub _ _ ha)), by rw [hr.length]; exact hl, ρ, F, _, ρ', e, hr, hg, k⟩
      · cases hg
    · cases hg⟩
end

/-! ### statements -/
inductive Out where
  | nx (ρ : Env) | rt (d : D) | rn (d : D) | bk (ρ : Env) | ct (ρ : Env)
abbrev DenS := Env → Option Out
structure EnvS (K : PySem.W.Frag) (F0 H0 : Hp) (ρ : Env) (σ : L2.St) (F H : Hp) : Prop where
  env : EnvOk K ρ σ F H
  ext : Ext F0 H0 F H
  own : ∀ (i : Nat) d a, ρ[i]? = some (.ow d) → σ[i]? = some (some (.ref a)) → H0 a = none
def Post (K : PySem.W.Frag) (F0 H0 : Hp) (D : Ends) : Out → Prop
  | .nx ρ' => ∀ σ' F' H', EnvS K F0 H0 ρ' σ' F' H' → D.nx σ' H'
  | .bk ρ' => ∀ σ' F' H', EnvS K F0 H0 ρ' σ' F' H' → D.bk σ' H'
  | .ct ρ' => ∀ σ' F' H', EnvS K F0 H0 ρ' σ' F' H' → D.ct σ' H'
  | .rt d => ∀ v F' H', Ext F0 H0 F' H' → Rp K F' d v → D.rt v H'
  | .rn d => ∀ a o F' H', Ext F0 H0 F' H' → F' a = none → H0 a = none → H' a = some o → OwnRep K F' d o → D.rt (.ref a) H'
def tSt (K : PySem.W.Frag) (f : DenS) : TS := fun D σ H => ∃ F0 H0 ρ F o, EnvS K F0 H0 ρ σ F H ∧ f ρ = some o ∧ Post K F0 H0 D o
structure SX (X : Cx) (st : Stmt) (f : DenS) : Prop where
  ps : PS X st (tSt X.K f)
structure SXs (X : Cx) (sts : List Stmt) (f : DenS) : Prop where
  pss : PSs X sts (tSt X.K f)
theorem EnvS.to {K : PySem.W.Frag} {F0 H0 : Hp} {ρ : Env} {σ : L2.St} {F H F' H' : Hp} (e : EnvS K F0 H0 ρ σ F H) (x : Ext F H F' H') : EnvS K F0 H0 ρ σ F' H' := ⟨e.env.ext x, e.ext.trans x, e.own⟩
def sNx : DenS := fun ρ => some (.nx ρ)
def sSeq (f g : DenS) : DenS := fun ρ => (f ρ).bind fun o => match o with | .nx ρ' => g ρ' | o => some o
section
variable {X : Cx} {st : Stmt} {sts : List Stmt} {f g : DenS} {fd : Den} {fb : DenB} {a : Expr} {pos : Pos}
theorem sx_mk {t : TS} (h : PS X st t) (i : ∀ D σ H F0 H0 ρ F o, EnvS X.K F0 H0 ρ σ F H → f ρ = some o → Post X.K F0 H0 D o → t D σ H) : SX X st f := ⟨PS.imp h fun D σ H ⟨F0, H0, ρ, F, o, e, h, k⟩ => i D σ H F0 H0 ρ F o e h k⟩
theorem sxs_nil : SXs X [] sNx := ⟨PSs.imp pss_nil fun D σ H ⟨F0, H0, ρ, F, o, e, h, k⟩ => by
  cases h
  exact k σ F H e⟩
theorem sxs_cons (h1 : SX X st f) (h2 : SXs X sts g) : SXs X (st :: sts) (sSeq f g) :=
  ⟨PSs.imp (pss_cons h1.ps h2.pss) fun D σ H ⟨F0, H0, ρ, F, o, e, h, k⟩ => by
    simp only [sSeq, Option.bind_eq_some_iff] at h
    obtain ⟨o1, h1, h2⟩ := h
    refine ⟨F0, H0, ρ, F, o1, e, h1, ?_⟩
    cases o1 with
    | nx ρ' => exact fun σ' F' H' e' => ⟨F0, H0, ρ', F', o, e', h2, k⟩
    | rt d =>
      cases h2
      exact k
    | rn d =>
      cases h2
      exact k
    | bk ρ' =>
      cases h2
      exact k
    | ct ρ' =>
      cases h2
      exact k⟩
theorem sxs_one (h1 : SX X st f) : SXs X [st] f := ⟨pss_one h1.ps⟩
/-- what the proof never comes to -/
def sNo : DenS := fun _ => none
theorem sx_no : SX X st sNo := ⟨PS.imp ps_never fun D σ H ⟨F0, H0, ρ, F, o, e, h, k⟩ => nomatch h⟩
theorem sx_pass : SX X (.Pass pos) sNx := sx_mk ps_pass fun D σ H F0 H0 ρ F o e h k => by
  cases h
  exact k σ F H e
def sBk : DenS := fun ρ => some (.bk ρ)
def sCt : DenS := fun ρ => some (.ct ρ)
theorem sx_break : SX X (.Break pos) sBk := sx_mk ps_break fun D σ H F0 H0 ρ F o e h k => by
  cases h
  exact k σ F H e
theorem sx_cont : SX X (.Continue pos) sCt := sx_mk ps_continue fun D σ H F0 H0 ρ F o e h k => by
  cases h
  exact k σ F H e
def sDrop (f : Den) : DenS := fun ρ => (f ρ).bind fun _ => some (.nx ρ)
theorem sx_expr (h : EX X a fd) (hs : swapsWith a none pos.line X.env = pure false) : SX X (.Expr a pos) (sDrop fd) := sx_mk (ps_expr h.pe hs) fun D σ H F0 H0 ρ F o e h k => by
  simp only [sDrop, Option.bind_eq_some_iff, Option.some.injEq] at h
  obtain ⟨d, h1, rfl⟩ := h
  exact ⟨ρ, F, d, e.env, h1, fun v F' H' x r => k σ F' H' (e.to x)⟩
def sRet (f : Den) : DenS := fun ρ => (f ρ).bind fun d => some (.rt d)
theorem sx_ret (h : EX X a fd) : SX X (.Return (some a) pos) (sRet fd) := sx_mk (ps_ret h.pe) fun D σ H F0 H0 ρ F o e h k => by
  simp only [sRet, Option.bind_eq_some_iff, Option.some.injEq] at h
  obtain ⟨d, h1, rfl⟩ := h
  exact ⟨ρ, F, d, e.env, h1, fun v F' H' x r => k v F' H' (e.ext.trans x) r⟩
def sRetNew (f : Den) : DenS := fun ρ => (f ρ).bind fun d => some (.rn d)
theorem sx_retNew (h : EN X a fd) : SX X (.Return (some a) pos) (sRetNew fd) := sx_mk (ps_ret h.pe) fun D σ H F0 H0 ρ F o e h k => by
  simp only [sRetNew, Option.bind_eq_some_iff, Option.some.injEq] at h
  obtain ⟨d, h1, rfl⟩ := h
  exact ⟨ρ, F, d, e.env, h1, fun a o F' H' x h1 h2 h3 h4 => k a o F' H' (e.ext.trans x) h1 (e.ext.h.free h2) h3 h4⟩
/-- return x, x one's own list: it is the caller's -/
def sRetOwn (i : Nat) : DenS := fun ρ => match ρ[i]? with | some (.ow d) => some (.rn d) | _ => none
theorem sx_retOwn (i : Nat) {x : Str} {p : Pos} (hN : X.N[i]? = some x) (hv : visB X.env.scope x = true) (hd : (x == ("__debug__" : Str)) = false) (hcd : (x == ("__classdict__" : Str)) = false) : SX X (.Return (some (.Name x p)) pos) (sRetOwn i) :=
  sx_mk (ps_ret (pe_var hN (vis_of hv) hd hcd)) fun D σ H F0 H0 ρ F o e h k => by
    unfold sRetOwn at h
    split at h
    · rename_i d hs
      cases h
      obtain ⟨ov, h1, a, o, h2, h3, h4, h5⟩ := e.env.at_ i _ hs
      subst h2
      exact ⟨_, h1, k a o F H e.ext h3 (e.own i d a hs h1) h4 h5⟩
    · cases h
def sRetN : DenS := fun _ => some (.rt .none)
theorem sx_retN : SX X (.Return none pos) sRetN := sx_mk ps_retN fun D σ H F0 H0 ρ F o e h k => by
  cases h
  exact k _ F H e.ext .non
def sIf (c : DenB) (f g : DenS) : DenS := fun ρ => (c ρ).bind fun b => if b then f ρ else g ρ
theorem sx_if {c : Expr} {s1 s2 : List Stmt} (hc : ET X c fb) (h1 : SXs X s1 f) (h2 : SXs X s2 g) : SX X (.If c s1 s2 pos) (sIf fb f g) := sx_mk (ps_if hc.pt h1.pss h2.pss) fun D σ H F0 H0 ρ F o e h k => by
  simp only [sIf, Option.bind_eq_some_iff] at h
  obtain ⟨b, h1, h2⟩ := h
  refine ⟨ρ, F, b, e.env, h1, fun F' H' x => ?_⟩
  cases b with
  | true => exact ⟨F0, H0, ρ, F', o, e.to x, h2, k⟩
  | false => exact ⟨F0, H0, ρ, F', o, e.to x, h2, k⟩
/-! ### assignments -/
def sSet (i : Nat) (f : Den) : DenS := fun ρ => (f ρ).bind fun d => some (.nx (ρ.set i (.fz d)))
theorem EnvS.set {K : PySem.W.Frag} {F0 H0 : Hp} {ρ : Env} {σ : L2.St} {F H : Hp} {i : Nat} {d : D} {v : V} (e : EnvS K F0 H0 ρ σ F H) (r : Rp K F d v) : EnvS K F0 H0 (ρ.set i (.fz d)) (σ.set i (some v)) F H :=
  ⟨e.env.set r, e.ext, fun j d' a h1 h2 => by
    by_cases hj : i = j
    · subst hj
      by_cases hl : i < ρ.length
      · rw [List.getElem?_set_self hl] at h1
        cases h1
      · rw [List.getElem?_eq_none (by rw [List.length_set]; omega)] at h1
        cases h1
    · rw [List.getElem?_set_ne hj] at h1 h2
      exact e.own j d' a h1 h2⟩
theorem sx_set (i : Nat) {x : Str} {pos' : Pos} (hN : X.N.Nodup) (hi : X.N[i]? = some x) (hx : locB X.env.scope x = true) (hf : fnB X x = true) (ha : EX X a fd) (hs : swapsWith a (some (.Name x pos')) pos.line X.env = pure false) :
    SX X (.Assign [.Name x pos'] a pos) (sSet i fd) := sx_mk (ps_set hN hi (loc_of hx) ha.pe hs (fn_or hf)) fun D σ H F0 H0 ρ F o e h k => by
  simp only [sSet, Option.bind_eq_some_iff, Option.some.injEq] at h
  obtain ⟨d, h1, rfl⟩ := h
  exact ⟨ρ, F, d, e.env, h1, fun v F' H' x r => k _ F' H' ((e.to x).set r)⟩
/-- x = a new list or dict, x one's own -/
def sOwn (i : Nat) (f : Den) : DenS := fun ρ => (f ρ).bind fun d => some (.nx (ρ.set i (.ow d)))
theorem EnvS.setOwn {K : PySem.W.Frag} {F0 H0 : Hp} {ρ : Env} {σ : L2.St} {F H F1 H1 : Hp} {i : Nat} {d : D} {p : Addr} {ob : HO} (e : EnvS K F0 H0 ρ σ F1 H1) (x : Ext F1 H1 F H) (hp : H1 p = none) (hF : F p = none) (hH : H p = some ob) (r : OwnRep K F d ob) :
    EnvS K F0 H0 (ρ.set i (.ow d)) (σ.set i (some (.ref p))) F H := by
  have e' := e.to x
  have z : ∀ {j : Nat} {d1 : D} {b : Addr}, (ρ.set i (.ow d))[j]? = some (.ow d1) → (σ.set i (some (.ref p)))[j]? = some (some (.ref b)) → (j = i ∧ b = p) ∨ (j ≠ i ∧ ρ[j]? = some (.ow d1) ∧ σ[j]? = some (some (.ref b)) ∧ b ≠ p) := fun {j d1 b} h1 h2 => by
    by_cases hj : i = j
    · subst hj
      by_cases hl : i < σ.length
      · rw [List.getElem?_set_self hl] at h2
        cases h2
        exact .inl ⟨rfl, rfl⟩
      · rw [List.getElem?_eq_none (by rw [List.length_set]; omega)] at h2
        cases h2
    · rw [List.getElem?_set_ne hj] at h1 h2
      refine .inr ⟨Ne.symm hj, h1, h2, ?_⟩
      rintro rfl
      obtain ⟨ov, g1, a, o, g2, g3, g4, g5⟩ := e.env.at_ j _ h1
      rw [h2] at g1
      cases g1
      cases g2
      rw [hp] at g4
      cases g4
  refine ⟨⟨e'.env.sub, by rw [List.length_set, List.length_set]; exact e'.env.len, fun j s hs => ?_, fun j k d1 d2 b h1 h2 h3 h4 => ?_⟩, e'.ext, fun j d1 b h1 h2 => ?_⟩
  · by_cases hj : i = j
    · subst hj
      by_cases hl : i < ρ.length
      · rw [List.getElem?_set_self hl] at hs
        cases hs
        exact ⟨_, List.getElem?_set_self (by rw [← e.env.len]; exact hl), p, ob, rfl, hF, hH, r⟩
      · rw [List.getElem?_eq_none (by rw [List.length_set]; omega)] at hs
        cases hs
    · rw [List.getElem?_set_ne hj] at hs
      rw [List.getElem?_set_ne hj]
      exact e'.env.at_ j s hs
  · rcases z h1 h3 with ⟨rfl, rfl⟩ | ⟨n1, g1, g3, nb⟩
    · rcases z h2 h4 with ⟨rfl, _⟩ | ⟨n2, g2, g4, nb⟩
      · rfl
      · exact absurd rfl nb
    · rcases z h2 h4 with ⟨_, rfl⟩ | ⟨n2, g2, g4, _⟩
      · exact absurd rfl nb
      · exact e.env.dist j k d1 d2 b g1 g2 g3 g4
  · rcases z h1 h2 with ⟨_, rfl⟩ | ⟨n1, g1, g3, nb⟩
    · exact e.ext.h.free hp
    · exact e.own j d1 b g1 g3
theorem sx_own (i : Nat) {x : Str} {pos' : Pos} (hN : X.N.Nodup) (hi : X.N[i]? = some x) (hx : locB X.env.scope x = true) (hf : fnB X x = true) (ha : EN X a fd) (hs : swapsWith a (some (.Name x pos')) pos.line X.env = pure false) :
    SX X (.Assign [.Name x pos'] a pos) (sOwn i fd) := sx_mk (ps_set hN hi (loc_of hx) ha.pe hs (fn_or hf)) fun D σ H F0 H0 ρ F o e h k => by
  simp only [sOwn, Option.bind_eq_some_iff, Option.some.injEq] at h
  obtain ⟨d, h1, rfl⟩ := h
  exact ⟨ρ, F, d, e.env, h1, fun p o F' H' x hF hp hH r => k _ F' H' (e.setOwn x hp hF hH r)⟩
/-- targets of names: a, b = e -/
def sAsg (g : DenG) (f : Den) : DenS := fun ρ => (f ρ).bind fun d => (g d ρ).bind fun ρ' => some (.nx ρ')
/-- ahead of a statement one's own list is given away: from here it is read only -/
def frz (i : Nat) (ρ : Env) : Env := match ρ[i]? with | some (.ow d) => ρ.set i (.fz d) | _ => ρ
def sFrz (i : Nat) (f : DenS) : DenS := fun ρ => f (frz i ρ)
theorem EnvS.frz {K : PySem.W.Frag} {F0 H0 : Hp} {ρ : Env} {σ : L2.St} {F H : Hp} (i : Nat) (e : EnvS K F0 H0 ρ σ F H) : ∃ F', EnvS K F0 H0 (frz i ρ) σ F' H := by
  unfold Zx.frz
  split
  · rename_i d hs
    obtain ⟨ov, h1, a, o, h2, h3, h4, h5⟩ := e.env.at_ i _ hs
    subst h2
    have sF : Sub F (upd F a o) := Sub.new h3
    have hl : i < ρ.length := (List.getElem?_eq_some_iff.mp hs).1
    have z : ∀ {j : Nat} {d1 : D}, (ρ.set i (.fz d))[j]? = some (.ow d1) → j ≠ i ∧ ρ[j]? = some (.ow d1) := fun {j d1} h => by
      by_cases hj : i = j
      · subst hj
        rw [List.getElem?_set_self hl] at h
        cases h
      · rw [List.getElem?_set_ne hj] at h
        exact ⟨Ne.symm hj, h⟩
    refine ⟨upd F a o, ⟨⟨fun b u hb => ?_, by rw [List.length_set]; exact e.env.len, fun j s hj => ?_, fun j k d1 d2 b g1 g2 g3 g4 => e.env.dist j k d1 d2 b (z g1).2 (z g2).2 g3 g4⟩, ⟨e.ext.f.trans sF, e.ext.h, fun b u hb => ?_, fun b n1 n2 => ?_⟩, fun j d1 b g1 g2 => e.own j d1 b (z g1).2 g2⟩⟩
    · by_cases hba : b = a
      · subst hba; rw [upd_same] at hb; cases hb; exact h4
      · rw [upd_ne hba] at hb; exact e.env.sub b u hb
    · by_cases hij : i = j
      · subst hij
        rw [List.getElem?_set_self hl] at hj
        cases hj
        refine ⟨_, h1, _, rfl, ?_⟩
        cases h5 with
        | lst t => exact .lst upd_same (t.mono sF)
        | dK t => exact .dK (.inl upd_same) (t.mono sF)
        | dT t => exact .dT (.inl upd_same) (t.mono sF)
      · rw [List.getElem?_set_ne hij] at hj
        obtain ⟨ov, g1, g2⟩ := e.env.at_ j s hj
        refine ⟨ov, g1, ?_⟩
        cases s with
        | no => trivial
        | fz d' =>
          obtain ⟨v, g3, g4⟩ := g2
          exact ⟨v, g3, g4.mono sF⟩
        | ow d' =>
          obtain ⟨b, u, g3, g4, g5, g6⟩ := g2
          refine ⟨b, u, g3, ?_, g5, g6.mono sF⟩
          rw [upd_ne]
          · exact g4
          · rintro rfl
            subst g3
            exact hij (e.env.dist i j d d' b hs hj h1 g1)
    · by_cases hba : b = a
      · subst hba; rw [upd_same] at hb; cases hb; exact h4
      · rw [upd_ne hba] at hb; exact e.env.sub b u hb
    · rw [upd_ne]
      · exact e.ext.new b n1 n2
      · rintro rfl
        exact n1 (e.own i d b hs h1)
  · exact ⟨F, e⟩
theorem sx_frz (i : Nat) (h : SX X st f) : SX X st (sFrz i f) := sx_mk h.ps fun D σ H F0 H0 ρ F o e h k => by
  obtain ⟨F', e'⟩ := e.frz i
  exact ⟨F0, H0, _, F', o, e', h, k⟩
theorem sxs_frz (i : Nat) (h : SXs X sts f) : SXs X sts (sFrz i f) := ⟨PSs.imp h.pss fun D σ H ⟨F0, H0, ρ, F, o, e, h, k⟩ => by
  obtain ⟨F', e'⟩ := e.frz i
  exact ⟨F0, H0, _, F', o, e', h, k⟩⟩
end
end Zx
/-! Zx6: targets stored, one's own lists and dicts changed, loops. -/
namespace Zx
open PySem PySem.Spec L2
/-! ### dicts, as lists of pairs -/
def dGet (kds : List (D × D)) (k : D) : Option D := (kds.find? fun p => PyData.eqv p.1 k).map (·.2)
def dHas (kds : List (D × D)) (k : D) : Bool := kds.any fun p => PyData.eqv p.1 k
def dPut (kds : List (D × D)) (k v : D) : List (D × D) := if dHas kds k then kds.map (fun p => if PyData.eqv p.1 k then (p.1, v) else p) else kds ++ [(k, v)]
def keyOf : D → Option Key
  | .int i => some (.inl i)
  | .str x => some (.inr x)
  | _ => none
def keysOf : List D → Option (List Key)
  | [] => some []
  | d :: r => (keyOf d).bind fun k => (keysOf r).bind fun ks => some (k :: ks)
theorem keyOf_eq {d : D} {k : Key} (h : keyOf d = some k) : d = keyD k := by
  cases d <;> simp only [keyOf, reduceCtorEq, Option.some.injEq] at h <;> subst h <;> rfl
theorem keysOf_eq : ∀ {ds : List D} {ks : List Key}, keysOf ds = some ks → ds = ks.map keyD
  | [], ks, h => by cases h; rfl
  | d :: r, ks, h => by
    simp only [keysOf, Option.bind_eq_some_iff, Option.some.injEq] at h
    obtain ⟨k, h1, js, h2, rfl⟩ := h
    rw [keyOf_eq h1, keysOf_eq h2, List.map_cons]
theorem eqv_key (a b : Key) : PyData.eqv (keyD a) (keyD b) = decide (a = b) := by
  cases a with
  | inl i =>
    cases b with
    | inl j => rw [key_ll]; rfl
    | inr y => rw [key_lr]; rfl
  | inr x =>
    cases b with
    | inl j => rw [key_rl]; rfl
    | inr y =>
      rw [key_rr]
      show (x == y) = decide (x = y)
      by_cases h : x = y
      · subst h; simp
      · rw [decide_eq_false h]; exact beq_eq_false_iff_ne.mpr h
theorem eqv_keys : ∀ (a b : List Key), PyData.eqvAll (a.map keyD) (b.map keyD) = decide (a = b)
  | [], [] => rfl
  | [], _ :: _ => rfl
  | _ :: _, [] => rfl
  | x :: a, y :: b => by
    have h1 := eqv_key x y
    have h2 := eqv_keys a b
    rw [List.map_cons, List.map_cons]
    show (PyData.eqv (keyD x) (keyD y) && PyData.eqvAll (a.map keyD) (b.map keyD)) = _
    rw [h1, h2]
    by_cases hx : x = y <;> by_cases hy : a = b <;> simp [hx, hy]
theorem eqv_tkeys (a b : List Key) : PyData.eqv (.tuple (a.map keyD)) (.tuple (b.map keyD)) = decide (a = b) := eqv_keys a b
section
variable {K : PySem.W.Frag} {F H : Hp}
theorem RpK.get (k : Key) : ∀ {kds : List (D × D)} {kvs : List (Key × V)}, RpK K F kds kvs → (valV kvs k = none ∧ dGet kds (keyD k) = none) ∨ ∃ v d, valV kvs k = some v ∧ dGet kds (keyD k) = some d ∧ Rp K F d v
  | _, _, .nil => .inl ⟨rfl, rfl⟩
  | _, _, .cons (k := j) (d := d) (v := v) r t => by
    by_cases h : j = k
    · subst h
      refine .inr ⟨v, d, valV_pos rfl, ?_, r⟩
      unfold dGet
      rw [List.find?_cons_of_pos (by rw [eqv_key]; simp)]
      rfl
    · rcases RpK.get k t with ⟨h1, h2⟩ | ⟨v', d', h1, h2, h3⟩
      · refine .inl ⟨by rw [valV_neg h]; exact h1, ?_⟩
        unfold dGet at h2 ⊢
        rw [List.find?_cons_of_neg (by rw [eqv_key]; simpa using h)]
        exact h2
      · refine .inr ⟨v', d', by rw [valV_neg h]; exact h1, ?_, h3⟩
        unfold dGet at h2 ⊢
        rw [List.find?_cons_of_neg (by rw [eqv_key]; simpa using h)]
        exact h2
theorem RpT.get (k : List Key) : ∀ {kds : List (D × D)} {kvs : List (List Key × V)}, RpT K F kds kvs → (valV kvs k = none ∧ dGet kds (.tuple (k.map keyD)) = none) ∨ ∃ v d, valV kvs k = some v ∧ dGet kds (.tuple (k.map keyD)) = some d ∧ Rp K F d v
  | _, _, .nil => .inl ⟨rfl, rfl⟩
  | _, _, .cons (k := j) (d := d) (v := v) r t => by
    by_cases h : j = k
    · subst h
      refine .inr ⟨v, d, valV_pos rfl, ?_, r⟩
      unfold dGet
      rw [List.find?_cons_of_pos (by rw [eqv_tkeys]; simp)]
      rfl
    · rcases RpT.get k t with ⟨h1, h2⟩ | ⟨v', d', h1, h2, h3⟩
      · refine .inl ⟨by rw [valV_neg h]; exact h1, ?_⟩
        unfold dGet at h2 ⊢
        rw [List.find?_cons_of_neg (by rw [eqv_tkeys]; simpa using h)]
        exact h2
      · refine .inr ⟨v', d', by rw [valV_neg h]; exact h1, ?_, h3⟩
        unfold dGet at h2 ⊢
        rw [List.find?_cons_of_neg (by rw [eqv_tkeys]; simpa using h)]
        exact h2
theorem dHas_iff (kds : List (D × D)) (k : D) : dHas kds k = (dGet kds k).isSome := by
  unfold dHas dGet
  rw [Option.isSome_map]
  induction kds with
  | nil => rfl
  | cons p r ih =>
    rw [List.any_cons, List.find?_cons]
    cases PyData.eqv p.1 k with
    | true => rfl
    | false => rw [Bool.false_or]; exact ih
theorem RpK.has (k : Key) {kds : List (D × D)} {kvs : List (Key × V)} (h : RpK K F kds kvs) : dHas kds (keyD k) = kvs.any fun kv => decide (kv.1 = k) := by
  rw [dHas_iff, valV_any]
  rcases h.get k with ⟨h1, h2⟩ | ⟨v, d, h1, h2, _⟩ <;> rw [h1, h2] <;> rfl
theorem RpT.has (k : List Key) {kds : List (D × D)} {kvs : List (List Key × V)} (h : RpT K F kds kvs) : dHas kds (.tuple (k.map keyD)) = kvs.any fun kv => decide (kv.1 = k) := by
  rw [dHas_iff, valV_any]
  rcases h.get k with ⟨h1, h2⟩ | ⟨v, d, h1, h2, _⟩ <;> rw [h1, h2] <;> rfl
theorem RpK.snoc (k : Key) {d : D} {v : V} (r : Rp K F d v) : ∀ {kds : List (D × D)} {kvs : List (Key × V)}, RpK K F kds kvs → RpK K F (kds ++ [(keyD k, d)]) (kvs ++ [(k, v)])
  | _, _, .nil => .cons r .nil
  | _, _, .cons h t => .cons h (RpK.snoc k r t)
theorem RpT.snoc (k : List Key) {d : D} {v : V} (r : Rp K F d v) : ∀ {kds : List (D × D)} {kvs : List (List Key × V)}, RpT K F kds kvs → RpT K F (kds ++ [(.tuple (k.map keyD), d)]) (kvs ++ [(k, v)])
  | _, _, .nil => .cons r .nil
  | _, _, .cons h t => .cons h (RpT.snoc k r t)
theorem RpK.repl (k : Key) {d : D} {v : V} (r : Rp K F d v) : ∀ {kds : List (D × D)} {kvs : List (Key × V)}, RpK K F kds kvs → RpK K F (kds.map fun p => if PyData.eqv p.1 (keyD k) then (p.1, d) else p) (kvs.map fun kv => if kv.1 = k then (kv.1, v) else kv)
  | _, _, .nil => .nil
  | _, _, .cons (k := j) h t => by
    rw [List.map_cons, List.map_cons]
    show RpK K F ((if PyData.eqv (keyD j) (keyD k) = true then (keyD j, d) else (keyD j, _)) :: _) _
    rw [eqv_key]
    by_cases hj : j = k
    · rw [if_pos (by simpa using hj), if_pos hj]
      exact .cons r (RpK.repl k r t)
    · rw [if_neg (by simpa using hj), if_neg hj]
      exact .cons h (RpK.repl k r t)
theorem RpT.repl (k : List Key) {d : D} {v : V} (r : Rp K F d v) : ∀ {kds : List (D × D)} {kvs : List (List Key × V)}, RpT K F kds kvs → RpT K F (kds.map fun p => if PyData.eqv p.1 (.tuple (k.map keyD)) then (p.1, d) else p) (kvs.map fun kv => if kv.1 = k then (kv.1, v) else kv)
  | _, _, .nil => .nil
  | _, _, .cons (k := j) h t => by
    rw [List.map_cons, List.map_cons]
    show RpT K F ((if PyData.eqv (.tuple (j.map keyD)) (.tuple (k.map keyD)) = true then (.tuple (j.map keyD), d) else (.tuple (j.map keyD), _)) :: _) _
    rw [eqv_tkeys]
    by_cases hj : j = k
    · rw [if_pos (by simpa using hj), if_pos hj]
      exact .cons r (RpT.repl k r t)
    · rw [if_neg (by simpa using hj), if_neg hj]
      exact .cons h (RpT.repl k r t)
theorem RpK.put (k : Key) {d : D} {v : V} (r : Rp K F d v) {kds : List (D × D)} {kvs : List (Key × V)} (h : RpK K F kds kvs) : RpK K F (dPut kds (keyD k) d) (putK kvs k v) := by
  unfold dPut putK
  rw [h.has k]
  split
  · exact h.repl k r
  · exact h.snoc k r
theorem RpT.put (k : List Key) {d : D} {v : V} (r : Rp K F d v) {kds : List (D × D)} {kvs : List (List Key × V)} (h : RpT K F kds kvs) : RpT K F (dPut kds (.tuple (k.map keyD)) d) (putK kvs k v) := by
  unfold dPut putK
  rw [h.has k]
  split
  · exact h.repl k r
  · exact h.snoc k r
theorem RpK.length : ∀ {kds : List (D × D)} {kvs : List (Key × V)}, RpK K F kds kvs → kvs.length = kds.length
  | _, _, .nil => rfl
  | _, _, .cons _ t => by rw [List.length_cons, List.length_cons, RpK.length t]
theorem RpT.length : ∀ {kds : List (D × D)} {kvs : List (List Key × V)}, RpT K F kds kvs → kvs.length = kds.length
  | _, _, .nil => rfl
  | _, _, .cons _ t => by rw [List.length_cons, List.length_cons, RpT.length t]
theorem keysL_vs : ∀ {ks : List Key} {vs : List V}, RpL K F (ks.map keyD) vs → vs = ks.map kV
  | [], _, h => by cases h; rfl
  | k :: ks, _, h => by
    rw [List.map_cons] at h
    cases h with
    | cons h1 h2 =>
      rw [keysL_vs h2, List.map_cons]
      cases k with
      | inl i => cases h1; rfl
      | inr x => cases h1; rfl
/-- the first key is no mark -/
def notMk : List (D × D) → Bool
  | (.none, _) :: _ => false
  | (.bool _, _) :: _ => false
  | _ => true
/-- a dict that is read -/
theorem RpB.dictK (s : Sub F H) {kds : List (D × D)} {v : V} (h : RpB K F H (.dict kds) v) (hn : notMk kds = true) : ∃ a kvs, v = .ref a ∧ Rd H a (.dK kvs) ∧ RpK K F kds kvs := by
  rcases h with h | ⟨a, o, rfl, _, h1, h2⟩
  · generalize hz : PyData.dict kds = z at h
    cases h with
    | non => cases hz
    | bl => cases hz
    | int => cases hz
    | str => cases hz
    | lst => cases hz
    | tup => cases hz
    | dK h1 h2 =>
      injection hz with hz
      subst hz
      exact ⟨_, _, rfl, s.rd h1, h2⟩
    | dT h1 h2 =>
      injection hz with hz
      subst hz
      cases hn
    | scr h =>
      unfold scrD at hz
      injection hz with hz
      subst hz
      cases hn
  · generalize hz : PyData.dict kds = z at h2
    cases h2 with
    | lst => cases hz
    | dK h2 =>
      injection hz with hz
      subst hz
      exact ⟨a, _, rfl, .inl h1, h2⟩
    | dT h2 =>
      injection hz with hz
      subst hz
      cases hn
theorem RpK.nb {l : List (D × D)} {kvs : List (Key × V)} (h : RpK K F l kvs) {b : Bool} {d : D} {r : List (D × D)} (e : l = (.bool b, d) :: r) : False := by
  cases h with
  | nil => cases e
  | @cons k _ _ _ _ _ _ =>
    injection e with e1 _
    injection e1 with e2 _
    cases k <;> cases e2
theorem RpB.dictT (s : Sub F H) {kds : List (D × D)} {v : V} (h : RpB K F H (.dict ((.bool true, .none) :: kds)) v) : ∃ a kvs, v = .ref a ∧ Rd H a (.dT kvs) ∧ RpT K F kds kvs := by
  rcases h with h | ⟨a, o, rfl, _, h1, h2⟩
  · generalize hz : PyData.dict ((.bool true, .none) :: kds) = z at h
    cases h with
    | non => cases hz
    | bl => cases hz
    | int => cases hz
    | str => cases hz
    | lst => cases hz
    | tup => cases hz
    | dK h1 h2 =>
      injection hz with hz
      exact (h2.nb hz.symm).elim
    | dT h1 h2 =>
      injection hz with hz
      injection hz with _ hz
      subst hz
      exact ⟨_, _, rfl, s.rd h1, h2⟩
    | scr h =>
      unfold scrD at hz
      injection hz with hz
      injection hz with hz _
      injection hz with hz _
      cases hz
  · generalize hz : PyData.dict ((.bool true, .none) :: kds) = z at h2
    cases h2 with
    | lst => cases hz
    | dK h2 =>
      injection hz with hz
      exact (h2.nb hz.symm).elim
    | dT h2 =>
      injection hz with hz
      injection hz with _ hz
      subst hz
      exact ⟨a, _, rfl, .inl h1, h2⟩
end
/-! ### d[k], k in d, d.get(k, x) -/
/-- the dict's pairs, if k may be one of its keys -/
def dkOf : D → D → Option (List (D × D))
  | .dict kds, k => match kds, k with
    | (.bool true, .none) :: r, .tuple ds => if (keysOf ds).isSome then some r else none
    | kds, k => if notMk kds && (keyOf k).isSome then some kds else none
  | _, _ => none
section
variable {K : PySem.W.Frag} {F H : Hp}
theorem dget_of (s : Sub F H) {d : D} {k : D} {kds : List (D × D)} {x y : V} (hx : RpB K F H d x) (hk : dkOf d k = some kds) (hy : RpB K F H k y) :
    ∃ a, x = .ref a ∧ ((dGet kds k = none ∧ DGet H a y none) ∨ ∃ v d, dGet kds k = some d ∧ DGet H a y (some v) ∧ Rp K F d v) := by
  unfold dkOf at hk
  split at hk
  · split at hk
    · rename_i r ds
      split at hk
      · rename_i h
        cases hk
        rw [Option.isSome_iff_exists] at h
        obtain ⟨ks, hks⟩ := h
        have := keysOf_eq hks
        subst this
        obtain ⟨b, us, rfl, hb, rb⟩ := hy.tuple s
        rw [keysL_vs rb] at hb
        obtain ⟨a, kvs, rfl, h1, h2⟩ := hx.dictT s
        refine ⟨a, rfl, ?_⟩
        rcases h2.get ks with ⟨g1, g2⟩ | ⟨v, d, g1, g2, g3⟩
        · exact .inl ⟨g2, .inr ⟨kvs, ks, b, h1, rfl, hb, g1.symm⟩⟩
        · exact .inr ⟨v, d, g2, .inr ⟨kvs, ks, b, h1, rfl, hb, g1.symm⟩, g3⟩
      · cases hk
    · split at hk
      · rename_i h
        cases hk
        rw [Bool.and_eq_true] at h
        obtain ⟨h1, h2⟩ := h
        rw [Option.isSome_iff_exists] at h2
        obtain ⟨j, hj⟩ := h2
        have := keyOf_eq hj
        subst this
        have ey : y = kV j := by
          cases j with
          | inl i => exact hy.int
          | inr x => exact hy.str
        subst ey
        obtain ⟨a, kvs, rfl, h1, h2⟩ := hx.dictK s h1
        refine ⟨a, rfl, ?_⟩
        rcases h2.get j with ⟨g1, g2⟩ | ⟨v, d, g1, g2, g3⟩
        · exact .inl ⟨g2, .inl ⟨kvs, j, h1, rfl, g1.symm⟩⟩
        · exact .inr ⟨v, d, g2, .inl ⟨kvs, j, h1, rfl, g1.symm⟩, g3⟩
      · cases hk
  · cases hk
end
theorem dk_isD {K : PySem.W.Frag} {F H : Hp} (s : Sub F H) {d : D} {k : D} {kds : List (D × D)} {x : V} (hx : RpB K F H d x) (hk : dkOf d k = some kds) : ∃ p, x = .ref p ∧ IsD H p := by
  unfold dkOf at hk
  split at hk
  · split at hk
    · obtain ⟨p, kvs, e, g, _⟩ := hx.dictT s
      exact ⟨p, e, .inr ⟨_, g⟩⟩
    · split at hk
      · rename_i hn
        rw [Bool.and_eq_true] at hn
        obtain ⟨p, kvs, e, g, _⟩ := hx.dictK s hn.1
        exact ⟨p, e, .inl ⟨_, g⟩⟩
      · cases hk
  · cases hk
section
variable {X : Cx} {a b c : Expr} {f g h : Den} {pos : Pos}
def dgetD (d k : D) : Option D := (dkOf d k).bind fun kds => dGet kds k
def dgetD3 (d k x : D) : Option D := (dkOf d k).bind fun kds => some ((dGet kds k).getD x)
def inK (k d : D) : Option Bool := (dkOf d k).bind fun kds => some (dHas kds k)
def ninK (k d : D) : Option Bool := (dkOf d k).bind fun kds => some (!dHas kds k)
def d3 (op : D → D → D → Option D) (f g h : Den) : Den := fun ρ => (f ρ).bind fun x => (g ρ).bind fun y => (h ρ).bind fun z => op x y z
theorem ex_dget (hu : X.A.units + 1 < cLine) (ha : EB X a f) (hb : EB X b g) (hs : NoSl b) : EX X (.Subscript a b pos) (d2 dgetD f g) :=
  mkX (pe_dget hu ha.pe hb.pe hs) fun σ H Q ρ F d e h k => by
    simp only [d2, dgetD, Option.bind_eq_some_iff] at h
    obtain ⟨x, h1, y, h2, kds, h3, h4⟩ := h
    refine ⟨ρ, F, x, e, h1, fun u F1 H1 x1 r1 => ⟨ρ, F1, y, e.ext x1, h2, fun v F2 H2 x2 r2 => ?_⟩⟩
    obtain ⟨p, rfl, g⟩ := dget_of x2.le (r1.ext x2) h3 r2
    rcases g with ⟨g1, _⟩ | ⟨w, d', g1, g2, g3⟩
    · rw [h4] at g1; cases g1
    · rw [h4] at g1
      cases g1
      exact ⟨p, w, rfl, g2, k w F2 H2 (x1.trans x2) g3⟩
theorem ec_inK (hu : X.A.units + 1 < cLine) (ha : EB X a f) (hb : EB X b g) : EC X .In a b (b2 inK f g) :=
  ⟨PC.imp (pc_din hu ha.pe hb.pe) fun σ H Q ⟨ρ, F, d, e, h, k⟩ => by
    simp only [b2, inK, Option.bind_eq_some_iff, Option.some.injEq] at h
    obtain ⟨x, h1, y, h2, kds, h3, rfl⟩ := h
    refine ⟨ρ, F, x, e, h1, fun u F1 H1 x1 r1 => ⟨ρ, F1, y, e.ext x1, h2, fun v F2 H2 x2 r2 => ?_⟩⟩
    obtain ⟨p, rfl, g⟩ := dget_of x2.le r2 h3 (r1.ext x2)
    rw [dHas_iff] at k
    rcases g with ⟨g1, g2⟩ | ⟨w, d', g1, g2, g3⟩
    · rw [g1] at k
      exact ⟨p, _, rfl, g2, k F2 H2 (x1.trans x2)⟩
    · rw [g1] at k
      exact ⟨p, _, rfl, g2, k F2 H2 (x1.trans x2)⟩⟩
theorem ec_ninK (hu : X.A.units + 1 < cLine) (ha : EB X a f) (hb : EB X b g) : EC X .NotIn a b (b2 ninK f g) :=
  ⟨PC.imp (pc_dnotin hu ha.pe hb.pe) fun σ H Q ⟨ρ, F, d, e, h, k⟩ => by
    simp only [b2, ninK, Option.bind_eq_some_iff, Option.some.injEq] at h
    obtain ⟨x, h1, y, h2, kds, h3, rfl⟩ := h
    refine ⟨ρ, F, x, e, h1, fun u F1 H1 x1 r1 => ⟨ρ, F1, y, e.ext x1, h2, fun v F2 H2 x2 r2 => ?_⟩⟩
    obtain ⟨p, rfl, g⟩ := dget_of x2.le r2 h3 (r1.ext x2)
    rw [dHas_iff] at k
    rcases g with ⟨g1, g2⟩ | ⟨w, d', g1, g2, g3⟩
    · rw [g1] at k
      exact ⟨p, _, rfl, g2, k F2 H2 (x1.trans x2)⟩
    · rw [g1] at k
      exact ⟨p, _, rfl, g2, k F2 H2 (x1.trans x2)⟩⟩
theorem ex_dget3 {apos cpos : Pos} (hu : X.A.units + 1 < cLine) (ha : EB X a f) (hb : EB X b g) (hc : EX X c h) (m : M2 X a "get" apos b c cpos) : EX X (.Call (.Attribute a "get" apos) [b, c] [] cpos) (d3 dgetD3 f g h) :=
  mkX (pe_dget2 hu ha.pe hb.pe hc.pe m) fun σ H Q ρ F d e h k => by
    simp only [d3, dgetD3, Option.bind_eq_some_iff, Option.some.injEq] at h
    obtain ⟨x, h1, y, h2, z, h3, kds, h4, rfl⟩ := h
    refine ⟨ρ, F, x, e, h1, fun u F1 H1 x1 r1 => ?_⟩
    obtain ⟨p, rfl, hd⟩ := dk_isD x1.le r1 h4
    refine ⟨p, rfl, hd, ρ, F1, y, e.ext x1, h2, fun v F2 H2 x2 r2 => ⟨ρ, F2, z, (e.ext x1).ext x2, h3, fun w F3 H3 x3 r3 => ?_⟩⟩
    obtain ⟨q, eq, g⟩ := dget_of x3.le ((r1.ext x2).ext x3) h4 (r2.ext x3)
    cases eq
    rcases g with ⟨g1, g2⟩ | ⟨v', d', g1, g2, g3⟩
    · rw [g1] at k
      exact ⟨_, g2, k _ F3 H3 ((x1.trans x2).trans x3) r3⟩
    · rw [g1] at k
      exact ⟨_, g2, k _ F3 H3 ((x1.trans x2).trans x3) g3⟩
theorem en_dK : EN X (.Dict [] [] pos) (kD (.dict [])) :=
  mkN pe_dnewK fun σ H Q ρ F d e h k => by
    cases h
    exact fun p hp => k p _ F _ (.own e.sub hp) (e.sub.free hp) hp upd_same (.dK .nil)
theorem en_dT : EN X (.Dict [] [] pos) (kD (.dict [(.bool true, .none)])) :=
  mkN pe_dnewT fun σ H Q ρ F d e h k => by
    cases h
    exact fun p hp => k p _ F _ (.own e.sub hp) (e.sub.free hp) hp upd_same (.dT .nil)
end
end Zx
/-! Zx7: stores, changes of one's own lists and dicts, loops. -/
namespace Zx
open PySem PySem.Spec L2
section
variable {X : Cx} {st : Stmt} {sts : List Stmt} {f g : DenS} {fd fe : Den} {fl : DenL} {fb : DenB} {a b : Expr} {pos : Pos} {K : PySem.W.Frag} {F0 H0 F H F1 H1 : Hp} {ρ : Env} {σ : L2.St}
theorem EnvS.tgt {ρ' : Env} {σ' : L2.St} (e : EnvS K F0 H0 ρ σ F H) (e' : EnvOk K ρ' σ' F H) (o : OwK ρ σ ρ' σ') : EnvS K F0 H0 ρ' σ' F H :=
  ⟨e', e.ext, fun j d a h1 h2 => by
    obtain ⟨g1, g2⟩ := o j d h1
    exact e.own j d a g1 (g2 ▸ h2)⟩
theorem sx_asg {tg : Expr} {ws : List Nat} {g : DenG} (ha : EX X a fd) (hg : EG X tg ws g) (hs : swapsWithSole [tg] a pos.line X.env = pure false) (hw : swappedStores [tg] a X.env = pure none)
    (h1 : (assignEach [tg] X.env).map (·.2) = [assign tg X.env]) : SX X (.Assign [tg] a pos) (sAsg g fd) := sx_mk (ps_asg ha.pe hg.pg hs hw h1) fun D σ H F0 H0 ρ F o e h k => by
  simp only [sAsg, Option.bind_eq_some_iff, Option.some.injEq] at h
  obtain ⟨d, h1, ρ', h2, rfl⟩ := h
  exact ⟨ρ, F, d, e.env, h1, fun v F' H' x r => ⟨ρ, F', d, ρ', e.env.ext x, r, h2, fun σ' e' _ o' => k σ' F' H' ((e.to x).tgt e' o')⟩⟩
def sPar (i j : Nat) (f : DenL) : DenS := fun ρ => (f ρ).bind fun ds => match ds with | [d, e] => some (.nx ((ρ.set i (.fz d)).set j (.fz e))) | _ => none
theorem sx_par (i j : Nat) {x y : Str} {px py pt : Pos} {kt k2 pt2} (hc : X.calm = true) (hN : X.N.Nodup) (hi : X.N[i]? = some x) (hj : X.N[j]? = some y) (hij : i ≠ j)
    (hx : X.env.scope.names.lookup x = some .local) (hy : X.env.scope.names.lookup y = some .local) (ha : EA X [a, b] fl)
    (hw : swappedStores [.Tuple [.Name x px, .Name y py] kt pt] (.Tuple [a, b] k2 pt2) X.env = pure (some [x, y]))
    (hs : swapsWithSole [.Tuple [.Name x px, .Name y py] kt pt] (.Tuple [a, b] k2 pt2) pos.line X.env = pure false) :
    SX X (.Assign [.Tuple [.Name x px, .Name y py] kt pt] (.Tuple [a, b] k2 pt2) pos) (sPar i j fl) := sx_mk (ps_par hc hN hi hj hij hx hy ha.pa hw hs) fun D σ H F0 H0 ρ F o e h k => by
  simp only [sPar, Option.bind_eq_some_iff] at h
  obtain ⟨ds, h1, h2⟩ := h
  refine ⟨ρ, F, ds, e.env, h1, fun vs F' H' x r => ?_⟩
  split at h2
  · cases h2
    cases r with
    | cons r1 r =>
      cases r with
      | cons r2 r =>
        cases r
        exact ⟨_, _, rfl, k _ F' H' (((e.to x).set r1).set r2)⟩
  · cases h2
def sPar3 (i j l : Nat) (f : DenL) : DenS := fun ρ => (f ρ).bind fun ds => match ds with | [d, e, c] => some (.nx (((ρ.set i (.fz d)).set j (.fz e)).set l (.fz c))) | _ => none
/-! ### one's own list or dict changed -/
theorem EnvS.put {i : Nat} {d d' : D} {p : Addr} {o : HO} (e : EnvS K F0 H0 ρ σ F H) (hs : ρ[i]? = some (.ow d)) (hv : σ[i]? = some (some (.ref p))) (r : OwnRep K F d' o) : EnvS K F0 H0 (ρ.set i (.ow d')) σ F (upd H p o) := by
  obtain ⟨ov, h1, q, o1, h2, h3, h4, h5⟩ := e.env.at_ i _ hs
  rw [hv] at h1
  cases h1
  cases h2
  have hl : i < ρ.length := (List.getElem?_eq_some_iff.mp hs).1
  have hH0 : H0 p = none := e.own i d p hs hv
  have sub : Sub F (upd H p o) := fun b u hb => by
    rw [upd_ne (ne_of_none hb h3)]
    exact e.env.sub b u hb
  have z : ∀ {j : Nat} {d1 : D}, (ρ.set i (.ow d'))[j]? = some (.ow d1) → ∃ d2, ρ[j]? = some (.ow d2) := fun {j d1} h => by
    by_cases hj : i = j
    · subst hj
      exact ⟨d, hs⟩
    · rw [List.getElem?_set_ne hj] at h
      exact ⟨d1, h⟩
  refine ⟨⟨sub, by rw [List.length_set]; exact e.env.len, fun j s hj => ?_, fun j k d1 d2 b g1 g2 g3 g4 => ?_⟩, ⟨e.ext.f, fun b u hb => ?_, sub, e.ext.new⟩, fun j d1 b g1 g2 => ?_⟩
  · by_cases hij : i = j
    · subst hij
      rw [List.getElem?_set_self hl] at hj
      cases hj
      exact ⟨_, hv, p, o, rfl, h3, upd_same, r⟩
    · rw [List.getElem?_set_ne hij] at hj
      obtain ⟨ov, g1, g2⟩ := e.env.at_ j s hj
      refine ⟨ov, g1, ?_⟩
      cases s with
      | no => trivial
      | fz d' => exact g2
      | ow d' =>
        obtain ⟨b, u, g3, g4, g5, g6⟩ := g2
        refine ⟨b, u, g3, g4, ?_, g6⟩
        rw [upd_ne]
        · exact g5
        · rintro rfl
          subst g3
          exact hij (e.env.dist i j d d' b hs hj hv g1)
  · obtain ⟨d3, g5⟩ := z g1
    obtain ⟨d4, g6⟩ := z g2
    exact e.env.dist j k d3 d4 b g5 g6 g3 g4
  · rw [upd_ne (ne_of_none hb hH0)]
    exact e.ext.h b u hb
  · obtain ⟨d3, g5⟩ := z g1
    exact e.own j d3 b g5 g2
/-- the slot's own list -/
def owL (ρ : Env) (i : Nat) : Option (List D) := match ρ[i]? with | some (.ow (.list xs)) => some xs | _ => none
theorem owL_at {i : Nat} {xs : List D} (e : EnvS K F0 H0 ρ σ F H) (h : owL ρ i = some xs) : ρ[i]? = some (.ow (.list xs)) ∧ ∃ p vs, σ[i]? = some (some (.ref p)) ∧ F p = none ∧ H p = some (.lst vs) ∧ RpL K F xs vs := by
  unfold owL at h
  split at h
  · rename_i hs
    cases h
    obtain ⟨ov, h1, q, o1, h2, h3, h4, h5⟩ := e.env.at_ i _ hs
    subst h2
    cases h5 with
    | lst h5 => exact ⟨hs, q, _, h1, h3, h4, h5⟩
  · cases h
def sApp (i : Nat) (f : Den) : DenS := fun ρ => (f ρ).bind fun d => (owL ρ i).bind fun xs => if xs.length < 1000000 then some (.nx (ρ.set i (.ow (.list (xs ++ [d]))))) else none
theorem sx_append (i : Nat) {x : Str} {p apos cpos : Pos} (hN : X.N[i]? = some x) (hv : visB X.env.scope x = true) (hd : (x == ("__debug__" : Str)) = false) (hcd : (x == ("__classdict__" : Str)) = false) (ha : EX X a fd) (hs : N1 X a)
    (hline : (apos.endLine == cpos.line) = true) :
    SX X (.Expr (.Call (.Attribute (.Name x p) "append" apos) [a] [] cpos) pos) (sApp i fd) :=
  sx_mk (ps_expr (pe_bm PySem.F.plainAttrs_list PySem.F.slot_list_append PySem.F.type_list_append mt_append (pe_var hN (vis_of hv) hd hcd) (pa_cons ha.pe pa_nil hs) rfl (by rw [hs]; rfl) hline hs rfl)) fun D σ H F0 H0 ρ F o e h k => by
    simp only [sApp, Option.bind_eq_some_iff] at h
    obtain ⟨d, h1, xs, h2, h3⟩ := h
    split at h3
    · rename_i hl
      cases h3
      obtain ⟨g1, q, vs, g2, g3, g4, g5⟩ := owL_at e h2
      refine ⟨_, g2, .inl ⟨rfl, vs, .inl (.inl g4)⟩, ρ, F, d, e.env, h1, fun w F' H' x r => ?_⟩
      have e' := e.to x
      refine ⟨q, vs, w, rfl, rfl, x.h _ _ g4, by rw [g5.length]; exact line_lt hl, ?_⟩
      exact k _ F' _ (e'.put g1 g2 (.lst ((g5.mono x.f).append (.one r))))
    · cases h3
def listOf : D → Option (List D) | .list xs => some xs | _ => none
def sExt (i : Nat) (f : Den) : DenS := fun ρ => (f ρ).bind fun d => (listOf d).bind fun ys => (owL ρ i).bind fun xs => if xs.length + ys.length ≤ 1000000 then some (.nx (ρ.set i (.ow (.list (xs ++ ys))))) else none
theorem sx_extend (i : Nat) {x : Str} {p apos cpos : Pos} (hN : X.N[i]? = some x) (hv : visB X.env.scope x = true) (hd : (x == ("__debug__" : Str)) = false) (hcd : (x == ("__classdict__" : Str)) = false) (ha : EX X a fd) (hs : N1 X a)
    (hline : (apos.endLine == cpos.line) = true) :
    SX X (.Expr (.Call (.Attribute (.Name x p) "extend" apos) [a] [] cpos) pos) (sExt i fd) :=
  sx_mk (ps_expr (pe_bm PySem.F.plainAttrs_list PySem.F.slot_list_extend PySem.F.type_list_extend mt_extend (pe_var hN (vis_of hv) hd hcd) (pa_cons ha.pe pa_nil hs) rfl (by rw [hs]; rfl) hline hs rfl)) fun D σ H F0 H0 ρ F o e h k => by
    simp only [sExt, Option.bind_eq_some_iff] at h
    obtain ⟨d, h1, ys, h0, xs, h2, h3⟩ := h
    split at h3
    · rename_i hl
      cases h3
      obtain ⟨g1, q, vs, g2, g3, g4, g5⟩ := owL_at e h2
      refine ⟨_, g2, .inl ⟨rfl, vs, .inl (.inl g4)⟩, ρ, F, d, e.env, h1, fun w F' H' x r => ?_⟩
      have e' := e.to x
      cases d <;> simp only [listOf, reduceCtorEq, Option.some.injEq] at h0
      subst h0
      cases r with
      | lst r1 r2 =>
        refine ⟨q, _, vs, _, rfl, rfl, x.h _ _ g4, x.le _ _ r1, by rw [g5.length, r2.length]; exact line_of hl, ?_⟩
        exact k _ F' _ (e'.put g1 g2 (.lst ((g5.mono x.f).append r2)))
    · cases h3
/-- x[j] = e -/
def sStL (i : Nat) (fj f : Den) : DenS := fun ρ => (f ρ).bind fun d => (fj ρ).bind fun j => (owL ρ i).bind fun xs => match j with
  | .int j => (ixN xs.length j).bind fun n => some (.nx (ρ.set i (.ow (.list (xs.set n d)))))
  | _ => none
theorem sx_setL (i : Nat) {x : Str} {p tpos : Pos} {fj : Den} (hN : X.N[i]? = some x) (hv : visB X.env.scope x = true) (hd : (x == ("__debug__" : Str)) = false) (hcd : (x == ("__classdict__" : Str)) = false) (ha : EX X a fd) (hb : EB X b fj)
    (has : ∀ v, assign (.Subscript (.Name x p) b tpos) X.env v = (do
      let ov ← holding [v] (eval (.Name x p) X.env)
      let iv ← holding [v, ov] (eval b X.env)
      standAt tpos
      holding [v, ov, iv] (setItem ov iv v)
      release [v, ov, iv] []))
    (hs : swapsWithSole [.Subscript (.Name x p) b tpos] a pos.line X.env = pure false) (hw : swappedStores [.Subscript (.Name x p) b tpos] a X.env = pure none)
    (h1 : (assignEach [.Subscript (.Name x p) b tpos] X.env).map (·.2) = [assign (.Subscript (.Name x p) b tpos) X.env]) : SX X (.Assign [.Subscript (.Name x p) b tpos] a pos) (sStL i fj fd) :=
  sx_mk (ps_asg ha.pe (pg_sub (pe_var hN (vis_of hv) hd hcd) hb.pe set_list has) hs hw h1) fun D σ H F0 H0 ρ F o e h k => by
    simp only [sStL, Option.bind_eq_some_iff] at h
    obtain ⟨d, h1, j, h2, xs, h3, h4⟩ := h
    cases j <;> simp only [reduceCtorEq, Option.bind_eq_some_iff, Option.some.injEq] at h4
    obtain ⟨n, h4, rfl⟩ := h4
    refine ⟨ρ, F, d, e.env, h1, fun w F1 H1 x1 r1 => ?_⟩
    have e1 := e.to x1
    obtain ⟨g1, q, vs, g2, g3, g4, g5⟩ := owL_at e1 h3
    refine ⟨_, g2, ρ, F1, _, e1.env, h2, fun u F2 H2 x2 r2 => ?_⟩
    have e2 := e1.to x2
    refine ⟨q, vs, _, n, rfl, r2.int, x2.h _ _ g4, by rw [g5.length]; exact h4, ?_⟩
    exact k _ F2 _ (e2.put g1 g2 (.lst ((g5.mono x2.f).set (r1.mono x2.f) n)))
/-- the slot's own dict -/
def owD (ρ : Env) (i : Nat) : Option (List (D × D)) := match ρ[i]? with | some (.ow (.dict xs)) => some xs | _ => none
/-- d[k] = v, the pairs behind it -/
def putD (kds : List (D × D)) (k v : D) : Option (List (D × D)) := match kds, k with
    | (.bool true, .none) :: r, .tuple ds => if (keysOf ds).isSome && decide (r.length < 1000000) then some ((.bool true, .none) :: dPut r (.tuple ds) v) else none
    | kds, k => if notMk kds && (keyOf k).isSome && decide (kds.length < 1000000) then some (dPut kds k v) else none
def sStD (i : Nat) (fk f : Den) : DenS := fun ρ => (f ρ).bind fun d => (fk ρ).bind fun j => (owD ρ i).bind fun xs => (putD xs j d).bind fun ys => some (.nx (ρ.set i (.ow (.dict ys))))
theorem owD_at {i : Nat} {xs : List (D × D)} (e : EnvS K F0 H0 ρ σ F H) (h : owD ρ i = some xs) : ρ[i]? = some (.ow (.dict xs)) ∧ ∃ p o, σ[i]? = some (some (.ref p)) ∧ F p = none ∧ H p = some o ∧ OwnRep K F (.dict xs) o := by
  unfold owD at h
  split at h
  · rename_i hs
    cases h
    obtain ⟨ov, h1, q, o1, h2, h3, h4, h5⟩ := e.env.at_ i _ hs
    subst h2
    exact ⟨hs, q, o1, h1, h3, h4, h5⟩
  · cases h
theorem OwnRep.dK_of {kds : List (D × D)} {o : HO} (h : OwnRep K F (.dict kds) o) (hn : notMk kds = true) : ∃ kvs, o = .dK kvs ∧ RpK K F kds kvs := by
  generalize hz : PyData.dict kds = z at h
  cases h with
  | lst => cases hz
  | dK h2 =>
    injection hz with hz
    subst hz
    exact ⟨_, rfl, h2⟩
  | dT h2 =>
    injection hz with hz
    subst hz
    cases hn
theorem OwnRep.dT_of {kds : List (D × D)} {o : HO} (h : OwnRep K F (.dict ((.bool true, .none) :: kds)) o) : ∃ kvs, o = .dT kvs ∧ RpT K F kds kvs := by
  generalize hz : PyData.dict ((.bool true, .none) :: kds) = z at h
  cases h with
  | lst => cases hz
  | dK h2 =>
    injection hz with hz
    exact (h2.nb hz.symm).elim
  | dT h2 =>
    injection hz with hz
    injection hz with _ hz
    subst hz
    exact ⟨_, rfl, h2⟩
theorem put_of {kds kds' : List (D × D)} {k d : D} {o : HO} {p : Addr} {y v : V} (s : Sub F H) (ho : H p = some o) (h : OwnRep K F (.dict kds) o) (hk : putD kds k d = some kds') (hy : RpB K F H k y) (hv : Rp K F d v) :
    ∃ o', DPut H p y v (upd H p o') ∧ OwnRep K F (.dict kds') o' := by
  unfold putD at hk
  split at hk
  · rename_i r ds
    split at hk
    · rename_i h1
      cases hk
      rw [Bool.and_eq_true] at h1
      obtain ⟨h1, hl⟩ := h1
      have hl := of_decide_eq_true hl
      rw [Option.isSome_iff_exists] at h1
      obtain ⟨ks, hks⟩ := h1
      have := keysOf_eq hks
      subst this
      obtain ⟨b, us, rfl, hb, rb⟩ := hy.tuple s
      rw [keysL_vs rb] at hb
      obtain ⟨kvs, rfl, h2⟩ := h.dT_of
      exact ⟨_, .t ho hb (by rw [h2.length]; exact line_lt hl), .dT (h2.put ks hv)⟩
    · cases hk
  · split at hk
    · rename_i h1
      cases hk
      rw [Bool.and_eq_true, Bool.and_eq_true] at h1
      obtain ⟨⟨h1, h2⟩, hl⟩ := h1
      have hl := of_decide_eq_true hl
      rw [Option.isSome_iff_exists] at h2
      obtain ⟨j, hj⟩ := h2
      have := keyOf_eq hj
      subst this
      have ey : y = kV j := by
        cases j with
        | inl i => exact hy.int
        | inr x => exact hy.str
      subst ey
      obtain ⟨kvs, rfl, h2⟩ := h.dK_of h1
      exact ⟨_, .k ho (by rw [h2.length]; exact line_lt hl), .dK (h2.put j hv)⟩
    · cases hk
theorem sx_setD (i : Nat) {x : Str} {p tpos : Pos} {fj : Den} (hu : X.A.units + 1 < cLine) (hN : X.N[i]? = some x) (hv : visB X.env.scope x = true) (hd : (x == ("__debug__" : Str)) = false) (hcd : (x == ("__classdict__" : Str)) = false) (ha : EX X a fd) (hb : EX X b fj)
    (hs : swapsWith a (some (.Subscript (.Name x p) b tpos)) pos.line X.env = pure false) : SX X (.Assign [.Subscript (.Name x p) b tpos] a pos) (sStD i fj fd) :=
  sx_mk (ps_dput hu (pe_var hN (vis_of hv) hd hcd) hb.pe ha.pe hs) fun D σ H F0 H0 ρ F o e h k => by
    simp only [sStD, Option.bind_eq_some_iff, Option.some.injEq] at h
    obtain ⟨d, h1, j, h2, xs, h3, ys, h4, rfl⟩ := h
    refine ⟨ρ, F, d, e.env, h1, fun w F1 H1 x1 r1 => ?_⟩
    have e1 := e.to x1
    obtain ⟨g1, q, ob, g2, g3, g4, g5⟩ := owD_at e1 h3
    refine ⟨_, g2, ρ, F1, _, e1.env, h2, fun u F2 H2 x2 r2 => ?_⟩
    have e2 := e1.to x2
    obtain ⟨o', p1, p2⟩ := put_of x2.le (x2.h _ _ g4) (g5.mono x2.f) h4 (.inl r2) (r1.mono x2.f)
    exact ⟨q, _, rfl, p1, k _ F2 _ (e2.put g1 g2 p2)⟩
/-! ### loops -/
def forL (g : DenG) (fb : DenS) : List D → DenS
  | [], ρ => some (.nx ρ)
  | d :: ds, ρ => (g d ρ).bind fun ρ1 => (fb ρ1).bind fun o => match o with
    | .nx ρ' => forL g fb ds ρ'
    | .ct ρ' => forL g fb ds ρ'
    | .bk ρ' => some (.nx ρ')
    | o => some o
def sFor (fi : DenI) (g : DenG) (fb : DenS) : DenS := fun ρ => (fi ρ).bind fun ds => forL g fb ds ρ
/-- the same from a later base -/
theorem EnvS.rebase (e : EnvS K F0 H0 ρ σ F1 H1) : ∃ Hx, Ext F0 H0 F1 Hx ∧ EnvS K F1 Hx ρ σ F1 H1 := by
  have hx : ∀ a, F1 a = none → H0 a = none → (match F1 a with | some o => some o | none => H0 a) = none := fun a h1 h2 => by rw [h1]; exact h2
  refine ⟨fun a => match F1 a with | some o => some o | none => H0 a, ⟨e.ext.f, fun a o h => ?_, fun a o h => ?_, e.ext.new⟩, ⟨e.env, ⟨.refl _, fun a o h => ?_, e.env.sub, fun _ _ h => h⟩, fun i d a h1 h2 => ?_⟩⟩
  · cases q : F1 a with
    | none => exact h
    | some u =>
      have h1 := e.env.sub a u q
      rw [e.ext.h a o h] at h1
      cases h1
      rfl
  · show (match F1 a with | some o => some o | none => H0 a) = some o
    rw [h]
  · have h' : (match F1 a with | some o => some o | none => H0 a) = some o := h
    cases q : F1 a with
    | none =>
      rw [q] at h'
      exact e.ext.h a o h'
    | some u =>
      rw [q] at h'
      cases h'
      exact e.env.sub a _ q
  · refine hx a ?_ (e.own i d a h1 h2)
    obtain ⟨ov, g1, b, o, g2, g3, _⟩ := e.env.at_ i _ h1
    rw [h2] at g1
    cases g1
    cases g2
    exact g3
theorem EnvS.unbase {Fx Hx : Hp} (x : Ext F0 H0 Fx Hx) (e : EnvS K Fx Hx ρ σ F H) : EnvS K F0 H0 ρ σ F H := ⟨e.env, x.trans e.ext, fun i d a h1 h2 => x.h.free (e.own i d a h1 h2)⟩
theorem Post.base {D : Ends} {o : Out} {Fx Hx : Hp} (x : Ext F0 H0 Fx Hx) (h : Post K F0 H0 D o) : Post K Fx Hx D o := by
  cases o with
  | nx ρ => exact fun σ' F' H' e => h σ' F' H' (e.unbase x)
  | bk ρ => exact fun σ' F' H' e => h σ' F' H' (e.unbase x)
  | ct ρ => exact fun σ' F' H' e => h σ' F' H' (e.unbase x)
  | rt d => exact fun v F' H' e r => h v F' H' (x.trans e) r
  | rn d => exact fun a o F' H' e h1 h2 h3 h4 => h a o F' H' (x.trans e) h1 (x.h.free h2) h3 h4
theorem for_t {wi : TI} {g : DenG} {fbd : DenS} {ws : List Nat} {fi : DenI} {o : Out} {D : Ends} (hwi : ∀ ds R, fi ρ = some ds → (∀ J F2 H2, Ext F H F2 H2 → Walks K J F2 ds → R J H2) → wi σ H R) (e : EnvS K F0 H0 ρ σ F H) (h : sFor fi g fbd ρ = some o) (k : Post K F0 H0 D o) :
    tFor wi (tGt K ws g) (tSt K fbd) D σ H := by
  simp only [sFor, Option.bind_eq_some_iff] at h
  obtain ⟨ds, h1, h2⟩ := h
  refine hwi ds _ h1 fun J F1 H1 x1 w => ?_
  obtain ⟨Hx, xb, eb⟩ := (e.to x1).rebase
  have kb := k.base xb
  refine ⟨fun i m σ' H' => i ≤ ds.length ∧ m = ds.length - i ∧ ∃ ρ' F', EnvS K F1 Hx ρ' σ' F' H' ∧ forL g fbd (ds.drop i) ρ' = some o, ⟨_, Nat.zero_le _, rfl, ρ, F1, eb, by rw [List.drop_zero]; exact h2⟩, ?_⟩
  rintro i m σ' H' ⟨hle, rfl, ρ', F', e', hl⟩
  obtain ⟨w1, w2⟩ := w i F' H' e'.ext.f e'.env.sub
  by_cases hi : i < ds.length
  · have hd : ds.drop i = ds[i] :: ds.drop (i + 1) := List.drop_eq_getElem_cons hi
    rw [hd] at hl
    simp only [forL, Option.bind_eq_some_iff] at hl
    obtain ⟨ρ1, g1, o1, g2, g3⟩ := hl
    obtain ⟨w3, w4⟩ := w1 ds[i] (List.getElem?_eq_getElem hi)
    refine .inr ⟨w3, fun σ2 H2 => ∃ ρ2 F2, EnvS K F1 Hx ρ2 σ2 F2 H2 ∧ forL g fbd (ds.drop (i + 1)) ρ2 = some o, fun σ2 H2 hN => ⟨_, by omega, hi, rfl, hN⟩, fun x H2 hy => ?_⟩
    obtain ⟨F2, x2, r2⟩ := w4 x H2 hy
    have e2 := e'.to x2
    refine ⟨ρ', F2, ds[i], ρ1, e2.env, r2, g1, fun σ3 e3 _ o3 => ?_⟩
    refine ⟨F1, Hx, ρ1, F2, o1, e2.tgt e3 o3, g2, ?_⟩
    cases o1 with
    | nx ρ2 => exact fun σ4 F4 H4 e4 => ⟨ρ2, F4, e4, g3⟩
    | ct ρ2 => exact fun σ4 F4 H4 e4 => ⟨ρ2, F4, e4, g3⟩
    | bk ρ2 =>
      cases g3
      exact kb
    | rt d =>
      cases g3
      exact kb
    | rn d =>
      cases g3
      exact kb
  · have hd : ds.drop i = [] := List.drop_eq_nil_of_le (by omega)
    rw [hd] at hl
    cases hl
    exact .inl ⟨w2 (by omega), kb σ' F' H' e'⟩
theorem sx_for {X : Cx} {pos : Pos} {tg iter : Expr} {body : List Stmt} {ws : List Nat} {fi : DenI} {g : DenG} {fbd : DenS} (hp : PassesOwn (model X.prog X.w) X.A X.env X.xe) (hc : X.calm = true) (hi : EI X tg iter fi) (hg : EG X tg ws g) (hb : SXs X body fbd)
    (hs : ∀ x, foldedSetIterable iter X.env x = pure x) : SX X (.For tg iter body [] pos) (sFor fi g fbd) :=
  sx_mk (ps_for hp hc hi.pi hg.pg hb.pss hs) fun D σ H F0 H0 ρ F o e h k => for_t (fun ds R h1 w => ⟨ρ, F, ds, e.env, h1, w⟩) e h k
/-! ### while -/
def whL (c : DenB) (fb : DenS) : Nat → DenS
  | 0, _ => none
  | n + 1, ρ => (c ρ).bind fun b => if b then (fb ρ).bind fun o => match o with
      | .nx ρ' => whL c fb n ρ'
      | .ct ρ' => whL c fb n ρ'
      | .bk ρ' => some (.nx ρ')
      | o => some o
    else some (.nx ρ)
open Classical in
noncomputable def sWh (c : DenB) (fb : DenS) : DenS := fun ρ => if h : ∃ n o, whL c fb n ρ = some o then some (Classical.choose (Classical.choose_spec h)) else none
theorem sWh_ex {c : DenB} {fb : DenS} {ρ : Env} {o : Out} (h : sWh c fb ρ = some o) : ∃ n, whL c fb n ρ = some o := by
  unfold sWh at h
  split at h
  · rename_i hh
    cases h
    exact ⟨_, Classical.choose_spec (Classical.choose_spec hh)⟩
  · cases h
theorem whL_mono {c : DenB} {fb : DenS} : ∀ {n m : Nat} {ρ : Env} {o : Out}, n ≤ m → whL c fb n ρ = some o → whL c fb m ρ = some o
  | 0, _, _, _, _, h => by cases h
  | n + 1, 0, _, _, h, _ => by omega
  | n + 1, m + 1, ρ, o, hl, h => by
    simp only [whL, Option.bind_eq_some_iff] at h ⊢
    obtain ⟨b, h1, h2⟩ := h
    refine ⟨b, h1, ?_⟩
    cases b with
    | false => exact h2
    | true =>
      simp only [if_true, Option.bind_eq_some_iff] at h2 ⊢
      obtain ⟨o1, h3, h4⟩ := h2
      refine ⟨o1, h3, ?_⟩
      cases o1 with
      | nx ρ' => exact whL_mono (by omega) h4
      | ct ρ' => exact whL_mono (by omega) h4
      | bk ρ' => exact h4
      | rt d => exact h4
      | rn d => exact h4
theorem sWh_of {c : DenB} {fb : DenS} {ρ : Env} {o : Out} {n : Nat} (h : whL c fb n ρ = some o) : sWh c fb ρ = some o := by
  have hh : ∃ n o, whL c fb n ρ = some o := ⟨n, o, h⟩
  unfold sWh
  rw [dif_pos hh]
  have h2 := Classical.choose_spec (Classical.choose_spec hh)
  have a := whL_mono (Nat.le_max_left n (Classical.choose hh)) h
  have b := whL_mono (Nat.le_max_right n (Classical.choose hh)) h2
  rw [a] at b
  exact b.symm
theorem sx_while {c : Expr} {body : List Stmt} {fc : DenB} {fbd : DenS} (hp : PassesOwn (model X.prog X.w) X.A X.env X.xe) (hc : ET X c fc) (hb : SXs X body fbd) : SX X (.While c body [] pos) (sWh fc fbd) :=
  sx_mk (ps_while hp hc.pt hb.pss) fun D σ H F0 H0 ρ F o e h k => by
    obtain ⟨n, h⟩ := sWh_ex h
    refine ⟨fun m σ' H' => ∃ ρ' F', EnvS X.K F0 H0 ρ' σ' F' H' ∧ whL fc fbd m ρ' = some o, ⟨n, ρ, F, e, h⟩, ?_⟩
    rintro m σ' H' ⟨ρ', F', e', hl⟩
    cases m with
    | zero => cases hl
    | succ m =>
      simp only [whL, Option.bind_eq_some_iff] at hl
      obtain ⟨b, h1, h2⟩ := hl
      refine ⟨ρ', F', b, e'.env, h1, fun F1 H1 x1 => ?_⟩
      cases b with
      | false =>
        cases h2
        exact k σ' F1 H1 (e'.to x1)
      | true =>
        simp only [if_true, Option.bind_eq_some_iff] at h2
        obtain ⟨o1, h3, h4⟩ := h2
        refine ⟨fun σ2 H2 => ∃ ρ2 F2, EnvS X.K F0 H0 ρ2 σ2 F2 H2 ∧ whL fc fbd m ρ2 = some o, fun σ2 H2 hN => ⟨m, by omega, hN⟩, F0, H0, ρ', F1, o1, e'.to x1, h3, ?_⟩
        cases o1 with
        | nx ρ2 => exact fun σ4 F4 H4 e4 => ⟨ρ2, F4, e4, h4⟩
        | ct ρ2 => exact fun σ4 F4 H4 e4 => ⟨ρ2, F4, e4, h4⟩
        | bk ρ2 =>
          cases h4
          exact k
        | rt d =>
          cases h4
          exact k
        | rn d =>
          cases h4
          exact k
end
end Zx
/-! Zx8: comprehensions, calls, defs. -/
namespace Zx
open PySem PySem.Spec L2
/-! ### comprehensions -/
def wipeE (ρ : Env) : List Nat → Env
  | [] => ρ
  | v :: vs => (wipeE ρ vs).set v .no
def lcL (g : DenG) (ft : DenB) (fe : Den) (ρ : Env) : List D → Option (List D)
  | [] => some []
  | d :: ds => (g d ρ).bind fun ρ1 => (ft ρ1).bind fun b => if b then (fe ρ1).bind fun x => (lcL g ft fe ρ ds).bind fun xs => some (x :: xs) else lcL g ft fe ρ ds
def dLc (fi : DenI) (g : DenG) (ft : DenB) (fe : Den) (vs : List Nat) : Den := fun ρ => (fi ρ).bind fun ds => (lcL g ft fe (wipeE ρ vs) ds).bind fun out => if out.length ≤ 1000000 then some (.list out) else none
def bYes : DenB := fun _ => some true
section
variable {X : Cx} {K : PySem.W.Frag} {F0 H0 F H F1 H1 F' H' : Hp} {ρ : Env} {σ : L2.St}
theorem EnvOk.no {i : Nat} (e : EnvOk K ρ σ F H) : EnvOk K (ρ.set i .no) (σ.set i none) F H where
  sub := e.sub
  len := by rw [List.length_set, List.length_set]; exact e.len
  at_ := fun j s hs => by
    by_cases hj : i = j
    · subst hj
      by_cases hl : i < ρ.length
      · rw [List.getElem?_set_self hl] at hs
        cases hs
        exact ⟨none, List.getElem?_set_self (by rw [← e.len]; exact hl), trivial⟩
      · rw [List.getElem?_eq_none (by rw [List.length_set]; omega)] at hs
        cases hs
    · rw [List.getElem?_set_ne hj] at hs
      rw [List.getElem?_set_ne hj]
      exact e.at_ j s hs
  dist := fun j k d1 d2 a h1 h2 h3 h4 => by
    have z : ∀ {j : Nat} {d1 : D}, (ρ.set i .no)[j]? = some (.ow d1) → i ≠ j ∧ ρ[j]? = some (.ow d1) := fun {j d1} h => by
      by_cases hj : i = j
      · subst hj
        by_cases hl : i < ρ.length
        · rw [List.getElem?_set_self hl] at h
          cases h
        · rw [List.getElem?_eq_none (by rw [List.length_set]; omega)] at h
          cases h
      · rw [List.getElem?_set_ne hj] at h
        exact ⟨hj, h⟩
    obtain ⟨n1, g1⟩ := z h1
    obtain ⟨n2, g2⟩ := z h2
    rw [List.getElem?_set_ne n1] at h3
    rw [List.getElem?_set_ne n2] at h4
    exact e.dist j k d1 d2 a g1 g2 h3 h4
theorem EnvOk.wipe (e : EnvOk K ρ σ F H) : ∀ vs : List Nat, EnvOk K (wipeE ρ vs) (wipe σ vs) F H
  | [] => e
  | v :: vs => (EnvOk.wipe e vs).no
/-- a new object that no slot owns is written -/
theorem EnvOk.upd {q : Addr} {o : HO} (e : EnvOk K ρ σ F H) (hF : F q = none) (hn : ∀ (i : Nat) d a, ρ[i]? = some (.ow d) → σ[i]? = some (some (.ref a)) → a ≠ q) : EnvOk K ρ σ F (upd H q o) where
  sub := fun b u hb => by
    rw [upd_ne (ne_of_none hb hF)]
    exact e.sub b u hb
  len := e.len
  dist := e.dist
  at_ := fun i s hs => by
    obtain ⟨ov, g1, g2⟩ := e.at_ i s hs
    refine ⟨ov, g1, ?_⟩
    cases s with
    | no => trivial
    | fz d => exact g2
    | ow d =>
      obtain ⟨b, u, g3, g4, g5, g6⟩ := g2
      subst g3
      refine ⟨b, u, rfl, g4, ?_, g6⟩
      rw [upd_ne (hn i d b hs g1)]
      exact g5
theorem Ext.mut {q : Addr} {o : HO} (x : Ext F1 H1 F H) (h1 : H1 q = none) (hF : F q = none) : Ext F1 H1 F (upd H q o) :=
  ⟨x.f, fun a u e => by
    rw [upd_ne (ne_of_none e h1)]
    exact x.h a u e, fun a u e => by
    rw [upd_ne (ne_of_none e hF)]
    exact x.le a u e, x.new⟩
theorem EnvOk.ne_new {q : Addr} (e : EnvOk K ρ σ F H) (hq : H q = none) : ∀ (i : Nat) d a, ρ[i]? = some (.ow d) → σ[i]? = some (some (.ref a)) → a ≠ q := fun i d a h1 h2 z => by
  subst z
  obtain ⟨ov, g1, b, o, g2, g3, g4, _⟩ := e.at_ i _ h1
  rw [h2] at g1
  cases g1
  cases g2
  rw [hq] at g4
  cases g4
/-- the tests of a clause -/
structure ETs (X : Cx) (ifs : List Expr) (f : DenB) : Prop where
  pts : PTs X ifs (tTst X.K f)
theorem PTs.imp {ifs : List Expr} {t t' : TT} (h : PTs X ifs t) (i : ∀ σ H Q, t' σ H Q → t σ H Q) : PTs X ifs t' := ⟨fun pins s σ H Q I hw => h.run pins s σ H Q I (i σ H Q hw)⟩
theorem ets_nil : ETs X [] bYes := ⟨PTs.imp pts_nil fun σ H Q ⟨ρ, F, b, e, h, k⟩ => by
  cases h
  exact k F H (.refl e.sub)⟩
theorem ets_one {c : Expr} {f : DenB} (h : ET X c f) : ETs X [c] f := ⟨pts_one h.pt⟩
theorem wipe_twice (σ σ2 : L2.St) : ∀ vs : List Nat, σ2.length = σ.length → (∀ j, j ∉ vs → σ2[j]? = (wipe σ vs)[j]?) → wipe σ2 vs = wipe σ vs := fun vs hl h => by
  have hw : ∀ (τ : L2.St) (vs : List Nat) (j : Nat), (wipe τ vs)[j]? = if j ∈ vs ∧ j < τ.length then some none else τ[j]? := fun τ vs => by
    induction vs with
    | nil => intro j; simp [L2.wipe]
    | cons v vs ih =>
      intro j
      unfold L2.wipe
      by_cases hj : v = j
      · subst hj
        by_cases hl : v < τ.length
        · rw [List.getElem?_set_self (by rw [wipe_length]; exact hl), if_pos ⟨List.mem_cons_self, hl⟩]
        · rw [List.getElem?_eq_none (by rw [List.length_set, wipe_length]; omega), if_neg (fun z => hl z.2), List.getElem?_eq_none (by omega)]
      · rw [List.getElem?_set_ne hj, ih]
        by_cases hm : j ∈ vs ∧ j < τ.length
        · rw [if_pos hm, if_pos ⟨List.mem_cons_of_mem _ hm.1, hm.2⟩]
        · rw [if_neg hm, if_neg (fun z => hm ⟨(List.mem_cons.mp z.1).resolve_left (Ne.symm hj), z.2⟩)]
  refine List.ext_getElem? fun j => ?_
  rw [hw σ2, hw σ, hl]
  by_cases hj : j ∈ vs
  · by_cases hl2 : j < σ.length
    · rw [if_pos ⟨hj, hl2⟩, if_pos ⟨hj, hl2⟩]
    · rw [if_neg (fun z => hl2 z.2), if_neg (fun z => hl2 z.2), List.getElem?_eq_none (by omega), List.getElem?_eq_none (by omega)]
  · rw [if_neg (fun z => hj z.1), if_neg (fun z => hj z.1), h j hj, wipe_out hj]
section
variable {wi wi1 : TI} {g : DenG} {ft ft1 : DenB} {fe : Den} {fi fi1 : DenI} {ws ws1 vs vs1 : List Nat} {Q : VK} {d : D} {g1 : DenG}
/-- a thing that is walked, told of the state -/
def WiOk (K : PySem.W.Frag) (wi : TI) (fi : DenI) (ρ : Env) (σ : L2.St) (F H : Hp) : Prop := ∀ ds R, fi ρ = some ds → (∀ J F1 H1, Ext F H F1 H1 → Walks K J F1 ds → R J H1) → wi σ H R
theorem EnvOk.wiOk (e : EnvOk K ρ σ F H) : WiOk K (tI K fi) fi ρ σ F H := fun ds R h k => ⟨ρ, F, ds, e, h, k⟩
theorem lc_t (hwi : WiOk K wi fi ρ σ F H) (hw : ∀ j ∈ ws, j ∈ vs) (e : EnvOk K ρ σ F H) (h : dLc fi g ft fe vs ρ = some d) (k : ∀ a o F' H', Ext F H F' H' → F' a = none → H a = none → H' a = some o → OwnRep K F' d o → Q (.ref a) H') :
    tLc wi (tGt K ws g) (tTst K ft) (tX K fe) vs σ H Q := by
  simp only [dLc, Option.bind_eq_some_iff] at h
  obtain ⟨ds, h1, out, h2, h3⟩ := h
  split at h3
  · rename_i hsz
    cases h3
    refine hwi ds _ h1 fun J F1 H1 x1 w q hq => ?_
    have e1 := (e.ext x1).wipe vs
    have hF1 : F1 q = none := x1.le.free hq
    have hne := e1.ne_new hq
    refine ⟨fun i m H' => i ≤ ds.length ∧ m = ds.length - i ∧ ∃ F' acc accD rest, EnvOk K (wipeE ρ vs) (wipe σ vs) F' H' ∧ Ext F1 H1 F' H' ∧ F' q = none ∧ H' q = some (.lst acc) ∧ RpL K F' accD acc ∧
      lcL g ft fe (wipeE ρ vs) (ds.drop i) = some rest ∧ accD ++ rest = out,
      ⟨_, Nat.zero_le _, rfl, F1, [], [], out, e1.upd hF1 hne, .mut (.refl x1.le) hq hF1, hF1, upd_same, .nil, by rw [List.drop_zero]; exact h2, rfl⟩, ?_⟩
    rintro i m H' ⟨hle, rfl, F', acc, accD, rest, e', x', hF', hq', rl, hr, ho⟩
    obtain ⟨w1, w2⟩ := w i F' H' x'.f x'.le
    by_cases hi : i < ds.length
    · have hd : ds.drop i = ds[i] :: ds.drop (i + 1) := List.drop_eq_getElem_cons hi
      rw [hd] at hr
      simp only [lcL, Option.bind_eq_some_iff] at hr
      obtain ⟨ρ1, g1, b, g2, g3⟩ := hr
      obtain ⟨w3, w4⟩ := w1 ds[i] (List.getElem?_eq_getElem hi)
      refine .inr ⟨w3, fun H' => ∃ F' acc accD rest, EnvOk K (wipeE ρ vs) (wipe σ vs) F' H' ∧ Ext F1 H1 F' H' ∧ F' q = none ∧ H' q = some (.lst acc) ∧ RpL K F' accD acc ∧
        lcL g ft fe (wipeE ρ vs) (ds.drop (i + 1)) = some rest ∧ accD ++ rest = out, fun H2 hN => ⟨_, by omega, hi, rfl, hN⟩, fun x H2 hy => ?_⟩
      obtain ⟨F2, x2, r2⟩ := w4 x H2 hy
      refine ⟨_, F2, ds[i], ρ1, e'.ext x2, r2, g1, fun σ3 e3 sb o3 => ⟨?_, ?_⟩⟩
      · refine wipe_twice σ σ3 _ (by rw [sb.len, wipe_length]) fun j hj => sb.at_ j fun z => hj (hw j z)
      refine ⟨ρ1, F2, b, e3, g2, fun F3 H3 x3 => ?_⟩
      have x23 := x2.trans x3
      cases b with
      | false =>
        refine ⟨F3, acc, accD, rest, e'.ext x23, x'.trans x23, x23.new q (by rw [hq']; exact fun z => nomatch z) hF', x23.h _ _ hq', rl.mono x23.f, g3, ho⟩
      | true =>
        simp only [if_true, Option.bind_eq_some_iff, Option.some.injEq] at g3
        obtain ⟨y, g4, rest', g5, rfl⟩ := g3
        refine ⟨ρ1, F3, y, e3.ext x3, g4, fun v F4 H4 x4 r4 => ?_⟩
        have x24 := x23.trans x4
        have hF4 : F4 q = none := x24.new q (by rw [hq']; exact fun z => nomatch z) hF'
        have hH4 : H4 q = some (.lst acc) := x24.h _ _ hq'
        refine ⟨acc, hH4, ?_, F4, acc ++ [v], accD ++ [y], rest', (e'.ext x24).upd hF4 hne, .mut (x'.trans x24) hq hF4, hF4, upd_same, (rl.mono x24.f).append (.one r4), g5, by rw [List.append_assoc]; exact ho⟩
        rw [rl.length]
        refine line_lt ?_
        have := congrArg List.length ho
        rw [List.length_append, List.length_cons] at this
        omega
    · have hd : ds.drop i = [] := List.drop_eq_nil_of_le (by omega)
      rw [hd] at hr
      cases hr
      rw [List.append_nil] at ho
      subst ho
      exact .inl ⟨w2 (by omega), k q _ F' H' (x1.trans x') hF' (x1.h.free hq) hq' (.lst rl)⟩
  · cases h3
/-! two clauses -/
def lc2L (g : DenG) (ft : DenB) (fi1 : DenI) (g1 : DenG) (ft1 : DenB) (fe : Den) (vs1 : List Nat) (ρ : Env) : List D → Option (List D)
  | [] => some []
  | d :: ds => (g d ρ).bind fun ρ1 => (ft ρ1).bind fun b => if b then (fi1 ρ1).bind fun es => (lcL g1 ft1 fe (wipeE ρ1 vs1) es).bind fun xs => (lc2L g ft fi1 g1 ft1 fe vs1 ρ ds).bind fun ys => some (xs ++ ys) else lc2L g ft fi1 g1 ft1 fe vs1 ρ ds
def dLc2 (fi : DenI) (g : DenG) (ft : DenB) (fi1 : DenI) (g1 : DenG) (ft1 : DenB) (fe : Den) (vs vs1 : List Nat) : Den := fun ρ => (fi ρ).bind fun ds => (lc2L g ft fi1 g1 ft1 fe vs1 (wipeE ρ vs) ds).bind fun out => if out.length ≤ 1000000 then some (.list out) else none
theorem wipe_wipe (hv : ∀ j ∈ vs1, j ∈ vs) (τ : L2.St) (h : wipe τ vs = wipe σ vs) (σ3 : L2.St) (hl : σ3.length = τ.length) (h3 : ∀ j, j ∉ vs1 → σ3[j]? = (wipe τ vs1)[j]?) : wipe σ3 vs1 = wipe τ vs1 := wipe_twice τ σ3 vs1 hl h3
theorem lc2_t (hwi : WiOk K wi fi ρ σ F H) (hw : ∀ j ∈ ws, j ∈ vs) (hw1 : ∀ j ∈ ws1, j ∈ vs1) (e : EnvOk K ρ σ F H) (h : dLc2 fi g ft fi1 g1 ft1 fe vs vs1 ρ = some d)
    (k : ∀ a o F' H', Ext F H F' H' → F' a = none → H a = none → H' a = some o → OwnRep K F' d o → Q (.ref a) H') :
    tLc2 wi (tGt K ws g) (tTst K ft) (tI K fi1) (tGt K ws1 g1) (tTst K ft1) (tX K fe) vs vs1 σ H Q := by
  simp only [dLc2, Option.bind_eq_some_iff] at h
  obtain ⟨ds, h1, out, h2, h3⟩ := h
  split at h3
  · rename_i hsz
    cases h3
    refine hwi ds _ h1 fun J F1 H1 x1 w q hq => ?_
    have e1 := (e.ext x1).wipe vs
    have hF1 : F1 q = none := x1.le.free hq
    have hne := e1.ne_new hq
    refine ⟨fun i m H' => i ≤ ds.length ∧ m = ds.length - i ∧ ∃ F' acc accD rest, EnvOk K (wipeE ρ vs) (wipe σ vs) F' H' ∧ Ext F1 H1 F' H' ∧ F' q = none ∧ H' q = some (.lst acc) ∧ RpL K F' accD acc ∧
      lc2L g ft fi1 g1 ft1 fe vs1 (wipeE ρ vs) (ds.drop i) = some rest ∧ accD ++ rest = out,
      ⟨_, Nat.zero_le _, rfl, F1, [], [], out, e1.upd hF1 hne, .mut (.refl x1.le) hq hF1, hF1, upd_same, .nil, by rw [List.drop_zero]; exact h2, rfl⟩, ?_⟩
    rintro i m H' ⟨hle, rfl, F', acc, accD, rest, e', x', hF', hq', rl, hr, ho⟩
    obtain ⟨w1, w2⟩ := w i F' H' x'.f x'.le
    by_cases hi : i < ds.length
    · have hd : ds.drop i = ds[i] :: ds.drop (i + 1) := List.drop_eq_getElem_cons hi
      rw [hd] at hr
      simp only [lc2L, Option.bind_eq_some_iff] at hr
      obtain ⟨ρ1, j1, b, j2, j3⟩ := hr
      obtain ⟨w3, w4⟩ := w1 ds[i] (List.getElem?_eq_getElem hi)
      refine .inr ⟨w3, fun H' => ∃ F' acc accD rest, EnvOk K (wipeE ρ vs) (wipe σ vs) F' H' ∧ Ext F1 H1 F' H' ∧ F' q = none ∧ H' q = some (.lst acc) ∧ RpL K F' accD acc ∧
        lc2L g ft fi1 g1 ft1 fe vs1 (wipeE ρ vs) (ds.drop (i + 1)) = some rest ∧ accD ++ rest = out, fun H2 hN => ⟨_, by omega, hi, rfl, hN⟩, fun x H2 hy => ?_⟩
      obtain ⟨F2, x2, r2⟩ := w4 x H2 hy
      refine ⟨_, F2, ds[i], ρ1, e'.ext x2, r2, j1, fun σ3 e3 sb o3 => ⟨?_, ?_⟩⟩
      · refine wipe_twice σ σ3 _ (by rw [sb.len, wipe_length]) fun j hj => sb.at_ j fun z => hj (hw j z)
      refine ⟨ρ1, F2, b, e3, j2, fun F3 H3 x3 => ?_⟩
      have x23 := x2.trans x3
      have hq3 : H3 q = some (.lst acc) := x23.h _ _ hq'
      have hF3 : F3 q = none := x23.new q (by rw [hq']; exact fun z => nomatch z) hF'
      cases b with
      | false =>
        exact ⟨F3, acc, accD, rest, e'.ext x23, x'.trans x23, hF3, hq3, rl.mono x23.f, j3, ho⟩
      | true =>
        simp only [if_true, Option.bind_eq_some_iff, Option.some.injEq] at j3
        obtain ⟨es, j4, xs, j5, ys, j6, rfl⟩ := j3
        have e33 := e3.ext x3
        refine ⟨ρ1, F3, es, e33, j4, fun J1 F4 H4 x4 u => ?_⟩
        have x24 := x23.trans x4
        have hne3 : ∀ (i : Nat) d a, (wipeE ρ1 vs1)[i]? = some (.ow d) → (wipe σ3 vs1)[i]? = some (some (.ref a)) → a ≠ q := fun i d a g1 g2 => by
          have e4 := (e3.wipe vs1)
          rintro rfl
          obtain ⟨ov, z1, b, o, z2, z3, z4, z5⟩ := e4.at_ i _ g1
          rw [g2] at z1
          cases z1
          cases z2
          have hw' : (wipeE ρ1 vs1)[i]? = some (.ow d) := g1
          rcases o3 i d (by
            have zz : ∀ (vs : List Nat) (τ : Env), (wipeE τ vs)[i]? = some (.ow d) → τ[i]? = some (.ow d) := fun vs => by
              induction vs with
              | nil => exact fun τ h => h
              | cons v vs ih =>
                intro τ h
                unfold wipeE at h
                by_cases hv : v = i
                · subst hv
                  by_cases hl : v < (wipeE τ vs).length
                  · rw [List.getElem?_set_self hl] at h
                    cases h
                  · rw [List.getElem?_eq_none (by rw [List.length_set]; omega)] at h
                    cases h
                · rw [List.getElem?_set_ne hv] at h
                  exact ih τ h
            exact zz vs1 ρ1 hw') with ⟨y1, y2⟩
          have y3 : σ3[i]? = some (some (.ref a)) := by
            have zz : ∀ (vs : List Nat) (τ : L2.St), (wipe τ vs)[i]? = some (some (.ref a)) → τ[i]? = some (some (.ref a)) := fun vs => by
              induction vs with
              | nil => exact fun τ h => h
              | cons v vs ih =>
                intro τ h
                unfold L2.wipe at h
                by_cases hv : v = i
                · subst hv
                  by_cases hl : v < (wipe τ vs).length
                  · rw [List.getElem?_set_self hl] at h
                    cases h
                  · rw [List.getElem?_eq_none (by rw [List.length_set]; omega)] at h
                    cases h
                · rw [List.getElem?_set_ne hv] at h
                  exact ih τ h
            exact zz vs1 σ3 g2
          rw [y2] at y3
          exact hne i d a y1 y3 rfl
        refine ⟨fun j m H' => j ≤ es.length ∧ m = es.length - j ∧ ∃ F' acc' accD' rest', EnvOk K (wipeE ρ1 vs1) (wipe σ3 vs1) F' H' ∧ EnvOk K (wipeE ρ vs) (wipe σ vs) F' H' ∧ Ext F1 H1 F' H' ∧ Sub F4 F' ∧ F' q = none ∧ H' q = some (.lst acc') ∧ RpL K F' accD' acc' ∧
          lcL g1 ft1 fe (wipeE ρ1 vs1) (es.drop j) = some rest' ∧ accD' ++ (rest' ++ ys) = out,
          ⟨_, Nat.zero_le _, rfl, F4, acc, accD, xs, (e33.ext x4).wipe vs1, (e'.ext x24), x'.trans x24, Sub.refl _, x4.new q (by rw [hq3]; exact fun z => nomatch z) hF3, x4.h _ _ hq3, rl.mono x24.f, by rw [List.drop_zero]; exact j5, ho⟩, ?_⟩
        rintro j m H5 ⟨hle1, rfl, F5, acc5, accD5, rest5, e5, e5', x5, sF5, hF5, hq5, rl5, hr5, ho5⟩
        obtain ⟨u1, u2⟩ := u j F5 H5 sF5 x5.le
        by_cases hj : j < es.length
        · have hd5 : es.drop j = es[j] :: es.drop (j + 1) := List.drop_eq_getElem_cons hj
          rw [hd5] at hr5
          simp only [lcL, Option.bind_eq_some_iff] at hr5
          obtain ⟨ρ2, k1, b, k2, k3⟩ := hr5
          obtain ⟨u3, u4⟩ := u1 es[j] (List.getElem?_eq_getElem hj)
          refine .inr ⟨u3, fun H' => ∃ F' acc' accD' rest', EnvOk K (wipeE ρ1 vs1) (wipe σ3 vs1) F' H' ∧ EnvOk K (wipeE ρ vs) (wipe σ vs) F' H' ∧ Ext F1 H1 F' H' ∧ Sub F4 F' ∧ F' q = none ∧ H' q = some (.lst acc') ∧ RpL K F' accD' acc' ∧
            lcL g1 ft1 fe (wipeE ρ1 vs1) (es.drop (j + 1)) = some rest' ∧ accD' ++ (rest' ++ ys) = out, fun H2 hN => ⟨_, by omega, hj, rfl, hN⟩, fun x H6 hy => ?_⟩
          obtain ⟨F6, x6, r6⟩ := u4 x H6 hy
          refine ⟨_, F6, es[j], ρ2, e5.ext x6, r6, k1, fun σ7 e7 sb7 o7 => ⟨?_, ?_⟩⟩
          · refine wipe_twice σ3 σ7 _ (by rw [sb7.len, wipe_length]) fun j hj => sb7.at_ j fun z => hj (hw1 j z)
          refine ⟨ρ2, F6, b, e7, k2, fun F7 H7 x7 => ?_⟩
          have x67 := x6.trans x7
          cases b with
          | false =>
            exact ⟨F7, acc5, accD5, rest5, e5.ext x67, e5'.ext x67, x5.trans x67, sF5.trans x67.f, x67.new q (by rw [hq5]; exact fun z => nomatch z) hF5, x67.h _ _ hq5, rl5.mono x67.f, k3, ho5⟩
          | true =>
            simp only [if_true, Option.bind_eq_some_iff, Option.some.injEq] at k3
            obtain ⟨y, k4, rest', k5, rfl⟩ := k3
            refine ⟨ρ2, F7, y, e7.ext x7, k4, fun v F8 H8 x8 r8 => ?_⟩
            have x68 := x67.trans x8
            have hF8 : F8 q = none := x68.new q (by rw [hq5]; exact fun z => nomatch z) hF5
            have hH8 : H8 q = some (.lst acc5) := x68.h _ _ hq5
            refine ⟨acc5, hH8, ?_, F8, acc5 ++ [v], accD5 ++ [y], rest', (e5.ext x68).upd hF8 hne3, (e5'.ext x68).upd hF8 hne, .mut (x5.trans x68) hq hF8, sF5.trans x68.f, hF8, upd_same, (rl5.mono x68.f).append (.one r8), k5, by rw [List.append_assoc]; exact ho5⟩
            rw [rl5.length]
            refine line_lt ?_
            have := congrArg List.length ho5
            rw [List.length_append, List.length_append, List.length_cons] at this
            omega
        · have hd5 : es.drop j = [] := List.drop_eq_nil_of_le (by omega)
          rw [hd5] at hr5
          cases hr5
          exact .inl ⟨u2 (by omega), F5, acc5, accD5, ys, e5', x5, hF5, hq5, rl5, j6, by simpa using ho5⟩
    · have hd : ds.drop i = [] := List.drop_eq_nil_of_le (by omega)
      rw [hd] at hr
      cases hr
      rw [List.append_nil] at ho
      subst ho
      exact .inl ⟨w2 (by omega), k q _ F' H' (x1.trans x') hF' (x1.h.free hq) hq' (.lst rl)⟩
  · cases h3
end
/-- a block's judgements -/
abbrev InBlk (X : Cx) (scope : Scope) (P : Cx → Prop) : Prop := ∀ (s : Shared) (H : Hp) (C : Addr) (cl : List (Str × Addr)) (fp : List Addr), P (X.blk s H scope (compEnvC scope cl C X.env) fp)
section
variable {elt tg iter tg1 iter1 : Expr} {ifs ifs1 : List Expr} {scope : Scope} {own : List (Str × Nat)} {pos spos : Pos} {ws ws1 vs1 : List Nat} {fi fi1 : DenI} {g g1 : DenG} {ft ft1 : DenB} {fe : Den}
theorem en_lc (hc : X.calm = true) (hN : X.N.Nodup) (hi : EI X tg iter fi) (ok : BlkOk X.N X.env.scope scope own)
    (hg : InBlk X scope fun Y => EG Y tg ws g) (ht : InBlk X scope fun Y => ETs Y ifs ft)
    (he : InBlk X scope fun Y => EX Y elt fe) (hs : ∀ x, foldedSetIterable iter X.env x = pure x) (hw : ∀ j ∈ ws, j ∈ own.map (·.2)) :
    EN X (.ListComp elt [⟨tg, iter, ifs, 0⟩] scope pos) (dLc fi g ft fe (own.map (·.2))) :=
  mkN (pe_lc (te := tX X.K fe) (tt := tTst X.K ft) (g := tGt X.K ws g) hc hN hi.pi ok (fun s H C cl fp => (hg s H C cl fp).pg) (fun s H C cl fp => (ht s H C cl fp).pts) (fun s H C cl fp => (he s H C cl fp).pe) hs) fun σ H Q ρ F d e h k => lc_t e.wiOk hw e h k
theorem en_lc2 (hc : X.calm = true) (hN : X.N.Nodup) (hi : EI X tg iter fi) (ok : BlkOk X.N X.env.scope scope own) (hv : ∀ i ∈ vs1, i ∈ own.map (·.2))
    (hg : InBlk X scope fun Y => EG Y tg ws g) (ht : InBlk X scope fun Y => ETs Y ifs ft) (hi1 : InBlk X scope fun Y => EI Y tg1 iter1 fi1) (hg1 : InBlk X scope fun Y => EG Y tg1 ws1 g1) (ht1 : InBlk X scope fun Y => ETs Y ifs1 ft1)
    (he : InBlk X scope fun Y => EX Y elt fe) (hs : ∀ x, foldedSetIterable iter X.env x = pure x) (hs1 : ∀ env x, foldedSetIterable iter1 env x = pure x) (hw : ∀ j ∈ ws, j ∈ own.map (·.2)) (hw1 : ∀ j ∈ ws1, j ∈ vs1) :
    EN X (.ListComp elt [⟨tg, iter, ifs, 0⟩, ⟨tg1, iter1, ifs1, 0⟩] scope pos) (dLc2 fi g ft fi1 g1 ft1 fe (own.map (·.2)) vs1) :=
  mkN (pe_lc2 (te := tX X.K fe) (tt := tTst X.K ft) (g := tGt X.K ws g) (wi1 := tI X.K fi1) (tt1 := tTst X.K ft1) (g1 := tGt X.K ws1 g1) hc hN hi.pi ok hv (fun s H C cl fp => (hg s H C cl fp).pg) (fun s H C cl fp => (ht s H C cl fp).pts)
    (fun s H C cl fp => (hi1 s H C cl fp).pi) (fun s H C cl fp => (hg1 s H C cl fp).pg) (fun s H C cl fp => (ht1 s H C cl fp).pts) (fun s H C cl fp => (he s H C cl fp).pe) hs hs1) fun σ H Q ρ F d e h k => lc2_t e.wiOk hw hw1 e h k
/-- y = [e for ..] on one line -/
def setNew (i : Nat) (b : Bool) (d : D) (ρ : Env) : Env := ρ.set i (if b then .ow d else .fz d)
def sLcSet (i : Nat) (own : Bool) (f : Den) : DenS := fun ρ => (f ρ).bind fun d => some (.nx (setNew i own d ρ))
theorem frzNew {a : Addr} {o : HO} {d : D} (x : Ext F H F' H') (ha : F' a = none) (hn : H a = none) (ho : H' a = some o) (r : OwnRep K F' d o) : ∃ F2, Ext F H F2 H' ∧ Rp K F2 d (.ref a) := by
  have x' : Ext F H (upd F' a o) H' := ⟨x.f.trans (Sub.new ha), x.h, fun b u eb => by
      by_cases hb : b = a
      · subst hb; rw [upd_same] at eb; cases eb; exact ho
      · rw [upd_ne hb] at eb; exact x.le b u eb,
    fun b h1 h2 => by
      rw [upd_ne (fun z => h1 (by rw [z]; exact hn))]
      exact x.new b h1 h2⟩
  have s : Sub F' (upd F' a o) := Sub.new ha
  refine ⟨_, x', ?_⟩
  cases r with
  | lst t => exact .lst upd_same (t.mono s)
  | dK t => exact .dK (.inl upd_same) (t.mono s)
  | dT t => exact .dT (.inl upd_same) (t.mono s)
theorem sx_setLc (i : Nat) (b : Bool) {y : Str} {py : Pos} (hc : X.calm = true) (hN : X.N.Nodup) (hy : X.N[i]? = some y) (hyl : X.env.scope.names.lookup y = some .local)
    (hsw : swapsWith (.ListComp elt [⟨tg, iter, ifs, 0⟩] scope pos) (some (.Name y py)) spos.line X.env = pure true) (hi : EI X tg iter fi) (ok : BlkOk X.N X.env.scope scope own)
    (hg : InBlk X scope fun Y => EG Y tg ws g) (ht : InBlk X scope fun Y => ETs Y ifs ft) (he : InBlk X scope fun Y => EX Y elt fe) (hs : ∀ x, foldedSetIterable iter X.env x = pure x) (hw : ∀ j ∈ ws, j ∈ own.map (·.2)) :
    SX X (.Assign [.Name y py] (.ListComp elt [⟨tg, iter, ifs, 0⟩] scope pos) spos) (sLcSet i b (dLc fi g ft fe (own.map (·.2)))) :=
  sx_mk (ps_setLc (te := tX X.K fe) (tt := tTst X.K ft) (g := tGt X.K ws g) hc hN hy hyl hsw hi.pi ok (fun s H C cl fp => (hg s H C cl fp).pg) (fun s H C cl fp => (ht s H C cl fp).pts) (fun s H C cl fp => (he s H C cl fp).pe) hs) fun D σ H F0 H0 ρ F o e h k => by
    simp only [sLcSet, Option.bind_eq_some_iff, Option.some.injEq] at h
    obtain ⟨d, h1, rfl⟩ := h
    refine lc_t (Q := fun x H1 => gName i x σ H1 D.nx) e.env.wiOk hw e.env h1 fun a ob F' H' x h2 h3 h4 h5 => ?_
    cases b with
    | true => exact k _ F' H' (e.setOwn x h3 h2 h4 h5)
    | false =>
      obtain ⟨F2, x2, r2⟩ := frzNew x h2 h3 h4 h5
      exact k _ F2 H' ((e.to x2).set r2)
theorem sx_setLc2 (i : Nat) (b : Bool) {y : Str} {py : Pos} (hc : X.calm = true) (hN : X.N.Nodup) (hy : X.N[i]? = some y) (hyl : X.env.scope.names.lookup y = some .local)
    (hsw : swapsWith (.ListComp elt [⟨tg, iter, ifs, 0⟩, ⟨tg1, iter1, ifs1, 0⟩] scope pos) (some (.Name y py)) spos.line X.env = pure true) (hi : EI X tg iter fi) (ok : BlkOk X.N X.env.scope scope own) (hv : ∀ i ∈ vs1, i ∈ own.map (·.2))
    (hg : InBlk X scope fun Y => EG Y tg ws g) (ht : InBlk X scope fun Y => ETs Y ifs ft) (hi1 : InBlk X scope fun Y => EI Y tg1 iter1 fi1) (hg1 : InBlk X scope fun Y => EG Y tg1 ws1 g1) (ht1 : InBlk X scope fun Y => ETs Y ifs1 ft1)
    (he : InBlk X scope fun Y => EX Y elt fe) (hs : ∀ x, foldedSetIterable iter X.env x = pure x) (hs1 : ∀ env x, foldedSetIterable iter1 env x = pure x) (hw : ∀ j ∈ ws, j ∈ own.map (·.2)) (hw1 : ∀ j ∈ ws1, j ∈ vs1) :
    SX X (.Assign [.Name y py] (.ListComp elt [⟨tg, iter, ifs, 0⟩, ⟨tg1, iter1, ifs1, 0⟩] scope pos) spos) (sLcSet i b (dLc2 fi g ft fi1 g1 ft1 fe (own.map (·.2)) vs1)) :=
  sx_mk (ps_setLc2 (te := tX X.K fe) (tt := tTst X.K ft) (g := tGt X.K ws g) (wi1 := tI X.K fi1) (tt1 := tTst X.K ft1) (g1 := tGt X.K ws1 g1) hc hN hy hyl hsw hi.pi ok hv (fun s H C cl fp => (hg s H C cl fp).pg) (fun s H C cl fp => (ht s H C cl fp).pts)
    (fun s H C cl fp => (hi1 s H C cl fp).pi) (fun s H C cl fp => (hg1 s H C cl fp).pg) (fun s H C cl fp => (ht1 s H C cl fp).pts) (fun s H C cl fp => (he s H C cl fp).pe) hs hs1) fun D σ H F0 H0 ρ F o e h k => by
    simp only [sLcSet, Option.bind_eq_some_iff, Option.some.injEq] at h
    obtain ⟨d, h1, rfl⟩ := h
    refine lc2_t (Q := fun x H1 => gName i x σ H1 D.nx) e.env.wiOk hw hw1 e.env h1 fun a ob F' H' x h2 h3 h4 h5 => ?_
    cases b with
    | true => exact k _ F' H' (e.setOwn x h3 h2 h4 h5)
    | false =>
      obtain ⟨F2, x2, r2⟩ := frzNew x h2 h3 h4 h5
      exact k _ F2 H' ((e.to x2).set r2)
end
end
end Zx
/-! Zx9: calls, defs. -/
namespace Zx
open PySem PySem.Spec L2
def spX (K : PySem.W.Frag) (n : Nat) (fn : List D → Option D) : Sp := fun vs H Q _ => ∃ F ds d, Sub F H ∧ RpL K F ds vs ∧ ds.length = n ∧ fn ds = some d ∧ ∀ v F' H', Ext F H F' H' → Rp K F' d v → Q v H'
def spN (K : PySem.W.Frag) (n : Nat) (fn : List D → Option D) : Sp := fun vs H Q _ => ∃ F ds d, Sub F H ∧ RpL K F ds vs ∧ ds.length = n ∧ fn ds = some d ∧ ∀ a o F' H', Ext F H F' H' → F' a = none → H a = none → H' a = some o → OwnRep K F' d o → Q (.ref a) H'
/-- the def of the module's name x, n parameters, hands back what fn says -/
structure FX (P : Program) (w : World) (K : PySem.W.Frag) (mg : Str → Option Value) (base : Heap) (k : Nat) (x : Str) (n : Nat) (fn : List D → Option D) : Prop where
  ex : ∃ (f : Addr) (fd : FuncData) (ps : List Str), FnOk P w K mg base CX0 k f fd ps (spX K n fn) ∧ mg x = some (.ref f) ∧ PySem.W.keepIn K (.ref f) = true ∧ Binds K fd ps []
/-- .. a new list or dict -/
structure FN (P : Program) (w : World) (K : PySem.W.Frag) (mg : Str → Option Value) (base : Heap) (k : Nat) (x : Str) (n : Nat) (fn : List D → Option D) : Prop where
  ex : ∃ (f : Addr) (fd : FuncData) (ps : List Str), FnOk P w K mg base CX0 k f fd ps (spN K n fn) ∧ mg x = some (.ref f) ∧ PySem.W.keepIn K (.ref f) = true ∧ Binds K fd ps []
section
variable {X : Cx} {a : Expr} {es : List Expr} {fl : DenL} {pos p : Pos} {x : Str} {k n : Nat} {fn : List D → Option D}
theorem ex_call (F : FX X.prog X.w X.K X.mg X.base k x n fn) (hr : Room k X.A) (hg : Gl X x) (hdb : (x == ("__debug__" : Str)) = false) (ha : EA X (a :: es) fl) (hn : (a :: es).length = n)
    (he : starEach (a :: es) X.env = (false, eval a X.env) :: starEach es X.env) (hpl : (backTo pos (starEach es X.env)).any (·.1) = false) (hl : ∀ ρ ds, fl ρ = some ds → ds.length = n) : EX X (.Call (.Name x p) (a :: es) [] pos) (fun ρ => (fl ρ).bind fn) := by
  obtain ⟨f, fd, ps, hF, hm, hk, hb⟩ := F.ex
  exact mkX (pe_call hF hr hg hm hk hb .nil pass0 ha.pa hdb he hpl) fun σ H Q ρ F d e h k => by
    simp only [Option.bind_eq_some_iff] at h
    obtain ⟨ds, h1, h2⟩ := h
    refine ⟨ρ, F, ds, e, h1, fun vs F1 H1 x1 r1 => ?_⟩
    show spX X.K n fn (vs ++ []) H1 Q E0
    rw [List.append_nil]
    exact ⟨F1, ds, d, x1.le, r1, hl ρ ds h1, h2, fun v F' H' x' r' => k v F' H' (x1.trans x') r'⟩
theorem en_call (F : FN X.prog X.w X.K X.mg X.base k x n fn) (hr : Room k X.A) (hg : Gl X x) (hdb : (x == ("__debug__" : Str)) = false) (ha : EA X (a :: es) fl) (hn : (a :: es).length = n)
    (he : starEach (a :: es) X.env = (false, eval a X.env) :: starEach es X.env) (hpl : (backTo pos (starEach es X.env)).any (·.1) = false) (hl : ∀ ρ ds, fl ρ = some ds → ds.length = n) : EN X (.Call (.Name x p) (a :: es) [] pos) (fun ρ => (fl ρ).bind fn) := by
  obtain ⟨f, fd, ps, hF, hm, hk, hb⟩ := F.ex
  exact mkN (pe_call hF hr hg hm hk hb .nil pass0 ha.pa hdb he hpl) fun σ H Q ρ F d e h k => by
    simp only [Option.bind_eq_some_iff] at h
    obtain ⟨ds, h1, h2⟩ := h
    refine ⟨ρ, F, ds, e, h1, fun vs F1 H1 x1 r1 => ?_⟩
    show spN X.K n fn (vs ++ []) H1 Q E0
    rw [List.append_nil]
    exact ⟨F1, ds, d, x1.le, r1, hl ρ ds h1, h2, fun a o F' H' x' g1 g2 g3 g4 => k a o F' H' (x1.trans x') g1 (x1.h.free g2) g3 g4⟩
end
/-! ### defs -/
def env0 (n : Nat) (ds : List D) : Env := ds.map .fz ++ List.replicate (n - ds.length) .no
def runX (fb : DenS) (n : Nat) (ds : List D) : Option D := match fb (env0 n ds) with
  | some (.rt d) => some d
  | some (.rn d) => some d
  | some (.nx _) => some .none
  | _ => none
def runN (fb : DenS) (n : Nat) (ds : List D) : Option D := match fb (env0 n ds) with
  | some (.rn d) => some d
  | _ => none
theorem env0_ok {K : PySem.W.Frag} {F H : Hp} {N : List Str} {ds : List D} {vs : List V} (s : Sub F H) (r : RpL K F ds vs) : EnvOk K (env0 N.length ds) (L2.start N vs) F H := by
  have hl : vs.length = ds.length := r.length
  have ow : ∀ {i : Nat} {d : D}, (env0 N.length ds)[i]? = some (.ow d) → False := fun {i d} h => by
    unfold env0 at h
    rw [List.getElem?_append] at h
    split at h
    · rw [List.getElem?_map, Option.map_eq_some_iff] at h
      obtain ⟨_, _, h⟩ := h
      cases h
    · rw [List.getElem?_replicate] at h
      split at h <;> cases h
  refine ⟨s, by unfold env0 L2.start; simp [hl], fun i sl h => ?_, fun i j d e a h1 => (ow h1).elim⟩
  unfold env0 at h
  rw [List.getElem?_append] at h
  unfold L2.start
  split at h
  · rename_i hi
    rw [List.length_map] at hi
    rw [List.getElem?_map, Option.map_eq_some_iff] at h
    obtain ⟨d, hd, rfl⟩ := h
    obtain ⟨v, hv, rv⟩ := r.get hd
    refine ⟨some v, ?_, v, rfl, rv⟩
    rw [List.getElem?_append_left (by rw [List.length_map]; omega), List.getElem?_map, hv]
    rfl
  · rename_i hi
    rw [List.length_map] at hi h
    rw [List.getElem?_replicate] at h
    split at h
    · rename_i hj
      cases h
      refine ⟨none, ?_, trivial⟩
      rw [List.getElem?_append_right (by rw [List.length_map]; omega), List.length_map, List.getElem?_replicate, if_pos (by omega)]
    · cases h
theorem env0_ow {n : Nat} {ds : List D} {i : Nat} {d : D} (h : (env0 n ds)[i]? = some (.ow d)) : False := by
  unfold env0 at h
  rw [List.getElem?_append] at h
  split at h
  · rw [List.getElem?_map, Option.map_eq_some_iff] at h
    obtain ⟨_, _, h⟩ := h
    cases h
  · rw [List.getElem?_replicate] at h
    split at h <;> cases h
/-- a def's body read -/
structure Bd (P : Program) (w : World) (K : PySem.W.Frag) (mg : Str → Option Value) (base : Heap) (k : Nat) (N : List Str) (x : Str) (body : List Stmt) (scope : Scope) (f : Addr) (fb : DenS) : Prop where
  h : ∀ (cdv : Value) (A : Around) (outer : List PySem.Env) (s : Shared) (H : Hp) (E : XK), Room k (A.deeper (PyProof.Rows.envOfC x scope s.heap.objs.size f cdv)) → SXs (cxOf CX0 P w K mg base N x scope f cdv A outer s H E).nox body fb
section
variable {P : Program} {w : World} {K : PySem.W.Frag} {mg : Str → Option Value} {base : Heap} {k : Nat} {N ps : List Str} {x : Str} {params : Arguments} {body : List Stmt} {scope : Scope} {f : Addr} {fd : FuncData} {fb : DenS} {n : Nat}
theorem fo_of (F : FunD K x x params body scope [] [] f fd) (S : FnScope N ps scope) 
    (hb : ∀ (kV doc pm : Value) (an : Option Addr) (cdv ct : Value) (us : List Value), us.length = ps.length → bindArgs (PySem.W.fnOf x x params body scope .none kV doc pm an cdv ct) ⟨us, []⟩ = pure (ps.zip us))
    (hn : ps.length = n) (B : Bd P w K mg base k N x body scope f fb) : FnOk P w K mg base CX0 (k + 1) f fd ps (spX K n (runX fb N.length)) := by
  refine FunD.ok F S (fun vs H Q E h => ?_) fun cdv A outer s H vs Q E hr h => ⟨tSt K fb, (B.h cdv A outer s H E hr).pss.nox, ?_⟩
  · obtain ⟨F1, ds, d, _, r, hl, _⟩ := h
    rw [r.length, hl, hn]
  · obtain ⟨F1, ds, d, s1, r, hl, hd, k⟩ := h
    unfold runX at hd
    refine ⟨F1, H, env0 N.length ds, F1, ?_⟩
    have e : EnvS K F1 H (env0 N.length ds) (L2.start N vs) F1 H := ⟨env0_ok s1 r, .refl s1, fun i d a h1 => (env0_ow h1).elim⟩
    split at hd
    · rename_i d' hf
      cases hd
      exact ⟨_, e, hf, fun v F' H' x' r' => k v F' H' x' r'⟩
    · rename_i d' hf
      cases hd
      refine ⟨_, e, hf, fun a o F' H' x' g1 g2 g3 g4 => ?_⟩
      refine k (.ref a) (upd F' a o) H' ⟨x'.f.trans (Sub.new g1), x'.h, fun b u hb => ?_, fun b h1 h2 => ?_⟩ ?_
      · by_cases hba : b = a
        · subst hba; rw [upd_same] at hb; cases hb; exact g3
        · rw [upd_ne hba] at hb; exact x'.le b u hb
      · rw [upd_ne (fun z => h1 (by rw [z]; exact g2))]
        exact x'.new b h1 h2
      · have sF : Sub F' (upd F' a o) := Sub.new g1
        cases g4 with
        | lst t => exact .lst upd_same (t.mono sF)
        | dK t => exact .dK (.inl upd_same) (t.mono sF)
        | dT t => exact .dT (.inl upd_same) (t.mono sF)
    · rename_i ρ' hf
      cases hd
      exact ⟨_, e, hf, fun σ' F' H' e' => k .non F' H' e'.ext .non⟩
    · cases hd
theorem fx_of (F : FunD K x x params body scope [] [] f fd) (S : FnScope N ps scope) (hm : mg x = some (.ref f))
    (hb : ∀ (kV doc pm : Value) (an : Option Addr) (cdv ct : Value) (us : List Value), us.length = ps.length → bindArgs (PySem.W.fnOf x x params body scope .none kV doc pm an cdv ct) ⟨us, []⟩ = pure (ps.zip us))
    (hn : ps.length = n) (B : Bd P w K mg base k N x body scope f fb) : FX P w K mg base (k + 1) x n (runX fb N.length) := ⟨f, fd, ps, fo_of F S hb hn B, hm, F.kp, F.bindsN hb⟩
theorem fn_of' (F : FunD K x x params body scope [] [] f fd) (S : FnScope N ps scope) (hm : mg x = some (.ref f))
    (hb : ∀ (kV doc pm : Value) (an : Option Addr) (cdv ct : Value) (us : List Value), us.length = ps.length → bindArgs (PySem.W.fnOf x x params body scope .none kV doc pm an cdv ct) ⟨us, []⟩ = pure (ps.zip us))
    (hn : ps.length = n) (B : Bd P w K mg base k N x body scope f fb) : FN P w K mg base (k + 1) x n (runN fb N.length) := by
  refine ⟨f, fd, ps, FunD.ok F S (fun vs H Q E h => ?_) fun cdv A outer s H vs Q E hr h => ⟨tSt K fb, (B.h cdv A outer s H E hr).pss.nox, ?_⟩, hm, F.kp, F.bindsN hb⟩
  · obtain ⟨F1, ds, d, _, r, hl, _⟩ := h
    rw [r.length, hl, hn]
  · obtain ⟨F1, ds, d, s1, r, hl, hd, k⟩ := h
    unfold runN at hd
    refine ⟨F1, H, env0 N.length ds, F1, ?_⟩
    have e : EnvS K F1 H (env0 N.length ds) (L2.start N vs) F1 H := ⟨env0_ok s1 r, .refl s1, fun i d a h1 => (env0_ow h1).elim⟩
    split at hd
    · rename_i d' hf
      cases hd
      exact ⟨_, e, hf, fun a o F' H' x' g1 g2 g3 g4 => k a o F' H' x' g1 g2 g3 g4⟩
    · cases hd
end
theorem len1 {f1 : Den} : ∀ ρ ds, lCons f1 lNil ρ = some ds → ds.length = 1 := fun ρ ds h => by
  simp only [lCons, lNil, Option.bind_eq_some_iff, Option.some.injEq] at h
  obtain ⟨_, _, _, rfl, rfl⟩ := h
  rfl
theorem lenS {f1 : Den} {g : DenL} {n : Nat} (hg : ∀ ρ ds, g ρ = some ds → ds.length = n) : ∀ ρ ds, lCons f1 g ρ = some ds → ds.length = n + 1 := fun ρ ds h => by
  simp only [lCons, Option.bind_eq_some_iff, Option.some.injEq] at h
  obtain ⟨_, _, xs, h2, rfl⟩ := h
  rw [List.length_cons, hg ρ xs h2]
theorem len0 : ∀ ρ ds, lNil ρ = some ds → ds.length = 0 := fun ρ ds h => by
  cases h
  rfl
theorem FX.mono {P : Program} {w : World} {K : PySem.W.Frag} {mg : Str → Option Value} {base : Heap} {j k n : Nat} {x : Str} {fn : List D → Option D} (F : FX P w K mg base j x n fn) (h : j ≤ k) : FX P w K mg base k x n fn := by
  obtain ⟨f, fd, ps, a, b⟩ := F.ex
  exact ⟨f, fd, ps, a.mono h, b⟩
theorem FN.mono {P : Program} {w : World} {K : PySem.W.Frag} {mg : Str → Option Value} {base : Heap} {j k n : Nat} {x : Str} {fn : List D → Option D} (F : FN P w K mg base j x n fn) (h : j ≤ k) : FN P w K mg base k x n fn := by
  obtain ⟨f, fd, ps, a, b⟩ := F.ex
  exact ⟨f, fd, ps, a.mono h, b⟩
/-- what is known of a def's value at the arguments one needs -/
theorem FX.imp {P : Program} {w : World} {K : PySem.W.Frag} {mg : Str → Option Value} {base : Heap} {k n : Nat} {x : Str} {fn fn' : List D → Option D} (F : FX P w K mg base k x n fn) (h : ∀ ds d, fn' ds = some d → fn ds = some d) : FX P w K mg base k x n fn' := by
  obtain ⟨f, fd, ps, a, b⟩ := F.ex
  exact ⟨f, fd, ps, a.imp fun vs H Q E ⟨F1, ds, d, s, r, hl, hd, k⟩ => ⟨F1, ds, d, s, r, hl, h ds d hd, k⟩, b⟩
theorem Room.u1 {k : Nat} {A : Around} (r : Room k A) : A.units + 1 < cLine := by have := r.un; omega
theorem Room.u64 {k : Nat} {A : Around} (r : Room k A) : A.units + 64 < cLine := by have := r.un; omega
theorem Room.u65 {k : Nat} {A : Around} (r : Room k A) : A.units + 65 < cLine := by have := r.un; omega
end Zx
/-! Zx10: sorted, min, max of lists; list.index. -/
namespace Zx
open PySem PySem.Spec L2 PySem.W
/-- the sort's order -/
def leS (a b : D) : Bool := !dataLt b a
def isTup1 : D → Bool
  | .tuple (_ :: _) => true
  | _ => false
def noTup : D → Bool
  | .tuple _ => false
  | .none => false
  | _ => true
def srtOk (ds : List D) : Bool := (ds.all fun x => ds.all fun y => alike x y) && (ds.all isTup1 || ds.all noTup) && ds.all SeqAt.shaped && decide (ds.length ≤ 1000000)
theorem srt_parts {ds : List D} (h : srtOk ds = true) : AllAlike ds ∧ Sortable ds ∧ (∀ d ∈ ds, SeqAt.shaped d = true) ∧ ds.length ≤ 1000000 := by
  unfold srtOk at h
  rw [Bool.and_eq_true, Bool.and_eq_true, Bool.and_eq_true, Bool.or_eq_true] at h
  obtain ⟨⟨⟨h1, h2⟩, h3⟩, h4⟩ := h
  refine ⟨fun d hd d' hd' => ?_, ?_, fun d hd => List.all_eq_true.mp h3 d hd, of_decide_eq_true h4⟩
  · exact List.all_eq_true.mp (List.all_eq_true.mp h1 d hd) d' hd'
  · rcases h2 with h2 | h2
    · refine .inl fun d hd => ?_
      have := List.all_eq_true.mp h2 d hd
      unfold isTup1 at this
      split at this
      · exact ⟨_, _, rfl⟩
      · cases this
    · refine .inr fun d hd => ?_
      have := List.all_eq_true.mp h2 d hd
      refine ⟨?_, fun xs => ?_⟩ <;> rintro rfl <;> cases this
/-- data, its value in the layer, its value -/
abbrev Tri := D × V × Value
inductive Tris (K : PySem.W.Frag) (F : Hp) : List Tri → List D → List V → List Value → Prop
  | nil : Tris K F [] [] [] []
  | cons {d : D} {x : V} {u : Value} {ts : List Tri} {ds : List D} {xs : List V} {us : List Value} : Rp K F d x → RelV x u → Tris K F ts ds xs us → Tris K F ((d, x, u) :: ts) (d :: ds) (x :: xs) (u :: us)
theorem tris_of {K : PySem.W.Frag} {F : Hp} : ∀ {ds : List D} {xs : List V} {us : List Value}, RpL K F ds xs → Vals xs us → ∃ ts, Tris K F ts ds xs us
  | _, _, _, .nil, .nil => ⟨_, .nil⟩
  | _, _, _, .cons a b, .cons c e => by
    obtain ⟨ts, h⟩ := tris_of b e
    exact ⟨_, .cons a c h⟩
theorem Tris.maps {K : PySem.W.Frag} {F : Hp} : ∀ {ts : List Tri} {ds : List D} {xs : List V} {us : List Value}, Tris K F ts ds xs us → ts.map (·.1) = ds ∧ ts.map (·.2.1) = xs ∧ ts.map (·.2.2) = us ∧ ∀ t ∈ ts, Rp K F t.1 t.2.1 ∧ RelV t.2.1 t.2.2
  | _, _, _, _, .nil => ⟨rfl, rfl, rfl, fun _ h => by cases h⟩
  | _, _, _, _, .cons a b c => by
    obtain ⟨h1, h2, h3, h4⟩ := c.maps
    refine ⟨by rw [List.map_cons, h1], by rw [List.map_cons, h2], by rw [List.map_cons, h3], fun t ht => ?_⟩
    rcases List.mem_cons.mp ht with rfl | ht
    · exact ⟨a, b⟩
    · exact h4 t ht
theorem rpl_map {K : PySem.W.Frag} {F : Hp} : ∀ {ts : List Tri}, (∀ t ∈ ts, Rp K F t.1 t.2.1 ∧ RelV t.2.1 t.2.2) → RpL K F (ts.map (·.1)) (ts.map (·.2.1)) ∧ Vals (ts.map (·.2.1)) (ts.map (·.2.2))
  | [], _ => ⟨.nil, .nil⟩
  | t :: ts, h => by
    obtain ⟨a, b⟩ := rpl_map (ts := ts) fun t ht => h t (List.mem_cons_of_mem _ ht)
    obtain ⟨c, d⟩ := h t List.mem_cons_self
    exact ⟨.cons c a, .cons d b⟩
theorem each_fn {α β : Type} {f : β → α} : ∀ {as : List α} {bs : List β}, EachIs (fun a b => a = f b) as bs → as = bs.map f
  | _, _, .nil => rfl
  | _, _, .cons r t => by rw [List.map_cons, ← r, ← each_fn t]
theorem fn_each {α β : Type} {f : β → α} : ∀ {bs : List β}, EachIs (fun a b => a = f b) (bs.map f) bs
  | [] => .nil
  | b :: bs => .cons rfl fn_each
theorem each_mapR {α β : Type} {R : α → β → Prop} {f : β → α} : ∀ {bs : List β}, (∀ b ∈ bs, R (f b) b) → EachIs R (bs.map f) bs
  | [], _ => .nil
  | b :: bs, h => .cons (h b List.mem_cons_self) (each_mapR fun b hb => h b (List.mem_cons_of_mem _ hb))
theorem tri_sort (ts : List Tri) : (ts.mergeSort (dataLe false fun t : Tri => t.1)).map (·.1) = (ts.map (·.1)).mergeSort leS :=
  List.map_mergeSort fun a _ b _ => by
    rw [dataLe_eq]
    rfl
def rSortedD (K : PySem.W.Frag) : List V → Hp → VK → Prop := fun vs H Q => ∃ (a : Addr) (F : Hp) (ds : List D) (xs : List V), vs = [V.ref a] ∧ H a = some (.lst xs) ∧ RpL K F ds xs ∧ Sub F H ∧ srtOk ds = true ∧
  ∀ p ys, H p = none → RpL K F (ds.mergeSort leS) ys → Q (.ref p) (upd H p (.lst ys))
section
variable {X : Cx} {a b : Expr} {f g : Den} {p pos : Pos}
theorem cr_sortedD (hu : X.A.units + 68 < cLine) : CallR X (.builtin "sorted") (rSortedD X.K) := by
  intro pins s σ H vs us Q I r h
  obtain ⟨l, F, ds, xs, rfl, hs, rp, sb, ok, q⟩ := h
  obtain ⟨its, rv, hl, hz⟩ := I.list (.inl (.inl hs))
  rw [Vals.ref1 r]
  obtain ⟨h1, h2, h3, h4⟩ := srt_parts ok
  obtain ⟨ts, ht⟩ := tris_of rp rv
  obtain ⟨m1, m2, m3, m4⟩ := ht.maps
  subst m3
  have hreads : ∀ t ∈ ts, ∃ as, Reads s.heap t.2.2 t.1 as := fun t ht => by
    have hd : t.1 ∈ ds := by rw [← m1]; exact List.mem_map_of_mem ht
    exact Dp.reads I t.1 t.2.1 t.2.2 ((m4 t ht).1.dp sb t.1 t.2.1 (plain_of_shaped (h3 t.1 hd))) (m4 t ht).2
  refine sorted_data (β := Tri) (enc := fun t => t.1) (R := fun v t => v = t.2.2) (bs := ts) hl.isList fn_each (each_mapR hreads) (by rw [m1]; exact h1) (by rw [m1]; exact h2) ?_ (fun t ht => ?_) fun out hlo he => ?_
  · have : ts.length = ds.length := by rw [← m1, List.length_map]
    have := line_of (n := ts.length) (by omega)
    exact this
  · have hd : t.1 ∈ ds := by rw [← m1]; exact List.mem_map_of_mem ht
    have := SeqAt.depth_of_shaped (h3 _ hd)
    omega
  · obtain ⟨ep, he'⟩ := PyProof.Rows.sortedAll_at s.heap (ts.map (·.2.2)) out.toArray
    have e2 := each_fn he
    have hm : ∀ t ∈ ts.mergeSort (dataLe false fun t : Tri => t.1), Rp X.K F t.1 t.2.1 ∧ RelV t.2.1 t.2.2 := fun t ht => m4 t ((List.mergeSort_perm ts _).mem_iff.mp ht)
    obtain ⟨r1, r2⟩ := rpl_map hm
    rw [tri_sort, m1] at r1
    rw [← e2] at r2
    refine ⟨.ref _, upd H (s.heap.objs.size + 1) (.lst ((ts.mergeSort (dataLe false fun t : Tri => t.1)).map (·.2.1))), I.laid (t' := s.toks) (fun _ _ => PyProof.Rows.sortedAll_old) (Nat.le_succ _) ⟨?_, out, ep, r2, he'⟩, rfl, q _ _ (I.hok.fresh (Nat.le_succ _)) r1⟩
    rw [List.length_map, List.length_mergeSort]
    have : ts.length = ds.length := by rw [← m1, List.length_map]
    exact line_of (by omega)
def sortD : D → Option D | .list ds => if srtOk ds then some (.list (ds.mergeSort leS)) else none | _ => none
theorem en_sorted (hu : X.A.units + 68 < cLine) (hg : Gl X "sorted") (hm : X.mg "sorted" = none) (ha : EB X a f) (hs : N1 X a) : EN X (.Call (.Name "sorted" p) [a] [] pos) (d1 sortD f) :=
  en_c1 (pe_callB (cr_sortedD hu) hg hm rfl (pa_cons ha.pe pa_nil hs) (by decide) (by decide) hs rfl) fun x u d F H Q e s ru k => by
    unfold sortD at e
    split at e
    · split at e
      · rename_i ds ok
        cases e
        obtain ⟨q, xs, rfl, hq, rq⟩ := ru.list s
        exact ⟨q, F, ds, xs, rfl, hq, rq, s, ok, fun p' ys hp r' => k p' _ hp (.lst r')⟩
      · cases e
    · cases e
/-! ### min, max of a list of ints -/
def minL : List Int → Option Int
  | [] => none
  | i :: is => some (is.foldl min i)
def maxL : List Int → Option Int
  | [] => none
  | i :: is => some (is.foldl max i)
theorem foldl_min : ∀ (l : List Int) (i m : Int), (m = i ∨ m ∈ l) → m ≤ i → (∀ x ∈ l, m ≤ x) → l.foldl min i = m
  | [], i, m, h, _, _ => by
    rcases h with h | h
    · exact h.symm
    · cases h
  | x :: l, i, m, h, h1, h2 => by
    rw [List.foldl_cons]
    have hx := h2 x List.mem_cons_self
    refine foldl_min l _ m ?_ (by omega) fun y hy => h2 y (List.mem_cons_of_mem _ hy)
    rcases h with h | h
    · left; omega
    · rcases List.mem_cons.mp h with h | h
      · left; omega
      · exact .inr h
theorem foldl_max : ∀ (l : List Int) (i m : Int), (m = i ∨ m ∈ l) → i ≤ m → (∀ x ∈ l, x ≤ m) → l.foldl max i = m
  | [], i, m, h, _, _ => by
    rcases h with h | h
    · exact h.symm
    · cases h
  | x :: l, i, m, h, h1, h2 => by
    rw [List.foldl_cons]
    have hx := h2 x List.mem_cons_self
    refine foldl_max l _ m ?_ (by omega) fun y hy => h2 y (List.mem_cons_of_mem _ hy)
    rcases h with h | h
    · left; omega
    · rcases List.mem_cons.mp h with h | h
      · left; omega
      · exact .inr h
def minLD : D → Option D | .list xs => (intsOf xs).bind fun is => (minL is).bind fun m => some (.int m) | _ => none
def maxLD : D → Option D | .list xs => (intsOf xs).bind fun is => (maxL is).bind fun m => some (.int m) | _ => none
theorem ex_minL (hc : X.calm = true) (hg : Gl X "min") (hm : X.mg "min" = none) (ha : EB X a f) (hs : N1 X a) : EX X (.Call (.Name "min" p) [a] [] pos) (d1 minLD f) :=
  ex_c1 (pe_callB (cr_min hc) hg hm rfl (pa_cons ha.pe pa_nil hs) (by decide) (by decide) hs rfl) fun x u d F H Q e s ru k => by
    unfold minLD at e
    split at e
    · rename_i ds
      simp only [Option.bind_eq_some_iff, Option.some.injEq] at e
      obtain ⟨is, h1, m, h2, rfl⟩ := e
      obtain ⟨q, xs, rfl, hq, rq⟩ := ru.list s
      have e1 := intsOf_eq h1
      subst e1
      have e2 := rq.ints_inv
      subst e2
      cases is with
      | nil => cases h2
      | cons i is =>
        cases h2
        refine ⟨q, i :: is, rfl, .inl (.inl hq), Nat.succ_pos _, fun m h1 h2 => ?_⟩
        rw [foldl_min is i m (List.mem_cons.mp h1) (h2 i List.mem_cons_self) fun x hx => h2 x (List.mem_cons_of_mem _ hx)] at k
        exact k _ F H (.refl s) (.int _)
    · cases e
theorem ex_maxL (hc : X.calm = true) (hg : Gl X "max") (hm : X.mg "max" = none) (ha : EB X a f) (hs : N1 X a) : EX X (.Call (.Name "max" p) [a] [] pos) (d1 maxLD f) :=
  ex_c1 (pe_callB (cr_max hc) hg hm rfl (pa_cons ha.pe pa_nil hs) (by decide) (by decide) hs rfl) fun x u d F H Q e s ru k => by
    unfold maxLD at e
    split at e
    · rename_i ds
      simp only [Option.bind_eq_some_iff, Option.some.injEq] at e
      obtain ⟨is, h1, m, h2, rfl⟩ := e
      obtain ⟨q, xs, rfl, hq, rq⟩ := ru.list s
      have e1 := intsOf_eq h1
      subst e1
      have e2 := rq.ints_inv
      subst e2
      cases is with
      | nil => cases h2
      | cons i is =>
        cases h2
        refine ⟨q, i :: is, rfl, .inl (.inl hq), Nat.succ_pos _, fun m h1 h2 => ?_⟩
        rw [foldl_max is i m (List.mem_cons.mp h1) (h2 i List.mem_cons_self) fun x hx => h2 x (List.mem_cons_of_mem _ hx)] at k
        exact k _ F H (.refl s) (.int _)
    · cases e
/-! ### index -/
def indexL (d : D) : List D → Option Nat
  | [] => none
  | x :: xs => if PyData.eqv x d then some 0 else (indexL d xs).map (· + 1)
def indexD : D → D → Option D
  | .list xs, d => if SeqAt.shaped (.list xs) && SeqAt.shaped d then (indexL d xs).bind fun i => some (.int (i : Nat)) else none
  | _, _ => none
theorem indexL_at : ∀ {xs : List D} {d : D} {i : Nat}, indexL d xs = some i → ∃ z, xs[i]? = some z ∧ PyData.eqv z d = true ∧ ∀ m z', m < i → xs[m]? = some z' → PyData.eqv z' d = false
  | [], _, _, h => by cases h
  | x :: xs, d, i, h => by
    unfold indexL at h
    split at h
    · rename_i hx
      cases h
      exact ⟨x, rfl, hx, fun m z' hm => absurd hm (Nat.not_lt_zero _)⟩
    · rename_i hx
      rw [Option.map_eq_some_iff] at h
      obtain ⟨j, h1, rfl⟩ := h
      obtain ⟨z, h2, h3, h4⟩ := indexL_at h1
      refine ⟨z, by simpa using h2, h3, fun m z' hm hz => ?_⟩
      cases m with
      | zero =>
        simp at hz
        subst hz
        simpa using hx
      | succ m => exact h4 m z' (by omega) (by simpa using hz)
theorem ex_index {apos cpos : Pos} (hu : X.A.units + 65 < cLine) (ha : EB X a f) (hb : EX X b g) (hs : N1 X b) (hbase : attributeBase a "index" X.env (eval a X.env) = eval a X.env) (hline : (apos.endLine == cpos.line) = true) :
    EX X (.Call (.Attribute a "index" apos) [b] [] cpos) (d2 indexD f g) :=
  mkX (pe_bm PySem.F.plainAttrs_list PySem.F.slot_list_index PySem.F.type_list_index (mt_indexD hu) ha.pe (pa_cons hb.b.pe pa_nil hs) hbase (by rw [hs]; rfl) hline hs rfl) fun σ H Q ρ F d e h k => by
    simp only [d2, Option.bind_eq_some_iff] at h
    obtain ⟨x, h1, y, h2, h3⟩ := h
    unfold indexD at h3
    split at h3
    · rename_i ds
      split at h3
      · rename_i hsh
        rw [Bool.and_eq_true] at hsh
        obtain ⟨s1, s2⟩ := hsh
        simp only [Option.bind_eq_some_iff, Option.some.injEq] at h3
        obtain ⟨j, h4, rfl⟩ := h3
        obtain ⟨z, z1, z2, z3⟩ := indexL_at h4
        refine ⟨ρ, F, .list ds, e, h1, fun u F1 H1 x1 r1 => ?_⟩
        obtain ⟨q, xs, rfl, hq, rq⟩ := r1.list x1.le
        refine ⟨.inl ⟨rfl, xs, .inl (.inl hq)⟩, ρ, F1, y, e.ext x1, h2, fun w F2 H2 x2 r2 => ?_⟩
        exact ⟨q, w, y, ds, j, z, rfl, rfl, (r1.ext x2).dp x2.le (plain_of_shaped s1), r2.dp x2.le (plain_of_shaped s2), s1, s2, z1, z2, z3, k _ F2 H2 (x1.trans x2) (.int _)⟩
      · cases h3
    · cases h3
end
end Zx
/-! Zx11: set(list of ints), sorted(set(..)). -/
namespace Zx
open PySem PySem.Spec L2 PyProof.Rows
section
variable {P : Program} {w : World} {A : Around} {E : Value → Shared → Prop} {s : Shared}
abbrev obS (w : World) : Obj := { cls := .type "set", dict := none, data := .set #[] 0 (.fresh 0 0 (!w.params.followText "set-order")) }
theorem setR_list {la : Addr} {its : Array Value} (ks : List Int) {Q : Value → Shared → Prop} (hA : A.handled = none) (hL : s.heap.IsList la its) (hI : IntsAre its.toList ks) (hz : ks.length + 1 < scanBound)
    (fin : ∀ (g : Heap) (tk c : Nat), SetR w g s.heap.objs.size (fun j => decide (j ∈ ks)) c → c ≤ ks.length → (∀ b o, s.heap.get? b = some o → g.get? b = some o) → Q (.ref s.heap.objs.size) { s with heap := g, toks := tk }) :
    wpAny (model P w) A (call (.type "set") [.ref la]) Q E s := by
  have hsz : its.size = ks.length := by have z := IntsAre.length hI; rw [Array.length_toList] at z; exact z
  obtain ⟨c0, t0, hmro⟩ := F.called_set.mro
  have q1 := F.called_set.made; have q2 := F.called_set.sub
  refine wpAny_call (codeAny_of_tree ?_); show wpAny _ _ (callAny (.type "set") _) _ _ _
  refine wpAny_pure ⟨PySem.Code.quiet_builtin _ (by decide +kernel), codeAny_builtin F.entry_type_call ?_⟩
  rw [Around.under_plain (weight_type_call_type "set" [.ref la] []) rfl]
  have q3 := F.called_set.notType; have q4 := F.called_set.canCreate; have q5 := F.typeCall_set_1 (.ref la)
  repeat (any_goals (first | assumption | wp_step))

  refine codeAny_mono (code_set_led1 (.ref la) (E := E) (Q₁ := fun ob s1 => ob = .ref s.heap.objs.size ∧ s1 = { s with heap := s.heap.push (obS w) }) ⟨rfl, rfl⟩) fun rr s1 hrr => ?_
  cases rr with
  | error e => exact hrr
  | ok fl =>
    cases fl with
    | ret ob =>
      obtain ⟨rfl, rfl⟩ := hrr
      have g0 : (s.heap.push (obS w)).get? s.heap.objs.size = some (obS w) := Heap.get?_push_size _ rfl
      have g1 : Shared.TypeIs { s with heap := s.heap.push (obS w) } (.ref s.heap.objs.size) "set" := ⟨_, g0, rfl⟩
      have q6 := F.called_set.init.lookup; have q7 := F.called_set.init.bind (.ref s.heap.objs.size)
      repeat (any_goals (first | assumption | wp_step))

      refine codeAny_mono (codeAny_call_builtin (R := wants (fun r s₂ => r = .none ∧ ∃ g tk c, s₂ = { s with heap := g, toks := tk } ∧ SetR w g s.heap.objs.size (fun j => decide (j ∈ ks)) c ∧ c ≤ ks.length ∧
          ∀ b o, s.heap.get? b = some o → g.get? b = some o) E) F.called_set.init.plain F.entry_set_init (check_set_init_1 g1 ?_)) fun r2 s2 hr2 => ?_
      · obtain ⟨⟨oc, od, oda, osl⟩, hol, hcl, nl, hdl⟩ := hL
        simp only at hcl hdl
        subst hcl; subst hdl
        have g2 : (s.heap.push (obS w)).get? la = some { cls := .type "list", dict := od, data := .seq its nl, slots := osl } := Heap.get?_push_of_some _ hol
        have q8 := F.sub_list_set; have q9 := F.sub_list_frozenset
        have q10 : (Value.type "list" == Value.type "dict") = false := by decide
        have hl1 : (s.heap.push (obS w)).IsList la its := ⟨_, g2, rfl, nl, rfl⟩
        unfold Builtin.«set.__init__» noKeywords Builtin.Frozenset.updateFrom
        generalize hPI : pyIter = PI; wp_walk; subst hPI
        refine wpAny_pyIter_list hl1 ?_; refine wpAny_bind (wpAny_runValue ?_)
        have la_lt : la < s.heap.objs.size := Heap.lt_size hol
        have hz1 : (s.heap.push (obS w)).objs.size = s.heap.objs.size + 1 := Heap.size_push ..
        have hneI : la ≠ (s.heap.push (obS w)).objs.size := by
          rw [hz1]; exact fun z => Nat.lt_irrefl _ (Nat.lt_of_lt_of_le la_lt (Nat.le_trans (Nat.le_succ _) (Nat.le_of_eq z.symm)))
        have hSf : s.heap.objs.size ∉ [(s.heap.push (obS w)).objs.size, la] := by
          rw [hz1]
          intro hm
          rcases List.mem_cons.mp hm with z | z
          · exact absurd z (Nat.ne_of_lt (Nat.lt_succ_self _))
          · exact absurd (List.mem_singleton.mp z).symm (Nat.ne_of_lt la_lt)
        have hv : ∀ (i : Nat) (v : Value), its[i]? = some v → ∃ k t, ks[i]? = some k ∧ v = .int k t := fun i v hv => by
          have hi : i < ks.length := by rw [← hsz]; exact (Array.getElem?_eq_some_iff.mp hv).1
          obtain ⟨t, e⟩ := IntsAre.int_at hI i v (by rw [Array.getElem?_toList]; exact hv)
          refine ⟨ks[i], t, List.getElem?_eq_getElem hi, ?_⟩
          rw [e, List.getD_eq_getElem?_getD, List.getElem?_eq_getElem hi]; rfl
        have hA3 : A.in1.in1.in1.handled = none := by simp [hA]
        refine set_update_ints ((Walks.list hA3 _ la hneI its).toS) _ hSf ks hsz hz hv (its.size - 0) 0 _ (by omega) (Nat.zero_le _) ⟨⟨_, Heap.get?_push_size _ rfl, rfl, rfl⟩, (hl1.push _)⟩ ?hS0 ?hR
        case hS0 => exact ⟨0, Nat.le_refl 0, setR_new_at (Heap.get?_push_of_some _ g0)⟩
        case hR =>
          intro s' c' hm hc' hS'
          obtain ⟨h3, g3, d3, tk3, os3⟩ := s'
          have e1 : g3 = s.gens := hm.gens
          have e2 : d3 = s.drawn := hm.drawn
          have e3 : os3 = s.os := hm.os
          subst e1 e2 e3
          show wpAny _ _ _ _ _ _
          refine wpAny_pure ?_
          show wpAny _ _ (ret Value.none) _ _ _
          refine wpAny_pure ⟨rfl, h3, tk3, c', rfl, hS', by omega, fun b o e => ?_⟩
          have b0 : b < s.heap.objs.size := Heap.lt_size e
          refine hm.heap b o ?_ (Heap.get?_push_of_some _ (Heap.get?_push_of_some _ e))
          rw [hz1]
          intro hm
          rcases List.mem_cons.mp hm with z | hm
          · exact absurd z (Nat.ne_of_lt b0)
          · exact absurd (List.mem_singleton.mp hm) (Nat.ne_of_lt (Nat.lt_succ_of_lt b0))
      · cases r2 with
        | error e => exact hr2
        | ok fl =>
          cases fl with
          | ret v =>
            obtain ⟨rfl, g, tk, c, rfl, k1, k2, k3⟩ := hr2
            repeat (any_goals (first | assumption | wp_step))
            exact fin _ _ _ k1 k2 k3
          | _ => exact hr2.elim
    | _ => exact hrr.elim
end
/-! ### strictly rising lists of ints -/
def sIns (k : Int) : List Int → List Int
  | [] => [k]
  | x :: xs => if k < x then k :: x :: xs else if k = x then x :: xs else x :: sIns k xs
def setSort : List Int → List Int
  | [] => []
  | k :: ks => sIns k (setSort ks)
theorem sIns_mem {k j : Int} : ∀ {xs : List Int}, j ∈ sIns k xs ↔ j = k ∨ j ∈ xs
  | [] => by simp [sIns]
  | x :: xs => by
    unfold sIns
    split
    · simp
    · split
      · rename_i h
        subst h
        simp
      · rw [List.mem_cons, sIns_mem (xs := xs), List.mem_cons]
        constructor
        · rintro (h | h | h)
          · exact .inr (.inl h)
          · exact .inl h
          · exact .inr (.inr h)
        · rintro (h | h | h)
          · exact .inr (.inl h)
          · exact .inl h
          · exact .inr (.inr h)
theorem sIns_lt {k : Int} : ∀ {xs : List Int}, xs.Pairwise (· < ·) → (sIns k xs).Pairwise (· < ·)
  | [], _ => by simp [sIns]
  | x :: xs, h => by
    obtain ⟨h1, h2⟩ := List.pairwise_cons.mp h
    unfold sIns
    split
    · rename_i hk
      refine List.pairwise_cons.mpr ⟨fun y hy => ?_, h⟩
      rcases List.mem_cons.mp hy with rfl | hy
      · exact hk
      · have := h1 y hy; omega
    · split
      · exact h
      · rename_i hk hk2
        refine List.pairwise_cons.mpr ⟨fun y hy => ?_, sIns_lt h2⟩
        rcases sIns_mem.mp hy with rfl | hy
        · omega
        · exact h1 y hy
theorem setSort_lt : ∀ (ks : List Int), (setSort ks).Pairwise (· < ·)
  | [] => .nil
  | _ :: ks => sIns_lt (setSort_lt ks)
theorem setSort_mem {j : Int} : ∀ {ks : List Int}, j ∈ setSort ks ↔ j ∈ ks
  | [] => Iff.rfl
  | k :: ks => by
    show j ∈ sIns k (setSort ks) ↔ _
    rw [sIns_mem, setSort_mem, List.mem_cons]
theorem rising_ext : ∀ {as bs : List Int}, as.Pairwise (· < ·) → bs.Pairwise (· < ·) → (∀ k, k ∈ as ↔ k ∈ bs) → as = bs
  | [], [], _, _, _ => rfl
  | [], b :: bs, _, _, h => by have := (h b).mpr List.mem_cons_self; cases this
  | a :: as, [], _, _, h => by have := (h a).mp List.mem_cons_self; cases this
  | a :: as, b :: bs, ha, hb, h => by
    obtain ⟨a1, a2⟩ := List.pairwise_cons.mp ha
    obtain ⟨b1, b2⟩ := List.pairwise_cons.mp hb
    have e : a = b := by
      rcases List.mem_cons.mp ((h a).mp List.mem_cons_self) with e | e
      · exact e
      · rcases List.mem_cons.mp ((h b).mpr List.mem_cons_self) with e' | e'
        · exact e'.symm
        · have := a1 b e'; have := b1 a e; omega
    subst e
    rw [rising_ext a2 b2 fun k => ?_]
    have := h k
    constructor
    · intro hk
      rcases List.mem_cons.mp (this.mp (List.mem_cons_of_mem _ hk)) with rfl | h'
      · have := a1 k hk; omega
      · exact h'
    · intro hk
      rcases List.mem_cons.mp (this.mpr (List.mem_cons_of_mem _ hk)) with rfl | h'
      · have := b1 k hk; omega
      · exact h'
/-! ### the rules -/
section
variable {X : Cx} {a : Expr} {f : Den} {p p2 pos pos2 : Pos}
def rSetLI (K : PySem.W.Frag) (w : World) : List V → Hp → VK → Prop := fun vs H Q => ∃ (q : Addr) (ks : List Int), vs = [V.ref q] ∧ SqL K H q (ks.map V.int) ∧ ks.length < 64 ∧
  ∀ r S n, (∀ k, S k = true ↔ k ∈ ks) → n ≤ ks.length → H r = none → Q (.ref r) (upd H r (SetO w r S n))
theorem cr_setLI (hc : X.calm = true) : CallR X (.type "set") (rSetLI X.K X.w) := by
  intro pins s σ H vs us Q I r h
  obtain ⟨q, ks, rfl, hs, hl, k⟩ := h
  obtain ⟨its, rv, hL, hz⟩ := I.list hs
  rw [Vals.ref1 r]
  refine setR_list ks (I.ok.hd hc) hL.isList (by simpa using rv.ints) (by unfold scanBound; omega) fun g tk c R hcn up => ?_
  exact ⟨.ref _, upd H s.heap.objs.size (SetO X.w s.heap.objs.size (fun j => decide (j ∈ ks)) c), I.laid (t' := tk) up (Nat.le_refl _) (setO_new R), rfl, k _ _ _ (fun j => by simp) hcn (I.hok.fresh (Nat.le_refl _))⟩
def ssD : D → Option D | .list xs => (intsOf xs).bind fun is => if is.length < 64 then some (.list ((setSort is).map .int)) else none | _ => none
theorem en_sortedSet (hc : X.calm = true) (hg : Gl X "sorted") (hm : X.mg "sorted" = none) (hg2 : Gl X "set") (hm2 : X.mg "set" = none) (ha : EB X a f) (hs : N1 X a) (hs2 : N1 X (.Call (.Name "set" p2) [a] [] pos2)) :
    EN X (.Call (.Name "sorted" p) [.Call (.Name "set" p2) [a] [] pos2] [] pos) (d1 ssD f) :=
  mkN (pe_callB (cr_sortedSet hc) hg hm rfl (pa_cons (pe_callTy (cr_setLI hc) hg2 hm2 rfl (pa_cons ha.pe pa_nil hs) (by decide) (by decide) hs rfl) pa_nil hs2) (by decide) (by decide) hs2 rfl) fun σ H Q ρ F d e h k => by
    simp only [d1, Option.bind_eq_some_iff] at h
    obtain ⟨x, h1, h2⟩ := h
    unfold ssD at h2
    split at h2
    · rename_i ds
      simp only [Option.bind_eq_some_iff] at h2
      obtain ⟨is, h2, h3⟩ := h2
      split at h3
      · rename_i hl
        cases h3
        have e1 := intsOf_eq h2
        subst e1
        refine ⟨ρ, F, .list (is.map .int), e, h1, fun u F1 H1 x1 r1 => ?_⟩
        obtain ⟨q, xs, rfl, hq, rq⟩ := r1.list x1.le
        have e2 := rq.ints_inv
        subst e2
        refine ⟨q, is, rfl, .inl (.inl hq), hl, fun r S n hS hn hr => ?_⟩
        refine ⟨r, S, n, rfl, upd_same, by omega, fun ns p' h1 h2 h3 hp => ?_⟩
        have e3 : ns = setSort is := rising_ext h1 (setSort_lt is) fun k => by rw [h2, hS, setSort_mem]
        subst e3
        have x2 : Ext F H F1 (upd H1 r (SetO X.w r S n)) := x1.trans (.own x1.le hr)
        have x3 := x2.trans (.own (o := .lst ((setSort is).map V.int)) x2.le hp)
        exact k p' _ F1 _ x3 (x2.le.free hp) (x2.h.free hp) upd_same (.lst (.ints _))
      · cases h3
    · cases h2
end
end Zx
/-! Zx12: sorted(d.items()). -/
namespace Zx
open PySem PySem.Spec L2 PyProof.Rows
section
variable {X : Cx} {pins : List (Addr × Obj)} {σ : L2.St} {H : Hp} {s : Shared}
/-- many new objects laid at once -/
theorem lay_many (I : Inv X pins σ H s) {H2 : Hp} {h2 : Heap} {tk : Nat} (hk : ∀ b o, s.heap.get? b = some o → h2.get? b = some o) (kp : ∀ b u, H b = some u → H2 b = some u)
    (nw : ∀ b u, H2 b = some u → H b = none → s.heap.objs.size ≤ b ∧ ObjOk X.prog X.w H2 h2 b u) : Inv X pins σ H2 { s with heap := h2, toks := tk } := by
  have un : Un (frs X.stack) [] H H2 s.heap h2 := {
    keep := fun b o q _ _ _ => hk b o q
    slot := fun b o q _ _ _ => ⟨o.slots, hk b o q⟩
    free := fun b o q n _ => by
      cases e : H2 b with
      | none => rfl
      | some u => exact absurd (Heap.lt_size q) (Nat.not_lt.mpr (nw b u e n).1)
    there := fun b o q _ => ⟨o, hk b o q⟩
    tups := fun b xs q => kp b _ q
    frzs := fun b o u q => kp b _ q
    tbls := fun b ps q => ⟨#[], by rw [kp b _ q]; simp⟩ }
  refine I.call' (ch := []) rfl un (fun b u q => ?_) I.bare fun b z => by simp at z
  cases e : H b with
  | none => exact (nw b u q e).2
  | some u' =>
    rw [kp b u' e] at q
    cases q
    exact (I.hok b u e).stay (fun d v _ y => hk d v y) (fun d y => kp d _ y) fun d xs y => kp d _ y
theorem dk_obj (I : Inv X pins σ H s) {d : Addr} {kvs : List (Key × V)} (h : Rd H d (.dK kvs)) : kvs.length ≤ sizeLine ∧ (d == sysModules) = false ∧ ∃ vs, KV kvs vs ∧ s.heap.DictOf (mixKind X.prog X.w) d vs := by
  rcases h with h | ⟨o, h⟩
  · exact I.hok d _ h
  · exact (I.hok d _ h).2
end
/-- the pairs of a dict -/
def itL (kds : List (D × D)) : List D := kds.map fun p => .tuple [p.1, p.2]
/-- the pairs laid as tuples -/
def putP : Hp → List Addr → List (Key × V) → Hp
  | H, a :: as, p :: kvs => upd (putP H as kvs) a (.tup [kV p.1, p.2])
  | H, _, _ => H
theorem putP_off {b : Addr} : ∀ (as : List Addr) (kvs : List (Key × V)) (H : Hp), b ∉ as → putP H as kvs b = H b
  | [], _, _, _ => rfl
  | _ :: _, [], _, _ => rfl
  | a :: as, p :: kvs, H, h => by
    show upd (putP H as kvs) a _ b = H b
    rw [upd_ne (fun z => h (by rw [z]; exact List.mem_cons_self)), putP_off as kvs H fun z => h (List.mem_cons_of_mem _ z)]
theorem putP_in {b : Addr} {u : HO} : ∀ (as : List Addr) (kvs : List (Key × V)) (H : Hp), putP H as kvs b = some u → H b = none → b ∈ as
  | [], _, H, h, hn => by
    have h : H b = some u := h
    rw [hn] at h
    cases h
  | _ :: _, [], H, h, hn => by
    have h : H b = some u := h
    rw [hn] at h
    cases h
  | a :: as, p :: kvs, H, h, hn => by
    by_cases hb : b = a
    · rw [hb]; exact List.mem_cons_self
    · have h : upd (putP H as kvs) a (.tup [kV p.1, p.2]) b = some u := h
      rw [upd_ne hb] at h
      exact List.mem_cons_of_mem _ (putP_in as kvs H h hn)
theorem putP_at : ∀ (as : List Addr) (kvs : List (Key × V)) (H : Hp) (j : Nat) (a : Addr) (p : Key × V), as.Nodup → as[j]? = some a → kvs[j]? = some p → putP H as kvs a = some (.tup [kV p.1, p.2])
  | [], _, _, _, _, _, _, h, _ => by simp at h
  | _ :: _, [], _, _, _, _, _, _, h => by simp at h
  | b :: as, q :: kvs, H, 0, a, p, hn, h1, h2 => by
    simp at h1 h2
    subst h1 h2
    exact upd_same
  | b :: as, q :: kvs, H, j + 1, a, p, hn, h1, h2 => by
    obtain ⟨n1, n2⟩ := List.nodup_cons.mp hn
    have h1' : as[j]? = some a := by simpa using h1
    have hne : a ≠ b := fun z => n1 (by rw [← z]; exact List.mem_of_getElem? h1')
    show upd (putP H as kvs) b _ a = _
    rw [upd_ne hne]
    exact putP_at as kvs H j a p n2 h1' (by simpa using h2)
theorem keyD_rp {K : PySem.W.Frag} {F : Hp} (k : Key) : Rp K F (keyD k) (kV k) := by
  cases k with
  | inl i => exact .int i
  | inr x => exact .str x
theorem RpK.at_ {K : PySem.W.Frag} {F : Hp} : ∀ {kds : List (D × D)} {kvs : List (Key × V)} {j : Nat} {p : D × D}, RpK K F kds kvs → kds[j]? = some p → ∃ q, kvs[j]? = some q ∧ p.1 = keyD q.1 ∧ Rp K F p.2 q.2
  | _, _, _, _, .nil, h => by simp at h
  | _, _, 0, _, .cons r t, h => by
    simp at h
    subst h
    exact ⟨_, rfl, rfl, r⟩
  | _, _, j + 1, p, .cons r t, h => by
    obtain ⟨q, h1, h2⟩ := RpK.at_ (j := j) (p := p) t (by simpa using h)
    exact ⟨q, by simpa using h1, h2⟩
theorem rpl_ix {K : PySem.W.Frag} {F : Hp} : ∀ {ds : List D} {vs : List V}, ds.length = vs.length → (∀ (i : Nat) d v, ds[i]? = some d → vs[i]? = some v → Rp K F d v) → RpL K F ds vs
  | [], [], _, _ => .nil
  | [], _ :: _, h, _ => by cases h
  | _ :: _, [], h, _ => by cases h
  | d :: ds, v :: vs, h, hr => .cons (hr 0 d v rfl rfl) (rpl_ix (Nat.succ.inj h) fun i a b h1 h2 => hr (i + 1) a b h1 h2)
section
variable {X : Cx} {e : Expr} {f : Den} {p apos cpos pos : Pos}
def tSI (K : PySem.W.Frag) (te : TE) : TE := fun σ H Q => te σ H fun x H1 => ∃ d kvs F kds, x = V.ref d ∧ Rd H1 d (.dK kvs) ∧ RpK K F kds kvs ∧ Sub F H1 ∧ srtOk (itL kds) = true ∧
  ∀ H2 F2 q ys, Ext F H1 F2 H2 → F2 q = none → H1 q = none → H2 q = some (.lst ys) → RpL K F2 ((itL kds).mergeSort leS) ys → Q (.ref q) H2
theorem pe_sortItems {te : TE} (hc : X.calm = true) (hu : X.A.units + 68 < cLine) (he : PE X e te) (hg : Gl X "sorted") (hm : X.mg "sorted" = none) (hbase : attributeBase e "items" X.env (eval e X.env) = eval e X.env) (hline : (apos.endLine == cpos.line) = true)
    (hs : N1 X (.Call (.Attribute e "items" apos) [] [] cpos)) : PE X (.Call (.Name "sorted" p) [.Call (.Attribute e "items" apos) [] [] cpos] [] pos) (tSI X.K te) := by
  refine ⟨fun pins s σ H Q I hq => ?_⟩
  refine wpAny_Call_Name_kw (ld_blt I hg hm rfl ?_ (by decide) (by decide))
  refine PyProof.Rows.callWith_builtin1 ?_ hs rfl
  have hs' : starEach [.Call (.Attribute e "items" apos) [] [] cpos] X.env = [(false, eval (.Call (.Attribute e "items" apos) [] [] cpos) X.env)] := hs
  rw [hs']
  show wpAny _ _ (spliced [(false, eval (.Call (.Attribute e "items" apos) [] [] cpos) X.env)]) _ _ s
  refine Calls.spliced_cons ?_
  refine wpAny_Call_method (T := "dict") (id := "dict.items") hbase rfl hline F.plainAttrs_dict F.slot_dict_items F.type_dict_items (thn (he.run pins s σ H _ I hq) fun u s1 ⟨x, H1, I1, rx, d, kvs, F0, kds, ex, hd, rk, sb, ok, q⟩ => ?_)
  subst ex
  obtain rfl : u = Value.ref d := rx
  obtain ⟨hz, hs0, vs, kv, hdo⟩ := dk_obj I1 hd
  obtain ⟨ep, hat⟩ := hdo.dictAt
  have lk : kvs.length = vs.length := Paired.length kv
  have I2 : Inv X pins σ H1 { s1 with heap := s1.heap.push { cls := .type "dict_items", data := .fields #[.ref d] } } := I1.kept (t' := s1.toks) fun b ob q => Heap.get?_push_of_some _ q
  refine ⟨hdo.typeIs, hdo.mapOf.noDict, ?_⟩
  show wpAny _ _ (callWith cpos (.builtin "dict.items") [.ref d] [] []) _ X.xe s1
  refine method_meetsIn F.slot_dict_items F.entry_dict_items rfl (PySem.evalArgs_none ⟨rfl, hdo.typeIs, F.args_dict_items_1 _, _, meets_dict_items (mixKind X.prog X.w) d hs0, ⟨vs, hdo⟩, ?_⟩)
  refine Calls.spliced_nil ?_
  have hh : X.A.handled = none := I1.ok.hd hc
  generalize hw2 : s1.heap.push { cls := .type "dict_items", data := .fields #[.ref d] } = g2 at I2
  have view : g2.IsItemsView s1.heap.objs.size d := by rw [← hw2]; exact ⟨_, Heap.get?_push_size _ rfl, rfl, rfl⟩
  have hat2 : g2.DictAt (mixKind X.prog X.w) d vs ep := by rw [← hw2]; exact hat.push _
  refine Calls.call_function_entry kind_sorted plain_sorted entry_sorted (args_sorted1 _) ?_
  unfold Builtin.«sorted»
  refine wpAny_bind (m := checkCount "sorted" 1 1 _) (wpAny_pure ?_)
  refine wpAny_bind (PySem.W.kdx_collect (knd := mixKind X.prog X.w) (A := X.A.in1) (kvs := vs) (ep := ep) (by simpa using hh) view hat2 (by omega) fun h3 tk as hk hl hG => ?_)
  refine wpAny_bind (wpAny_newList ?_ (by rw [List.length_map, hl]; omega))
  obtain ⟨o1, o2, o3, o4⟩ := srt_parts ok
  have nd : as.Nodup := List.Pairwise.imp (fun {a b} (h : a < b) => Nat.ne_of_lt h) hG.rise
  have new : ∀ t ∈ as, H1 t = none := fun t ht => I2.hok.fresh (Nat.le_of_lt (hG.above t ht))
  have hkl : kds.length = kvs.length := rk.length.symm
  -- data, address
  let L : List (D × V × Value) := (itL kds).zip ((as.map V.ref).zip (as.map Value.ref))
  have hLl : L.length = as.length := by simp [L, itL]; omega
  have hLat : ∀ (j : Nat) t, L[j]? = some t → ∃ b pd qv, as[j]? = some b ∧ kds[j]? = some pd ∧ kvs[j]? = some qv ∧ t = (.tuple [pd.1, pd.2], .ref b, .ref b) ∧ pd.1 = keyD qv.1 ∧ Rp X.K F0 pd.2 qv.2 := fun j t ht => by
    have hj : j < as.length := by
      rw [← hLl]
      exact (List.getElem?_eq_some_iff.mp ht).1
    have hj2 : j < kds.length := by omega
    obtain ⟨qv, z1, z2, z3⟩ := rk.at_ (List.getElem?_eq_getElem hj2)
    refine ⟨as[j], kds[j], qv, List.getElem?_eq_getElem hj, List.getElem?_eq_getElem hj2, z1, ?_, z2, z3⟩
    have : L[j]? = some ((itL kds)[j]'(by simp [itL]; omega), (as.map V.ref)[j]'(by simpa using hj), (as.map Value.ref)[j]'(by simpa using hj)) := by
      simp only [L]
      rw [List.getElem?_eq_getElem (by simp [itL]; omega)]
      simp
    rw [this] at ht
    cases ht
    simp [itL]
  have m1 : L.map (·.1) = itL kds := by
    simp only [L]
    rw [List.map_fst_zip (by simp [itL]; omega)]
  have m3 : L.map (·.2.2) = as.map Value.ref := by
    simp only [L]
    rw [show (fun t : D × V × Value => t.2.2) = Prod.snd ∘ Prod.snd from rfl, ← List.map_map, List.map_snd_zip (by simp [itL]; omega), List.map_snd_zip (by simp)]
  -- the values read
  have hread : ∀ (j : Nat) t, L[j]? = some t → ∃ bs, Reads h3 t.2.2 t.1 bs ∧ (∀ b ∈ bs, ∃ o, h3.get? b = some o) := fun j t ht => by
    obtain ⟨b, pd, qv, e1, e2, e3, rfl, e5, e6⟩ := hLat j t ht
    obtain ⟨key, k, x, f1, f2, f3⟩ := hG.pairs j b e1
    obtain ⟨qv', g1, g2, g3⟩ := LiI.paired_get kv e3
    rw [f1] at g1
    cases g1
    have hmem : (.tuple [pd.1, pd.2] : D) ∈ itL kds := List.mem_map.mpr ⟨pd, List.mem_of_getElem? e2, rfl⟩
    have hsh := o3 _ hmem
    have hpl : pd.2.plain = true := by
      have := plain_of_shaped hsh
      simp [PyData.plain, PyData.plainAll] at this
      exact this.2
    obtain ⟨bs, r1⟩ := Dp.reads I2 pd.2 qv.2 x (e6.dp sb pd.2 qv.2 hpl) g3
    have r2 : Reads h3 x pd.2 bs := Reads.keeps hk r1
    have r0 : Reads h3 key pd.1 [] := by
      rw [e5, g2]
      have rk1 : RelV (kV k) key := relV_key (show keyIs k key = true from f2)
      cases k with
      | inl i =>
        obtain ⟨t, rfl⟩ := rk1
        exact .int _ _
      | inr z =>
        obtain ⟨t, rfl⟩ := rk1
        exact .str _ _
    have r3 : ReadsAll h3 [key, x] [pd.1, pd.2] ([] ++ (bs ++ [])) := .cons r0 (.cons r2 .nil)
    rw [List.nil_append, List.append_nil] at r3
    exact ⟨bs, .tuple f3 rfl rfl r3, fun b hb => PyProof.On.reads_mem_get r2 b hb⟩
  have hrp : ∀ (j : Nat) t, L[j]? = some t → Rp X.K (putP F0 as kvs) t.1 t.2.1 := fun j t ht => by
    obtain ⟨b, pd, qv, e1, e2, e3, rfl, e5, e6⟩ := hLat j t ht
    have sF : Sub F0 (putP F0 as kvs) := fun c u hc => by
      rw [putP_off as kvs F0 fun z => by have := new c z; rw [sb c u hc] at this; cases this]
      exact hc
    exact .tup (putP_at as kvs F0 j b qv nd e1 e3) (.cons (by rw [e5]; exact keyD_rp _) (.cons (e6.mono sF) .nil))
  have hrv : ∀ (j : Nat) t, L[j]? = some t → RelV t.2.1 t.2.2 := fun j t ht => by
    obtain ⟨b, pd, qv, e1, e2, e3, rfl, e5, e6⟩ := hLat j t ht
    rfl
  have na : h3.get? h3.objs.size = none := Heap.get?_none_of_le (Nat.le_refl _)
  have gsz : g2.objs.size ≤ h3.objs.size := by
    have e1 : g2.get? s1.heap.objs.size = some { cls := .type "dict_items", data := .fields #[.ref d] } := by rw [← hw2]; exact Heap.get?_push_size _ rfl
    have e2 := Heap.lt_size (hk _ _ e1)
    have e3 : g2.objs.size = s1.heap.objs.size + 1 := by rw [← hw2]; exact Heap.size_push ..
    rw [e3]
    exact e2
  have kp3 : ∀ b o, g2.get? b = some o → (h3.push { cls := .type "list", data := .seq (as.map Value.ref).toArray }).get? b = some o := fun b o q => Heap.get?_push_of_some _ (hk b o q)
  refine wpAny_bind (wpAny_holding (PySem.W.list_sort_data (β := Tri) (enc := fun t => t.1) (R := fun v t => v = t.2.2) (bs := L) (vs := as.map Value.ref) (n := 0) (Heap.get?_push_size _ rfl) (by rw [← m3]; exact fn_each) (by
      rw [← m3]
      refine each_mapR fun t ht => ?_
      obtain ⟨j, hj⟩ := List.mem_iff_getElem?.mp ht
      obtain ⟨bs, r1, r2⟩ := hread j t hj
      refine ⟨bs, Reads.keeps (fun b o q => Heap.get?_push_of_some _ q) r1, fun z => ?_⟩
      obtain ⟨o, ho⟩ := r2 _ z
      rw [na] at ho
      cases ho) (by rw [m1]; exact o1) (by rw [m1]; exact o2) (by rw [hLl]; omega) (fun t ht => ?_) fun out hlo he => ?_))
  · have hd : t.1 ∈ itL kds := by rw [← m1]; exact List.mem_map_of_mem ht
    have := SeqAt.depth_of_shaped (o3 _ hd)
    show X.A.units + 1 + 1 + t.1.depth < cLine
    omega
  refine wpAny_pure ?_
  have eo := each_fn he
  have hal : h3.objs.size ∉ as := fun z => Nat.lt_irrefl _ (hG.there z)
  have hH1a : H1 h3.objs.size = none := I2.hok.fresh (by exact gsz)
  have hinj : ∀ b, b ∈ as → b ≠ h3.objs.size := fun b hb => Nat.ne_of_lt (hG.there hb)
  have kpH : ∀ b u, H1 b = some u → upd (putP H1 as kvs) h3.objs.size (.lst ((L.mergeSort (PySem.W.dataLe false fun t : Tri => t.1)).map (·.2.1))) b = some u := fun b u hb => by
    rw [upd_ne (fun z => by rw [z, hH1a] at hb; cases hb), putP_off as kvs H1 fun z => by have := new b z; rw [hb] at this; cases this]
    exact hb
  have hmm : ∀ t ∈ L.mergeSort (PySem.W.dataLe false fun t : Tri => t.1), ∃ j, L[j]? = some t := fun t ht => List.mem_iff_getElem?.mp ((List.mergeSort_perm L _).mem_iff.mp ht)
  obtain ⟨z1, z2⟩ := rpl_map (K := X.K) (F := putP F0 as kvs) (ts := L.mergeSort (PySem.W.dataLe false fun t : Tri => t.1)) fun t ht => by
    obtain ⟨j, hj⟩ := hmm t ht
    exact ⟨hrp j t hj, hrv j t hj⟩
  rw [tri_sort, m1] at z1
  rw [← eo] at z2
  obtain ⟨ep2, hat3⟩ := PyProof.Rows.sortedHeap_at (a := h3.objs.size) (h := h3.push { cls := .type "list", data := .seq (as.map Value.ref).toArray }) (vs := as.map Value.ref) (out := out.toArray) (Heap.get?_push_size _ rfl)
  have kp4 : ∀ b o, b ≠ h3.objs.size → h3.get? b = some o → (sortedHeap (h3.push { cls := .type "list", data := .seq (as.map Value.ref).toArray }) h3.objs.size (as.map Value.ref) out.toArray).get? b = some o := fun b o hb q => by
    rw [PyProof.Rows.sortedHeap_old hb (Heap.lt_size (Heap.get?_push_of_some _ q))]
    exact Heap.get?_push_of_some _ q
  have J := lay_many (tk := tk) I2 (H2 := upd (putP H1 as kvs) h3.objs.size (.lst ((L.mergeSort (PySem.W.dataLe false fun t : Tri => t.1)).map (·.2.1))))
    (h2 := sortedHeap (h3.push { cls := .type "list", data := .seq (as.map Value.ref).toArray }) h3.objs.size (as.map Value.ref) out.toArray)
    (fun b o q => kp4 b o (Nat.ne_of_lt (Nat.lt_of_lt_of_le (Heap.lt_size q) gsz)) (hk b o q)) kpH (fun b u hb hn => by
      by_cases hba : b = h3.objs.size
      · subst hba
        rw [upd_same] at hb
        cases hb
        refine ⟨gsz, ?_, out, ep2, z2, hat3⟩
        rw [List.length_map, List.length_mergeSort, hLl, hl, ← lk]
        exact hz
      · rw [upd_ne hba] at hb
        have hm := putP_in as kvs H1 hb hn
        obtain ⟨j, hj⟩ := List.mem_iff_getElem?.mp hm
        obtain ⟨key, k, x, f1, f2, f3⟩ := hG.pairs j b hj
        have hj2 : j < kvs.length := by
          have := (List.getElem?_eq_some_iff.mp hj).1
          omega
        obtain ⟨qv, g1, g2', g3⟩ := LiI.paired_get kv (List.getElem?_eq_getElem hj2)
        rw [f1] at g1
        cases g1
        rw [putP_at as kvs H1 j b _ nd hj (List.getElem?_eq_getElem hj2)] at hb
        cases hb
        have rk1 : RelV (kV (kvs[j]).1) key := by
          rw [g2']
          exact relV_key (show keyIs k key = true from f2)
        exact ⟨Nat.le_of_lt (hG.above b hm), by show 2 ≤ sizeLine; decide, [key, x], .cons rk1 (.cons g3 .nil), ⟨_, kp4 b _ hba f3, rfl, _, rfl⟩⟩)
  refine ⟨_, rfl, .ref h3.objs.size, _, J, rfl, q _ (putP F0 as kvs) h3.objs.size _ ⟨fun b u hb => ?_, kpH, fun b u hb => ?_, fun b h1 h2 => ?_⟩ ?_ hH1a upd_same z1⟩
  · rw [putP_off as kvs F0 fun z => by have := new b z; rw [sb b u hb] at this; cases this]
    exact hb
  · by_cases hm : b ∈ as
    · rw [upd_ne (hinj b hm)]
      obtain ⟨j, hj⟩ := List.mem_iff_getElem?.mp hm
      have hj2 : j < kvs.length := by
        have := (List.getElem?_eq_some_iff.mp hj).1
        omega
      rw [putP_at as kvs F0 j b _ nd hj (List.getElem?_eq_getElem hj2)] at hb
      rw [putP_at as kvs H1 j b _ nd hj (List.getElem?_eq_getElem hj2)]
      exact hb
    · rw [putP_off as kvs F0 hm] at hb
      exact kpH b u (sb b u hb)
  · rw [putP_off as kvs F0 fun z => h1 (new b z)]
    exact h2
  · rw [putP_off as kvs F0 hal]
    exact sb.free hH1a
def sortItD : D → Option D
  | .dict kds => if notMk kds && srtOk (itL kds) then some (.list ((itL kds).mergeSort leS)) else none
  | _ => none
theorem en_sortItems (hc : X.calm = true) (hu : X.A.units + 68 < cLine) (he : EB X e f) (hg : Gl X "sorted") (hm : X.mg "sorted" = none) (hbase : attributeBase e "items" X.env (eval e X.env) = eval e X.env) (hline : (apos.endLine == cpos.line) = true)
    (hs : N1 X (.Call (.Attribute e "items" apos) [] [] cpos)) : EN X (.Call (.Name "sorted" p) [.Call (.Attribute e "items" apos) [] [] cpos] [] pos) (d1 sortItD f) :=
  mkN (pe_sortItems hc hu he.pe hg hm hbase hline hs) fun σ H Q ρ F d e h k => by
    simp only [d1, Option.bind_eq_some_iff] at h
    obtain ⟨x, h1, h2⟩ := h
    unfold sortItD at h2
    split at h2
    · split at h2
      · rename_i kds ok
        cases h2
        rw [Bool.and_eq_true] at ok
        refine ⟨ρ, F, .dict kds, e, h1, fun u F1 H1 x1 r1 => ?_⟩
        obtain ⟨a, kvs, rfl, ra, rk⟩ := r1.dictK x1.le ok.1
        exact ⟨a, kvs, F1, kds, rfl, ra, rk, x1.le, ok.2, fun H2 F2 q ys x2 g1 g2 g3 g4 => k q _ F2 H2 (x1.trans x2) g1 (x1.h.free g2) g3 (.lst g4)⟩
      · cases h2
    · cases h2
end
end Zx
/-! Zx13: dicts walked under a lock, dict comprehensions, a display of one pair. -/
namespace Zx
open PySem PySem.Spec L2
def isDk : HO → Prop
  | .dK _ => True
  | .dT _ => True
  | _ => False
/-- the same dict, locked or not -/
def DkLike (u w : HO) : Prop := ∃ o v, isDk v ∧ ((u = v ∧ w = .frz o v) ∨ (u = .frz o v ∧ w = v))
theorem DkLike.symm {u w : HO} (h : DkLike u w) : DkLike w u := by
  obtain ⟨o, v, h1, h2 | h2⟩ := h
  · exact ⟨o, v, h1, .inr ⟨h2.2, h2.1⟩⟩
  · exact ⟨o, v, h1, .inl ⟨h2.2, h2.1⟩⟩
section
variable {K : PySem.W.Frag} {F H F' H' F0 H0 : Hp} {p : Addr} {u w : HO} {ρ : Env} {σ : L2.St}
theorem DkLike.nl (h : DkLike u w) (xs : List V) : u ≠ .lst xs ∧ u ≠ .tup xs ∧ ∀ o, u ≠ .frz o (.lst xs) := by
  obtain ⟨o, v, h1, h2 | h2⟩ := h
  · rw [h2.1]
    refine ⟨?_, ?_, fun o => ?_⟩ <;> rintro rfl <;> exact h1
  · rw [h2.1]
    refine ⟨fun z => (nomatch z), fun z => (nomatch z), fun o z => ?_⟩
    injection z with _ z
    subst z
    exact h1
theorem Rd.sw (hp : F p = some u) (d : DkLike u w) {a : Addr} {v : HO} (h : Rd F a v) (hv : isDk v) : Rd (upd F p w) a v := by
  by_cases ha : a = p
  · subst ha
    obtain ⟨o, v', h1, h2 | h2⟩ := d
    · rw [h2.1] at hp
      refine .inr ⟨o, ?_⟩
      rw [upd_same, h2.2]
      rcases h with h | ⟨o', h⟩
      · rw [hp] at h; cases h; rfl
      · rw [hp] at h; cases h; exact h1.elim
    · rw [h2.1] at hp
      refine .inl ?_
      rw [upd_same, h2.2]
      rcases h with h | ⟨o', h⟩
      · rw [hp] at h; cases h; exact hv.elim
      · rw [hp] at h; cases h; rfl
  · rcases h with h | ⟨o', h⟩
    · exact .inl (by rw [upd_ne ha]; exact h)
    · exact .inr ⟨o', by rw [upd_ne ha]; exact h⟩
theorem neDk (hp : F p = some u) (d : DkLike u w) {a : Addr} {o : HO} (h : F a = some o) (ho : o ≠ u) : a ≠ p := fun z => by
  subst z
  rw [hp] at h
  cases h
  exact ho rfl
mutual
theorem Rp.sw (hp : F p = some u) (d : DkLike u w) : ∀ {x : D} {y : V}, Rp K F x y → Rp K (upd F p w) x y
  | _, _, .non => .non
  | _, _, .bl b => .bl b
  | _, _, .int i => .int i
  | _, _, .str x => .str x
  | _, _, .lst (xs := xs) h t => .lst (by rw [upd_ne (neDk hp d h fun z => (d.nl xs).1 z.symm)]; exact h) (RpL.sw hp d t)
  | _, _, .tup (xs := xs) h t => .tup (by rw [upd_ne (neDk hp d h fun z => (d.nl xs).2.1 z.symm)]; exact h) (RpL.sw hp d t)
  | _, _, .dK h t => .dK (Rd.sw hp d h trivial) (RpK.sw hp d t)
  | _, _, .dT h t => .dT (Rd.sw hp d h trivial) (RpT.sw hp d t)
  | _, _, .scr (ns := ns) h => .scr (by
      rcases h with h | h
      · refine .inl ?_
        rcases h with h | ⟨o, h⟩
        · exact .inl (by rw [upd_ne (neDk hp d h fun z => (d.nl (ns.map V.int)).1 z.symm)]; exact h)
        · exact .inr ⟨o, by rw [upd_ne (neDk hp d h fun z => (d.nl (ns.map V.int)).2.2 o z.symm)]; exact h⟩
      · exact .inr h)
theorem RpL.sw (hp : F p = some u) (d : DkLike u w) : ∀ {ds : List D} {vs : List V}, RpL K F ds vs → RpL K (upd F p w) ds vs
  | _, _, .nil => .nil
  | _, _, .cons h t => .cons (Rp.sw hp d h) (RpL.sw hp d t)
theorem RpK.sw (hp : F p = some u) (d : DkLike u w) : ∀ {ds : List (D × D)} {vs : List (Key × V)}, RpK K F ds vs → RpK K (upd F p w) ds vs
  | _, _, .nil => .nil
  | _, _, .cons h t => .cons (Rp.sw hp d h) (RpK.sw hp d t)
theorem RpT.sw (hp : F p = some u) (d : DkLike u w) : ∀ {ds : List (D × D)} {vs : List (List Key × V)}, RpT K F ds vs → RpT K (upd F p w) ds vs
  | _, _, .nil => .nil
  | _, _, .cons h t => .cons (Rp.sw hp d h) (RpT.sw hp d t)
end
theorem OwnRep.sw (hp : F p = some u) (d : DkLike u w) {x : D} {o : HO} (h : OwnRep K F x o) : OwnRep K (upd F p w) x o := by
  cases h with
  | lst t => exact .lst (t.sw hp d)
  | dK t => exact .dK (t.sw hp d)
  | dT t => exact .dT (t.sw hp d)
theorem upd_upd {H : Hp} {p : Addr} {a b : HO} : upd (upd H p a) p b = upd H p b := by
  funext x
  by_cases h : x = p
  · rw [h, upd_same, upd_same]
  · rw [upd_ne h, upd_ne h, upd_ne h]
theorem upd_self {H : Hp} {p : Addr} {a : HO} (h : H p = some a) : upd H p a = H := by
  funext x
  by_cases hx : x = p
  · rw [hx, upd_same, h]
  · rw [upd_ne hx]
theorem Sub.sw (s : Sub F H) : Sub (upd F p w) (upd H p w) := fun a o h => by
  by_cases ha : a = p
  · subst ha; rw [upd_same] at h ⊢; exact h
  · rw [upd_ne ha] at h ⊢; exact s a o h
theorem EnvOk.sw (e : EnvOk K ρ σ F H) (hp : F p = some u) (d : DkLike u w) : EnvOk K ρ σ (L2.upd F p w) (L2.upd H p w) where
  sub := e.sub.sw
  len := e.len
  dist := e.dist
  at_ := fun i s hs => by
    obtain ⟨ov, h1, h2⟩ := e.at_ i s hs
    refine ⟨ov, h1, ?_⟩
    cases s with
    | no => trivial
    | fz d' =>
      obtain ⟨v, h3, h4⟩ := h2
      exact ⟨v, h3, h4.sw hp d⟩
    | ow d' =>
      obtain ⟨a, o, h3, h4, h5, h6⟩ := h2
      have ha : a ≠ p := fun z => by rw [z, hp] at h4; cases h4
      exact ⟨a, o, h3, by rw [upd_ne ha]; exact h4, by rw [upd_ne ha]; exact h5, h6.sw hp d⟩
/-- what went on while it was locked -/
theorem Ext.sw (hF : F p = some u) (hH : H p = some u) (x : Ext (upd F p w) (upd H p w) F' H') : Ext F H (upd F' p u) (upd H' p u) := by
  refine ⟨fun a o h => ?_, fun a o h => ?_, x.le.sw, fun a h1 h2 => ?_⟩
  · by_cases ha : a = p
    · subst ha; rw [upd_same]; rw [hF] at h; exact h
    · rw [upd_ne ha]
      exact x.f a o (by rw [upd_ne ha]; exact h)
  · by_cases ha : a = p
    · subst ha; rw [upd_same]; rw [hH] at h; exact h
    · rw [upd_ne ha]
      exact x.h a o (by rw [upd_ne ha]; exact h)
  · have ha : a ≠ p := fun z => by rw [z, hF] at h2; cases h2
    rw [upd_ne ha]
    exact x.new a (by rw [upd_ne ha]; exact h1) (by rw [upd_ne ha]; exact h2)
/-- slot j's dict is locked -/
def Lk (j : Nat) (σ : L2.St) (F : Hp) : Prop := ∃ p o v, σ[j]? = some (some (.ref p)) ∧ F p = some (.frz o v) ∧ isDk v
/-- slot j holds a dict with plain keys (b: with tuple keys) -/
def dkSlot (j : Nat) (b : Bool) (ρ : Env) : Option (List (D × D)) := match ρ[j]? with
  | some (.fz (.dict kds)) => if b then (match kds with | (.bool true, .none) :: r => some r | _ => none) else if notMk kds then some kds else none
  | _ => none
theorem dk_slot {j : Nat} {b : Bool} {kds : List (D × D)} (e : EnvOk K ρ σ F H) (h : dkSlot j b ρ = some kds) : ∃ p v, σ[j]? = some (some (.ref p)) ∧ Rd F p v ∧ isDk v ∧ Rp K F (.dict (if b then (.bool true, .none) :: kds else kds)) (.ref p) := by
  unfold dkSlot at h
  split at h
  · rename_i kds' hs
    obtain ⟨ov, h1, y, h2, h3⟩ := e.at_ j _ hs
    subst h2
    cases b with
    | true =>
      simp only [if_true] at h
      split at h
      · cases h
        obtain ⟨a, kvs, rfl, h4, h5⟩ := (RpB.of (H := F) h3).dictT (Sub.refl F)
        exact ⟨a, .dT kvs, h1, h4, trivial, h3⟩
      · cases h
    | false =>
      simp only [Bool.false_eq_true, if_false] at h
      split at h
      · rename_i hn
        cases h
        obtain ⟨a, kvs, rfl, h4, h5⟩ := (RpB.of (H := F) h3).dictK (Sub.refl F) hn
        exact ⟨a, .dK kvs, h1, h4, trivial, h3⟩
      · cases h
  · cases h
end
/-! ### what is walked under a lock -/
def tIL (K : PySem.W.Frag) (j : Nat) (f : DenI) : TI := fun σ H R => ∃ ρ F ds, EnvOk K ρ σ F H ∧ Lk j σ F ∧ f ρ = some ds ∧ ∀ J F' H', Ext F H F' H' → Walks K J F' ds → R J H'
structure EIL (X : Cx) (tg e : Expr) (j : Nat) (f : DenI) : Prop where
  pi : PI X tg e (tIL X.K j f)
def tNL (K : PySem.W.Frag) (j : Nat) (f : Den) : TE := fun σ H Q => ∃ ρ F d, EnvOk K ρ σ F H ∧ Lk j σ F ∧ f ρ = some d ∧ ∀ a o F' H', Ext F H F' H' → F' a = none → H a = none → H' a = some o → OwnRep K F' d o → Q (.ref a) H'
structure ENL (X : Cx) (e : Expr) (j : Nat) (f : Den) : Prop where
  pe : PE X e (tNL X.K j f)
def tStL (K : PySem.W.Frag) (j : Nat) (f : DenS) : TS := fun D σ H => ∃ F0 H0 ρ F o, EnvS K F0 H0 ρ σ F H ∧ Lk j σ F ∧ f ρ = some o ∧ Post K F0 H0 D o
structure SXL (X : Cx) (st : Stmt) (j : Nat) (f : DenS) : Prop where
  ps : PS X st (tStL X.K j f)
/-- a reading needs a dict in slot j -/
def Needs {α : Type} (j : Nat) (f : Env → Option α) : Prop := ∀ ρ d, f ρ = some d → ∃ b kds, dkSlot j b ρ = some kds
theorem EnvOk.wiL {K : PySem.W.Frag} {ρ : Env} {σ : L2.St} {F H : Hp} {fi : DenI} {j : Nat} (e : EnvOk K ρ σ F H) (l : Lk j σ F) : WiOk K (tIL K j fi) fi ρ σ F H := fun ds R h k => ⟨ρ, F, ds, e, l, h, k⟩
section
variable {X : Cx} {e : Expr} {f : Den} {st : Stmt} {fs : DenS} {j : Nat}
theorem en_lock (h : ENL X e j f) (n : Needs j f) : EN X e f := by
  refine ⟨⟨fun pins s σ H Q I hw => ?_⟩⟩
  obtain ⟨ρ, F, d, e1, hf, k⟩ := hw
  obtain ⟨b, kds, hd⟩ := n ρ d hf
  obtain ⟨p, v, h1, h2, h3, h4⟩ := dk_slot e1 hd
  rcases h2 with h2 | ⟨o, h2⟩
  · refine (pe_lock h.pe).run pins s σ H Q I ?_
    refine ⟨p, v, e1.sub _ _ h2, by cases v <;> first | exact h3.elim | trivial, fun od => ?_⟩
    have dk : DkLike v (.frz od v) := ⟨od, v, h3, .inl ⟨rfl, rfl⟩⟩
    refine ⟨ρ, _, d, e1.sw h2 dk, ⟨p, od, v, h1, upd_same, h3⟩, hf, fun a o F' H' x g1 g2 g3 g4 => ?_⟩
    have hF' : F' p = some (.frz od v) := x.f _ _ upd_same
    have hH' : H' p = some (.frz od v) := x.h _ _ upd_same
    have ha : a ≠ p := fun z => by rw [z, hF'] at g1; cases g1
    refine ⟨hH', k a o (upd F' p v) (upd H' p v) (Ext.sw h2 (e1.sub _ _ h2) x) (by rw [upd_ne ha]; exact g1) ?_ (by rw [upd_ne ha]; exact g3) (g4.sw hF' dk.symm)⟩
    rw [upd_ne ha] at g2
    exact g2
  · exact h.pe.run pins s σ H Q I ⟨ρ, F, d, e1, ⟨p, o, v, h1, h2, h3⟩, hf, k⟩
theorem sx_lock (h : SXL X st j fs) (n : Needs j fs) : SX X st fs := by
  refine ⟨⟨fun pins s σ H D I hw => ?_⟩⟩
  obtain ⟨F0, H0, ρ, F, o, e1, hf, k⟩ := hw
  obtain ⟨b, kds, hd⟩ := n ρ o hf
  obtain ⟨p, v, h1, h2, h3, h4⟩ := dk_slot e1.env hd
  rcases h2 with h2 | ⟨ob, h2⟩
  · refine (ps_lock h.ps).run pins s σ H D I ?_
    have hHp := e1.env.sub _ _ h2
    refine ⟨p, v, hHp, by cases v <;> first | exact h3.elim | trivial, fun od => ?_⟩
    have dk : DkLike v (.frz od v) := ⟨od, v, h3, .inl ⟨rfl, rfl⟩⟩
    obtain ⟨Hx, xb, eb⟩ := e1.rebase
    have kb := k.base xb
    have hHx : Hx p = some v := eb.ext.le |> fun _ => xb.le _ _ h2
    have e2 : EnvS X.K (upd F p (.frz od v)) (upd Hx p (.frz od v)) ρ σ (upd F p (.frz od v)) (upd H p (.frz od v)) :=
      ⟨eb.env.sw h2 dk, ⟨Sub.refl _, eb.ext.h.sw, eb.env.sub.sw, fun a _ h => h⟩, fun i d a g1 g2 => by
        have := eb.own i d a g1 g2
        rw [upd_ne (fun z => by rw [z, hHx] at this; cases this)]
        exact this⟩
    have un : ∀ {ρ' : Env} {σ' : L2.St} {F' H' : Hp}, EnvS X.K (upd F p (.frz od v)) (upd Hx p (.frz od v)) ρ' σ' F' H' → H' p = some (.frz od v) ∧ EnvS X.K F Hx ρ' σ' (upd F' p v) (upd H' p v) := fun {ρ' σ' F' H'} z => by
      have hF' : F' p = some (.frz od v) := z.ext.f _ _ upd_same
      refine ⟨z.ext.h _ _ upd_same, z.env.sw hF' dk.symm, Ext.sw h2 hHx z.ext, fun i d a g1 g2 => ?_⟩
      have := z.own i d a g1 g2
      have ha : a ≠ p := fun y => by rw [y, upd_same] at this; cases this
      rw [upd_ne ha] at this
      exact this
    refine ⟨_, _, ρ, _, o, e2, ⟨p, od, v, h1, upd_same, h3⟩, hf, ?_⟩
    cases o with
    | nx ρ' => exact fun σ' F' H' z => ⟨(un z).1, kb σ' _ _ (un z).2⟩
    | bk ρ' => exact fun σ' F' H' z => ⟨(un z).1, kb σ' _ _ (un z).2⟩
    | ct ρ' => exact fun σ' F' H' z => ⟨(un z).1, kb σ' _ _ (un z).2⟩
    | rt d =>
      intro y F' H' x r
      have hF' : F' p = some (.frz od v) := x.f _ _ upd_same
      exact ⟨x.h _ _ upd_same, kb y _ _ (Ext.sw h2 hHx x) (r.sw hF' dk.symm)⟩
    | rn d =>
      intro a ob F' H' x g1 g2 g3 g4
      have hF' : F' p = some (.frz od v) := x.f _ _ upd_same
      have ha : a ≠ p := fun z => by rw [z, hF'] at g1; cases g1
      refine ⟨x.h _ _ upd_same, kb a ob _ _ (Ext.sw h2 hHx x) (by rw [upd_ne ha]; exact g1) ?_ (by rw [upd_ne ha]; exact g3) (g4.sw hF' dk.symm)⟩
      rw [upd_ne ha] at g2
      exact g2
  · exact h.ps.run pins s σ H D I ⟨F0, H0, ρ, F, o, e1, ⟨p, ob, v, h1, h2, h3⟩, hf, k⟩
end
/-! ### keys, values, items of the dict in slot j -/
def iKeysJ (j : Nat) : DenI := fun ρ => (dkSlot j false ρ).map fun kds => kds.map (·.1)
def iKeysT (j : Nat) : DenI := fun ρ => (dkSlot j true ρ).map fun kds => kds.map (·.1)
def iValsJ (j : Nat) : DenI := fun ρ => (dkSlot j false ρ).map fun kds => kds.map (·.2)
def iItemsJ (j : Nat) : DenI := fun ρ => (dkSlot j false ρ).map itL
theorem needs_I {j : Nat} {b : Bool} {h : List (D × D) → List D} : Needs j (fun ρ => (dkSlot j b ρ).map h) := fun ρ d e => by
  rw [Option.map_eq_some_iff] at e
  obtain ⟨kds, h1, _⟩ := e
  exact ⟨b, kds, h1⟩
theorem needs_lc {j : Nat} {fi : DenI} {g : DenG} {ft : DenB} {fe : Den} {vs : List Nat} (n : Needs j fi) : Needs j (dLc fi g ft fe vs) := fun ρ d e => by
  simp only [dLc, Option.bind_eq_some_iff] at e
  obtain ⟨ds, h1, _⟩ := e
  exact n ρ ds h1
theorem needs_for {j : Nat} {fi : DenI} {g : DenG} {fb : DenS} (n : Needs j fi) : Needs j (sFor fi g fb) := fun ρ d e => by
  simp only [sFor, Option.bind_eq_some_iff] at e
  obtain ⟨ds, h1, _⟩ := e
  exact n ρ ds h1
theorem needs_bind {j : Nat} {α β : Type} {f : Env → Option α} {h : Env → α → Option β} (n : Needs j f) : Needs j (fun ρ => (f ρ).bind (h ρ)) := fun ρ d e => by
  simp only [Option.bind_eq_some_iff] at e
  obtain ⟨x, h1, _⟩ := e
  exact n ρ x h1
theorem lk_at {K : PySem.W.Frag} {ρ : Env} {σ : L2.St} {F H : Hp} {j : Nat} {kds : List (D × D)} (e : EnvOk K ρ σ F H) (l : Lk j σ F) (h : dkSlot j false ρ = some kds) : ∃ p o kvs, σ[j]? = some (some (.ref p)) ∧ F p = some (.frz o (.dK kvs)) ∧ RpK K F kds kvs := by
  obtain ⟨p, v, h1, h2, h3, h4⟩ := dk_slot e h
  obtain ⟨p', o, v', g1, g2, g3⟩ := l
  rw [h1] at g1
  cases g1
  have hn : notMk kds = true := by
    unfold dkSlot at h
    split at h
    · simp only [Bool.false_eq_true, if_false] at h
      split at h
      · cases h; assumption
      · cases h
    · cases h
  obtain ⟨a, kvs, ea, h5, h6⟩ := (RpB.of (H := F) h4).dictK (Sub.refl F) hn
  cases ea
  have : Rd F p (.dK kvs) := h5
  rcases h5 with h5 | ⟨o', h5⟩
  · rw [g2] at h5; cases h5
  · rw [g2] at h5
    cases h5
    exact ⟨p, _, kvs, h1, g2, h6⟩
theorem RpK.keys {K : PySem.W.Frag} {F : Hp} : ∀ {kds : List (D × D)} {kvs : List (Key × V)}, RpK K F kds kvs → ∀ (i : Nat) d, (kds.map (·.1))[i]? = some d → ∃ k v, kvs[i]? = some (k, v) ∧ d = keyD k
  | _, _, h, i, d, e => by
    rw [List.getElem?_map, Option.map_eq_some_iff] at e
    obtain ⟨q, h1, rfl⟩ := e
    obtain ⟨y, h2, h3, _⟩ := h.at_ h1
    exact ⟨y.1, y.2, h2, h3⟩
section
variable {X : Cx} {tg : Expr} {p apos cpos : Pos} {x : Str} {j : Nat}
theorem mkLk {e : Expr} {fi : DenI} {t : TI} (h : PI X tg e t) (i : ∀ σ H R ρ F d, EnvOk X.K ρ σ F H → Lk j σ F → fi ρ = some d → (∀ J F' H', Ext F H F' H' → Walks X.K J F' d → R J H') → t σ H R) : EIL X tg e j fi :=
  ⟨PI.imp h fun σ H Q ⟨ρ, F, d, e1, l, e2, k⟩ => i σ H Q ρ F d e1 l e2 k⟩
theorem eil_keys (hN : X.N[j]? = some x) (hv : visB X.env.scope x = true) (hd : (x == ("__debug__" : Str)) = false) (hcd : (x == ("__classdict__" : Str)) = false) : EIL X tg (.Name x p) j (iKeysJ j) :=
  mkLk (pi_keys (pe_var hN (vis_of hv) hd hcd)) fun σ H R ρ F ds e l h k => by
    unfold iKeysJ at h
    rw [Option.map_eq_some_iff] at h
    obtain ⟨kds, h1, rfl⟩ := h
    obtain ⟨q, o, kvs, h2, h3, h4⟩ := lk_at e l h1
    refine ⟨.ref q, h2, q, o, rfl, .inl ⟨kvs, e.sub _ _ h3, k _ F H (.refl e.sub) fun i F1 H1 s1 s2 => ?_⟩⟩
    have hq : H1 q = some (.frz o (.dK kvs)) := s2 _ _ (s1 _ _ h3)
    refine ⟨fun d hd => ?_, fun hi => ⟨hq, by rw [h4.length]; simpa using hi⟩⟩
    obtain ⟨kk, v, h5, rfl⟩ := h4.keys i d hd
    refine ⟨⟨hq, (List.getElem?_eq_some_iff.mp h5).1⟩, fun x H' hy => ?_⟩
    obtain ⟨rfl, k', v', h6, rfl⟩ := hy
    rw [h5] at h6
    cases h6
    exact ⟨F1, .refl s2, keyD_rp _⟩
theorem eil_vals (hN : X.N[j]? = some x) (hv : visB X.env.scope x = true) (hd : (x == ("__debug__" : Str)) = false) (hcd : (x == ("__classdict__" : Str)) = false) (hbase : attributeBase (.Name x p) "values" X.env (eval (.Name x p) X.env) = eval (.Name x p) X.env) (hline : (apos.endLine == cpos.line) = true) :
    EIL X tg (.Call (.Attribute (.Name x p) "values" apos) [] [] cpos) j (iValsJ j) :=
  mkLk (pi_values (pe_var hN (vis_of hv) hd hcd) hbase hline) fun σ H R ρ F ds e l h k => by
    unfold iValsJ at h
    rw [Option.map_eq_some_iff] at h
    obtain ⟨kds, h1, rfl⟩ := h
    obtain ⟨q, o, kvs, h2, h3, h4⟩ := lk_at e l h1
    refine ⟨.ref q, h2, q, o, kvs, rfl, e.sub _ _ h3, k _ F H (.refl e.sub) fun i F1 H1 s1 s2 => ?_⟩
    have hq : H1 q = some (.frz o (.dK kvs)) := s2 _ _ (s1 _ _ h3)
    refine ⟨fun d hd => ?_, fun hi => ⟨hq, by rw [h4.length]; simpa using hi⟩⟩
    rw [List.getElem?_map, Option.map_eq_some_iff] at hd
    obtain ⟨y, h5, rfl⟩ := hd
    obtain ⟨z, h6, h7, h8⟩ := h4.at_ h5
    refine ⟨⟨hq, (List.getElem?_eq_some_iff.mp h6).1⟩, fun x H' hy => ?_⟩
    obtain ⟨rfl, k', h9⟩ := hy
    rw [h6] at h9
    cases h9
    exact ⟨F1, .refl s2, h8.mono s1⟩
theorem eil_items {elts : List Expr} {kk : Nat} {tpos : Pos} (hN : X.N[j]? = some x) (hv : visB X.env.scope x = true) (hd : (x == ("__debug__" : Str)) = false) (hcd : (x == ("__classdict__" : Str)) = false) (hbase : attributeBase (.Name x p) "items" X.env (eval (.Name x p) X.env) = eval (.Name x p) X.env) (hline : (apos.endLine == cpos.line) = true) :
    EIL X (.Tuple elts kk tpos) (.Call (.Attribute (.Name x p) "items" apos) [] [] cpos) j (iItemsJ j) :=
  mkLk (pi_items (pe_var hN (vis_of hv) hd hcd) hbase hline) fun σ H R ρ F ds e l h k => by
    unfold iItemsJ at h
    rw [Option.map_eq_some_iff] at h
    obtain ⟨kds, h1, rfl⟩ := h
    obtain ⟨q, o, kvs, h2, h3, h4⟩ := lk_at e l h1
    refine ⟨.ref q, h2, q, o, kvs, rfl, e.sub _ _ h3, k _ F H (.refl e.sub) fun i F1 H1 s1 s2 => ?_⟩
    have hq : H1 q = some (.frz o (.dK kvs)) := s2 _ _ (s1 _ _ h3)
    refine ⟨fun d hd => ?_, fun hi => ⟨hq, by rw [h4.length]; simpa [itL] using hi⟩⟩
    unfold itL at hd
    rw [List.getElem?_map, Option.map_eq_some_iff] at hd
    obtain ⟨y, h5, rfl⟩ := hd
    obtain ⟨z, h6, h7, h8⟩ := h4.at_ h5
    refine ⟨⟨hq, (List.getElem?_eq_some_iff.mp h6).1⟩, fun x H' hy => ?_⟩
    obtain ⟨T, k', v', h9, rfl, hT, rfl⟩ := hy
    rw [h6] at h9
    cases h9
    have sN : Sub F1 (upd F1 T (.tup [kV k', v'])) := Sub.new (s2.free hT)
    exact ⟨_, .add s2 hT, .tup upd_same (.cons (by rw [h7]; exact keyD_rp _) (.cons ((h8.mono s1).mono sN) .nil))⟩
end
/-! ### statements and comprehensions over them -/
section
variable {X : Cx} {elt tg iter kx vx : Expr} {ifs : List Expr} {scope : Scope} {own : List (Str × Nat)} {pos spos : Pos} {ws : List Nat} {fi : DenI} {g : DenG} {ft : DenB} {fe fk fv : Den} {j : Nat} {fb : DenS} {body : List Stmt}
theorem sxl_for (hp : PassesOwn (model X.prog X.w) X.A X.env X.xe) (hc : X.calm = true) (hi : EIL X tg iter j fi) (hg : EG X tg ws g) (hb : SXs X body fb) (hs : ∀ x, foldedSetIterable iter X.env x = pure x) : SXL X (.For tg iter body [] pos) j (sFor fi g fb) :=
  ⟨PS.imp (ps_for hp hc hi.pi hg.pg hb.pss hs) fun D σ H ⟨F0, H0, ρ, F, o, e, l, h, k⟩ => for_t (e.env.wiL l) e h k⟩
theorem enl_lc (hc : X.calm = true) (hN : X.N.Nodup) (hi : EIL X tg iter j fi) (ok : BlkOk X.N X.env.scope scope own)
    (hg : InBlk X scope fun Y => EG Y tg ws g) (ht : InBlk X scope fun Y => ETs Y ifs ft) (he : InBlk X scope fun Y => EX Y elt fe) (hs : ∀ x, foldedSetIterable iter X.env x = pure x) (hw : ∀ j ∈ ws, j ∈ own.map (·.2)) :
    ENL X (.ListComp elt [⟨tg, iter, ifs, 0⟩] scope pos) j (dLc fi g ft fe (own.map (·.2))) :=
  ⟨PE.imp (pe_lc (te := tX X.K fe) (tt := tTst X.K ft) (g := tGt X.K ws g) hc hN hi.pi ok (fun s H C cl fp => (hg s H C cl fp).pg) (fun s H C cl fp => (ht s H C cl fp).pts) (fun s H C cl fp => (he s H C cl fp).pe) hs) fun σ H Q ⟨ρ, F, d, e, l, h, k⟩ => lc_t (e.wiL l) hw e h k⟩
theorem sxl_setLc (i : Nat) (b : Bool) {y : Str} {py : Pos} (hc : X.calm = true) (hN : X.N.Nodup) (hy : X.N[i]? = some y) (hyl : X.env.scope.names.lookup y = some .local)
    (hsw : swapsWith (.ListComp elt [⟨tg, iter, ifs, 0⟩] scope pos) (some (.Name y py)) spos.line X.env = pure true) (hi : EIL X tg iter j fi) (ok : BlkOk X.N X.env.scope scope own)
    (hg : InBlk X scope fun Y => EG Y tg ws g) (ht : InBlk X scope fun Y => ETs Y ifs ft) (he : InBlk X scope fun Y => EX Y elt fe) (hs : ∀ x, foldedSetIterable iter X.env x = pure x) (hw : ∀ j ∈ ws, j ∈ own.map (·.2)) :
    SXL X (.Assign [.Name y py] (.ListComp elt [⟨tg, iter, ifs, 0⟩] scope pos) spos) j (sLcSet i b (dLc fi g ft fe (own.map (·.2)))) :=
  ⟨PS.imp (ps_setLc (te := tX X.K fe) (tt := tTst X.K ft) (g := tGt X.K ws g) hc hN hy hyl hsw hi.pi ok (fun s H C cl fp => (hg s H C cl fp).pg) (fun s H C cl fp => (ht s H C cl fp).pts) (fun s H C cl fp => (he s H C cl fp).pe) hs) fun D σ H ⟨F0, H0, ρ, F, o, e, l, h, k⟩ => by
    simp only [sLcSet, Option.bind_eq_some_iff, Option.some.injEq] at h
    obtain ⟨d, h1, rfl⟩ := h
    refine lc_t (Q := fun x H1 => gName i x σ H1 D.nx) (e.env.wiL l) hw e.env h1 fun a ob F' H' x h2 h3 h4 h5 => ?_
    cases b with
    | true => exact k _ F' H' (e.setOwn x h3 h2 h4 h5)
    | false =>
      obtain ⟨F2, x2, r2⟩ := frzNew x h2 h3 h4 h5
      exact k _ F2 H' ((e.to x2).set r2)⟩
/-! ### dict comprehensions -/
def dcL (g : DenG) (ft : DenB) (fk fv : Den) (ρ : Env) : List D → List (D × D) → Option (List (D × D))
  | [], acc => some acc
  | d :: ds, acc => (g d ρ).bind fun ρ1 => (ft ρ1).bind fun b => if b then (fk ρ1).bind fun x => (keyOf x).bind fun _ => (fv ρ1).bind fun y => dcL g ft fk fv ρ ds (dPut acc x y) else dcL g ft fk fv ρ ds acc
def dDc (fi : DenI) (g : DenG) (ft : DenB) (fk fv : Den) (vs : List Nat) : Den := fun ρ => (fi ρ).bind fun ds => if ds.length ≤ 1000000 then (dcL g ft fk fv (wipeE ρ vs) ds []).bind fun out => some (.dict out) else none
theorem dPut_len (kds : List (D × D)) (k v : D) : (dPut kds k v).length ≤ kds.length + 1 := by
  unfold dPut
  split
  · rw [List.length_map]; omega
  · rw [List.length_append]; exact Nat.le_refl _
theorem dc_t {K : PySem.W.Frag} {wi : TI} {vs : List Nat} {Q : VK} {d : D} {ρ : Env} {σ : L2.St} {F H : Hp} (hwi : WiOk K wi fi ρ σ F H) (hw : ∀ j ∈ ws, j ∈ vs) (e : EnvOk K ρ σ F H) (h : dDc fi g ft fk fv vs ρ = some d)
    (k : ∀ a o F' H', Ext F H F' H' → F' a = none → H a = none → H' a = some o → OwnRep K F' d o → Q (.ref a) H') :
    tDc wi (tGt K ws g) (tTst K ft) (tX K fk) (tX K fv) vs σ H Q := by
  simp only [dDc, Option.bind_eq_some_iff] at h
  obtain ⟨ds, h1, h2⟩ := h
  split at h2
  · rename_i hsz
    rw [Option.bind_eq_some_iff] at h2
    obtain ⟨out, h2, h3⟩ := h2
    cases h3
    refine hwi ds _ h1 fun J F1 H1 x1 w q hq => ?_
    have e1 := (e.ext x1).wipe vs
    have hF1 : F1 q = none := x1.le.free hq
    have hne := e1.ne_new hq
    refine ⟨fun i m H' => i ≤ ds.length ∧ m = ds.length - i ∧ ∃ F' acc accD, EnvOk K (wipeE ρ vs) (wipe σ vs) F' H' ∧ Ext F1 H1 F' H' ∧ F' q = none ∧ H' q = some (.dK acc) ∧ RpK K F' accD acc ∧ acc.length ≤ i ∧
      dcL g ft fk fv (wipeE ρ vs) (ds.drop i) accD = some out,
      ⟨_, Nat.zero_le _, rfl, F1, [], [], e1.upd hF1 hne, .mut (.refl x1.le) hq hF1, hF1, upd_same, .nil, Nat.zero_le _, by rw [List.drop_zero]; exact h2⟩, ?_⟩
    rintro i m H' ⟨hle, rfl, F', acc, accD, e', x', hF', hq', rl, hla, hr⟩
    obtain ⟨w1, w2⟩ := w i F' H' x'.f x'.le
    by_cases hi : i < ds.length
    · have hd : ds.drop i = ds[i] :: ds.drop (i + 1) := List.drop_eq_getElem_cons hi
      rw [hd] at hr
      simp only [dcL, Option.bind_eq_some_iff] at hr
      obtain ⟨ρ1, g1, b, g2, g3⟩ := hr
      obtain ⟨w3, w4⟩ := w1 ds[i] (List.getElem?_eq_getElem hi)
      refine .inr ⟨w3, fun H' => ∃ F' acc accD, EnvOk K (wipeE ρ vs) (wipe σ vs) F' H' ∧ Ext F1 H1 F' H' ∧ F' q = none ∧ H' q = some (.dK acc) ∧ RpK K F' accD acc ∧ acc.length ≤ i + 1 ∧
        dcL g ft fk fv (wipeE ρ vs) (ds.drop (i + 1)) accD = some out, fun H2 hN => ⟨_, by omega, hi, rfl, hN⟩, fun x H2 hy => ?_⟩
      obtain ⟨F2, x2, r2⟩ := w4 x H2 hy
      refine ⟨_, F2, ds[i], ρ1, e'.ext x2, r2, g1, fun σ3 e3 sb o3 => ⟨?_, ?_⟩⟩
      · refine wipe_twice σ σ3 _ (by rw [sb.len, wipe_length]) fun j hj => sb.at_ j fun z => hj (hw j z)
      refine ⟨ρ1, F2, b, e3, g2, fun F3 H3 x3 => ?_⟩
      have x23 := x2.trans x3
      cases b with
      | false =>
        exact ⟨F3, acc, accD, e'.ext x23, x'.trans x23, x23.new q (by rw [hq']; exact fun z => nomatch z) hF', x23.h _ _ hq', rl.mono x23.f, by omega, g3⟩
      | true =>
        simp only [if_true, Option.bind_eq_some_iff] at g3
        obtain ⟨y, g4, kk, g5, z, g6, g7⟩ := g3
        have ey := keyOf_eq g5
        subst ey
        refine ⟨ρ1, F3, _, e3.ext x3, g4, fun vk F4 H4 x4 r4 => ?_⟩
        have ek : vk = kV kk := by
          cases kk with
          | inl i => cases r4; rfl
          | inr i => cases r4; rfl
        subst ek
        refine ⟨ρ1, F4, z, (e3.ext x3).ext x4, g6, fun v F5 H5 x5 r5 => ?_⟩
        have x25 := (x23.trans x4).trans x5
        have hF5 : F5 q = none := x25.new q (by rw [hq']; exact fun z => nomatch z) hF'
        have hH5 : H5 q = some (.dK acc) := x25.h _ _ hq'
        refine ⟨acc, kk, rfl, hH5, line_lt (by omega), F5, putK acc kk v, dPut accD (keyD kk) z, (e'.ext x25).upd hF5 hne, .mut (x'.trans x25) hq hF5, hF5, upd_same, (rl.mono x25.f).put kk r5, ?_, g7⟩
        have h1 := dPut_len accD (keyD kk) z
        have h2 := ((rl.mono x25.f).put kk r5).length
        have h3 := rl.length
        omega
    · have hd : ds.drop i = [] := List.drop_eq_nil_of_le (by omega)
      rw [hd] at hr
      cases hr
      exact .inl ⟨w2 (by omega), k q _ F' H' (x1.trans x') hF' (x1.h.free hq) hq' (.dK rl)⟩
  · cases h2
theorem needs_dc {vs : List Nat} (n : Needs j fi) : Needs j (dDc fi g ft fk fv vs) := fun ρ d e => by
  simp only [dDc, Option.bind_eq_some_iff] at e
  obtain ⟨ds, h1, _⟩ := e
  exact n ρ ds h1
/-- y = {k: v for ..} on one line -/
theorem ps_setDc' {i : Nat} {y : Str} {py : Pos} {wi : TI} {g : TG} {tt : TT} {tk tv : TE} (hc : X.calm = true) (hN : X.N.Nodup) (hy : X.N[i]? = some y) (hyl : X.env.scope.names.lookup y = some .local)
    (hsw : swapsWith (.DictComp kx vx [⟨tg, iter, ifs, 0⟩] scope pos) (some (.Name y py)) spos.line X.env = pure true) (hi : PI X tg iter wi) (ok : BlkOk X.N X.env.scope scope own)
    (hg : InBlk X scope fun Y => PG Y tg g) (ht : InBlk X scope fun Y => PTs Y ifs tt) (hk : InBlk X scope fun Y => PE Y kx tk) (he : InBlk X scope fun Y => PE Y vx tv) (hs : ∀ x, foldedSetIterable iter X.env x = pure x) :
    PS X (.Assign [.Name y py] (.DictComp kx vx [⟨tg, iter, ifs, 0⟩] scope pos) spos) (tAsg (tDc wi g tt tk tv (own.map (·.2))) (gName i)) := by
  refine ⟨fun pins s σ H D I hD => ?_⟩
  rw [exec_Assign_Name_used _ _ _ _ hsw]
  refine wpAny_bind (wpAny_standAt (wpAny_bind ?_))
  show wpAny _ X.A (do let _ ← comprehension (.DictComp kx vx [⟨tg, iter, ifs, 0⟩] scope pos) scope X.env (firstIterPos [⟨tg, iter, ifs, 0⟩] pos) newDict false (eval iter X.env) (some (assign (.Name y py) X.env))) _ _ s
  have hD' : tDc wi g tt tk tv (own.map (·.2)) σ H (fun x H1 => gName i x σ H1 D.nx) := hD
  refine wpAny_bind (thn (dc_core (Qf := fun _ s' => SP X pins D .next s') hc hN I hi ok hg ht hk he hs hD' fun dd C s' m H' I' q hn fo => ?_) fun _ s' hq => wpAny_pure (wpAny_pure hq))
  show wpAny _ _ (assign (.Name y py) X.env (.ref dd)) _ _ _
  refine wpAny_assign_Name (store_ok2 (v := V.ref dd) I' hN hy (.inl hyl) rfl (fun s2 I2 ⟨a, sb, ha⟩ => ?_) (.inr hyl))
  obtain ⟨z0, z1, z2, z3, z4, z5⟩ := fo
  have hne : C ≠ a := ha.elim (fun z => by rw [z]; exact z1) fun z e => z4 y a z e.symm
  exact ⟨m, hn.sameBut sb hne, fun h3 sb3 => ⟨_, H', I2.turned (t' := s2.toks) (fun b o hb e => (sb3.2 b hb).trans e) z0 z1 z3 z4 z5, q⟩⟩
section
variable {hcx : X.calm = true}
theorem en_dc (hc : X.calm = true) (hN : X.N.Nodup) (hi : EI X tg iter fi) (ok : BlkOk X.N X.env.scope scope own)
    (hg : InBlk X scope fun Y => EG Y tg ws g) (ht : InBlk X scope fun Y => ETs Y ifs ft) (hk : InBlk X scope fun Y => EX Y kx fk) (he : InBlk X scope fun Y => EX Y vx fe) (hs : ∀ x, foldedSetIterable iter X.env x = pure x) (hw : ∀ j ∈ ws, j ∈ own.map (·.2)) :
    EN X (.DictComp kx vx [⟨tg, iter, ifs, 0⟩] scope pos) (dDc fi g ft fk fe (own.map (·.2))) :=
  mkN (pe_dc (tk := tX X.K fk) (tv := tX X.K fe) (tt := tTst X.K ft) (g := tGt X.K ws g) hc hN hi.pi ok (fun s H C cl fp => (hg s H C cl fp).pg) (fun s H C cl fp => (ht s H C cl fp).pts) (fun s H C cl fp => (hk s H C cl fp).pe) (fun s H C cl fp => (he s H C cl fp).pe) hs) fun σ H Q ρ F d e h k => dc_t e.wiOk hw e h k
theorem enl_dc (hc : X.calm = true) (hN : X.N.Nodup) (hi : EIL X tg iter j fi) (ok : BlkOk X.N X.env.scope scope own)
    (hg : InBlk X scope fun Y => EG Y tg ws g) (ht : InBlk X scope fun Y => ETs Y ifs ft) (hk : InBlk X scope fun Y => EX Y kx fk) (he : InBlk X scope fun Y => EX Y vx fe) (hs : ∀ x, foldedSetIterable iter X.env x = pure x) (hw : ∀ j ∈ ws, j ∈ own.map (·.2)) :
    ENL X (.DictComp kx vx [⟨tg, iter, ifs, 0⟩] scope pos) j (dDc fi g ft fk fe (own.map (·.2))) :=
  ⟨PE.imp (pe_dc (tk := tX X.K fk) (tv := tX X.K fe) (tt := tTst X.K ft) (g := tGt X.K ws g) hc hN hi.pi ok (fun s H C cl fp => (hg s H C cl fp).pg) (fun s H C cl fp => (ht s H C cl fp).pts) (fun s H C cl fp => (hk s H C cl fp).pe) (fun s H C cl fp => (he s H C cl fp).pe) hs) fun σ H Q ⟨ρ, F, d, e, l, h, k⟩ => dc_t (e.wiL l) hw e h k⟩
theorem setDc_end {K : PySem.W.Frag} {i : Nat} {b : Bool} {DD : Ends} {σ : L2.St} {H F0 H0 F : Hp} {ρ : Env} {d : D} (e : EnvS K F0 H0 ρ σ F H) (k : Post K F0 H0 DD (.nx (setNew i b d ρ))) {a : Addr} {ob : HO} {F' H' : Hp} (x : Ext F H F' H') (h2 : F' a = none) (h3 : H a = none) (h4 : H' a = some ob) (h5 : OwnRep K F' d ob) : gName i (.ref a) σ H' DD.nx := by
  cases b with
  | true => exact k _ F' H' (e.setOwn x h3 h2 h4 h5)
  | false =>
    obtain ⟨F2, x2, r2⟩ := frzNew x h2 h3 h4 h5
    exact k _ F2 H' ((e.to x2).set r2)
theorem sx_setDc (i : Nat) (b : Bool) {y : Str} {py : Pos} (hc : X.calm = true) (hN : X.N.Nodup) (hy : X.N[i]? = some y) (hyl : X.env.scope.names.lookup y = some .local)
    (hsw : swapsWith (.DictComp kx vx [⟨tg, iter, ifs, 0⟩] scope pos) (some (.Name y py)) spos.line X.env = pure true) (hi : EI X tg iter fi) (ok : BlkOk X.N X.env.scope scope own)
    (hg : InBlk X scope fun Y => EG Y tg ws g) (ht : InBlk X scope fun Y => ETs Y ifs ft) (hk : InBlk X scope fun Y => EX Y kx fk) (he : InBlk X scope fun Y => EX Y vx fe) (hs : ∀ x, foldedSetIterable iter X.env x = pure x) (hw : ∀ j ∈ ws, j ∈ own.map (·.2)) :
    SX X (.Assign [.Name y py] (.DictComp kx vx [⟨tg, iter, ifs, 0⟩] scope pos) spos) (sLcSet i b (dDc fi g ft fk fe (own.map (·.2)))) :=
  sx_mk (ps_setDc' (tk := tX X.K fk) (tv := tX X.K fe) (tt := tTst X.K ft) (g := tGt X.K ws g) hc hN hy hyl hsw hi.pi ok (fun s H C cl fp => (hg s H C cl fp).pg) (fun s H C cl fp => (ht s H C cl fp).pts) (fun s H C cl fp => (hk s H C cl fp).pe) (fun s H C cl fp => (he s H C cl fp).pe) hs) fun D σ H F0 H0 ρ F o e h k => by
    simp only [sLcSet, Option.bind_eq_some_iff, Option.some.injEq] at h
    obtain ⟨d, h1, rfl⟩ := h
    exact dc_t (Q := fun x H1 => gName i x σ H1 D.nx) e.env.wiOk hw e.env h1 fun a ob F' H' x h2 h3 h4 h5 => setDc_end e k x h2 h3 h4 h5
theorem sxl_setDc (i : Nat) (b : Bool) {y : Str} {py : Pos} (hc : X.calm = true) (hN : X.N.Nodup) (hy : X.N[i]? = some y) (hyl : X.env.scope.names.lookup y = some .local)
    (hsw : swapsWith (.DictComp kx vx [⟨tg, iter, ifs, 0⟩] scope pos) (some (.Name y py)) spos.line X.env = pure true) (hi : EIL X tg iter j fi) (ok : BlkOk X.N X.env.scope scope own)
    (hg : InBlk X scope fun Y => EG Y tg ws g) (ht : InBlk X scope fun Y => ETs Y ifs ft) (hk : InBlk X scope fun Y => EX Y kx fk) (he : InBlk X scope fun Y => EX Y vx fe) (hs : ∀ x, foldedSetIterable iter X.env x = pure x) (hw : ∀ j ∈ ws, j ∈ own.map (·.2)) :
    SXL X (.Assign [.Name y py] (.DictComp kx vx [⟨tg, iter, ifs, 0⟩] scope pos) spos) j (sLcSet i b (dDc fi g ft fk fe (own.map (·.2)))) :=
  ⟨PS.imp (ps_setDc' (tk := tX X.K fk) (tv := tX X.K fe) (tt := tTst X.K ft) (g := tGt X.K ws g) hc hN hy hyl hsw hi.pi ok (fun s H C cl fp => (hg s H C cl fp).pg) (fun s H C cl fp => (ht s H C cl fp).pts) (fun s H C cl fp => (hk s H C cl fp).pe) (fun s H C cl fp => (he s H C cl fp).pe) hs) fun D σ H ⟨F0, H0, ρ, F, o, e, l, h, k⟩ => by
    simp only [sLcSet, Option.bind_eq_some_iff, Option.some.injEq] at h
    obtain ⟨d, h1, rfl⟩ := h
    exact dc_t (Q := fun x H1 => gName i x σ H1 D.nx) (e.env.wiL l) hw e.env h1 fun a ob F' H' x h2 h3 h4 h5 => setDc_end e k x h2 h3 h4 h5⟩
theorem needs_set {i : Nat} {b : Bool} {f : Den} (n : Needs j f) : Needs j (sLcSet i b f) := fun ρ d e => by
  simp only [sLcSet, Option.bind_eq_some_iff] at e
  obtain ⟨x, h1, _⟩ := e
  exact n ρ x h1
end
/-- {k: v} -/
def dDisp1 (f g : Den) : Den := fun ρ => (f ρ).bind fun k => (keyOf k).bind fun _ => (g ρ).bind fun v => some (.dict [(k, v)])
theorem en_disp1 (hk : EX X kx fk) (hv : EX X vx fe) : EN X (.Dict [some kx] [vx] pos) (dDisp1 fk fe) :=
  mkN (pe_disp (pps_cons hk.pe hv.pe pps_nil) rfl rfl (fun z => nomatch z) (by simp)) fun σ H Q ρ F d e h k => by
    simp only [dDisp1, Option.bind_eq_some_iff, Option.some.injEq] at h
    obtain ⟨x, h1, kk, h2, y, h3, rfl⟩ := h
    have ey := keyOf_eq h2
    subst ey
    intro p hp
    have e1 := e.ext (.own (o := .dK []) e.sub hp)
    refine ⟨ρ, F, _, e1, h1, fun u F1 H1 x1 r1 => ⟨ρ, F1, y, e1.ext x1, h3, fun w F2 H2 x2 r2 => ?_⟩⟩
    have x12 := x1.trans x2
    have hFp : F p = none := e.sub.free hp
    have hH2 : H2 p = some (.dK []) := x12.h _ _ upd_same
    have hF2 : F2 p = none := x12.new p (by rw [upd_same]; exact fun z => nomatch z) hFp
    have ek : u = kV kk := by
      cases kk with
      | inl i => cases r1; rfl
      | inr i => cases r1; rfl
    subst ek
    refine ⟨hH2, [(kk, w)], rfl, by simp, k p _ F2 _ ?_ hF2 hp upd_same (.dK (.cons r2 .nil))⟩
    have x0 : Ext F H F2 H2 := (Ext.own (o := .dK []) e.sub hp).trans x12
    exact .mut x0 hp hF2
end
end Zx
/-! Zx14: what the printed derivations use beside the rules. -/
namespace Zx
open PySem PySem.Spec L2
def vOk (sc : Scope) (x : Str) : Bool := visB sc x && (!(x == ("__debug__" : Str)) && !(x == ("__classdict__" : Str)))
theorem vOk_parts {sc : Scope} {x : Str} (h : vOk sc x = true) : visB sc x = true ∧ (x == ("__debug__" : Str)) = false ∧ (x == ("__classdict__" : Str)) = false := by
  unfold vOk at h
  simp only [Bool.and_eq_true, Bool.not_eq_true'] at h
  exact ⟨h.1, h.2.1, h.2.2⟩
theorem PE.or {X : Cx} {e : Expr} {t t' : TE} (h : PE X e t) (h' : PE X e t') : PE X e (fun σ H Q => t σ H Q ∨ t' σ H Q) := ⟨fun pins s σ H Q I hw => hw.elim (h.run pins s σ H Q I) (h'.run pins s σ H Q I)⟩
theorem PI.or {X : Cx} {tg e : Expr} {t t' : TI} (h : PI X tg e t) (h' : PI X tg e t') : PI X tg e (fun σ H Q => t σ H Q ∨ t' σ H Q) := ⟨fun pins s σ H Q I hw => hw.elim (h.run pins s σ H Q I) (h'.run pins s σ H Q I)⟩
def dCall (fl : DenL) (fn : List D → Option D) : Den := fun ρ => (fl ρ).bind fn
section
variable {X : Cx} {a b c e : Expr} {f g h : Den} {pos p : Pos} {fl : DenL} {x : Str} {es : List Expr} {k n : Nat} {fn : List D → Option D}
theorem vX (i : Nat) (hN : X.N[i]? = some x) (h : vOk X.env.scope x = true) : EX X (.Name x pos) (vR i) := let ⟨h2, h3, h4⟩ := vOk_parts h; ex_var i hN h2 h3 h4
theorem vE (i : Nat) (hN : X.N[i]? = some x) (h : vOk X.env.scope x = true) : EB X (.Name x pos) (vB i) := let ⟨h2, h3, h4⟩ := vOk_parts h; eb_var i hN h2 h3 h4
theorem cX (F : FX X.prog X.w X.K X.mg X.base k x n fn) (hr : Room k X.A) (hg : Gl X x) (hdb : (x == ("__debug__" : Str)) = false) (ha : EA X (a :: es) fl) (hn : (a :: es).length = n)
    (he : starEach (a :: es) X.env = (false, eval a X.env) :: starEach es X.env) (hpl : (backTo pos (starEach es X.env)).any (·.1) = false) (hl : ∀ ρ ds, fl ρ = some ds → ds.length = n) : EX X (.Call (.Name x p) (a :: es) [] pos) (dCall fl fn) := ex_call F hr hg hdb ha hn he hpl hl
/-- any list or tuple is walked -/
theorem ei_seq {tg : Expr} (ha : EX X a f) : EI X tg a (iSeq f) :=
  ⟨PI.imp (PI.or (ei_list (tg := tg) ha).pi (ei_tup (tg := tg) ha).pi) fun σ H R ⟨ρ, F, ds, e, h1, k⟩ => by
    unfold iSeq at h1
    rw [Option.bind_eq_some_iff] at h1
    obtain ⟨x, h2, h3⟩ := h1
    unfold seqOf at h3
    split at h3
    · cases h3
      exact .inl ⟨ρ, F, ds, e, by simp only [h2, Option.bind_some], k⟩
    · cases h3
      exact .inr ⟨ρ, F, ds, e, by simp only [h2, Option.bind_some], k⟩
    · cases h3⟩
/-- a test for which one's own list is frozen, but not longer -/
def bTmp (i : Nat) (fb : DenB) : DenB := fun ρ => fb (frz i ρ)
theorem et_tmp (i : Nat) {fb : DenB} (ht : ET X c fb) : ET X c (bTmp i fb) :=
  ⟨PT.imp ht.pt fun σ H Q ⟨ρ, F, b, e, h1, k⟩ => by
    have e0 : EnvS X.K F F ρ σ F H := ⟨e, ⟨.refl _, e.sub, e.sub, fun a h1 h2 => absurd h2 h1⟩, fun i d a g1 g2 => by
      obtain ⟨ov, h1, q, o, h2, h3, h4, h5⟩ := e.at_ i _ g1
      rw [g2] at h1
      cases h1
      cases h2
      exact h3⟩
    obtain ⟨F', e'⟩ := e0.frz i
    exact ⟨_, F', b, e'.env, h1, fun F2 H2 x => k F H2 ⟨.refl _, x.h, e.sub.trans x.h, fun _ _ h => h⟩⟩⟩
end
def mulI : D → D → Option D | .int i, .int j => mulD (.int i) (.int j) | _, _ => none
def repD : D → D → Option D | .list xs, .int j => mulD (.list xs) (.int j) | _, _ => none
def catL : D → D → Option D | .list xs, .list ys => addD (.list xs) (.list ys) | _, _ => none
section
variable {X : Cx} {a b : Expr} {f g : Den} {pos : Pos}
theorem ex_mulI (ha : EB X a f) (hb : EB X b g) : EX X (.BinOp a .Mult b pos) (d2 mulI f g) := ex_mul ha hb
theorem en_repD (ha : EB X a f) (hb : EB X b g) : EN X (.BinOp a .Mult b pos) (d2 repD f g) := en_rep ha hb
theorem en_catL (ha : EB X a f) (hb : EB X b g) : EN X (.BinOp a .Add b pos) (d2 catL f g) := en_cat ha hb
end
theorem Room.u68 {k : Nat} {A : Around} (r : Room k A) : A.units + 68 < cLine := by have := r.un; omega
theorem gl_of {X : Cx} {x : Str} (h : X.env.kindOf x = some .globalImplicit) : Gl X x := h
/-- the i-th top statement -/
abbrev topOf (P : Program) (i : Nat) : Stmt := P.main.body.getD i (.Pass ⟨0, 0, 0, 0⟩)
end Zx
/-! Zx15: [::-1], sum(d.values()), dicts compared, dict([..]). -/
namespace Zx
open PySem PySem.Spec L2
section
variable {X : Cx} {a b e : Expr} {f g : Den} {p apos cpos pos : Pos}
theorem Room.u0 {k : Nat} {A : Around} (r : Room k A) : A.units < cLine := by have := r.un; omega
def revD : D → Option D | .list xs => some (.list xs.reverse) | _ => none
theorem en_rev {k : Nat} {p1 p2 p3 : Pos} (ha : EB X a f) : EN X (.Subscript a (.Slice none none (some (.UnaryOp .USub (.Constant (.int 1) k p1) p2)) p3) pos) (d1 revD f) :=
  mkN (pe_revL ha.pe) fun σ H Q ρ F d e h k => by
    simp only [d1, Option.bind_eq_some_iff] at h
    obtain ⟨x, h1, h2⟩ := h
    unfold revD at h2
    split at h2
    · cases h2
      refine ⟨ρ, F, _, e, h1, fun v F1 H1 x1 r1 => ?_⟩
      obtain ⟨q, xs, rfl, hq, rq⟩ := r1.list x1.le
      exact ⟨q, xs, rfl, .inl (.inl hq), fun w hw => k w _ F1 _ (x1.trans (.own x1.le hw)) (x1.le.free hw) (x1.h.free hw) upd_same (.lst rq.reverse)⟩
    · cases h2
/-! ### sum(d.values()) -/
theorem preSum_eq (is : List Int) : preSum (fun i => is.getD i 0) is.length = is.sum := by
  have h : ∀ (is : List Int) n, n ≤ is.length → preSum (fun i => is.getD i 0) n = (is.take n).sum := fun is n => by
    induction n with
    | zero => intro _; rfl
    | succ n ih =>
      intro hn
      have hlt : n < is.length := hn
      show preSum _ n + is.getD n 0 = _
      rw [ih (by omega), List.take_add_one, List.getElem?_eq_getElem hlt, List.sum_append, List.getD_eq_getElem?_getD, List.getElem?_eq_getElem hlt]
      simp
  rw [h is is.length (Nat.le_refl _), List.take_length]
def tSV (K : PySem.W.Frag) (te : TE) : TE := fun σ H Q => te σ H fun x H1 => ∃ (d : Addr) (kvs : List (Key × V)) (is : List Int), x = .ref d ∧ Rd H1 d (.dK kvs) ∧ kvs.map (·.2) = is.map V.int ∧ Q (.int is.sum) H1
theorem pe_sumVals {te : TE} (hc : X.calm = true) (he : PE X e te) (hg : Gl X "sum") (hm : X.mg "sum" = none) (hbase : attributeBase e "values" X.env (eval e X.env) = eval e X.env) (hline : (apos.endLine == cpos.line) = true)
    (hs : N1 X (.Call (.Attribute e "values" apos) [] [] cpos)) : PE X (.Call (.Name "sum" p) [.Call (.Attribute e "values" apos) [] [] cpos] [] pos) (tSV X.K te) := by
  refine ⟨fun pins s σ H Q I hq => ?_⟩
  refine wpAny_Call_Name_kw (ld_blt I hg hm rfl ?_ (by decide) (by decide))
  refine PyProof.Rows.callWith_builtin1 ?_ hs rfl
  have hs' : starEach [.Call (.Attribute e "values" apos) [] [] cpos] X.env = [(false, eval (.Call (.Attribute e "values" apos) [] [] cpos) X.env)] := hs
  rw [hs']
  show wpAny _ _ (spliced [(false, eval (.Call (.Attribute e "values" apos) [] [] cpos) X.env)]) _ _ s
  refine Calls.spliced_cons ?_
  refine wpAny_Call_method (T := "dict") (id := "dict.values") hbase rfl hline F.plainAttrs_dict F.slot_dict_values F.type_dict_values (thn (he.run pins s σ H _ I hq) fun u s1 ⟨x, H1, I1, rx, d, kvs, is, ex, hd, hi, q⟩ => ?_)
  subst ex
  obtain rfl : u = Value.ref d := rx
  obtain ⟨hz, hs0, vs, kv, hdo⟩ := dk_obj I1 hd
  obtain ⟨ep, hat⟩ := hdo.dictAt
  have lk : kvs.length = vs.length := Paired.length kv
  refine ⟨hdo.typeIs, hdo.mapOf.noDict, ?_⟩
  show wpAny _ _ (callWith cpos (.builtin "dict.values") [.ref d] [] []) _ X.xe s1
  refine method_meetsIn F.slot_dict_values F.entry_dict_values rfl (PySem.evalArgs_none ⟨rfl, hdo.typeIs, F.args_dict_values_1 _, _, meets_dict_values (mixKind X.prog X.w) d hs0, ⟨vs, hdo⟩, ?_⟩)
  refine Calls.spliced_nil ?_
  have hh : X.A.handled = none := I1.ok.hd hc
  have I2 : Inv X pins σ H1 { s1 with heap := s1.heap.push { cls := .type "dict_values", data := .fields #[.ref d] } } := I1.kept (t' := s1.toks) fun b ob q => Heap.get?_push_of_some _ q
  generalize hw2 : s1.heap.push { cls := .type "dict_values", data := .fields #[.ref d] } = g2 at I2
  have view : g2.IsValuesView s1.heap.objs.size d := by rw [← hw2]; exact ⟨_, Heap.get?_push_size _ rfl, rfl, rfl⟩
  have hat2 : g2.DictAt (mixKind X.prog X.w) d vs ep := by rw [← hw2]; exact hat.push _
  refine call_sum_walkAnyS ?_
  have KK := PySem.W.kdl_values (prog := X.prog) (w := X.w) (knd := mixKind X.prog X.w) (r := s1.heap.objs.size) (d := d) (kvs := vs) (ep := ep)
  obtain ⟨oI, St, hit, W, st⟩ := KK.iter X.A.in1 { s1 with heap := g2 } (by simpa using hh) ⟨view, hat2⟩
  refine hit _ _ ⟨g2.objs.size, _, _, _, vs.length, _, _, fun i => is.getD i 0, rfl, W.toS, st, fun b hb => ?_, fun i v hv => ?_, fun s' t' hm' => ?_⟩
  · rw [Heap.size_push]
    rcases List.mem_cons.mp hb with e1 | hb
    · rw [e1]; exact Nat.lt_succ_self _
    · rw [List.mem_singleton.mp hb]; exact Nat.lt_succ_of_lt hat2.lt_size
  · obtain ⟨k, hk⟩ := hv
    have hlt : i < vs.length := (List.getElem?_eq_some_iff.mp hk).1
    obtain ⟨qv, g1, g2', g3⟩ := LiI.paired_get kv (List.getElem?_eq_getElem (show i < kvs.length by omega))
    rw [hk] at g1
    cases g1
    have e3 : (kvs.map (·.2))[i]? = some (kvs[i]).2 := by rw [List.getElem?_map, List.getElem?_eq_getElem (show i < kvs.length by omega)]; rfl
    rw [hi, List.getElem?_map, Option.map_eq_some_iff] at e3
    obtain ⟨z, z1, z2⟩ := e3
    rw [← z2] at g3
    obtain ⟨t, rfl⟩ := g3
    exact ⟨t, by show Value.int z t = Value.int (is.getD i 0) t; rw [List.getD_eq_getElem?_getD, z1]; rfl⟩
  · have hk : ∀ b o, g2.get? b = some o → s'.heap.get? b = some o := fun b o e1 =>
      hm'.heap b o (fun hI => absurd (Heap.lt_size e1) (by rw [List.mem_singleton.mp hI]; exact Nat.lt_irrefl _)) (Heap.get?_push_of_some _ e1)
    have hl : vs.length = is.length := by
      have := congrArg List.length hi
      simp at this
      omega
    rw [Moved.eq_with hm', hl, preSum_eq]
    exact ⟨.int is.sum, H1, I2.kept (t' := s'.toks) hk, ⟨_, rfl⟩, q⟩
/-- the values of a dict, all ints -/
def sumVD : D → Option D
  | .dict kds => if notMk kds then (intsOf (kds.map (·.2))).bind fun is => some (.int is.sum) else none
  | _ => none
theorem RpK.vals {K : PySem.W.Frag} {F : Hp} : ∀ {kds : List (D × D)} {kvs : List (Key × V)}, RpK K F kds kvs → RpL K F (kds.map (·.2)) (kvs.map (·.2))
  | _, _, .nil => .nil
  | _, _, .cons r t => .cons r t.vals
theorem ex_sumVals (hc : X.calm = true) (he : EB X e f) (hg : Gl X "sum") (hm : X.mg "sum" = none) (hbase : attributeBase e "values" X.env (eval e X.env) = eval e X.env) (hline : (apos.endLine == cpos.line) = true)
    (hs : N1 X (.Call (.Attribute e "values" apos) [] [] cpos)) : EX X (.Call (.Name "sum" p) [.Call (.Attribute e "values" apos) [] [] cpos] [] pos) (d1 sumVD f) :=
  mkX (pe_sumVals hc he.pe hg hm hbase hline hs) fun σ H Q ρ F d e h k => by
    simp only [d1, Option.bind_eq_some_iff] at h
    obtain ⟨x, h1, h2⟩ := h
    unfold sumVD at h2
    split at h2
    · split at h2
      · rename_i kds hn
        simp only [Option.bind_eq_some_iff, Option.some.injEq] at h2
        obtain ⟨is, h2, rfl⟩ := h2
        refine ⟨ρ, F, _, e, h1, fun u F1 H1 x1 r1 => ?_⟩
        obtain ⟨q, kvs, rfl, rq, rk⟩ := r1.dictK x1.le hn
        have e1 := intsOf_eq h2
        have e2 := rk.vals
        rw [e1] at e2
        exact ⟨q, kvs, is, rfl, rq, e2.ints_inv, k _ F1 H1 x1 (.int _)⟩
      · cases h2
    · cases h2
/-! ### dicts of ints compared, where they are equal -/
def dsame (kds lds : List (D × D)) : Bool := decide (kds.length = lds.length) && kds.all fun p => match p.2, dGet lds p.1 with | .int i, some (.int j) => decide (i = j) | _, _ => false
def eqDD : D → D → Option Bool
  | .dict kds, .dict lds => if notMk kds && (notMk lds && dsame kds lds) then some true else none
  | _, _ => none
def neDD : D → D → Option Bool
  | .dict kds, .dict lds => if notMk kds && (notMk lds && dsame kds lds) then some false else none
  | _, _ => none
theorem dsame_ok {K : PySem.W.Frag} {F : Hp} {lds : List (D × D)} {ls : List (Key × V)} (rl : RpK K F lds ls) : ∀ {kds : List (D × D)} {ks : List (Key × V)}, RpK K F kds ks → (∀ p ∈ kds, (match p.2, dGet lds p.1 with | .int i, some (.int j) => decide (i = j) | _, _ => false) = true) → ∀ p ∈ ks, valV ls p.1 = some p.2 ∧ flatB p.2 = true
  | _, _, .nil, _, p, h => by cases h
  | _, _, .cons (k := k) (d := d) (v := v) r t, h, p, hp => by
    rcases List.mem_cons.mp hp with rfl | hp
    · have h1 := h _ List.mem_cons_self
      rcases rl.get k with ⟨g1, g2⟩ | ⟨w, d', g1, g2, g3⟩
      · simp only [g2] at h1
        cases h1
      · simp only [g2] at h1
        split at h1
        · rename_i i j e1 e2
          cases e2
          have := of_decide_eq_true h1
          subst this
          cases r
          cases g3
          exact ⟨g1, rfl⟩
        · cases h1
    · exact dsame_ok rl t (fun q hq => h q (List.mem_cons_of_mem _ hq)) p hp
theorem op_dictRd {op : CmpOp} {k : Bool} (hop : (op = .Eq ∧ k = true) ∨ (op = .NotEq ∧ k = false)) (hu : X.A.units < cLine) : OpR X (compareOp op) (fun x y H Q => ∃ (a b : Addr) (ks ls : List (Key × V)), x = .ref a ∧ y = .ref b ∧ Rd H a (.dK ks) ∧ Rd H b (.dK ls) ∧ ks.length = ls.length ∧ (∀ p ∈ ks, valV ls p.1 = some p.2 ∧ flatB p.2 = true) ∧ Q (.bl k) H) := by
  intro pins s σ H x y v u Q I rx ry hh
  obtain ⟨a, b, ks, ls, rfl, rfl, ea, eb, hlen, hp, q⟩ := hh
  cases rx
  cases ry
  obtain ⟨z1, ya, va, ra, da⟩ := dk_obj I ea
  obtain ⟨z2, yb, vb, rb, db⟩ := dk_obj I eb
  have hl : va.length = vb.length := ra.length.symm.trans (hlen.trans rb.length)
  rcases hop with ⟨rfl, rfl⟩ | ⟨rfl, rfl⟩
  · exact PySem.W.keq_eq (knd := mixKind X.prog X.w) (r := true) ya yb da db hu (fun _ => hits_all rb ra hp) (fin_bl I q (by rw [hl]; simp))
  · exact PySem.W.keq_ne (knd := mixKind X.prog X.w) (r := true) ya yb da db hu (fun _ => hits_all rb ra hp) (fin_bl I q (by rw [hl]; simp))
theorem dd_parts {x y : D} {k : Bool} {b : Bool} {o : D → D → Option Bool} (ho : o = eqDD ∧ k = true ∨ o = neDD ∧ k = false) (h : o x y = some b) : b = k ∧ ∃ kds lds, x = .dict kds ∧ y = .dict lds ∧ notMk kds = true ∧ notMk lds = true ∧ dsame kds lds = true := by
  rcases ho with ⟨rfl, rfl⟩ | ⟨rfl, rfl⟩
  · unfold eqDD at h
    split at h
    · split at h
      · rename_i kds lds hc
        cases h
        simp only [Bool.and_eq_true] at hc
        exact ⟨rfl, kds, lds, rfl, rfl, hc.1, hc.2.1, hc.2.2⟩
      · cases h
    · cases h
  · unfold neDD at h
    split at h
    · split at h
      · rename_i kds lds hc
        cases h
        simp only [Bool.and_eq_true] at hc
        exact ⟨rfl, kds, lds, rfl, rfl, hc.1, hc.2.1, hc.2.2⟩
      · cases h
    · cases h
theorem ec_dict {op : CmpOp} {k : Bool} {o : D → D → Option Bool} (hop : (op = .Eq ∧ k = true) ∨ (op = .NotEq ∧ k = false)) (ho : o = eqDD ∧ k = true ∨ o = neDD ∧ k = false) (hu : X.A.units < cLine) (ha : EB X a f) (hb : EB X b g) : EC X op a b (b2 o f g) :=
  ⟨PC.imp (pc_op (op_dictRd hop hu) ha.pe hb.pe) fun σ H Q ⟨ρ, F, c, e, h, k'⟩ => by
    simp only [b2, Option.bind_eq_some_iff] at h
    obtain ⟨x, h1, y, h2, h3⟩ := h
    refine ⟨ρ, F, x, e, h1, fun u F1 H1 x1 r1 => ⟨ρ, F1, y, e.ext x1, h2, fun w F2 H2 x2 r2 => ?_⟩⟩
    obtain ⟨rfl, kds, lds, rfl, rfl, n1, n2, hs⟩ := dd_parts ho h3
    obtain ⟨p1, ks, rfl, q1, rk⟩ := (r1.ext x2).dictK x2.le n1
    obtain ⟨p2, ls, rfl, q2, rl⟩ := r2.dictK x2.le n2
    unfold dsame at hs
    rw [Bool.and_eq_true, List.all_eq_true] at hs
    exact ⟨p1, p2, ks, ls, rfl, rfl, q1, q2, by rw [rk.length, rl.length]; exact of_decide_eq_true hs.1, dsame_ok rl rk hs.2, k' F2 H2 (x1.trans x2)⟩⟩
theorem ec_eqDD (hu : X.A.units < cLine) (ha : EB X a f) (hb : EB X b g) : EC X .Eq a b (b2 eqDD f g) := ec_dict (.inl ⟨rfl, rfl⟩) (.inl ⟨rfl, rfl⟩) hu ha hb
theorem ec_neDD (hu : X.A.units < cLine) (ha : EB X a f) (hb : EB X b g) : EC X .NotEq a b (b2 neDD f g) := ec_dict (.inr ⟨rfl, rfl⟩) (.inr ⟨rfl, rfl⟩) hu ha hb
/-! ### dict([(k, v), ..]) -/
def dOf : List D → List (D × D) → Option (List (D × D))
  | [], acc => some acc
  | .tuple [k, v] :: r, acc => (keyOf k).bind fun _ => dOf r (dPut acc k v)
  | _, _ => none
def dictD : D → Option D | .list ds => (dOf ds []).bind fun kds => some (.dict kds) | _ => none
theorem dOf_ok {K : PySem.W.Frag} {F : Hp} : ∀ {ds : List D} {vs : List V} {acc out : List (D × D)} {kvs : List (Key × V)}, RpL K F ds vs → RpK K F acc kvs → dOf ds acc = some out →
    ∃ (ps : List Addr) (more : List (Key × V)), vs = ps.map V.ref ∧ Paired (fun (p : Addr) (kv : Key × V) => F p = some (.tup [kV kv.1, kv.2])) ps more ∧ RpK K F out (mergeK kvs more)
  | _, _, acc, out, kvs, .nil, ra, h => by
    cases h
    exact ⟨[], [], rfl, .nil, ra⟩
  | _, _, acc, out, kvs, .cons (d := d) (ds := ds) (v := v) r t, ra, h => by
    unfold dOf at h
    split at h
    · rename_i hx; cases hx
    · rename_i k w r' hx
      cases hx
      rw [Option.bind_eq_some_iff] at h
      obtain ⟨kk, h1, h2⟩ := h
      have ey := keyOf_eq h1
      subst ey
      cases r with
      | tup ha hr =>
        cases hr with
        | cons r1 hr =>
          cases hr with
          | cons r2 hr =>
            cases hr
            rename_i a v1 v2
            have ek : v1 = kV kk := by
              cases kk with
              | inl i => cases r1; rfl
              | inr i => cases r1; rfl
            subst ek
            obtain ⟨ps, more, e1, e2, e3⟩ := dOf_ok t (ra.put kk r2) h2
            exact ⟨a :: ps, (kk, v2) :: more, by rw [e1]; rfl, .cons ha e2, e3⟩
    · cases h
theorem paired_mono {α β : Type} {P Q : α → β → Prop} (h : ∀ a b, P a b → Q a b) : ∀ {as : List α} {bs : List β}, Paired P as bs → Paired Q as bs
  | _, _, .nil => .nil
  | _, _, .cons r t => .cons (h _ _ r) (paired_mono h t)
theorem en_dictP (hc : X.calm = true) (hg : Gl X "dict") (hm : X.mg "dict" = none) (ha : EB X a f) (hs : N1 X a) : EN X (.Call (.Name "dict" p) [a] [] pos) (d1 dictD f) :=
  en_c1 (pe_callTy (call_dictP hc) hg hm rfl (pa_cons ha.pe pa_nil hs) (by decide) (by decide) hs rfl) fun x u d F H Q e s ru k => by
    unfold dictD at e
    split at e
    · rw [Option.bind_eq_some_iff] at e
      obtain ⟨kds, h1, h2⟩ := e
      cases h2
      obtain ⟨q, xs, rfl, hq, rq⟩ := ru.list s
      obtain ⟨ps, more, rfl, e2, e3⟩ := dOf_ok rq .nil h1
      exact ⟨q, ps, more, rfl, .inl (.inl hq), paired_mono (fun p kv hp => .inl (.inl (s _ _ hp))) e2, fun p' hp => k p' _ hp (.dK e3)⟩
    · cases e
end
end Zx
/-! Y1: reading denotations: loops, the draws, fractions. -/
namespace Zx
open PySem PySem.Spec L2
/-! ### loops -/
theorem forL_ok {g : DenG} {fb : DenS} (P : Nat → Env → Prop) : ∀ (ds : List D) (i : Nat) (ρ : Env), P i ρ →
    (∀ j d ρ, ds[j]? = some d → P (i + j) ρ → ∃ ρ1 o, g d ρ = some ρ1 ∧ fb ρ1 = some o ∧ ((∃ ρ2, (o = .nx ρ2 ∨ o = .ct ρ2) ∧ P (i + j + 1) ρ2))) → ∃ ρ', forL g fb ds ρ = some (.nx ρ') ∧ P (i + ds.length) ρ'
  | [], i, ρ, h, _ => ⟨ρ, rfl, h⟩
  | d :: ds, i, ρ, h, hs => by
    obtain ⟨ρ1, o, h1, h2, ρ2, h3, h4⟩ := hs 0 d ρ rfl h
    obtain ⟨ρ', h5, h6⟩ := forL_ok P ds (i + 1) ρ2 h4 fun j e τ hj hp => by
      have := hs (j + 1) e τ (by simpa using hj) (by rw [show i + (j + 1) = i + 1 + j by omega]; exact hp)
      rw [show i + (j + 1) + 1 = i + 1 + j + 1 by omega] at this
      exact this
    refine ⟨ρ', ?_, by rw [List.length_cons, show i + (ds.length + 1) = i + 1 + ds.length by omega]; exact h6⟩
    rcases h3 with rfl | rfl
    · simp only [forL, h1, h2, Option.bind_some]; exact h5
    · simp only [forL, h1, h2, Option.bind_some]; exact h5
/-- a loop whose turns all go on -/
theorem sFor_ok {fi : DenI} {g : DenG} {fb : DenS} {ρ : Env} {ds : List D} (P : Nat → Env → Prop) (hi : fi ρ = some ds) (h0 : P 0 ρ)
    (hs : ∀ j d ρ, ds[j]? = some d → P j ρ → ∃ ρ1 o, g d ρ = some ρ1 ∧ fb ρ1 = some o ∧ ∃ ρ2, (o = .nx ρ2 ∨ o = .ct ρ2) ∧ P (j + 1) ρ2) : ∃ ρ', sFor fi g fb ρ = some (.nx ρ') ∧ P ds.length ρ' := by
  obtain ⟨ρ', h1, h2⟩ := forL_ok P ds 0 ρ h0 fun j d τ hj hp => by
    rw [Nat.zero_add] at hp ⊢
    exact hs j d τ hj hp
  rw [Nat.zero_add] at h2
  exact ⟨ρ', by unfold sFor; rw [hi]; exact h1, h2⟩
theorem sSeq_nx {f g : DenS} {ρ ρ' : Env} (h : f ρ = some (.nx ρ')) : sSeq f g ρ = g ρ' := by
  unfold sSeq
  rw [h]
  rfl
theorem sSeq_rt {f g : DenS} {ρ : Env} {d : D} (h : f ρ = some (.rt d)) : sSeq f g ρ = some (.rt d) := by
  unfold sSeq
  rw [h]
  rfl
theorem sIf_t {c : DenB} {f g : DenS} {ρ : Env} (h : c ρ = some true) : sIf c f g ρ = f ρ := by
  unfold sIf
  rw [h]
  rfl
theorem sIf_f {c : DenB} {f g : DenS} {ρ : Env} (h : c ρ = some false) : sIf c f g ρ = g ρ := by
  unfold sIf
  rw [h]
  rfl
/-- small numbers may be multiplied -/
def Sm (n : Nat) (a : Int) : Prop := a.natAbs < 2 ^ n
theorem log2_lt {a n : Nat} (h : a < 2 ^ n) (hn : 0 < n) : a.log2 < n := by
  rcases Nat.eq_zero_or_pos a with rfl | ha
  · simpa using hn
  · exact (Nat.log2_lt (by omega)).mpr h
theorem mulOk_of {a b : Int} (ha : a.natAbs < 2 ^ 10000) (hb : b.natAbs < 2 ^ 10000) : mulOk a b = true := by
  unfold mulOk
  have := log2_lt ha (by decide)
  have := log2_lt hb (by decide)
  exact decide_eq_true (by omega)
section
@[simp] theorem vR_s (i : Nat) {ρ : Env} : vR i ρ = (match ρ[i]? with | some (.fz d) => some d | _ => none) := (rfl)
@[simp] theorem vB_s (i : Nat) {ρ : Env} : vB i ρ = (match ρ[i]? with | some (.fz d) => some d | some (.ow d) => some d | _ => none) := (rfl)
@[simp] theorem kD_s (d : D) {ρ : Env} : kD d ρ = (some d) := (rfl)
@[simp] theorem d1_s (op : D → Option D) (f : Den) {ρ : Env} : d1 op f ρ = ((f ρ).bind op) := (rfl)
@[simp] theorem d2_s (op : D → D → Option D) (f g : Den) {ρ : Env} : d2 op f g ρ = ((f ρ).bind fun x => (g ρ).bind fun y => op x y) := (rfl)
@[simp] theorem d3_s (op : D → D → D → Option D) (f g h : Den) {ρ : Env} : d3 op f g h ρ = ((f ρ).bind fun x => (g ρ).bind fun y => (h ρ).bind fun z => op x y z) := (rfl)
@[simp] theorem b1_s (op : D → Option Bool) (f : Den) {ρ : Env} : b1 op f ρ = ((f ρ).bind op) := (rfl)
@[simp] theorem b2_s (op : D → D → Option Bool) (f g : Den) {ρ : Env} : b2 op f g ρ = ((f ρ).bind fun x => (g ρ).bind fun y => op x y) := (rfl)
@[simp] theorem bV_s (f : DenB) {ρ : Env} : bV f ρ = ((f ρ).bind fun b => some (.bool b)) := (rfl)
@[simp] theorem bCh_s (op op' : D → D → Option Bool) (f g h : Den) {ρ : Env} : bCh op op' f g h ρ = ((f ρ).bind fun x => (g ρ).bind fun y => (op x y).bind fun b => if b then (h ρ).bind fun z => op' y z else some false) := (rfl)
@[simp] theorem bNot_s (f : DenB) {ρ : Env} : bNot f ρ = ((f ρ).bind fun b => some (!b)) := (rfl)
@[simp] theorem bAnd_s (f g : DenB) {ρ : Env} : bAnd f g ρ = ((f ρ).bind fun b => if b then g ρ else some false) := (rfl)
@[simp] theorem bOr_s (f g : DenB) {ρ : Env} : bOr f g ρ = ((f ρ).bind fun b => if b then some true else g ρ) := (rfl)
@[simp] theorem bYes_s {ρ : Env} : bYes  ρ = (some true) := (rfl)
@[simp] theorem bTmp_s (i : Nat) (fb : DenB) {ρ : Env} : bTmp i fb ρ = (fb (frz i ρ)) := (rfl)
@[simp] theorem dIf_s (c : DenB) (f g : Den) {ρ : Env} : dIf c f g ρ = ((c ρ).bind fun b => if b then f ρ else g ρ) := (rfl)
@[simp] theorem dAnd_s (f g : Den) {ρ : Env} : dAnd f g ρ = ((f ρ).bind fun x => match x with | .bool true => g ρ | .bool false => some (.bool false) | _ => none) := (rfl)
@[simp] theorem dOr_s (f g : Den) {ρ : Env} : dOr f g ρ = ((f ρ).bind fun x => match x with | .bool true => some (.bool true) | .bool false => g ρ | _ => none) := (rfl)
@[simp] theorem lNil_s {ρ : Env} : lNil  ρ = (some []) := (rfl)
@[simp] theorem lCons_s (f : Den) (g : DenL) {ρ : Env} : lCons f g ρ = ((f ρ).bind fun x => (g ρ).bind fun xs => some (x :: xs)) := (rfl)
@[simp] theorem lStar_s (f : Den) (g : DenL) {ρ : Env} : lStar f g ρ = ((f ρ).bind fun x => (seqOf x).bind fun ys => (g ρ).bind fun xs => some (ys ++ xs)) := (rfl)
@[simp] theorem mkT_s (g : DenL) {ρ : Env} : mkT g ρ = ((g ρ).bind fun xs => if xs.length ≤ 1000000 then some (.tuple xs) else none) := (rfl)
@[simp] theorem mkL_s (g : DenL) {ρ : Env} : mkL g ρ = ((g ρ).bind fun xs => if xs.length ≤ 1000000 then some (.list xs) else none) := (rfl)
@[simp] theorem dCall_s (fl : DenL) (fn : List D → Option D) {ρ : Env} : dCall fl fn ρ = ((fl ρ).bind fn) := (rfl)
@[simp] theorem sSeq_s (f g : DenS) {ρ : Env} : sSeq f g ρ = ((f ρ).bind fun o => match o with | .nx ρ' => g ρ' | o => some o) := (rfl)
@[simp] theorem sSet_s (i : Nat) (f : Den) {ρ : Env} : sSet i f ρ = ((f ρ).bind fun d => some (.nx (ρ.set i (.fz d)))) := (rfl)
@[simp] theorem sOwn_s (i : Nat) (f : Den) {ρ : Env} : sOwn i f ρ = ((f ρ).bind fun d => some (.nx (ρ.set i (.ow d)))) := (rfl)
@[simp] theorem sIf_s (c : DenB) (f g : DenS) {ρ : Env} : sIf c f g ρ = ((c ρ).bind fun b => if b then f ρ else g ρ) := (rfl)
@[simp] theorem sRet_s (f : Den) {ρ : Env} : sRet f ρ = ((f ρ).bind fun d => some (.rt d)) := (rfl)
@[simp] theorem sAsg_s (g : DenG) (f : Den) {ρ : Env} : sAsg g f ρ = ((f ρ).bind fun d => (g d ρ).bind fun ρ' => some (.nx ρ')) := (rfl)
@[simp] theorem sDrop_s (f : Den) {ρ : Env} : sDrop f ρ = ((f ρ).bind fun _ => some (.nx ρ)) := (rfl)
@[simp] theorem sPar_s (i j : Nat) (f : DenL) {ρ : Env} : sPar i j f ρ = ((f ρ).bind fun ds => match ds with | [d, e] => some (.nx ((ρ.set i (.fz d)).set j (.fz e))) | _ => none) := (rfl)
@[simp] theorem sNo_s {ρ : Env} : sNo  ρ = (none) := (rfl)
@[simp] theorem sNx_s {ρ : Env} : sNx  ρ = (some (.nx ρ)) := (rfl)
@[simp] theorem sRetN_s {ρ : Env} : sRetN  ρ = (some (.rt .none)) := (rfl)
@[simp] theorem sBk_s {ρ : Env} : sBk  ρ = (some (.bk ρ)) := (rfl)
@[simp] theorem sCt_s {ρ : Env} : sCt  ρ = (some (.ct ρ)) := (rfl)
@[simp] theorem sFrz_s (i : Nat) (f : DenS) {ρ : Env} : sFrz i f ρ = (f (frz i ρ)) := (rfl)
@[simp] theorem sApp_s (i : Nat) (f : Den) {ρ : Env} : sApp i f ρ = ((f ρ).bind fun d => (owL ρ i).bind fun xs => if xs.length < 1000000 then some (.nx (ρ.set i (.ow (.list (xs ++ [d]))))) else none) := (rfl)
@[simp] theorem sExt_s (i : Nat) (f : Den) {ρ : Env} : sExt i f ρ = ((f ρ).bind fun d => (listOf d).bind fun ys => (owL ρ i).bind fun xs => if xs.length + ys.length ≤ 1000000 then some (.nx (ρ.set i (.ow (.list (xs ++ ys))))) else none) := (rfl)
@[simp] theorem sStD_s (i : Nat) (fk f : Den) {ρ : Env} : sStD i fk f ρ = ((f ρ).bind fun d => (fk ρ).bind fun j => (owD ρ i).bind fun xs => (putD xs j d).bind fun ys => some (.nx (ρ.set i (.ow (.dict ys))))) := (rfl)
@[simp] theorem sLcSet_s (i : Nat) (own : Bool) (f : Den) {ρ : Env} : sLcSet i own f ρ = ((f ρ).bind fun d => some (.nx (setNew i own d ρ))) := (rfl)
@[simp] theorem gN_s (i : Nat) {d : D} {ρ : Env} : gN i d ρ = (some (ρ.set i (.fz d))) := (rfl)
@[simp] theorem gT_s (gs : DenGs) (n : Nat) {d : D} {ρ : Env} : gT gs n d ρ = (match d with | .tuple ds => if ds.length = n then gs ds ρ else none | _ => none) := (rfl)
@[simp] theorem gLs_s (gs : DenGs) (n : Nat) {d : D} {ρ : Env} : gLs gs n d ρ = (match d with | .list ds => if ds.length = n then gs ds ρ else none | _ => none) := (rfl)
@[simp] theorem oNone_s {ρ : Env} : oNone  ρ = (some none) := (rfl)
@[simp] theorem oSome_s (f : Den) {ρ : Env} : oSome f ρ = ((f ρ).bind fun x => match x with | .int i => some (some i) | _ => none) := (rfl)
@[simp] theorem dSl_s (f : Den) (l h : DenO) {ρ : Env} : dSl f l h ρ = ((f ρ).bind fun x => (l ρ).bind fun lo => (h ρ).bind fun hi => cutD lo hi x) := (rfl)
@[simp] theorem iSeq_s (f : Den) {ρ : Env} : iSeq f ρ = ((f ρ).bind seqOf) := (rfl)
@[simp] theorem iR1_s (f : Den) {ρ : Env} : iR1 f ρ = ((f ρ).bind rg1) := (rfl)
@[simp] theorem iR2_s (f g : Den) {ρ : Env} : iR2 f g ρ = ((f ρ).bind fun x => (g ρ).bind fun y => rg2 x y) := (rfl)
@[simp] theorem iEn_s (f : Den) {ρ : Env} : iEn f ρ = ((f ρ).bind fun x => match x with | .list xs => some (enumL xs) | _ => none) := (rfl)
@[simp] theorem iZp_s (f g : Den) {ρ : Env} : iZp f g ρ = ((f ρ).bind fun x => (g ρ).bind fun y => match x, y with | .list xs, .list ys => some (zipL xs ys) | _, _ => none) := (rfl)
@[simp] theorem dDisp1_s (f g : Den) {ρ : Env} : dDisp1 f g ρ = ((f ρ).bind fun k => (keyOf k).bind fun _ => (g ρ).bind fun v => some (.dict [(k, v)])) := (rfl)
@[simp] theorem runX_s (fb : DenS) (n : Nat) (ds : List D) : runX fb n ds = (match fb (env0 n ds) with | some (.rt d) => some d | some (.rn d) => some d | some (.nx _) => some .none | _ => none) := (rfl)
@[simp] theorem env0_s (n : Nat) (ds : List D) : env0 n ds = ds.map .fz ++ List.replicate (n - ds.length) .no := (rfl)
@[simp] theorem frz_s (i : Nat) (ρ : Env) : frz i ρ = (match ρ[i]? with | some (.ow d) => ρ.set i (.fz d) | _ => ρ) := (rfl)
@[simp] theorem owL_s (i : Nat) (ρ : Env) : owL ρ i = (match ρ[i]? with | some (.ow (.list xs)) => some xs | _ => none) := (rfl)
@[simp] theorem gsNil_s (ρ : Env) : gsNil [] ρ = some ρ := (rfl)
@[simp] theorem gsCons_s (g : DenG) (gs : DenGs) (d : D) (r : List D) (ρ : Env) : gsCons g gs (d :: r) ρ = (g d ρ).bind fun ρ' => gs r ρ' := (rfl)
@[simp] theorem ltI_s (a b : Int) : ltI (.int a) (.int b) = some (decide (a < b)) := (rfl)
@[simp] theorem leI_s (a b : Int) : leI (.int a) (.int b) = some (decide (a ≤ b)) := (rfl)
@[simp] theorem gtI_s (a b : Int) : gtI (.int a) (.int b) = some (decide (b < a)) := (rfl)
@[simp] theorem geI_s (a b : Int) : geI (.int a) (.int b) = some (decide (b ≤ a)) := (rfl)
@[simp] theorem addD_i (a b : Int) : addD (.int a) (.int b) = some (.int (a + b)) := (rfl)
@[simp] theorem addD_l (a b : List D) : addD (.list a) (.list b) = if a.length + b.length ≤ 1000000 then some (.list (a ++ b)) else none := (rfl)
@[simp] theorem addD_t (a b : List D) : addD (.tuple a) (.tuple b) = if a.length + b.length ≤ 1000000 then some (.tuple (a ++ b)) else none := (rfl)
@[simp] theorem subD_i (a b : Int) : subD (.int a) (.int b) = some (.int (a - b)) := (rfl)
@[simp] theorem mulI_i (a b : Int) : mulI (.int a) (.int b) = if mulOk a b then some (.int (a * b)) else none := (rfl)
@[simp] theorem negD_i (a : Int) : negD (.int a) = some (.int (-a)) := (rfl)
@[simp] theorem lenD_l (a : List D) : lenD (.list a) = some (.int a.length) := (rfl)
@[simp] theorem lenD_t (a : List D) : lenD (.tuple a) = some (.int a.length) := (rfl)
@[simp] theorem intD_i (a : Int) : intD (.int a) = some (.int a) := (rfl)
@[simp] theorem intD_b (a : Bool) : intD (.bool a) = some (.int (if a then 1 else 0)) := (rfl)
@[simp] theorem absD_i (i : Int) : absD (.int i) = some (.int (if i < 0 then -i else i)) := (rfl)
@[simp] theorem minD2_i (i j : Int) : minD2 (.int i) (.int j) = some (.int (if j < i then j else i)) := (rfl)
@[simp] theorem maxD2_i (i j : Int) : maxD2 (.int i) (.int j) = some (.int (if j > i then j else i)) := (rfl)
@[simp] theorem ixD_l (xs : List D) (i : Int) : ixD (.list xs) (.int i) = atI xs i := (rfl)
@[simp] theorem ixD_t (xs : List D) (i : Int) : ixD (.tuple xs) (.int i) = atI xs i := (rfl)
@[simp] theorem seqOf_l (xs : List D) : seqOf (.list xs) = some xs := (rfl)
@[simp] theorem seqOf_t (xs : List D) : seqOf (.tuple xs) = some xs := (rfl)
@[simp] theorem modD_i (a b : Int) : modD (.int a) (.int b) = if 0 < b then some (.int (a % b)) else none := (rfl)
@[simp] theorem fdivD_i (a b : Int) : fdivD (.int a) (.int b) = if 0 < b ∧ b.natAbs.log2 < 9000 then some (.int (a / b)) else none := (rfl)
@[simp] theorem gcdD_i (a b : Int) : gcdD (.int a) (.int b) = some (.int (Nat.gcd a.natAbs b.natAbs : Nat)) := (rfl)
theorem atI_nat (xs : List D) (i : Nat) (h : i < xs.length) : atI xs (i : Int) = xs[i]? := by
  unfold atI ixN
  simp [h]
@[simp] theorem atI_0 (x : D) (xs : List D) : atI (x :: xs) 0 = some x := atI_nat _ 0 (by simp)
@[simp] theorem atI_1 (x y : D) (xs : List D) : atI (x :: y :: xs) 1 = some y := atI_nat _ 1 (by simp)
@[simp] theorem atI_2 (x y z : D) (xs : List D) : atI (x :: y :: z :: xs) 2 = some z := atI_nat _ 2 (by simp)
end
namespace Cm
noncomputable def D__law_draws : DenS :=
  (sSeq (sOwn 1 (mkL lNil))
  (sSeq (sFor (iR1 (d2 minD2 (kD (.int 63)) (d1 lenD (vR 0)))) (gN 2) (sSeq (sSet 3 (d1 absD (d2 ixD (vR 0) (vR 2))))
   (sIf (b2 geI (vR 3) (d2 powD (kD (.int 10)) (kD (.int 18)))) (sFor (iR1 (kD (.int 60))) (gN 4) (sIf (b2 gtI (vR 3) (kD (.int 0))) (sSeq (sApp 1 (d2 modD (d1 intD (vR 3)) (kD (.int 65536))))
      (sSet 3 (d2 fdivD (vR 3) (kD (.int 65536))))) sNx)) (sSeq (sSet 5 (d2 modD (d1 intD (d2 addD (d2 mulI (vR 3) (kD (.int 48271))) (d2 mulI (d2 addD (vR 2) (kD (.int 1))) (kD (.int 69621))))) (kD (.int 2147483647))))
    (sSeq (sSet 5 (d2 modD (d1 intD (d2 addD (d2 addD (d2 mulI (vR 5) (kD (.int 16807))) (d2 mulI (kD (.int 11)) (vR 2))) (kD (.int 5)))) (kD (.int 2147483629))))
    (sSeq (sApp 1 (d2 modD (d1 intD (vR 5)) (kD (.int 65536))))
    (sApp 1 (d2 modD (d1 intD (d2 fdivD (vR 5) (kD (.int 65536)))) (kD (.int 32768))))))))))
  (sFrz 1 (sRet (vR 1)))))
noncomputable def f__law_draws : List D → Option D := runX D__law_draws 6
noncomputable def D__law_mix : DenS :=
  (sSeq (sSet 3 (kD (.int 0)))
  (sSeq (sIf (b2 gtI (d1 lenD (vR 0)) (kD (.int 0))) (sSet 3 (d2 ixD (vR 0) (d2 modD (d1 intD (vR 1)) (d1 lenD (vR 0))))) sNx)
  (sSeq (sIf (b2 ltI (vR 1) (d1 lenD (vR 0))) (sRet (d2 modD (d1 intD (vR 3)) (vR 2))) sNx)
  (sRet (d2 modD (d1 intD (d2 fdivD (d1 intD (d2 addD (d2 mulI (vR 3) (kD (.int 7919))) (d2 mulI (vR 1) (kD (.int 104729))))) (kD (.int 3)))) (vR 2))))))
noncomputable def f__law_mix : List D → Option D := runX D__law_mix 4
noncomputable def D_fraction : DenS :=
  (sSeq (sIf (b2 ltI (vR 1) (kD (.int 0))) (sPar 0 1 (lCons (d1 negD (vR 0)) (lCons (d1 negD (vR 1)) lNil))) sNx)
  (sSeq (sSet 2 (d2 gcdD (vR 0) (vR 1)))
  (sRet (mkT (lCons (d2 fdivD (vR 0) (vR 2)) (lCons (d2 fdivD (vR 1) (vR 2)) lNil))))))
noncomputable def f_fraction : List D → Option D := runX D_fraction 3
noncomputable def D_plus : DenS :=
  (sRet (dCall (lCons (d2 addD (d2 mulI (d2 ixD (vR 0) (kD (.int 0))) (d2 ixD (vR 1) (kD (.int 1)))) (d2 mulI (d2 ixD (vR 1) (kD (.int 0))) (d2 ixD (vR 0) (kD (.int 1))))) (lCons (d2 mulI (d2 ixD (vR 0) (kD (.int 1))) (d2 ixD (vR 1) (kD (.int 1)))) lNil)) f_fraction))
noncomputable def f_plus : List D → Option D := runX D_plus 2
noncomputable def D_times : DenS :=
  (sRet (dCall (lCons (d2 mulI (d2 ixD (vR 0) (kD (.int 0))) (d2 ixD (vR 1) (kD (.int 0)))) (lCons (d2 mulI (d2 ixD (vR 0) (kD (.int 1))) (d2 ixD (vR 1) (kD (.int 1)))) lNil)) f_fraction))
noncomputable def f_times : List D → Option D := runX D_times 2
noncomputable def D_total : DenS :=
  (sSeq (sSet 1 (mkT (lCons (kD (.int 0)) (lCons (kD (.int 1)) lNil))))
  (sSeq (sFor (iSeq (vR 0)) (gN 2) (sSet 1 (dCall (lCons (vR 1) (lCons (vR 2) lNil)) f_plus)))
  (sRet (vR 1))))
noncomputable def f_total : List D → Option D := runX D_total 3
end Cm
/-! ### fractions -/
def frD (q : Rat) : D := .tuple [.int q.num, .int q.den]
theorem fraction_eq (a b : Int) (hb : b ≠ 0) (h1 : b.natAbs < 2 ^ 9000) : Cm.f_fraction [.int a, .int b] = some (frD ((a : Rat) / b)) := by
  have hg : 0 < Nat.gcd a.natAbs b.natAbs := Nat.gcd_pos_of_pos_right _ (by omega)
  have hl : (Nat.gcd a.natAbs b.natAbs).log2 < 9000 := log2_lt (Nat.lt_of_le_of_lt (Nat.gcd_le_right _ (by omega)) h1) (by decide)
  have key : ∀ (a b : Int), 0 < b → frD ((a : Rat) / b) = .tuple [.int (a / (Nat.gcd a.natAbs b.natAbs : Nat)), .int (b / (Nat.gcd a.natAbs b.natAbs : Nat))] := fun a b hb => by
    unfold frD
    rw [← Rat.divInt_eq_div, Rat.num_divInt, Rat.den_divInt, if_neg (by omega)]
    have e1 : b.sign = 1 := Int.sign_eq_one_of_pos hb
    have e2 : b.gcd a = Nat.gcd a.natAbs b.natAbs := by rw [Int.gcd_comm]; rfl
    have e3 : ((b.natAbs : Nat) : Int) = b := by omega
    rw [e1, e2, Int.one_mul, Int.natCast_ediv, e3]
  unfold Cm.f_fraction Cm.D_fraction
  by_cases h : b < 0
  · have := key (-a) (-b) (by omega)
    rw [show (((-a : Int) : Rat) / ((-b : Int) : Rat)) = (a : Rat) / b by
      rw [Rat.intCast_neg, Rat.intCast_neg]; grind] at this
    rw [this]
    simp [h, hl, hb]
  · rw [key a b (by omega)]
    simp [h, hl, hb]
/-- a fraction of small parts -/
def Sq (q : Rat) : Prop := q.num.natAbs < 2 ^ 4000 ∧ q.den < 2 ^ 4000
theorem pow_mul_lt {a b m n : Nat} (ha : a < 2 ^ m) (hb : b < 2 ^ n) : a * b < 2 ^ (m + n) := by
  rw [Nat.pow_add]
  exact Nat.mul_lt_mul'' ha hb
theorem plus_eq (p q : Rat) (hp : Sq p) (hq : Sq q) : Cm.f_plus [frD p, frD q] = some (frD (p + q)) := by
  have hw : ∀ a b : Nat, a < 2 ^ 4000 → b < 2 ^ 4000 → a * b < 2 ^ 9000 := fun a b ha hb => Nat.lt_of_lt_of_le (pow_mul_lt ha hb) (Nat.pow_le_pow_right (by decide) (by decide))
  have h1 : ∀ a b : Int, a.natAbs < 2 ^ 4000 → b.natAbs < 2 ^ 4000 → mulOk a b = true := fun a b ha hb => mulOk_of (Nat.lt_of_lt_of_le ha (Nat.pow_le_pow_right (by decide) (by decide))) (Nat.lt_of_lt_of_le hb (Nat.pow_le_pow_right (by decide) (by decide)))
  have e1 := h1 p.num q.den hp.1 (by simpa using hq.2)
  have e2 := h1 q.num p.den hq.1 (by simpa using hp.2)
  have e3 := h1 p.den q.den (by simpa using hp.2) (by simpa using hq.2)
  have hd : ((p.den : Int) * (q.den : Int)) ≠ 0 := by
    have := p.den_nz; have := q.den_nz
    exact Int.mul_ne_zero (by omega) (by omega)
  have key := fraction_eq (p.num * q.den + q.num * p.den) (p.den * q.den) hd (by rw [Int.natAbs_mul]; exact hw _ _ (by simpa using hp.2) (by simpa using hq.2))
  have e4 : ((p.num * q.den + q.num * p.den : Int) : Rat) / ((p.den * q.den : Int) : Rat) = p + q := by
    rw [← Rat.divInt_eq_div, ← Int.natCast_mul, Rat.divInt_ofNat, Rat.add_def']
  rw [e4] at key
  unfold Cm.f_plus Cm.D_plus
  simp [frD, e1, e2, e3] at key ⊢
  rw [key]
  rfl
theorem times_eq (p q : Rat) (hp : Sq p) (hq : Sq q) : Cm.f_times [frD p, frD q] = some (frD (p * q)) := by
  have hw : ∀ a b : Nat, a < 2 ^ 4000 → b < 2 ^ 4000 → a * b < 2 ^ 9000 := fun a b ha hb => Nat.lt_of_lt_of_le (pow_mul_lt ha hb) (Nat.pow_le_pow_right (by decide) (by decide))
  have h1 : ∀ a b : Int, a.natAbs < 2 ^ 4000 → b.natAbs < 2 ^ 4000 → mulOk a b = true := fun a b ha hb => mulOk_of (Nat.lt_of_lt_of_le ha (Nat.pow_le_pow_right (by decide) (by decide))) (Nat.lt_of_lt_of_le hb (Nat.pow_le_pow_right (by decide) (by decide)))
  have e1 := h1 p.num q.num hp.1 hq.1
  have e3 := h1 p.den q.den (by simpa using hp.2) (by simpa using hq.2)
  have hd : ((p.den : Int) * (q.den : Int)) ≠ 0 := by
    have := p.den_nz; have := q.den_nz
    exact Int.mul_ne_zero (by omega) (by omega)
  have key := fraction_eq (p.num * q.num) (p.den * q.den) hd (by rw [Int.natAbs_mul]; exact hw _ _ (by simpa using hp.2) (by simpa using hq.2))
  have e4 : ((p.num * q.num : Int) : Rat) / ((p.den * q.den : Int) : Rat) = p * q := by
    rw [← Rat.divInt_eq_div, ← Int.natCast_mul, Rat.divInt_ofNat, Rat.mul_def']
  rw [e4] at key
  unfold Cm.f_times Cm.D_times
  simp [frD, e1, e3] at key ⊢
  rw [key]
  rfl
theorem run_seq {A B : DenS} {n : Nat} {ds : List D} {ρ' : Env} {r : Option D} (h : A (env0 n ds) = some (.nx ρ')) (h2 : (match B ρ' with | some (.rt d) => some d | some (.rn d) => some d | some (.nx _) => some .none | _ => none) = r) : runX (sSeq A B) n ds = r := by
  rw [runX_s, sSeq_nx h]
  exact h2
theorem sum_take_succ {qs : List Rat} {j : Nat} {q : Rat} (h : qs[j]? = some q) : (qs.take (j + 1)).sum = (qs.take j).sum + q := by
  rw [List.take_add_one, h, List.sum_append]
  simp [Rat.add_zero]
/-- total of fractions whose partial sums are small -/
theorem total_eq (qs : List Rat) (hs : ∀ n, Sq ((qs.take n).sum)) (hq : ∀ q ∈ qs, Sq q) : Cm.f_total [.list (qs.map frD)] = some (frD qs.sum) := by
  unfold Cm.f_total Cm.D_total
  refine run_seq (ρ' := [.fz (.list (qs.map frD)), .fz (frD 0), .no]) (by simp [frD]) ?_
  obtain ⟨ρ', h1, h2⟩ := sFor_ok (fi := iSeq (vR 0)) (g := gN 2) (fb := sSet 1 (dCall (lCons (vR 1) (lCons (vR 2) lNil)) Cm.f_plus)) (ρ := [.fz (.list (qs.map frD)), .fz (frD 0), .no]) (ds := qs.map frD)
    (fun n ρ => ∃ s, ρ = [.fz (.list (qs.map frD)), .fz (frD ((qs.take n).sum)), s]) (by simp) ⟨.no, by simp⟩ (fun j d ρ hd ⟨s, hp⟩ => by
      rw [List.getElem?_map, Option.map_eq_some_iff] at hd
      obtain ⟨q, hq1, rfl⟩ := hd
      subst hp
      refine ⟨_, _, rfl, by simp [plus_eq _ _ (hs j) (hq q (List.mem_of_getElem? hq1))]; rfl, _, .inl rfl, .fz (frD q), ?_⟩
      simp [sum_take_succ hq1])
  obtain ⟨s, rfl⟩ := h2
  rw [sSeq_nx h1]
  simp
end Zx
/-! Y2: the draws. -/
namespace Zx
open PySem PySem.Spec L2
@[simp] theorem ixD_s (ns : List Int) (i : Int) : ixD (scrD ns) (.int i) = atI (ns.map .int) i := (rfl)
@[simp] theorem lenD_s (ns : List Int) : lenD (scrD ns) = some (.int ns.length) := by simp [scrD, lenD]
@[simp] theorem pow18 : powD (.int 10) (.int 18) = some (.int 1000000000000000000) := (rfl)
theorem rgL_at {lo : Int} {n j : Nat} {d : D} (h : (rgL lo n)[j]? = some d) : j < n ∧ d = .int (lo + j) := by
  unfold rgL at h
  rw [List.getElem?_map, Option.map_eq_some_iff] at h
  obtain ⟨i, h1, rfl⟩ := h
  obtain ⟨h2, h3⟩ := List.getElem?_eq_some_iff.mp h1
  rw [List.length_range] at h2
  rw [List.getElem_range] at h3
  subst h3
  exact ⟨h2, rfl⟩
@[simp] theorem rgL_len (lo : Int) (n : Nat) : (rgL lo n).length = n := by simp [rgL]
theorem rg1_ok {n : Int} (h0 : 0 ≤ n) (h : n ≤ 1000000) : rg1 (.int n) = some (rgL 0 n.toNat) := by
  unfold rg1
  simp only
  rw [if_pos (by omega)]
theorem rg2_ok {m n : Int} (hm : -1000 ≤ m) (hm' : m ≤ 1000000) (h0 : -1000 ≤ n) (h : n ≤ 1000000) : rg2 (.int m) (.int n) = some (rgL m (n - m).toNat) := by
  unfold rg2
  simp only
  rw [if_pos ⟨by omega, by omega⟩]
/-- numbers below 65536 -/
def Dr (m : Nat) (dr : List Int) : Prop := (∀ d ∈ dr, 0 ≤ d ∧ d < 65536) ∧ dr.length ≤ m
theorem Dr.add {m : Nat} {dr : List Int} {d : Int} (h : Dr m dr) (h0 : 0 ≤ d) (h1 : d < 65536) : Dr (m + 1) (dr ++ [d]) := by
  refine ⟨fun x hx => ?_, by rw [List.length_append]; have := h.2; simpa using this⟩
  rcases List.mem_append.mp hx with hx | hx
  · exact h.1 x hx
  · rw [List.mem_singleton] at hx
    subst hx
    exact ⟨h0, h1⟩
theorem Dr.le {m n : Nat} {dr : List Int} (h : Dr m dr) (hl : m ≤ n) : Dr n dr := ⟨h.1, Nat.le_trans h.2 hl⟩
theorem mulOk_i {a b : Int} {m n : Nat} (ha : a.natAbs < 2 ^ m) (hb : b.natAbs < 2 ^ n) (hm : 2 ^ m ≤ 2 ^ 10000) (hn : 2 ^ n ≤ 2 ^ 10000) : mulOk a b = true := mulOk_of (Nat.lt_of_lt_of_le ha hm) (Nat.lt_of_lt_of_le hb hn)
theorem mulOk64 {a b : Int} (ha : a.natAbs < 2 ^ 64) (hb : b.natAbs < 2 ^ 64) : mulOk a b = true := by
  unfold mulOk
  have := log2_lt ha (by decide)
  have := log2_lt hb (by decide)
  exact decide_eq_true (by omega)
theorem draws_ok (ns : List Int) (hn : ns.length ≤ 63) : ∃ dr : List Int, Cm.f__law_draws [scrD ns] = some (.list (dr.map .int)) ∧ Dr 3780 dr := by
  unfold Cm.f__law_draws Cm.D__law_draws
  obtain ⟨ρ', h1, h2⟩ := sFor_ok (fi := iR1 (d2 minD2 (kD (.int 63)) (d1 lenD (vR 0)))) (g := gN 2)
    (fb := sSeq (sSet 3 (d1 absD (d2 ixD (vR 0) (vR 2)))) (sIf (b2 geI (vR 3) (d2 powD (kD (.int 10)) (kD (.int 18)))) (sFor (iR1 (kD (.int 60))) (gN 4) (sIf (b2 gtI (vR 3) (kD (.int 0))) (sSeq (sApp 1 (d2 modD (d1 intD (vR 3)) (kD (.int 65536)))) (sSet 3 (d2 fdivD (vR 3) (kD (.int 65536))))) sNx))
      (sSeq (sSet 5 (d2 modD (d1 intD (d2 addD (d2 mulI (vR 3) (kD (.int 48271))) (d2 mulI (d2 addD (vR 2) (kD (.int 1))) (kD (.int 69621))))) (kD (.int 2147483647))))
        (sSeq (sSet 5 (d2 modD (d1 intD (d2 addD (d2 addD (d2 mulI (vR 5) (kD (.int 16807))) (d2 mulI (kD (.int 11)) (vR 2))) (kD (.int 5)))) (kD (.int 2147483629))))
          (sSeq (sApp 1 (d2 modD (d1 intD (vR 5)) (kD (.int 65536)))) (sApp 1 (d2 modD (d1 intD (d2 fdivD (vR 5) (kD (.int 65536)))) (kD (.int 32768)))))))))
    (ρ := [.fz (scrD ns), .ow (.list []), .no, .no, .no, .no]) (ds := rgL 0 ns.length)
    (fun n ρ => ∃ dr s2 s3 s4 s5, ρ = [.fz (scrD ns), .ow (.list (dr.map .int)), s2, s3, s4, s5] ∧ Dr (60 * n) dr)
    (by
      have : (if (ns.length : Int) < 63 then (ns.length : Int) else 63) = ns.length := by split <;> omega
      simp [this]
      rw [rg1_ok (by omega) (by omega)]
      simp) ⟨[], .no, .no, .no, .no, by simp, by simp [Dr]⟩ (fun j d ρ hd ⟨dr, s2, s3, s4, s5, hp, hdr⟩ => by
      obtain ⟨hj, rfl⟩ := rgL_at hd
      subst hp
      have ha : atI (ns.map PyData.int) (0 + (j : Int)) = some (.int ns[j]) := by
        rw [Int.zero_add, atI_nat _ j (by simpa using hj)]
        simp [hj]
      refine ⟨[.fz (scrD ns), .ow (.list (dr.map .int)), .fz (.int (0 + j)), s3, s4, s5], ?_⟩
      generalize hr : (if ns[j] < 0 then -ns[j] else ns[j]) = rest
      have hr0 : 0 ≤ rest := by subst hr; split <;> omega
      have hq : 0 + (j : Int) < 63 := by omega
      generalize hk : (0 : Int) + (j : Int) = k at ha hq
      have hk0 : 0 ≤ k := by omega
      have e1 : sSet 3 (d1 absD (d2 ixD (vR 0) (vR 2))) [.fz (scrD ns), .ow (.list (dr.map .int)), .fz (.int k), s3, s4, s5] = some (.nx [.fz (scrD ns), .ow (.list (dr.map .int)), .fz (.int k), .fz (.int rest), s4, s5]) := by
        simp [ha, hr]
      rw [sSeq_nx e1]
      by_cases hb : 1000000000000000000 ≤ rest
      · obtain ⟨ρ2, g1, g2⟩ := sFor_ok (fi := iR1 (kD (.int 60))) (g := gN 4) (fb := sIf (b2 gtI (vR 3) (kD (.int 0))) (sSeq (sApp 1 (d2 modD (d1 intD (vR 3)) (kD (.int 65536)))) (sSet 3 (d2 fdivD (vR 3) (kD (.int 65536))))) sNx)
          (ρ := [.fz (scrD ns), .ow (.list (dr.map .int)), .fz (.int k), .fz (.int rest), s4, s5]) (ds := rgL 0 60)
          (fun n ρ => ∃ dr r t4, ρ = [.fz (scrD ns), .ow (.list (dr.map .int)), .fz (.int k), .fz (.int r), t4, s5] ∧ Dr (60 * j + n) dr) (by simp [rg1]) ⟨dr, rest, s4, rfl, hdr⟩
          (fun i e τ he ⟨dr', r, t4, hp', hd'⟩ => by
            subst hp'
            obtain ⟨hi, rfl⟩ := rgL_at he
            by_cases h0 : 0 < r
            · have hm1 := Int.emod_nonneg r (b := 65536) (by omega)
              have hm2 := Int.emod_lt_of_pos r (b := 65536) (by omega)
              have hl := hd'.2
              refine ⟨_, _, rfl, by
                have hlt : dr'.length < 1000000 := by omega
                simp [h0, hlt]; rfl, _, .inl rfl, dr' ++ [r % 65536], r / 65536, .fz (.int (0 + i)), by simp, ?_⟩
              exact (hd'.add hm1 hm2)
            · exact ⟨_, _, rfl, by simp [h0]; rfl, _, .inl rfl, dr', r, .fz (.int (0 + i)), by simp, hd'.le (by omega)⟩)
        obtain ⟨dr', r, t4, rfl, hd'⟩ := g2
        refine ⟨_, rfl, ?_, _, .inl rfl, dr', .fz (.int k), .fz (.int r), t4, s5, rfl, hd'.le (by simp; omega)⟩
        rw [sIf_t (by simp [hb])]
        exact g1
      · have hlt : rest < 1000000000000000000 := by omega
        have m1 : mulOk rest 48271 = true := mulOk64 (by omega) (by decide)
        have m2 : mulOk (k + 1) 69621 = true := mulOk64 (by omega) (by decide)
        generalize hx : (rest * 48271 + (k + 1) * 69621) % 2147483647 = x
        have hx1 : 0 ≤ x := by rw [← hx]; exact Int.emod_nonneg _ (by omega)
        have hx2 : x < 2147483647 := by rw [← hx]; exact Int.emod_lt_of_pos _ (by omega)
        have m3 : mulOk x 16807 = true := mulOk64 (by omega) (by decide)
        have m4 : mulOk 11 k = true := mulOk64 (by decide) (by omega)
        generalize hy : (x * 16807 + 11 * k + 5) % 2147483629 = y
        have hl := hdr.2
        have l1 : dr.length < 1000000 := by omega
        have l2 : dr.length + 1 < 1000000 := by omega
        refine ⟨_, rfl, by
          rw [sIf_f (by simp; omega)]
          simp [m1, m2, m3, m4, hx, hy, l1, l2]; rfl, _, .inl rfl, dr ++ [y % 65536, y / 65536 % 32768], .fz (.int k), .fz (.int rest), s4, .fz (.int y), by simp, ?_⟩
        have a1 := Int.emod_nonneg y (b := 65536) (by omega)
        have a2 := Int.emod_lt_of_pos y (b := 65536) (by omega)
        have a3 := Int.emod_nonneg (y / 65536) (b := 32768) (by omega)
        have a4 := Int.emod_lt_of_pos (y / 65536) (b := 32768) (by omega)
        have := (hdr.add a1 a2).add a3 (by omega)
        rw [List.append_assoc] at this
        exact this.le (by omega))
  obtain ⟨dr, s2, s3, s4, s5, rfl, hdr⟩ := h2
  refine ⟨dr, run_seq (ρ' := [.fz (scrD ns), .ow (.list []), .no, .no, .no, .no]) (by simp) ?_, hdr.le (by simp; omega)⟩
  rw [sSeq_nx h1]
  simp
theorem atI_int (xs : List D) (i : Int) (h0 : 0 ≤ i) (h : i < xs.length) : atI xs i = xs[i.toNat]? := by
  have := atI_nat xs i.toNat (by omega)
  rw [show ((i.toNat : Nat) : Int) = i by omega] at this
  exact this
theorem mix_ok {m : Nat} {dr : List Int} (hd : Dr m dr) (hm : m ≤ 100000) (k many : Int) (hk : 0 ≤ k) (hk2 : k < 1000000) (h0 : 0 < many) : ∃ x, Cm.f__law_mix [.list (dr.map .int), .int k, .int many] = some (.int x) ∧ 0 ≤ x ∧ x < many := by
  unfold Cm.f__law_mix Cm.D__law_mix
  have hl := hd.2
  have cell : ∃ c : Int, sIf (b2 gtI (d1 lenD (vR 0)) (kD (.int 0))) (sSet 3 (d2 ixD (vR 0) (d2 modD (d1 intD (vR 1)) (d1 lenD (vR 0))))) sNx [.fz (.list (dr.map .int)), .fz (.int k), .fz (.int many), .fz (.int 0)] =
      some (.nx [.fz (.list (dr.map .int)), .fz (.int k), .fz (.int many), .fz (.int c)]) ∧ 0 ≤ c ∧ c < 65536 := by
    by_cases hz : 0 < dr.length
    · have hz' : (0 : Int) < dr.length := by omega
      have a1 := Int.emod_nonneg k (b := dr.length) (by omega)
      have a2 := Int.emod_lt_of_pos k hz'
      have ha : atI (dr.map PyData.int) (k % (dr.length : Int)) = some (.int (dr[(k % (dr.length : Int)).toNat]'(by omega))) := by
        have hlt : (k % (dr.length : Int)).toNat < dr.length := by omega
        rw [atI_int _ _ a1 (by simpa using a2), List.getElem?_map, List.getElem?_eq_getElem hlt]
        rfl
      refine ⟨dr[(k % (dr.length : Int)).toNat]'(by omega), ?_, hd.1 _ (List.getElem_mem _)⟩
      simp [hz, ha]
    · refine ⟨0, ?_, by omega, by omega⟩
      simp [hz]
  obtain ⟨c, hc, hc0, hc1⟩ := cell
  have m1 : mulOk c 7919 = true := mulOk64 (by omega) (by decide)
  have m2 : mulOk k 104729 = true := mulOk64 (by omega) (by decide)
  by_cases hkl : k < dr.length
  · refine ⟨c % many, run_seq (ρ' := [.fz (.list (dr.map .int)), .fz (.int k), .fz (.int many), .fz (.int 0)]) (by simp) ?_, Int.emod_nonneg _ (by omega), Int.emod_lt_of_pos _ h0⟩
    rw [sSeq_nx hc]
    simp [hkl, h0]
  · refine ⟨((c * 7919 + k * 104729) / 3) % many, run_seq (ρ' := [.fz (.list (dr.map .int)), .fz (.int k), .fz (.int many), .fz (.int 0)]) (by simp) ?_, Int.emod_nonneg _ (by omega), Int.emod_lt_of_pos _ h0⟩
    rw [sSeq_nx hc]
    have l3 : Nat.log2 3 < 9000 := by decide
    simp [hkl, h0, m1, m2, l3]
end Zx
/-! Y3: dicts with int keys as lists; sizes of fractions. -/
namespace Zx
open PySem PySem.Spec L2
/-! ### dicts with int keys -/
section
variable {β : Type}
def kdE (enc : β → D) (l : List (Int × β)) : List (D × D) := l.map fun p => (.int p.1, enc p.2)
def adE (enc : β → D) (l : List (Int × β)) : D := .dict (kdE enc l)
def getE (l : List (Int × β)) (k : Int) : Option β := (l.find? fun p => p.1 == k).map (·.2)
def putE (l : List (Int × β)) (k : Int) (v : β) : List (Int × β) := if l.any (fun p => p.1 == k) then l.map (fun p => if p.1 == k then (p.1, v) else p) else l ++ [(k, v)]
def NDk (l : List (Int × β)) : Prop := (l.map (·.1)).Nodup
theorem eqv_intI (a b : Int) : PyData.eqv (.int a) (.int b) = (a == b) := by
  have e : PyData.eqv (.int a) (.int b) = decide (a = b) := rfl
  rw [e]
  by_cases h : a = b
  · subst h; simp
  · simp [h]
theorem notMkE (enc : β → D) (l : List (Int × β)) : notMk (kdE enc l) = true := by
  cases l with
  | nil => rfl
  | cons p l => rfl
theorem keyOfI (i : Int) : keyOf (.int i) = some (.inl i) := rfl
theorem dkOfE (enc : β → D) (l : List (Int × β)) (k : Int) : dkOf (adE enc l) (.int k) = some (kdE enc l) := by
  cases l with
  | nil => rfl
  | cons p l => rfl
theorem dGetE (enc : β → D) (l : List (Int × β)) (k : Int) : dGet (kdE enc l) (.int k) = (getE l k).map enc := by
  unfold dGet kdE getE
  induction l with
  | nil => rfl
  | cons p l ih =>
    rw [List.map_cons, List.find?_cons, List.find?_cons]
    simp only [eqv_intI]
    by_cases h : p.1 == k
    · simp [h]
    · simp only [h]
      exact ih
theorem dget3E (enc : β → D) (l : List (Int × β)) (k : Int) (x : D) : dgetD3 (adE enc l) (.int k) x = some (((getE l k).map enc).getD x) := by
  unfold dgetD3
  rw [dkOfE, Option.bind_some, dGetE]
theorem dgetE (enc : β → D) (l : List (Int × β)) (k : Int) : dgetD (adE enc l) (.int k) = (getE l k).map enc := by
  unfold dgetD
  rw [dkOfE, Option.bind_some, dGetE]
theorem dHasE (enc : β → D) (l : List (Int × β)) (k : Int) : dHas (kdE enc l) (.int k) = l.any fun p => p.1 == k := by
  unfold dHas kdE
  rw [List.any_map]
  congr 1
theorem dPutE (enc : β → D) (l : List (Int × β)) (k : Int) (v : β) : dPut (kdE enc l) (.int k) (enc v) = kdE enc (putE l k v) := by
  unfold dPut putE
  rw [dHasE]
  split
  · unfold kdE
    rw [List.map_map, List.map_map]
    refine List.map_congr_left fun p _ => ?_
    simp only [Function.comp, eqv_intI]
    split <;> rfl
  · unfold kdE
    rw [List.map_append]
    rfl
theorem kdE_len (enc : β → D) (l : List (Int × β)) : (kdE enc l).length = l.length := by simp [kdE]
theorem putDE (enc : β → D) (l : List (Int × β)) (k : Int) (v : β) (h : l.length < 1000000) : putD (kdE enc l) (.int k) (enc v) = some (kdE enc (putE l k v)) := by
  rw [← dPutE]
  have h2 : (kdE enc l).length < 1000000 := by rw [kdE_len]; exact h
  have h3 := notMkE enc l
  unfold putD
  split
  · rename_i r ds e1 e2
    cases e2
  · simp [h3, keyOfI, h2]
theorem putE_len (l : List (Int × β)) (k : Int) (v : β) : (putE l k v).length ≤ l.length + 1 := by
  unfold putE
  split <;> simp
theorem putE_keys (l : List (Int × β)) (k : Int) (v : β) : ∀ p ∈ putE l k v, p.1 = k ∨ ∃ q ∈ l, q.1 = p.1 := fun p hp => by
  unfold putE at hp
  split at hp
  · obtain ⟨q, h1, h2⟩ := List.mem_map.mp hp
    refine .inr ⟨q, h1, ?_⟩
    subst h2
    split <;> rfl
  · rcases List.mem_append.mp hp with h | h
    · exact .inr ⟨p, h, rfl⟩
    · rw [List.mem_singleton] at h
      subst h
      exact .inl rfl
theorem putE_nd (l : List (Int × β)) (k : Int) (v : β) (h : NDk l) : NDk (putE l k v) := by
  unfold NDk putE at *
  split
  · have e : ((l.map fun p => if p.1 == k then (p.1, v) else p).map (·.1)) = l.map (·.1) := by
      rw [List.map_map]
      refine List.map_congr_left fun p _ => ?_
      simp only [Function.comp]
      split <;> rfl
    rw [e]
    exact h
  · rename_i hn
    rw [List.map_append, List.nodup_append]
    refine ⟨h, by simp, fun x hx y hy => ?_⟩
    simp at hy
    subst hy
    rintro rfl
    obtain ⟨q, h1, h2⟩ := List.mem_map.mp hx
    exact hn (List.any_eq_true.mpr ⟨q, h1, by simpa using h2⟩)
theorem getE_mem {l : List (Int × β)} {k : Int} {v : β} (h : getE l k = some v) : (k, v) ∈ l := by
  unfold getE at h
  rw [Option.map_eq_some_iff] at h
  obtain ⟨p, h1, h2⟩ := h
  have h3 := List.mem_of_find?_eq_some h1
  have h4 := List.find?_some h1
  simp at h4
  subst h4 h2
  exact h3
theorem getE_of {l : List (Int × β)} (nd : NDk l) : ∀ {p : Int × β}, p ∈ l → getE l p.1 = some p.2 := by
  induction l with
  | nil => intro p h; cases h
  | cons q l ih =>
    intro p h
    unfold NDk at nd
    rw [List.map_cons, List.nodup_cons] at nd
    unfold getE
    rw [List.find?_cons]
    rcases List.mem_cons.mp h with rfl | h
    · simp
    · have hne : ¬ q.1 = p.1 := fun z => nd.1 (List.mem_map.mpr ⟨p, h, z.symm⟩)
      have := ih nd.2 h
      unfold getE at this
      have e : (q.1 == p.1) = false := by simpa using hne
      rw [e]
      exact this
theorem itLE (enc : β → D) (l : List (Int × β)) : itL (kdE enc l) = l.map fun p => .tuple [.int p.1, enc p.2] := by
  unfold itL kdE
  rw [List.map_map]
  rfl
theorem itemsE (enc : β → D) (ρ : Env) (j : Nat) (l : List (Int × β)) (h : ρ[j]? = some (.fz (adE enc l))) : iItemsJ j ρ = some (l.map fun p => .tuple [.int p.1, enc p.2]) := by
  unfold iItemsJ dkSlot
  rw [h]
  simp only [adE, Bool.false_eq_true, if_false, notMkE, if_true, Option.map_some, itLE]
theorem keysE (enc : β → D) (ρ : Env) (j : Nat) (l : List (Int × β)) (h : ρ[j]? = some (.fz (adE enc l))) : iKeysJ j ρ = some (l.map fun p => .int p.1) := by
  unfold iKeysJ dkSlot
  rw [h]
  simp only [adE, Bool.false_eq_true, if_false, notMkE, if_true, Option.map_some]
  unfold kdE
  rw [List.map_map]
  rfl
end
/-! ### sizes of fractions -/
def Sk (n : Nat) (q : Rat) : Prop := q.num.natAbs < 2 ^ n ∧ q.den < 2 ^ n
theorem Sk.sq {n : Nat} {q : Rat} (h : Sk n q) (hn : n ≤ 4000) : Sq q := by
  have := Nat.pow_le_pow_right (show 0 < 2 by decide) hn
  exact ⟨Nat.lt_of_lt_of_le h.1 this, Nat.lt_of_lt_of_le h.2 this⟩
theorem Sk.le {m n : Nat} {q : Rat} (h : Sk m q) (hn : m ≤ n) : Sk n q := by
  have := Nat.pow_le_pow_right (show 0 < 2 by decide) hn
  exact ⟨Nat.lt_of_lt_of_le h.1 this, Nat.lt_of_lt_of_le h.2 this⟩
theorem Sk_mk {n : Nat} {a : Int} {b : Nat} (ha : a.natAbs < 2 ^ n) (hb : b < 2 ^ n) (h0 : b ≠ 0) : Sk n (mkRat a b) := by
  unfold Sk
  rw [Rat.num_mkRat, Rat.den_mkRat, if_neg h0, if_neg h0]
  constructor
  · have : (a / ((b.gcd a.natAbs : Nat) : Int)).natAbs ≤ a.natAbs := Int.natAbs_ediv_le_natAbs _ _
    omega
  · have := Nat.div_le_self b (b.gcd a.natAbs)
    omega
theorem Sk.add {m n : Nat} {p q : Rat} (hp : Sk m p) (hq : Sk n q) : Sk (m + n + 1) (p + q) := by
  rw [Rat.add_def']
  refine Sk_mk ?_ ?_ (Nat.mul_ne_zero p.den_nz q.den_nz)
  · have h1 := pow_mul_lt hp.1 hq.2
    have h2 := pow_mul_lt hp.2 hq.1
    have e1 : (p.num * q.den).natAbs = p.num.natAbs * q.den := by rw [Int.natAbs_mul]; rfl
    have e2 : (q.num * p.den).natAbs = p.den * q.num.natAbs := by rw [Int.natAbs_mul, Nat.mul_comm]; rfl
    have := Int.natAbs_add_le (p.num * q.den) (q.num * p.den)
    rw [Nat.pow_succ]
    omega
  · have := pow_mul_lt hp.2 hq.2
    rw [Nat.pow_succ]
    omega
theorem Sk.mul {m n : Nat} {p q : Rat} (hp : Sk m p) (hq : Sk n q) : Sk (m + n) (p * q) := by
  rw [Rat.mul_def']
  refine Sk_mk ?_ (pow_mul_lt hp.2 hq.2) (Nat.mul_ne_zero p.den_nz q.den_nz)
  rw [Int.natAbs_mul]
  exact pow_mul_lt hp.1 hq.1
theorem Sk.neg {m : Nat} {p : Rat} (hp : Sk m p) : Sk m (-p) := by
  unfold Sk at *
  rw [Rat.neg_num, Rat.neg_den, Int.natAbs_neg]
  exact hp
theorem Sk_int {n : Nat} {a : Int} (h : a.natAbs < 2 ^ n) (hn : 1 ≤ n) : Sk n (a : Rat) := ⟨by simpa using h, Nat.one_lt_two_pow (by omega)⟩
theorem Sk_div {n : Nat} {a b : Int} (ha : a.natAbs < 2 ^ n) (hb : b.natAbs < 2 ^ n) (h0 : 0 < b) : Sk n ((a : Rat) / b) := by
  obtain ⟨c, rfl⟩ := Int.eq_ofNat_of_zero_le (Int.le_of_lt h0)
  have e : (a : Rat) / ((c : Int) : Rat) = mkRat a c := by rw [Rat.mkRat_eq_div]; rfl
  rw [e]
  exact Sk_mk ha (by simpa using hb) (by omega)
/-- a list of small ones has small sums -/
theorem Sk_sum {n : Nat} : ∀ (qs : List Rat), (∀ q ∈ qs, Sk n q) → Sk ((n + 1) * qs.length + 1) qs.sum
  | [], _ => ⟨Nat.two_pow_pos _, Nat.one_lt_two_pow (by omega)⟩
  | q :: qs, h => by
    rw [List.sum_cons, List.length_cons]
    have h1 := h q List.mem_cons_self
    have h2 := Sk_sum qs fun x hx => h x (List.mem_cons_of_mem _ hx)
    refine (h1.add h2).le ?_
    rw [Nat.mul_add, Nat.mul_one]
    omega
theorem total_sk {n : Nat} (qs : List Rat) (h : ∀ q ∈ qs, Sk n q) (hl : (n + 1) * qs.length + 1 ≤ 4000) (hn : n ≤ 4000) : Cm.f_total [.list (qs.map frD)] = some (frD qs.sum) := by
  refine total_eq qs (fun j => ?_) fun q hq => (h q hq).sq hn
  have h1 := Sk_sum (n := n) (qs.take j) fun q hq => h q (List.mem_of_mem_take hq)
  refine h1.sq ?_
  have h2 : (qs.take j).length ≤ qs.length := by rw [List.length_take]; omega
  have := Nat.mul_le_mul_left (n + 1) h2
  omega
end Zx
/-! Y4: comprehensions, loops that return, comparing fractions, minus, the law's own fractions. -/
namespace Zx
open PySem PySem.Spec L2
/-! ### comprehensions -/
theorem lcL_all {g : DenG} {fe : Den} {ρ : Env} (e : D → D) : ∀ (ds : List D), (∀ d ∈ ds, ∃ ρ1, g d ρ = some ρ1 ∧ fe ρ1 = some (e d)) → lcL g bYes fe ρ ds = some (ds.map e)
  | [], _ => rfl
  | d :: ds, h => by
    obtain ⟨ρ1, h1, h2⟩ := h d List.mem_cons_self
    have ih := lcL_all e ds fun x hx => h x (List.mem_cons_of_mem _ hx)
    simp [lcL, h1, h2, ih]
theorem lcL_if {g : DenG} {ft : DenB} {fe : Den} {ρ : Env} (b : D → Bool) (e : D → D) : ∀ (ds : List D), (∀ d ∈ ds, ∃ ρ1, g d ρ = some ρ1 ∧ ft ρ1 = some (b d) ∧ (b d = true → fe ρ1 = some (e d))) → lcL g ft fe ρ ds = some ((ds.filter b).map e)
  | [], _ => rfl
  | d :: ds, h => by
    obtain ⟨ρ1, h1, h2, h3⟩ := h d List.mem_cons_self
    have ih := lcL_if b e ds fun x hx => h x (List.mem_cons_of_mem _ hx)
    cases hb : b d with
    | true => simp [lcL, h1, h2, hb, h3 hb, ih]
    | false => simp [lcL, h1, h2, hb, ih]
theorem dLc_of {fi : DenI} {g : DenG} {ft : DenB} {fe : Den} {vs : List Nat} {ρ : Env} {ds out : List D} (h1 : fi ρ = some ds) (h2 : lcL g ft fe (wipeE ρ vs) ds = some out) (h3 : out.length ≤ 1000000) : dLc fi g ft fe vs ρ = some (.list out) := by
  unfold dLc
  simp [h1, h2, h3]
theorem intsOf_map : ∀ (is : List Int), intsOf (is.map .int) = some is
  | [] => rfl
  | i :: is => by
    rw [List.map_cons, intsOf, intsOf_map is]
    rfl
theorem bools_map : ∀ (is : List Bool), bools (is.map .bool) = some is
  | [] => rfl
  | i :: is => by
    rw [List.map_cons, bools, bools_map is]
    rfl
theorem frD_eqv (p q : Rat) : PyData.eqv (frD p) (frD q) = decide (p = q) := by
  have e : PyData.eqv (frD p) (frD q) = (decide (p.num = q.num) && (decide ((p.den : Int) = q.den) && true)) := rfl
  rw [e]
  by_cases h : p = q
  · subst h; simp
  · have : ¬ (p.num = q.num ∧ p.den = q.den) := fun ⟨h1, h2⟩ => h (Rat.ext h1 h2)
    simp [h]
    intro h1 h2
    exact absurd ⟨h1, by omega⟩ this
theorem neD_fr (p q : Rat) : neD (frD p) (frD q) = some (decide (p ≠ q)) := by
  have e : neD (frD p) (frD q) = some (!PyData.eqv (frD p) (frD q)) := rfl
  rw [e, frD_eqv]
  simp
theorem eqD_fr (p q : Rat) : eqD (frD p) (frD q) = some (decide (p = q)) := by
  have e : eqD (frD p) (frD q) = some (PyData.eqv (frD p) (frD q)) := rfl
  rw [e, frD_eqv]
theorem forL_ret {g : DenG} {fb : DenS} {r : D} (P : Env → Prop) : ∀ (ds : List D) (i : Nat) (d : D) (ρ : Env), ds[i]? = some d → P ρ →
    (∀ j e ρ, j < i → ds[j]? = some e → P ρ → ∃ ρ1 ρ2, g e ρ = some ρ1 ∧ fb ρ1 = some (.nx ρ2) ∧ P ρ2) → (∀ ρ, P ρ → ∃ ρ1, g d ρ = some ρ1 ∧ fb ρ1 = some (.rt r)) → forL g fb ds ρ = some (.rt r)
  | [], i, d, ρ, h, _, _, _ => by simp at h
  | e :: ds, 0, d, ρ, h, hp, _, hr => by
    simp at h
    subst h
    obtain ⟨ρ1, h1, h2⟩ := hr ρ hp
    simp only [forL, h1, h2, Option.bind_some]
  | e :: ds, i + 1, d, ρ, h, hp, hs, hr => by
    obtain ⟨ρ1, ρ2, h1, h2, h3⟩ := hs 0 e ρ (by omega) rfl hp
    simp only [forL, h1, h2, Option.bind_some]
    exact forL_ret P ds i d ρ2 (by simpa using h) h3 (fun j e' τ hj he ht => hs (j + 1) e' τ (by omega) (by simpa using he) ht) hr
namespace Cm
noncomputable def D_minus : DenS :=
  (sRet (dCall (lCons (d2 subD (d2 mulI (d2 ixD (vR 0) (kD (.int 0))) (d2 ixD (vR 1) (kD (.int 1)))) (d2 mulI (d2 ixD (vR 1) (kD (.int 0))) (d2 ixD (vR 0) (kD (.int 1))))) (lCons (d2 mulI (d2 ixD (vR 0) (kD (.int 1))) (d2 ixD (vR 1) (kD (.int 1)))) lNil)) f_fraction))
noncomputable def f_minus : List D → Option D := runX D_minus 2
noncomputable def D__law_fraction : DenS :=
  (sSeq (sPar 2 3 (lCons (d1 absD (vR 0)) (lCons (d1 absD (vR 1)) lNil)))
  (sSeq (sWh (b2 neD (vR 3) (kD (.int 0))) (sPar 2 3 (lCons (vR 3) (lCons (d2 modD (d1 intD (vR 2)) (vR 3)) lNil))))
  (sSeq (sIf (b2 ltI (vR 1) (kD (.int 0))) (sRet (mkT (lCons (d2 fdivD (d1 negD (vR 0)) (vR 2)) (lCons (d2 fdivD (d1 negD (vR 1)) (vR 2)) lNil)))) sNx)
  (sRet (mkT (lCons (d2 fdivD (vR 0) (vR 2)) (lCons (d2 fdivD (vR 1) (vR 2)) lNil)))))))
noncomputable def f__law_fraction : List D → Option D := runX D__law_fraction 4
noncomputable def D__law_plus : DenS :=
  (sRet (dCall (lCons (d2 addD (d2 mulI (d2 ixD (vR 0) (kD (.int 0))) (d2 ixD (vR 1) (kD (.int 1)))) (d2 mulI (d2 ixD (vR 1) (kD (.int 0))) (d2 ixD (vR 0) (kD (.int 1))))) (lCons (d2 mulI (d2 ixD (vR 0) (kD (.int 1))) (d2 ixD (vR 1) (kD (.int 1)))) lNil)) f__law_fraction))
noncomputable def f__law_plus : List D → Option D := runX D__law_plus 2
noncomputable def D__law_times : DenS :=
  (sRet (dCall (lCons (d2 mulI (d2 ixD (vR 0) (kD (.int 0))) (d2 ixD (vR 1) (kD (.int 0)))) (lCons (d2 mulI (d2 ixD (vR 0) (kD (.int 1))) (d2 ixD (vR 1) (kD (.int 1)))) lNil)) f__law_fraction))
noncomputable def f__law_times : List D → Option D := runX D__law_times 2
end Cm
theorem minus_eq (p q : Rat) (hp : Sq p) (hq : Sq q) : Cm.f_minus [frD p, frD q] = some (frD (p - q)) := by
  have hw : ∀ a b : Nat, a < 2 ^ 4000 → b < 2 ^ 4000 → a * b < 2 ^ 9000 := fun a b ha hb => Nat.lt_of_lt_of_le (pow_mul_lt ha hb) (Nat.pow_le_pow_right (by decide) (by decide))
  have h1 : ∀ a b : Int, a.natAbs < 2 ^ 4000 → b.natAbs < 2 ^ 4000 → mulOk a b = true := fun a b ha hb => mulOk_of (Nat.lt_of_lt_of_le ha (Nat.pow_le_pow_right (by decide) (by decide))) (Nat.lt_of_lt_of_le hb (Nat.pow_le_pow_right (by decide) (by decide)))
  have e1 := h1 p.num q.den hp.1 (by simpa using hq.2)
  have e2 := h1 q.num p.den hq.1 (by simpa using hp.2)
  have e3 := h1 p.den q.den (by simpa using hp.2) (by simpa using hq.2)
  have hd : ((p.den : Int) * (q.den : Int)) ≠ 0 := by
    have := p.den_nz; have := q.den_nz
    exact Int.mul_ne_zero (by omega) (by omega)
  have key := fraction_eq (p.num * q.den - q.num * p.den) (p.den * q.den) hd (by rw [Int.natAbs_mul]; exact hw _ _ (by simpa using hp.2) (by simpa using hq.2))
  have e4 : ((p.num * q.den - q.num * p.den : Int) : Rat) / ((p.den * q.den : Int) : Rat) = p - q := by
    rw [← Rat.divInt_eq_div, ← Int.natCast_mul, Rat.divInt_ofNat, Rat.sub_def']
  rw [e4] at key
  unfold Cm.f_minus Cm.D_minus
  simp [frD, e1, e2, e3] at key ⊢
  rw [key]
  rfl
theorem gcd_loop2 (n d : D) : ∀ (b a : Nat), ∃ m, whL (b2 neD (vR 3) (kD (.int 0))) (sPar 2 3 (lCons (vR 3) (lCons (d2 modD (d1 intD (vR 2)) (vR 3)) lNil))) m [.fz n, .fz d, .fz (.int a), .fz (.int b)] = some (.nx [.fz n, .fz d, .fz (.int (Nat.gcd a b : Nat)), .fz (.int 0)]) := by
  intro b
  induction b using Nat.strongRecOn with
  | ind b ih =>
    intro a
    have hne : neD (.int b) (.int 0) = some (decide (b ≠ 0)) := by
      have e : neD (.int b) (.int 0) = some (!decide ((b : Int) = 0)) := rfl
      rw [e]
      simp
    by_cases hb : b = 0
    · subst hb
      refine ⟨1, ?_⟩
      simp [whL, hne]
      rfl
    · obtain ⟨m, hn⟩ := ih (a % b) (Nat.mod_lt _ (by omega)) b
      refine ⟨m + 1, ?_⟩
      have hpos : 0 < b := by omega
      have e : Nat.gcd a b = Nat.gcd b (a % b) := by rw [Nat.gcd_comm, Nat.gcd_rec, Nat.gcd_comm]
      rw [e, ← hn]
      simp [whL, hne, hb, hpos]
theorem absI (a : Int) : (if a < 0 then -a else a) = (a.natAbs : Int) := by split <;> omega
theorem lfrac_eq (a b : Int) (hb : 0 < b) (h1 : b.natAbs < 2 ^ 9000) : Cm.f__law_fraction [.int a, .int b] = some (frD ((a : Rat) / b)) := by
  have hg : 0 < Nat.gcd a.natAbs b.natAbs := Nat.gcd_pos_of_pos_right _ (by omega)
  have hl : (Nat.gcd a.natAbs b.natAbs).log2 < 9000 := log2_lt (Nat.lt_of_le_of_lt (Nat.gcd_le_right _ (by omega)) h1) (by decide)
  have key : frD ((a : Rat) / b) = .tuple [.int (a / (Nat.gcd a.natAbs b.natAbs : Nat)), .int (b / (Nat.gcd a.natAbs b.natAbs : Nat))] := by
    unfold frD
    rw [← Rat.divInt_eq_div, Rat.num_divInt, Rat.den_divInt, if_neg (by omega)]
    have e1 : b.sign = 1 := Int.sign_eq_one_of_pos hb
    have e2 : b.gcd a = Nat.gcd a.natAbs b.natAbs := by rw [Int.gcd_comm]; rfl
    have e3 : ((b.natAbs : Nat) : Int) = b := by omega
    rw [e1, e2, Int.one_mul, Int.natCast_ediv, e3]
  unfold Cm.f__law_fraction Cm.D__law_fraction
  refine run_seq (ρ' := [.fz (.int a), .fz (.int b), .fz (.int a.natAbs), .fz (.int b.natAbs)]) (by simp [absI]) ?_
  obtain ⟨m, hn⟩ := gcd_loop2 (.int a) (.int b) b.natAbs a.natAbs
  rw [sSeq_nx (sWh_of hn), key]
  have hnb : ¬ b < 0 := by omega
  simp [hnb, hl, hg]
theorem lplus_eq (p q : Rat) (hp : Sq p) (hq : Sq q) : Cm.f__law_plus [frD p, frD q] = some (frD (p + q)) := by
  have hw : ∀ a b : Nat, a < 2 ^ 4000 → b < 2 ^ 4000 → a * b < 2 ^ 9000 := fun a b ha hb => Nat.lt_of_lt_of_le (pow_mul_lt ha hb) (Nat.pow_le_pow_right (by decide) (by decide))
  have h1 : ∀ a b : Int, a.natAbs < 2 ^ 4000 → b.natAbs < 2 ^ 4000 → mulOk a b = true := fun a b ha hb => mulOk_of (Nat.lt_of_lt_of_le ha (Nat.pow_le_pow_right (by decide) (by decide))) (Nat.lt_of_lt_of_le hb (Nat.pow_le_pow_right (by decide) (by decide)))
  have e1 := h1 p.num q.den hp.1 (by simpa using hq.2)
  have e2 := h1 q.num p.den hq.1 (by simpa using hp.2)
  have e3 := h1 p.den q.den (by simpa using hp.2) (by simpa using hq.2)
  have hd : 0 < ((p.den : Int) * (q.den : Int)) := by
    have := p.den_pos; have := q.den_pos
    exact Int.mul_pos (by omega) (by omega)
  have key := lfrac_eq (p.num * q.den + q.num * p.den) (p.den * q.den) hd (by rw [Int.natAbs_mul]; exact hw _ _ (by simpa using hp.2) (by simpa using hq.2))
  have e4 : ((p.num * q.den + q.num * p.den : Int) : Rat) / ((p.den * q.den : Int) : Rat) = p + q := by
    rw [← Rat.divInt_eq_div, ← Int.natCast_mul, Rat.divInt_ofNat, Rat.add_def']
  rw [e4] at key
  unfold Cm.f__law_plus Cm.D__law_plus
  simp [frD, e1, e2, e3] at key ⊢
  rw [key]
  rfl
theorem ltimes_eq (p q : Rat) (hp : Sq p) (hq : Sq q) : Cm.f__law_times [frD p, frD q] = some (frD (p * q)) := by
  have hw : ∀ a b : Nat, a < 2 ^ 4000 → b < 2 ^ 4000 → a * b < 2 ^ 9000 := fun a b ha hb => Nat.lt_of_lt_of_le (pow_mul_lt ha hb) (Nat.pow_le_pow_right (by decide) (by decide))
  have h1 : ∀ a b : Int, a.natAbs < 2 ^ 4000 → b.natAbs < 2 ^ 4000 → mulOk a b = true := fun a b ha hb => mulOk_of (Nat.lt_of_lt_of_le ha (Nat.pow_le_pow_right (by decide) (by decide))) (Nat.lt_of_lt_of_le hb (Nat.pow_le_pow_right (by decide) (by decide)))
  have e1 := h1 p.num q.num hp.1 hq.1
  have e3 := h1 p.den q.den (by simpa using hp.2) (by simpa using hq.2)
  have hd : 0 < ((p.den : Int) * (q.den : Int)) := by
    have := p.den_pos; have := q.den_pos
    exact Int.mul_pos (by omega) (by omega)
  have key := lfrac_eq (p.num * q.num) (p.den * q.den) hd (by rw [Int.natAbs_mul]; exact hw _ _ (by simpa using hp.2) (by simpa using hq.2))
  have e4 : ((p.num * q.num : Int) : Rat) / ((p.den * q.den : Int) : Rat) = p * q := by
    rw [← Rat.divInt_eq_div, ← Int.natCast_mul, Rat.divInt_ofNat, Rat.mul_def']
  rw [e4] at key
  unfold Cm.f__law_times Cm.D__law_times
  simp [frD, e1, e3] at key ⊢
  rw [key]
  rfl
end Zx
namespace Zx.k61
open PySem PySem.Spec L2 Zx
abbrev PR : PySem.Program := PySem.Challenge.pw_triedwares_k61_whole_chains_put_together
/-! ### _law_draws -/
abbrev N__law_draws : List Str := ["script", "draws", "k", "rest", "turn", "mixed"]
noncomputable def D__law_draws : DenS :=
  (sSeq (sOwn 1 (mkL lNil))
  (sSeq (sFor (iR1 (d2 minD2 (kD (.int 63)) (d1 lenD (vR 0)))) (gN 2) (sSeq (sSet 3 (d1 absD (d2 ixD (vR 0) (vR 2))))
   (sIf (b2 geI (vR 3) (d2 powD (kD (.int 10)) (kD (.int 18)))) (sFor (iR1 (kD (.int 60))) (gN 4) (sIf (b2 gtI (vR 3) (kD (.int 0))) (sSeq (sApp 1 (d2 modD (d1 intD (vR 3)) (kD (.int 65536))))
      (sSet 3 (d2 fdivD (vR 3) (kD (.int 65536))))) sNx)) (sSeq (sSet 5 (d2 modD (d1 intD (d2 addD (d2 mulI (vR 3) (kD (.int 48271))) (d2 mulI (d2 addD (vR 2) (kD (.int 1))) (kD (.int 69621))))) (kD (.int 2147483647))))
    (sSeq (sSet 5 (d2 modD (d1 intD (d2 addD (d2 addD (d2 mulI (vR 5) (kD (.int 16807))) (d2 mulI (kD (.int 11)) (vR 2))) (kD (.int 5)))) (kD (.int 2147483629))))
    (sSeq (sApp 1 (d2 modD (d1 intD (vR 5)) (kD (.int 65536))))
    (sApp 1 (d2 modD (d1 intD (d2 fdivD (vR 5) (kD (.int 65536)))) (kD (.int 32768))))))))))
  (sFrz 1 (sRet (vR 1)))))
noncomputable def f__law_draws : List D → Option D := runX D__law_draws 6
theorem sc__law_draws : FnScope N__law_draws ["script"] (defScope (topOf PR 29)) := ⟨rfl, rfl, rfl, by decide +kernel, rfl, by decide +kernel, by decide +kernel⟩
theorem b__law_draws {w : World} {K : PySem.W.Frag} {mg : Str → Option Value} {base : Heap} {f : Addr} (h_abs : mg "abs" = none) (h_int : mg "int" = none) (h_len : mg "len" = none) (h_min : mg "min" = none) (h_range : mg "range" = none) : Bd PR w K mg base 0 N__law_draws "_law_draws" (defBody (topOf PR 29)) (defScope (topOf PR 29)) f D__law_draws :=
  ⟨fun cdv A outer s H E hr => by
  have nd : N__law_draws.Nodup := sc__law_draws.nd
  exact (sxs_cons (sx_own 1 nd (by kernel_rfl) (by kernel_rfl) (by kernel_rfl) (en_lst ea_nil) (by kernel_rfl))
  (sxs_cons (sx_for PySem.PassesOwn.never rfl (ei_r1 (gl_of (by kernel_rfl)) h_range (ex_min2 rfl (gl_of (by kernel_rfl)) h_min ex_int.b (ex_len (gl_of (by kernel_rfl)) h_len (vX 0 (by kernel_rfl) (by kernel_rfl)).b (by kernel_rfl)).b (by kernel_rfl) (by kernel_rfl)) (by kernel_rfl)) (eg_name 2 nd (by kernel_rfl) (by kernel_rfl) (by kernel_rfl)) (sxs_cons (sx_set 3 nd (by kernel_rfl) (by kernel_rfl) (by kernel_rfl) (ex_abs (gl_of (by kernel_rfl)) h_abs (ex_ix (vX 0 (by kernel_rfl) (by kernel_rfl)).b (vX 2 (by kernel_rfl) (by kernel_rfl)).b (fun _ _ => rfl)).b (by kernel_rfl)) (by kernel_rfl))
   (sxs_one (sx_if (et_cmp (ec_geI (vX 3 (by kernel_rfl) (by kernel_rfl)).b (ex_pow ex_int.b ex_int.b).b) (by kernel_rfl)) (sxs_one (sx_for PySem.PassesOwn.never rfl (ei_r1 (gl_of (by kernel_rfl)) h_range ex_int (by kernel_rfl)) (eg_name 4 nd (by kernel_rfl) (by kernel_rfl) (by kernel_rfl)) (sxs_one (sx_if (et_cmp (ec_gtI (vX 3 (by kernel_rfl) (by kernel_rfl)).b ex_int.b) (by kernel_rfl)) (sxs_cons (sx_append 1 (by kernel_rfl) (by kernel_rfl) (by kernel_rfl) (by kernel_rfl) (ex_mod (ex_int1 (gl_of (by kernel_rfl)) h_int (vX 3 (by kernel_rfl) (by kernel_rfl)).b (by kernel_rfl)).b ex_int.b) (by kernel_rfl) (by kernel_rfl))
      (sxs_one (sx_set 3 nd (by kernel_rfl) (by kernel_rfl) (by kernel_rfl) (ex_fdiv (vX 3 (by kernel_rfl) (by kernel_rfl)).b ex_int.b) (by kernel_rfl)))) sxs_nil)) (fun _ => rfl))) (sxs_cons (sx_set 5 nd (by kernel_rfl) (by kernel_rfl) (by kernel_rfl) (ex_mod (ex_int1 (gl_of (by kernel_rfl)) h_int (ex_add (ex_mulI (vX 3 (by kernel_rfl) (by kernel_rfl)).b ex_int.b).b (ex_mulI (ex_add (vX 2 (by kernel_rfl) (by kernel_rfl)).b ex_int.b).b ex_int.b).b).b (by kernel_rfl)).b ex_int.b) (by kernel_rfl))
    (sxs_cons (sx_set 5 nd (by kernel_rfl) (by kernel_rfl) (by kernel_rfl) (ex_mod (ex_int1 (gl_of (by kernel_rfl)) h_int (ex_add (ex_add (ex_mulI (vX 5 (by kernel_rfl) (by kernel_rfl)).b ex_int.b).b (ex_mulI ex_int.b (vX 2 (by kernel_rfl) (by kernel_rfl)).b).b).b ex_int.b).b (by kernel_rfl)).b ex_int.b) (by kernel_rfl))
    (sxs_cons (sx_append 1 (by kernel_rfl) (by kernel_rfl) (by kernel_rfl) (by kernel_rfl) (ex_mod (ex_int1 (gl_of (by kernel_rfl)) h_int (vX 5 (by kernel_rfl) (by kernel_rfl)).b (by kernel_rfl)).b ex_int.b) (by kernel_rfl) (by kernel_rfl))
    (sxs_one (sx_append 1 (by kernel_rfl) (by kernel_rfl) (by kernel_rfl) (by kernel_rfl) (ex_mod (ex_int1 (gl_of (by kernel_rfl)) h_int (ex_fdiv (vX 5 (by kernel_rfl) (by kernel_rfl)).b ex_int.b).b (by kernel_rfl)).b ex_int.b) (by kernel_rfl) (by kernel_rfl))))))))) (fun _ => rfl))
  (sxs_one (sx_frz 1 (sx_ret (vX 1 (by kernel_rfl) (by kernel_rfl)))))))⟩
/-! ### is_link -/
abbrev N_is_link : List Str := ["link", "sign", "size", "errors", "k", "error", "count"]
noncomputable def D_is_link : DenS :=
  (sSeq (sAsg (gT (gsCons (gN 1) (gsCons (gN 2) (gsCons (gN 3) gsNil))) 3) (vR 0))
  (sSeq (sIf (bOr (b2 ninD (vR 1) (mkT (lCons (kD (.int 1)) (lCons (d1 negD (kD (.int 1))) lNil)))) (bOr (bNot (bCh leI leI (kD (.int 0)) (vR 2) (kD (.int (1000))))) (bNot (bCh leI leI (kD (.int 1)) (d1 lenD (vR 3)) (kD (.int (6))))))) (sRet (kD (.bool false))) sNx)
  (sSeq (sFor (iEn (vR 3)) (gT (gsCons (gN 4) (gsCons (gT (gsCons (gN 5) (gsCons (gN 6) gsNil)) 2) gsNil)) 2) (sSeq (sIf (bOr (bNot (bCh leI leI (d1 negD (kD (.int (50)))) (vR 5) (kD (.int (50))))) (bNot (bCh leI leI (kD (.int 1)) (vR 6) (kD (.int (100)))))) (sRet (kD (.bool false))) sNx)
   (sIf (bAnd (b2 gtI (vR 4) (kD (.int 0))) (b2 geI (d2 ixD (d2 ixD (vR 3) (d2 subD (vR 4) (kD (.int 1)))) (kD (.int 0))) (vR 5))) (sRet (kD (.bool false))) sNx)))
  (sRet (kD (.bool true))))))
noncomputable def f_is_link : List D → Option D := runX D_is_link 7
theorem sc_is_link : FnScope N_is_link ["link"] (defScope (topOf PR 18)) := ⟨rfl, rfl, rfl, by decide +kernel, rfl, by decide +kernel, by decide +kernel⟩
theorem b_is_link {w : World} {K : PySem.W.Frag} {mg : Str → Option Value} {base : Heap} {f : Addr} (h_enumerate : mg "enumerate" = none) (h_len : mg "len" = none) {t_MOST_COUNT : Tok} (h_MOST_COUNT : mg "MOST_COUNT" = some (.int (100) t_MOST_COUNT)) {t_MOST_ERROR : Tok} (h_MOST_ERROR : mg "MOST_ERROR" = some (.int (50) t_MOST_ERROR)) {t_MOST_ERRORS : Tok} (h_MOST_ERRORS : mg "MOST_ERRORS" = some (.int (6) t_MOST_ERRORS)) {t_MOST_LINK : Tok} (h_MOST_LINK : mg "MOST_LINK" = some (.int (1000) t_MOST_LINK)) : Bd PR w K mg base 0 N_is_link "is_link" (defBody (topOf PR 18)) (defScope (topOf PR 18)) f D_is_link :=
  ⟨fun cdv A outer s H E hr => by
  have nd : N_is_link.Nodup := sc_is_link.nd
  exact (sxs_cons (sx_asg (vX 0 (by kernel_rfl) (by kernel_rfl)) (eg_tup (n := 3) rfl (egs_cons (eg_name 1 nd (by kernel_rfl) (by kernel_rfl) (by kernel_rfl)) (egs_cons (eg_name 2 nd (by kernel_rfl) (by kernel_rfl) (by kernel_rfl)) (egs_cons (eg_name 3 nd (by kernel_rfl) (by kernel_rfl) (by kernel_rfl)) egs_nil (by kernel_rfl)) (by kernel_rfl)) (by kernel_rfl)) (by kernel_rfl) (by kernel_rfl)) (by kernel_rfl) (by kernel_rfl) (by kernel_rfl))
  (sxs_cons (sx_if (ew_or (et_cmp (ec_nin (Zx.Room.u65 hr) (vX 1 (by kernel_rfl) (by kernel_rfl)).b (ex_tup (ea_cons ex_int (ea_cons (ex_neg ex_int.b) ea_nil (by kernel_rfl)) (by kernel_rfl))).b) (by kernel_rfl)) (ew_or (et_not (et_leLe ex_int.b (vX 2 (by kernel_rfl) (by kernel_rfl)).b (ex_glob (gl_of (by kernel_rfl)) h_MOST_LINK (by kernel_rfl)).b (by kernel_rfl))) (ew_or1 (et_not (et_leLe ex_int.b (ex_len (gl_of (by kernel_rfl)) h_len (vX 3 (by kernel_rfl) (by kernel_rfl)).b (by kernel_rfl)).b (ex_glob (gl_of (by kernel_rfl)) h_MOST_ERRORS (by kernel_rfl)).b (by kernel_rfl)))))).t (sxs_one (sx_ret ex_bl)) sxs_nil)
  (sxs_cons (sx_for PySem.PassesOwn.never rfl (ei_enum (gl_of (by kernel_rfl)) h_enumerate (vX 3 (by kernel_rfl) (by kernel_rfl)) (by kernel_rfl)) (eg_tup (n := 2) rfl (egs_cons (eg_name 4 nd (by kernel_rfl) (by kernel_rfl) (by kernel_rfl)) (egs_cons (eg_tup (n := 2) rfl (egs_cons (eg_name 5 nd (by kernel_rfl) (by kernel_rfl) (by kernel_rfl)) (egs_cons (eg_name 6 nd (by kernel_rfl) (by kernel_rfl) (by kernel_rfl)) egs_nil (by kernel_rfl)) (by kernel_rfl)) (by kernel_rfl) (by kernel_rfl)) egs_nil (by kernel_rfl)) (by kernel_rfl)) (by kernel_rfl) (by kernel_rfl)) (sxs_cons (sx_if (ew_or (et_not (et_leLe (ex_neg (ex_glob (gl_of (by kernel_rfl)) h_MOST_ERROR (by kernel_rfl)).b).b (vX 5 (by kernel_rfl) (by kernel_rfl)).b (ex_glob (gl_of (by kernel_rfl)) h_MOST_ERROR (by kernel_rfl)).b (by kernel_rfl))) (ew_or1 (et_not (et_leLe ex_int.b (vX 6 (by kernel_rfl) (by kernel_rfl)).b (ex_glob (gl_of (by kernel_rfl)) h_MOST_COUNT (by kernel_rfl)).b (by kernel_rfl))))).t (sxs_one (sx_ret ex_bl)) sxs_nil)
   (sxs_one (sx_if (ew_and (et_cmp (ec_gtI (vX 4 (by kernel_rfl) (by kernel_rfl)).b ex_int.b) (by kernel_rfl)) (ew_and1 (et_cmp (ec_geI (ex_ix (ex_ix (vX 3 (by kernel_rfl) (by kernel_rfl)).b (ex_sub (vX 4 (by kernel_rfl) (by kernel_rfl)).b ex_int.b).b (fun _ _ => rfl)).b ex_int.b (fun _ _ => rfl)).b (vX 5 (by kernel_rfl) (by kernel_rfl)).b) (by kernel_rfl)))).t (sxs_one (sx_ret ex_bl)) sxs_nil))) (fun _ => rfl))
  (sxs_one (sx_ret ex_bl)))))⟩
/-! ### check_chain -/
abbrev N_check_chain : List Str := ["chain", "k", "link"]
noncomputable def D_check_chain : DenS :=
  (sSeq (sIf (bNot (bCh leI leI (kD (.int 1)) (d1 lenD (vR 0)) (kD (.int (8))))) sNo sNx)
  (sFor (iEn (vR 0)) (gT (gsCons (gN 1) (gsCons (gN 2) gsNil)) 2) (sIf (bNot (b1 truD (dCall (lCons (vR 2) lNil) f_is_link))) sNo sNx)))
noncomputable def f_check_chain : List D → Option D := runX D_check_chain 3
theorem sc_check_chain : FnScope N_check_chain ["chain"] (defScope (topOf PR 19)) := ⟨rfl, rfl, rfl, by decide +kernel, rfl, by decide +kernel, by decide +kernel⟩
theorem b_check_chain {w : World} {K : PySem.W.Frag} {mg : Str → Option Value} {base : Heap} {f : Addr} (h_enumerate : mg "enumerate" = none) (h_len : mg "len" = none) {t_MOST_LINKS : Tok} (h_MOST_LINKS : mg "MOST_LINKS" = some (.int (8) t_MOST_LINKS)) (c_is_link : FX PR w K mg base 1 "is_link" 1 f_is_link) : Bd PR w K mg base 1 N_check_chain "check_chain" (defBody (topOf PR 19)) (defScope (topOf PR 19)) f D_check_chain :=
  ⟨fun cdv A outer s H E hr => by
  have nd : N_check_chain.Nodup := sc_check_chain.nd
  exact (sxs_cons (sx_if (et_not (et_leLe ex_int.b (ex_len (gl_of (by kernel_rfl)) h_len (vX 0 (by kernel_rfl) (by kernel_rfl)).b (by kernel_rfl)).b (ex_glob (gl_of (by kernel_rfl)) h_MOST_LINKS (by kernel_rfl)).b (by kernel_rfl))) (sxs_one sx_no) sxs_nil)
  (sxs_one (sx_for PySem.PassesOwn.never rfl (ei_enum (gl_of (by kernel_rfl)) h_enumerate (vX 0 (by kernel_rfl) (by kernel_rfl)) (by kernel_rfl)) (eg_tup (n := 2) rfl (egs_cons (eg_name 1 nd (by kernel_rfl) (by kernel_rfl) (by kernel_rfl)) (egs_cons (eg_name 2 nd (by kernel_rfl) (by kernel_rfl) (by kernel_rfl)) egs_nil (by kernel_rfl)) (by kernel_rfl)) (by kernel_rfl) (by kernel_rfl)) (sxs_one (sx_if (et_not (et_val (cX (c_is_link : FX PR w K mg base _ _ _ _) hr (gl_of (by kernel_rfl)) (by kernel_rfl) (ea_cons (vX 2 (by kernel_rfl) (by kernel_rfl)) ea_nil (by kernel_rfl)) rfl (by kernel_rfl) (by kernel_rfl) (lenS len0)).b (fun _ => rfl))) (sxs_one sx_no) sxs_nil)) (fun _ => rfl))))⟩
/-! ### ways_of -/
abbrev N_ways_of : List Str := ["chain", "found", "sign", "size", "errors", "later", "whole", "many", "error", "count", "there"]
noncomputable def D_ways_of : DenS :=
  (sSeq (sSet 1 (dDisp1 (kD (.int 0)) (kD (.int 1))))
  (sSeq (sFor (iSeq (vR 0)) (gT (gsCons (gN 2) (gsCons (gN 3) (gsCons (gN 4) gsNil))) 3) (sSeq (sOwn 5 (kD (.dict [])))
   (sSeq (sFor (iItemsJ 1) (gT (gsCons (gN 6) (gsCons (gN 7) gsNil)) 2) (sFor (iSeq (vR 4)) (gT (gsCons (gN 8) (gsCons (gN 9) gsNil)) 2) (sSeq (sSet 10 (d2 addD (vR 6) (d2 mulI (vR 2) (d2 addD (vR 3) (vR 8)))))
     (sStD 5 (vR 10) (d2 addD (d3 dgetD3 (vB 5) (vR 10) (kD (.int 0))) (d2 mulI (vR 7) (vR 9)))))))
   (sFrz 5 (sSet 1 (vR 5))))))
  (sRet (vR 1))))
noncomputable def f_ways_of : List D → Option D := runX D_ways_of 11
theorem sc_ways_of : FnScope N_ways_of ["chain"] (defScope (topOf PR 20)) := ⟨rfl, rfl, rfl, by decide +kernel, rfl, by decide +kernel, by decide +kernel⟩
theorem b_ways_of {w : World} {K : PySem.W.Frag} {mg : Str → Option Value} {base : Heap} {f : Addr}  : Bd PR w K mg base 0 N_ways_of "ways_of" (defBody (topOf PR 20)) (defScope (topOf PR 20)) f D_ways_of :=
  ⟨fun cdv A outer s H E hr => by
  have nd : N_ways_of.Nodup := sc_ways_of.nd
  exact (sxs_cons (sx_set 1 nd (by kernel_rfl) (by kernel_rfl) (by kernel_rfl) (en_disp1 ex_int ex_int).x (by kernel_rfl))
  (sxs_cons (sx_for PySem.PassesOwn.never rfl (ei_seq (vX 0 (by kernel_rfl) (by kernel_rfl))) (eg_tup (n := 3) rfl (egs_cons (eg_name 2 nd (by kernel_rfl) (by kernel_rfl) (by kernel_rfl)) (egs_cons (eg_name 3 nd (by kernel_rfl) (by kernel_rfl) (by kernel_rfl)) (egs_cons (eg_name 4 nd (by kernel_rfl) (by kernel_rfl) (by kernel_rfl)) egs_nil (by kernel_rfl)) (by kernel_rfl)) (by kernel_rfl)) (by kernel_rfl) (by kernel_rfl)) (sxs_cons (sx_own 5 nd (by kernel_rfl) (by kernel_rfl) (by kernel_rfl) en_dK (by kernel_rfl))
   (sxs_cons (sx_lock (sxl_for PySem.PassesOwn.never rfl (eil_items (j := 1) (by kernel_rfl) (by kernel_rfl) (by kernel_rfl) (by kernel_rfl) (by kernel_rfl) (by kernel_rfl)) (eg_tup (n := 2) rfl (egs_cons (eg_name 6 nd (by kernel_rfl) (by kernel_rfl) (by kernel_rfl)) (egs_cons (eg_name 7 nd (by kernel_rfl) (by kernel_rfl) (by kernel_rfl)) egs_nil (by kernel_rfl)) (by kernel_rfl)) (by kernel_rfl) (by kernel_rfl)) (sxs_one (sx_for PySem.PassesOwn.never rfl (ei_seq (vX 4 (by kernel_rfl) (by kernel_rfl))) (eg_tup (n := 2) rfl (egs_cons (eg_name 8 nd (by kernel_rfl) (by kernel_rfl) (by kernel_rfl)) (egs_cons (eg_name 9 nd (by kernel_rfl) (by kernel_rfl) (by kernel_rfl)) egs_nil (by kernel_rfl)) (by kernel_rfl)) (by kernel_rfl) (by kernel_rfl)) (sxs_cons (sx_set 10 nd (by kernel_rfl) (by kernel_rfl) (by kernel_rfl) (ex_add (vX 6 (by kernel_rfl) (by kernel_rfl)).b (ex_mulI (vX 2 (by kernel_rfl) (by kernel_rfl)).b (ex_add (vX 3 (by kernel_rfl) (by kernel_rfl)).b (vX 8 (by kernel_rfl) (by kernel_rfl)).b).b).b) (by kernel_rfl))
     (sxs_one (sx_setD 5 (Zx.Room.u1 hr) (by kernel_rfl) (by kernel_rfl) (by kernel_rfl) (by kernel_rfl) (ex_add (ex_dget3 (Zx.Room.u1 hr) (vE 5 (by kernel_rfl) (by kernel_rfl)) (vX 10 (by kernel_rfl) (by kernel_rfl)).b ex_int ⟨(by kernel_rfl), (by kernel_rfl), (by kernel_rfl), (by kernel_rfl)⟩).b (ex_mulI (vX 7 (by kernel_rfl) (by kernel_rfl)).b (vX 9 (by kernel_rfl) (by kernel_rfl)).b).b) (vX 10 (by kernel_rfl) (by kernel_rfl)) (by kernel_rfl)))) (fun _ => rfl))) (fun _ => rfl)) (needs_for needs_I))
   (sxs_one (sx_frz 5 (sx_set 1 nd (by kernel_rfl) (by kernel_rfl) (by kernel_rfl) (vX 5 (by kernel_rfl) (by kernel_rfl)) (by kernel_rfl)))))) (fun _ => rfl))
  (sxs_one (sx_ret (vX 1 (by kernel_rfl) (by kernel_rfl))))))⟩
/-! ### ways -/
abbrev N_ways : List Str := ["chain"]
noncomputable def D_ways : DenS :=
  (sSeq (sDrop (dCall (lCons (vR 0) lNil) f_check_chain))
  (sRet (dCall (lCons (vR 0) lNil) f_ways_of)))
noncomputable def f_ways : List D → Option D := runX D_ways 1
theorem sc_ways : FnScope N_ways ["chain"] (defScope (topOf PR 21)) := ⟨rfl, rfl, rfl, by decide +kernel, rfl, by decide +kernel, by decide +kernel⟩
theorem b_ways {w : World} {K : PySem.W.Frag} {mg : Str → Option Value} {base : Heap} {f : Addr} (c_check_chain : FX PR w K mg base 2 "check_chain" 1 f_check_chain) (c_ways_of : FX PR w K mg base 2 "ways_of" 1 f_ways_of) : Bd PR w K mg base 2 N_ways "ways" (defBody (topOf PR 21)) (defScope (topOf PR 21)) f D_ways :=
  ⟨fun cdv A outer s H E hr => by
  have nd : N_ways.Nodup := sc_ways.nd
  exact (sxs_cons (sx_expr (cX (c_check_chain : FX PR w K mg base _ _ _ _) hr (gl_of (by kernel_rfl)) (by kernel_rfl) (ea_cons (vX 0 (by kernel_rfl) (by kernel_rfl)) ea_nil (by kernel_rfl)) rfl (by kernel_rfl) (by kernel_rfl) (lenS len0)) (by kernel_rfl))
  (sxs_one (sx_ret (cX (c_ways_of : FX PR w K mg base _ _ _ _) hr (gl_of (by kernel_rfl)) (by kernel_rfl) (ea_cons (vX 0 (by kernel_rfl) (by kernel_rfl)) ea_nil (by kernel_rfl)) rfl (by kernel_rfl) (by kernel_rfl) (lenS len0)))))⟩
/-! ### _law_mix -/
abbrev N__law_mix : List Str := ["draws", "k", "many", "cell"]
noncomputable def D__law_mix : DenS :=
  (sSeq (sSet 3 (kD (.int 0)))
  (sSeq (sIf (b2 gtI (d1 lenD (vR 0)) (kD (.int 0))) (sSet 3 (d2 ixD (vR 0) (d2 modD (d1 intD (vR 1)) (d1 lenD (vR 0))))) sNx)
  (sSeq (sIf (b2 ltI (vR 1) (d1 lenD (vR 0))) (sRet (d2 modD (d1 intD (vR 3)) (vR 2))) sNx)
  (sRet (d2 modD (d1 intD (d2 fdivD (d1 intD (d2 addD (d2 mulI (vR 3) (kD (.int 7919))) (d2 mulI (vR 1) (kD (.int 104729))))) (kD (.int 3)))) (vR 2))))))
noncomputable def f__law_mix : List D → Option D := runX D__law_mix 4
theorem sc__law_mix : FnScope N__law_mix ["draws", "k", "many"] (defScope (topOf PR 30)) := ⟨rfl, rfl, rfl, by decide +kernel, rfl, by decide +kernel, by decide +kernel⟩
theorem b__law_mix {w : World} {K : PySem.W.Frag} {mg : Str → Option Value} {base : Heap} {f : Addr} (h_int : mg "int" = none) (h_len : mg "len" = none) : Bd PR w K mg base 0 N__law_mix "_law_mix" (defBody (topOf PR 30)) (defScope (topOf PR 30)) f D__law_mix :=
  ⟨fun cdv A outer s H E hr => by
  have nd : N__law_mix.Nodup := sc__law_mix.nd
  exact (sxs_cons (sx_set 3 nd (by kernel_rfl) (by kernel_rfl) (by kernel_rfl) ex_int (by kernel_rfl))
  (sxs_cons (sx_if (et_cmp (ec_gtI (ex_len (gl_of (by kernel_rfl)) h_len (vX 0 (by kernel_rfl) (by kernel_rfl)).b (by kernel_rfl)).b ex_int.b) (by kernel_rfl)) (sxs_one (sx_set 3 nd (by kernel_rfl) (by kernel_rfl) (by kernel_rfl) (ex_ix (vX 0 (by kernel_rfl) (by kernel_rfl)).b (ex_mod (ex_int1 (gl_of (by kernel_rfl)) h_int (vX 1 (by kernel_rfl) (by kernel_rfl)).b (by kernel_rfl)).b (ex_len (gl_of (by kernel_rfl)) h_len (vX 0 (by kernel_rfl) (by kernel_rfl)).b (by kernel_rfl)).b).b (fun _ _ => rfl)) (by kernel_rfl))) sxs_nil)
  (sxs_cons (sx_if (et_cmp (ec_ltI (vX 1 (by kernel_rfl) (by kernel_rfl)).b (ex_len (gl_of (by kernel_rfl)) h_len (vX 0 (by kernel_rfl) (by kernel_rfl)).b (by kernel_rfl)).b) (by kernel_rfl)) (sxs_one (sx_ret (ex_mod (ex_int1 (gl_of (by kernel_rfl)) h_int (vX 3 (by kernel_rfl) (by kernel_rfl)).b (by kernel_rfl)).b (vX 2 (by kernel_rfl) (by kernel_rfl)).b))) sxs_nil)
  (sxs_one (sx_ret (ex_mod (ex_int1 (gl_of (by kernel_rfl)) h_int (ex_fdiv (ex_int1 (gl_of (by kernel_rfl)) h_int (ex_add (ex_mulI (vX 3 (by kernel_rfl) (by kernel_rfl)).b ex_int.b).b (ex_mulI (vX 1 (by kernel_rfl) (by kernel_rfl)).b ex_int.b).b).b (by kernel_rfl)).b ex_int.b).b (by kernel_rfl)).b (vX 2 (by kernel_rfl) (by kernel_rfl)).b))))))⟩
/-! ### ends -/
abbrev N_ends : List Str := ["chain", "lows", "highs", "sign", "size", "errors"]
noncomputable def D_ends : DenS :=
  (sSeq (sDrop (dCall (lCons (vR 0) lNil) f_check_chain))
  (sSeq (sLcSet 1 false (dLc (iSeq (vR 0)) (gT (gsCons (gN 3) (gsCons (gN 4) (gsCons (gN 5) gsNil))) 3) bYes (d2 minD2 (d2 mulI (vR 3) (d2 addD (vR 4) (d2 ixD (d2 ixD (vR 5) (kD (.int 0))) (kD (.int 0))))) (d2 mulI (vR 3) (d2 addD (vR 4) (d2 ixD (d2 ixD (vR 5) (d1 negD (kD (.int 1)))) (kD (.int 0)))))) [3, 4, 5]))
  (sSeq (sLcSet 2 false (dLc (iSeq (vR 0)) (gT (gsCons (gN 3) (gsCons (gN 4) (gsCons (gN 5) gsNil))) 3) bYes (d2 maxD2 (d2 mulI (vR 3) (d2 addD (vR 4) (d2 ixD (d2 ixD (vR 5) (kD (.int 0))) (kD (.int 0))))) (d2 mulI (vR 3) (d2 addD (vR 4) (d2 ixD (d2 ixD (vR 5) (d1 negD (kD (.int 1)))) (kD (.int 0)))))) [3, 4, 5]))
  (sRet (mkT (lCons (d1 sumD (vR 1)) (lCons (d1 sumD (vR 2)) lNil)))))))
noncomputable def f_ends : List D → Option D := runX D_ends 6
theorem sc_ends : FnScope N_ends ["chain"] (defScope (topOf PR 22)) := ⟨rfl, rfl, rfl, by decide +kernel, rfl, by decide +kernel, by decide +kernel⟩
theorem b_ends {w : World} {K : PySem.W.Frag} {mg : Str → Option Value} {base : Heap} {f : Addr} (h_max : mg "max" = none) (h_min : mg "min" = none) (h_sum : mg "sum" = none) (c_check_chain : FX PR w K mg base 2 "check_chain" 1 f_check_chain) : Bd PR w K mg base 2 N_ends "ends" (defBody (topOf PR 22)) (defScope (topOf PR 22)) f D_ends :=
  ⟨fun cdv A outer s H E hr => by
  have nd : N_ends.Nodup := sc_ends.nd
  exact (sxs_cons (sx_expr (cX (c_check_chain : FX PR w K mg base _ _ _ _) hr (gl_of (by kernel_rfl)) (by kernel_rfl) (ea_cons (vX 0 (by kernel_rfl) (by kernel_rfl)) ea_nil (by kernel_rfl)) rfl (by kernel_rfl) (by kernel_rfl) (lenS len0)) (by kernel_rfl))
  (sxs_cons (sx_setLc (own := [("sign", 3), ("size", 4), ("errors", 5)]) 1 false rfl nd (by kernel_rfl) (by kernel_rfl) (by kernel_rfl) (ei_seq (vX 0 (by kernel_rfl) (by kernel_rfl))) (blkOk_by (by kernel_rfl)) (fun _ _ _ _ _ => (eg_tup (n := 3) rfl (egs_cons (eg_name 3 nd (by kernel_rfl) (by kernel_rfl) (by kernel_rfl)) (egs_cons (eg_name 4 nd (by kernel_rfl) (by kernel_rfl) (by kernel_rfl)) (egs_cons (eg_name 5 nd (by kernel_rfl) (by kernel_rfl) (by kernel_rfl)) egs_nil (by kernel_rfl)) (by kernel_rfl)) (by kernel_rfl)) (by kernel_rfl) (by kernel_rfl))) (fun _ _ _ _ _ => ets_nil) (fun _ _ _ _ _ => (ex_min2 rfl (gl_of (by kernel_rfl)) h_min (ex_mulI (vX 3 (by kernel_rfl) (by kernel_rfl)).b (ex_add (vX 4 (by kernel_rfl) (by kernel_rfl)).b (ex_ix (ex_ix (vX 5 (by kernel_rfl) (by kernel_rfl)).b ex_int.b (fun _ _ => rfl)).b ex_int.b (fun _ _ => rfl)).b).b).b (ex_mulI (vX 3 (by kernel_rfl) (by kernel_rfl)).b (ex_add (vX 4 (by kernel_rfl) (by kernel_rfl)).b (ex_ix (ex_ix (vX 5 (by kernel_rfl) (by kernel_rfl)).b (ex_neg ex_int.b).b (fun _ _ => rfl)).b ex_int.b (fun _ _ => rfl)).b).b).b (by kernel_rfl) (by kernel_rfl))) (fun _ => rfl) (by decide))
  (sxs_cons (sx_setLc (own := [("sign", 3), ("size", 4), ("errors", 5)]) 2 false rfl nd (by kernel_rfl) (by kernel_rfl) (by kernel_rfl) (ei_seq (vX 0 (by kernel_rfl) (by kernel_rfl))) (blkOk_by (by kernel_rfl)) (fun _ _ _ _ _ => (eg_tup (n := 3) rfl (egs_cons (eg_name 3 nd (by kernel_rfl) (by kernel_rfl) (by kernel_rfl)) (egs_cons (eg_name 4 nd (by kernel_rfl) (by kernel_rfl) (by kernel_rfl)) (egs_cons (eg_name 5 nd (by kernel_rfl) (by kernel_rfl) (by kernel_rfl)) egs_nil (by kernel_rfl)) (by kernel_rfl)) (by kernel_rfl)) (by kernel_rfl) (by kernel_rfl))) (fun _ _ _ _ _ => ets_nil) (fun _ _ _ _ _ => (ex_max2 rfl (gl_of (by kernel_rfl)) h_max (ex_mulI (vX 3 (by kernel_rfl) (by kernel_rfl)).b (ex_add (vX 4 (by kernel_rfl) (by kernel_rfl)).b (ex_ix (ex_ix (vX 5 (by kernel_rfl) (by kernel_rfl)).b ex_int.b (fun _ _ => rfl)).b ex_int.b (fun _ _ => rfl)).b).b).b (ex_mulI (vX 3 (by kernel_rfl) (by kernel_rfl)).b (ex_add (vX 4 (by kernel_rfl) (by kernel_rfl)).b (ex_ix (ex_ix (vX 5 (by kernel_rfl) (by kernel_rfl)).b (ex_neg ex_int.b).b (fun _ _ => rfl)).b ex_int.b (fun _ _ => rfl)).b).b).b (by kernel_rfl) (by kernel_rfl))) (fun _ => rfl) (by decide))
  (sxs_one (sx_ret (ex_tup (ea_cons (ex_sum rfl (gl_of (by kernel_rfl)) h_sum (vX 1 (by kernel_rfl) (by kernel_rfl)).b (by kernel_rfl)) (ea_cons (ex_sum rfl (gl_of (by kernel_rfl)) h_sum (vX 2 (by kernel_rfl) (by kernel_rfl)).b (by kernel_rfl)) ea_nil (by kernel_rfl)) (by kernel_rfl))))))))⟩
/-! ### _law_chain -/
abbrev N__law_chain : List Str := ["draws", "k", "most", "found", "t", "at", "errors", "error", "j"]
noncomputable def D__law_chain : DenS :=
  (sSeq (sOwn 3 (mkL lNil))
  (sSeq (sFor (iR1 (d2 addD (kD (.int 1)) (dCall (lCons (vR 0) (lCons (vR 1) (lCons (vR 2) lNil))) f__law_mix))) (gN 4) (sSeq (sSet 5 (d2 addD (d2 addD (vR 1) (kD (.int 1))) (d2 mulI (kD (.int 12)) (vR 4))))
   (sSeq (sOwn 6 (mkL lNil))
   (sSeq (sFor (iSeq (d1 ssD (dLc (iR1 (d2 addD (kD (.int 1)) (dCall (lCons (vR 0) (lCons (d2 addD (vR 5) (kD (.int 1))) (lCons (kD (.int 3)) lNil))) f__law_mix))) (gN 8) bYes (d2 subD (dCall (lCons (vR 0) (lCons (d2 addD (d2 addD (vR 5) (kD (.int 2))) (vR 8)) (lCons (kD (.int 11)) lNil))) f__law_mix) (kD (.int 5))) [8]))) (gN 7) (sApp 6 (mkT (lCons (vR 7) (lCons (d2 addD (kD (.int 1)) (dCall (lCons (vR 0) (lCons (d2 addD (d2 addD (vR 5) (kD (.int 6))) (d1 lenD (vB 6))) (lCons (kD (.int 4)) lNil))) f__law_mix)) lNil)))))
   (sFrz 6 (sApp 3 (mkT (lCons (d2 subD (kD (.int 1)) (d2 mulI (kD (.int 2)) (dCall (lCons (vR 0) (lCons (vR 5) (lCons (kD (.int 2)) lNil))) f__law_mix))) (lCons (dCall (lCons (vR 0) (lCons (d2 addD (vR 5) (kD (.int 10))) (lCons (kD (.int 30)) lNil))) f__law_mix) (lCons (vR 6) lNil))))))))))
  (sFrz 3 (sRet (vR 3)))))
noncomputable def f__law_chain : List D → Option D := runX D__law_chain 9
theorem sc__law_chain : FnScope N__law_chain ["draws", "k", "most"] (defScope (topOf PR 34)) := ⟨rfl, rfl, rfl, by decide +kernel, rfl, by decide +kernel, by decide +kernel⟩
theorem b__law_chain {w : World} {K : PySem.W.Frag} {mg : Str → Option Value} {base : Heap} {f : Addr} (h_len : mg "len" = none) (h_range : mg "range" = none) (h_set : mg "set" = none) (h_sorted : mg "sorted" = none) (c__law_mix : FX PR w K mg base 1 "_law_mix" 3 f__law_mix) : Bd PR w K mg base 1 N__law_chain "_law_chain" (defBody (topOf PR 34)) (defScope (topOf PR 34)) f D__law_chain :=
  ⟨fun cdv A outer s H E hr => by
  have nd : N__law_chain.Nodup := sc__law_chain.nd
  exact (sxs_cons (sx_own 3 nd (by kernel_rfl) (by kernel_rfl) (by kernel_rfl) (en_lst ea_nil) (by kernel_rfl))
  (sxs_cons (sx_for PySem.PassesOwn.never rfl (ei_r1 (gl_of (by kernel_rfl)) h_range (ex_add ex_int.b (cX (c__law_mix : FX PR w K mg base _ _ _ _) hr (gl_of (by kernel_rfl)) (by kernel_rfl) (ea_cons (vX 0 (by kernel_rfl) (by kernel_rfl)) (ea_cons (vX 1 (by kernel_rfl) (by kernel_rfl)) (ea_cons (vX 2 (by kernel_rfl) (by kernel_rfl)) ea_nil (by kernel_rfl)) (by kernel_rfl)) (by kernel_rfl)) rfl (by kernel_rfl) (by kernel_rfl) (lenS (lenS (lenS len0)))).b) (by kernel_rfl)) (eg_name 4 nd (by kernel_rfl) (by kernel_rfl) (by kernel_rfl)) (sxs_cons (sx_set 5 nd (by kernel_rfl) (by kernel_rfl) (by kernel_rfl) (ex_add (ex_add (vX 1 (by kernel_rfl) (by kernel_rfl)).b ex_int.b).b (ex_mulI ex_int.b (vX 4 (by kernel_rfl) (by kernel_rfl)).b).b) (by kernel_rfl))
   (sxs_cons (sx_own 6 nd (by kernel_rfl) (by kernel_rfl) (by kernel_rfl) (en_lst ea_nil) (by kernel_rfl))
   (sxs_cons (sx_for PySem.PassesOwn.never rfl (ei_seq (en_sortedSet rfl (gl_of (by kernel_rfl)) h_sorted (gl_of (by kernel_rfl)) h_set (en_lc (own := [("j", 8)]) rfl nd (ei_r1 (gl_of (by kernel_rfl)) h_range (ex_add ex_int.b (cX (c__law_mix : FX PR w K mg base _ _ _ _) hr (gl_of (by kernel_rfl)) (by kernel_rfl) (ea_cons (vX 0 (by kernel_rfl) (by kernel_rfl)) (ea_cons (ex_add (vX 5 (by kernel_rfl) (by kernel_rfl)).b ex_int.b) (ea_cons ex_int ea_nil (by kernel_rfl)) (by kernel_rfl)) (by kernel_rfl)) rfl (by kernel_rfl) (by kernel_rfl) (lenS (lenS (lenS len0)))).b) (by kernel_rfl)) (blkOk_by (by kernel_rfl)) (fun _ _ _ _ _ => (eg_name 8 nd (by kernel_rfl) (by kernel_rfl) (by kernel_rfl))) (fun _ _ _ _ _ => ets_nil) (fun _ _ _ _ _ => (ex_sub (cX (c__law_mix : FX PR w K mg base _ _ _ _) hr (gl_of (by kernel_rfl)) (by kernel_rfl) (ea_cons (vX 0 (by kernel_rfl) (by kernel_rfl)) (ea_cons (ex_add (ex_add (vX 5 (by kernel_rfl) (by kernel_rfl)).b ex_int.b).b (vX 8 (by kernel_rfl) (by kernel_rfl)).b) (ea_cons ex_int ea_nil (by kernel_rfl)) (by kernel_rfl)) (by kernel_rfl)) rfl (by kernel_rfl) (by kernel_rfl) (lenS (lenS (lenS len0)))).b ex_int.b)) (fun _ => rfl) (by decide)).x.b (by kernel_rfl) (by kernel_rfl)).x) (eg_name 7 nd (by kernel_rfl) (by kernel_rfl) (by kernel_rfl)) (sxs_one (sx_append 6 (by kernel_rfl) (by kernel_rfl) (by kernel_rfl) (by kernel_rfl) (ex_tup (ea_cons (vX 7 (by kernel_rfl) (by kernel_rfl)) (ea_cons (ex_add ex_int.b (cX (c__law_mix : FX PR w K mg base _ _ _ _) hr (gl_of (by kernel_rfl)) (by kernel_rfl) (ea_cons (vX 0 (by kernel_rfl) (by kernel_rfl)) (ea_cons (ex_add (ex_add (vX 5 (by kernel_rfl) (by kernel_rfl)).b ex_int.b).b (ex_len (gl_of (by kernel_rfl)) h_len (vE 6 (by kernel_rfl) (by kernel_rfl)) (by kernel_rfl)).b) (ea_cons ex_int ea_nil (by kernel_rfl)) (by kernel_rfl)) (by kernel_rfl)) rfl (by kernel_rfl) (by kernel_rfl) (lenS (lenS (lenS len0)))).b) ea_nil (by kernel_rfl)) (by kernel_rfl))) (by kernel_rfl) (by kernel_rfl))) (fun _ => rfl))
   (sxs_one (sx_frz 6 (sx_append 3 (by kernel_rfl) (by kernel_rfl) (by kernel_rfl) (by kernel_rfl) (ex_tup (ea_cons (ex_sub ex_int.b (ex_mulI ex_int.b (cX (c__law_mix : FX PR w K mg base _ _ _ _) hr (gl_of (by kernel_rfl)) (by kernel_rfl) (ea_cons (vX 0 (by kernel_rfl) (by kernel_rfl)) (ea_cons (vX 5 (by kernel_rfl) (by kernel_rfl)) (ea_cons ex_int ea_nil (by kernel_rfl)) (by kernel_rfl)) (by kernel_rfl)) rfl (by kernel_rfl) (by kernel_rfl) (lenS (lenS (lenS len0)))).b).b) (ea_cons (cX (c__law_mix : FX PR w K mg base _ _ _ _) hr (gl_of (by kernel_rfl)) (by kernel_rfl) (ea_cons (vX 0 (by kernel_rfl) (by kernel_rfl)) (ea_cons (ex_add (vX 5 (by kernel_rfl) (by kernel_rfl)).b ex_int.b) (ea_cons ex_int ea_nil (by kernel_rfl)) (by kernel_rfl)) (by kernel_rfl)) rfl (by kernel_rfl) (by kernel_rfl) (lenS (lenS (lenS len0)))) (ea_cons (vX 6 (by kernel_rfl) (by kernel_rfl)) ea_nil (by kernel_rfl)) (by kernel_rfl)) (by kernel_rfl))) (by kernel_rfl) (by kernel_rfl))))))) (fun _ => rfl))
  (sxs_one (sx_frz 3 (sx_ret (vX 3 (by kernel_rfl) (by kernel_rfl)))))))⟩
/-! ### fraction -/
abbrev N_fraction : List Str := ["number", "by", "common"]
noncomputable def D_fraction : DenS :=
  (sSeq (sIf (b2 ltI (vR 1) (kD (.int 0))) (sPar 0 1 (lCons (d1 negD (vR 0)) (lCons (d1 negD (vR 1)) lNil))) sNx)
  (sSeq (sSet 2 (d2 gcdD (vR 0) (vR 1)))
  (sRet (mkT (lCons (d2 fdivD (vR 0) (vR 2)) (lCons (d2 fdivD (vR 1) (vR 2)) lNil))))))
noncomputable def f_fraction : List D → Option D := runX D_fraction 3
theorem sc_fraction : FnScope N_fraction ["number", "by"] (defScope (topOf PR 7)) := ⟨rfl, rfl, rfl, by decide +kernel, rfl, by decide +kernel, by decide +kernel⟩
theorem b_fraction {w : World} {K : PySem.W.Frag} {mg : Str → Option Value} {base : Heap} {f : Addr} (h_gcd : mg "gcd" = some (.builtin "math.gcd")) : Bd PR w K mg base 0 N_fraction "fraction" (defBody (topOf PR 7)) (defScope (topOf PR 7)) f D_fraction :=
  ⟨fun cdv A outer s H E hr => by
  have nd : N_fraction.Nodup := sc_fraction.nd
  exact (sxs_cons (sx_if (et_cmp (ec_ltI (vX 1 (by kernel_rfl) (by kernel_rfl)).b ex_int.b) (by kernel_rfl)) (sxs_one (sx_par 0 1 rfl nd (by kernel_rfl) (by kernel_rfl) (by decide) (by kernel_rfl) (by kernel_rfl) (ea_cons (ex_neg (vX 0 (by kernel_rfl) (by kernel_rfl)).b) (ea_cons (ex_neg (vX 1 (by kernel_rfl) (by kernel_rfl)).b) ea_nil (by kernel_rfl)) (by kernel_rfl)) (by kernel_rfl) (by kernel_rfl))) sxs_nil)
  (sxs_cons (sx_set 2 nd (by kernel_rfl) (by kernel_rfl) (by kernel_rfl) (ex_gcd (gl_of (by kernel_rfl)) h_gcd (vX 0 (by kernel_rfl) (by kernel_rfl)).b (vX 1 (by kernel_rfl) (by kernel_rfl)).b (by kernel_rfl) (by kernel_rfl)) (by kernel_rfl))
  (sxs_one (sx_ret (ex_tup (ea_cons (ex_fdiv (vX 0 (by kernel_rfl) (by kernel_rfl)).b (vX 2 (by kernel_rfl) (by kernel_rfl)).b) (ea_cons (ex_fdiv (vX 1 (by kernel_rfl) (by kernel_rfl)).b (vX 2 (by kernel_rfl) (by kernel_rfl)).b) ea_nil (by kernel_rfl)) (by kernel_rfl)))))))⟩
/-! ### share -/
abbrev N_share : List Str := ["chain", "low", "high", "found", "whole", "many"]
noncomputable def D_share : DenS :=
  (sSeq (sDrop (dCall (lCons (vR 0) lNil) f_check_chain))
  (sSeq (sIf (b2 gtI (vR 1) (vR 2)) sNo sNx)
  (sSeq (sSet 3 (dCall (lCons (vR 0) lNil) f_ways_of))
  (sRet (dCall (lCons (d1 sumD (dLc (iItemsJ 3) (gT (gsCons (gN 4) (gsCons (gN 5) gsNil)) 2) (bCh leI leI (vR 1) (vR 4) (vR 2)) (vR 5) [4, 5])) (lCons (d1 sumVD (vR 3)) lNil)) f_fraction)))))
noncomputable def f_share : List D → Option D := runX D_share 6
theorem sc_share : FnScope N_share ["chain", "low", "high"] (defScope (topOf PR 27)) := ⟨rfl, rfl, rfl, by decide +kernel, rfl, by decide +kernel, by decide +kernel⟩
theorem b_share {w : World} {K : PySem.W.Frag} {mg : Str → Option Value} {base : Heap} {f : Addr} (h_sum : mg "sum" = none) (c_check_chain : FX PR w K mg base 2 "check_chain" 1 f_check_chain) (c_fraction : FX PR w K mg base 2 "fraction" 2 f_fraction) (c_ways_of : FX PR w K mg base 2 "ways_of" 1 f_ways_of) : Bd PR w K mg base 2 N_share "share" (defBody (topOf PR 27)) (defScope (topOf PR 27)) f D_share :=
  ⟨fun cdv A outer s H E hr => by
  have nd : N_share.Nodup := sc_share.nd
  exact (sxs_cons (sx_expr (cX (c_check_chain : FX PR w K mg base _ _ _ _) hr (gl_of (by kernel_rfl)) (by kernel_rfl) (ea_cons (vX 0 (by kernel_rfl) (by kernel_rfl)) ea_nil (by kernel_rfl)) rfl (by kernel_rfl) (by kernel_rfl) (lenS len0)) (by kernel_rfl))
  (sxs_cons (sx_if (et_cmp (ec_gtI (vX 1 (by kernel_rfl) (by kernel_rfl)).b (vX 2 (by kernel_rfl) (by kernel_rfl)).b) (by kernel_rfl)) (sxs_one sx_no) sxs_nil)
  (sxs_cons (sx_set 3 nd (by kernel_rfl) (by kernel_rfl) (by kernel_rfl) (cX (c_ways_of : FX PR w K mg base _ _ _ _) hr (gl_of (by kernel_rfl)) (by kernel_rfl) (ea_cons (vX 0 (by kernel_rfl) (by kernel_rfl)) ea_nil (by kernel_rfl)) rfl (by kernel_rfl) (by kernel_rfl) (lenS len0)) (by kernel_rfl))
  (sxs_one (sx_ret (cX (c_fraction : FX PR w K mg base _ _ _ _) hr (gl_of (by kernel_rfl)) (by kernel_rfl) (ea_cons (ex_sum rfl (gl_of (by kernel_rfl)) h_sum (en_lock (enl_lc (own := [("whole", 4), ("many", 5)]) rfl nd (eil_items (j := 3) (by kernel_rfl) (by kernel_rfl) (by kernel_rfl) (by kernel_rfl) (by kernel_rfl) (by kernel_rfl)) (blkOk_by (by kernel_rfl)) (fun _ _ _ _ _ => (eg_tup (n := 2) rfl (egs_cons (eg_name 4 nd (by kernel_rfl) (by kernel_rfl) (by kernel_rfl)) (egs_cons (eg_name 5 nd (by kernel_rfl) (by kernel_rfl) (by kernel_rfl)) egs_nil (by kernel_rfl)) (by kernel_rfl)) (by kernel_rfl) (by kernel_rfl))) (fun _ _ _ _ _ => (ets_one (et_leLe (vX 1 (by kernel_rfl) (by kernel_rfl)).b (vX 4 (by kernel_rfl) (by kernel_rfl)).b (vX 2 (by kernel_rfl) (by kernel_rfl)).b (by kernel_rfl)))) (fun _ _ _ _ _ => (vX 5 (by kernel_rfl) (by kernel_rfl))) (fun _ => rfl) (by decide)) (needs_lc needs_I)).x.b (by kernel_rfl)) (ea_cons (ex_sumVals rfl (vX 3 (by kernel_rfl) (by kernel_rfl)).b (gl_of (by kernel_rfl)) h_sum (by kernel_rfl) (by kernel_rfl) (by kernel_rfl)) ea_nil (by kernel_rfl)) (by kernel_rfl)) rfl (by kernel_rfl) (by kernel_rfl) (lenS (lenS len0))))))))⟩
/-! ### plus -/
abbrev N_plus : List Str := ["one", "two"]
noncomputable def D_plus : DenS :=
  (sRet (dCall (lCons (d2 addD (d2 mulI (d2 ixD (vR 0) (kD (.int 0))) (d2 ixD (vR 1) (kD (.int 1)))) (d2 mulI (d2 ixD (vR 1) (kD (.int 0))) (d2 ixD (vR 0) (kD (.int 1))))) (lCons (d2 mulI (d2 ixD (vR 0) (kD (.int 1))) (d2 ixD (vR 1) (kD (.int 1)))) lNil)) f_fraction))
noncomputable def f_plus : List D → Option D := runX D_plus 2
theorem sc_plus : FnScope N_plus ["one", "two"] (defScope (topOf PR 8)) := ⟨rfl, rfl, rfl, by decide +kernel, rfl, by decide +kernel, by decide +kernel⟩
theorem b_plus {w : World} {K : PySem.W.Frag} {mg : Str → Option Value} {base : Heap} {f : Addr} (c_fraction : FX PR w K mg base 1 "fraction" 2 f_fraction) : Bd PR w K mg base 1 N_plus "plus" (defBody (topOf PR 8)) (defScope (topOf PR 8)) f D_plus :=
  ⟨fun cdv A outer s H E hr => by
  have nd : N_plus.Nodup := sc_plus.nd
  exact (sxs_one (sx_ret (cX (c_fraction : FX PR w K mg base _ _ _ _) hr (gl_of (by kernel_rfl)) (by kernel_rfl) (ea_cons (ex_add (ex_mulI (ex_ix (vX 0 (by kernel_rfl) (by kernel_rfl)).b ex_int.b (fun _ _ => rfl)).b (ex_ix (vX 1 (by kernel_rfl) (by kernel_rfl)).b ex_int.b (fun _ _ => rfl)).b).b (ex_mulI (ex_ix (vX 1 (by kernel_rfl) (by kernel_rfl)).b ex_int.b (fun _ _ => rfl)).b (ex_ix (vX 0 (by kernel_rfl) (by kernel_rfl)).b ex_int.b (fun _ _ => rfl)).b).b) (ea_cons (ex_mulI (ex_ix (vX 0 (by kernel_rfl) (by kernel_rfl)).b ex_int.b (fun _ _ => rfl)).b (ex_ix (vX 1 (by kernel_rfl) (by kernel_rfl)).b ex_int.b (fun _ _ => rfl)).b) ea_nil (by kernel_rfl)) (by kernel_rfl)) rfl (by kernel_rfl) (by kernel_rfl) (lenS (lenS len0)))))⟩
/-! ### total -/
abbrev N_total : List Str := ["told", "found", "one"]
noncomputable def D_total : DenS :=
  (sSeq (sSet 1 (mkT (lCons (kD (.int 0)) (lCons (kD (.int 1)) lNil))))
  (sSeq (sFor (iSeq (vR 0)) (gN 2) (sSet 1 (dCall (lCons (vR 1) (lCons (vR 2) lNil)) f_plus)))
  (sRet (vR 1))))
noncomputable def f_total : List D → Option D := runX D_total 3
theorem sc_total : FnScope N_total ["told"] (defScope (topOf PR 11)) := ⟨rfl, rfl, rfl, by decide +kernel, rfl, by decide +kernel, by decide +kernel⟩
theorem b_total {w : World} {K : PySem.W.Frag} {mg : Str → Option Value} {base : Heap} {f : Addr} (c_plus : FX PR w K mg base 2 "plus" 2 f_plus) : Bd PR w K mg base 2 N_total "total" (defBody (topOf PR 11)) (defScope (topOf PR 11)) f D_total :=
  ⟨fun cdv A outer s H E hr => by
  have nd : N_total.Nodup := sc_total.nd
  exact (sxs_cons (sx_set 1 nd (by kernel_rfl) (by kernel_rfl) (by kernel_rfl) (ex_tup (ea_cons ex_int (ea_cons ex_int ea_nil (by kernel_rfl)) (by kernel_rfl))) (by kernel_rfl))
  (sxs_cons (sx_for PySem.PassesOwn.never rfl (ei_seq (vX 0 (by kernel_rfl) (by kernel_rfl))) (eg_name 2 nd (by kernel_rfl) (by kernel_rfl) (by kernel_rfl)) (sxs_one (sx_set 1 nd (by kernel_rfl) (by kernel_rfl) (by kernel_rfl) (cX (c_plus : FX PR w K mg base _ _ _ _) hr (gl_of (by kernel_rfl)) (by kernel_rfl) (ea_cons (vX 1 (by kernel_rfl) (by kernel_rfl)) (ea_cons (vX 2 (by kernel_rfl) (by kernel_rfl)) ea_nil (by kernel_rfl)) (by kernel_rfl)) rfl (by kernel_rfl) (by kernel_rfl) (lenS (lenS len0))) (by kernel_rfl))) (fun _ => rfl))
  (sxs_one (sx_ret (vX 1 (by kernel_rfl) (by kernel_rfl))))))⟩
/-! ### times -/
abbrev N_times : List Str := ["one", "two"]
noncomputable def D_times : DenS :=
  (sRet (dCall (lCons (d2 mulI (d2 ixD (vR 0) (kD (.int 0))) (d2 ixD (vR 1) (kD (.int 0)))) (lCons (d2 mulI (d2 ixD (vR 0) (kD (.int 1))) (d2 ixD (vR 1) (kD (.int 1)))) lNil)) f_fraction))
noncomputable def f_times : List D → Option D := runX D_times 2
theorem sc_times : FnScope N_times ["one", "two"] (defScope (topOf PR 10)) := ⟨rfl, rfl, rfl, by decide +kernel, rfl, by decide +kernel, by decide +kernel⟩
theorem b_times {w : World} {K : PySem.W.Frag} {mg : Str → Option Value} {base : Heap} {f : Addr} (c_fraction : FX PR w K mg base 1 "fraction" 2 f_fraction) : Bd PR w K mg base 1 N_times "times" (defBody (topOf PR 10)) (defScope (topOf PR 10)) f D_times :=
  ⟨fun cdv A outer s H E hr => by
  have nd : N_times.Nodup := sc_times.nd
  exact (sxs_one (sx_ret (cX (c_fraction : FX PR w K mg base _ _ _ _) hr (gl_of (by kernel_rfl)) (by kernel_rfl) (ea_cons (ex_mulI (ex_ix (vX 0 (by kernel_rfl) (by kernel_rfl)).b ex_int.b (fun _ _ => rfl)).b (ex_ix (vX 1 (by kernel_rfl) (by kernel_rfl)).b ex_int.b (fun _ _ => rfl)).b) (ea_cons (ex_mulI (ex_ix (vX 0 (by kernel_rfl) (by kernel_rfl)).b ex_int.b (fun _ _ => rfl)).b (ex_ix (vX 1 (by kernel_rfl) (by kernel_rfl)).b ex_int.b (fun _ _ => rfl)).b) ea_nil (by kernel_rfl)) (by kernel_rfl)) rfl (by kernel_rfl) (by kernel_rfl) (lenS (lenS len0)))))⟩
/-! ### mean_error -/
abbrev N_mean_error : List Str := ["errors", "error", "count", "_"]
noncomputable def D_mean_error : DenS :=
  (sRet (dCall (lCons (d1 sumD (dLc (iSeq (vR 0)) (gT (gsCons (gN 1) (gsCons (gN 2) gsNil)) 2) bYes (d2 mulI (vR 1) (vR 2)) [1, 2])) (lCons (d1 sumD (dLc (iSeq (vR 0)) (gT (gsCons (gN 3) (gsCons (gN 2) gsNil)) 2) bYes (vR 2) [3, 2])) lNil)) f_fraction))
noncomputable def f_mean_error : List D → Option D := runX D_mean_error 4
theorem sc_mean_error : FnScope N_mean_error ["errors"] (defScope (topOf PR 23)) := ⟨rfl, rfl, rfl, by decide +kernel, rfl, by decide +kernel, by decide +kernel⟩
theorem b_mean_error {w : World} {K : PySem.W.Frag} {mg : Str → Option Value} {base : Heap} {f : Addr} (h_sum : mg "sum" = none) (c_fraction : FX PR w K mg base 1 "fraction" 2 f_fraction) : Bd PR w K mg base 1 N_mean_error "mean_error" (defBody (topOf PR 23)) (defScope (topOf PR 23)) f D_mean_error :=
  ⟨fun cdv A outer s H E hr => by
  have nd : N_mean_error.Nodup := sc_mean_error.nd
  exact (sxs_one (sx_ret (cX (c_fraction : FX PR w K mg base _ _ _ _) hr (gl_of (by kernel_rfl)) (by kernel_rfl) (ea_cons (ex_sum rfl (gl_of (by kernel_rfl)) h_sum (en_lc (own := [("error", 1), ("count", 2)]) rfl nd (ei_seq (vX 0 (by kernel_rfl) (by kernel_rfl))) (blkOk_by (by kernel_rfl)) (fun _ _ _ _ _ => (eg_tup (n := 2) rfl (egs_cons (eg_name 1 nd (by kernel_rfl) (by kernel_rfl) (by kernel_rfl)) (egs_cons (eg_name 2 nd (by kernel_rfl) (by kernel_rfl) (by kernel_rfl)) egs_nil (by kernel_rfl)) (by kernel_rfl)) (by kernel_rfl) (by kernel_rfl))) (fun _ _ _ _ _ => ets_nil) (fun _ _ _ _ _ => (ex_mulI (vX 1 (by kernel_rfl) (by kernel_rfl)).b (vX 2 (by kernel_rfl) (by kernel_rfl)).b)) (fun _ => rfl) (by decide)).x.b (by kernel_rfl)) (ea_cons (ex_sum rfl (gl_of (by kernel_rfl)) h_sum (en_lc (own := [("_", 3), ("count", 2)]) rfl nd (ei_seq (vX 0 (by kernel_rfl) (by kernel_rfl))) (blkOk_by (by kernel_rfl)) (fun _ _ _ _ _ => (eg_tup (n := 2) rfl (egs_cons (eg_name 3 nd (by kernel_rfl) (by kernel_rfl) (by kernel_rfl)) (egs_cons (eg_name 2 nd (by kernel_rfl) (by kernel_rfl) (by kernel_rfl)) egs_nil (by kernel_rfl)) (by kernel_rfl)) (by kernel_rfl) (by kernel_rfl))) (fun _ _ _ _ _ => ets_nil) (fun _ _ _ _ _ => (vX 2 (by kernel_rfl) (by kernel_rfl))) (fun _ => rfl) (by decide)).x.b (by kernel_rfl)) ea_nil (by kernel_rfl)) (by kernel_rfl)) rfl (by kernel_rfl) (by kernel_rfl) (lenS (lenS len0)))))⟩
/-! ### mean -/
abbrev N_mean : List Str := ["chain", "sign", "size", "errors"]
noncomputable def D_mean : DenS :=
  (sSeq (sDrop (dCall (lCons (vR 0) lNil) f_check_chain))
  (sRet (dCall (lCons (dLc (iSeq (vR 0)) (gT (gsCons (gN 1) (gsCons (gN 2) (gsCons (gN 3) gsNil))) 3) bYes (dCall (lCons (mkT (lCons (vR 1) (lCons (kD (.int 1)) lNil))) (lCons (dCall (lCons (mkT (lCons (vR 2) (lCons (kD (.int 1)) lNil))) (lCons (dCall (lCons (vR 3) lNil) f_mean_error) lNil)) f_plus) lNil)) f_times) [1, 2, 3]) lNil) f_total)))
noncomputable def f_mean : List D → Option D := runX D_mean 4
theorem sc_mean : FnScope N_mean ["chain"] (defScope (topOf PR 24)) := ⟨rfl, rfl, rfl, by decide +kernel, rfl, by decide +kernel, by decide +kernel⟩
theorem b_mean {w : World} {K : PySem.W.Frag} {mg : Str → Option Value} {base : Heap} {f : Addr} (c_check_chain : FX PR w K mg base 3 "check_chain" 1 f_check_chain) (c_mean_error : FX PR w K mg base 3 "mean_error" 1 f_mean_error) (c_plus : FX PR w K mg base 3 "plus" 2 f_plus) (c_times : FX PR w K mg base 3 "times" 2 f_times) (c_total : FX PR w K mg base 3 "total" 1 f_total) : Bd PR w K mg base 3 N_mean "mean" (defBody (topOf PR 24)) (defScope (topOf PR 24)) f D_mean :=
  ⟨fun cdv A outer s H E hr => by
  have nd : N_mean.Nodup := sc_mean.nd
  exact (sxs_cons (sx_expr (cX (c_check_chain : FX PR w K mg base _ _ _ _) hr (gl_of (by kernel_rfl)) (by kernel_rfl) (ea_cons (vX 0 (by kernel_rfl) (by kernel_rfl)) ea_nil (by kernel_rfl)) rfl (by kernel_rfl) (by kernel_rfl) (lenS len0)) (by kernel_rfl))
  (sxs_one (sx_ret (cX (c_total : FX PR w K mg base _ _ _ _) hr (gl_of (by kernel_rfl)) (by kernel_rfl) (ea_cons (en_lc (own := [("sign", 1), ("size", 2), ("errors", 3)]) rfl nd (ei_seq (vX 0 (by kernel_rfl) (by kernel_rfl))) (blkOk_by (by kernel_rfl)) (fun _ _ _ _ _ => (eg_tup (n := 3) rfl (egs_cons (eg_name 1 nd (by kernel_rfl) (by kernel_rfl) (by kernel_rfl)) (egs_cons (eg_name 2 nd (by kernel_rfl) (by kernel_rfl) (by kernel_rfl)) (egs_cons (eg_name 3 nd (by kernel_rfl) (by kernel_rfl) (by kernel_rfl)) egs_nil (by kernel_rfl)) (by kernel_rfl)) (by kernel_rfl)) (by kernel_rfl) (by kernel_rfl))) (fun _ _ _ _ _ => ets_nil) (fun _ _ _ _ _ => (cX (c_times : FX PR w K mg base _ _ _ _) hr (gl_of (by kernel_rfl)) (by kernel_rfl) (ea_cons (ex_tup (ea_cons (vX 1 (by kernel_rfl) (by kernel_rfl)) (ea_cons ex_int ea_nil (by kernel_rfl)) (by kernel_rfl))) (ea_cons (cX (c_plus : FX PR w K mg base _ _ _ _) hr (gl_of (by kernel_rfl)) (by kernel_rfl) (ea_cons (ex_tup (ea_cons (vX 2 (by kernel_rfl) (by kernel_rfl)) (ea_cons ex_int ea_nil (by kernel_rfl)) (by kernel_rfl))) (ea_cons (cX (c_mean_error : FX PR w K mg base _ _ _ _) hr (gl_of (by kernel_rfl)) (by kernel_rfl) (ea_cons (vX 3 (by kernel_rfl) (by kernel_rfl)) ea_nil (by kernel_rfl)) rfl (by kernel_rfl) (by kernel_rfl) (lenS len0)) ea_nil (by kernel_rfl)) (by kernel_rfl)) rfl (by kernel_rfl) (by kernel_rfl) (lenS (lenS len0))) ea_nil (by kernel_rfl)) (by kernel_rfl)) rfl (by kernel_rfl) (by kernel_rfl) (lenS (lenS len0)))) (fun _ => rfl) (by decide)).x ea_nil (by kernel_rfl)) rfl (by kernel_rfl) (by kernel_rfl) (lenS len0)))))⟩
/-! ### _law_fraction -/
abbrev N__law_fraction : List Str := ["n", "d", "one", "two"]
noncomputable def D__law_fraction : DenS :=
  (sSeq (sPar 2 3 (lCons (d1 absD (vR 0)) (lCons (d1 absD (vR 1)) lNil)))
  (sSeq (sWh (b2 neD (vR 3) (kD (.int 0))) (sPar 2 3 (lCons (vR 3) (lCons (d2 modD (d1 intD (vR 2)) (vR 3)) lNil))))
  (sSeq (sIf (b2 ltI (vR 1) (kD (.int 0))) (sRet (mkT (lCons (d2 fdivD (d1 negD (vR 0)) (vR 2)) (lCons (d2 fdivD (d1 negD (vR 1)) (vR 2)) lNil)))) sNx)
  (sRet (mkT (lCons (d2 fdivD (vR 0) (vR 2)) (lCons (d2 fdivD (vR 1) (vR 2)) lNil)))))))
noncomputable def f__law_fraction : List D → Option D := runX D__law_fraction 4
theorem sc__law_fraction : FnScope N__law_fraction ["n", "d"] (defScope (topOf PR 31)) := ⟨rfl, rfl, rfl, by decide +kernel, rfl, by decide +kernel, by decide +kernel⟩
theorem b__law_fraction {w : World} {K : PySem.W.Frag} {mg : Str → Option Value} {base : Heap} {f : Addr} (h_abs : mg "abs" = none) (h_int : mg "int" = none) : Bd PR w K mg base 0 N__law_fraction "_law_fraction" (defBody (topOf PR 31)) (defScope (topOf PR 31)) f D__law_fraction :=
  ⟨fun cdv A outer s H E hr => by
  have nd : N__law_fraction.Nodup := sc__law_fraction.nd
  exact (sxs_cons (sx_par 2 3 rfl nd (by kernel_rfl) (by kernel_rfl) (by decide) (by kernel_rfl) (by kernel_rfl) (ea_cons (ex_abs (gl_of (by kernel_rfl)) h_abs (vX 0 (by kernel_rfl) (by kernel_rfl)).b (by kernel_rfl)) (ea_cons (ex_abs (gl_of (by kernel_rfl)) h_abs (vX 1 (by kernel_rfl) (by kernel_rfl)).b (by kernel_rfl)) ea_nil (by kernel_rfl)) (by kernel_rfl)) (by kernel_rfl) (by kernel_rfl))
  (sxs_cons (sx_while PySem.PassesOwn.never (et_cmp (ec_ne (Zx.Room.u64 hr) (vX 3 (by kernel_rfl) (by kernel_rfl)).b ex_int.b) (by kernel_rfl)) (sxs_one (sx_par 2 3 rfl nd (by kernel_rfl) (by kernel_rfl) (by decide) (by kernel_rfl) (by kernel_rfl) (ea_cons (vX 3 (by kernel_rfl) (by kernel_rfl)) (ea_cons (ex_mod (ex_int1 (gl_of (by kernel_rfl)) h_int (vX 2 (by kernel_rfl) (by kernel_rfl)).b (by kernel_rfl)).b (vX 3 (by kernel_rfl) (by kernel_rfl)).b) ea_nil (by kernel_rfl)) (by kernel_rfl)) (by kernel_rfl) (by kernel_rfl))))
  (sxs_cons (sx_if (et_cmp (ec_ltI (vX 1 (by kernel_rfl) (by kernel_rfl)).b ex_int.b) (by kernel_rfl)) (sxs_one (sx_ret (ex_tup (ea_cons (ex_fdiv (ex_neg (vX 0 (by kernel_rfl) (by kernel_rfl)).b).b (vX 2 (by kernel_rfl) (by kernel_rfl)).b) (ea_cons (ex_fdiv (ex_neg (vX 1 (by kernel_rfl) (by kernel_rfl)).b).b (vX 2 (by kernel_rfl) (by kernel_rfl)).b) ea_nil (by kernel_rfl)) (by kernel_rfl))))) sxs_nil)
  (sxs_one (sx_ret (ex_tup (ea_cons (ex_fdiv (vX 0 (by kernel_rfl) (by kernel_rfl)).b (vX 2 (by kernel_rfl) (by kernel_rfl)).b) (ea_cons (ex_fdiv (vX 1 (by kernel_rfl) (by kernel_rfl)).b (vX 2 (by kernel_rfl) (by kernel_rfl)).b) ea_nil (by kernel_rfl)) (by kernel_rfl))))))))⟩
/-! ### _law_plus -/
abbrev N__law_plus : List Str := ["one", "two"]
noncomputable def D__law_plus : DenS :=
  (sRet (dCall (lCons (d2 addD (d2 mulI (d2 ixD (vR 0) (kD (.int 0))) (d2 ixD (vR 1) (kD (.int 1)))) (d2 mulI (d2 ixD (vR 1) (kD (.int 0))) (d2 ixD (vR 0) (kD (.int 1))))) (lCons (d2 mulI (d2 ixD (vR 0) (kD (.int 1))) (d2 ixD (vR 1) (kD (.int 1)))) lNil)) f__law_fraction))
noncomputable def f__law_plus : List D → Option D := runX D__law_plus 2
theorem sc__law_plus : FnScope N__law_plus ["one", "two"] (defScope (topOf PR 32)) := ⟨rfl, rfl, rfl, by decide +kernel, rfl, by decide +kernel, by decide +kernel⟩
theorem b__law_plus {w : World} {K : PySem.W.Frag} {mg : Str → Option Value} {base : Heap} {f : Addr} (c__law_fraction : FX PR w K mg base 1 "_law_fraction" 2 f__law_fraction) : Bd PR w K mg base 1 N__law_plus "_law_plus" (defBody (topOf PR 32)) (defScope (topOf PR 32)) f D__law_plus :=
  ⟨fun cdv A outer s H E hr => by
  have nd : N__law_plus.Nodup := sc__law_plus.nd
  exact (sxs_one (sx_ret (cX (c__law_fraction : FX PR w K mg base _ _ _ _) hr (gl_of (by kernel_rfl)) (by kernel_rfl) (ea_cons (ex_add (ex_mulI (ex_ix (vX 0 (by kernel_rfl) (by kernel_rfl)).b ex_int.b (fun _ _ => rfl)).b (ex_ix (vX 1 (by kernel_rfl) (by kernel_rfl)).b ex_int.b (fun _ _ => rfl)).b).b (ex_mulI (ex_ix (vX 1 (by kernel_rfl) (by kernel_rfl)).b ex_int.b (fun _ _ => rfl)).b (ex_ix (vX 0 (by kernel_rfl) (by kernel_rfl)).b ex_int.b (fun _ _ => rfl)).b).b) (ea_cons (ex_mulI (ex_ix (vX 0 (by kernel_rfl) (by kernel_rfl)).b ex_int.b (fun _ _ => rfl)).b (ex_ix (vX 1 (by kernel_rfl) (by kernel_rfl)).b ex_int.b (fun _ _ => rfl)).b) ea_nil (by kernel_rfl)) (by kernel_rfl)) rfl (by kernel_rfl) (by kernel_rfl) (lenS (lenS len0)))))⟩
/-! ### minus -/
abbrev N_minus : List Str := ["one", "two"]
noncomputable def D_minus : DenS :=
  (sRet (dCall (lCons (d2 subD (d2 mulI (d2 ixD (vR 0) (kD (.int 0))) (d2 ixD (vR 1) (kD (.int 1)))) (d2 mulI (d2 ixD (vR 1) (kD (.int 0))) (d2 ixD (vR 0) (kD (.int 1))))) (lCons (d2 mulI (d2 ixD (vR 0) (kD (.int 1))) (d2 ixD (vR 1) (kD (.int 1)))) lNil)) f_fraction))
noncomputable def f_minus : List D → Option D := runX D_minus 2
theorem sc_minus : FnScope N_minus ["one", "two"] (defScope (topOf PR 9)) := ⟨rfl, rfl, rfl, by decide +kernel, rfl, by decide +kernel, by decide +kernel⟩
theorem b_minus {w : World} {K : PySem.W.Frag} {mg : Str → Option Value} {base : Heap} {f : Addr} (c_fraction : FX PR w K mg base 1 "fraction" 2 f_fraction) : Bd PR w K mg base 1 N_minus "minus" (defBody (topOf PR 9)) (defScope (topOf PR 9)) f D_minus :=
  ⟨fun cdv A outer s H E hr => by
  have nd : N_minus.Nodup := sc_minus.nd
  exact (sxs_one (sx_ret (cX (c_fraction : FX PR w K mg base _ _ _ _) hr (gl_of (by kernel_rfl)) (by kernel_rfl) (ea_cons (ex_sub (ex_mulI (ex_ix (vX 0 (by kernel_rfl) (by kernel_rfl)).b ex_int.b (fun _ _ => rfl)).b (ex_ix (vX 1 (by kernel_rfl) (by kernel_rfl)).b ex_int.b (fun _ _ => rfl)).b).b (ex_mulI (ex_ix (vX 1 (by kernel_rfl) (by kernel_rfl)).b ex_int.b (fun _ _ => rfl)).b (ex_ix (vX 0 (by kernel_rfl) (by kernel_rfl)).b ex_int.b (fun _ _ => rfl)).b).b) (ea_cons (ex_mulI (ex_ix (vX 0 (by kernel_rfl) (by kernel_rfl)).b ex_int.b (fun _ _ => rfl)).b (ex_ix (vX 1 (by kernel_rfl) (by kernel_rfl)).b ex_int.b (fun _ _ => rfl)).b) ea_nil (by kernel_rfl)) (by kernel_rfl)) rfl (by kernel_rfl) (by kernel_rfl) (lenS (lenS len0)))))⟩
/-! ### spread_of -/
abbrev N_spread_of : List Str := ["errors", "middle", "many", "found", "error", "count", "apart", "_"]
noncomputable def D_spread_of : DenS :=
  (sSeq (sSet 1 (dCall (lCons (vR 0) lNil) f_mean_error))
  (sSeq (sSet 2 (d1 sumD (dLc (iSeq (vR 0)) (gT (gsCons (gN 7) (gsCons (gN 5) gsNil)) 2) bYes (vR 5) [7, 5])))
  (sSeq (sOwn 3 (mkL lNil))
  (sSeq (sFor (iSeq (vR 0)) (gT (gsCons (gN 4) (gsCons (gN 5) gsNil)) 2) (sSeq (sSet 6 (dCall (lCons (mkT (lCons (vR 4) (lCons (kD (.int 1)) lNil))) (lCons (vR 1) lNil)) f_minus))
   (sApp 3 (dCall (lCons (dCall (lCons (vR 5) (lCons (vR 2) lNil)) f_fraction) (lCons (dCall (lCons (vR 6) (lCons (vR 6) lNil)) f_times) lNil)) f_times))))
  (sFrz 3 (sRet (dCall (lCons (vR 3) lNil) f_total)))))))
noncomputable def f_spread_of : List D → Option D := runX D_spread_of 8
theorem sc_spread_of : FnScope N_spread_of ["errors"] (defScope (topOf PR 25)) := ⟨rfl, rfl, rfl, by decide +kernel, rfl, by decide +kernel, by decide +kernel⟩
theorem b_spread_of {w : World} {K : PySem.W.Frag} {mg : Str → Option Value} {base : Heap} {f : Addr} (h_sum : mg "sum" = none) (c_fraction : FX PR w K mg base 3 "fraction" 2 f_fraction) (c_mean_error : FX PR w K mg base 3 "mean_error" 1 f_mean_error) (c_minus : FX PR w K mg base 3 "minus" 2 f_minus) (c_times : FX PR w K mg base 3 "times" 2 f_times) (c_total : FX PR w K mg base 3 "total" 1 f_total) : Bd PR w K mg base 3 N_spread_of "spread_of" (defBody (topOf PR 25)) (defScope (topOf PR 25)) f D_spread_of :=
  ⟨fun cdv A outer s H E hr => by
  have nd : N_spread_of.Nodup := sc_spread_of.nd
  exact (sxs_cons (sx_set 1 nd (by kernel_rfl) (by kernel_rfl) (by kernel_rfl) (cX (c_mean_error : FX PR w K mg base _ _ _ _) hr (gl_of (by kernel_rfl)) (by kernel_rfl) (ea_cons (vX 0 (by kernel_rfl) (by kernel_rfl)) ea_nil (by kernel_rfl)) rfl (by kernel_rfl) (by kernel_rfl) (lenS len0)) (by kernel_rfl))
  (sxs_cons (sx_set 2 nd (by kernel_rfl) (by kernel_rfl) (by kernel_rfl) (ex_sum rfl (gl_of (by kernel_rfl)) h_sum (en_lc (own := [("_", 7), ("count", 5)]) rfl nd (ei_seq (vX 0 (by kernel_rfl) (by kernel_rfl))) (blkOk_by (by kernel_rfl)) (fun _ _ _ _ _ => (eg_tup (n := 2) rfl (egs_cons (eg_name 7 nd (by kernel_rfl) (by kernel_rfl) (by kernel_rfl)) (egs_cons (eg_name 5 nd (by kernel_rfl) (by kernel_rfl) (by kernel_rfl)) egs_nil (by kernel_rfl)) (by kernel_rfl)) (by kernel_rfl) (by kernel_rfl))) (fun _ _ _ _ _ => ets_nil) (fun _ _ _ _ _ => (vX 5 (by kernel_rfl) (by kernel_rfl))) (fun _ => rfl) (by decide)).x.b (by kernel_rfl)) (by kernel_rfl))
  (sxs_cons (sx_own 3 nd (by kernel_rfl) (by kernel_rfl) (by kernel_rfl) (en_lst ea_nil) (by kernel_rfl))
  (sxs_cons (sx_for PySem.PassesOwn.never rfl (ei_seq (vX 0 (by kernel_rfl) (by kernel_rfl))) (eg_tup (n := 2) rfl (egs_cons (eg_name 4 nd (by kernel_rfl) (by kernel_rfl) (by kernel_rfl)) (egs_cons (eg_name 5 nd (by kernel_rfl) (by kernel_rfl) (by kernel_rfl)) egs_nil (by kernel_rfl)) (by kernel_rfl)) (by kernel_rfl) (by kernel_rfl)) (sxs_cons (sx_set 6 nd (by kernel_rfl) (by kernel_rfl) (by kernel_rfl) (cX (c_minus : FX PR w K mg base _ _ _ _) hr (gl_of (by kernel_rfl)) (by kernel_rfl) (ea_cons (ex_tup (ea_cons (vX 4 (by kernel_rfl) (by kernel_rfl)) (ea_cons ex_int ea_nil (by kernel_rfl)) (by kernel_rfl))) (ea_cons (vX 1 (by kernel_rfl) (by kernel_rfl)) ea_nil (by kernel_rfl)) (by kernel_rfl)) rfl (by kernel_rfl) (by kernel_rfl) (lenS (lenS len0))) (by kernel_rfl))
   (sxs_one (sx_append 3 (by kernel_rfl) (by kernel_rfl) (by kernel_rfl) (by kernel_rfl) (cX (c_times : FX PR w K mg base _ _ _ _) hr (gl_of (by kernel_rfl)) (by kernel_rfl) (ea_cons (cX (c_fraction : FX PR w K mg base _ _ _ _) hr (gl_of (by kernel_rfl)) (by kernel_rfl) (ea_cons (vX 5 (by kernel_rfl) (by kernel_rfl)) (ea_cons (vX 2 (by kernel_rfl) (by kernel_rfl)) ea_nil (by kernel_rfl)) (by kernel_rfl)) rfl (by kernel_rfl) (by kernel_rfl) (lenS (lenS len0))) (ea_cons (cX (c_times : FX PR w K mg base _ _ _ _) hr (gl_of (by kernel_rfl)) (by kernel_rfl) (ea_cons (vX 6 (by kernel_rfl) (by kernel_rfl)) (ea_cons (vX 6 (by kernel_rfl) (by kernel_rfl)) ea_nil (by kernel_rfl)) (by kernel_rfl)) rfl (by kernel_rfl) (by kernel_rfl) (lenS (lenS len0))) ea_nil (by kernel_rfl)) (by kernel_rfl)) rfl (by kernel_rfl) (by kernel_rfl) (lenS (lenS len0))) (by kernel_rfl) (by kernel_rfl)))) (fun _ => rfl))
  (sxs_one (sx_frz 3 (sx_ret (cX (c_total : FX PR w K mg base _ _ _ _) hr (gl_of (by kernel_rfl)) (by kernel_rfl) (ea_cons (vX 3 (by kernel_rfl) (by kernel_rfl)) ea_nil (by kernel_rfl)) rfl (by kernel_rfl) (by kernel_rfl) (lenS len0)))))))))⟩
/-! ### spread -/
abbrev N_spread : List Str := ["chain", "_", "errors"]
noncomputable def D_spread : DenS :=
  (sSeq (sDrop (dCall (lCons (vR 0) lNil) f_check_chain))
  (sRet (dCall (lCons (dLc (iSeq (vR 0)) (gT (gsCons (gN 1) (gsCons (gN 1) (gsCons (gN 2) gsNil))) 3) bYes (dCall (lCons (vR 2) lNil) f_spread_of) [1, 2]) lNil) f_total)))
noncomputable def f_spread : List D → Option D := runX D_spread 3
theorem sc_spread : FnScope N_spread ["chain"] (defScope (topOf PR 26)) := ⟨rfl, rfl, rfl, by decide +kernel, rfl, by decide +kernel, by decide +kernel⟩
theorem b_spread {w : World} {K : PySem.W.Frag} {mg : Str → Option Value} {base : Heap} {f : Addr} (c_check_chain : FX PR w K mg base 4 "check_chain" 1 f_check_chain) (c_spread_of : FX PR w K mg base 4 "spread_of" 1 f_spread_of) (c_total : FX PR w K mg base 4 "total" 1 f_total) : Bd PR w K mg base 4 N_spread "spread" (defBody (topOf PR 26)) (defScope (topOf PR 26)) f D_spread :=
  ⟨fun cdv A outer s H E hr => by
  have nd : N_spread.Nodup := sc_spread.nd
  exact (sxs_cons (sx_expr (cX (c_check_chain : FX PR w K mg base _ _ _ _) hr (gl_of (by kernel_rfl)) (by kernel_rfl) (ea_cons (vX 0 (by kernel_rfl) (by kernel_rfl)) ea_nil (by kernel_rfl)) rfl (by kernel_rfl) (by kernel_rfl) (lenS len0)) (by kernel_rfl))
  (sxs_one (sx_ret (cX (c_total : FX PR w K mg base _ _ _ _) hr (gl_of (by kernel_rfl)) (by kernel_rfl) (ea_cons (en_lc (own := [("_", 1), ("errors", 2)]) rfl nd (ei_seq (vX 0 (by kernel_rfl) (by kernel_rfl))) (blkOk_by (by kernel_rfl)) (fun _ _ _ _ _ => (eg_tup (n := 3) rfl (egs_cons (eg_name 1 nd (by kernel_rfl) (by kernel_rfl) (by kernel_rfl)) (egs_cons (eg_name 1 nd (by kernel_rfl) (by kernel_rfl) (by kernel_rfl)) (egs_cons (eg_name 2 nd (by kernel_rfl) (by kernel_rfl) (by kernel_rfl)) egs_nil (by kernel_rfl)) (by kernel_rfl)) (by kernel_rfl)) (by kernel_rfl) (by kernel_rfl))) (fun _ _ _ _ _ => ets_nil) (fun _ _ _ _ _ => (cX (c_spread_of : FX PR w K mg base _ _ _ _) hr (gl_of (by kernel_rfl)) (by kernel_rfl) (ea_cons (vX 2 (by kernel_rfl) (by kernel_rfl)) ea_nil (by kernel_rfl)) rfl (by kernel_rfl) (by kernel_rfl) (lenS len0))) (fun _ => rfl) (by decide)).x ea_nil (by kernel_rfl)) rfl (by kernel_rfl) (by kernel_rfl) (lenS len0)))))⟩
/-! ### _law_times -/
abbrev N__law_times : List Str := ["one", "two"]
noncomputable def D__law_times : DenS :=
  (sRet (dCall (lCons (d2 mulI (d2 ixD (vR 0) (kD (.int 0))) (d2 ixD (vR 1) (kD (.int 0)))) (lCons (d2 mulI (d2 ixD (vR 0) (kD (.int 1))) (d2 ixD (vR 1) (kD (.int 1)))) lNil)) f__law_fraction))
noncomputable def f__law_times : List D → Option D := runX D__law_times 2
theorem sc__law_times : FnScope N__law_times ["one", "two"] (defScope (topOf PR 33)) := ⟨rfl, rfl, rfl, by decide +kernel, rfl, by decide +kernel, by decide +kernel⟩
theorem b__law_times {w : World} {K : PySem.W.Frag} {mg : Str → Option Value} {base : Heap} {f : Addr} (c__law_fraction : FX PR w K mg base 1 "_law_fraction" 2 f__law_fraction) : Bd PR w K mg base 1 N__law_times "_law_times" (defBody (topOf PR 33)) (defScope (topOf PR 33)) f D__law_times :=
  ⟨fun cdv A outer s H E hr => by
  have nd : N__law_times.Nodup := sc__law_times.nd
  exact (sxs_one (sx_ret (cX (c__law_fraction : FX PR w K mg base _ _ _ _) hr (gl_of (by kernel_rfl)) (by kernel_rfl) (ea_cons (ex_mulI (ex_ix (vX 0 (by kernel_rfl) (by kernel_rfl)).b ex_int.b (fun _ _ => rfl)).b (ex_ix (vX 1 (by kernel_rfl) (by kernel_rfl)).b ex_int.b (fun _ _ => rfl)).b) (ea_cons (ex_mulI (ex_ix (vX 0 (by kernel_rfl) (by kernel_rfl)).b ex_int.b (fun _ _ => rfl)).b (ex_ix (vX 1 (by kernel_rfl) (by kernel_rfl)).b ex_int.b (fun _ _ => rfl)).b) ea_nil (by kernel_rfl)) (by kernel_rfl)) rfl (by kernel_rfl) (by kernel_rfl) (lenS (lenS len0)))))⟩
/-! ### law -/
abbrev N_law : List Str := ["script", "draws", "one", "two", "both", "first", "second", "told", "due", "a", "low", "high", "turned", "opposite", "by", "sign", "size", "errors", "moved", "times_v", "large", "many", "start", "wide", "turn", "b", "left", "right", "part", "error", "count", "whole"]
noncomputable def D_law : DenS :=
  (sSeq (sSet 1 (dCall (lCons (vR 0) lNil) f__law_draws))
  (sSeq (sPar 2 3 (lCons (dCall (lCons (vR 1) (lCons (kD (.int 10)) (lCons (kD (.int 3)) lNil))) f__law_chain) (lCons (dCall (lCons (vR 1) (lCons (kD (.int 60)) (lCons (kD (.int 3)) lNil))) f__law_chain) lNil)))
  (sSeq (sSet 4 (d2 addD (vR 2) (vR 3)))
  (sSeq (sAsg (gT (gsCons (gN 5) (gsCons (gN 6) (gsCons (gN 7) gsNil))) 3) (mkT (lCons (dCall (lCons (vR 2) lNil) f_ways) (lCons (dCall (lCons (vR 3) lNil) f_ways) (lCons (dCall (lCons (vR 4) lNil) f_ways) lNil)))))
  (sSeq (sOwn 8 (kD (.dict [])))
  (sSeq (sFor (iKeysJ 5) (gN 9) (sFor (iKeysJ 6) (gN 25) (sStD 8 (d2 addD (vR 9) (vR 25)) (d2 addD (d3 dgetD3 (vB 8) (d2 addD (vR 9) (vR 25)) (kD (.int 0))) (d2 mulI (d2 dgetD (vR 5) (vR 9)) (d2 dgetD (vR 6) (vR 25)))))))
  (sSeq (sIf (bOr (b2 neDD (vR 7) (vB 8)) (bOr (b2 neDD (dCall (lCons (d2 addD (vR 3) (vR 2)) lNil) f_ways) (vB 8)) (b2 neDD (dCall (lCons (d1 revD (vR 4)) lNil) f_ways) (vB 8)))) (sRet (kD (.bool false))) sNx)
  (sSeq (sPar 10 11 (lCons (dCall (lCons (vR 2) lNil) f_ends) (lCons (dCall (lCons (vR 3) lNil) f_ends) lNil)))
  (sSeq (sIf (b2 neD (dCall (lCons (vR 4) lNil) f_ends) (mkT (lCons (d2 addD (d2 ixD (vR 10) (kD (.int 0))) (d2 ixD (vR 11) (kD (.int 0)))) (lCons (d2 addD (d2 ixD (vR 10) (kD (.int 1))) (d2 ixD (vR 11) (kD (.int 1)))) lNil)))) (sRet (kD (.bool false))) sNx)
  (sSeq (sIf (bOr (b2 neD (dCall (lCons (vR 4) lNil) f_mean) (dCall (lCons (dCall (lCons (vR 2) lNil) f_mean) (lCons (dCall (lCons (vR 3) lNil) f_mean) lNil)) f__law_plus)) (b2 neD (dCall (lCons (vR 4) lNil) f_spread) (dCall (lCons (dCall (lCons (vR 2) lNil) f_spread) (lCons (dCall (lCons (vR 3) lNil) f_spread) lNil)) f__law_plus))) (sRet (kD (.bool false))) sNx)
  (sSeq (sLcSet 12 false (dLc (iSeq (vR 2)) (gT (gsCons (gN 15) (gsCons (gN 16) (gsCons (gN 17) gsNil))) 3) bYes (mkT (lCons (d1 negD (vR 15)) (lCons (vR 16) (lCons (vR 17) lNil)))) [15, 16, 17]))
  (sSeq (sSet 13 (dCall (lCons (vR 12) lNil) f_ways))
  (sSeq (sIf (bOr (b2 neDD (vR 13) (d1 dictD (dLc (iKeysJ 5) (gN 31) bYes (mkT (lCons (d1 negD (vR 31)) (lCons (d2 dgetD (vR 5) (vR 31)) lNil))) [31]))) (bOr (b2 neD (dCall (lCons (vR 12) lNil) f_spread) (dCall (lCons (vR 2) lNil) f_spread)) (b2 neD (dCall (lCons (vR 12) lNil) f_mean) (dCall (lCons (mkT (lCons (d1 negD (kD (.int 1))) (lCons (kD (.int 1)) lNil))) (lCons (dCall (lCons (vR 2) lNil) f_mean) lNil)) f__law_times)))) (sRet (kD (.bool false))) sNx)
  (sSeq (sSet 14 (dCall (lCons (vR 1) (lCons (kD (.int 1)) (lCons (kD (.int 50)) lNil))) f__law_mix))
  (sSeq (sAsg (gT (gsCons (gN 15) (gsCons (gN 16) (gsCons (gN 17) gsNil))) 3) (d2 ixD (vR 2) (kD (.int 0))))
  (sSeq (sSet 18 (d2 addD (mkL (lCons (mkT (lCons (vR 15) (lCons (d2 addD (vR 16) (vR 14)) (lCons (vR 17) lNil)))) lNil)) (dSl (vR 2) (oSome (kD (.int 1))) oNone)))
  (sSeq (sIf (bOr (b2 neDD (dCall (lCons (vR 18) lNil) f_ways) (d1 dictD (dLc (iKeysJ 5) (gN 31) bYes (mkT (lCons (d2 addD (vR 31) (d2 mulI (vR 15) (vR 14))) (lCons (d2 dgetD (vR 5) (vR 31)) lNil))) [31]))) (b2 neD (dCall (lCons (vR 18) lNil) f_spread) (dCall (lCons (vR 2) lNil) f_spread))) (sRet (kD (.bool false))) sNx)
  (sSeq (sSet 19 (d2 addD (kD (.int 2)) (dCall (lCons (vR 1) (lCons (kD (.int 2)) (lCons (kD (.int 3)) lNil))) f__law_mix)))
  (sSeq (sLcSet 20 false (dLc (iSeq (vR 2)) (gT (gsCons (gN 15) (gsCons (gN 16) (gsCons (gN 17) gsNil))) 3) bYes (mkT (lCons (vR 15) (lCons (d2 mulI (vR 19) (vR 16)) (lCons (dLc (iSeq (vR 17)) (gT (gsCons (gN 29) (gsCons (gN 30) gsNil)) 2) bYes (mkT (lCons (d2 mulI (vR 19) (vR 29)) (lCons (vR 30) lNil))) [29, 30]) lNil)))) [15, 16, 17]))
  (sSeq (sIf (b2 neDD (dCall (lCons (vR 20) lNil) f_ways) (d1 dictD (dLc (iKeysJ 5) (gN 31) bYes (mkT (lCons (d2 mulI (vR 19) (vR 31)) (lCons (d2 dgetD (vR 5) (vR 31)) lNil))) [31]))) (sRet (kD (.bool false))) sNx)
  (sSeq (sIf (bOr (b2 neD (dCall (lCons (vR 20) lNil) f_mean) (dCall (lCons (mkT (lCons (vR 19) (lCons (kD (.int 1)) lNil))) (lCons (dCall (lCons (vR 2) lNil) f_mean) lNil)) f__law_times)) (b2 neD (dCall (lCons (vR 20) lNil) f_spread) (dCall (lCons (mkT (lCons (d2 mulI (vR 19) (vR 19)) (lCons (kD (.int 1)) lNil))) (lCons (dCall (lCons (vR 2) lNil) f_spread) lNil)) f__law_times))) (sRet (kD (.bool false))) sNx)
  (sSeq (sLcSet 21 false (dLc (iSeq (vR 4)) (gT (gsCons (gN 15) (gsCons (gN 16) (gsCons (gN 17) gsNil))) 3) bYes (mkT (lCons (vR 15) (lCons (vR 16) (lCons (dLc (iSeq (vR 17)) (gT (gsCons (gN 29) (gsCons (gN 30) gsNil)) 2) bYes (mkT (lCons (vR 29) (lCons (d2 mulI (vR 19) (vR 30)) lNil))) [29, 30]) lNil)))) [15, 16, 17]))
  (sSeq (sAsg (gT (gsCons (gN 22) (gsCons (gN 23) gsNil)) 2) (dCall (lCons (vR 4) lNil) f_ends))
  (sSeq (sFor (iR1 (kD (.int 4))) (gN 24) (sSeq (sSet 26 (d2 addD (vR 22) (dCall (lCons (vR 1) (lCons (d2 addD (kD (.int 3)) (d2 mulI (kD (.int 2)) (vR 24))) (lCons (d2 addD (d2 subD (vR 23) (vR 22)) (kD (.int 1))) lNil))) f__law_mix)))
   (sSeq (sSet 27 (d2 addD (vR 26) (dCall (lCons (vR 1) (lCons (d2 addD (kD (.int 4)) (d2 mulI (kD (.int 2)) (vR 24))) (lCons (d2 addD (d2 subD (vR 23) (vR 26)) (kD (.int 1))) lNil))) f__law_mix)))
   (sSeq (sSet 28 (dCall (lCons (vR 4) (lCons (vR 26) (lCons (vR 27) lNil))) f_share))
   (sSeq (sIf (bOr (b2 neD (dCall (lCons (vR 21) (lCons (vR 26) (lCons (vR 27) lNil))) f_share) (vR 28)) (b2 neD (dCall (lCons (vR 12) (lCons (d1 negD (vR 27)) (lCons (d1 negD (vR 26)) lNil))) f_share) (dCall (lCons (vR 2) (lCons (vR 26) (lCons (vR 27) lNil))) f_share))) (sRet (kD (.bool false))) sNx)
   (sIf (b2 neD (dCall (lCons (vR 28) (lCons (dCall (lCons (vR 4) (lCons (d2 addD (vR 27) (kD (.int 1))) (lCons (d2 addD (vR 23) (kD (.int 1))) lNil))) f_share) lNil)) f__law_plus) (dCall (lCons (vR 4) (lCons (vR 26) (lCons (vR 23) lNil))) f_share)) (sRet (kD (.bool false))) sNx))))))
  (sRet (bV (b2 eqD (dCall (lCons (vR 4) (lCons (vR 22) (lCons (vR 23) lNil))) f_share) (mkT (lCons (kD (.int 1)) (lCons (kD (.int 1)) lNil))))))))))))))))))))))))))))))
noncomputable def f_law : List D → Option D := runX D_law 32
theorem sc_law : FnScope N_law ["script"] (defScope (topOf PR 35)) := ⟨rfl, rfl, rfl, by decide +kernel, rfl, by decide +kernel, by decide +kernel⟩
theorem b_law {w : World} {K : PySem.W.Frag} {mg : Str → Option Value} {base : Heap} {f : Addr} (h_dict : mg "dict" = none) (h_range : mg "range" = none) (c__law_chain : FX PR w K mg base 5 "_law_chain" 3 f__law_chain) (c__law_draws : FX PR w K mg base 5 "_law_draws" 1 f__law_draws) (c__law_mix : FX PR w K mg base 5 "_law_mix" 3 f__law_mix) (c__law_plus : FX PR w K mg base 5 "_law_plus" 2 f__law_plus) (c__law_times : FX PR w K mg base 5 "_law_times" 2 f__law_times) (c_ends : FX PR w K mg base 5 "ends" 1 f_ends) (c_mean : FX PR w K mg base 5 "mean" 1 f_mean) (c_share : FX PR w K mg base 5 "share" 3 f_share) (c_spread : FX PR w K mg base 5 "spread" 1 f_spread) (c_ways : FX PR w K mg base 5 "ways" 1 f_ways) : Bd PR w K mg base 5 N_law "law" (defBody (topOf PR 35)) (defScope (topOf PR 35)) f D_law :=
  ⟨fun cdv A outer s H E hr => by
  have nd : N_law.Nodup := sc_law.nd
  exact (sxs_cons (sx_set 1 nd (by kernel_rfl) (by kernel_rfl) (by kernel_rfl) (cX (c__law_draws : FX PR w K mg base _ _ _ _) hr (gl_of (by kernel_rfl)) (by kernel_rfl) (ea_cons (vX 0 (by kernel_rfl) (by kernel_rfl)) ea_nil (by kernel_rfl)) rfl (by kernel_rfl) (by kernel_rfl) (lenS len0)) (by kernel_rfl))
  (sxs_cons (sx_par 2 3 rfl nd (by kernel_rfl) (by kernel_rfl) (by decide) (by kernel_rfl) (by kernel_rfl) (ea_cons (cX (c__law_chain : FX PR w K mg base _ _ _ _) hr (gl_of (by kernel_rfl)) (by kernel_rfl) (ea_cons (vX 1 (by kernel_rfl) (by kernel_rfl)) (ea_cons ex_int (ea_cons ex_int ea_nil (by kernel_rfl)) (by kernel_rfl)) (by kernel_rfl)) rfl (by kernel_rfl) (by kernel_rfl) (lenS (lenS (lenS len0)))) (ea_cons (cX (c__law_chain : FX PR w K mg base _ _ _ _) hr (gl_of (by kernel_rfl)) (by kernel_rfl) (ea_cons (vX 1 (by kernel_rfl) (by kernel_rfl)) (ea_cons ex_int (ea_cons ex_int ea_nil (by kernel_rfl)) (by kernel_rfl)) (by kernel_rfl)) rfl (by kernel_rfl) (by kernel_rfl) (lenS (lenS (lenS len0)))) ea_nil (by kernel_rfl)) (by kernel_rfl)) (by kernel_rfl) (by kernel_rfl))
  (sxs_cons (sx_set 4 nd (by kernel_rfl) (by kernel_rfl) (by kernel_rfl) (ex_add (vX 2 (by kernel_rfl) (by kernel_rfl)).b (vX 3 (by kernel_rfl) (by kernel_rfl)).b) (by kernel_rfl))
  (sxs_cons (sx_asg (ex_tup (ea_cons (cX (c_ways : FX PR w K mg base _ _ _ _) hr (gl_of (by kernel_rfl)) (by kernel_rfl) (ea_cons (vX 2 (by kernel_rfl) (by kernel_rfl)) ea_nil (by kernel_rfl)) rfl (by kernel_rfl) (by kernel_rfl) (lenS len0)) (ea_cons (cX (c_ways : FX PR w K mg base _ _ _ _) hr (gl_of (by kernel_rfl)) (by kernel_rfl) (ea_cons (vX 3 (by kernel_rfl) (by kernel_rfl)) ea_nil (by kernel_rfl)) rfl (by kernel_rfl) (by kernel_rfl) (lenS len0)) (ea_cons (cX (c_ways : FX PR w K mg base _ _ _ _) hr (gl_of (by kernel_rfl)) (by kernel_rfl) (ea_cons (vX 4 (by kernel_rfl) (by kernel_rfl)) ea_nil (by kernel_rfl)) rfl (by kernel_rfl) (by kernel_rfl) (lenS len0)) ea_nil (by kernel_rfl)) (by kernel_rfl)) (by kernel_rfl))) (eg_tup (n := 3) rfl (egs_cons (eg_name 5 nd (by kernel_rfl) (by kernel_rfl) (by kernel_rfl)) (egs_cons (eg_name 6 nd (by kernel_rfl) (by kernel_rfl) (by kernel_rfl)) (egs_cons (eg_name 7 nd (by kernel_rfl) (by kernel_rfl) (by kernel_rfl)) egs_nil (by kernel_rfl)) (by kernel_rfl)) (by kernel_rfl)) (by kernel_rfl) (by kernel_rfl)) (by kernel_rfl) (by kernel_rfl) (by kernel_rfl))
  (sxs_cons (sx_own 8 nd (by kernel_rfl) (by kernel_rfl) (by kernel_rfl) en_dK (by kernel_rfl))
  (sxs_cons (sx_lock (sxl_for PySem.PassesOwn.never rfl (eil_keys (j := 5) (by kernel_rfl) (by kernel_rfl) (by kernel_rfl) (by kernel_rfl)) (eg_name 9 nd (by kernel_rfl) (by kernel_rfl) (by kernel_rfl)) (sxs_one (sx_lock (sxl_for PySem.PassesOwn.never rfl (eil_keys (j := 6) (by kernel_rfl) (by kernel_rfl) (by kernel_rfl) (by kernel_rfl)) (eg_name 25 nd (by kernel_rfl) (by kernel_rfl) (by kernel_rfl)) (sxs_one (sx_setD 8 (Zx.Room.u1 hr) (by kernel_rfl) (by kernel_rfl) (by kernel_rfl) (by kernel_rfl) (ex_add (ex_dget3 (Zx.Room.u1 hr) (vE 8 (by kernel_rfl) (by kernel_rfl)) (ex_add (vX 9 (by kernel_rfl) (by kernel_rfl)).b (vX 25 (by kernel_rfl) (by kernel_rfl)).b).b ex_int ⟨(by kernel_rfl), (by kernel_rfl), (by kernel_rfl), (by kernel_rfl)⟩).b (ex_mulI (ex_dget (Zx.Room.u1 hr) (vX 5 (by kernel_rfl) (by kernel_rfl)).b (vX 9 (by kernel_rfl) (by kernel_rfl)).b (fun _ _ => rfl)).b (ex_dget (Zx.Room.u1 hr) (vX 6 (by kernel_rfl) (by kernel_rfl)).b (vX 25 (by kernel_rfl) (by kernel_rfl)).b (fun _ _ => rfl)).b).b) (ex_add (vX 9 (by kernel_rfl) (by kernel_rfl)).b (vX 25 (by kernel_rfl) (by kernel_rfl)).b) (by kernel_rfl))) (fun _ => rfl)) (needs_for needs_I))) (fun _ => rfl)) (needs_for needs_I))
  (sxs_cons (sx_if (ew_or (et_cmp (ec_neDD (Zx.Room.u0 hr) (vX 7 (by kernel_rfl) (by kernel_rfl)).b (vE 8 (by kernel_rfl) (by kernel_rfl))) (by kernel_rfl)) (ew_or (et_cmp (ec_neDD (Zx.Room.u0 hr) (cX (c_ways : FX PR w K mg base _ _ _ _) hr (gl_of (by kernel_rfl)) (by kernel_rfl) (ea_cons (ex_add (vX 3 (by kernel_rfl) (by kernel_rfl)).b (vX 2 (by kernel_rfl) (by kernel_rfl)).b) ea_nil (by kernel_rfl)) rfl (by kernel_rfl) (by kernel_rfl) (lenS len0)).b (vE 8 (by kernel_rfl) (by kernel_rfl))) (by kernel_rfl)) (ew_or1 (et_cmp (ec_neDD (Zx.Room.u0 hr) (cX (c_ways : FX PR w K mg base _ _ _ _) hr (gl_of (by kernel_rfl)) (by kernel_rfl) (ea_cons (en_rev (vX 4 (by kernel_rfl) (by kernel_rfl)).b).x ea_nil (by kernel_rfl)) rfl (by kernel_rfl) (by kernel_rfl) (lenS len0)).b (vE 8 (by kernel_rfl) (by kernel_rfl))) (by kernel_rfl))))).t (sxs_one (sx_ret ex_bl)) sxs_nil)
  (sxs_cons (sx_par 10 11 rfl nd (by kernel_rfl) (by kernel_rfl) (by decide) (by kernel_rfl) (by kernel_rfl) (ea_cons (cX (c_ends : FX PR w K mg base _ _ _ _) hr (gl_of (by kernel_rfl)) (by kernel_rfl) (ea_cons (vX 2 (by kernel_rfl) (by kernel_rfl)) ea_nil (by kernel_rfl)) rfl (by kernel_rfl) (by kernel_rfl) (lenS len0)) (ea_cons (cX (c_ends : FX PR w K mg base _ _ _ _) hr (gl_of (by kernel_rfl)) (by kernel_rfl) (ea_cons (vX 3 (by kernel_rfl) (by kernel_rfl)) ea_nil (by kernel_rfl)) rfl (by kernel_rfl) (by kernel_rfl) (lenS len0)) ea_nil (by kernel_rfl)) (by kernel_rfl)) (by kernel_rfl) (by kernel_rfl))
  (sxs_cons (sx_if (et_cmp (ec_ne (Zx.Room.u64 hr) (cX (c_ends : FX PR w K mg base _ _ _ _) hr (gl_of (by kernel_rfl)) (by kernel_rfl) (ea_cons (vX 4 (by kernel_rfl) (by kernel_rfl)) ea_nil (by kernel_rfl)) rfl (by kernel_rfl) (by kernel_rfl) (lenS len0)).b (ex_tup (ea_cons (ex_add (ex_ix (vX 10 (by kernel_rfl) (by kernel_rfl)).b ex_int.b (fun _ _ => rfl)).b (ex_ix (vX 11 (by kernel_rfl) (by kernel_rfl)).b ex_int.b (fun _ _ => rfl)).b) (ea_cons (ex_add (ex_ix (vX 10 (by kernel_rfl) (by kernel_rfl)).b ex_int.b (fun _ _ => rfl)).b (ex_ix (vX 11 (by kernel_rfl) (by kernel_rfl)).b ex_int.b (fun _ _ => rfl)).b) ea_nil (by kernel_rfl)) (by kernel_rfl))).b) (by kernel_rfl)) (sxs_one (sx_ret ex_bl)) sxs_nil)
  (sxs_cons (sx_if (ew_or (et_cmp (ec_ne (Zx.Room.u64 hr) (cX (c_mean : FX PR w K mg base _ _ _ _) hr (gl_of (by kernel_rfl)) (by kernel_rfl) (ea_cons (vX 4 (by kernel_rfl) (by kernel_rfl)) ea_nil (by kernel_rfl)) rfl (by kernel_rfl) (by kernel_rfl) (lenS len0)).b (cX (c__law_plus : FX PR w K mg base _ _ _ _) hr (gl_of (by kernel_rfl)) (by kernel_rfl) (ea_cons (cX (c_mean : FX PR w K mg base _ _ _ _) hr (gl_of (by kernel_rfl)) (by kernel_rfl) (ea_cons (vX 2 (by kernel_rfl) (by kernel_rfl)) ea_nil (by kernel_rfl)) rfl (by kernel_rfl) (by kernel_rfl) (lenS len0)) (ea_cons (cX (c_mean : FX PR w K mg base _ _ _ _) hr (gl_of (by kernel_rfl)) (by kernel_rfl) (ea_cons (vX 3 (by kernel_rfl) (by kernel_rfl)) ea_nil (by kernel_rfl)) rfl (by kernel_rfl) (by kernel_rfl) (lenS len0)) ea_nil (by kernel_rfl)) (by kernel_rfl)) rfl (by kernel_rfl) (by kernel_rfl) (lenS (lenS len0))).b) (by kernel_rfl)) (ew_or1 (et_cmp (ec_ne (Zx.Room.u64 hr) (cX (c_spread : FX PR w K mg base _ _ _ _) hr (gl_of (by kernel_rfl)) (by kernel_rfl) (ea_cons (vX 4 (by kernel_rfl) (by kernel_rfl)) ea_nil (by kernel_rfl)) rfl (by kernel_rfl) (by kernel_rfl) (lenS len0)).b (cX (c__law_plus : FX PR w K mg base _ _ _ _) hr (gl_of (by kernel_rfl)) (by kernel_rfl) (ea_cons (cX (c_spread : FX PR w K mg base _ _ _ _) hr (gl_of (by kernel_rfl)) (by kernel_rfl) (ea_cons (vX 2 (by kernel_rfl) (by kernel_rfl)) ea_nil (by kernel_rfl)) rfl (by kernel_rfl) (by kernel_rfl) (lenS len0)) (ea_cons (cX (c_spread : FX PR w K mg base _ _ _ _) hr (gl_of (by kernel_rfl)) (by kernel_rfl) (ea_cons (vX 3 (by kernel_rfl) (by kernel_rfl)) ea_nil (by kernel_rfl)) rfl (by kernel_rfl) (by kernel_rfl) (lenS len0)) ea_nil (by kernel_rfl)) (by kernel_rfl)) rfl (by kernel_rfl) (by kernel_rfl) (lenS (lenS len0))).b) (by kernel_rfl)))).t (sxs_one (sx_ret ex_bl)) sxs_nil)
  (sxs_cons (sx_setLc (own := [("sign", 15), ("size", 16), ("errors", 17)]) 12 false rfl nd (by kernel_rfl) (by kernel_rfl) (by kernel_rfl) (ei_seq (vX 2 (by kernel_rfl) (by kernel_rfl))) (blkOk_by (by kernel_rfl)) (fun _ _ _ _ _ => (eg_tup (n := 3) rfl (egs_cons (eg_name 15 nd (by kernel_rfl) (by kernel_rfl) (by kernel_rfl)) (egs_cons (eg_name 16 nd (by kernel_rfl) (by kernel_rfl) (by kernel_rfl)) (egs_cons (eg_name 17 nd (by kernel_rfl) (by kernel_rfl) (by kernel_rfl)) egs_nil (by kernel_rfl)) (by kernel_rfl)) (by kernel_rfl)) (by kernel_rfl) (by kernel_rfl))) (fun _ _ _ _ _ => ets_nil) (fun _ _ _ _ _ => (ex_tup (ea_cons (ex_neg (vX 15 (by kernel_rfl) (by kernel_rfl)).b) (ea_cons (vX 16 (by kernel_rfl) (by kernel_rfl)) (ea_cons (vX 17 (by kernel_rfl) (by kernel_rfl)) ea_nil (by kernel_rfl)) (by kernel_rfl)) (by kernel_rfl)))) (fun _ => rfl) (by decide))
  (sxs_cons (sx_set 13 nd (by kernel_rfl) (by kernel_rfl) (by kernel_rfl) (cX (c_ways : FX PR w K mg base _ _ _ _) hr (gl_of (by kernel_rfl)) (by kernel_rfl) (ea_cons (vX 12 (by kernel_rfl) (by kernel_rfl)) ea_nil (by kernel_rfl)) rfl (by kernel_rfl) (by kernel_rfl) (lenS len0)) (by kernel_rfl))
  (sxs_cons (sx_if (ew_or (et_cmp (ec_neDD (Zx.Room.u0 hr) (vX 13 (by kernel_rfl) (by kernel_rfl)).b (en_dictP rfl (gl_of (by kernel_rfl)) h_dict (en_lock (enl_lc (own := [("whole", 31)]) rfl nd (eil_keys (j := 5) (by kernel_rfl) (by kernel_rfl) (by kernel_rfl) (by kernel_rfl)) (blkOk_by (by kernel_rfl)) (fun _ _ _ _ _ => (eg_name 31 nd (by kernel_rfl) (by kernel_rfl) (by kernel_rfl))) (fun _ _ _ _ _ => ets_nil) (fun _ _ _ _ _ => (ex_tup (ea_cons (ex_neg (vX 31 (by kernel_rfl) (by kernel_rfl)).b) (ea_cons (ex_dget (Zx.Room.u1 hr) (vX 5 (by kernel_rfl) (by kernel_rfl)).b (vX 31 (by kernel_rfl) (by kernel_rfl)).b (fun _ _ => rfl)) ea_nil (by kernel_rfl)) (by kernel_rfl)))) (fun _ => rfl) (by decide)) (needs_lc needs_I)).x.b (by kernel_rfl)).x.b) (by kernel_rfl)) (ew_or (et_cmp (ec_ne (Zx.Room.u64 hr) (cX (c_spread : FX PR w K mg base _ _ _ _) hr (gl_of (by kernel_rfl)) (by kernel_rfl) (ea_cons (vX 12 (by kernel_rfl) (by kernel_rfl)) ea_nil (by kernel_rfl)) rfl (by kernel_rfl) (by kernel_rfl) (lenS len0)).b (cX (c_spread : FX PR w K mg base _ _ _ _) hr (gl_of (by kernel_rfl)) (by kernel_rfl) (ea_cons (vX 2 (by kernel_rfl) (by kernel_rfl)) ea_nil (by kernel_rfl)) rfl (by kernel_rfl) (by kernel_rfl) (lenS len0)).b) (by kernel_rfl)) (ew_or1 (et_cmp (ec_ne (Zx.Room.u64 hr) (cX (c_mean : FX PR w K mg base _ _ _ _) hr (gl_of (by kernel_rfl)) (by kernel_rfl) (ea_cons (vX 12 (by kernel_rfl) (by kernel_rfl)) ea_nil (by kernel_rfl)) rfl (by kernel_rfl) (by kernel_rfl) (lenS len0)).b (cX (c__law_times : FX PR w K mg base _ _ _ _) hr (gl_of (by kernel_rfl)) (by kernel_rfl) (ea_cons (ex_tup (ea_cons (ex_neg ex_int.b) (ea_cons ex_int ea_nil (by kernel_rfl)) (by kernel_rfl))) (ea_cons (cX (c_mean : FX PR w K mg base _ _ _ _) hr (gl_of (by kernel_rfl)) (by kernel_rfl) (ea_cons (vX 2 (by kernel_rfl) (by kernel_rfl)) ea_nil (by kernel_rfl)) rfl (by kernel_rfl) (by kernel_rfl) (lenS len0)) ea_nil (by kernel_rfl)) (by kernel_rfl)) rfl (by kernel_rfl) (by kernel_rfl) (lenS (lenS len0))).b) (by kernel_rfl))))).t (sxs_one (sx_ret ex_bl)) sxs_nil)
  (sxs_cons (sx_set 14 nd (by kernel_rfl) (by kernel_rfl) (by kernel_rfl) (cX (c__law_mix : FX PR w K mg base _ _ _ _) hr (gl_of (by kernel_rfl)) (by kernel_rfl) (ea_cons (vX 1 (by kernel_rfl) (by kernel_rfl)) (ea_cons ex_int (ea_cons ex_int ea_nil (by kernel_rfl)) (by kernel_rfl)) (by kernel_rfl)) rfl (by kernel_rfl) (by kernel_rfl) (lenS (lenS (lenS len0)))) (by kernel_rfl))
  (sxs_cons (sx_asg (ex_ix (vX 2 (by kernel_rfl) (by kernel_rfl)).b ex_int.b (fun _ _ => rfl)) (eg_tup (n := 3) rfl (egs_cons (eg_name 15 nd (by kernel_rfl) (by kernel_rfl) (by kernel_rfl)) (egs_cons (eg_name 16 nd (by kernel_rfl) (by kernel_rfl) (by kernel_rfl)) (egs_cons (eg_name 17 nd (by kernel_rfl) (by kernel_rfl) (by kernel_rfl)) egs_nil (by kernel_rfl)) (by kernel_rfl)) (by kernel_rfl)) (by kernel_rfl) (by kernel_rfl)) (by kernel_rfl) (by kernel_rfl) (by kernel_rfl))
  (sxs_cons (sx_set 18 nd (by kernel_rfl) (by kernel_rfl) (by kernel_rfl) (ex_add (en_lst (ea_cons (ex_tup (ea_cons (vX 15 (by kernel_rfl) (by kernel_rfl)) (ea_cons (ex_add (vX 16 (by kernel_rfl) (by kernel_rfl)).b (vX 14 (by kernel_rfl) (by kernel_rfl)).b) (ea_cons (vX 17 (by kernel_rfl) (by kernel_rfl)) ea_nil (by kernel_rfl)) (by kernel_rfl)) (by kernel_rfl))) ea_nil (by kernel_rfl))).x.b (ex_sl (vX 2 (by kernel_rfl) (by kernel_rfl)).b (eo_some ex_int.b) eo_none).b) (by kernel_rfl))
  (sxs_cons (sx_if (ew_or (et_cmp (ec_neDD (Zx.Room.u0 hr) (cX (c_ways : FX PR w K mg base _ _ _ _) hr (gl_of (by kernel_rfl)) (by kernel_rfl) (ea_cons (vX 18 (by kernel_rfl) (by kernel_rfl)) ea_nil (by kernel_rfl)) rfl (by kernel_rfl) (by kernel_rfl) (lenS len0)).b (en_dictP rfl (gl_of (by kernel_rfl)) h_dict (en_lock (enl_lc (own := [("whole", 31)]) rfl nd (eil_keys (j := 5) (by kernel_rfl) (by kernel_rfl) (by kernel_rfl) (by kernel_rfl)) (blkOk_by (by kernel_rfl)) (fun _ _ _ _ _ => (eg_name 31 nd (by kernel_rfl) (by kernel_rfl) (by kernel_rfl))) (fun _ _ _ _ _ => ets_nil) (fun _ _ _ _ _ => (ex_tup (ea_cons (ex_add (vX 31 (by kernel_rfl) (by kernel_rfl)).b (ex_mulI (vX 15 (by kernel_rfl) (by kernel_rfl)).b (vX 14 (by kernel_rfl) (by kernel_rfl)).b).b) (ea_cons (ex_dget (Zx.Room.u1 hr) (vX 5 (by kernel_rfl) (by kernel_rfl)).b (vX 31 (by kernel_rfl) (by kernel_rfl)).b (fun _ _ => rfl)) ea_nil (by kernel_rfl)) (by kernel_rfl)))) (fun _ => rfl) (by decide)) (needs_lc needs_I)).x.b (by kernel_rfl)).x.b) (by kernel_rfl)) (ew_or1 (et_cmp (ec_ne (Zx.Room.u64 hr) (cX (c_spread : FX PR w K mg base _ _ _ _) hr (gl_of (by kernel_rfl)) (by kernel_rfl) (ea_cons (vX 18 (by kernel_rfl) (by kernel_rfl)) ea_nil (by kernel_rfl)) rfl (by kernel_rfl) (by kernel_rfl) (lenS len0)).b (cX (c_spread : FX PR w K mg base _ _ _ _) hr (gl_of (by kernel_rfl)) (by kernel_rfl) (ea_cons (vX 2 (by kernel_rfl) (by kernel_rfl)) ea_nil (by kernel_rfl)) rfl (by kernel_rfl) (by kernel_rfl) (lenS len0)).b) (by kernel_rfl)))).t (sxs_one (sx_ret ex_bl)) sxs_nil)
  (sxs_cons (sx_set 19 nd (by kernel_rfl) (by kernel_rfl) (by kernel_rfl) (ex_add ex_int.b (cX (c__law_mix : FX PR w K mg base _ _ _ _) hr (gl_of (by kernel_rfl)) (by kernel_rfl) (ea_cons (vX 1 (by kernel_rfl) (by kernel_rfl)) (ea_cons ex_int (ea_cons ex_int ea_nil (by kernel_rfl)) (by kernel_rfl)) (by kernel_rfl)) rfl (by kernel_rfl) (by kernel_rfl) (lenS (lenS (lenS len0)))).b) (by kernel_rfl))
  (sxs_cons (sx_setLc (own := [("sign", 15), ("size", 16), ("errors", 17)]) 20 false rfl nd (by kernel_rfl) (by kernel_rfl) (by kernel_rfl) (ei_seq (vX 2 (by kernel_rfl) (by kernel_rfl))) (blkOk_by (by kernel_rfl)) (fun _ _ _ _ _ => (eg_tup (n := 3) rfl (egs_cons (eg_name 15 nd (by kernel_rfl) (by kernel_rfl) (by kernel_rfl)) (egs_cons (eg_name 16 nd (by kernel_rfl) (by kernel_rfl) (by kernel_rfl)) (egs_cons (eg_name 17 nd (by kernel_rfl) (by kernel_rfl) (by kernel_rfl)) egs_nil (by kernel_rfl)) (by kernel_rfl)) (by kernel_rfl)) (by kernel_rfl) (by kernel_rfl))) (fun _ _ _ _ _ => ets_nil) (fun _ _ _ _ _ => (ex_tup (ea_cons (vX 15 (by kernel_rfl) (by kernel_rfl)) (ea_cons (ex_mulI (vX 19 (by kernel_rfl) (by kernel_rfl)).b (vX 16 (by kernel_rfl) (by kernel_rfl)).b) (ea_cons (en_lc (own := [("error", 29), ("count", 30)]) rfl nd (ei_seq (vX 17 (by kernel_rfl) (by kernel_rfl))) (blkOk_by (by kernel_rfl)) (fun _ _ _ _ _ => (eg_tup (n := 2) rfl (egs_cons (eg_name 29 nd (by kernel_rfl) (by kernel_rfl) (by kernel_rfl)) (egs_cons (eg_name 30 nd (by kernel_rfl) (by kernel_rfl) (by kernel_rfl)) egs_nil (by kernel_rfl)) (by kernel_rfl)) (by kernel_rfl) (by kernel_rfl))) (fun _ _ _ _ _ => ets_nil) (fun _ _ _ _ _ => (ex_tup (ea_cons (ex_mulI (vX 19 (by kernel_rfl) (by kernel_rfl)).b (vX 29 (by kernel_rfl) (by kernel_rfl)).b) (ea_cons (vX 30 (by kernel_rfl) (by kernel_rfl)) ea_nil (by kernel_rfl)) (by kernel_rfl)))) (fun _ => rfl) (by decide)).x ea_nil (by kernel_rfl)) (by kernel_rfl)) (by kernel_rfl)))) (fun _ => rfl) (by decide))
  (sxs_cons (sx_if (et_cmp (ec_neDD (Zx.Room.u0 hr) (cX (c_ways : FX PR w K mg base _ _ _ _) hr (gl_of (by kernel_rfl)) (by kernel_rfl) (ea_cons (vX 20 (by kernel_rfl) (by kernel_rfl)) ea_nil (by kernel_rfl)) rfl (by kernel_rfl) (by kernel_rfl) (lenS len0)).b (en_dictP rfl (gl_of (by kernel_rfl)) h_dict (en_lock (enl_lc (own := [("whole", 31)]) rfl nd (eil_keys (j := 5) (by kernel_rfl) (by kernel_rfl) (by kernel_rfl) (by kernel_rfl)) (blkOk_by (by kernel_rfl)) (fun _ _ _ _ _ => (eg_name 31 nd (by kernel_rfl) (by kernel_rfl) (by kernel_rfl))) (fun _ _ _ _ _ => ets_nil) (fun _ _ _ _ _ => (ex_tup (ea_cons (ex_mulI (vX 19 (by kernel_rfl) (by kernel_rfl)).b (vX 31 (by kernel_rfl) (by kernel_rfl)).b) (ea_cons (ex_dget (Zx.Room.u1 hr) (vX 5 (by kernel_rfl) (by kernel_rfl)).b (vX 31 (by kernel_rfl) (by kernel_rfl)).b (fun _ _ => rfl)) ea_nil (by kernel_rfl)) (by kernel_rfl)))) (fun _ => rfl) (by decide)) (needs_lc needs_I)).x.b (by kernel_rfl)).x.b) (by kernel_rfl)) (sxs_one (sx_ret ex_bl)) sxs_nil)
  (sxs_cons (sx_if (ew_or (et_cmp (ec_ne (Zx.Room.u64 hr) (cX (c_mean : FX PR w K mg base _ _ _ _) hr (gl_of (by kernel_rfl)) (by kernel_rfl) (ea_cons (vX 20 (by kernel_rfl) (by kernel_rfl)) ea_nil (by kernel_rfl)) rfl (by kernel_rfl) (by kernel_rfl) (lenS len0)).b (cX (c__law_times : FX PR w K mg base _ _ _ _) hr (gl_of (by kernel_rfl)) (by kernel_rfl) (ea_cons (ex_tup (ea_cons (vX 19 (by kernel_rfl) (by kernel_rfl)) (ea_cons ex_int ea_nil (by kernel_rfl)) (by kernel_rfl))) (ea_cons (cX (c_mean : FX PR w K mg base _ _ _ _) hr (gl_of (by kernel_rfl)) (by kernel_rfl) (ea_cons (vX 2 (by kernel_rfl) (by kernel_rfl)) ea_nil (by kernel_rfl)) rfl (by kernel_rfl) (by kernel_rfl) (lenS len0)) ea_nil (by kernel_rfl)) (by kernel_rfl)) rfl (by kernel_rfl) (by kernel_rfl) (lenS (lenS len0))).b) (by kernel_rfl)) (ew_or1 (et_cmp (ec_ne (Zx.Room.u64 hr) (cX (c_spread : FX PR w K mg base _ _ _ _) hr (gl_of (by kernel_rfl)) (by kernel_rfl) (ea_cons (vX 20 (by kernel_rfl) (by kernel_rfl)) ea_nil (by kernel_rfl)) rfl (by kernel_rfl) (by kernel_rfl) (lenS len0)).b (cX (c__law_times : FX PR w K mg base _ _ _ _) hr (gl_of (by kernel_rfl)) (by kernel_rfl) (ea_cons (ex_tup (ea_cons (ex_mulI (vX 19 (by kernel_rfl) (by kernel_rfl)).b (vX 19 (by kernel_rfl) (by kernel_rfl)).b) (ea_cons ex_int ea_nil (by kernel_rfl)) (by kernel_rfl))) (ea_cons (cX (c_spread : FX PR w K mg base _ _ _ _) hr (gl_of (by kernel_rfl)) (by kernel_rfl) (ea_cons (vX 2 (by kernel_rfl) (by kernel_rfl)) ea_nil (by kernel_rfl)) rfl (by kernel_rfl) (by kernel_rfl) (lenS len0)) ea_nil (by kernel_rfl)) (by kernel_rfl)) rfl (by kernel_rfl) (by kernel_rfl) (lenS (lenS len0))).b) (by kernel_rfl)))).t (sxs_one (sx_ret ex_bl)) sxs_nil)
  (sxs_cons (sx_setLc (own := [("sign", 15), ("size", 16), ("errors", 17)]) 21 false rfl nd (by kernel_rfl) (by kernel_rfl) (by kernel_rfl) (ei_seq (vX 4 (by kernel_rfl) (by kernel_rfl))) (blkOk_by (by kernel_rfl)) (fun _ _ _ _ _ => (eg_tup (n := 3) rfl (egs_cons (eg_name 15 nd (by kernel_rfl) (by kernel_rfl) (by kernel_rfl)) (egs_cons (eg_name 16 nd (by kernel_rfl) (by kernel_rfl) (by kernel_rfl)) (egs_cons (eg_name 17 nd (by kernel_rfl) (by kernel_rfl) (by kernel_rfl)) egs_nil (by kernel_rfl)) (by kernel_rfl)) (by kernel_rfl)) (by kernel_rfl) (by kernel_rfl))) (fun _ _ _ _ _ => ets_nil) (fun _ _ _ _ _ => (ex_tup (ea_cons (vX 15 (by kernel_rfl) (by kernel_rfl)) (ea_cons (vX 16 (by kernel_rfl) (by kernel_rfl)) (ea_cons (en_lc (own := [("error", 29), ("count", 30)]) rfl nd (ei_seq (vX 17 (by kernel_rfl) (by kernel_rfl))) (blkOk_by (by kernel_rfl)) (fun _ _ _ _ _ => (eg_tup (n := 2) rfl (egs_cons (eg_name 29 nd (by kernel_rfl) (by kernel_rfl) (by kernel_rfl)) (egs_cons (eg_name 30 nd (by kernel_rfl) (by kernel_rfl) (by kernel_rfl)) egs_nil (by kernel_rfl)) (by kernel_rfl)) (by kernel_rfl) (by kernel_rfl))) (fun _ _ _ _ _ => ets_nil) (fun _ _ _ _ _ => (ex_tup (ea_cons (vX 29 (by kernel_rfl) (by kernel_rfl)) (ea_cons (ex_mulI (vX 19 (by kernel_rfl) (by kernel_rfl)).b (vX 30 (by kernel_rfl) (by kernel_rfl)).b) ea_nil (by kernel_rfl)) (by kernel_rfl)))) (fun _ => rfl) (by decide)).x ea_nil (by kernel_rfl)) (by kernel_rfl)) (by kernel_rfl)))) (fun _ => rfl) (by decide))
  (sxs_cons (sx_asg (cX (c_ends : FX PR w K mg base _ _ _ _) hr (gl_of (by kernel_rfl)) (by kernel_rfl) (ea_cons (vX 4 (by kernel_rfl) (by kernel_rfl)) ea_nil (by kernel_rfl)) rfl (by kernel_rfl) (by kernel_rfl) (lenS len0)) (eg_tup (n := 2) rfl (egs_cons (eg_name 22 nd (by kernel_rfl) (by kernel_rfl) (by kernel_rfl)) (egs_cons (eg_name 23 nd (by kernel_rfl) (by kernel_rfl) (by kernel_rfl)) egs_nil (by kernel_rfl)) (by kernel_rfl)) (by kernel_rfl) (by kernel_rfl)) (by kernel_rfl) (by kernel_rfl) (by kernel_rfl))
  (sxs_cons (sx_for PySem.PassesOwn.never rfl (ei_r1 (gl_of (by kernel_rfl)) h_range ex_int (by kernel_rfl)) (eg_name 24 nd (by kernel_rfl) (by kernel_rfl) (by kernel_rfl)) (sxs_cons (sx_set 26 nd (by kernel_rfl) (by kernel_rfl) (by kernel_rfl) (ex_add (vX 22 (by kernel_rfl) (by kernel_rfl)).b (cX (c__law_mix : FX PR w K mg base _ _ _ _) hr (gl_of (by kernel_rfl)) (by kernel_rfl) (ea_cons (vX 1 (by kernel_rfl) (by kernel_rfl)) (ea_cons (ex_add ex_int.b (ex_mulI ex_int.b (vX 24 (by kernel_rfl) (by kernel_rfl)).b).b) (ea_cons (ex_add (ex_sub (vX 23 (by kernel_rfl) (by kernel_rfl)).b (vX 22 (by kernel_rfl) (by kernel_rfl)).b).b ex_int.b) ea_nil (by kernel_rfl)) (by kernel_rfl)) (by kernel_rfl)) rfl (by kernel_rfl) (by kernel_rfl) (lenS (lenS (lenS len0)))).b) (by kernel_rfl))
   (sxs_cons (sx_set 27 nd (by kernel_rfl) (by kernel_rfl) (by kernel_rfl) (ex_add (vX 26 (by kernel_rfl) (by kernel_rfl)).b (cX (c__law_mix : FX PR w K mg base _ _ _ _) hr (gl_of (by kernel_rfl)) (by kernel_rfl) (ea_cons (vX 1 (by kernel_rfl) (by kernel_rfl)) (ea_cons (ex_add ex_int.b (ex_mulI ex_int.b (vX 24 (by kernel_rfl) (by kernel_rfl)).b).b) (ea_cons (ex_add (ex_sub (vX 23 (by kernel_rfl) (by kernel_rfl)).b (vX 26 (by kernel_rfl) (by kernel_rfl)).b).b ex_int.b) ea_nil (by kernel_rfl)) (by kernel_rfl)) (by kernel_rfl)) rfl (by kernel_rfl) (by kernel_rfl) (lenS (lenS (lenS len0)))).b) (by kernel_rfl))
   (sxs_cons (sx_set 28 nd (by kernel_rfl) (by kernel_rfl) (by kernel_rfl) (cX (c_share : FX PR w K mg base _ _ _ _) hr (gl_of (by kernel_rfl)) (by kernel_rfl) (ea_cons (vX 4 (by kernel_rfl) (by kernel_rfl)) (ea_cons (vX 26 (by kernel_rfl) (by kernel_rfl)) (ea_cons (vX 27 (by kernel_rfl) (by kernel_rfl)) ea_nil (by kernel_rfl)) (by kernel_rfl)) (by kernel_rfl)) rfl (by kernel_rfl) (by kernel_rfl) (lenS (lenS (lenS len0)))) (by kernel_rfl))
   (sxs_cons (sx_if (ew_or (et_cmp (ec_ne (Zx.Room.u64 hr) (cX (c_share : FX PR w K mg base _ _ _ _) hr (gl_of (by kernel_rfl)) (by kernel_rfl) (ea_cons (vX 21 (by kernel_rfl) (by kernel_rfl)) (ea_cons (vX 26 (by kernel_rfl) (by kernel_rfl)) (ea_cons (vX 27 (by kernel_rfl) (by kernel_rfl)) ea_nil (by kernel_rfl)) (by kernel_rfl)) (by kernel_rfl)) rfl (by kernel_rfl) (by kernel_rfl) (lenS (lenS (lenS len0)))).b (vX 28 (by kernel_rfl) (by kernel_rfl)).b) (by kernel_rfl)) (ew_or1 (et_cmp (ec_ne (Zx.Room.u64 hr) (cX (c_share : FX PR w K mg base _ _ _ _) hr (gl_of (by kernel_rfl)) (by kernel_rfl) (ea_cons (vX 12 (by kernel_rfl) (by kernel_rfl)) (ea_cons (ex_neg (vX 27 (by kernel_rfl) (by kernel_rfl)).b) (ea_cons (ex_neg (vX 26 (by kernel_rfl) (by kernel_rfl)).b) ea_nil (by kernel_rfl)) (by kernel_rfl)) (by kernel_rfl)) rfl (by kernel_rfl) (by kernel_rfl) (lenS (lenS (lenS len0)))).b (cX (c_share : FX PR w K mg base _ _ _ _) hr (gl_of (by kernel_rfl)) (by kernel_rfl) (ea_cons (vX 2 (by kernel_rfl) (by kernel_rfl)) (ea_cons (vX 26 (by kernel_rfl) (by kernel_rfl)) (ea_cons (vX 27 (by kernel_rfl) (by kernel_rfl)) ea_nil (by kernel_rfl)) (by kernel_rfl)) (by kernel_rfl)) rfl (by kernel_rfl) (by kernel_rfl) (lenS (lenS (lenS len0)))).b) (by kernel_rfl)))).t (sxs_one (sx_ret ex_bl)) sxs_nil)
   (sxs_one (sx_if (et_cmp (ec_ne (Zx.Room.u64 hr) (cX (c__law_plus : FX PR w K mg base _ _ _ _) hr (gl_of (by kernel_rfl)) (by kernel_rfl) (ea_cons (vX 28 (by kernel_rfl) (by kernel_rfl)) (ea_cons (cX (c_share : FX PR w K mg base _ _ _ _) hr (gl_of (by kernel_rfl)) (by kernel_rfl) (ea_cons (vX 4 (by kernel_rfl) (by kernel_rfl)) (ea_cons (ex_add (vX 27 (by kernel_rfl) (by kernel_rfl)).b ex_int.b) (ea_cons (ex_add (vX 23 (by kernel_rfl) (by kernel_rfl)).b ex_int.b) ea_nil (by kernel_rfl)) (by kernel_rfl)) (by kernel_rfl)) rfl (by kernel_rfl) (by kernel_rfl) (lenS (lenS (lenS len0)))) ea_nil (by kernel_rfl)) (by kernel_rfl)) rfl (by kernel_rfl) (by kernel_rfl) (lenS (lenS len0))).b (cX (c_share : FX PR w K mg base _ _ _ _) hr (gl_of (by kernel_rfl)) (by kernel_rfl) (ea_cons (vX 4 (by kernel_rfl) (by kernel_rfl)) (ea_cons (vX 26 (by kernel_rfl) (by kernel_rfl)) (ea_cons (vX 23 (by kernel_rfl) (by kernel_rfl)) ea_nil (by kernel_rfl)) (by kernel_rfl)) (by kernel_rfl)) rfl (by kernel_rfl) (by kernel_rfl) (lenS (lenS (lenS len0)))).b) (by kernel_rfl)) (sxs_one (sx_ret ex_bl)) sxs_nil)))))) (fun _ => rfl))
  (sxs_one (sx_ret (ex_cmp (ec_eq (Zx.Room.u64 hr) (cX (c_share : FX PR w K mg base _ _ _ _) hr (gl_of (by kernel_rfl)) (by kernel_rfl) (ea_cons (vX 4 (by kernel_rfl) (by kernel_rfl)) (ea_cons (vX 22 (by kernel_rfl) (by kernel_rfl)) (ea_cons (vX 23 (by kernel_rfl) (by kernel_rfl)) ea_nil (by kernel_rfl)) (by kernel_rfl)) (by kernel_rfl)) rfl (by kernel_rfl) (by kernel_rfl) (lenS (lenS (lenS len0)))).b (ex_tup (ea_cons ex_int (ea_cons ex_int ea_nil (by kernel_rfl)) (by kernel_rfl))).b) (by kernel_rfl))))))))))))))))))))))))))))⟩
end Zx.k61
/-! Q1: links, chains, their ways. -/
namespace Zx.k61
open PySem PySem.Spec L2 Zx
theorem e_fraction : f_fraction = Cm.f_fraction := rfl
theorem e_plus : f_plus = Cm.f_plus := rfl
theorem e_times : f_times = Cm.f_times := rfl
theorem e_total : f_total = Cm.f_total := rfl
theorem e_draws : f__law_draws = Cm.f__law_draws := rfl
theorem e_mix : f__law_mix = Cm.f__law_mix := rfl
abbrev Err := List (Int × Int)
abbrev Link := Int × Int × Err
def pD (p : Int × Int) : D := .tuple [.int p.1, .int p.2]
def errD (E : Err) : D := .list (E.map pD)
def linkD (l : Link) : D := .tuple [.int l.1, .int l.2.1, errD l.2.2]
def chD (c : List Link) : D := .list (c.map linkD)
structure LOk (l : Link) : Prop where
  sg : l.1 = 1 ∨ l.1 = -1
  s0 : 0 ≤ l.2.1
  s1 : l.2.1 ≤ 1000
  n1 : 1 ≤ l.2.2.length
  n2 : l.2.2.length ≤ 3
  er : ∀ p ∈ l.2.2, -50 ≤ p.1 ∧ p.1 ≤ 50 ∧ 1 ≤ p.2 ∧ p.2 ≤ 100
  up : l.2.2.Pairwise fun p q => p.1 < q.1
structure COk (c : List Link) : Prop where
  n1 : 1 ≤ c.length
  n2 : c.length ≤ 6
  ok : ∀ l ∈ c, LOk l
theorem sg_in (s : Int) (h : s = 1 ∨ s = -1) : ninD (.int s) (.tuple [.int 1, .int (-1)]) = some false := by
  rcases h with rfl | rfl <;> rfl
theorem enumL_at {xs : List D} {i : Nat} {d : D} (h : (enumL xs)[i]? = some d) : ∃ x, xs[i]? = some x ∧ d = .tuple [.int (i : Nat), x] := by
  unfold enumL at h
  rw [List.getElem?_zipWith] at h
  cases hx : xs[i]? with
  | none => simp [hx] at h
  | some x =>
    have hi : i < xs.length := (List.getElem?_eq_some_iff.mp hx).1
    simp [hx, List.getElem?_range hi] at h
    exact ⟨x, rfl, h.symm⟩
@[simp] theorem enumL_len (xs : List D) : (enumL xs).length = xs.length := by simp [enumL]
theorem is_link_eq (l : Link) (h : LOk l) : f_is_link [linkD l] = some (.bool true) := by
  obtain ⟨sg, sz, E⟩ := l
  have hs := sg_in sg h.sg
  have h0 : 0 ≤ sz := h.s0
  have h1 : sz ≤ 1000 := h.s1
  have n1 : 1 ≤ E.length := h.n1
  have n2 : E.length ≤ 3 := h.n2
  unfold f_is_link D_is_link
  refine run_seq (ρ' := [.fz (linkD (sg, sz, E)), .fz (.int sg), .fz (.int sz), .fz (errD E), .no, .no, .no]) (by simp [linkD]) ?_
  have e1 : lenD (errD E) = some (.int E.length) := by simp [errD]
  have n1' : (1 : Int) ≤ E.length := by omega
  have n2' : (E.length : Int) ≤ 6 := by omega
  rw [sSeq_nx (ρ' := [.fz (linkD (sg, sz, E)), .fz (.int sg), .fz (.int sz), .fz (errD E), .no, .no, .no]) (by
    rw [sIf_f (by simp [hs, h0, h1, e1, n1', n2'])]
    rfl)]
  obtain ⟨ρ', g1, g2⟩ := sFor_ok (fi := iEn (vR 3)) (g := gT (gsCons (gN 4) (gsCons (gT (gsCons (gN 5) (gsCons (gN 6) gsNil)) 2) gsNil)) 2)
    (fb := sSeq (sIf (bOr (bNot (bCh leI leI (d1 negD (kD (.int (50)))) (vR 5) (kD (.int (50))))) (bNot (bCh leI leI (kD (.int 1)) (vR 6) (kD (.int (100)))))) (sRet (kD (.bool false))) sNx)
      (sIf (bAnd (b2 gtI (vR 4) (kD (.int 0))) (b2 geI (d2 ixD (d2 ixD (vR 3) (d2 subD (vR 4) (kD (.int 1)))) (kD (.int 0))) (vR 5))) (sRet (kD (.bool false))) sNx))
    (ρ := [.fz (linkD (sg, sz, E)), .fz (.int sg), .fz (.int sz), .fz (errD E), .no, .no, .no]) (ds := enumL (E.map pD))
    (fun j ρ => ∃ s4 s5 s6, ρ = [.fz (linkD (sg, sz, E)), .fz (.int sg), .fz (.int sz), .fz (errD E), s4, s5, s6]) (by simp [errD]) ⟨.no, .no, .no, rfl⟩ (fun j d ρ hd ⟨s4, s5, s6, hρ⟩ => by
      subst hρ
      obtain ⟨x, hx, rfl⟩ := enumL_at hd
      rw [List.getElem?_map, Option.map_eq_some_iff] at hx
      obtain ⟨p, hp, rfl⟩ := hx
      obtain ⟨q1, q2, q3, q4⟩ := h.er p (List.mem_of_getElem? hp)
      refine ⟨[.fz (linkD (sg, sz, E)), .fz (.int sg), .fz (.int sz), .fz (errD E), .fz (.int j), .fz (.int p.1), .fz (.int p.2)], _, by simp [pD], ?_, _, .inl rfl, .fz (.int j), .fz (.int p.1), .fz (.int p.2), rfl⟩
      rw [sSeq_nx (ρ' := [.fz (linkD (sg, sz, E)), .fz (.int sg), .fz (.int sz), .fz (errD E), .fz (.int j), .fz (.int p.1), .fz (.int p.2)]) (by
        rw [sIf_f (by simp [q1, q2, q3, q4])]
        rfl)]
      by_cases hj : 0 < j
      · have hjl : j < E.length := (List.getElem?_eq_some_iff.mp hp).1
        have hlt : E[j - 1].1 < p.1 := by
          have e2 : p = E[j] := by
            have := List.getElem?_eq_some_iff.mp hp
            exact this.2.symm
          rw [e2]
          have hu : E.Pairwise fun p q => p.1 < q.1 := h.up
          exact List.pairwise_iff_getElem.mp hu (j - 1) j (by omega) hjl (by omega)
        have ea : atI (E.map pD) ((j : Int) - 1) = some (pD E[j - 1]) := by
          rw [show (j : Int) - 1 = ((j - 1 : Nat) : Int) by omega, atI_nat _ _ (by simp; omega), List.getElem?_map, List.getElem?_eq_getElem (by omega)]
          rfl
        rw [sIf_f (by
          simp [hj, errD, ea, pD]
          omega)]
        rfl
      · rw [sIf_f (by simp [hj])]
        rfl)
  obtain ⟨s4, s5, s6, rfl⟩ := g2
  rw [sSeq_nx g1]
  simp
theorem check_eq (c : List Link) (h : COk c) : f_check_chain [chD c] = some .none := by
  unfold f_check_chain D_check_chain
  have h1 : (1 : Int) ≤ c.length := by have := h.n1; omega
  have h2 : (c.length : Int) ≤ 8 := by have := h.n2; omega
  refine run_seq (ρ' := [.fz (chD c), .no, .no]) (by
    rw [sIf_f (by simp [chD, h1, h2])]
    rfl) ?_
  obtain ⟨ρ', g1, g2⟩ := sFor_ok (fi := iEn (vR 0)) (g := gT (gsCons (gN 1) (gsCons (gN 2) gsNil)) 2) (fb := sIf (bNot (b1 truD (dCall (lCons (vR 2) lNil) f_is_link))) sNo sNx)
    (ρ := [.fz (chD c), .no, .no]) (ds := enumL (c.map linkD)) (fun j ρ => ∃ s1 s2, ρ = [.fz (chD c), s1, s2]) (by simp [chD]) ⟨.no, .no, rfl⟩ (fun j d ρ hd ⟨s1, s2, hρ⟩ => by
      subst hρ
      obtain ⟨x, hx, rfl⟩ := enumL_at hd
      rw [List.getElem?_map, Option.map_eq_some_iff] at hx
      obtain ⟨l, hl, rfl⟩ := hx
      have hi := is_link_eq l (h.ok l (List.mem_of_getElem? hl))
      refine ⟨[.fz (chD c), .fz (.int j), .fz (linkD l)], _, by simp, ?_, _, .inl rfl, .fz (.int j), .fz (linkD l), rfl⟩
      rw [sIf_f (by simp [hi, truD])]
      rfl)
  rw [g1]
/-! ### ways -/
abbrev Zd := List (Int × Int)
def zD (l : Zd) : D := adE .int l
def sumZ (G : Int → Int) (l : Zd) : Int := (l.map fun p => p.2 * G p.1).sum
def getZ (l : Zd) (k : Int) : Int := (getE l k).getD 0
theorem sumZ_cons (G : Int → Int) (p : Int × Int) (l : Zd) : sumZ G (p :: l) = p.2 * G p.1 + sumZ G l := by simp [sumZ]
theorem sumZ_append (G : Int → Int) (l m : Zd) : sumZ G (l ++ m) = sumZ G l + sumZ G m := by simp [sumZ]
theorem sumZ_put (G : Int → Int) (l : Zd) (k a : Int) (h : NDk l) : sumZ G (putE l k (getZ l k + a)) = sumZ G l + a * G k := by
  unfold putE
  split
  · rename_i hk
    induction l with
    | nil => simp at hk
    | cons p l ih =>
      unfold NDk at h
      rw [List.map_cons, List.nodup_cons] at h
      by_cases hp : p.1 = k
      · have e : ∀ c, (l.map fun q => if q.1 == k then (q.1, c) else q) = l := fun c => by
          have : ∀ q ∈ l, (if q.1 == k then (q.1, c) else q) = id q := fun q hq => by
            have hne : ¬ q.1 = k := fun z => h.1 (List.mem_map.mpr ⟨q, hq, z.trans hp.symm⟩)
            simp [hne]
          rw [List.map_congr_left this, List.map_id]
        have g : getZ (p :: l) k = p.2 := by
          unfold getZ getE
          simp [hp]
        rw [List.map_cons, e, g, sumZ_cons, sumZ_cons]
        simp [hp, Int.add_mul]
        omega
      · have hk' : l.any (fun p => p.1 == k) = true := by
          rw [List.any_cons] at hk
          simpa [hp] using hk
        have g : getZ (p :: l) k = getZ l k := by
          unfold getZ getE
          simp [hp]
        rw [List.map_cons, g, sumZ_cons, sumZ_cons, ih h.2 hk']
        simp [hp]
        omega
  · rename_i hk
    have g : getZ l k = 0 := by
      unfold getZ getE
      have : l.find? (fun p => p.1 == k) = none := by
        rw [List.find?_eq_none]
        intro q hq hz
        exact hk (List.any_eq_true.mpr ⟨q, hq, hz⟩)
      rw [this]
      rfl
    rw [g, sumZ_append]
    simp [sumZ]
def Pos (l : Zd) : Prop := ∀ p ∈ l, 0 < p.2
theorem getZ_nonneg {l : Zd} (h : Pos l) (k : Int) : 0 ≤ getZ l k := by
  unfold getZ
  cases e : getE l k with
  | none => exact Int.le_refl _
  | some v => exact Int.le_of_lt (h _ (getE_mem e))
theorem Pos.put {l : Zd} (h : Pos l) (k : Int) {v : Int} (hv : 0 < v) : Pos (putE l k v) := fun p hp => by
  unfold putE at hp
  split at hp
  · obtain ⟨q, h1, h2⟩ := List.mem_map.mp hp
    subst h2
    split
    · exact hv
    · exact h q h1
  · rcases List.mem_append.mp hp with hp | hp
    · exact h p hp
    · rw [List.mem_singleton] at hp
      subst hp
      exact hv
/-- one link -/
def stepZ (l : Link) (H : Int → Int) : Int := (l.2.2.map fun p => p.2 * H (l.1 * (l.2.1 + p.1))).sum
/-- a chain's measure -/
def mu : List Link → (Int → Int) → Int
  | [], G => G 0
  | l :: c, G => stepZ l fun x => mu c fun w => G (x + w)
theorem mu_congr (c : List Link) {G H : Int → Int} (h : ∀ x, G x = H x) : mu c G = mu c H := by rw [funext h]
theorem mu_snoc : ∀ (c : List Link) (l : Link) (G : Int → Int), mu (c ++ [l]) G = mu c fun w => stepZ l fun x => G (w + x)
  | [], l, G => by
    show stepZ l (fun x => mu [] fun w => G (x + w)) = stepZ l fun x => G (0 + x)
    simp [mu]
  | m :: c, l, G => by
    show stepZ m (fun x => mu (c ++ [l]) fun w => G (x + w)) = stepZ m fun x => mu c fun w => stepZ l fun y => G (x + w + y)
    have : (fun x => mu (c ++ [l]) fun w => G (x + w)) = fun x => mu c fun w => stepZ l fun y => G (x + w + y) := by
      funext x
      rw [mu_snoc c l]
      refine mu_congr c fun w => ?_
      unfold stepZ
      simp only [Int.add_assoc]
    rw [this]
/-! the loops -/
noncomputable abbrev errB : DenS := (sSeq (sSet 10 (d2 addD (vR 6) (d2 mulI (vR 2) (d2 addD (vR 3) (vR 8)))))
     (sStD 5 (vR 10) (d2 addD (d3 dgetD3 (vB 5) (vR 10) (kD (.int 0))) (d2 mulI (vR 7) (vR 9)))))
noncomputable abbrev errF : DenS := sFor (iSeq (vR 4)) (gT (gsCons (gN 8) (gsCons (gN 9) gsNil)) 2) errB
@[simp] theorem owD_s (ρ : Env) (i : Nat) : owD ρ i = (match ρ[i]? with | some (.ow (.dict xs)) => some xs | _ => none) := (rfl)
theorem getZ_eq (l : Zd) (k : Int) : dgetD3 (zD l) (.int k) (.int 0) = some (.int (getZ l k)) := by
  unfold zD
  rw [dget3E]
  unfold getZ
  cases getE l k <;> rfl
theorem err_ok (c : D) (l : Link) (h : LOk l) (fnd : D) (w m : Int) (late0 : Zd) (s8 s9 s10 : Slot) (hm : 0 < m) (hm2 : m < 2 ^ 64) (nd : NDk late0) (ps : Pos late0) (hl : late0.length < 10000) :
    ∃ late s8' s9' s10', errF [c |> Slot.fz, .fz fnd, .fz (.int l.1), .fz (.int l.2.1), .fz (errD l.2.2), .ow (zD late0), .fz (.int w), .fz (.int m), s8, s9, s10] =
      some (.nx [.fz c, .fz fnd, .fz (.int l.1), .fz (.int l.2.1), .fz (errD l.2.2), .ow (zD late), .fz (.int w), .fz (.int m), s8', s9', s10']) ∧ NDk late ∧ Pos late ∧ late.length ≤ late0.length + l.2.2.length ∧
      ∀ G, sumZ G late = sumZ G late0 + m * stepZ l fun x => G (w + x) := by
  obtain ⟨ρ', g1, g2⟩ := sFor_ok (fi := iSeq (vR 4)) (g := gT (gsCons (gN 8) (gsCons (gN 9) gsNil)) 2) (fb := errB)
    (ρ := [.fz c, .fz fnd, .fz (.int l.1), .fz (.int l.2.1), .fz (errD l.2.2), .ow (zD late0), .fz (.int w), .fz (.int m), s8, s9, s10]) (ds := l.2.2.map pD)
    (fun j ρ => ∃ late s8 s9 s10, ρ = [.fz c, .fz fnd, .fz (.int l.1), .fz (.int l.2.1), .fz (errD l.2.2), .ow (zD late), .fz (.int w), .fz (.int m), s8, s9, s10] ∧ NDk late ∧ Pos late ∧ late.length ≤ late0.length + j ∧
      ∀ G, sumZ G late = sumZ G late0 + m * ((l.2.2.take j).map fun p => p.2 * G (w + l.1 * (l.2.1 + p.1))).sum)
    (by simp [errD]) ⟨late0, s8, s9, s10, rfl, nd, ps, Nat.le_refl _, fun G => by simp⟩ (fun j d ρ hd ⟨late, t8, t9, t10, hρ, nd1, ps1, hl1, hG⟩ => by
      rw [List.getElem?_map, Option.map_eq_some_iff] at hd
      obtain ⟨p, hp, rfl⟩ := hd
      subst hρ
      obtain ⟨q1, q2, q3, q4⟩ := h.er p (List.mem_of_getElem? hp)
      have h0 := h.s0
      have h1 := h.s1
      have hn := h.n2
      have hj : j < l.2.2.length := (List.getElem?_eq_some_iff.mp hp).1
      have m1 : mulOk l.1 (l.2.1 + p.1) = true := mulOk64 (by rcases h.sg with e | e <;> rw [e] <;> decide) (by omega)
      have m2 : mulOk m p.2 = true := by
        refine mulOk_i (m := 64) (n := 64) (by omega) (by omega) (by decide) (by decide)
      have hpos : 0 < getZ late (w + l.1 * (l.2.1 + p.1)) + m * p.2 := by
        have h3 := getZ_nonneg ps1 (w + l.1 * (l.2.1 + p.1))
        have h4 : 0 < m * p.2 := Int.mul_pos hm (by omega)
        omega
      have g0 := getZ_eq late (w + l.1 * (l.2.1 + p.1))
      have pt := putDE PyData.int late (w + l.1 * (l.2.1 + p.1)) (getZ late (w + l.1 * (l.2.1 + p.1)) + m * p.2) (by omega)
      refine ⟨[.fz c, .fz fnd, .fz (.int l.1), .fz (.int l.2.1), .fz (errD l.2.2), .ow (zD late), .fz (.int w), .fz (.int m), .fz (.int p.1), .fz (.int p.2), t10], _, by simp [pD], ?_, _, .inl rfl,
        putE late (w + l.1 * (l.2.1 + p.1)) (getZ late (w + l.1 * (l.2.1 + p.1)) + m * p.2), .fz (.int p.1), .fz (.int p.2), .fz (.int (w + l.1 * (l.2.1 + p.1))), rfl, putE_nd _ _ _ nd1, ps1.put _ hpos, by have := putE_len late (w + l.1 * (l.2.1 + p.1)) (getZ late (w + l.1 * (l.2.1 + p.1)) + m * p.2); omega, fun G => ?_⟩
      · unfold errB
        rw [sSeq_nx (ρ' := [.fz c, .fz fnd, .fz (.int l.1), .fz (.int l.2.1), .fz (errD l.2.2), .ow (zD late), .fz (.int w), .fz (.int m), .fz (.int p.1), .fz (.int p.2), .fz (.int (w + l.1 * (l.2.1 + p.1)))]) (by simp [m1])]
        unfold zD at g0
        simp only [sStD_s, d2_s, d3_s, vR_s, vB_s, kD_s, List.getElem?_cons_zero, List.getElem?_cons_succ, Option.bind_some, zD, g0, mulI_i, m2, if_true, addD_i, owD_s, adE, pt, List.set_cons_zero, List.set_cons_succ]
        unfold adE at g0
        simp only [g0, Option.bind_some, addD_i, pt]
      · rw [sumZ_put _ _ _ _ nd1, hG, List.take_add_one, hp, List.map_append, List.sum_append]
        simp [Int.mul_add]
        rw [Int.mul_assoc, Int.add_assoc])
  obtain ⟨late, t8, t9, t10, rfl, nd1, ps1, hl1, hG⟩ := g2
  refine ⟨late, t8, t9, t10, g1, nd1, ps1, by simpa using hl1, fun G => ?_⟩
  rw [hG, List.length_map, List.take_length]
  rfl
end Zx.k61
/-! Q2: ways_of, ways. -/
namespace Zx.k61
open PySem PySem.Spec L2 Zx
theorem mid_ok (c : D) (l : Link) (h : LOk l) (fnd : Zd) (s6 s7 s8 s9 s10 : Slot) (pf : Pos fnd) (bf : ∀ p ∈ fnd, p.2 < 2 ^ 64) (hl : fnd.length ≤ 1000) :
    ∃ late s6' s7' s8' s9' s10', sFor (iItemsJ 1) (gT (gsCons (gN 6) (gsCons (gN 7) gsNil)) 2) errF [.fz c, .fz (zD fnd), .fz (.int l.1), .fz (.int l.2.1), .fz (errD l.2.2), .ow (.dict []), s6, s7, s8, s9, s10] =
      some (.nx [.fz c, .fz (zD fnd), .fz (.int l.1), .fz (.int l.2.1), .fz (errD l.2.2), .ow (zD late), s6', s7', s8', s9', s10']) ∧ NDk late ∧ Pos late ∧ late.length ≤ 3 * fnd.length ∧
      ∀ G, sumZ G late = sumZ (fun w => stepZ l fun x => G (w + x)) fnd := by
  obtain ⟨ρ', g1, g2⟩ := sFor_ok (fi := iItemsJ 1) (g := gT (gsCons (gN 6) (gsCons (gN 7) gsNil)) 2) (fb := errF)
    (ρ := [.fz c, .fz (zD fnd), .fz (.int l.1), .fz (.int l.2.1), .fz (errD l.2.2), .ow (.dict []), s6, s7, s8, s9, s10]) (ds := fnd.map pD)
    (fun j ρ => ∃ late s6 s7 s8 s9 s10, ρ = [.fz c, .fz (zD fnd), .fz (.int l.1), .fz (.int l.2.1), .fz (errD l.2.2), .ow (zD late), s6, s7, s8, s9, s10] ∧ NDk late ∧ Pos late ∧ late.length ≤ 3 * j ∧
      ∀ G, sumZ G late = sumZ (fun w => stepZ l fun x => G (w + x)) (fnd.take j))
    (itemsE PyData.int _ 1 fnd rfl) ⟨[], s6, s7, s8, s9, s10, rfl, List.nodup_nil, (fun p hp => by cases hp), by simp, fun G => rfl⟩ (fun j d ρ hd ⟨late, t6, t7, t8, t9, t10, hρ, nd1, ps1, hl1, hG⟩ => by
      rw [List.getElem?_map, Option.map_eq_some_iff] at hd
      obtain ⟨p, hp, rfl⟩ := hd
      subst hρ
      have hpm := List.mem_of_getElem? hp
      have hj : j < fnd.length := (List.getElem?_eq_some_iff.mp hp).1
      have hn := h.n2
      obtain ⟨late', u8, u9, u10, f1, f2, f3, f4, f5⟩ := err_ok c l h (zD fnd) p.1 p.2 late t8 t9 t10 (pf p hpm) (bf p hpm) nd1 ps1 (by omega)
      refine ⟨[.fz c, .fz (zD fnd), .fz (.int l.1), .fz (.int l.2.1), .fz (errD l.2.2), .ow (zD late), .fz (.int p.1), .fz (.int p.2), t8, t9, t10], _, by simp [pD], f1, _, .inl rfl, late', .fz (.int p.1), .fz (.int p.2), u8, u9, u10, rfl, f2, f3, by omega, fun G => ?_⟩
      rw [f5, hG, List.take_add_one, hp]
      rw [sumZ_append]
      simp [sumZ])
  obtain ⟨late, t6, t7, t8, t9, t10, rfl, nd1, ps1, hl1, hG⟩ := g2
  refine ⟨late, t6, t7, t8, t9, t10, g1, nd1, ps1, by simpa using hl1, fun G => ?_⟩
  rw [hG, List.length_map, List.take_length]
theorem sumZ_one {l : Zd} (h : Pos l) : ∀ p ∈ l, p.2 ≤ sumZ (fun _ => 1) l := by
  induction l with
  | nil => intro p hp; cases hp
  | cons q l ih =>
    have h2 : Pos l := fun p hp => h p (List.mem_cons_of_mem _ hp)
    have nn : 0 ≤ sumZ (fun _ => 1) l := by
      clear ih h
      induction l with
      | nil => exact Int.le_refl _
      | cons r l ih =>
        rw [sumZ_cons]
        have := h2 r List.mem_cons_self
        have := ih fun p hp => h2 p (List.mem_cons_of_mem _ hp)
        omega
    intro p hp
    rw [sumZ_cons]
    have hq := h q List.mem_cons_self
    rcases List.mem_cons.mp hp with rfl | hp
    · omega
    · have := ih h2 p hp
      omega
/-- the number of all ways -/
theorem step_one (l : Link) (h : LOk l) (a : Int) (ha : 0 ≤ a) : 0 ≤ stepZ l (fun _ => a) ∧ stepZ l (fun _ => a) ≤ 300 * a := by
  have gen : ∀ (E : Err), (∀ p ∈ E, 1 ≤ p.2 ∧ p.2 ≤ 100) → 0 ≤ (E.map fun p => p.2 * a).sum ∧ (E.map fun p => p.2 * a).sum ≤ 100 * E.length * a := by
    intro E
    induction E with
    | nil => intro _; simp
    | cons p E ih =>
      intro hE
      obtain ⟨i1, i2⟩ := ih fun q hq => hE q (List.mem_cons_of_mem _ hq)
      obtain ⟨p1, p2⟩ := hE p List.mem_cons_self
      rw [List.map_cons, List.sum_cons, List.length_cons]
      have h1 : 0 ≤ p.2 * a := Int.mul_nonneg (by omega) ha
      have h2 : p.2 * a ≤ 100 * a := Int.mul_le_mul_of_nonneg_right p2 ha
      refine ⟨by omega, ?_⟩
      rw [Int.natCast_add, Int.mul_add, Int.add_mul]
      simp
      omega
  obtain ⟨g1, g2⟩ := gen l.2.2 fun p hp => ⟨(h.er p hp).2.2.1, (h.er p hp).2.2.2⟩
  refine ⟨g1, Int.le_trans g2 ?_⟩
  have := h.n2
  have : (100 * (l.2.2.length : Int)) ≤ 300 := by omega
  exact Int.mul_le_mul_of_nonneg_right this ha
theorem mu_one : ∀ (c : List Link), (∀ l ∈ c, LOk l) → 0 ≤ mu c (fun _ => 1) ∧ mu c (fun _ => 1) ≤ 300 ^ c.length
  | [], _ => by simp [mu]
  | l :: c, h => by
    obtain ⟨i1, i2⟩ := mu_one c fun m hm => h m (List.mem_cons_of_mem _ hm)
    obtain ⟨s1, s2⟩ := step_one l (h l List.mem_cons_self) (mu c fun _ => 1) i1
    refine ⟨s1, ?_⟩
    show stepZ l (fun _ => mu c fun _ => 1) ≤ _
    rw [List.length_cons, Int.pow_succ]
    omega
theorem pow300 (j : Nat) (h : j ≤ 6) : (300 : Int) ^ j < 2 ^ 64 := by
  have e : ∀ j : Fin 7, (300 : Int) ^ j.val < 2 ^ 64 := by decide
  exact e ⟨j, by omega⟩
theorem pow3 (j : Nat) (h : j ≤ 6) : (3 : Nat) ^ j ≤ 1000 := by
  have e : ∀ j : Fin 7, (3 : Nat) ^ j.val ≤ 1000 := by decide
  exact e ⟨j, by omega⟩
theorem zD0 : PyData.dict [(.int 0, .int 1)] = zD [(0, 1)] := rfl
theorem ways_of_eq (c : List Link) (h : COk c) : ∃ l : Zd, f_ways_of [chD c] = some (zD l) ∧ NDk l ∧ Pos l ∧ l.length ≤ 3 ^ c.length ∧ ∀ G, sumZ G l = mu c G := by
  unfold f_ways_of D_ways_of
  obtain ⟨ρ', g1, g2⟩ := sFor_ok (fi := iSeq (vR 0)) (g := gT (gsCons (gN 2) (gsCons (gN 3) (gsCons (gN 4) gsNil))) 3)
    (fb := sSeq (sOwn 5 (kD (.dict []))) (sSeq (sFor (iItemsJ 1) (gT (gsCons (gN 6) (gsCons (gN 7) gsNil)) 2) errF) (sFrz 5 (sSet 1 (vR 5)))))
    (ρ := [.fz (chD c), .fz (zD [(0, 1)]), .no, .no, .no, .no, .no, .no, .no, .no, .no]) (ds := c.map linkD)
    (fun j ρ => ∃ l s2 s3 s4 s5 s6 s7 s8 s9 s10, ρ = [.fz (chD c), .fz (zD l), s2, s3, s4, s5, s6, s7, s8, s9, s10] ∧ NDk l ∧ Pos l ∧ l.length ≤ 3 ^ j ∧ ∀ G, sumZ G l = mu (c.take j) G)
    (by simp [chD]) ⟨[(0, 1)], .no, .no, .no, .no, .no, .no, .no, .no, .no, rfl, by simp [NDk], (fun p hp => by simp at hp; subst hp; decide), by simp, fun G => by simp [sumZ, mu]⟩
    (fun j d ρ hd ⟨l, s2, s3, s4, s5, s6, s7, s8, s9, s10, hρ, nd, ps, hl, hG⟩ => by
      rw [List.getElem?_map, Option.map_eq_some_iff] at hd
      obtain ⟨lk, hlk, rfl⟩ := hd
      subst hρ
      have hj : j < c.length := (List.getElem?_eq_some_iff.mp hlk).1
      have hc6 := h.n2
      have hlk' := h.ok lk (List.mem_of_getElem? hlk)
      have hb : ∀ p ∈ l, p.2 < 2 ^ 64 := fun p hp => by
        have h1 := sumZ_one ps p hp
        rw [hG] at h1
        have h2 := (mu_one (c.take j) fun m hm => h.ok m (List.mem_of_mem_take hm)).2
        rw [List.length_take, Nat.min_eq_left (by omega)] at h2
        have := pow300 j (by omega)
        omega
      have h3 := pow3 j (by omega)
      obtain ⟨late, u6, u7, u8, u9, u10, f1, f2, f3, f4, f5⟩ := mid_ok (chD c) lk hlk' l s6 s7 s8 s9 s10 ps hb (by omega)
      refine ⟨[.fz (chD c), .fz (zD l), .fz (.int lk.1), .fz (.int lk.2.1), .fz (errD lk.2.2), s5, s6, s7, s8, s9, s10], _, by simp [linkD], ?_, _, .inl rfl, late, .fz (.int lk.1), .fz (.int lk.2.1), .fz (errD lk.2.2), .fz (zD late), u6, u7, u8, u9, u10, rfl, f2, f3, by rw [Nat.pow_succ]; omega, fun G => ?_⟩
      · rw [sSeq_nx (ρ' := [.fz (chD c), .fz (zD l), .fz (.int lk.1), .fz (.int lk.2.1), .fz (errD lk.2.2), .ow (.dict []), s6, s7, s8, s9, s10]) (by simp)]
        rw [sSeq_nx f1]
        simp
      · rw [f5, hG, List.take_add_one, hlk]
        show _ = mu (c.take j ++ [lk]) G
        rw [mu_snoc])
  obtain ⟨l, s2, s3, s4, s5, s6, s7, s8, s9, s10, rfl, nd, ps, hl, hG⟩ := g2
  rw [List.length_map] at hl hG
  rw [List.take_length] at hG
  have := pow3 c.length h.n2
  refine ⟨l, run_seq (ρ' := [.fz (chD c), .fz (zD [(0, 1)]), .no, .no, .no, .no, .no, .no, .no, .no, .no]) (by
    rw [← zD0]
    simp [keyOfI]) ?_, nd, ps, hl, hG⟩
  rw [sSeq_nx g1]
  simp
theorem ways_eq (c : List Link) (h : COk c) : ∃ l : Zd, f_ways [chD c] = some (zD l) ∧ NDk l ∧ Pos l ∧ l.length ≤ 3 ^ c.length ∧ ∀ G, sumZ G l = mu c G := by
  obtain ⟨l, h1, h2⟩ := ways_of_eq c h
  refine ⟨l, ?_, h2⟩
  unfold f_ways D_ways
  simp [check_eq c h, h1]
/-! ### when two such dicts are equal -/
theorem sumZ_ind {l : Zd} (nd : NDk l) (k : Int) : sumZ (fun x => if x = k then 1 else 0) l = getZ l k := by
  induction l with
  | nil => rfl
  | cons p l ih =>
    unfold NDk at nd
    rw [List.map_cons, List.nodup_cons] at nd
    rw [sumZ_cons, ih nd.2]
    unfold getZ getE
    rw [List.find?_cons]
    by_cases hp : p.1 = k
    · have hz : getE l k = none := by
        unfold getE
        rw [Option.map_eq_none_iff, List.find?_eq_none]
        intro q hq hz
        exact nd.1 (List.mem_map.mpr ⟨q, hq, by simp at hz; omega⟩)
      unfold getE at hz
      simp [hp, hz]
    · have e : (p.1 == k) = false := by simpa using hp
      simp [hp, e]
theorem same_len {l m : Zd} (nl : NDk l) (h : ∀ p ∈ l, ∃ v, (p.1, v) ∈ m) : l.length ≤ m.length := by
  have key : ∀ (a b : List Int), a.Nodup → (∀ x ∈ a, x ∈ b) → a.length ≤ b.length := by
    intro a
    induction a with
    | nil => intro b _ _; exact Nat.zero_le _
    | cons x a ih =>
      intro b hn hb
      obtain ⟨n1, n2⟩ := List.nodup_cons.mp hn
      have hx := hb x List.mem_cons_self
      have h2 := ih (b.erase x) n2 fun y hy => by
        have hne : y ≠ x := fun z => n1 (z ▸ hy)
        exact (List.mem_erase_of_ne hne).mpr (hb y (List.mem_cons_of_mem _ hy))
      rw [List.length_erase_of_mem hx] at h2
      have := List.length_pos_of_mem hx
      rw [List.length_cons]
      omega
  have := key (l.map (fun p : Int × Int => p.1)) (m.map (fun p : Int × Int => p.1)) nl fun x hx => by
    obtain ⟨p, hp, rfl⟩ := List.mem_map.mp hx
    obtain ⟨v, hv⟩ := h p hp
    exact List.mem_map.mpr ⟨_, hv, rfl⟩
  simpa using this
theorem neDD_same (l m : Zd) (nl : NDk l) (nm : NDk m) (pl : Pos l) (pm : Pos m) (h : ∀ G, sumZ G l = sumZ G m) : neDD (zD l) (zD m) = some false := by
  have hk : ∀ k, getZ l k = getZ m k := fun k => by rw [← sumZ_ind nl, h, sumZ_ind nm]
  have sub : ∀ {l m : Zd}, NDk l → Pos l → NDk m → (∀ k, getZ l k = getZ m k) → ∀ p ∈ l, getE m p.1 = some p.2 := fun {l m} nl pl nm hk p hp => by
    have h1 := getE_of nl hp
    have h2 := hk p.1
    unfold getZ at h2
    rw [h1] at h2
    cases e : getE m p.1 with
    | none =>
      rw [e] at h2
      have := pl p hp
      simp at h2
      omega
    | some v =>
      rw [e] at h2
      simp at h2
      rw [h2]
  have s1 := sub nl pl nm hk
  have s2 := sub nm pm nl fun k => (hk k).symm
  have l1 := same_len nl fun p hp => ⟨p.2, getE_mem (s1 p hp)⟩
  have l2 := same_len nm fun p hp => ⟨p.2, getE_mem (s2 p hp)⟩
  unfold neDD zD adE
  simp only [notMkE, Bool.true_and]
  have : dsame (kdE PyData.int l) (kdE PyData.int m) = true := by
    unfold dsame
    rw [Bool.and_eq_true, List.all_eq_true]
    refine ⟨by simp [kdE_len]; omega, fun p hp => ?_⟩
    unfold kdE at hp
    obtain ⟨q, hq, rfl⟩ := List.mem_map.mp hp
    simp only [dGetE, s1 q hq, Option.map_some]
    simp
  rw [this]
  rfl
end Zx.k61
/-! Q3: laws of a chain's measure. -/
namespace Zx.k61
open PySem PySem.Spec L2 Zx
theorem stepZ_congr (l : Link) {G H : Int → Int} (h : ∀ x, G x = H x) : stepZ l G = stepZ l H := by rw [funext h]
theorem sum_zero (E : Err) : (E.map fun p => p.2 * (0 : Int)).sum = 0 := by
  induction E with
  | nil => rfl
  | cons p E ih =>
    rw [List.map_cons, List.sum_cons, ih]
    omega
theorem sum_add (E : Err) (f g : Int × Int → Int) : (E.map fun p => p.2 * (f p + g p)).sum = (E.map fun p => p.2 * f p).sum + (E.map fun p => p.2 * g p).sum := by
  induction E with
  | nil => rfl
  | cons p E ih =>
    rw [List.map_cons, List.sum_cons, ih, List.map_cons, List.sum_cons, List.map_cons, List.sum_cons, Int.mul_add]
    omega
theorem sum_mulc (E : Err) (k : Int) (f : Int × Int → Int) : (E.map fun p => p.2 * (k * f p)).sum = k * (E.map fun p => p.2 * f p).sum := by
  induction E with
  | nil => simp
  | cons p E ih =>
    rw [List.map_cons, List.sum_cons, ih, List.map_cons, List.sum_cons, Int.mul_add, Int.mul_left_comm]
theorem sum_swap (E F : Err) (H : Int × Int → Int × Int → Int) : (E.map fun p => p.2 * (F.map fun q => q.2 * H p q).sum).sum = (F.map fun q => q.2 * (E.map fun p => p.2 * H p q).sum).sum := by
  induction E with
  | nil =>
    have : (F.map fun q => q.2 * (([] : Err).map fun p => p.2 * H p q).sum).sum = 0 := sum_zero F
    rw [this]
    rfl
  | cons p E ih =>
    simp only [List.map_cons, List.sum_cons, ih]
    rw [sum_add, sum_mulc]
theorem stepZ_swap (l m : Link) (H : Int → Int → Int) : stepZ l (fun x => stepZ m fun y => H x y) = stepZ m fun y => stepZ l fun x => H x y := by
  unfold stepZ
  exact sum_swap l.2.2 m.2.2 fun p q => H (l.1 * (l.2.1 + p.1)) (m.1 * (m.2.1 + q.1))
theorem mu_perm {c d : List Link} (h : c.Perm d) : ∀ G, mu c G = mu d G := by
  induction h with
  | nil => intro G; rfl
  | cons l _ ih =>
    intro G
    exact stepZ_congr l fun x => ih _
  | swap l m c =>
    intro G
    show stepZ m (fun x => stepZ l fun y => mu c fun w => G (x + (y + w))) = stepZ l fun y => stepZ m fun x => mu c fun w => G (y + (x + w))
    rw [stepZ_swap]
    refine stepZ_congr l fun y => stepZ_congr m fun x => mu_congr c fun w => ?_
    congr 1
    omega
  | trans _ _ i1 i2 => intro G; rw [i1, i2]
theorem mu_append : ∀ (c d : List Link) (G : Int → Int), mu (c ++ d) G = mu c fun a => mu d fun b => G (a + b)
  | [], d, G => mu_congr d fun b => by rw [Int.zero_add]
  | l :: c, d, G => by
    refine stepZ_congr l fun x => ?_
    refine (mu_append c d _).trans ?_
    refine mu_congr c fun a => mu_congr d fun b => ?_
    show G (x + (a + b)) = G (x + a + b)
    rw [Int.add_assoc]
/-- linear in the tested function -/
theorem stepZ_add (l : Link) (G H : Int → Int) : stepZ l (fun x => G x + H x) = stepZ l G + stepZ l H := sum_add l.2.2 (fun p => G (l.1 * (l.2.1 + p.1))) fun p => H (l.1 * (l.2.1 + p.1))
theorem stepZ_mulc (l : Link) (k : Int) (G : Int → Int) : stepZ l (fun x => k * G x) = k * stepZ l G := sum_mulc l.2.2 k fun p => G (l.1 * (l.2.1 + p.1))
theorem mu_add : ∀ (c : List Link) (G H : Int → Int), mu c (fun x => G x + H x) = mu c G + mu c H
  | [], _, _ => rfl
  | l :: c, G, H => by
    show stepZ l (fun x => mu c fun w => G (x + w) + H (x + w)) = _
    rw [stepZ_congr l fun x => mu_add c (fun w => G (x + w)) fun w => H (x + w), stepZ_add]
    rfl
/-- turned about -/
def ngL (l : Link) : Link := (-l.1, l.2)
theorem mu_ng : ∀ (c : List Link) (G : Int → Int), mu (c.map ngL) G = mu c fun w => G (-w)
  | [], G => by simp [mu]
  | l :: c, G => by
    show stepZ (ngL l) (fun x => mu (c.map ngL) fun w => G (x + w)) = stepZ l fun x => mu c fun w => G (-(x + w))
    unfold stepZ
    congr 1
    refine List.map_congr_left fun p _ => ?_
    congr 1
    refine (mu_ng c _).trans ?_
    refine mu_congr c fun w => ?_
    show G (-l.1 * (l.2.1 + p.1) + -w) = _
    congr 1
    rw [Int.neg_mul]
    omega
/-- one link's size moved -/
def mvL (t : Int) (l : Link) : Link := (l.1, l.2.1 + t, l.2.2)
theorem mu_mv (t : Int) (l : Link) (c : List Link) (G : Int → Int) : mu (mvL t l :: c) G = mu (l :: c) fun w => G (w + l.1 * t) := by
  show stepZ (mvL t l) (fun x => mu c fun w => G (x + w)) = stepZ l fun x => mu c fun w => G (x + w + l.1 * t)
  unfold stepZ
  congr 1
  refine List.map_congr_left fun p _ => ?_
  congr 1
  refine mu_congr c fun w => ?_
  show G (l.1 * (l.2.1 + t + p.1) + w) = _
  congr 1
  rw [Int.mul_add, Int.mul_add, Int.mul_add]
  omega
/-- everything made larger -/
def scL (t : Int) (l : Link) : Link := (l.1, t * l.2.1, l.2.2.map fun p => (t * p.1, p.2))
theorem mu_sc (t : Int) : ∀ (c : List Link) (G : Int → Int), mu (c.map (scL t)) G = mu c fun w => G (t * w)
  | [], G => by simp [mu]
  | l :: c, G => by
    show stepZ (scL t l) (fun x => mu (c.map (scL t)) fun w => G (x + w)) = stepZ l fun x => mu c fun w => G (t * (x + w))
    unfold stepZ scL
    rw [List.map_map]
    congr 1
    refine List.map_congr_left fun p _ => ?_
    show p.2 * mu (c.map (scL t)) (fun w => G (l.1 * (t * l.2.1 + t * p.1) + w)) = _
    rw [mu_sc t c]
    congr 1
    refine mu_congr c fun w => ?_
    congr 1
    rw [Int.mul_add t, ← Int.mul_add t, Int.mul_left_comm]
/-- all counts times t -/
def mnL (t : Int) (l : Link) : Link := (l.1, l.2.1, l.2.2.map fun p => (p.1, t * p.2))
theorem mu_mn (t : Int) : ∀ (c : List Link) (G : Int → Int), mu (c.map (mnL t)) G = t ^ c.length * mu c G
  | [], G => by simp [mu]
  | l :: c, G => by
    show stepZ (mnL t l) (fun x => mu (c.map (mnL t)) fun w => G (x + w)) = t ^ (c.length + 1) * stepZ l fun x => mu c fun w => G (x + w)
    rw [stepZ_congr (mnL t l) fun x => mu_mn t c _, stepZ_mulc, Int.pow_succ, Int.mul_assoc]
    congr 1
    unfold stepZ mnL
    rw [List.map_map]
    rw [← sum_mulc]
    congr 1
    refine List.map_congr_left fun p _ => ?_
    show t * p.2 * _ = p.2 * (t * _)
    rw [Int.mul_assoc, Int.mul_left_comm]
/-! the ends -/
def loE : Err → Int | [] => 0 | p :: _ => p.1
def hiE (E : Err) : Int := match E.getLast? with | some p => p.1 | none => 0
def loL (l : Link) : Int := let u := l.1 * (l.2.1 + loE l.2.2); let v := l.1 * (l.2.1 + hiE l.2.2); if v < u then v else u
def hiL (l : Link) : Int := let u := l.1 * (l.2.1 + loE l.2.2); let v := l.1 * (l.2.1 + hiE l.2.2); if v > u then v else u
def loC (c : List Link) : Int := (c.map loL).sum
def hiC (c : List Link) : Int := (c.map hiL).sum
theorem lo_le {E : Err} (h : E.Pairwise fun p q => p.1 < q.1) : ∀ p ∈ E, loE E ≤ p.1 := by
  cases E with
  | nil => intro p hp; cases hp
  | cons q E =>
    intro p hp
    rw [List.pairwise_cons] at h
    rcases List.mem_cons.mp hp with rfl | hp
    · exact Int.le_refl _
    · exact Int.le_of_lt (h.1 p hp)
theorem le_hi : ∀ {E : Err}, (E.Pairwise fun p q => p.1 < q.1) → ∀ p ∈ E, p.1 ≤ hiE E
  | [], _, p, hp => by cases hp
  | [q], _, p, hp => by
    rw [List.mem_singleton] at hp
    subst hp
    exact Int.le_refl _
  | q :: r :: E, h, p, hp => by
    rw [List.pairwise_cons] at h
    have e : hiE (q :: r :: E) = hiE (r :: E) := by
      unfold hiE
      rw [List.getLast?_cons_cons]
    rw [e]
    rcases List.mem_cons.mp hp with rfl | hp
    · have h1 := h.1 r List.mem_cons_self
      have h2 := le_hi h.2 r List.mem_cons_self
      omega
    · exact le_hi h.2 p hp
theorem link_in (l : Link) (h : LOk l) : ∀ p ∈ l.2.2, loL l ≤ l.1 * (l.2.1 + p.1) ∧ l.1 * (l.2.1 + p.1) ≤ hiL l := fun p hp => by
  have h1 := lo_le h.up p hp
  have h2 := le_hi h.up p hp
  unfold loL hiL
  rcases h.sg with e | e <;> rw [e] <;> dsimp only <;> constructor <;> split <;> omega
theorem lo_hi (l : Link) (h : LOk l) : loL l ≤ hiL l := by
  unfold loL hiL
  dsimp only
  split <;> split <;> omega
theorem stepZ_in (l : Link) (h : LOk l) {G H : Int → Int} (e : ∀ x, loL l ≤ x → x ≤ hiL l → G x = H x) : stepZ l G = stepZ l H := by
  unfold stepZ
  congr 1
  refine List.map_congr_left fun p hp => ?_
  obtain ⟨h1, h2⟩ := link_in l h p hp
  rw [e _ h1 h2]
theorem mu_in : ∀ (c : List Link), (∀ l ∈ c, LOk l) → ∀ {G H : Int → Int}, (∀ x, loC c ≤ x → x ≤ hiC c → G x = H x) → mu c G = mu c H
  | [], _, G, H, e => e 0 (Int.le_refl _) (Int.le_refl _)
  | l :: c, h, G, H, e => by
    refine stepZ_in l (h l List.mem_cons_self) fun x h1 h2 => mu_in c (fun m hm => h m (List.mem_cons_of_mem _ hm)) fun w h3 h4 => e _ ?_ ?_
    · unfold loC at *
      rw [List.map_cons, List.sum_cons]
      omega
    · unfold hiC at *
      rw [List.map_cons, List.sum_cons]
      omega
theorem loC_hiC : ∀ (c : List Link), (∀ l ∈ c, LOk l) → loC c ≤ hiC c
  | [], _ => Int.le_refl _
  | l :: c, h => by
    have h1 := lo_hi l (h l List.mem_cons_self)
    have h2 := loC_hiC c fun m hm => h m (List.mem_cons_of_mem _ hm)
    unfold loC hiC at *
    rw [List.map_cons, List.map_cons, List.sum_cons, List.sum_cons]
    omega
theorem loC_append (c d : List Link) : loC (c ++ d) = loC c + loC d := by simp [loC]
theorem hiC_append (c d : List Link) : hiC (c ++ d) = hiC c + hiC d := by simp [hiC]
theorem mu_pos : ∀ (c : List Link), (∀ l ∈ c, LOk l) → 0 < mu c fun _ => 1
  | [], _ => by decide
  | l :: c, h => by
    have h1 := mu_pos c fun m hm => h m (List.mem_cons_of_mem _ hm)
    have hl := h l List.mem_cons_self
    show 0 < stepZ l fun _ => mu c fun _ => 1
    generalize mu c (fun _ => 1) = a at h1
    unfold stepZ
    dsimp only
    have hn := hl.n1
    have he := hl.er
    revert hn he
    generalize l.2.2 = E
    intro hn he
    have nn : ∀ E : Err, (∀ p ∈ E, 0 < p.2) → 0 ≤ (E.map fun p => p.2 * a).sum := fun E => by
      induction E with
      | nil => intro _; exact Int.le_refl _
      | cons p E ih =>
        intro hE
        have := ih fun q hq => hE q (List.mem_cons_of_mem _ hq)
        have := Int.mul_pos (hE p List.mem_cons_self) h1
        rw [List.map_cons, List.sum_cons]
        omega
    cases E with
    | nil => simp at hn
    | cons p E =>
      have h2 := nn E (fun q hq => by have := (he q (List.mem_cons_of_mem _ hq)).2.2.1; omega)
      have h3 : 0 < p.2 * a := Int.mul_pos (by have := (he p List.mem_cons_self).2.2.1; omega) h1
      rw [List.map_cons, List.sum_cons]
      omega
/-! shares -/
def inD (a b w : Int) : Int := if a ≤ w ∧ w ≤ b then 1 else 0
def shQ (c : List Link) (a b : Int) : Rat := ((mu c (inD a b) : Int) : Rat) / ((mu c (fun _ => 1) : Int) : Rat)
theorem one_nz (c : List Link) (h : ∀ l ∈ c, LOk l) : ((mu c (fun _ => 1) : Int) : Rat) ≠ 0 := by
  have := mu_pos c h
  intro z
  have := Rat.intCast_eq_zero_iff.mp z
  omega
theorem sh_mn (t : Int) (ht : 0 < t) (c : List Link) (h : ∀ l ∈ c, LOk l) (a b : Int) : shQ (c.map (mnL t)) a b = shQ c a b := by
  unfold shQ
  rw [mu_mn, mu_mn]
  have h1 := one_nz c h
  have h2 : ((t ^ c.length : Int) : Rat) ≠ 0 := by
    intro z
    have := Rat.intCast_eq_zero_iff.mp z
    have := Int.pow_pos (n := t) (m := c.length) ht
    omega
  rw [Rat.intCast_mul, Rat.intCast_mul]
  grind
theorem sh_ng (c : List Link) (a b : Int) : shQ (c.map ngL) (-b) (-a) = shQ c a b := by
  unfold shQ
  rw [mu_ng, mu_ng]
  have : (fun w => inD (-b) (-a) (-w)) = inD a b := by
    funext w
    unfold inD
    congr 1
    apply propext
    omega
  rw [this]
theorem sh_add (c : List Link) (h : ∀ l ∈ c, LOk l) (a b : Int) (h1 : a ≤ b) (h2 : b ≤ hiC c) : shQ c a b + shQ c (b + 1) (hiC c + 1) = shQ c a (hiC c) := by
  unfold shQ
  have : mu c (inD a b) + mu c (inD (b + 1) (hiC c + 1)) = mu c (inD a (hiC c)) := by
    rw [← mu_add]
    refine mu_in c h fun x x1 x2 => ?_
    unfold inD
    split <;> split <;> split <;> omega
  rw [← this]
  rw [Rat.intCast_add]
  have := one_nz c h
  grind
theorem sh_all (c : List Link) (h : ∀ l ∈ c, LOk l) : shQ c (loC c) (hiC c) = 1 := by
  unfold shQ
  have : mu c (inD (loC c) (hiC c)) = mu c fun _ => 1 := mu_in c h fun x x1 x2 => by
    unfold inD
    rw [if_pos ⟨x1, x2⟩]
  rw [this]
  have := one_nz c h
  grind
theorem in_le : ∀ (c : List Link), (∀ l ∈ c, LOk l) → ∀ (G : Int → Int), (∀ x, 0 ≤ G x ∧ G x ≤ 1) → 0 ≤ mu c G ∧ mu c G ≤ mu c fun _ => 1
  | [], _, G, hG => hG 0
  | l :: c, h, G, hG => by
    have ih := fun x => in_le c (fun m hm => h m (List.mem_cons_of_mem _ hm)) (fun w => G (x + w)) fun w => hG _
    show 0 ≤ stepZ l (fun x => mu c fun w => G (x + w)) ∧ stepZ l (fun x => mu c fun w => G (x + w)) ≤ stepZ l fun _ => mu c fun _ => 1
    generalize mu c (fun _ => 1) = a at ih
    generalize hF : (fun x => mu c fun w => G (x + w)) = F
    have ih2 : ∀ x, 0 ≤ F x ∧ F x ≤ a := fun x => by rw [← hF]; exact ih x
    have he := (h l List.mem_cons_self).er
    unfold stepZ
    dsimp only
    revert he
    generalize l.2.2 = E
    intro he
    induction E with
    | nil => simp
    | cons p E ihE =>
      obtain ⟨i1, i2⟩ := ihE fun q hq => he q (List.mem_cons_of_mem _ hq)
      obtain ⟨f1, f2⟩ := ih2 (l.1 * (l.2.1 + p.1))
      have hp := (he p List.mem_cons_self).2.2.1
      have h3 := Int.mul_nonneg (show 0 ≤ p.2 by omega) f1
      have h4 := Int.mul_le_mul_of_nonneg_left f2 (show 0 ≤ p.2 by omega)
      rw [List.map_cons, List.sum_cons, List.map_cons, List.sum_cons]
      omega
end Zx.k61
/-! Q4: mean, spread, ends, share. -/
namespace Zx.k61
open PySem PySem.Spec L2 Zx
theorem e_minus : f_minus = Cm.f_minus := rfl
theorem e_lfrac : f__law_fraction = Cm.f__law_fraction := rfl
theorem e_lplus : f__law_plus = Cm.f__law_plus := rfl
theorem e_ltimes : f__law_times = Cm.f__law_times := rfl
def nE (E : Err) : Int := (E.map fun p => p.2).sum
def enE (E : Err) : Int := (E.map fun p => p.1 * p.2).sum
def meE (E : Err) : Rat := (enE E : Rat) / (nE E : Rat)
def mnQ (c : List Link) : Rat := (c.map fun l => (l.1 : Rat) * ((l.2.1 : Rat) + meE l.2.2)).sum
def spE (E : Err) : Rat := (E.map fun p => ((p.2 : Int) : Rat) / ((nE E : Int) : Rat) * (((p.1 : Rat) - meE E) * ((p.1 : Rat) - meE E))).sum
def spQ (c : List Link) : Rat := (c.map fun l => spE l.2.2).sum
theorem int_fr (i : Int) : PyData.tuple [.int i, .int 1] = frD (i : Rat) := rfl
theorem nE_b (E : Err) (h : ∀ p ∈ E, -50 ≤ p.1 ∧ p.1 ≤ 50 ∧ 1 ≤ p.2 ∧ p.2 ≤ 100) : (E.length : Int) ≤ nE E ∧ nE E ≤ 100 * E.length ∧ -5000 * E.length ≤ enE E ∧ enE E ≤ 5000 * E.length := by
  induction E with
  | nil => simp [nE, enE]
  | cons p E ih =>
    obtain ⟨i1, i2, i3, i4⟩ := ih fun q hq => h q (List.mem_cons_of_mem _ hq)
    obtain ⟨p1, p2, p3, p4⟩ := h p List.mem_cons_self
    have h1 : p.1 * p.2 ≤ 50 * p.2 := Int.mul_le_mul_of_nonneg_right p2 (by omega)
    have h2 : -50 * p.2 ≤ p.1 * p.2 := Int.mul_le_mul_of_nonneg_right p1 (by omega)
    unfold nE enE at *
    rw [List.map_cons, List.map_cons, List.sum_cons, List.sum_cons, List.length_cons]
    omega
theorem nE_pos (l : Link) (h : LOk l) : 0 < nE l.2.2 := by
  have := nE_b l.2.2 h.er
  have := h.n1
  omega
theorem nE_nz (l : Link) (h : LOk l) : ((nE l.2.2 : Int) : Rat) ≠ 0 := by
  have := nE_pos l h
  intro z
  have := Rat.intCast_eq_zero_iff.mp z
  omega
theorem meE_sk (l : Link) (h : LOk l) : Sk 14 (meE l.2.2) := by
  have := nE_b l.2.2 h.er
  have := h.n1
  have := h.n2
  exact Sk_div (by omega) (by omega) (by omega)
theorem mean_error_eq (l : Link) (h : LOk l) : f_mean_error [errD l.2.2] = some (frD (meE l.2.2)) := by
  have hb := nE_b l.2.2 h.er
  have h1 := h.n1
  have h2 := h.n2
  have hf := fraction_eq (enE l.2.2) (nE l.2.2) (by omega) (by
    have : (nE l.2.2).natAbs < 2 ^ 10 := by omega
    exact Nat.lt_of_lt_of_le this (Nat.pow_le_pow_right (by decide) (by decide)))
  unfold f_mean_error D_mean_error
  have c1 : dLc (iSeq (vR 0)) (gT (gsCons (gN 1) (gsCons (gN 2) gsNil)) 2) bYes (d2 mulI (vR 1) (vR 2)) [1, 2] (env0 4 [errD l.2.2]) = some (.list ((l.2.2.map fun p => p.1 * p.2).map .int)) := by
    refine dLc_of (ds := l.2.2.map pD) (by simp [errD]) ?_ (by simp; omega)
    rw [lcL_all (fun d => match d with | .tuple [.int a, .int b] => .int (a * b) | _ => .none)]
    · rw [List.map_map, List.map_map]; rfl
    · intro d hd
      obtain ⟨p, hp, rfl⟩ := List.mem_map.mp hd
      obtain ⟨p1, p2, p3, p4⟩ := h.er p hp
      have : mulOk p.1 p.2 = true := mulOk64 (by omega) (by omega)
      exact ⟨_, by simp [pD]; rfl, by simp [this, wipeE, pD]⟩
  have c2 : dLc (iSeq (vR 0)) (gT (gsCons (gN 3) (gsCons (gN 2) gsNil)) 2) bYes (vR 2) [3, 2] (env0 4 [errD l.2.2]) = some (.list ((l.2.2.map fun p => p.2).map .int)) := by
    refine dLc_of (ds := l.2.2.map pD) (by simp [errD]) ?_ (by simp; omega)
    rw [lcL_all (fun d => match d with | .tuple [.int a, .int b] => .int b | _ => .none)]
    · rw [List.map_map, List.map_map]; rfl
    · intro d hd
      obtain ⟨p, hp, rfl⟩ := List.mem_map.mp hd
      exact ⟨_, by simp [pD]; rfl, by simp [wipeE, pD]⟩
  rw [runX_s]
  simp only [sRet_s, dCall_s, lCons_s, lNil_s, d1_s, c1, c2, Option.bind_some, sumD, intsOf_map, e_fraction]
  unfold enE nE at hf
  rw [hf]
  rfl
theorem mean_eq (c : List Link) (h : COk c) : f_mean [chD c] = some (frD (mnQ c)) := by
  have h6 := h.n2
  have sk : ∀ l ∈ c, Sk 26 ((l.1 : Rat) * ((l.2.1 : Rat) + meE l.2.2)) := fun l hl => by
    have hk := h.ok l hl
    have h0 := hk.s0
    have h1 := hk.s1
    have s1 : Sk 1 (l.1 : Rat) := Sk_int (by rcases hk.sg with e | e <;> rw [e] <;> decide) (by decide)
    have s2 : Sk 10 (l.2.1 : Rat) := Sk_int (by omega) (by decide)
    exact s1.mul (s2.add (meE_sk l hk))
  have tot := total_sk (c.map fun l => (l.1 : Rat) * ((l.2.1 : Rat) + meE l.2.2)) (n := 26) (fun q hq => by
    obtain ⟨l, hl, rfl⟩ := List.mem_map.mp hq
    exact sk l hl) (by rw [List.length_map]; omega) (by decide)
  unfold f_mean D_mean
  refine run_seq (ρ' := [.fz (chD c), .no, .no, .no]) (by simp [check_eq c h]) ?_
  have c1 : dLc (iSeq (vR 0)) (gT (gsCons (gN 1) (gsCons (gN 2) (gsCons (gN 3) gsNil))) 3) bYes (dCall (lCons (mkT (lCons (vR 1) (lCons (kD (.int 1)) lNil))) (lCons (dCall (lCons (mkT (lCons (vR 2) (lCons (kD (.int 1)) lNil))) (lCons (dCall (lCons (vR 3) lNil) f_mean_error) lNil)) f_plus) lNil)) f_times) [1, 2, 3] [.fz (chD c), .no, .no, .no] = some (.list ((c.map fun l => (l.1 : Rat) * ((l.2.1 : Rat) + meE l.2.2)).map frD)) := by
    unfold dLc
    have hl : lcL (gT (gsCons (gN 1) (gsCons (gN 2) (gsCons (gN 3) gsNil))) 3) bYes (dCall (lCons (mkT (lCons (vR 1) (lCons (kD (.int 1)) lNil))) (lCons (dCall (lCons (mkT (lCons (vR 2) (lCons (kD (.int 1)) lNil))) (lCons (dCall (lCons (vR 3) lNil) f_mean_error) lNil)) f_plus) lNil)) f_times) (wipeE [.fz (chD c), .no, .no, .no] [1, 2, 3]) (c.map linkD) = some ((c.map fun l => (l.1 : Rat) * ((l.2.1 : Rat) + meE l.2.2)).map frD) := by
      have hok := h.ok
      clear h6 tot h
      generalize chD c = S
      induction c with
      | nil => rfl
      | cons l c ih =>
        have hk := hok l List.mem_cons_self
        have h0 := hk.s0
        have h1 := hk.s1
        have me := mean_error_eq l hk
        have s1 : Sk 1 (l.1 : Rat) := Sk_int (by rcases hk.sg with e | e <;> rw [e] <;> decide) (by decide)
        have s2 : Sk 10 (l.2.1 : Rat) := Sk_int (by omega) (by decide)
        have s3 := s2.add (meE_sk l hk)
        have pl := plus_eq (l.2.1 : Rat) (meE l.2.2) (s2.sq (by decide)) ((meE_sk l hk).sq (by decide))
        have ti := times_eq (l.1 : Rat) _ (s1.sq (by decide)) (s3.sq (by decide))
        have ih' := ih (fun m hm => sk m (List.mem_cons_of_mem _ hm)) (fun m hm => hok m (List.mem_cons_of_mem _ hm))
        rw [List.map_cons, List.map_cons, List.map_cons, lcL]
        simp only [ih']
        simp only [wipeE, linkD, gT_s, gsCons_s, gsNil_s, gN_s, bYes_s, dCall_s, lCons_s, lNil_s, mkT_s, vR_s, kD_s, List.foldl_cons, List.foldl_nil, List.set_cons_zero, List.set_cons_succ, List.length_cons, List.length_nil, Option.bind_some, if_true, List.getElem?_cons_zero, List.getElem?_cons_succ, me, e_plus, e_times, int_fr, pl, ti, Nat.reduceLeDiff, Nat.reduceAdd]
    have h7 : (c.map fun l => (l.1 : Rat) * ((l.2.1 : Rat) + meE l.2.2)).length ≤ 1000000 := by rw [List.length_map]; omega
    simp only [iSeq_s, vR_s, List.getElem?_cons_zero, Option.bind_some, chD, seqOf_l]
    have hl' : lcL (gT (gsCons (gN 1) (gsCons (gN 2) (gsCons (gN 3) gsNil))) 3) bYes (dCall (lCons (mkT (lCons (vR 1) (lCons (kD (.int 1)) lNil))) (lCons (dCall (lCons (mkT (lCons (vR 2) (lCons (kD (.int 1)) lNil))) (lCons (dCall (lCons (vR 3) lNil) f_mean_error) lNil)) f_plus) lNil)) f_times) (wipeE [.fz (.list (c.map linkD)), .no, .no, .no] [1, 2, 3]) (c.map linkD) = some ((c.map fun l => (l.1 : Rat) * ((l.2.1 : Rat) + meE l.2.2)).map frD) := hl
    rw [hl']
    simp [h6]
    omega
  simp only [sRet_s, dCall_s, lCons_s, lNil_s, c1, Option.bind_some, e_total, tot]
  rfl
theorem spread_of_eq (l : Link) (h : LOk l) : f_spread_of [errD l.2.2] = some (frD (spE l.2.2)) ∧ Sk 157 (spE l.2.2) := by
  have hb := nE_b l.2.2 h.er
  have h1 := h.n1
  have h2 := h.n2
  have sk : ∀ p ∈ l.2.2, Sk 9 (((p.2 : Int) : Rat) / ((nE l.2.2 : Int) : Rat)) ∧ Sk 21 ((p.1 : Rat) - meE l.2.2) := fun p hp => by
    obtain ⟨p1, p2, p3, p4⟩ := h.er p hp
    refine ⟨Sk_div (by omega) (by omega) (by omega), ?_⟩
    have s2 : Sk 6 (p.1 : Rat) := Sk_int (by omega) (by decide)
    rw [Rat.sub_eq_add_neg]
    exact s2.add (meE_sk l h).neg
  have sk2 : ∀ q ∈ (l.2.2.map fun p => ((p.2 : Int) : Rat) / ((nE l.2.2 : Int) : Rat) * (((p.1 : Rat) - meE l.2.2) * ((p.1 : Rat) - meE l.2.2))), Sk 51 q := fun q hq => by
    obtain ⟨p, hp, rfl⟩ := List.mem_map.mp hq
    obtain ⟨k1, k2⟩ := sk p hp
    exact k1.mul (k2.mul k2)
  have tot := total_sk _ (n := 51) sk2 (by rw [List.length_map]; omega) (by decide)
  refine ⟨?_, (Sk_sum _ sk2).le (by rw [List.length_map]; omega)⟩
  unfold f_spread_of D_spread_of
  refine run_seq (ρ' := [.fz (errD l.2.2), .fz (frD (meE l.2.2)), .no, .no, .no, .no, .no, .no]) (by simp [mean_error_eq l h]) ?_
  have c2 : dLc (iSeq (vR 0)) (gT (gsCons (gN 7) (gsCons (gN 5) gsNil)) 2) bYes (vR 5) [7, 5] [.fz (errD l.2.2), .fz (frD (meE l.2.2)), .no, .no, .no, .no, .no, .no] = some (.list ((l.2.2.map fun p => p.2).map .int)) := by
    refine dLc_of (ds := l.2.2.map pD) (by simp [errD]) ?_ (by simp; omega)
    rw [lcL_all (fun d => match d with | .tuple [.int a, .int b] => .int b | _ => .none)]
    · rw [List.map_map, List.map_map]; rfl
    · intro d hd
      obtain ⟨p, hp, rfl⟩ := List.mem_map.mp hd
      exact ⟨_, by simp [pD]; rfl, by simp [wipeE, pD]⟩
  rw [sSeq_nx (ρ' := [.fz (errD l.2.2), .fz (frD (meE l.2.2)), .fz (.int (nE l.2.2)), .no, .no, .no, .no, .no]) (by
    simp only [sSet_s, d1_s, c2, Option.bind_some, sumD, intsOf_map]
    rfl)]
  rw [sSeq_nx (ρ' := [.fz (errD l.2.2), .fz (frD (meE l.2.2)), .fz (.int (nE l.2.2)), .ow (.list []), .no, .no, .no, .no]) (by simp)]
  obtain ⟨ρ', g1, g2⟩ := sFor_ok (fi := iSeq (vR 0)) (g := gT (gsCons (gN 4) (gsCons (gN 5) gsNil)) 2) (fb := sSeq (sSet 6 (dCall (lCons (mkT (lCons (vR 4) (lCons (kD (.int 1)) lNil))) (lCons (vR 1) lNil)) f_minus)) (sApp 3 (dCall (lCons (dCall (lCons (vR 5) (lCons (vR 2) lNil)) f_fraction) (lCons (dCall (lCons (vR 6) (lCons (vR 6) lNil)) f_times) lNil)) f_times)))
    (ρ := [.fz (errD l.2.2), .fz (frD (meE l.2.2)), .fz (.int (nE l.2.2)), .ow (.list []), .no, .no, .no, .no]) (ds := l.2.2.map pD)
    (fun j ρ => ∃ s4 s5 s6, ρ = [.fz (errD l.2.2), .fz (frD (meE l.2.2)), .fz (.int (nE l.2.2)), .ow (.list (((l.2.2.take j).map fun p => ((p.2 : Int) : Rat) / ((nE l.2.2 : Int) : Rat) * (((p.1 : Rat) - meE l.2.2) * ((p.1 : Rat) - meE l.2.2))).map frD)), s4, s5, s6, .no])
    (by simp [errD]) ⟨.no, .no, .no, rfl⟩ (fun j d ρ hd ⟨s4, s5, s6, hρ⟩ => by
      rw [List.getElem?_map, Option.map_eq_some_iff] at hd
      obtain ⟨p, hp, rfl⟩ := hd
      subst hρ
      have hpm := List.mem_of_getElem? hp
      obtain ⟨p1, p2, p3, p4⟩ := h.er p hpm
      obtain ⟨k1, k2⟩ := sk p hpm
      have s2 : Sk 6 (p.1 : Rat) := Sk_int (by omega) (by decide)
      have mi := minus_eq (p.1 : Rat) (meE l.2.2) (s2.sq (by decide)) ((meE_sk l h).sq (by decide))
      have fr := fraction_eq p.2 (nE l.2.2) (by omega) (by
        have : (nE l.2.2).natAbs < 2 ^ 10 := by omega
        exact Nat.lt_of_lt_of_le this (Nat.pow_le_pow_right (by decide) (by decide)))
      have t1 := times_eq _ _ (k2.sq (by decide)) (k2.sq (by decide))
      have t2 := times_eq _ _ (k1.sq (by decide)) ((k2.mul k2).sq (by decide))
      refine ⟨_, _, by simp [pD]; rfl, ?_, _, .inl rfl, .fz (.int p.1), .fz (.int p.2), .fz (frD ((p.1 : Rat) - meE l.2.2)), rfl⟩
      rw [sSeq_nx (ρ' := [.fz (errD l.2.2), .fz (frD (meE l.2.2)), .fz (.int (nE l.2.2)), .ow (.list (((l.2.2.take j).map fun p => ((p.2 : Int) : Rat) / ((nE l.2.2 : Int) : Rat) * (((p.1 : Rat) - meE l.2.2) * ((p.1 : Rat) - meE l.2.2))).map frD)), .fz (.int p.1), .fz (.int p.2), .fz (frD ((p.1 : Rat) - meE l.2.2)), .no]) (by simp [int_fr, e_minus, mi])]
      have hlen : (((l.2.2.take j).map fun p => ((p.2 : Int) : Rat) / ((nE l.2.2 : Int) : Rat) * (((p.1 : Rat) - meE l.2.2) * ((p.1 : Rat) - meE l.2.2))).map frD).length < 1000000 := by
        rw [List.length_map, List.length_map, List.length_take]
        omega
      simp only [sApp_s, dCall_s, lCons_s, lNil_s, vR_s, owL_s, List.getElem?_cons_zero, List.getElem?_cons_succ, Option.bind_some, e_fraction, e_times, fr, t1, t2, hlen, if_true, List.set_cons_zero, List.set_cons_succ]
      rw [List.take_add_one, hp]
      simp)
  obtain ⟨s4, s5, s6, rfl⟩ := g2
  rw [sSeq_nx g1]
  have ht : l.2.2.take (l.2.2.map pD).length = l.2.2 := by simp
  rw [ht]
  simp only [sFrz_s, frz_s, List.getElem?_cons_zero, List.getElem?_cons_succ, List.set_cons_zero, List.set_cons_succ, sRet_s, dCall_s, lCons_s, lNil_s, vR_s, Option.bind_some, e_total, tot]
  rfl
theorem spread_eq (c : List Link) (h : COk c) : f_spread [chD c] = some (frD (spQ c)) ∧ Sk 949 (spQ c) := by
  have h6 := h.n2
  have sk : ∀ q ∈ (c.map fun l => spE l.2.2), Sk 157 q := fun q hq => by
    obtain ⟨l, hl, rfl⟩ := List.mem_map.mp hq
    exact (spread_of_eq l (h.ok l hl)).2
  have tot := total_sk _ (n := 157) sk (by rw [List.length_map]; omega) (by decide)
  refine ⟨?_, (Sk_sum _ sk).le (by rw [List.length_map]; omega)⟩
  unfold f_spread D_spread
  refine run_seq (ρ' := [.fz (chD c), .no, .no]) (by simp [check_eq c h]) ?_
  have c1 : dLc (iSeq (vR 0)) (gT (gsCons (gN 1) (gsCons (gN 1) (gsCons (gN 2) gsNil))) 3) bYes (dCall (lCons (vR 2) lNil) f_spread_of) [1, 2] [.fz (chD c), .no, .no] = some (.list ((c.map fun l => spE l.2.2).map frD)) := by
    refine dLc_of (ds := c.map linkD) (by simp [chD]) ?_ (by simp; omega)
    have hok := h.ok
    clear h6 tot h
    generalize chD c = S
    induction c with
    | nil => rfl
    | cons l c ih =>
      have hk := hok l List.mem_cons_self
      have me := (spread_of_eq l hk).1
      have ih' := ih (fun q hq => sk q (List.mem_cons_of_mem _ hq)) (fun m hm => hok m (List.mem_cons_of_mem _ hm))
      rw [List.map_cons, List.map_cons, List.map_cons, lcL]
      simp only [ih']
      simp only [wipeE, linkD, gT_s, gsCons_s, gsNil_s, gN_s, bYes_s, dCall_s, lCons_s, lNil_s, vR_s, List.foldl_cons, List.foldl_nil, List.set_cons_zero, List.set_cons_succ, List.length_cons, List.length_nil, Option.bind_some, if_true, List.getElem?_cons_zero, List.getElem?_cons_succ, me, Nat.reduceAdd]
  simp only [sRet_s, dCall_s, lCons_s, lNil_s, c1, Option.bind_some, e_total, tot]
  rfl
end Zx.k61
/-! Q5: ends, share, the law's chains. -/
namespace Zx.k61
open PySem PySem.Spec L2 Zx
theorem last_ok (E : Err) (h : 1 ≤ E.length) : ∃ p, E ≠ [] ∧ p ∈ E ∧ hiE E = p.1 ∧ atI (E.map pD) (-1) = some (pD p) := by
  have hl : E.getLast? = E[E.length - 1]? := List.getLast?_eq_getElem?
  have hlt : E.length - 1 < E.length := by omega
  refine ⟨E[E.length - 1], by intro z; subst z; simp at h, List.getElem_mem _, ?_, ?_⟩
  · unfold hiE
    rw [hl, List.getElem?_eq_getElem hlt]
  · unfold atI ixN
    have e : ((-1 : Int) + (E.length : Int)).toNat = E.length - 1 := by omega
    have h2 : -(E.length : Int) ≤ -1 := by omega
    rw [List.length_map, if_neg (by decide), if_pos h2, Option.bind_some, e, List.getElem?_map, List.getElem?_eq_getElem hlt]
    rfl
theorem first_ok (E : Err) (h : 1 ≤ E.length) : ∃ p, p ∈ E ∧ loE E = p.1 ∧ atI (E.map pD) 0 = some (pD p) := by
  cases E with
  | nil => simp at h
  | cons p E => exact ⟨p, List.mem_cons_self, rfl, by simp⟩
theorem ends_eq (c : List Link) (h : COk c) : f_ends [chD c] = some (.tuple [.int (loC c), .int (hiC c)]) := by
  have h6 := h.n2
  unfold f_ends D_ends
  refine run_seq (ρ' := [.fz (chD c), .no, .no, .no, .no, .no]) (by simp [check_eq c h]) ?_
  have hone : ∀ l ∈ c, ∀ S s1 s2, ∃ ρ1, gT (gsCons (gN 3) (gsCons (gN 4) (gsCons (gN 5) gsNil))) 3 (linkD l) [S, s1, s2, .no, .no, .no] = some ρ1 ∧
      d2 minD2 (d2 mulI (vR 3) (d2 addD (vR 4) (d2 ixD (d2 ixD (vR 5) (kD (.int 0))) (kD (.int 0))))) (d2 mulI (vR 3) (d2 addD (vR 4) (d2 ixD (d2 ixD (vR 5) (d1 negD (kD (.int 1)))) (kD (.int 0))))) ρ1 = some (.int (loL l)) ∧
      d2 maxD2 (d2 mulI (vR 3) (d2 addD (vR 4) (d2 ixD (d2 ixD (vR 5) (kD (.int 0))) (kD (.int 0))))) (d2 mulI (vR 3) (d2 addD (vR 4) (d2 ixD (d2 ixD (vR 5) (d1 negD (kD (.int 1)))) (kD (.int 0))))) ρ1 = some (.int (hiL l)) := fun l hl S s1 s2 => by
    have hk := h.ok l hl
    have h0 := hk.s0
    have h1 := hk.s1
    obtain ⟨p, p1, p2, p3⟩ := first_ok l.2.2 hk.n1
    obtain ⟨q, _, q1, q2, q3⟩ := last_ok l.2.2 hk.n1
    obtain ⟨a1, a2, _, _⟩ := hk.er p p1
    obtain ⟨b1, b2, _, _⟩ := hk.er q q1
    have sg : l.1.natAbs < 2 ^ 64 := by rcases hk.sg with e | e <;> rw [e] <;> decide
    have m1 : mulOk l.1 (l.2.1 + p.1) = true := mulOk64 sg (by omega)
    have m2 : mulOk l.1 (l.2.1 + q.1) = true := mulOk64 sg (by omega)
    refine ⟨[S, s1, s2, .fz (.int l.1), .fz (.int l.2.1), .fz (errD l.2.2)], by simp [linkD], ?_, ?_⟩
    · unfold loL
      rw [p2, q2]
      simp [errD, p3, q3, pD, m1, m2]
    · unfold hiL
      rw [p2, q2]
      simp [errD, p3, q3, pD, m1, m2]
  have c1 : ∀ fe : Den, ∀ v : Link → Int, ∀ s1 s2, (∀ l ∈ c, ∃ ρ1, gT (gsCons (gN 3) (gsCons (gN 4) (gsCons (gN 5) gsNil))) 3 (linkD l) [.fz (chD c), s1, s2, .no, .no, .no] = some ρ1 ∧ fe ρ1 = some (.int (v l))) →
      dLc (iSeq (vR 0)) (gT (gsCons (gN 3) (gsCons (gN 4) (gsCons (gN 5) gsNil))) 3) bYes fe [3, 4, 5] [.fz (chD c), s1, s2, .no, .no, .no] = some (.list ((c.map v).map .int)) := by
    intro fe v s1 s2 hv
    refine dLc_of (ds := c.map linkD) (by simp [chD]) ?_ (by simp; omega)
    revert hv
    have hw : wipeE [.fz (chD c), s1, s2, .no, .no, .no] [3, 4, 5] = [.fz (chD c), s1, s2, .no, .no, .no] := by simp [wipeE]
    rw [hw]
    clear hw h6 hone h
    generalize chD c = S
    intro hv
    induction c with
    | nil => rfl
    | cons l c ih =>
      obtain ⟨ρ1, e1, e2⟩ := hv l List.mem_cons_self
      have ih' := ih fun m hm => hv m (List.mem_cons_of_mem _ hm)
      rw [List.map_cons, List.map_cons, List.map_cons, lcL, e1, ih']
      simp only [Option.bind_some, bYes_s, if_true, e2]
  rw [sSeq_nx (ρ' := [.fz (chD c), .fz (.list ((c.map loL).map .int)), .no, .no, .no, .no]) (by
    rw [sLcSet_s, c1 _ loL _ _ fun l hl => ?_]
    · rfl
    · obtain ⟨ρ1, e1, e2, e3⟩ := hone l hl (.fz (chD c)) .no .no
      exact ⟨ρ1, e1, e2⟩)]
  rw [sSeq_nx (ρ' := [.fz (chD c), .fz (.list ((c.map loL).map .int)), .fz (.list ((c.map hiL).map .int)), .no, .no, .no]) (by
    rw [sLcSet_s, c1 _ hiL _ _ fun l hl => ?_]
    · rfl
    · obtain ⟨ρ1, e1, e2, e3⟩ := hone l hl (.fz (chD c)) (.fz (.list ((c.map loL).map .int))) .no
      exact ⟨ρ1, e1, e3⟩)]
  simp only [sRet_s, mkT_s, lCons_s, lNil_s, d1_s, vR_s, List.getElem?_cons_zero, List.getElem?_cons_succ, Option.bind_some, sumD, intsOf_map]
  rfl
theorem mu_one6 (c : List Link) (h : COk c) : (mu c fun _ => 1) < 2 ^ 64 := by
  have := (mu_one c h.ok).2
  have := pow300 c.length h.n2
  omega
theorem share_eq (c : List Link) (h : COk c) (a b : Int) (hab : a ≤ b) : f_share [chD c, .int a, .int b] = some (frD (shQ c a b)) ∧ Sk 64 (shQ c a b) := by
  obtain ⟨l, w1, w2, w3, w4, w5⟩ := ways_of_eq c h
  have hm6 := mu_one6 c h
  have hp := mu_pos c h.ok
  obtain ⟨i1, i2⟩ := in_le c h.ok (inD a b) fun x => by unfold inD; split <;> omega
  refine ⟨?_, Sk_div (by omega) (by omega) hp⟩
  have hl : l.length ≤ 1000 := Nat.le_trans w4 (pow3 _ h.n2)
  unfold f_share D_share
  refine run_seq (ρ' := [.fz (chD c), .fz (.int a), .fz (.int b), .no, .no, .no]) (by simp [check_eq c h]) ?_
  have hnab : ¬ b < a := by omega
  rw [sSeq_nx (ρ' := [.fz (chD c), .fz (.int a), .fz (.int b), .no, .no, .no]) (by
    rw [sIf_f (by simp [hnab])]
    rfl)]
  rw [sSeq_nx (ρ' := [.fz (chD c), .fz (.int a), .fz (.int b), .fz (zD l), .no, .no]) (by simp [w1])]
  have c1 : dLc (iItemsJ 3) (gT (gsCons (gN 4) (gsCons (gN 5) gsNil)) 2) (bCh leI leI (vR 1) (vR 4) (vR 2)) (vR 5) [4, 5] [.fz (chD c), .fz (.int a), .fz (.int b), .fz (zD l), .no, .no] =
      some (.list (((l.filter fun p => decide (a ≤ p.1 ∧ p.1 ≤ b)).map fun p => p.2).map .int)) := by
    refine dLc_of (ds := l.map pD) (itemsE PyData.int _ 3 l rfl) ?_ ?_
    · have hw : wipeE [.fz (chD c), .fz (.int a), .fz (.int b), .fz (zD l), .no, .no] [4, 5] = [.fz (chD c), .fz (.int a), .fz (.int b), .fz (zD l), .no, .no] := by simp [wipeE]
      rw [hw]
      generalize zD l = Z
      clear w1 w2 w3 w4 w5 hl hw
      induction l with
      | nil => rfl
      | cons p l ih =>
        rw [List.map_cons, lcL, ih]
        by_cases h1 : a ≤ p.1
        · by_cases h2 : p.1 ≤ b
          · simp [pD, h1, h2]
          · simp [pD, h1, h2]
        · simp [pD, h1]
    · rw [List.length_map, List.length_map]
      have := List.length_filter_le (fun p : Int × Int => decide (a ≤ p.1 ∧ p.1 ≤ b)) l
      omega
  have e1 : ((l.filter fun p => decide (a ≤ p.1 ∧ p.1 ≤ b)).map fun p => p.2).sum = mu c (inD a b) := by
    rw [← w5]
    clear w1 w2 w3 w4 w5 hl c1
    induction l with
    | nil => rfl
    | cons p l ih =>
      rw [sumZ_cons, ← ih]
      by_cases hq : a ≤ p.1 ∧ p.1 ≤ b
      · rw [List.filter_cons_of_pos (by simpa using hq), List.map_cons, List.sum_cons]
        unfold inD
        rw [if_pos hq]
        omega
      · rw [List.filter_cons_of_neg (by simpa using hq)]
        unfold inD
        rw [if_neg hq]
        omega
  have e2 : sumVD (zD l) = some (.int (mu c fun _ => 1)) := by
    rw [← w5]
    unfold sumVD zD adE
    simp only [notMkE, if_true]
    have : (kdE PyData.int l).map (·.2) = (l.map fun p => p.2).map .int := by
      unfold kdE
      rw [List.map_map, List.map_map]
      rfl
    rw [this, intsOf_map]
    have : (l.map fun p => p.2).sum = sumZ (fun _ => 1) l := by
      unfold sumZ
      simp
    rw [Option.bind_some, this]
  have fr := fraction_eq (mu c (inD a b)) (mu c fun _ => 1) (by omega) (Nat.lt_of_lt_of_le (show _ < 2 ^ 64 by omega) (Nat.pow_le_pow_right (by decide) (by decide)))
  simp only [sRet_s, dCall_s, lCons_s, lNil_s, d1_s, c1, Option.bind_some, sumD, intsOf_map, e1, vR_s, List.getElem?_cons_zero, List.getElem?_cons_succ, e2, e_fraction, fr]
  rfl
end Zx.k61
/-! Q6: the law's chains, what becomes of them; dicts of the law. -/
namespace Zx.k61
open PySem PySem.Spec L2 Zx
/-- the links that the law draws -/
structure SOk (l : Link) : Prop where
  sg : l.1 = 1 ∨ l.1 = -1
  s0 : 0 ≤ l.2.1
  s1 : l.2.1 ≤ 29
  n1 : 1 ≤ l.2.2.length
  n2 : l.2.2.length ≤ 3
  er : ∀ p ∈ l.2.2, -5 ≤ p.1 ∧ p.1 ≤ 5 ∧ 1 ≤ p.2 ∧ p.2 ≤ 4
  up : l.2.2.Pairwise fun p q => p.1 < q.1
theorem SOk.l {l : Link} (h : SOk l) : LOk l := ⟨h.sg, h.s0, by have := h.s1; omega, h.n1, h.n2, fun p hp => by have := h.er p hp; omega, h.up⟩
theorem SOk.ng {l : Link} (h : SOk l) : LOk (ngL l) := ⟨by show -l.1 = 1 ∨ -l.1 = -1; rcases h.sg with e | e <;> omega, h.s0, by have := h.s1; show l.2.1 ≤ _; omega, h.n1, h.n2, fun p hp => by have := h.er p hp; omega, h.up⟩
theorem SOk.mv {l : Link} (h : SOk l) (t : Int) (h0 : 0 ≤ t) (h1 : t < 50) : LOk (mvL t l) := ⟨h.sg, by have := h.s0; show 0 ≤ l.2.1 + t; omega, by have := h.s1; show l.2.1 + t ≤ _; omega, h.n1, h.n2, fun p hp => by have := h.er p hp; omega, h.up⟩
theorem SOk.sc {l : Link} (h : SOk l) (t : Int) (h0 : 2 ≤ t) (h1 : t ≤ 4) : LOk (scL t l) := by
  have e0 := h.s0
  have e1 := h.s1
  have ht : t = 2 ∨ t = 3 ∨ t = 4 := by omega
  refine ⟨h.sg, ?_, ?_, by show 1 ≤ (l.2.2.map _).length; rw [List.length_map]; exact h.n1, by show (l.2.2.map _).length ≤ 3; rw [List.length_map]; exact h.n2, fun p hp => ?_, ?_⟩
  · show 0 ≤ t * l.2.1
    exact Int.mul_nonneg (by omega) e0
  · show t * l.2.1 ≤ 1000
    rcases ht with e | e | e <;> rw [e] <;> omega
  · obtain ⟨q, hq, rfl⟩ := List.mem_map.mp hp
    have := h.er q hq
    dsimp only
    rcases ht with e | e | e <;> rw [e] <;> omega
  · show (l.2.2.map _).Pairwise _
    rw [List.pairwise_map]
    refine h.up.imp fun {a b} hab => ?_
    rcases ht with e | e | e <;> rw [e] <;> dsimp only <;> omega
theorem SOk.mn {l : Link} (h : SOk l) (t : Int) (h0 : 2 ≤ t) (h1 : t ≤ 4) : LOk (mnL t l) := by
  have e0 := h.s0
  have e1 := h.s1
  have ht : t = 2 ∨ t = 3 ∨ t = 4 := by omega
  refine ⟨h.sg, h.s0, by show l.2.1 ≤ _; omega, by show 1 ≤ (l.2.2.map _).length; rw [List.length_map]; exact h.n1, by show (l.2.2.map _).length ≤ 3; rw [List.length_map]; exact h.n2, fun p hp => ?_, ?_⟩
  · obtain ⟨q, hq, rfl⟩ := List.mem_map.mp hp
    have := h.er q hq
    dsimp only
    rcases ht with e | e | e <;> rw [e] <;> omega
  · show (l.2.2.map _).Pairwise _
    rw [List.pairwise_map]
    exact h.up
/-! mean and spread of what becomes of a chain -/
theorem mnQ_append (c d : List Link) : mnQ (c ++ d) = mnQ c + mnQ d := by simp [mnQ, List.sum_append]
theorem spQ_append (c d : List Link) : spQ (c ++ d) = spQ c + spQ d := by simp [spQ, List.sum_append]
theorem spQ_ng (c : List Link) : spQ (c.map ngL) = spQ c := by
  unfold spQ
  rw [List.map_map]
  rfl
theorem spQ_mv (t : Int) (l : Link) (c : List Link) : spQ (mvL t l :: c) = spQ (l :: c) := rfl
theorem mnQ_ng (c : List Link) : mnQ (c.map ngL) = -1 * mnQ c := by
  unfold mnQ
  rw [List.map_map]
  induction c with
  | nil => simp [Rat.mul_zero]
  | cons l c ih =>
    rw [List.map_cons, List.map_cons, List.sum_cons, List.sum_cons, ih]
    show ((-l.1 : Int) : Rat) * ((l.2.1 : Rat) + meE l.2.2) + _ = _
    rw [Rat.intCast_neg]
    grind
theorem nE_sc (t : Int) (E : Err) : nE (E.map fun p => (t * p.1, p.2)) = nE E := by
  unfold nE
  rw [List.map_map]
  rfl
theorem enE_sc (t : Int) (E : Err) : enE (E.map fun p => (t * p.1, p.2)) = t * enE E := by
  unfold enE
  induction E with
  | nil => simp
  | cons p E ih =>
    rw [List.map_cons, List.map_cons, List.sum_cons, ih, List.map_cons, List.sum_cons, Int.mul_add, Int.mul_assoc]
theorem meE_sc (t : Int) (E : Err) : meE (E.map fun p => (t * p.1, p.2)) = (t : Rat) * meE E := by
  unfold meE
  rw [nE_sc, enE_sc, Rat.intCast_mul]
  grind
theorem mnQ_sc (t : Int) (c : List Link) : mnQ (c.map (scL t)) = (t : Rat) * mnQ c := by
  unfold mnQ
  rw [List.map_map]
  induction c with
  | nil => simp [Rat.mul_zero]
  | cons l c ih =>
    rw [List.map_cons, List.map_cons, List.sum_cons, List.sum_cons, ih]
    show (l.1 : Rat) * (((t * l.2.1 : Int) : Rat) + meE (l.2.2.map fun p => (t * p.1, p.2))) + _ = _
    rw [meE_sc, Rat.intCast_mul]
    grind
theorem spE_sc (t : Int) (E : Err) : spE (E.map fun p => (t * p.1, p.2)) = ((t * t : Int) : Rat) * spE E := by
  have key : ∀ (F : Err) (n m : Rat), ((F.map fun p => (t * p.1, p.2)).map fun p => ((p.2 : Int) : Rat) / n * (((p.1 : Rat) - (t : Rat) * m) * ((p.1 : Rat) - (t : Rat) * m))).sum = ((t * t : Int) : Rat) * (F.map fun p => ((p.2 : Int) : Rat) / n * (((p.1 : Rat) - m) * ((p.1 : Rat) - m))).sum := by
    intro F n m
    induction F with
    | nil => simp [Rat.mul_zero]
    | cons p F ih =>
      rw [List.map_cons, List.map_cons, List.sum_cons, List.map_cons, List.sum_cons, ih]
      dsimp only
      rw [Rat.intCast_mul, Rat.intCast_mul]
      grind
  unfold spE
  rw [nE_sc, meE_sc]
  exact key E _ _
theorem spQ_sc (t : Int) (c : List Link) : spQ (c.map (scL t)) = ((t * t : Int) : Rat) * spQ c := by
  unfold spQ
  rw [List.map_map]
  induction c with
  | nil => simp [Rat.mul_zero]
  | cons l c ih =>
    rw [List.map_cons, List.map_cons, List.sum_cons, List.sum_cons, ih]
    show spE (l.2.2.map fun p => (t * p.1, p.2)) + _ = _
    rw [spE_sc]
    grind
theorem mnQ_sk (c : List Link) (h : COk c) : Sk 163 (mnQ c) := by
  have h6 := h.n2
  refine (Sk_sum (n := 26) _ fun q hq => ?_).le (by rw [List.length_map]; omega)
  obtain ⟨l, hl, rfl⟩ := List.mem_map.mp hq
  have hk := h.ok l hl
  have h0 := hk.s0
  have h1 := hk.s1
  have s1 : Sk 1 (l.1 : Rat) := Sk_int (by rcases hk.sg with e | e <;> rw [e] <;> decide) (by decide)
  have s2 : Sk 10 (l.2.1 : Rat) := Sk_int (by omega) (by decide)
  exact s1.mul (s2.add (meE_sk l hk))
/-! dict([..]) of pairs with different keys -/
theorem dOf_nd : ∀ (m acc : Zd), NDk (acc ++ m) → dOf (m.map pD) (kdE PyData.int acc) = some (kdE PyData.int (acc ++ m))
  | [], acc, _ => by simp [dOf]
  | p :: m, acc, h => by
    have hk : acc.any (fun q => q.1 == p.1) = false := by
      rw [Bool.eq_false_iff]
      intro hz
      obtain ⟨q, hq, e⟩ := List.any_eq_true.mp hz
      unfold NDk at h
      rw [List.map_append, List.map_cons, List.nodup_append] at h
      exact h.2.2 q.1 (List.mem_map.mpr ⟨q, hq, rfl⟩) p.1 List.mem_cons_self (by simpa using e)
    rw [List.map_cons]
    show ((keyOf (.int p.1)).bind fun _ => dOf (m.map pD) (dPut (kdE PyData.int acc) (.int p.1) (.int p.2))) = _
    rw [keyOfI, Option.bind_some, dPutE]
    have : putE acc p.1 p.2 = acc ++ [p] := by
      unfold putE
      rw [hk]
      rfl
    rw [this, dOf_nd m (acc ++ [p]) (by simpa using h)]
    simp
theorem dictD_nd (m : Zd) (h : NDk m) : dictD (.list (m.map pD)) = some (zD m) := by
  have := dOf_nd m [] (by simpa using h)
  rw [show (kdE PyData.int ([] : Zd)) = [] from rfl] at this
  show (dOf (m.map pD) []).bind (fun kds => some (PyData.dict kds)) = _
  rw [this]
  rfl
/-- a dict with its keys changed one to one -/
theorem nd_map (l : Zd) (f : Int → Int) (hf : ∀ a b, f a = f b → a = b) (h : NDk l) : NDk (l.map fun p => (f p.1, p.2)) := by
  unfold NDk at *
  rw [List.map_map]
  have : ((fun p : Int × Int => p.1) ∘ fun p : Int × Int => (f p.1, p.2)) = f ∘ fun p : Int × Int => p.1 := rfl
  rw [this, ← List.map_map]
  generalize l.map (fun p : Int × Int => p.1) = ks at h
  induction ks with
  | nil => exact List.nodup_nil
  | cons k ks ih =>
    rw [List.nodup_cons] at h
    rw [List.map_cons, List.nodup_cons]
    refine ⟨fun hz => ?_, ih h.2⟩
    obtain ⟨j, hj, e⟩ := List.mem_map.mp hz
    exact h.1 (hf _ _ e ▸ hj)
theorem sumZ_map (l : Zd) (f G : Int → Int) : sumZ G (l.map fun p => (f p.1, p.2)) = sumZ (fun x => G (f x)) l := by
  unfold sumZ
  rw [List.map_map]
  rfl
theorem pos_map {l : Zd} (f : Int → Int) (h : Pos l) : Pos (l.map fun p => (f p.1, p.2)) := fun p hp => by
  obtain ⟨q, hq, rfl⟩ := List.mem_map.mp hp
  exact h q hq
/-- the comprehension over its keys -/
theorem keys_lc (fe : Den) (f : Int → Int) (ρ : Env) (l : Zd) (nd : NDk l) (hl : l.length ≤ 1000) (h5 : ρ[5]? = some (.fz (zD l))) (hlen : ρ.length = 32)
    (hfe : ∀ p ∈ l, fe ((wipeE ρ [31]).set 31 (.fz (.int p.1))) = some (.int (f p.1))) :
    dLc (iKeysJ 5) (gN 31) bYes (mkT (lCons fe (lCons (d2 dgetD (vR 5) (vR 31)) lNil))) [31] ρ = some (.list ((l.map fun p => (f p.1, p.2)).map pD)) := by
  refine dLc_of (ds := l.map fun p => .int p.1) (keysE PyData.int ρ 5 l h5) ?_ (by simp; omega)
  have key : ∀ m : Zd, (∀ p ∈ m, p ∈ l) → lcL (gN 31) bYes (mkT (lCons fe (lCons (d2 dgetD (vR 5) (vR 31)) lNil))) (wipeE ρ [31]) (m.map fun p => .int p.1) = some ((m.map fun p => (f p.1, p.2)).map pD) := by
    intro m
    induction m with
    | nil => intro _; rfl
    | cons p m ih =>
      intro hm
      have hp := hm p List.mem_cons_self
      have hg := dgetE PyData.int l p.1
      rw [getE_of nd hp] at hg
      have e5 : ((wipeE ρ [31]).set 31 (.fz (.int p.1)))[5]? = some (.fz (zD l)) := by simp [wipeE, h5]
      have e31 : ((wipeE ρ [31]).set 31 (.fz (.int p.1)))[31]? = some (.fz (.int p.1)) := by simp [wipeE, hlen]
      rw [List.map_cons, List.map_cons, List.map_cons, lcL, ih fun q hq => hm q (List.mem_cons_of_mem _ hq)]
      simp only [gN_s, bYes_s, Option.bind_some, if_true, mkT_s, lCons_s, lNil_s, hfe p hp, d2_s, vR_s, e5, e31]
      have hg' : dgetD (zD l) (.int p.1) = some (.int p.2) := hg
      rw [hg']
      rfl
  exact key l fun p hp => hp
end Zx.k61
/-! Q7: the law's chain as drawn; the dict that is due. -/
namespace Zx.k61
open PySem PySem.Spec L2 Zx
theorem lcL_ex {α : Type} (enc : α → D) (P : α → Prop) {g : DenG} {fe : Den} {ρ : Env} : ∀ (ds : List D), (∀ d ∈ ds, ∃ ρ1 x, g d ρ = some ρ1 ∧ fe ρ1 = some (enc x) ∧ P x) → ∃ xs : List α, lcL g bYes fe ρ ds = some (xs.map enc) ∧ xs.length = ds.length ∧ ∀ x ∈ xs, P x
  | [], _ => ⟨[], rfl, rfl, fun x hx => by cases hx⟩
  | d :: ds, h => by
    obtain ⟨ρ1, x, h1, h2, h3⟩ := h d List.mem_cons_self
    obtain ⟨xs, i1, i2, i3⟩ := lcL_ex enc P ds fun y hy => h y (List.mem_cons_of_mem _ hy)
    refine ⟨x :: xs, ?_, by simp [i2], fun y hy => ?_⟩
    · rw [lcL, h1, i1]
      simp [h2]
    · rcases List.mem_cons.mp hy with rfl | hy
      · exact h3
      · exact i3 y hy
theorem sIns_len (k : Int) : ∀ xs : List Int, (sIns k xs).length ≤ xs.length + 1 ∧ 1 ≤ (sIns k xs).length
  | [] => by simp [sIns]
  | x :: xs => by
    obtain ⟨i1, i2⟩ := sIns_len k xs
    unfold sIns
    split
    · simp
    · split
      · simp
      · simp only [List.length_cons]
        omega
theorem setSort_len : ∀ ks : List Int, (setSort ks).length ≤ ks.length
  | [] => Nat.le_refl _
  | k :: ks => by
    have := sIns_len k (setSort ks)
    have := setSort_len ks
    unfold setSort
    rw [List.length_cons]
    omega
theorem setSort_pos {ks : List Int} (h : 1 ≤ ks.length) : 1 ≤ (setSort ks).length := by
  cases ks with
  | nil => simp at h
  | cons k ks => exact (sIns_len k (setSort ks)).2
noncomputable abbrev chB : DenS := (sSeq (sSet 5 (d2 addD (d2 addD (vR 1) (kD (.int 1))) (d2 mulI (kD (.int 12)) (vR 4))))
   (sSeq (sOwn 6 (mkL lNil))
   (sSeq (sFor (iSeq (d1 ssD (dLc (iR1 (d2 addD (kD (.int 1)) (dCall (lCons (vR 0) (lCons (d2 addD (vR 5) (kD (.int 1))) (lCons (kD (.int 3)) lNil))) f__law_mix))) (gN 8) bYes (d2 subD (dCall (lCons (vR 0) (lCons (d2 addD (d2 addD (vR 5) (kD (.int 2))) (vR 8)) (lCons (kD (.int 11)) lNil))) f__law_mix) (kD (.int 5))) [8]))) (gN 7) (sApp 6 (mkT (lCons (vR 7) (lCons (d2 addD (kD (.int 1)) (dCall (lCons (vR 0) (lCons (d2 addD (d2 addD (vR 5) (kD (.int 6))) (d1 lenD (vB 6))) (lCons (kD (.int 4)) lNil))) f__law_mix)) lNil)))))
   (sFrz 6 (sApp 3 (mkT (lCons (d2 subD (kD (.int 1)) (d2 mulI (kD (.int 2)) (dCall (lCons (vR 0) (lCons (vR 5) (lCons (kD (.int 2)) lNil))) f__law_mix))) (lCons (dCall (lCons (vR 0) (lCons (d2 addD (vR 5) (kD (.int 10))) (lCons (kD (.int 30)) lNil))) f__law_mix) (lCons (vR 6) lNil)))))))))
theorem chB_ok {dr : List Int} (hd : Dr 3780 dr) (k : Int) (hk0 : 0 ≤ k) (hk1 : k ≤ 1000) (m : D) (j : Nat) (hj : j ≤ 10) (c : List Link) (hc : c.length ≤ 100) (s5 s6 s7 s8 : Slot) :
    ∃ l u5 u6 u7 u8, SOk l ∧ chB [.fz (.list (dr.map .int)), .fz (.int k), .fz m, .ow (chD c), .fz (.int (j : Nat)), s5, s6, s7, s8] = some (.nx [.fz (.list (dr.map .int)), .fz (.int k), .fz m, .ow (chD (c ++ [l])), .fz (.int (j : Nat)), u5, u6, u7, u8]) := by
  generalize hat : k + 1 + 12 * (j : Int) = a
  have ha0 : 0 ≤ a := by omega
  have ha1 : a ≤ 2000 := by omega
  have mj : mulOk 12 (j : Int) = true := mulOk64 (by decide) (by omega)
  obtain ⟨n, n1, n2, n3⟩ := mix_ok hd (by decide) (a + 1) 3 (by omega) (by omega) (by omega)
  obtain ⟨sg, g1, g2, g3⟩ := mix_ok hd (by decide) a 2 (by omega) (by omega) (by omega)
  obtain ⟨sz, z1, z2, z3⟩ := mix_ok hd (by decide) (a + 10) 30 (by omega) (by omega) (by omega)
  have m2 : mulOk 2 sg = true := mulOk64 (by decide) (by omega)
  have R1 := rg1_ok (n := 1 + n) (by omega) (by omega)
  generalize hS : PyData.list (dr.map .int) = S at *
  obtain ⟨is, i1, i2, i3⟩ := lcL_ex PyData.int (fun x => -5 ≤ x ∧ x ≤ 5) (g := gN 8) (fe := d2 subD (dCall (lCons (vR 0) (lCons (d2 addD (d2 addD (vR 5) (kD (.int 2))) (vR 8)) (lCons (kD (.int 11)) lNil))) f__law_mix) (kD (.int 5)))
    (ρ := wipeE [.fz S, .fz (.int k), .fz m, .ow (chD c), .fz (.int (j : Nat)), .fz (.int a), .ow (.list []), s7, s8] [8]) (rgL 0 (1 + n).toNat) (fun d hd' => by
      obtain ⟨i, hi, e⟩ := List.getElem_of_mem hd'
      have e' : (rgL 0 (1 + n).toNat)[i]? = some d := by rw [List.getElem?_eq_getElem hi, e]
      obtain ⟨e1, rfl⟩ := rgL_at e'
      obtain ⟨x, x1, x2, x3⟩ := mix_ok hd (by decide) (a + 2 + (0 + (i : Int))) 11 (by omega) (by omega) (by omega)
      rw [hS] at x1
      exact ⟨_, x - 5, rfl, by simp [wipeE, e_mix] at x1 ⊢; rw [x1]; rfl, by omega, by omega⟩)
  have ilen : is.length = (1 + n).toNat := by simpa using i2
  have sl := setSort_len is
  have sp := setSort_pos (ks := is) (by omega)
  have slt := setSort_lt is
  have smem : ∀ x ∈ setSort is, -5 ≤ x ∧ x ≤ 5 := fun x hx => i3 x (setSort_mem.mp hx)
  have hss : ssD (.list (is.map .int)) = some (.list ((setSort is).map .int)) := by
    show ((intsOf (is.map PyData.int)).bind fun is => if is.length < 64 then some (PyData.list ((setSort is).map .int)) else none) = _
    rw [intsOf_map, Option.bind_some, if_pos (by omega)]
  generalize setSort is = ks at sl sp slt smem hss
  unfold chB
  rw [sSeq_nx (ρ' := [.fz S, .fz (.int k), .fz m, .ow (chD c), .fz (.int (j : Nat)), .fz (.int a), s6, s7, s8]) (by simp [mj, hat])]
  rw [sSeq_nx (ρ' := [.fz S, .fz (.int k), .fz m, .ow (chD c), .fz (.int (j : Nat)), .fz (.int a), .ow (.list []), s7, s8]) (by simp)]
  obtain ⟨ρ', f1, f2⟩ := sFor_ok (fi := iSeq (d1 ssD (dLc (iR1 (d2 addD (kD (.int 1)) (dCall (lCons (vR 0) (lCons (d2 addD (vR 5) (kD (.int 1))) (lCons (kD (.int 3)) lNil))) f__law_mix))) (gN 8) bYes (d2 subD (dCall (lCons (vR 0) (lCons (d2 addD (d2 addD (vR 5) (kD (.int 2))) (vR 8)) (lCons (kD (.int 11)) lNil))) f__law_mix) (kD (.int 5))) [8])))
    (g := gN 7) (fb := sApp 6 (mkT (lCons (vR 7) (lCons (d2 addD (kD (.int 1)) (dCall (lCons (vR 0) (lCons (d2 addD (d2 addD (vR 5) (kD (.int 6))) (d1 lenD (vB 6))) (lCons (kD (.int 4)) lNil))) f__law_mix)) lNil))))
    (ρ := [.fz S, .fz (.int k), .fz m, .ow (chD c), .fz (.int (j : Nat)), .fz (.int a), .ow (.list []), s7, s8]) (ds := ks.map .int)
    (fun i ρ => ∃ (E : Err) (t7 : Slot), ρ = [.fz S, .fz (.int k), .fz m, .ow (chD c), .fz (.int (j : Nat)), .fz (.int a), .ow (errD E), t7, s8] ∧ E.map (fun p => p.1) = ks.take i ∧ ∀ p ∈ E, 1 ≤ p.2 ∧ p.2 ≤ 4)
    (by
      have c1 : dLc (iR1 (d2 addD (kD (.int 1)) (dCall (lCons (vR 0) (lCons (d2 addD (vR 5) (kD (.int 1))) (lCons (kD (.int 3)) lNil))) f__law_mix))) (gN 8) bYes (d2 subD (dCall (lCons (vR 0) (lCons (d2 addD (d2 addD (vR 5) (kD (.int 2))) (vR 8)) (lCons (kD (.int 11)) lNil))) f__law_mix) (kD (.int 5))) [8] [.fz S, .fz (.int k), .fz m, .ow (chD c), .fz (.int (j : Nat)), .fz (.int a), .ow (.list []), s7, s8] = some (.list (is.map .int)) := by
        refine dLc_of ?_ i1 (by rw [List.length_map]; omega)
        simp only [iR1_s, d2_s, dCall_s, lCons_s, lNil_s, vR_s, kD_s, List.getElem?_cons_zero, List.getElem?_cons_succ, Option.bind_some, addD_i, e_mix, n1, R1]
      simp only [iSeq_s, d1_s, c1, Option.bind_some, hss, seqOf_l])
    ⟨[], s7, rfl, by simp, fun p hp => by cases hp⟩ (fun i d ρ hdi ⟨E, t7, hρ, hE1, hE2⟩ => by
      rw [List.getElem?_map, Option.map_eq_some_iff] at hdi
      obtain ⟨x, hx, rfl⟩ := hdi
      subst hρ
      have hik : i < ks.length := (List.getElem?_eq_some_iff.mp hx).1
      have hEl : E.length = i := by
        have := congrArg List.length hE1
        rw [List.length_map, List.length_take] at this
        omega
      obtain ⟨y, y1, y2, y3⟩ := mix_ok hd (by decide) (a + 6 + (E.length : Int)) 4 (by omega) (by omega) (by omega)
      rw [hS] at y1
      have hlt : E.length < 1000000 := by omega
      refine ⟨_, _, rfl, ?_, _, .inl rfl, E ++ [(x, 1 + y)], .fz (.int x), rfl, ?_, fun p hp => ?_⟩
      · simp only [sApp_s, mkT_s, lCons_s, lNil_s, vR_s, vB_s, d2_s, d1_s, kD_s, dCall_s, gN_s, owL_s, errD, List.set_cons_zero, List.set_cons_succ, List.getElem?_cons_zero, List.getElem?_cons_succ, Option.bind_some, lenD_l, List.length_map, addD_i, e_mix, y1, hlt, if_true, List.length_cons, List.length_nil, Nat.reduceAdd, Nat.reduceLeDiff, List.map_append, List.map_cons, List.map_nil]
        rfl
      · rw [List.map_append, hE1, List.take_add_one, hx]
        rfl
      · rcases List.mem_append.mp hp with hp | hp
        · exact hE2 p hp
        · rw [List.mem_singleton] at hp
          subst hp
          dsimp only
          omega)
  obtain ⟨E, t7, rfl, hE1, hE2⟩ := f2
  rw [List.length_map, List.take_length] at hE1
  rw [sSeq_nx f1]
  have hEl : E.length = ks.length := by
    have := congrArg List.length hE1
    rwa [List.length_map] at this
  refine ⟨(1 - 2 * sg, sz, E), .fz (.int a), .fz (errD E), t7, s8, ⟨by show 1 - 2 * sg = 1 ∨ 1 - 2 * sg = -1; omega, z2, by show sz ≤ 29; omega, by show 1 ≤ E.length; omega, by show E.length ≤ 3; omega, fun p hp => ?_, ?_⟩, ?_⟩
  · have h1 := smem p.1 (by rw [← hE1]; exact List.mem_map.mpr ⟨p, hp, rfl⟩)
    have h2 := hE2 p hp
    exact ⟨h1.1, h1.2, h2.1, h2.2⟩
  · rw [← hE1, List.pairwise_map] at slt
    exact slt
  · have hcl : c.length < 1000000 := by omega
    simp only [sFrz_s, frz_s, sApp_s, mkT_s, lCons_s, lNil_s, vR_s, d2_s, kD_s, dCall_s, owL_s, List.set_cons_zero, List.set_cons_succ, List.getElem?_cons_zero, List.getElem?_cons_succ, Option.bind_some, addD_i, subD_i, mulI_i, e_mix, g1, z1, m2, if_true, chD, List.length_map, hcl, List.length_cons, List.length_nil, Nat.reduceAdd, Nat.reduceLeDiff, List.map_append, List.map_cons, List.map_nil]
    rfl
theorem law_chain_ok {dr : List Int} (hd : Dr 3780 dr) (k : Int) (hk0 : 0 ≤ k) (hk1 : k ≤ 1000) : ∃ c, f__law_chain [.list (dr.map .int), .int k, .int 3] = some (chD c) ∧ 1 ≤ c.length ∧ c.length ≤ 3 ∧ ∀ l ∈ c, SOk l := by
  obtain ⟨n, n1, n2, n3⟩ := mix_ok hd (by decide) k 3 (by omega) (by omega) (by omega)
  have R1 := rg1_ok (n := 1 + n) (by omega) (by omega)
  unfold f__law_chain D__law_chain
  generalize hS : PyData.list (dr.map .int) = S at *
  obtain ⟨ρ', g1, g2⟩ := sFor_ok (fi := iR1 (d2 addD (kD (.int 1)) (dCall (lCons (vR 0) (lCons (vR 1) (lCons (vR 2) lNil))) f__law_mix))) (g := gN 4) (fb := chB)
    (ρ := [.fz S, .fz (.int k), .fz (.int 3), .ow (.list []), .no, .no, .no, .no, .no]) (ds := rgL 0 (1 + n).toNat)
    (fun j ρ => ∃ c s4 s5 s6 s7 s8, ρ = [.fz S, .fz (.int k), .fz (.int 3), .ow (chD c), s4, s5, s6, s7, s8] ∧ c.length = j ∧ ∀ l ∈ c, SOk l)
    (by simp only [iR1_s, d2_s, dCall_s, lCons_s, lNil_s, vR_s, kD_s, List.getElem?_cons_zero, List.getElem?_cons_succ, Option.bind_some, addD_i, e_mix, n1, R1])
    ⟨[], .no, .no, .no, .no, .no, rfl, rfl, fun l hl => by cases hl⟩ (fun j d ρ hdj ⟨c, s4, s5, s6, s7, s8, hρ, hl, hc⟩ => by
      subst hρ
      obtain ⟨hj, rfl⟩ := rgL_at hdj
      obtain ⟨l, u5, u6, u7, u8, hl1, hl2⟩ := chB_ok hd k hk0 hk1 (.int 3) j (by omega) c (by omega) s5 s6 s7 s8
      rw [hS] at hl2
      refine ⟨_, _, rfl, ?_, _, .inl rfl, c ++ [l], .fz (.int (j : Nat)), u5, u6, u7, u8, rfl, by simp [hl], fun m hm => ?_⟩
      · rw [← hl2, show (0 : Int) + (j : Int) = (j : Int) by omega]
        rfl
      · rcases List.mem_append.mp hm with hm | hm
        · exact hc m hm
        · rw [List.mem_singleton] at hm
          subst hm
          exact hl1)
  obtain ⟨c, s4, s5, s6, s7, s8, rfl, hl, hc⟩ := g2
  rw [rgL_len] at hl
  refine ⟨c, run_seq (ρ' := [.fz S, .fz (.int k), .fz (.int 3), .ow (.list []), .no, .no, .no, .no, .no]) (by simp) ?_, by omega, by omega, hc⟩
  rw [sSeq_nx g1]
  simp
/-! the dict that is due -/
noncomputable abbrev dueI : DenS := sStD 8 (d2 addD (vR 9) (vR 25)) (d2 addD (d3 dgetD3 (vB 8) (d2 addD (vR 9) (vR 25)) (kD (.int 0))) (d2 mulI (d2 dgetD (vR 5) (vR 9)) (d2 dgetD (vR 6) (vR 25))))
abbrev dEnv (ρ0 : Env) (b c : Slot) (d : Zd) : Env := ((ρ0.set 9 b).set 25 c).set 8 (.ow (zD d))
theorem dEnv9 (ρ0 : Env) (b c x : Slot) (d : Zd) : (dEnv ρ0 b c d).set 9 x = dEnv ρ0 x c d := by
  unfold dEnv
  rw [List.set_comm _ _ (show (8 : Nat) ≠ 9 by decide), List.set_comm _ _ (show (25 : Nat) ≠ 9 by decide), List.set_set]
theorem dEnv25 (ρ0 : Env) (b c x : Slot) (d : Zd) : (dEnv ρ0 b c d).set 25 x = dEnv ρ0 b x d := by
  unfold dEnv
  rw [List.set_comm _ _ (show (8 : Nat) ≠ 25 by decide), List.set_set]
theorem due_in (ρ0 : Env) (hl : ρ0.length = 32) (l1 l2 : Zd) (h5 : ρ0[5]? = some (.fz (zD l1))) (h6 : ρ0[6]? = some (.fz (zD l2))) (d1 : NDk l1) (d2' : NDk l2) (p1 : Pos l1) (p2 : Pos l2) (b1 : ∀ p ∈ l1, p.2 < 2 ^ 64) (b2 : ∀ p ∈ l2, p.2 < 2 ^ 64)
    (hl2 : l2.length ≤ 30) (p : Int × Int) (hp : p ∈ l1) (c : Slot) (due : Zd) (nd : NDk due) (ps : Pos due) (dl : due.length ≤ 1000) :
    ∃ c' due', sFor (iKeysJ 6) (gN 25) dueI (dEnv ρ0 (.fz (.int p.1)) c due) = some (.nx (dEnv ρ0 (.fz (.int p.1)) c' due')) ∧ NDk due' ∧ Pos due' ∧ due'.length ≤ due.length + l2.length ∧ ∀ G, sumZ G due' = sumZ G due + p.2 * sumZ (fun b => G (p.1 + b)) l2 := by
  obtain ⟨ρ', g1, g2⟩ := sFor_ok (fi := iKeysJ 6) (g := gN 25) (fb := dueI) (ρ := dEnv ρ0 (.fz (.int p.1)) c due) (ds := l2.map fun p => .int p.1)
    (fun j ρ => ∃ c' due', ρ = dEnv ρ0 (.fz (.int p.1)) c' due' ∧ NDk due' ∧ Pos due' ∧ due'.length ≤ due.length + j ∧ ∀ G, sumZ G due' = sumZ G due + p.2 * sumZ (fun b => G (p.1 + b)) (l2.take j))
    (keysE PyData.int _ 6 l2 (by simp [dEnv, h6]; rfl)) ⟨c, due, rfl, nd, ps, Nat.le_refl _, fun G => by simp [sumZ]⟩ (fun j d ρ hd ⟨c', due', hρ, nd1, ps1, dl1, hG⟩ => by
      rw [List.getElem?_map, Option.map_eq_some_iff] at hd
      obtain ⟨q, hq, rfl⟩ := hd
      subst hρ
      have hqm := List.mem_of_getElem? hq
      have hj : j < l2.length := (List.getElem?_eq_some_iff.mp hq).1
      have v1 := p1 p hp
      have v2 := p2 q hqm
      have m1 : mulOk p.2 q.2 = true := by
        have := b1 p hp
        have := b2 q hqm
        exact mulOk_i (m := 64) (n := 64) (by omega) (by omega) (by decide) (by decide)
      have hpos : 0 < getZ due' (p.1 + q.1) + p.2 * q.2 := by
        have h3 := getZ_nonneg ps1 (p.1 + q.1)
        have h4 : 0 < p.2 * q.2 := Int.mul_pos v1 v2
        omega
      have e1 := dgetE PyData.int l1 p.1
      rw [getE_of d1 hp] at e1
      have e1' : dgetD (zD l1) (.int p.1) = some (.int p.2) := e1
      have e2 := dgetE PyData.int l2 q.1
      rw [getE_of d2' hqm] at e2
      have e2' : dgetD (zD l2) (.int q.1) = some (.int q.2) := e2
      have g0 := getZ_eq due' (p.1 + q.1)
      have pt := putDE PyData.int due' (p.1 + q.1) (getZ due' (p.1 + q.1) + p.2 * q.2) (by omega)
      have x5 : (dEnv ρ0 (.fz (.int p.1)) (.fz (.int q.1)) due')[5]? = some (.fz (zD l1)) := by simp [dEnv, h5]
      have x6 : (dEnv ρ0 (.fz (.int p.1)) (.fz (.int q.1)) due')[6]? = some (.fz (zD l2)) := by simp [dEnv, h6]
      have x8 : (dEnv ρ0 (.fz (.int p.1)) (.fz (.int q.1)) due')[8]? = some (.ow (zD due')) := by simp [dEnv, hl]
      have x9 : (dEnv ρ0 (.fz (.int p.1)) (.fz (.int q.1)) due')[9]? = some (.fz (.int p.1)) := by simp [dEnv, hl]
      have x25 : (dEnv ρ0 (.fz (.int p.1)) (.fz (.int q.1)) due')[25]? = some (.fz (.int q.1)) := by simp [dEnv, hl]
      refine ⟨_, _, rfl, ?_, _, .inl rfl, .fz (.int q.1), putE due' (p.1 + q.1) (getZ due' (p.1 + q.1) + p.2 * q.2), rfl, putE_nd _ _ _ nd1, ps1.put _ hpos, by have := putE_len due' (p.1 + q.1) (getZ due' (p.1 + q.1) + p.2 * q.2); omega, fun G => ?_⟩
      · rw [dEnv25]
        unfold dueI
        simp only [sStD_s, d2_s, d3_s, vR_s, vB_s, kD_s, x5, x6, x8, x9, x25, Option.bind_some, addD_i, g0, e1', e2', mulI_i, m1, if_true, owD_s]
        have x : owD (dEnv ρ0 (.fz (.int p.1)) (.fz (.int q.1)) due') 8 = some (kdE PyData.int due') := by
          rw [owD_s, x8]
          rfl
        simp only [zD, adE, Option.bind_some, pt]
        unfold dEnv
        rw [List.set_set]
        rfl
      · rw [sumZ_put _ _ _ _ nd1, hG, List.take_add_one, hq, sumZ_append]
        simp [sumZ, Int.mul_add, Int.mul_assoc, Int.add_assoc])
  obtain ⟨c', due', rfl, nd1, ps1, dl1, hG⟩ := g2
  refine ⟨c', due', g1, nd1, ps1, by simpa using dl1, fun G => ?_⟩
  rw [hG, List.length_map, List.take_length]
theorem due_ok (ρ0 : Env) (hl : ρ0.length = 32) (l1 l2 : Zd) (h5 : ρ0[5]? = some (.fz (zD l1))) (h6 : ρ0[6]? = some (.fz (zD l2))) (d1 : NDk l1) (d2' : NDk l2) (p1 : Pos l1) (p2 : Pos l2) (b1 : ∀ p ∈ l1, p.2 < 2 ^ 64) (b2 : ∀ p ∈ l2, p.2 < 2 ^ 64)
    (hl1 : l1.length ≤ 30) (hl2 : l2.length ≤ 30) (b c : Slot) :
    ∃ b' c' due, sFor (iKeysJ 5) (gN 9) (sFor (iKeysJ 6) (gN 25) dueI) (dEnv ρ0 b c []) = some (.nx (dEnv ρ0 b' c' due)) ∧ NDk due ∧ Pos due ∧ ∀ G, sumZ G due = sumZ (fun a => sumZ (fun b => G (a + b)) l2) l1 := by
  obtain ⟨ρ', g1, g2⟩ := sFor_ok (fi := iKeysJ 5) (g := gN 9) (fb := sFor (iKeysJ 6) (gN 25) dueI) (ρ := dEnv ρ0 b c []) (ds := l1.map fun p => .int p.1)
    (fun j ρ => ∃ b' c' due, ρ = dEnv ρ0 b' c' due ∧ NDk due ∧ Pos due ∧ due.length ≤ 30 * j ∧ ∀ G, sumZ G due = sumZ (fun a => sumZ (fun b => G (a + b)) l2) (l1.take j))
    (keysE PyData.int _ 5 l1 (by simp [dEnv, h5]; rfl)) ⟨b, c, [], rfl, List.nodup_nil, (fun p hp => by cases hp), by simp, fun G => rfl⟩ (fun j d ρ hd ⟨b', c', due, hρ, nd1, ps1, dl1, hG⟩ => by
      rw [List.getElem?_map, Option.map_eq_some_iff] at hd
      obtain ⟨p, hp, rfl⟩ := hd
      subst hρ
      have hj : j < l1.length := (List.getElem?_eq_some_iff.mp hp).1
      obtain ⟨c2, due2, f1, f2, f3, f4, f5⟩ := due_in ρ0 hl l1 l2 h5 h6 d1 d2' p1 p2 b1 b2 hl2 p (List.mem_of_getElem? hp) c' due nd1 ps1 (by omega)
      refine ⟨_, _, rfl, ?_, _, .inl rfl, .fz (.int p.1), c2, due2, rfl, f2, f3, by omega, fun G => ?_⟩
      · rw [dEnv9]
        exact f1
      · rw [f5, hG, List.take_add_one, hp, sumZ_append]
        simp [sumZ])
  obtain ⟨b', c', due, rfl, nd1, ps1, dl1, hG⟩ := g2
  refine ⟨b', c', due, g1, nd1, ps1, fun G => ?_⟩
  rw [hG, List.length_map, List.take_length]
end Zx.k61
/-! Q8: one turn of the law's loop over shares; comprehensions over chains. -/
namespace Zx.k61
open PySem PySem.Spec L2 Zx
theorem lcL_map {α β : Type} (enc : α → D) (enc' : β → D) (f : α → β) {g : DenG} {fe : Den} {ρ : Env} : ∀ (xs : List α), (∀ x ∈ xs, ∃ ρ1, g (enc x) ρ = some ρ1 ∧ fe ρ1 = some (enc' (f x))) → lcL g bYes fe ρ (xs.map enc) = some ((xs.map f).map enc')
  | [], _ => rfl
  | x :: xs, h => by
    obtain ⟨ρ1, h1, h2⟩ := h x List.mem_cons_self
    rw [List.map_cons, List.map_cons, List.map_cons, lcL, h1, lcL_map enc enc' f xs fun y hy => h y (List.mem_cons_of_mem _ hy)]
    simp only [Option.bind_some, bYes_s, if_true, h2]
theorem ne_self (q : Rat) : neD (frD q) (frD q) = some false := by rw [neD_fr]; simp
theorem lo_b : ∀ (c : List Link), (∀ l ∈ c, LOk l) → -1050 * (c.length : Int) ≤ loC c ∧ hiC c ≤ 1050 * (c.length : Int)
  | [], _ => by simp [loC, hiC]
  | l :: c, h => by
    obtain ⟨i1, i2⟩ := lo_b c fun m hm => h m (List.mem_cons_of_mem _ hm)
    have hk := h l List.mem_cons_self
    have h0 := hk.s0
    have h1 := hk.s1
    obtain ⟨p, p1, p2, p3⟩ := first_ok l.2.2 hk.n1
    obtain ⟨q, _, q1, q2, q3⟩ := last_ok l.2.2 hk.n1
    obtain ⟨a1, a2, _, _⟩ := hk.er p p1
    obtain ⟨b1, b2, _, _⟩ := hk.er q q1
    have e1 : -1050 ≤ loL l := by
      unfold loL
      rw [p2, q2]
      dsimp only
      rcases hk.sg with e | e <;> rw [e] <;> split <;> omega
    have e2 : hiL l ≤ 1050 := by
      unfold hiL
      rw [p2, q2]
      dsimp only
      rcases hk.sg with e | e <;> rw [e] <;> split <;> omega
    unfold loC hiC at *
    rw [List.map_cons, List.map_cons, List.sum_cons, List.sum_cons, List.length_cons]
    omega
noncomputable abbrev shB : DenS := (sSeq (sSet 26 (d2 addD (vR 22) (dCall (lCons (vR 1) (lCons (d2 addD (kD (.int 3)) (d2 mulI (kD (.int 2)) (vR 24))) (lCons (d2 addD (d2 subD (vR 23) (vR 22)) (kD (.int 1))) lNil))) f__law_mix)))
   (sSeq (sSet 27 (d2 addD (vR 26) (dCall (lCons (vR 1) (lCons (d2 addD (kD (.int 4)) (d2 mulI (kD (.int 2)) (vR 24))) (lCons (d2 addD (d2 subD (vR 23) (vR 26)) (kD (.int 1))) lNil))) f__law_mix)))
   (sSeq (sSet 28 (dCall (lCons (vR 4) (lCons (vR 26) (lCons (vR 27) lNil))) f_share))
   (sSeq (sIf (bOr (b2 neD (dCall (lCons (vR 21) (lCons (vR 26) (lCons (vR 27) lNil))) f_share) (vR 28)) (b2 neD (dCall (lCons (vR 12) (lCons (d1 negD (vR 27)) (lCons (d1 negD (vR 26)) lNil))) f_share) (dCall (lCons (vR 2) (lCons (vR 26) (lCons (vR 27) lNil))) f_share))) (sRet (kD (.bool false))) sNx)
   (sIf (b2 neD (dCall (lCons (vR 28) (lCons (dCall (lCons (vR 4) (lCons (d2 addD (vR 27) (kD (.int 1))) (lCons (d2 addD (vR 23) (kD (.int 1))) lNil))) f_share) lNil)) f__law_plus) (dCall (lCons (vR 4) (lCons (vR 26) (lCons (vR 23) lNil))) f_share)) (sRet (kD (.bool false))) sNx)))))
theorem shB_ok {dr : List Int} (hd : Dr 3780 dr) (DR : D) (hDR : PyData.list (dr.map .int) = DR) (c b : List Link) (hc : COk c) (hb : COk b) (hng : COk (c.map ngL)) (t : Int) (ht : 0 < t) (hmn : COk (b.map (mnL t))) (i : Nat) (hi : i < 4) (s0 s3 s5 s6 s7 s8 s9 s10 s11 s13 s14 s15 s16 s17 s18 s19 s20 s25 s26 s27 s28 s29 s30 s31 : Slot) :
    ∃ u26 u27 u28, shB [s0, .fz DR, .fz (chD c), s3, .fz (chD b), s5, s6, s7, s8, s9, s10, s11, .fz (chD (c.map ngL)), s13, s14, s15, s16, s17, s18, s19, s20, .fz (chD (b.map (mnL t))), .fz (.int (loC b)), .fz (.int (hiC b)), .fz (.int (i : Nat)), s25, s26, s27, s28, s29, s30, s31] = some (.nx [s0, .fz DR, .fz (chD c), s3, .fz (chD b), s5, s6, s7, s8, s9, s10, s11, .fz (chD (c.map ngL)), s13, s14, s15, s16, s17, s18, s19, s20, .fz (chD (b.map (mnL t))), .fz (.int (loC b)), .fz (.int (hiC b)), .fz (.int (i : Nat)), s25, u26, u27, u28, s29, s30, s31]) := by
  have hlh := loC_hiC b hb.ok
  obtain ⟨bb1, bb2⟩ := lo_b b hb.ok
  have b6 := hb.n2
  have m1 : mulOk 2 (i : Int) = true := mulOk64 (by decide) (by omega)
  obtain ⟨x, x1, x2, x3⟩ := mix_ok hd (by decide) (3 + 2 * (i : Int)) (hiC b - loC b + 1) (by omega) (by omega) (by omega)
  obtain ⟨y, y1, y2, y3⟩ := mix_ok hd (by decide) (4 + 2 * (i : Int)) (hiC b - (loC b + x) + 1) (by omega) (by omega) (by omega)
  rw [hDR] at x1 y1
  generalize hlo : loC b + x = lo at *
  generalize hhi : lo + y = hi at *
  have sh1 := share_eq b hb lo hi (by omega)
  have sh2 := (share_eq (b.map (mnL t)) hmn lo hi (by omega)).1
  rw [sh_mn t ht b hb.ok] at sh2
  have sh3 := (share_eq (c.map ngL) hng (-hi) (-lo) (by omega)).1
  rw [sh_ng] at sh3
  have sh4 := (share_eq c hc lo hi (by omega)).1
  have sh5 := share_eq b hb (hi + 1) (hiC b + 1) (by omega)
  have sh6 := (share_eq b hb lo (hiC b) (by omega)).1
  have pl := lplus_eq (shQ b lo hi) (shQ b (hi + 1) (hiC b + 1)) (sh1.2.sq (by decide)) (sh5.2.sq (by decide))
  rw [sh_add b hb.ok lo hi (by omega) (by omega)] at pl
  have sh1' := sh1.1
  have sh5' := sh5.1
  have n1 := ne_self (shQ b lo hi)
  have n2 := ne_self (shQ c lo hi)
  have n3 := ne_self (shQ b lo (hiC b))
  refine ⟨.fz (.int lo), .fz (.int hi), .fz (frD (shQ b lo hi)), ?_⟩
  unfold shB
  rw [sSeq_nx (ρ' := [s0, .fz DR, .fz (chD c), s3, .fz (chD b), s5, s6, s7, s8, s9, s10, s11, .fz (chD (c.map ngL)), s13, s14, s15, s16, s17, s18, s19, s20, .fz (chD (b.map (mnL t))), .fz (.int (loC b)), .fz (.int (hiC b)), .fz (.int (i : Nat)), s25, .fz (.int lo), s27, s28, s29, s30, s31]) (by simp [m1, e_mix, x1, hlo])]
  rw [sSeq_nx (ρ' := [s0, .fz DR, .fz (chD c), s3, .fz (chD b), s5, s6, s7, s8, s9, s10, s11, .fz (chD (c.map ngL)), s13, s14, s15, s16, s17, s18, s19, s20, .fz (chD (b.map (mnL t))), .fz (.int (loC b)), .fz (.int (hiC b)), .fz (.int (i : Nat)), s25, .fz (.int lo), .fz (.int hi), s28, s29, s30, s31]) (by simp [m1, e_mix, y1, hhi])]
  rw [sSeq_nx (ρ' := [s0, .fz DR, .fz (chD c), s3, .fz (chD b), s5, s6, s7, s8, s9, s10, s11, .fz (chD (c.map ngL)), s13, s14, s15, s16, s17, s18, s19, s20, .fz (chD (b.map (mnL t))), .fz (.int (loC b)), .fz (.int (hiC b)), .fz (.int (i : Nat)), s25, .fz (.int lo), .fz (.int hi), .fz (frD (shQ b lo hi)), s29, s30, s31]) (by simp [sh1'])]
  rw [sSeq_nx (ρ' := [s0, .fz DR, .fz (chD c), s3, .fz (chD b), s5, s6, s7, s8, s9, s10, s11, .fz (chD (c.map ngL)), s13, s14, s15, s16, s17, s18, s19, s20, .fz (chD (b.map (mnL t))), .fz (.int (loC b)), .fz (.int (hiC b)), .fz (.int (i : Nat)), s25, .fz (.int lo), .fz (.int hi), .fz (frD (shQ b lo hi)), s29, s30, s31]) (by
    rw [sIf_f (by simp [sh2, sh3, sh4, n1, n2])]
    rfl)]
  rw [sIf_f (by simp [sh5', e_lplus, pl, sh6, n3])]
  rfl
/-! comprehensions over a chain in the law's environment -/
theorem ng_lc (c : List Link) (hl : c.length ≤ 6) (ρ : Env) (h : ρ[2]? = some (.fz (chD c))) (hlen : ρ.length = 32) :
    dLc (iSeq (vR 2)) (gT (gsCons (gN 15) (gsCons (gN 16) (gsCons (gN 17) gsNil))) 3) bYes (mkT (lCons (d1 negD (vR 15)) (lCons (vR 16) (lCons (vR 17) lNil)))) [15, 16, 17] ρ = some (chD (c.map ngL)) := by
  refine dLc_of (ds := c.map linkD) (by simp [h, chD]) (lcL_map linkD linkD ngL c fun l hl => ?_) (by simp; omega)
  exact ⟨_, by simp [linkD]; rfl, by simp [wipeE, hlen, linkD, ngL]⟩
theorem er_lc (t : Int) (E : Err) (hl : E.length ≤ 3) (hm : ∀ p ∈ E, mulOk t p.1 = true) (ρ : Env) (h : ρ[17]? = some (.fz (errD E))) (h19 : ρ[19]? = some (.fz (.int t))) (hlen : ρ.length = 32) :
    dLc (iSeq (vR 17)) (gT (gsCons (gN 29) (gsCons (gN 30) gsNil)) 2) bYes (mkT (lCons (d2 mulI (vR 19) (vR 29)) (lCons (vR 30) lNil))) [29, 30] ρ = some (errD (E.map fun p => (t * p.1, p.2))) := by
  refine dLc_of (ds := E.map pD) (by simp [h, errD]) (lcL_map pD pD (fun p => (t * p.1, p.2)) E fun p hp => ?_) (by simp; omega)
  generalize hρ : ((wipeE ρ [29, 30]).set 29 (.fz (.int p.1))).set 30 (.fz (.int p.2)) = ρ1
  have r29 : ρ1[29]? = some (.fz (.int p.1)) := by rw [← hρ]; simp [wipeE, hlen]
  have r30 : ρ1[30]? = some (.fz (.int p.2)) := by rw [← hρ]; simp [wipeE, hlen]
  have r19 : ρ1[19]? = some (.fz (.int t)) := by rw [← hρ]; simp [wipeE, h19]
  refine ⟨ρ1, by simp [pD, hρ], ?_⟩
  simp only [mkT_s, lCons_s, lNil_s, vR_s, d2_s, r19, r29, r30, Option.bind_some, mulI_i, hm p hp, if_true]
  rfl
theorem er_lc2 (t : Int) (E : Err) (hl : E.length ≤ 3) (hm : ∀ p ∈ E, mulOk t p.2 = true) (ρ : Env) (h : ρ[17]? = some (.fz (errD E))) (h19 : ρ[19]? = some (.fz (.int t))) (hlen : ρ.length = 32) :
    dLc (iSeq (vR 17)) (gT (gsCons (gN 29) (gsCons (gN 30) gsNil)) 2) bYes (mkT (lCons (vR 29) (lCons (d2 mulI (vR 19) (vR 30)) lNil))) [29, 30] ρ = some (errD (E.map fun p => (p.1, t * p.2))) := by
  refine dLc_of (ds := E.map pD) (by simp [h, errD]) (lcL_map pD pD (fun p => (p.1, t * p.2)) E fun p hp => ?_) (by simp; omega)
  generalize hρ : ((wipeE ρ [29, 30]).set 29 (.fz (.int p.1))).set 30 (.fz (.int p.2)) = ρ1
  have r29 : ρ1[29]? = some (.fz (.int p.1)) := by rw [← hρ]; simp [wipeE, hlen]
  have r30 : ρ1[30]? = some (.fz (.int p.2)) := by rw [← hρ]; simp [wipeE, hlen]
  have r19 : ρ1[19]? = some (.fz (.int t)) := by rw [← hρ]; simp [wipeE, h19]
  refine ⟨ρ1, by simp [pD, hρ], ?_⟩
  simp only [mkT_s, lCons_s, lNil_s, vR_s, d2_s, r19, r29, r30, Option.bind_some, mulI_i, hm p hp, if_true]
  rfl
theorem sc_lc (t : Int) (ht0 : 2 ≤ t) (ht1 : t ≤ 4) (c : List Link) (hl : c.length ≤ 6) (hk : ∀ l ∈ c, SOk l) (ρ : Env) (h : ρ[2]? = some (.fz (chD c))) (h19 : ρ[19]? = some (.fz (.int t))) (hlen : ρ.length = 32) :
    dLc (iSeq (vR 2)) (gT (gsCons (gN 15) (gsCons (gN 16) (gsCons (gN 17) gsNil))) 3) bYes (mkT (lCons (vR 15) (lCons (d2 mulI (vR 19) (vR 16)) (lCons (dLc (iSeq (vR 17)) (gT (gsCons (gN 29) (gsCons (gN 30) gsNil)) 2) bYes (mkT (lCons (d2 mulI (vR 19) (vR 29)) (lCons (vR 30) lNil))) [29, 30]) lNil)))) [15, 16, 17] ρ = some (chD (c.map (scL t))) := by
  refine dLc_of (ds := c.map linkD) (by simp [h, chD]) (lcL_map linkD linkD (scL t) c fun l hl => ?_) (by simp; omega)
  have hs := hk l hl
  have s0 := hs.s0
  have s1 := hs.s1
  have m1 : mulOk t l.2.1 = true := mulOk64 (by omega) (by omega)
  generalize hρ : (((wipeE ρ [15, 16, 17]).set 15 (.fz (.int l.1))).set 16 (.fz (.int l.2.1))).set 17 (.fz (errD l.2.2)) = ρ1
  have r15 : ρ1[15]? = some (.fz (.int l.1)) := by rw [← hρ]; simp [wipeE, hlen]
  have r16 : ρ1[16]? = some (.fz (.int l.2.1)) := by rw [← hρ]; simp [wipeE, hlen]
  have r17 : ρ1[17]? = some (.fz (errD l.2.2)) := by rw [← hρ]; simp [wipeE, hlen]
  have r19 : ρ1[19]? = some (.fz (.int t)) := by rw [← hρ]; simp [wipeE, h19]
  have rl : ρ1.length = 32 := by rw [← hρ]; simp [wipeE, hlen]
  have er := er_lc t l.2.2 hs.n2 (fun p hp => by have := hs.er p hp; exact mulOk64 (by omega) (by omega)) ρ1 r17 r19 rl
  refine ⟨ρ1, by simp [linkD, hρ], ?_⟩
  simp only [mkT_s, lCons_s, lNil_s, vR_s, d2_s, r15, r16, r19, Option.bind_some, mulI_i, m1, if_true, er]
  rfl
theorem mn_lc (t : Int) (ht0 : 2 ≤ t) (ht1 : t ≤ 4) (c : List Link) (hl : c.length ≤ 6) (hk : ∀ l ∈ c, SOk l) (ρ : Env) (h : ρ[4]? = some (.fz (chD c))) (h19 : ρ[19]? = some (.fz (.int t))) (hlen : ρ.length = 32) :
    dLc (iSeq (vR 4)) (gT (gsCons (gN 15) (gsCons (gN 16) (gsCons (gN 17) gsNil))) 3) bYes (mkT (lCons (vR 15) (lCons (vR 16) (lCons (dLc (iSeq (vR 17)) (gT (gsCons (gN 29) (gsCons (gN 30) gsNil)) 2) bYes (mkT (lCons (vR 29) (lCons (d2 mulI (vR 19) (vR 30)) lNil))) [29, 30]) lNil)))) [15, 16, 17] ρ = some (chD (c.map (mnL t))) := by
  refine dLc_of (ds := c.map linkD) (by simp [h, chD]) (lcL_map linkD linkD (mnL t) c fun l hl => ?_) (by simp; omega)
  have hs := hk l hl
  generalize hρ : (((wipeE ρ [15, 16, 17]).set 15 (.fz (.int l.1))).set 16 (.fz (.int l.2.1))).set 17 (.fz (errD l.2.2)) = ρ1
  have r15 : ρ1[15]? = some (.fz (.int l.1)) := by rw [← hρ]; simp [wipeE, hlen]
  have r16 : ρ1[16]? = some (.fz (.int l.2.1)) := by rw [← hρ]; simp [wipeE, hlen]
  have r17 : ρ1[17]? = some (.fz (errD l.2.2)) := by rw [← hρ]; simp [wipeE, hlen]
  have r19 : ρ1[19]? = some (.fz (.int t)) := by rw [← hρ]; simp [wipeE, h19]
  have rl : ρ1.length = 32 := by rw [← hρ]; simp [wipeE, hlen]
  have er := er_lc2 t l.2.2 hs.n2 (fun p hp => by have := hs.er p hp; exact mulOk64 (by omega) (by omega)) ρ1 r17 r19 rl
  refine ⟨ρ1, by simp [linkD, hρ], ?_⟩
  simp only [mkT_s, lCons_s, lNil_s, vR_s, r15, r16, Option.bind_some, er]
  rfl
end Zx.k61
/-! Q9: the law is true of every script. -/
namespace Zx.k61
open PySem PySem.Spec L2 Zx
theorem key_in (c : List Link) (hc : COk c) (l : Zd) (nd : NDk l) (ps : Pos l) (hm : ∀ G, sumZ G l = mu c G) : ∀ p ∈ l, loC c ≤ p.1 ∧ p.1 ≤ hiC c := fun p hp => by
  have h1 : getZ l p.1 = p.2 := by
    unfold getZ
    rw [getE_of nd hp]
    rfl
  have h2 := sumZ_ind nd p.1
  rw [h1, hm] at h2
  have h3 := ps p hp
  have z : mu c (fun _ => 0) = 0 := by
    rw [← hm]
    exact sum_zero l
  apply Classical.byContradiction
  intro hn
  have : mu c (fun x => if x = p.1 then 1 else 0) = mu c fun _ => 0 := mu_in c hc.ok fun x x1 x2 => by
    rw [if_neg]
    intro e
    omega
  omega
theorem ne_pair (a b c d : Int) (h1 : a = c) (h2 : b = d) : neD (.tuple [.int a, .int b]) (.tuple [.int c, .int d]) = some false := by
  subst h1 h2
  have e : neD (.tuple [.int a, .int b]) (.tuple [.int a, .int b]) = some (!(decide (a = a) && (decide (b = b) && true))) := rfl
  rw [e]
  simp
theorem len_of {l : Zd} {c : List Link} (h : l.length ≤ 3 ^ c.length) (hc : c.length ≤ 3) : l.length ≤ 30 := by
  have : 3 ^ c.length ≤ 3 ^ 3 := Nat.pow_le_pow_right (by decide) hc
  omega
theorem val_of {l : Zd} {c : List Link} (hc : COk c) (ps : Pos l) (hm : ∀ G, sumZ G l = mu c G) : ∀ p ∈ l, p.2 < 2 ^ 64 := fun p hp => by
  have h1 := sumZ_one ps p hp
  rw [hm] at h1
  have := mu_one6 c hc
  omega
theorem addC (c d : List Link) (h : c.length + d.length ≤ 1000) : addD (chD c) (chD d) = some (chD (c ++ d)) := by
  have : (c.map linkD).length + (d.map linkD).length ≤ 1000000 := by simp; omega
  unfold chD
  rw [addD_l, if_pos this, List.map_append]
theorem revC (c : List Link) : revD (chD c) = some (chD c.reverse) := by
  show some (PyData.list (c.map linkD).reverse) = some (PyData.list (c.reverse.map linkD))
  rw [List.map_reverse]
theorem cutC (l : Link) (c : List Link) : cutD (some 1) none (chD (l :: c)) = some (chD c) := by
  show some (PyData.list (cutL ((l :: c).map linkD) (some 1) none)) = _
  unfold cutL HT.sIx
  have : (c.map linkD).take c.length = c.map linkD := List.take_of_length_le (by simp)
  simp [chD, this]
theorem law_true (ns : List Int) (h : ns.length ≤ 63) : f_law [scrD ns] = some (.bool true) := by
  obtain ⟨dr, hdr, hd⟩ := draws_ok ns h
  generalize scrD ns = S at *
  obtain ⟨c, c1, c2, c3, c4⟩ := law_chain_ok hd 10 (by decide) (by decide)
  obtain ⟨d, dd1, dd2, dd3, dd4⟩ := law_chain_ok hd 60 (by decide) (by decide)
  obtain ⟨tv, t1, t2, t3⟩ := mix_ok hd (by decide) 1 50 (by decide) (by decide) (by decide)
  obtain ⟨t', u1, u2, u3⟩ := mix_ok hd (by decide) 2 3 (by decide) (by decide) (by decide)
  have shb := @shB_ok dr hd
  generalize PyData.list (dr.map .int) = DR at *
  have hc : COk c := ⟨c2, by omega, fun l hl => (c4 l hl).l⟩
  have hdk : COk d := ⟨dd2, by omega, fun l hl => (dd4 l hl).l⟩
  have hb : COk (c ++ d) := ⟨by rw [List.length_append]; omega, by rw [List.length_append]; omega, fun l hl => by
    rcases List.mem_append.mp hl with hl | hl
    · exact hc.ok l hl
    · exact hdk.ok l hl⟩
  have hbs : ∀ l ∈ c ++ d, SOk l := fun l hl => by
    rcases List.mem_append.mp hl with hl | hl
    · exact c4 l hl
    · exact dd4 l hl
  have hb2 : COk (d ++ c) := ⟨by rw [List.length_append]; omega, by rw [List.length_append]; omega, fun l hl => hb.ok l (by
    rcases List.mem_append.mp hl with hl | hl
    · exact List.mem_append_right _ hl
    · exact List.mem_append_left _ hl)⟩
  have hrv : COk (c ++ d).reverse := ⟨by rw [List.length_reverse]; exact hb.n1, by rw [List.length_reverse]; exact hb.n2, fun l hl => hb.ok l (List.mem_reverse.mp hl)⟩
  have hng : COk (c.map ngL) := ⟨by rw [List.length_map]; exact c2, by rw [List.length_map]; omega, fun l hl => by
    obtain ⟨m, hm, rfl⟩ := List.mem_map.mp hl
    exact (c4 m hm).ng⟩
  generalize ht : 2 + t' = t at *
  have hsc : COk (c.map (scL t)) := ⟨by rw [List.length_map]; exact c2, by rw [List.length_map]; omega, fun l hl => by
    obtain ⟨m, hm, rfl⟩ := List.mem_map.mp hl
    exact (c4 m hm).sc t (by omega) (by omega)⟩
  have hmn : COk ((c ++ d).map (mnL t)) := ⟨by rw [List.length_map]; exact hb.n1, by rw [List.length_map]; exact hb.n2, fun l hl => by
    obtain ⟨m, hm, rfl⟩ := List.mem_map.mp hl
    exact (hbs m hm).mn t (by omega) (by omega)⟩
  obtain ⟨k0, rest, hcc⟩ : ∃ k0 rest, c = k0 :: rest := by
    cases c with
    | nil => simp at c2
    | cons k0 rest => exact ⟨k0, rest, rfl⟩
  have hmv : COk (mvL tv k0 :: rest) := by
    subst hcc
    refine ⟨by simp, by simpa using hc.n2, fun l hl => ?_⟩
    rcases List.mem_cons.mp hl with rfl | hl
    · exact (c4 k0 List.mem_cons_self).mv tv t2 t3
    · exact hc.ok l (List.mem_cons_of_mem _ hl)
  have hsg : k0.1 = 1 ∨ k0.1 = -1 := (hc.ok k0 (hcc ▸ List.mem_cons_self)).sg
  obtain ⟨l1, a1, a2, a3, a4, a5⟩ := ways_eq c hc
  obtain ⟨l2, b1, b2', b3, b4, b5⟩ := ways_eq d hdk
  obtain ⟨l3, e1, e2, e3, e4, e5⟩ := ways_eq (c ++ d) hb
  obtain ⟨l4, f1, f2, f3, f4, f5⟩ := ways_eq (d ++ c) hb2
  obtain ⟨l5, g1, g2, g3, g4, g5⟩ := ways_eq (c ++ d).reverse hrv
  obtain ⟨l6, h1, h2, h3, h4, h5⟩ := ways_eq (c.map ngL) hng
  obtain ⟨l7, i1, i2, i3, i4, i5⟩ := ways_eq (mvL tv k0 :: rest) hmv
  obtain ⟨l8, j1, j2, j3, j4, j5⟩ := ways_eq (c.map (scL t)) hsc
  have v1 := val_of hc a3 a5
  have v2 := val_of hdk b3 b5
  have n1 := len_of a4 c3
  have n2 := len_of b4 dd3
  have kin := key_in c hc l1 a2 a3 a5
  obtain ⟨lo1, hi1⟩ := lo_b c hc.ok
  have ad1 := addC c d (by omega)
  have ad2 := addC d c (by omega)
  have rv := revC (c ++ d)
  have m1 := mean_eq c hc
  have m2 := mean_eq d hdk
  have m3 := mean_eq (c ++ d) hb
  have m4 := mean_eq (c.map ngL) hng
  have m5 := mean_eq (c.map (scL t)) hsc
  obtain ⟨s1, s1'⟩ := spread_eq c hc
  obtain ⟨s2, s2'⟩ := spread_eq d hdk
  have s3 := (spread_eq (c ++ d) hb).1
  have s4 := (spread_eq (c.map ngL) hng).1
  have s5 := (spread_eq (c.map (scL t)) hsc).1
  have s6 := (spread_eq (mvL tv k0 :: rest) hmv).1
  rw [spQ_ng] at s4
  rw [spQ_mv, ← hcc] at s6
  have q1 := mnQ_sk c hc
  have q2 := mnQ_sk d hdk
  have p1 := lplus_eq (mnQ c) (mnQ d) (q1.sq (by decide)) (q2.sq (by decide))
  have p2 := lplus_eq (spQ c) (spQ d) (s1'.sq (by decide)) (s2'.sq (by decide))
  rw [← mnQ_append] at p1
  rw [← spQ_append] at p2
  have sk1 : Sk 4 ((-1 : Int) : Rat) := Sk_int (by decide) (by decide)
  have sk2 : Sk 4 (t : Rat) := Sk_int (by omega) (by decide)
  have sk3 : Sk 8 ((t * t : Int) : Rat) := Sk_int (by
    have : t = 2 ∨ t = 3 ∨ t = 4 := by omega
    rcases this with e | e | e <;> rw [e] <;> decide) (by decide)
  have r1 := ltimes_eq ((-1 : Int) : Rat) (mnQ c) (sk1.sq (by decide)) (q1.sq (by decide))
  have r2 := ltimes_eq (t : Rat) (mnQ c) (sk2.sq (by decide)) (q1.sq (by decide))
  have r3 := ltimes_eq ((t * t : Int) : Rat) (spQ c) (sk3.sq (by decide)) (s1'.sq (by decide))
  rw [← int_fr, show ((-1 : Int) : Rat) * mnQ c = mnQ (c.map ngL) by rw [mnQ_ng]; rfl] at r1
  rw [← int_fr, ← mnQ_sc] at r2
  rw [← int_fr, ← spQ_sc] at r3
  have en1 := ends_eq c hc
  have en2 := ends_eq d hdk
  have en3 := ends_eq (c ++ d) hb
  have en4 := ne_pair (loC (c ++ d)) (hiC (c ++ d)) (loC c + loC d) (hiC c + hiC d) (loC_append c d) (hiC_append c d)
  have x1 := neDD_same l6 (l1.map fun p => (-p.1, p.2)) h2 (nd_map l1 (fun x => -x) (fun a b e => by omega) a2) h3 (pos_map (fun x => -x) a3) fun G => by rw [h5, mu_ng, sumZ_map l1 (fun x => -x), a5]
  have y1 := dictD_nd (l1.map fun p => (-p.1, p.2)) (nd_map l1 (fun x => -x) (fun a b e => by omega) a2)
  have x2 := neDD_same l7 (l1.map fun p => (p.1 + k0.1 * tv, p.2)) i2 (nd_map l1 (fun x => x + k0.1 * tv) (fun a b e => by omega) a2) i3 (pos_map (fun x => x + k0.1 * tv) a3) fun G => by rw [i5, mu_mv, sumZ_map l1 (fun x => x + k0.1 * tv), a5, ← hcc]
  have y2 := dictD_nd (l1.map fun p => (p.1 + k0.1 * tv, p.2)) (nd_map l1 (fun x => x + k0.1 * tv) (fun a b e => by omega) a2)
  have inj : ∀ a b : Int, t * a = t * b → a = b := fun a b e => Int.eq_of_mul_eq_mul_left (show t ≠ 0 by omega) e
  have x3 := neDD_same l8 (l1.map fun p => (t * p.1, p.2)) j2 (nd_map l1 (fun x => t * x) inj a2) j3 (pos_map (fun x => t * x) a3) fun G => by rw [j5, mu_sc, sumZ_map l1 (fun x => t * x), a5]
  have y3 := dictD_nd (l1.map fun p => (t * p.1, p.2)) (nd_map l1 (fun x => t * x) inj a2)
  have shl : shQ (c ++ d) (loC (c ++ d)) (hiC (c ++ d)) = 1 := sh_all _ hb.ok
  have she := (share_eq (c ++ d) hb (loC (c ++ d)) (hiC (c ++ d)) (loC_hiC _ hb.ok)).1
  rw [shl] at she
  have one : eqD (frD 1) (.tuple [.int 1, .int 1]) = some true := by
    rw [show (PyData.tuple [.int 1, .int 1] : D) = frD 1 from rfl, eqD_fr]
    simp
  have cut := cutC k0 rest
  rw [← hcc] at cut
  have ix0 : ixD (chD c) (.int 0) = some (linkD k0) := by
    rw [hcc]
    simp [chD]
  have ad3 : addD (.list [.tuple [.int k0.1, .int (k0.2.1 + tv), errD k0.2.2]]) (chD rest) = some (chD (mvL tv k0 :: rest)) := by
    have := addC [mvL tv k0] rest (by have := hc.n2; rw [hcc] at this; simp at this ⊢; omega)
    exact this
  have mt : mulOk k0.1 tv = true := mulOk64 (by rcases hsg with e | e <;> rw [e] <;> decide) (by omega)
  have mtt : mulOk t t = true := mulOk64 (by omega) (by omega)
  have ngl := ng_lc c (by omega)
  have scl := sc_lc t (by omega) (by omega) c (by omega) c4
  have mnl := mn_lc t (by omega) (by omega) (c ++ d) hb.n2 hbs
  have shb' := fun i hi => shb DR rfl c (c ++ d) hc hb hng t (by omega) hmn i hi
  have due0 : ∀ (b' c' : Slot) (due : Zd), NDk due → Pos due → (∀ G, sumZ G due = sumZ (fun a => sumZ (fun b => G (a + b)) l2) l1) → neDD (zD l3) (zD due) = some false ∧ neDD (zD l4) (zD due) = some false ∧ neDD (zD l5) (zD due) = some false := fun b' c' due w1 w2 w3 => by
    have key : ∀ G, sumZ G due = mu (c ++ d) G := fun G => by
      rw [w3, a5, mu_append]
      exact mu_congr c fun a => b5 _
    exact ⟨neDD_same l3 due e2 w1 e3 w2 fun G => by rw [key, e5], neDD_same l4 due f2 w1 f3 w2 fun G => by rw [key, f5, mu_perm List.perm_append_comm], neDD_same l5 due g2 w1 g3 w2 fun G => by rw [key, g5, mu_perm (List.reverse_perm _)]⟩
  have hlh := loC_hiC _ hb.ok
  generalize hbb : c ++ d = b at *
  generalize hbr : b.reverse = br at *
  generalize hdc : d ++ c = dc at *
  generalize hngd : c.map ngL = ng at *
  generalize hscd : c.map (scL t) = sc at *
  generalize hmvd : mvL tv k0 :: rest = mv at *
  generalize hmnd : b.map (mnL t) = mn at *
  have nf := ne_self
  unfold f_law D_law
  refine run_seq (ρ' := [.fz S, .fz DR, .no, .no, .no, .no, .no, .no, .no, .no, .no, .no, .no, .no, .no, .no, .no, .no, .no, .no, .no, .no, .no, .no, .no, .no, .no, .no, .no, .no, .no, .no]) (by simp [e_draws, hdr]) ?_
  rw [sSeq_nx (ρ' := [.fz S, .fz DR, .fz (chD c), .fz (chD d), .no, .no, .no, .no, .no, .no, .no, .no, .no, .no, .no, .no, .no, .no, .no, .no, .no, .no, .no, .no, .no, .no, .no, .no, .no, .no, .no, .no]) (by simp [c1, dd1])]
  rw [sSeq_nx (ρ' := [.fz S, .fz DR, .fz (chD c), .fz (chD d), .fz (chD b), .no, .no, .no, .no, .no, .no, .no, .no, .no, .no, .no, .no, .no, .no, .no, .no, .no, .no, .no, .no, .no, .no, .no, .no, .no, .no, .no]) (by simp [ad1])]
  rw [sSeq_nx (ρ' := [.fz S, .fz DR, .fz (chD c), .fz (chD d), .fz (chD b), .fz (zD l1), .fz (zD l2), .fz (zD l3), .no, .no, .no, .no, .no, .no, .no, .no, .no, .no, .no, .no, .no, .no, .no, .no, .no, .no, .no, .no, .no, .no, .no, .no]) (by simp [a1, b1, e1])]
  rw [sSeq_nx (ρ' := [.fz S, .fz DR, .fz (chD c), .fz (chD d), .fz (chD b), .fz (zD l1), .fz (zD l2), .fz (zD l3), .ow (zD []), .no, .no, .no, .no, .no, .no, .no, .no, .no, .no, .no, .no, .no, .no, .no, .no, .no, .no, .no, .no, .no, .no, .no]) (by simp; rfl)]
  obtain ⟨b', c', due, w1, w2, w3, w4⟩ := due_ok [.fz S, .fz DR, .fz (chD c), .fz (chD d), .fz (chD b), .fz (zD l1), .fz (zD l2), .fz (zD l3), .ow (zD []), .no, .no, .no, .no, .no, .no, .no, .no, .no, .no, .no, .no, .no, .no, .no, .no, .no, .no, .no, .no, .no, .no, .no] rfl l1 l2 rfl rfl a2 b2' a3 b3 v1 v2 n1 n2 .no .no
  obtain ⟨z1, z2, z3⟩ := due0 b' c' due w2 w3 w4
  have w1' : sFor (iKeysJ 5) (gN 9) (sFor (iKeysJ 6) (gN 25) dueI) [.fz S, .fz DR, .fz (chD c), .fz (chD d), .fz (chD b), .fz (zD l1), .fz (zD l2), .fz (zD l3), .ow (zD []), .no, .no, .no, .no, .no, .no, .no, .no, .no, .no, .no, .no, .no, .no, .no, .no, .no, .no, .no, .no, .no, .no, .no] = some (.nx [.fz S, .fz DR, .fz (chD c), .fz (chD d), .fz (chD b), .fz (zD l1), .fz (zD l2), .fz (zD l3), .ow (zD due), b', .no, .no, .no, .no, .no, .no, .no, .no, .no, .no, .no, .no, .no, .no, .no, c', .no, .no, .no, .no, .no, .no]) := w1
  unfold dueI at w1'
  rw [sSeq_nx w1']
  rw [sSeq_nx (ρ' := [.fz S, .fz DR, .fz (chD c), .fz (chD d), .fz (chD b), .fz (zD l1), .fz (zD l2), .fz (zD l3), .ow (zD due), b', .no, .no, .no, .no, .no, .no, .no, .no, .no, .no, .no, .no, .no, .no, .no, c', .no, .no, .no, .no, .no, .no]) (by
    rw [sIf_f (by simp [z1, ad2, f1, z2, rv, g1, z3])]
    rfl)]
  rw [sSeq_nx (ρ' := [.fz S, .fz DR, .fz (chD c), .fz (chD d), .fz (chD b), .fz (zD l1), .fz (zD l2), .fz (zD l3), .ow (zD due), b', .fz (.tuple [.int (loC c), .int (hiC c)]), .fz (.tuple [.int (loC d), .int (hiC d)]), .no, .no, .no, .no, .no, .no, .no, .no, .no, .no, .no, .no, .no, c', .no, .no, .no, .no, .no, .no]) (by simp [en1, en2])]
  rw [sSeq_nx (ρ' := [.fz S, .fz DR, .fz (chD c), .fz (chD d), .fz (chD b), .fz (zD l1), .fz (zD l2), .fz (zD l3), .ow (zD due), b', .fz (.tuple [.int (loC c), .int (hiC c)]), .fz (.tuple [.int (loC d), .int (hiC d)]), .no, .no, .no, .no, .no, .no, .no, .no, .no, .no, .no, .no, .no, c', .no, .no, .no, .no, .no, .no]) (by
    rw [sIf_f (by simp [en3, en4])]
    rfl)]
  rw [sSeq_nx (ρ' := [.fz S, .fz DR, .fz (chD c), .fz (chD d), .fz (chD b), .fz (zD l1), .fz (zD l2), .fz (zD l3), .ow (zD due), b', .fz (.tuple [.int (loC c), .int (hiC c)]), .fz (.tuple [.int (loC d), .int (hiC d)]), .no, .no, .no, .no, .no, .no, .no, .no, .no, .no, .no, .no, .no, c', .no, .no, .no, .no, .no, .no]) (by
    rw [sIf_f (by simp [m1, m2, m3, s1, s2, s3, e_lplus, p1, p2, nf])]
    rfl)]
  rw [sSeq_nx (ρ' := [.fz S, .fz DR, .fz (chD c), .fz (chD d), .fz (chD b), .fz (zD l1), .fz (zD l2), .fz (zD l3), .ow (zD due), b', .fz (.tuple [.int (loC c), .int (hiC c)]), .fz (.tuple [.int (loC d), .int (hiC d)]), .fz (chD ng), .no, .no, .no, .no, .no, .no, .no, .no, .no, .no, .no, .no, c', .no, .no, .no, .no, .no, .no]) (by
    rw [sLcSet_s, ngl _ rfl rfl]
    rfl)]
  rw [sSeq_nx (ρ' := [.fz S, .fz DR, .fz (chD c), .fz (chD d), .fz (chD b), .fz (zD l1), .fz (zD l2), .fz (zD l3), .ow (zD due), b', .fz (.tuple [.int (loC c), .int (hiC c)]), .fz (.tuple [.int (loC d), .int (hiC d)]), .fz (chD ng), .fz (zD l6), .no, .no, .no, .no, .no, .no, .no, .no, .no, .no, .no, c', .no, .no, .no, .no, .no, .no]) (by simp [h1])]
  have kl1 := keys_lc (d1 negD (vR 31)) (fun x => -x) [.fz S, .fz DR, .fz (chD c), .fz (chD d), .fz (chD b), .fz (zD l1), .fz (zD l2), .fz (zD l3), .ow (zD due), b', .fz (.tuple [.int (loC c), .int (hiC c)]), .fz (.tuple [.int (loC d), .int (hiC d)]), .fz (chD ng), .fz (zD l6), .no, .no, .no, .no, .no, .no, .no, .no, .no, .no, .no, c', .no, .no, .no, .no, .no, .no] l1 a2 (by omega) rfl rfl (fun p _ => by simp [wipeE])
  rw [sSeq_nx (ρ' := [.fz S, .fz DR, .fz (chD c), .fz (chD d), .fz (chD b), .fz (zD l1), .fz (zD l2), .fz (zD l3), .ow (zD due), b', .fz (.tuple [.int (loC c), .int (hiC c)]), .fz (.tuple [.int (loC d), .int (hiC d)]), .fz (chD ng), .fz (zD l6), .no, .no, .no, .no, .no, .no, .no, .no, .no, .no, .no, c', .no, .no, .no, .no, .no, .no]) (by
    rw [sIf_f (by
      simp only [bOr_s, b2_s, d1_s, kl1, y1, vR_s, List.getElem?_cons_zero, List.getElem?_cons_succ, Option.bind_some, x1]
      simp [m1, m4, s1, s4, e_ltimes, r1, nf])]
    rfl)]
  rw [sSeq_nx (ρ' := [.fz S, .fz DR, .fz (chD c), .fz (chD d), .fz (chD b), .fz (zD l1), .fz (zD l2), .fz (zD l3), .ow (zD due), b', .fz (.tuple [.int (loC c), .int (hiC c)]), .fz (.tuple [.int (loC d), .int (hiC d)]), .fz (chD ng), .fz (zD l6), .fz (.int tv), .no, .no, .no, .no, .no, .no, .no, .no, .no, .no, c', .no, .no, .no, .no, .no, .no]) (by simp [e_mix, t1])]
  rw [sSeq_nx (ρ' := [.fz S, .fz DR, .fz (chD c), .fz (chD d), .fz (chD b), .fz (zD l1), .fz (zD l2), .fz (zD l3), .ow (zD due), b', .fz (.tuple [.int (loC c), .int (hiC c)]), .fz (.tuple [.int (loC d), .int (hiC d)]), .fz (chD ng), .fz (zD l6), .fz (.int tv), .fz (.int k0.1), .fz (.int k0.2.1), .fz (errD k0.2.2), .no, .no, .no, .no, .no, .no, .no, c', .no, .no, .no, .no, .no, .no]) (by simp [ix0, linkD])]
  rw [sSeq_nx (ρ' := [.fz S, .fz DR, .fz (chD c), .fz (chD d), .fz (chD b), .fz (zD l1), .fz (zD l2), .fz (zD l3), .ow (zD due), b', .fz (.tuple [.int (loC c), .int (hiC c)]), .fz (.tuple [.int (loC d), .int (hiC d)]), .fz (chD ng), .fz (zD l6), .fz (.int tv), .fz (.int k0.1), .fz (.int k0.2.1), .fz (errD k0.2.2), .fz (chD mv), .no, .no, .no, .no, .no, .no, c', .no, .no, .no, .no, .no, .no]) (by simp [cut, ad3])]
  have kl2 := keys_lc (d2 addD (vR 31) (d2 mulI (vR 15) (vR 14))) (fun x => x + k0.1 * tv) [.fz S, .fz DR, .fz (chD c), .fz (chD d), .fz (chD b), .fz (zD l1), .fz (zD l2), .fz (zD l3), .ow (zD due), b', .fz (.tuple [.int (loC c), .int (hiC c)]), .fz (.tuple [.int (loC d), .int (hiC d)]), .fz (chD ng), .fz (zD l6), .fz (.int tv), .fz (.int k0.1), .fz (.int k0.2.1), .fz (errD k0.2.2), .fz (chD mv), .no, .no, .no, .no, .no, .no, c', .no, .no, .no, .no, .no, .no] l1 a2 (by omega) rfl rfl (fun p _ => by simp [wipeE, mt])
  rw [sSeq_nx (ρ' := [.fz S, .fz DR, .fz (chD c), .fz (chD d), .fz (chD b), .fz (zD l1), .fz (zD l2), .fz (zD l3), .ow (zD due), b', .fz (.tuple [.int (loC c), .int (hiC c)]), .fz (.tuple [.int (loC d), .int (hiC d)]), .fz (chD ng), .fz (zD l6), .fz (.int tv), .fz (.int k0.1), .fz (.int k0.2.1), .fz (errD k0.2.2), .fz (chD mv), .no, .no, .no, .no, .no, .no, c', .no, .no, .no, .no, .no, .no]) (by
    rw [sIf_f (by
      simp only [bOr_s, b2_s, d1_s, dCall_s, lCons_s, lNil_s, kl2, y2, i1, vR_s, List.getElem?_cons_zero, List.getElem?_cons_succ, Option.bind_some, x2]
      simp [s1, s6, nf])]
    rfl)]
  rw [sSeq_nx (ρ' := [.fz S, .fz DR, .fz (chD c), .fz (chD d), .fz (chD b), .fz (zD l1), .fz (zD l2), .fz (zD l3), .ow (zD due), b', .fz (.tuple [.int (loC c), .int (hiC c)]), .fz (.tuple [.int (loC d), .int (hiC d)]), .fz (chD ng), .fz (zD l6), .fz (.int tv), .fz (.int k0.1), .fz (.int k0.2.1), .fz (errD k0.2.2), .fz (chD mv), .fz (.int t), .no, .no, .no, .no, .no, c', .no, .no, .no, .no, .no, .no]) (by simp [e_mix, u1, ht])]
  rw [sSeq_nx (ρ' := [.fz S, .fz DR, .fz (chD c), .fz (chD d), .fz (chD b), .fz (zD l1), .fz (zD l2), .fz (zD l3), .ow (zD due), b', .fz (.tuple [.int (loC c), .int (hiC c)]), .fz (.tuple [.int (loC d), .int (hiC d)]), .fz (chD ng), .fz (zD l6), .fz (.int tv), .fz (.int k0.1), .fz (.int k0.2.1), .fz (errD k0.2.2), .fz (chD mv), .fz (.int t), .fz (chD sc), .no, .no, .no, .no, c', .no, .no, .no, .no, .no, .no]) (by
    rw [sLcSet_s, scl _ rfl rfl rfl]
    rfl)]
  have kl3 := keys_lc (d2 mulI (vR 19) (vR 31)) (fun x => t * x) [.fz S, .fz DR, .fz (chD c), .fz (chD d), .fz (chD b), .fz (zD l1), .fz (zD l2), .fz (zD l3), .ow (zD due), b', .fz (.tuple [.int (loC c), .int (hiC c)]), .fz (.tuple [.int (loC d), .int (hiC d)]), .fz (chD ng), .fz (zD l6), .fz (.int tv), .fz (.int k0.1), .fz (.int k0.2.1), .fz (errD k0.2.2), .fz (chD mv), .fz (.int t), .fz (chD sc), .no, .no, .no, .no, c', .no, .no, .no, .no, .no, .no] l1 a2 (by omega) rfl rfl (fun p hp => by
    have k1 := kin p hp
    have : mulOk t p.1 = true := mulOk64 (by omega) (by omega)
    simp [wipeE, this])
  rw [sSeq_nx (ρ' := [.fz S, .fz DR, .fz (chD c), .fz (chD d), .fz (chD b), .fz (zD l1), .fz (zD l2), .fz (zD l3), .ow (zD due), b', .fz (.tuple [.int (loC c), .int (hiC c)]), .fz (.tuple [.int (loC d), .int (hiC d)]), .fz (chD ng), .fz (zD l6), .fz (.int tv), .fz (.int k0.1), .fz (.int k0.2.1), .fz (errD k0.2.2), .fz (chD mv), .fz (.int t), .fz (chD sc), .no, .no, .no, .no, c', .no, .no, .no, .no, .no, .no]) (by
    rw [sIf_f (by
      simp only [bOr_s, b2_s, d1_s, dCall_s, lCons_s, lNil_s, kl3, y3, j1, vR_s, List.getElem?_cons_zero, List.getElem?_cons_succ, Option.bind_some, x3])]
    rfl)]
  rw [sSeq_nx (ρ' := [.fz S, .fz DR, .fz (chD c), .fz (chD d), .fz (chD b), .fz (zD l1), .fz (zD l2), .fz (zD l3), .ow (zD due), b', .fz (.tuple [.int (loC c), .int (hiC c)]), .fz (.tuple [.int (loC d), .int (hiC d)]), .fz (chD ng), .fz (zD l6), .fz (.int tv), .fz (.int k0.1), .fz (.int k0.2.1), .fz (errD k0.2.2), .fz (chD mv), .fz (.int t), .fz (chD sc), .no, .no, .no, .no, c', .no, .no, .no, .no, .no, .no]) (by
    rw [sIf_f (by simp [m1, m5, s1, s5, mtt, e_ltimes, r2, r3, nf])]
    rfl)]
  rw [sSeq_nx (ρ' := [.fz S, .fz DR, .fz (chD c), .fz (chD d), .fz (chD b), .fz (zD l1), .fz (zD l2), .fz (zD l3), .ow (zD due), b', .fz (.tuple [.int (loC c), .int (hiC c)]), .fz (.tuple [.int (loC d), .int (hiC d)]), .fz (chD ng), .fz (zD l6), .fz (.int tv), .fz (.int k0.1), .fz (.int k0.2.1), .fz (errD k0.2.2), .fz (chD mv), .fz (.int t), .fz (chD sc), .fz (chD mn), .no, .no, .no, c', .no, .no, .no, .no, .no, .no]) (by
    rw [sLcSet_s, mnl _ rfl rfl rfl]
    rfl)]
  rw [sSeq_nx (ρ' := [.fz S, .fz DR, .fz (chD c), .fz (chD d), .fz (chD b), .fz (zD l1), .fz (zD l2), .fz (zD l3), .ow (zD due), b', .fz (.tuple [.int (loC c), .int (hiC c)]), .fz (.tuple [.int (loC d), .int (hiC d)]), .fz (chD ng), .fz (zD l6), .fz (.int tv), .fz (.int k0.1), .fz (.int k0.2.1), .fz (errD k0.2.2), .fz (chD mv), .fz (.int t), .fz (chD sc), .fz (chD mn), .fz (.int (loC b)), .fz (.int (hiC b)), .no, c', .no, .no, .no, .no, .no, .no]) (by simp [en3])]
  obtain ⟨ρ', y11, y12⟩ := sFor_ok (fi := iR1 (kD (.int 4))) (g := gN 24) (fb := shB) (ρ := [.fz S, .fz DR, .fz (chD c), .fz (chD d), .fz (chD b), .fz (zD l1), .fz (zD l2), .fz (zD l3), .ow (zD due), b', .fz (.tuple [.int (loC c), .int (hiC c)]), .fz (.tuple [.int (loC d), .int (hiC d)]), .fz (chD ng), .fz (zD l6), .fz (.int tv), .fz (.int k0.1), .fz (.int k0.2.1), .fz (errD k0.2.2), .fz (chD mv), .fz (.int t), .fz (chD sc), .fz (chD mn), .fz (.int (loC b)), .fz (.int (hiC b)), .no, c', .no, .no, .no, .no, .no, .no]) (ds := rgL 0 4)
    (fun j ρ => ∃ x24 x26 x27 x28, ρ = [.fz S, .fz DR, .fz (chD c), .fz (chD d), .fz (chD b), .fz (zD l1), .fz (zD l2), .fz (zD l3), .ow (zD due), b', .fz (.tuple [.int (loC c), .int (hiC c)]), .fz (.tuple [.int (loC d), .int (hiC d)]), .fz (chD ng), .fz (zD l6), .fz (.int tv), .fz (.int k0.1), .fz (.int k0.2.1), .fz (errD k0.2.2), .fz (chD mv), .fz (.int t), .fz (chD sc), .fz (chD mn), .fz (.int (loC b)), .fz (.int (hiC b)), x24, c', x26, x27, x28, .no, .no, .no]) (by simp [rg1]) ⟨.no, .no, .no, .no, rfl⟩ (fun j dd ρ hdj ⟨x24, x26, x27, x28, hρ⟩ => by
      subst hρ
      obtain ⟨hj, rfl⟩ := rgL_at hdj
      rw [show (0 : Int) + (j : Int) = (j : Int) by omega]
      obtain ⟨o26, o27, o28, ho⟩ := shb' j hj (.fz S) (.fz (chD d)) (.fz (zD l1)) (.fz (zD l2)) (.fz (zD l3)) (.ow (zD due)) b' (.fz (.tuple [.int (loC c), .int (hiC c)])) (.fz (.tuple [.int (loC d), .int (hiC d)])) (.fz (zD l6)) (.fz (.int tv)) (.fz (.int k0.1)) (.fz (.int k0.2.1)) (.fz (errD k0.2.2)) (.fz (chD mv)) (.fz (.int t)) (.fz (chD sc)) c' x26 x27 x28 .no .no .no
      exact ⟨_, _, rfl, ho, _, .inl rfl, _, _, _, _, rfl⟩)
  obtain ⟨x24, x26, x27, x28, rfl⟩ := y12
  unfold shB at y11
  rw [sSeq_nx y11]
  simp [she, one]
end Zx.k61
namespace Zx.k61
open PySem PySem.Spec PyProof.Rows L2 Zx
/-! ### the head -/
def d__law_draws : He.DefD := ⟨("_law_draws", none), "_law_draws", "_law_draws", defArgs (topOf PR 29), defBody (topOf PR 29), defScope (topOf PR 29), [], []⟩
def d_is_link : He.DefD := ⟨("is_link", none), "is_link", "is_link", defArgs (topOf PR 18), defBody (topOf PR 18), defScope (topOf PR 18), [], []⟩
def d_check_chain : He.DefD := ⟨("check_chain", none), "check_chain", "check_chain", defArgs (topOf PR 19), defBody (topOf PR 19), defScope (topOf PR 19), [], []⟩
def d_ways_of : He.DefD := ⟨("ways_of", none), "ways_of", "ways_of", defArgs (topOf PR 20), defBody (topOf PR 20), defScope (topOf PR 20), [], []⟩
def d_ways : He.DefD := ⟨("ways", none), "ways", "ways", defArgs (topOf PR 21), defBody (topOf PR 21), defScope (topOf PR 21), [], []⟩
def d__law_mix : He.DefD := ⟨("_law_mix", none), "_law_mix", "_law_mix", defArgs (topOf PR 30), defBody (topOf PR 30), defScope (topOf PR 30), [], []⟩
def d_ends : He.DefD := ⟨("ends", none), "ends", "ends", defArgs (topOf PR 22), defBody (topOf PR 22), defScope (topOf PR 22), [], []⟩
def d__law_chain : He.DefD := ⟨("_law_chain", none), "_law_chain", "_law_chain", defArgs (topOf PR 34), defBody (topOf PR 34), defScope (topOf PR 34), [], []⟩
def d_fraction : He.DefD := ⟨("fraction", none), "fraction", "fraction", defArgs (topOf PR 7), defBody (topOf PR 7), defScope (topOf PR 7), [], []⟩
def d_share : He.DefD := ⟨("share", none), "share", "share", defArgs (topOf PR 27), defBody (topOf PR 27), defScope (topOf PR 27), [], []⟩
def d_plus : He.DefD := ⟨("plus", none), "plus", "plus", defArgs (topOf PR 8), defBody (topOf PR 8), defScope (topOf PR 8), [], []⟩
def d_total : He.DefD := ⟨("total", none), "total", "total", defArgs (topOf PR 11), defBody (topOf PR 11), defScope (topOf PR 11), [], []⟩
def d_times : He.DefD := ⟨("times", none), "times", "times", defArgs (topOf PR 10), defBody (topOf PR 10), defScope (topOf PR 10), [], []⟩
def d_mean_error : He.DefD := ⟨("mean_error", none), "mean_error", "mean_error", defArgs (topOf PR 23), defBody (topOf PR 23), defScope (topOf PR 23), [], []⟩
def d_mean : He.DefD := ⟨("mean", none), "mean", "mean", defArgs (topOf PR 24), defBody (topOf PR 24), defScope (topOf PR 24), [], []⟩
def d__law_fraction : He.DefD := ⟨("_law_fraction", none), "_law_fraction", "_law_fraction", defArgs (topOf PR 31), defBody (topOf PR 31), defScope (topOf PR 31), [], []⟩
def d__law_plus : He.DefD := ⟨("_law_plus", none), "_law_plus", "_law_plus", defArgs (topOf PR 32), defBody (topOf PR 32), defScope (topOf PR 32), [], []⟩
def d_minus : He.DefD := ⟨("minus", none), "minus", "minus", defArgs (topOf PR 9), defBody (topOf PR 9), defScope (topOf PR 9), [], []⟩
def d_spread_of : He.DefD := ⟨("spread_of", none), "spread_of", "spread_of", defArgs (topOf PR 25), defBody (topOf PR 25), defScope (topOf PR 25), [], []⟩
def d_spread : He.DefD := ⟨("spread", none), "spread", "spread", defArgs (topOf PR 26), defBody (topOf PR 26), defScope (topOf PR 26), [], []⟩
def d__law_times : He.DefD := ⟨("_law_times", none), "_law_times", "_law_times", defArgs (topOf PR 33), defBody (topOf PR 33), defScope (topOf PR 33), [], []⟩
def d_law : He.DefD := ⟨("law", none), "law", "law", defArgs (topOf PR 35), defBody (topOf PR 35), defScope (topOf PR 35), [], []⟩
def fn : List He.DefD := [d__law_draws, d_is_link, d_check_chain, d_ways_of, d_ways, d__law_mix, d_ends, d__law_chain, d_fraction, d_share, d_plus, d_total, d_times, d_mean_error, d_mean, d__law_fraction, d__law_plus, d_minus, d_spread_of, d_spread, d__law_times, d_law]
def fa : List He.Fa := [.glo "_law_draws", .glo "is_link", .glo "check_chain", .glo "ways_of", .glo "ways", .glo "_law_mix", .glo "ends", .glo "_law_chain", .glo "fraction", .glo "share", .glo "plus", .glo "total", .glo "times", .glo "mean_error", .glo "mean", .glo "_law_fraction", .glo "_law_plus", .glo "minus", .glo "spread_of", .glo "spread", .glo "_law_times", .glo "law", .free "abs", .free "dict", .free "enumerate", .free "int", .free "len", .free "max", .free "min", .free "range", .free "set", .free "sorted", .free "sum", .int "MOST_COUNT" (100), .int "MOST_ERROR" (50), .int "MOST_ERRORS" (6), .int "MOST_LINK" (1000), .int "MOST_LINKS" (8)]
def loose : List PySem.Str := (["__name__", "WareError", "WrongSize", "BadLimit", "BadLink", "fraction", "plus", "minus", "times", "total", "MOST_LINKS", "MOST_LINK", "MOST_ERRORS", "MOST_ERROR", "MOST_COUNT", "is_link", "check_chain", "ways_of", "ways", "ends", "mean_error", "mean", "spread_of", "spread", "share", "_law_draws", "_law_mix", "_law_fraction", "_law_plus", "_law_times"] : List PySem.Str) ++ (["_law_chain"] : List PySem.Str)
abbrev R : PySem.W.OpenRow := PySem.W.OpenLaw.row PySem.Challenge.rw_triedwares_k61_whole_chains_put_together
def ex (K : PySem.W.Frag) : Bool := He.eqO (PySem.W.nsIn K mainGlobals "gcd") (some (some (.builtin "math.gcd")))
abbrev hk : PySem.W.Hook := He.hookX 4 fa fn [] [] ex
def ob (s : PySem.W.SharedT) : He.AlX := He.obsX 4 fa fn [] [] ex (HandSHeadRun.getT s)
theorem ob_eq (s : PySem.W.SharedT) : ob s = hk.obs s.abs := He.obsX_eq (HandSHeadRun.getT_eq s)
theorem run (w : World) : HandSHeadRun.RunEqI R (PySem.W.view R.prog [0, 35]) hk ob 6000 loose w := by
  unfold HandSHeadRun.RunEqI
  kernel_rfl
theorem facts {w : World} {K : PySem.W.Frag} {mg : Str → Option Value} {h : Heap} {f : Addr} (X : K.In h) (G : h.Ns mainGlobals mg) (hfa : mg ("law" : Str) = some (.ref f)) (c : He.SaysD fa fn K) (hgcd : ex K = true) :
    ∃ fd : FuncData, (∀ (s : Shared) (v : Value), BindsTo s fd ⟨[v], []⟩ [("script", v)]) ∧ ∀ base : Heap, K.In base → base.Ns mainGlobals mg → FnOk PR w K mg base CX0 6 f fd ["script"] (spX K 1 f_law) := by
  obtain ⟨fd__law_draws, F__law_draws⟩ := c.def_ 0 (d := d__law_draws) rfl
  have m__law_draws := He.glo_ok X G (c.fact 0 (f := .glo "_law_draws") rfl)
  obtain ⟨fd_is_link, F_is_link⟩ := c.def_ 1 (d := d_is_link) rfl
  have m_is_link := He.glo_ok X G (c.fact 1 (f := .glo "is_link") rfl)
  obtain ⟨fd_check_chain, F_check_chain⟩ := c.def_ 2 (d := d_check_chain) rfl
  have m_check_chain := He.glo_ok X G (c.fact 2 (f := .glo "check_chain") rfl)
  obtain ⟨fd_ways_of, F_ways_of⟩ := c.def_ 3 (d := d_ways_of) rfl
  have m_ways_of := He.glo_ok X G (c.fact 3 (f := .glo "ways_of") rfl)
  obtain ⟨fd_ways, F_ways⟩ := c.def_ 4 (d := d_ways) rfl
  have m_ways := He.glo_ok X G (c.fact 4 (f := .glo "ways") rfl)
  obtain ⟨fd__law_mix, F__law_mix⟩ := c.def_ 5 (d := d__law_mix) rfl
  have m__law_mix := He.glo_ok X G (c.fact 5 (f := .glo "_law_mix") rfl)
  obtain ⟨fd_ends, F_ends⟩ := c.def_ 6 (d := d_ends) rfl
  have m_ends := He.glo_ok X G (c.fact 6 (f := .glo "ends") rfl)
  obtain ⟨fd__law_chain, F__law_chain⟩ := c.def_ 7 (d := d__law_chain) rfl
  have m__law_chain := He.glo_ok X G (c.fact 7 (f := .glo "_law_chain") rfl)
  obtain ⟨fd_fraction, F_fraction⟩ := c.def_ 8 (d := d_fraction) rfl
  have m_fraction := He.glo_ok X G (c.fact 8 (f := .glo "fraction") rfl)
  obtain ⟨fd_share, F_share⟩ := c.def_ 9 (d := d_share) rfl
  have m_share := He.glo_ok X G (c.fact 9 (f := .glo "share") rfl)
  obtain ⟨fd_plus, F_plus⟩ := c.def_ 10 (d := d_plus) rfl
  have m_plus := He.glo_ok X G (c.fact 10 (f := .glo "plus") rfl)
  obtain ⟨fd_total, F_total⟩ := c.def_ 11 (d := d_total) rfl
  have m_total := He.glo_ok X G (c.fact 11 (f := .glo "total") rfl)
  obtain ⟨fd_times, F_times⟩ := c.def_ 12 (d := d_times) rfl
  have m_times := He.glo_ok X G (c.fact 12 (f := .glo "times") rfl)
  obtain ⟨fd_mean_error, F_mean_error⟩ := c.def_ 13 (d := d_mean_error) rfl
  have m_mean_error := He.glo_ok X G (c.fact 13 (f := .glo "mean_error") rfl)
  obtain ⟨fd_mean, F_mean⟩ := c.def_ 14 (d := d_mean) rfl
  have m_mean := He.glo_ok X G (c.fact 14 (f := .glo "mean") rfl)
  obtain ⟨fd__law_fraction, F__law_fraction⟩ := c.def_ 15 (d := d__law_fraction) rfl
  have m__law_fraction := He.glo_ok X G (c.fact 15 (f := .glo "_law_fraction") rfl)
  obtain ⟨fd__law_plus, F__law_plus⟩ := c.def_ 16 (d := d__law_plus) rfl
  have m__law_plus := He.glo_ok X G (c.fact 16 (f := .glo "_law_plus") rfl)
  obtain ⟨fd_minus, F_minus⟩ := c.def_ 17 (d := d_minus) rfl
  have m_minus := He.glo_ok X G (c.fact 17 (f := .glo "minus") rfl)
  obtain ⟨fd_spread_of, F_spread_of⟩ := c.def_ 18 (d := d_spread_of) rfl
  have m_spread_of := He.glo_ok X G (c.fact 18 (f := .glo "spread_of") rfl)
  obtain ⟨fd_spread, F_spread⟩ := c.def_ 19 (d := d_spread) rfl
  have m_spread := He.glo_ok X G (c.fact 19 (f := .glo "spread") rfl)
  obtain ⟨fd__law_times, F__law_times⟩ := c.def_ 20 (d := d__law_times) rfl
  have m__law_times := He.glo_ok X G (c.fact 20 (f := .glo "_law_times") rfl)
  obtain ⟨fd_law, F_law⟩ := c.def_ 21 (d := d_law) rfl
  have h_abs := He.free_ok X G (c.fact 22 (f := .free "abs") rfl)
  have h_dict := He.free_ok X G (c.fact 23 (f := .free "dict") rfl)
  have h_enumerate := He.free_ok X G (c.fact 24 (f := .free "enumerate") rfl)
  have h_int := He.free_ok X G (c.fact 25 (f := .free "int") rfl)
  have h_len := He.free_ok X G (c.fact 26 (f := .free "len") rfl)
  have h_max := He.free_ok X G (c.fact 27 (f := .free "max") rfl)
  have h_min := He.free_ok X G (c.fact 28 (f := .free "min") rfl)
  have h_range := He.free_ok X G (c.fact 29 (f := .free "range") rfl)
  have h_set := He.free_ok X G (c.fact 30 (f := .free "set") rfl)
  have h_sorted := He.free_ok X G (c.fact 31 (f := .free "sorted") rfl)
  have h_sum := He.free_ok X G (c.fact 32 (f := .free "sum") rfl)
  obtain ⟨t_MOST_COUNT, h_MOST_COUNT⟩ := He.int_ok X G (c.fact 33 (f := .int "MOST_COUNT" (100)) rfl)
  obtain ⟨t_MOST_ERROR, h_MOST_ERROR⟩ := He.int_ok X G (c.fact 34 (f := .int "MOST_ERROR" (50)) rfl)
  obtain ⟨t_MOST_ERRORS, h_MOST_ERRORS⟩ := He.int_ok X G (c.fact 35 (f := .int "MOST_ERRORS" (6)) rfl)
  obtain ⟨t_MOST_LINK, h_MOST_LINK⟩ := He.int_ok X G (c.fact 36 (f := .int "MOST_LINK" (1000)) rfl)
  obtain ⟨t_MOST_LINKS, h_MOST_LINKS⟩ := He.int_ok X G (c.fact 37 (f := .int "MOST_LINKS" (8)) rfl)
  have h_gcd : mg "gcd" = some (.builtin "math.gcd") := PySem.W.mg_of X G (He.eqO_ok hgcd)
  have e := hfa.symm.trans (He.glo_ok X G (c.fact 21 (f := .glo "law") rfl))
  cases e
  have bl := FunD.bindsA (ps := ["script"]) F_law fun _ _ _ _ _ _ us hl => match us, hl with | [_], _ => rfl
  refine ⟨fd_law, fun s v => bl s [v] rfl, fun base _ _ => ?_⟩
  have c__law_draws : FX PR w K mg base 1 "_law_draws" 1 f__law_draws := fx_of F__law_draws sc__law_draws m__law_draws (fun _ _ _ _ _ _ us hl => match us, hl with | [_], _ => rfl) rfl (b__law_draws h_abs h_int h_len h_min h_range)
  have c_is_link : FX PR w K mg base 1 "is_link" 1 f_is_link := fx_of F_is_link sc_is_link m_is_link (fun _ _ _ _ _ _ us hl => match us, hl with | [_], _ => rfl) rfl (b_is_link h_enumerate h_len h_MOST_COUNT h_MOST_ERROR h_MOST_ERRORS h_MOST_LINK)
  have c_check_chain : FX PR w K mg base 2 "check_chain" 1 f_check_chain := fx_of F_check_chain sc_check_chain m_check_chain (fun _ _ _ _ _ _ us hl => match us, hl with | [_], _ => rfl) rfl (b_check_chain h_enumerate h_len h_MOST_LINKS (c_is_link.mono (by decide)))
  have c_ways_of : FX PR w K mg base 1 "ways_of" 1 f_ways_of := fx_of F_ways_of sc_ways_of m_ways_of (fun _ _ _ _ _ _ us hl => match us, hl with | [_], _ => rfl) rfl (b_ways_of )
  have c_ways : FX PR w K mg base 3 "ways" 1 f_ways := fx_of F_ways sc_ways m_ways (fun _ _ _ _ _ _ us hl => match us, hl with | [_], _ => rfl) rfl (b_ways (c_check_chain.mono (by decide)) (c_ways_of.mono (by decide)))
  have c__law_mix : FX PR w K mg base 1 "_law_mix" 3 f__law_mix := fx_of F__law_mix sc__law_mix m__law_mix (fun _ _ _ _ _ _ us hl => match us, hl with | [_, _, _], _ => rfl) rfl (b__law_mix h_int h_len)
  have c_ends : FX PR w K mg base 3 "ends" 1 f_ends := fx_of F_ends sc_ends m_ends (fun _ _ _ _ _ _ us hl => match us, hl with | [_], _ => rfl) rfl (b_ends h_max h_min h_sum (c_check_chain.mono (by decide)))
  have c__law_chain : FX PR w K mg base 2 "_law_chain" 3 f__law_chain := fx_of F__law_chain sc__law_chain m__law_chain (fun _ _ _ _ _ _ us hl => match us, hl with | [_, _, _], _ => rfl) rfl (b__law_chain h_len h_range h_set h_sorted (c__law_mix.mono (by decide)))
  have c_fraction : FX PR w K mg base 1 "fraction" 2 f_fraction := fx_of F_fraction sc_fraction m_fraction (fun _ _ _ _ _ _ us hl => match us, hl with | [_, _], _ => rfl) rfl (b_fraction h_gcd)
  have c_share : FX PR w K mg base 3 "share" 3 f_share := fx_of F_share sc_share m_share (fun _ _ _ _ _ _ us hl => match us, hl with | [_, _, _], _ => rfl) rfl (b_share h_sum (c_check_chain.mono (by decide)) (c_fraction.mono (by decide)) (c_ways_of.mono (by decide)))
  have c_plus : FX PR w K mg base 2 "plus" 2 f_plus := fx_of F_plus sc_plus m_plus (fun _ _ _ _ _ _ us hl => match us, hl with | [_, _], _ => rfl) rfl (b_plus (c_fraction.mono (by decide)))
  have c_total : FX PR w K mg base 3 "total" 1 f_total := fx_of F_total sc_total m_total (fun _ _ _ _ _ _ us hl => match us, hl with | [_], _ => rfl) rfl (b_total (c_plus.mono (by decide)))
  have c_times : FX PR w K mg base 2 "times" 2 f_times := fx_of F_times sc_times m_times (fun _ _ _ _ _ _ us hl => match us, hl with | [_, _], _ => rfl) rfl (b_times (c_fraction.mono (by decide)))
  have c_mean_error : FX PR w K mg base 2 "mean_error" 1 f_mean_error := fx_of F_mean_error sc_mean_error m_mean_error (fun _ _ _ _ _ _ us hl => match us, hl with | [_], _ => rfl) rfl (b_mean_error h_sum (c_fraction.mono (by decide)))
  have c_mean : FX PR w K mg base 4 "mean" 1 f_mean := fx_of F_mean sc_mean m_mean (fun _ _ _ _ _ _ us hl => match us, hl with | [_], _ => rfl) rfl (b_mean (c_check_chain.mono (by decide)) (c_mean_error.mono (by decide)) (c_plus.mono (by decide)) (c_times.mono (by decide)) (c_total.mono (by decide)))
  have c__law_fraction : FX PR w K mg base 1 "_law_fraction" 2 f__law_fraction := fx_of F__law_fraction sc__law_fraction m__law_fraction (fun _ _ _ _ _ _ us hl => match us, hl with | [_, _], _ => rfl) rfl (b__law_fraction h_abs h_int)
  have c__law_plus : FX PR w K mg base 2 "_law_plus" 2 f__law_plus := fx_of F__law_plus sc__law_plus m__law_plus (fun _ _ _ _ _ _ us hl => match us, hl with | [_, _], _ => rfl) rfl (b__law_plus (c__law_fraction.mono (by decide)))
  have c_minus : FX PR w K mg base 2 "minus" 2 f_minus := fx_of F_minus sc_minus m_minus (fun _ _ _ _ _ _ us hl => match us, hl with | [_, _], _ => rfl) rfl (b_minus (c_fraction.mono (by decide)))
  have c_spread_of : FX PR w K mg base 4 "spread_of" 1 f_spread_of := fx_of F_spread_of sc_spread_of m_spread_of (fun _ _ _ _ _ _ us hl => match us, hl with | [_], _ => rfl) rfl (b_spread_of h_sum (c_fraction.mono (by decide)) (c_mean_error.mono (by decide)) (c_minus.mono (by decide)) (c_times.mono (by decide)) (c_total.mono (by decide)))
  have c_spread : FX PR w K mg base 5 "spread" 1 f_spread := fx_of F_spread sc_spread m_spread (fun _ _ _ _ _ _ us hl => match us, hl with | [_], _ => rfl) rfl (b_spread (c_check_chain.mono (by decide)) (c_spread_of.mono (by decide)) (c_total.mono (by decide)))
  have c__law_times : FX PR w K mg base 2 "_law_times" 2 f__law_times := fx_of F__law_times sc__law_times m__law_times (fun _ _ _ _ _ _ us hl => match us, hl with | [_, _], _ => rfl) rfl (b__law_times (c__law_fraction.mono (by decide)))
  exact fo_of F_law sc_law (fun _ _ _ _ _ _ us hl => match us, hl with | [_], _ => rfl) rfl (b_law h_dict h_range (c__law_chain.mono (by decide)) (c__law_draws.mono (by decide)) (c__law_mix.mono (by decide)) (c__law_plus.mono (by decide)) (c__law_times.mono (by decide)) (c_ends.mono (by decide)) (c_mean.mono (by decide)) (c_share.mono (by decide)) (c_spread.mono (by decide)) (c_ways.mono (by decide)))
end Zx.k61
open PySem PySem.W PySem.Calls PyProof.Rows
theorem PySem.Challenge.cw_triedwares_k61_whole_chains_put_together_holds : PySem.Challenge.rw_triedwares_k61_whole_chains_put_together.Holds := by
  w_on; o_law
  refine HandSHeadRun.head_imp (r := OpenLaw.row PySem.Challenge.rw_triedwares_k61_whole_chains_put_together) (q := view (OpenLaw.row PySem.Challenge.rw_triedwares_k61_whole_chains_put_together).prog [0, 35]) (H := Zx.k61.hk) (ob := Zx.k61.ob) (M := 6000) (loose := Zx.k61.loose) (d := HandSHeadRun.topDef (OpenLaw.row PySem.Challenge.rw_triedwares_k61_whole_chains_put_together).prog 35) (kwd := []) Zx.k61.ob_eq Zx.k61.run
    (by kernel_rfl) (by kernel_rfl) (by kernel_rfl) (by rfl) (by first | assumption | decide +kernel) (by decide +kernel) ⟨rfl, rfl, rfl, rfl, rfl, by decide +kernel⟩ ?hw ?hc
  case hw => w_witness2
  case hc =>
    refine L2.walk_ofE (l := PySem.Challenge.rw_triedwares_k61_whole_chains_put_together) (n := 63) (k := 6) (x := "script") (CX := L2.CX0) rfl (by decide) (by kernel_rfl) ⟨rfl, by decide, by decide⟩ ?F (fun _ _ _ _ z => z)
    intro w mg fa h Y G hmg0
    obtain ⟨K, KX, c⟩ := Y
    have hmg : mg ("law" : PySem.Str) = some (.ref fa) := by
      have e : (HandSHeadRun.topDef (OpenLaw.row PySem.Challenge.rw_triedwares_k61_whole_chains_put_together).prog 35).name = ("law" : PySem.Str) := by kernel_rfl
      rw [← e]
      exact hmg0
    obtain ⟨fd, hb, hF⟩ := Zx.k61.facts (w := w) KX G hmg c.t.d c.more
    refine ⟨K, fd, Zx.spX K 1 Zx.k61.f_law, KX, hb, fun H a ns hl _ hS => ?_, hF⟩
    exact ⟨H, [Zx.scrD ns], .bool true, Zx.Sub.refl H, .cons (.scr hS) .nil, rfl, Zx.k61.law_true ns hl, fun v F' H' x r => by cases r; rfl⟩
