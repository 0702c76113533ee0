import PyProof.Rows.All
import HandS.ForMost
import HandS.Wide
import HandS.Gcd
import HandS.Flow
import HandS.Style
import KE.DataCmp
import KE.DataEq
import KE.SortData
import KE.DataMinMax
import HandS.Star
import HandS.TupAny
import HandS.Deep
import HandS.NoneIn
import HandS.Conv
import HandS.Zip
import HandS.Iter
import HandS.Defaults
import HandS.DictTup
import HandS.ListItems
import PyProof.Transfer
import HandS.DictComp
import HandS.Words
import PySem.Challenge.RW_triedwares_k75_whole_lots_turned_about
import HandS.Ends
import HandS.More
import HandS.WordsExc
import HandS.Head0
import HandS.Head1
import HandS.Head2
import HandS.Head3
import HandS.HeadEnd
import HandS.HeadHook1
import HandS.HeadHook2
import HandS.HeadHook3
import HandS.HeadHook4
set_option Elab.async false
set_option linter.all false
set_option maxRecDepth 100000
set_option maxHeartbeats 0
/-! Zx: denotations over PyData for the hand layer's judgements. -/
namespace Zx
open PySem PySem.Spec L2
abbrev D := PyData

/-! ### heaps -/
def Sub (F H : Hp) : Prop := ∀ a o, F a = some o → H a = some o
theorem Sub.refl (F : Hp) : Sub F F := fun _ _ h => h
theorem Sub.trans {F G H : Hp} (a : Sub F G) (b : Sub G H) : Sub F H := fun x o h => b x o (a x o h)
theorem Sub.rd {F H : Hp} (s : Sub F H) {a : Addr} {u : HO} (h : Rd F a u) : Rd H a u := by
  rcases h with h | ⟨o, h⟩
  · exact .inl (s _ _ h)
  · exact .inr ⟨o, s _ _ h⟩
theorem Sub.free {F H : Hp} (s : Sub F H) {a : Addr} (h : H a = none) : F a = none := by
  cases e : F a with
  | none => rfl
  | some o => rw [s a o e] at h; cases h
theorem Sub.new {H : Hp} {p : Addr} {o : HO} (h : H p = none) : Sub H (upd H p o) := fun a u e => by
  rw [upd_ne (ne_of_none e h)]
  exact e

/-! ### what a value stands for -/
def keyD : Key → D
  | .inl i => .int i
  | .inr x => .str x
/-- the script -/
def scrD (ns : List Int) : D := .dict [(.none, .list (ns.map .int))]
mutual
inductive Rp (K : PySem.W.Frag) (F : Hp) : D → V → Prop
  | non : Rp K F .none .non
  | bl (b : Bool) : Rp K F (.bool b) (.bl b)
  | int (i : Int) : Rp K F (.int i) (.int i)
  | str (x : Str) : Rp K F (.str x) (.str x)
  | lst {a : Addr} {xs : List V} {ds : List D} : F a = some (.lst xs) → RpL K F ds xs → Rp K F (.list ds) (.ref a)
  | tup {a : Addr} {xs : List V} {ds : List D} : F a = some (.tup xs) → RpL K F ds xs → Rp K F (.tuple ds) (.ref a)
  | dK {a : Addr} {kvs : List (Key × V)} {kds : List (D × D)} : Rd F a (.dK kvs) → RpK K F kds kvs → Rp K F (.dict kds) (.ref a)
  | dT {a : Addr} {kvs : List (List Key × V)} {kds : List (D × D)} : Rd F a (.dT kvs) → RpT K F kds kvs → Rp K F (.dict ((.bool true, .none) :: kds)) (.ref a)
  | scr {a : Addr} {ns : List Int} : SqL K F a (ns.map V.int) → Rp K F (scrD ns) (.ref a)
inductive RpL (K : PySem.W.Frag) (F : Hp) : List D → List V → Prop
  | nil : RpL K F [] []
  | cons {d : D} {ds : List D} {v : V} {vs : List V} : Rp K F d v → RpL K F ds vs → RpL K F (d :: ds) (v :: vs)
inductive RpK (K : PySem.W.Frag) (F : Hp) : List (D × D) → List (Key × V) → Prop
  | nil : RpK K F [] []
  | cons {k : Key} {d : D} {kds : List (D × D)} {v : V} {kvs : List (Key × V)} : Rp K F d v → RpK K F kds kvs → RpK K F ((keyD k, d) :: kds) ((k, v) :: kvs)
inductive RpT (K : PySem.W.Frag) (F : Hp) : List (D × D) → List (List Key × V) → Prop
  | nil : RpT K F [] []
  | cons {k : List Key} {d : D} {kds : List (D × D)} {v : V} {kvs : List (List Key × V)} : Rp K F d v → RpT K F kds kvs → RpT K F ((.tuple (k.map keyD), d) :: kds) ((k, v) :: kvs)
end
section
variable {K : PySem.W.Frag} {F G H : Hp}
mutual
theorem Rp.mono (s : Sub F G) : ∀ {d : D} {v : V}, Rp K F d v → Rp K G d v
  | _, _, .non => .non
  | _, _, .bl b => .bl b
  | _, _, .int i => .int i
  | _, _, .str x => .str x
  | _, _, .lst h t => .lst (s _ _ h) (RpL.mono s t)
  | _, _, .tup h t => .tup (s _ _ h) (RpL.mono s t)
  | _, _, .dK h t => .dK (s.rd h) (RpK.mono s t)
  | _, _, .dT h t => .dT (s.rd h) (RpT.mono s t)
  | _, _, .scr h => .scr (by
      rcases h with h | h
      · exact .inl (s.rd h)
      · exact .inr h)
theorem RpL.mono (s : Sub F G) : ∀ {ds : List D} {vs : List V}, RpL K F ds vs → RpL K G ds vs
  | _, _, .nil => .nil
  | _, _, .cons h t => .cons (Rp.mono s h) (RpL.mono s t)
theorem RpK.mono (s : Sub F G) : ∀ {ds : List (D × D)} {vs : List (Key × V)}, RpK K F ds vs → RpK K G ds vs
  | _, _, .nil => .nil
  | _, _, .cons h t => .cons (Rp.mono s h) (RpK.mono s t)
theorem RpT.mono (s : Sub F G) : ∀ {ds : List (D × D)} {vs : List (List Key × V)}, RpT K F ds vs → RpT K G ds vs
  | _, _, .nil => .nil
  | _, _, .cons h t => .cons (Rp.mono s h) (RpT.mono s t)
end
theorem RpL.length : ∀ {ds : List D} {vs : List V}, RpL K F ds vs → vs.length = ds.length
  | _, _, .nil => rfl
  | _, _, .cons _ t => by rw [List.length_cons, List.length_cons, RpL.length t]
theorem RpL.append : ∀ {ds es : List D} {vs us : List V}, RpL K F ds vs → RpL K F es us → RpL K F (ds ++ es) (vs ++ us)
  | _, _, _, _, .nil, s => s
  | _, _, _, _, .cons h t, s => .cons h (RpL.append t s)
theorem RpL.get : ∀ {ds : List D} {vs : List V} {i : Nat} {d : D}, RpL K F ds vs → ds[i]? = some d → ∃ v, vs[i]? = some v ∧ Rp K F d v
  | _, _, _, _, .nil, e => by simp at e
  | _, _, 0, _, .cons h _, e => by
    simp at e; subst e; exact ⟨_, rfl, h⟩
  | _, _, i + 1, d, .cons _ t, e => by
    obtain ⟨u, h1, h2⟩ := RpL.get (i := i) (d := d) t (by simpa using e)
    exact ⟨u, by simpa using h1, h2⟩
theorem RpL.getV : ∀ {ds : List D} {vs : List V} {i : Nat} {v : V}, RpL K F ds vs → vs[i]? = some v → ∃ d, ds[i]? = some d ∧ Rp K F d v
  | _, _, _, _, .nil, e => by simp at e
  | _, _, 0, _, .cons h _, e => by
    simp at e; subst e; exact ⟨_, rfl, h⟩
  | _, _, i + 1, d, .cons _ t, e => by
    obtain ⟨u, h1, h2⟩ := RpL.getV (i := i) (v := d) t (by simpa using e)
    exact ⟨u, by simpa using h1, h2⟩
theorem RpL.take : ∀ {ds : List D} {vs : List V} (n : Nat), RpL K F ds vs → RpL K F (ds.take n) (vs.take n)
  | _, _, 0, _ => .nil
  | _, _, _ + 1, .nil => .nil
  | _, _, n + 1, .cons h t => .cons h (RpL.take n t)
theorem RpL.drop : ∀ {ds : List D} {vs : List V} (n : Nat), RpL K F ds vs → RpL K F (ds.drop n) (vs.drop n)
  | _, _, 0, h => h
  | _, _, _ + 1, .nil => .nil
  | _, _, n + 1, .cons _ t => RpL.drop n t
theorem RpL.set {d : D} {v : V} (r : Rp K F d v) : ∀ {ds : List D} {vs : List V} (i : Nat), RpL K F ds vs → RpL K F (ds.set i d) (vs.set i v)
  | _, _, _, .nil => .nil
  | _, _, 0, .cons _ t => .cons r t
  | _, _, i + 1, .cons q t => .cons q (RpL.set r i t)
theorem RpL.one {d : D} {v : V} (r : Rp K F d v) : RpL K F [d] [v] := .cons r .nil
theorem RpL.reverse : ∀ {ds : List D} {vs : List V}, RpL K F ds vs → RpL K F ds.reverse vs.reverse
  | _, _, .nil => .nil
  | _, _, .cons h t => by
    rw [List.reverse_cons, List.reverse_cons]
    exact RpL.append (RpL.reverse t) (.one h)
theorem RpL.ints : ∀ (ns : List Int), RpL K F (ns.map .int) (ns.map V.int)
  | [] => .nil
  | n :: ns => .cons (.int n) (RpL.ints ns)
theorem RpL.ints_inv : ∀ {ns : List Int} {vs : List V}, RpL K F (ns.map .int) vs → vs = ns.map V.int
  | [], _, .nil => rfl
  | n :: ns, _, .cons h t => by
    cases h
    rw [RpL.ints_inv t, List.map_cons]

/-- an owned container's object -/
inductive OwnRep (K : PySem.W.Frag) (F : Hp) : D → HO → Prop
  | lst {ds : List D} {xs : List V} : RpL K F ds xs → OwnRep K F (.list ds) (.lst xs)
  | dK {kds : List (D × D)} {kvs : List (Key × V)} : RpK K F kds kvs → OwnRep K F (.dict kds) (.dK kvs)
  | dT {kds : List (D × D)} {kvs : List (List Key × V)} : RpT K F kds kvs → OwnRep K F (.dict ((.bool true, .none) :: kds)) (.dT kvs)
theorem OwnRep.mono (s : Sub F G) {d : D} {o : HO} (h : OwnRep K F d o) : OwnRep K G d o := by
  cases h with
  | lst t => exact .lst (t.mono s)
  | dK t => exact .dK (t.mono s)
  | dT t => exact .dT (t.mono s)
/-- read where it is frozen or owned -/
def RpB (K : PySem.W.Frag) (F H : Hp) (d : D) (v : V) : Prop := Rp K F d v ∨ ∃ a o, v = .ref a ∧ F a = none ∧ H a = some o ∧ OwnRep K F d o
theorem RpB.of {d : D} {v : V} (h : Rp K F d v) : RpB K F H d v := .inl h
theorem RpB.list (s : Sub F H) {ds : List D} {v : V} (h : RpB K F H (.list ds) v) : ∃ a xs, v = .ref a ∧ H a = some (.lst xs) ∧ RpL K F ds xs := by
  rcases h with h | ⟨a, o, e, _, h1, h2⟩
  · cases h with
    | lst h1 h2 => exact ⟨_, _, rfl, s _ _ h1, h2⟩
  · cases h2 with
    | lst h2 => exact ⟨_, _, e, h1, h2⟩
theorem RpB.tuple (s : Sub F H) {ds : List D} {v : V} (h : RpB K F H (.tuple ds) v) : ∃ a xs, v = .ref a ∧ H a = some (.tup xs) ∧ RpL K F ds xs := by
  rcases h with h | ⟨a, o, e, _, h1, h2⟩
  · cases h with
    | tup h1 h2 => exact ⟨_, _, rfl, s _ _ h1, h2⟩
  · cases h2
theorem RpB.int {i : Int} {v : V} (h : RpB K F H (.int i) v) : v = .int i := by
  rcases h with h | ⟨a, o, e, _, h1, h2⟩
  · cases h; rfl
  · cases h2
theorem RpB.bool {i : Bool} {v : V} (h : RpB K F H (.bool i) v) : v = .bl i := by
  rcases h with h | ⟨a, o, e, _, h1, h2⟩
  · cases h; rfl
  · cases h2
theorem RpB.str {i : Str} {v : V} (h : RpB K F H (.str i) v) : v = .str i := by
  rcases h with h | ⟨a, o, e, _, h1, h2⟩
  · cases h; rfl
  · cases h2
theorem RpB.none' {v : V} (h : RpB K F H .none v) : v = .non := by
  rcases h with h | ⟨a, o, e, _, h1, h2⟩
  · cases h; rfl
  · cases h2
theorem RpB.isN {d : D} {v : V} (h : RpB K F H d v) : decide (v = .non) = (match d with | .none => true | _ => false) := by
  rcases h with h | ⟨a, o, e, _, h1, h2⟩
  · cases h <;> rfl
  · subst e
    cases h2 <;> rfl
end

/-! ### environments -/
inductive Slot where
  | no | fz (d : D) | ow (d : D)
abbrev Env := List Slot
def SlotOk (K : PySem.W.Frag) (F H : Hp) : Slot → Option V → Prop
  | .no, _ => True
  | .fz d, ov => ∃ v, ov = some v ∧ Rp K F d v
  | .ow d, ov => ∃ a o, ov = some (.ref a) ∧ F a = none ∧ H a = some o ∧ OwnRep K F d o
structure EnvOk (K : PySem.W.Frag) (ρ : Env) (σ : L2.St) (F H : Hp) : Prop where
  sub : Sub F H
  len : ρ.length = σ.length
  at_ : ∀ (i : Nat) s, ρ[i]? = some s → ∃ ov, σ[i]? = some ov ∧ SlotOk K F H s ov
  dist : ∀ (i j : Nat) d e a, ρ[i]? = some (.ow d) → ρ[j]? = some (.ow e) → σ[i]? = some (some (.ref a)) → σ[j]? = some (some (.ref a)) → i = j
structure Ext (F H F' H' : Hp) : Prop where
  f : Sub F F'
  h : Sub H H'
  le : Sub F' H'
  new : ∀ a, H a ≠ none → F a = none → F' a = none
section
variable {K : PySem.W.Frag} {ρ : Env} {σ : L2.St} {F H F' H' F'' H'' : Hp}
theorem Ext.refl (s : Sub F H) : Ext F H F H := ⟨Sub.refl _, Sub.refl _, s, fun _ _ h => h⟩
theorem Ext.trans (a : Ext F H F' H') (b : Ext F' H' F'' H'') : Ext F H F'' H'' :=
  ⟨a.f.trans b.f, a.h.trans b.h, b.le, fun x h1 h2 => b.new x (fun z => by
    cases e : H x with
    | none => exact h1 e
    | some o => rw [a.h x o e] at z; cases z) (a.new x h1 h2)⟩
/-- a new object that is frozen at once -/
theorem Ext.add (s : Sub F H) {p : Addr} {o : HO} (hp : H p = none) : Ext F H (upd F p o) (upd H p o) where
  f := Sub.new (s.free hp)
  h := Sub.new hp
  le := fun a u e => by
    by_cases h : a = p
    · subst h; rw [upd_same] at e ⊢; exact e
    · rw [upd_ne h] at e ⊢; exact s a u e
  new := fun a h1 h2 => by
    rw [upd_ne (fun z => h1 (by rw [z]; exact hp))]
    exact h2
/-- a new object that is not frozen -/
theorem Ext.own (s : Sub F H) {p : Addr} {o : HO} (hp : H p = none) : Ext F H F (upd H p o) :=
  ⟨Sub.refl _, Sub.new hp, s.trans (Sub.new hp), fun _ _ h => h⟩
theorem EnvOk.ext (e : EnvOk K ρ σ F H) (x : Ext F H F' H') : EnvOk K ρ σ F' H' where
  sub := x.le
  len := e.len
  dist := e.dist
  at_ := fun i s hs => by
    obtain ⟨ov, h1, h2⟩ := e.at_ i s hs
    refine ⟨ov, h1, ?_⟩
    cases s with
    | no => trivial
    | fz d =>
      obtain ⟨v, h3, h4⟩ := h2
      exact ⟨v, h3, h4.mono x.f⟩
    | ow d =>
      obtain ⟨a, o, h3, h4, h5, h6⟩ := h2
      exact ⟨a, o, h3, x.new a (by rw [h5]; exact fun z => nomatch z) h4, x.h _ _ h5, h6.mono x.f⟩
theorem RpB.ext {d : D} {v : V} (h : RpB K F H d v) (x : Ext F H F' H') : RpB K F' H' d v := by
  rcases h with h | ⟨a, o, e, h1, h2, h3⟩
  · exact .inl (h.mono x.f)
  · exact .inr ⟨a, o, e, x.new a (by rw [h2]; exact fun z => nomatch z) h1, x.h _ _ h2, h3.mono x.f⟩
end

/-! ### judgements of expressions -/
abbrev Den := Env → Option D
def tX (K : PySem.W.Frag) (f : Den) : TE := fun σ H Q => ∃ ρ F d, EnvOk K ρ σ F H ∧ f ρ = some d ∧ ∀ v F' H', Ext F H F' H' → Rp K F' d v → Q v H'
def tB' (K : PySem.W.Frag) (f : Den) : TE := fun σ H Q => ∃ ρ F d, EnvOk K ρ σ F H ∧ f ρ = some d ∧ ∀ v F' H', Ext F H F' H' → RpB K F' H' d v → Q v H'
def tN (K : PySem.W.Frag) (f : Den) : TE := fun σ H Q => ∃ ρ F d, EnvOk K ρ σ F H ∧ f ρ = some d ∧ ∀ a o F' H', Ext F H F' H' → F' a = none → H a = none → H' a = some o → OwnRep K F' d o → Q (.ref a) H'
def tTst (K : PySem.W.Frag) (f : Env → Option Bool) : TT := fun σ H Q => ∃ ρ F b, EnvOk K ρ σ F H ∧ f ρ = some b ∧ ∀ F' H', Ext F H F' H' → Q b H'
/-- a value, frozen -/
structure EX (X : Cx) (e : Expr) (f : Den) : Prop where
  pe : PE X e (tX X.K f)
/-- a value, perhaps a borrowed one -/
structure EB (X : Cx) (e : Expr) (f : Den) : Prop where
  pe : PE X e (tB' X.K f)
/-- a new list or dict -/
structure EN (X : Cx) (e : Expr) (f : Den) : Prop where
  pe : PE X e (tN X.K f)
/-- a test -/
structure ET (X : Cx) (e : Expr) (f : Env → Option Bool) : Prop where
  pt : PT X e (tTst X.K f)
theorem PE.imp {X : Cx} {e : Expr} {t t' : TE} (h : PE X e t) (i : ∀ σ H Q, t' σ H Q → t σ H Q) : PE X e t' := ⟨fun pins s σ H Q I hw => h.run pins s σ H Q I (i σ H Q hw)⟩
theorem PT.imp {X : Cx} {e : Expr} {t t' : TT} (h : PT X e t) (i : ∀ σ H Q, t' σ H Q → t σ H Q) : PT X e t' := ⟨fun pins s σ H Q I hw => h.run pins s σ H Q I (i σ H Q hw)⟩
theorem PI.imp {X : Cx} {tg e : Expr} {t t' : TI} (h : PI X tg e t) (i : ∀ σ H Q, t' σ H Q → t σ H Q) : PI X tg e t' := ⟨fun pins s σ H Q I hw => h.run pins s σ H Q I (i σ H Q hw)⟩
theorem PA.imp {X : Cx} {e : List Expr} {t t' : TA} (h : PA X e t) (i : ∀ σ H Q, t' σ H Q → t σ H Q) : PA X e t' := ⟨fun pos pins s σ H Q I hw => h.run pos pins s σ H Q I (i σ H Q hw)⟩
theorem PS.imp {X : Cx} {e : Stmt} {t t' : TS} (h : PS X e t) (i : ∀ D σ H, t' D σ H → t D σ H) : PS X e t' := ⟨fun pins s σ H D I hw => h.run pins s σ H D I (i D σ H hw)⟩
theorem PSs.imp {X : Cx} {e : List Stmt} {t t' : TS} (h : PSs X e t) (i : ∀ D σ H, t' D σ H → t D σ H) : PSs X e t' := ⟨fun pins s σ H D I hw => h.run pins s σ H D I (i D σ H hw)⟩
section
variable {X : Cx} {e : Expr} {f : Den}
theorem EX.b (h : EX X e f) : EB X e f := ⟨PE.imp h.pe fun σ H Q ⟨ρ, F, d, e1, e2, k⟩ => ⟨ρ, F, d, e1, e2, fun v F' H' x r => k v F' H' x (.inl r)⟩⟩
theorem EN.x (h : EN X e f) : EX X e f := ⟨PE.imp h.pe fun σ H Q ⟨ρ, F, d, e1, e2, k⟩ => ⟨ρ, F, d, e1, e2, fun a o F' H' x ha hn ho r => by
  have x' : Ext F H (upd F' a o) H' := ⟨x.f.trans (Sub.new ha), x.h, fun b u eb => by
      by_cases hb : b = a
      · subst hb; rw [upd_same] at eb; cases eb; exact ho
      · rw [upd_ne hb] at eb; exact x.le b u eb,
    fun b h1 h2 => by
      rw [upd_ne (fun z => h1 (by rw [z]; exact hn))]
      exact x.new b h1 h2⟩
  refine k _ _ _ x' ?_
  have s : Sub F' (upd F' a o) := Sub.new ha
  cases r with
  | lst t => exact .lst upd_same (t.mono s)
  | dK t => exact .dK (.inl upd_same) (t.mono s)
  | dT t => exact .dT (.inl upd_same) (t.mono s)⟩⟩
theorem EN.b (h : EN X e f) : EB X e f := h.x.b
end
end Zx
/-! Zx2: names, constants, displays, operators, comparisons. -/
namespace Zx
open PySem PySem.Spec L2
theorem line_of {n : Nat} (h : n ≤ 1000000) : n ≤ sizeLine := by rw [sizeLine_eq]; omega
theorem line_lt {n : Nat} (h : n < 1000000) : n < sizeLine := by rw [sizeLine_eq]; omega

/-! ### denotations -/
def vR (i : Nat) : Den := fun ρ => match ρ[i]? with | some (.fz d) => some d | _ => none
def vB (i : Nat) : Den := fun ρ => match ρ[i]? with | some (.fz d) => some d | some (.ow d) => some d | _ => none
def kD (d : D) : Den := fun _ => some d
def d1 (op : D → Option D) (f : Den) : Den := fun ρ => (f ρ).bind op
def d2 (op : D → D → Option D) (f g : Den) : Den := fun ρ => (f ρ).bind fun x => (g ρ).bind fun y => op x y
abbrev DenL := Env → Option (List D)
def lNil : DenL := fun _ => some []
def lCons (f : Den) (g : DenL) : DenL := fun ρ => (f ρ).bind fun x => (g ρ).bind fun xs => some (x :: xs)
def seqOf : D → Option (List D)
  | .list xs => some xs
  | .tuple xs => some xs
  | _ => none
def lStar (f : Den) (g : DenL) : DenL := fun ρ => (f ρ).bind fun x => (seqOf x).bind fun ys => (g ρ).bind fun xs => some (ys ++ xs)
def mkT (g : DenL) : Den := fun ρ => (g ρ).bind fun xs => if xs.length ≤ 1000000 then some (.tuple xs) else none
def mkL (g : DenL) : Den := fun ρ => (g ρ).bind fun xs => if xs.length ≤ 1000000 then some (.list xs) else none
/-- the bits of a factor -/
def mulOk (a b : Int) : Bool := decide (a.natAbs.log2 + b.natAbs.log2 < 100000000)
def addD : D → D → Option D
  | .int a, .int b => some (.int (a + b))
  | .list xs, .list ys => if xs.length + ys.length ≤ 1000000 then some (.list (xs ++ ys)) else none
  | .tuple xs, .tuple ys => if xs.length + ys.length ≤ 1000000 then some (.tuple (xs ++ ys)) else none
  | _, _ => none
def subD : D → D → Option D
  | .int a, .int b => some (.int (a - b))
  | _, _ => none
def mulD : D → D → Option D
  | .int a, .int b => if mulOk a b then some (.int (a * b)) else none
  | .list xs, .int k => if k.natAbs ≤ 1000000 ∧ xs.length * k.toNat ≤ 1000000 then some (.list (List.replicate k.toNat xs).flatten) else none
  | _, _ => none
def fdivD : D → D → Option D
  | .int a, .int b => if 0 < b ∧ b.natAbs.log2 < 9000 then some (.int (a / b)) else none
  | _, _ => none
def modD : D → D → Option D
  | .int a, .int b => if 0 < b then some (.int (a % b)) else none
  | _, _ => none
def powD : D → D → Option D
  | .int a, .int b => if 0 ≤ b ∧ b.natAbs ≤ 1000000 ∧ a.natAbs < 2 ^ 64 then some (.int (a ^ b.toNat)) else none
  | _, _ => none
def shlD : D → D → Option D
  | .int a, .int b => if 0 ≤ b ∧ b.natAbs ≤ 1000000 ∧ a.natAbs < 2 ^ 64 then some (.int (a * 2 ^ b.toNat)) else none
  | _, _ => none
def negD : D → Option D
  | .int a => some (.int (-a))
  | _ => none

section
variable {X : Cx} {a b : Expr} {f g : Den} {fl : DenL} {pos : Pos}
theorem mkX {e : Expr} {t : TE} (h : PE X e t) (i : ∀ σ H Q ρ F d, EnvOk X.K ρ σ F H → f ρ = some d → (∀ v F' H', Ext F H F' H' → Rp X.K F' d v → Q v H') → t σ H Q) : EX X e f :=
  ⟨PE.imp h fun σ H Q ⟨ρ, F, d, e1, e2, k⟩ => i σ H Q ρ F d e1 e2 k⟩
theorem mkN {e : Expr} {t : TE} (h : PE X e t) (i : ∀ σ H Q ρ F d, EnvOk X.K ρ σ F H → f ρ = some d → (∀ a o F' H', Ext F H F' H' → F' a = none → H a = none → H' a = some o → OwnRep X.K F' d o → Q (.ref a) H') → t σ H Q) : EN X e f :=
  ⟨PE.imp h fun σ H Q ⟨ρ, F, d, e1, e2, k⟩ => i σ H Q ρ F d e1 e2 k⟩
theorem mkBb {e : Expr} {t : TE} (h : PE X e t) (i : ∀ σ H Q ρ F d, EnvOk X.K ρ σ F H → f ρ = some d → (∀ v F' H', Ext F H F' H' → RpB X.K F' H' d v → Q v H') → t σ H Q) : EB X e f :=
  ⟨PE.imp h fun σ H Q ⟨ρ, F, d, e1, e2, k⟩ => i σ H Q ρ F d e1 e2 k⟩
theorem mkTs {e : Expr} {t : TT} {h' : Env → Option Bool} (h : PT X e t) (i : ∀ σ H Q ρ F b, EnvOk X.K ρ σ F H → h' ρ = some b → (∀ F' H', Ext F H F' H' → Q b H') → t σ H Q) : ET X e h' :=
  ⟨PT.imp h fun σ H Q ⟨ρ, F, d, e1, e2, k⟩ => i σ H Q ρ F d e1 e2 k⟩

/-! ### names -/
def visB (sc : Scope) (x : Str) : Bool := match sc.names.lookup x with | some .local => true | some .cell => true | some .free => true | _ => false
theorem vis_of {sc : Scope} {x : Str} (h : visB sc x = true) : Vis sc x := by
  unfold visB at h
  unfold Vis
  split at h
  · rename_i e; exact .inl e
  · rename_i e; exact .inr (.inl e)
  · rename_i e; exact .inr (.inr e)
  · cases h
theorem ex_var (i : Nat) {x : Str} (hN : X.N[i]? = some x) (hv : visB X.env.scope x = true) (hd : (x == ("__debug__" : Str)) = false) (hcd : (x == ("__classdict__" : Str)) = false) : EX X (.Name x pos) (vR i) :=
  mkX (pe_var hN (vis_of hv) hd hcd) fun σ H Q ρ F d e h k => by
    unfold vR at h
    split at h
    · rename_i d' hs
      cases h
      obtain ⟨ov, h1, v, h2, h3⟩ := e.at_ i _ hs
      subst h2
      exact ⟨v, h1, k v F H (.refl e.sub) h3⟩
    · cases h
theorem eb_var (i : Nat) {x : Str} (hN : X.N[i]? = some x) (hv : visB X.env.scope x = true) (hd : (x == ("__debug__" : Str)) = false) (hcd : (x == ("__classdict__" : Str)) = false) : EB X (.Name x pos) (vB i) :=
  mkBb (pe_var hN (vis_of hv) hd hcd) fun σ H Q ρ F d e h k => by
    unfold vB at h
    split at h
    · rename_i d' hs
      cases h
      obtain ⟨ov, h1, v, h2, h3⟩ := e.at_ i _ hs
      subst h2
      exact ⟨v, h1, k v F H (.refl e.sub) (.inl h3)⟩
    · rename_i d' hs
      cases h
      obtain ⟨ov, h1, a, o, h2, h3, h4, h5⟩ := e.at_ i _ hs
      subst h2
      exact ⟨_, h1, k _ F H (.refl e.sub) (.inr ⟨a, o, rfl, h3, h4, h5⟩)⟩
    · cases h
/-! ### constants -/
theorem ex_const {e : Expr} {v : V} (d : D) (h : PE X e (tC v)) (r : ∀ F, Rp X.K F d v) : EX X e (kD d) :=
  mkX h fun σ H Q ρ F d' e h k => by
    cases h
    exact k v F H (.refl e.sub) (r F)
theorem ex_int {i j} : EX X (.Constant (.int i) j pos) (kD (.int i)) := ex_const _ pe_int fun _ => .int i
theorem ex_bl {b j} : EX X (.Constant (.bool b) j pos) (kD (.bool b)) := ex_const _ pe_bl fun _ => .bl b
theorem ex_non {j} : EX X (.Constant .none j pos) (kD .none) := ex_const _ pe_non fun _ => .non
theorem ex_str {x j} : EX X (.Constant (.str x) j pos) (kD (.str x)) := ex_const _ pe_str fun _ => .str x
/-- an int constant of the module -/
theorem ex_glob {x : Str} {i : Int} {t : Tok} (hg : Gl X x) (hm : X.mg x = some (.int i t)) (hd : (x == ("__debug__" : Str)) = false) : EX X (.Name x pos) (kD (.int i)) := ex_const (v := .int i) _ (pe_glob hg hm ⟨t, rfl⟩ hd) fun _ => .int i
/-! ### displays -/
def tA (K : PySem.W.Frag) (f : DenL) : TA := fun σ H Q => ∃ ρ F ds, EnvOk K ρ σ F H ∧ f ρ = some ds ∧ ∀ vs F' H', Ext F H F' H' → RpL K F' ds vs → Q vs H'
structure EA (X : Cx) (es : List Expr) (f : DenL) : Prop where
  pa : PA X es (tA X.K f)
theorem mkA {es : List Expr} {t : TA} (h : PA X es t) (i : ∀ σ H Q ρ F d, EnvOk X.K ρ σ F H → fl ρ = some d → (∀ v F' H', Ext F H F' H' → RpL X.K F' d v → Q v H') → t σ H Q) : EA X es fl :=
  ⟨PA.imp h fun σ H Q ⟨ρ, F, d, e1, e2, k⟩ => i σ H Q ρ F d e1 e2 k⟩
theorem ea_nil : EA X [] lNil := mkA pa_nil fun σ H Q ρ F d e h k => by
  cases h
  exact k [] F H (.refl e.sub) .nil
theorem ea_cons {es : List Expr} (ha : EX X a f) (hr : EA X es fl) (hs : starEach (a :: es) X.env = (false, eval a X.env) :: starEach es X.env) : EA X (a :: es) (lCons f fl) :=
  mkA (pa_cons ha.pe hr.pa hs) fun σ H Q ρ F d e h k => by
    simp only [lCons, Option.bind_eq_some_iff, Option.some.injEq] at h
    obtain ⟨x, h1, xs, h2, rfl⟩ := h
    exact ⟨ρ, F, x, e, h1, fun v F1 H1 x1 r1 => ⟨ρ, F1, xs, e.ext x1, h2, fun vs F2 H2 x2 r2 => k _ F2 H2 (x1.trans x2) (.cons (r1.mono x2.f) r2)⟩⟩
theorem ea_star {es : List Expr} {p : Pos} (ha : EB X a f) (hr : EA X es fl) (hs : starEach (.Starred a p :: es) X.env = (true, eval a X.env) :: starEach es X.env) : EA X (.Starred a p :: es) (lStar f fl) :=
  mkA (StX.pa_star ha.pe hr.pa hs) fun σ H Q ρ F d e h k => by
    simp only [lStar, Option.bind_eq_some_iff, Option.some.injEq] at h
    obtain ⟨x, h1, ys, h0, xs, h2, rfl⟩ := h
    refine ⟨ρ, F, x, e, h1, fun v F1 H1 x1 r1 => ?_⟩
    cases x <;> simp only [seqOf, Option.some.injEq, reduceCtorEq] at h0
    · subst h0
      obtain ⟨p, vs, rfl, hp, hr⟩ := r1.list x1.le
      exact ⟨p, vs, rfl, .inr (.inl (.inl hp)), ρ, F1, xs, e.ext x1, h2, fun us F2 H2 x2 r2 => k _ F2 H2 (x1.trans x2) (RpL.append (hr.mono x2.f) r2)⟩
    · subst h0
      obtain ⟨p, vs, rfl, hp, hr⟩ := r1.tuple x1.le
      exact ⟨p, vs, rfl, .inl (.inl (.inl hp)), ρ, F1, xs, e.ext x1, h2, fun us F2 H2 x2 r2 => k _ F2 H2 (x1.trans x2) (RpL.append (hr.mono x2.f) r2)⟩
theorem ex_tup {es : List Expr} {x1} (h : EA X es fl) : EX X (.Tuple es x1 pos) (mkT fl) :=
  mkX (pe_tup h.pa) fun σ H Q ρ F d e h k => by
    simp only [mkT, Option.bind_eq_some_iff] at h
    obtain ⟨xs, h1, h2⟩ := h
    split at h2
    · rename_i hl
      cases h2
      refine ⟨ρ, F, xs, e, h1, fun vs F1 H1 x1 r1 => ⟨by rw [r1.length]; exact line_of hl, fun p hp => ?_⟩⟩
      exact k _ _ _ (x1.trans (.add x1.le hp)) (.tup upd_same (r1.mono (Sub.new (x1.le.free hp))))
    · cases h2
theorem en_lst {es : List Expr} (h : EA X es fl) : EN X (.List es pos) (mkL fl) :=
  mkN (pe_lst h.pa) fun σ H Q ρ F d e h k => by
    simp only [mkL, Option.bind_eq_some_iff] at h
    obtain ⟨xs, h1, h2⟩ := h
    split at h2
    · rename_i hl
      cases h2
      refine ⟨ρ, F, xs, e, h1, fun vs F1 H1 x1 r1 => ⟨by rw [r1.length]; exact line_of hl, fun p hp => ?_⟩⟩
      have hp0 : H p = none := x1.h.free hp
      exact k p _ _ _ (x1.trans (.own x1.le hp)) (x1.le.free hp) hp0 upd_same (.lst r1)
    · cases h2

/-! ### two operands -/
theorem ex_op2 {op : D → D → Option D} {e : Expr} {ta tb : TE} {r : R2} (h : PE X e (tOp r (tB' X.K f) (tB' X.K g)))
    (hr : ∀ x y u v d F H Q, op x y = some d → Sub F H → RpB X.K F H x u → RpB X.K F H y v → (∀ w F' H', Ext F H F' H' → Rp X.K F' d w → Q w H') → r u v H Q) : EX X e (d2 op f g) :=
  mkX h fun σ H Q ρ F d e h k => by
    simp only [d2, Option.bind_eq_some_iff] at h
    obtain ⟨x, h1, y, h2, h3⟩ := h
    exact ⟨ρ, F, x, e, h1, fun u F1 H1 x1 r1 => ⟨ρ, F1, y, e.ext x1, h2, fun v F2 H2 x2 r2 => hr x y u v d F2 H2 Q h3 x2.le (r1.ext x2) r2 fun w F' H' x3 rw => k w F' H' ((x1.trans x2).trans x3) rw⟩⟩
theorem en_op2 {op : D → D → Option D} {e : Expr} {ta tb : TE} {r : R2} (h : PE X e (tOp r (tB' X.K f) (tB' X.K g)))
    (hr : ∀ x y u v d F H Q, op x y = some d → Sub F H → RpB X.K F H x u → RpB X.K F H y v → (∀ p o, H p = none → OwnRep X.K F d o → Q (.ref p) (upd H p o)) → r u v H Q) : EN X e (d2 op f g) :=
  mkN h fun σ H Q ρ F d e h k => by
    simp only [d2, Option.bind_eq_some_iff] at h
    obtain ⟨x, h1, y, h2, h3⟩ := h
    exact ⟨ρ, F, x, e, h1, fun u F1 H1 x1 r1 => ⟨ρ, F1, y, e.ext x1, h2, fun v F2 H2 x2 r2 => hr x y u v d F2 H2 Q h3 x2.le (r1.ext x2) r2 fun p o hp ho =>
      k p o F2 _ ((x1.trans x2).trans (.own x2.le hp)) (x2.le.free hp) ((x1.trans x2).h.free hp) upd_same ho⟩⟩
/-- ints alone -/
theorem ex_opI {op : D → D → Option D} {e : Expr} {C : Int → Int → Prop} {z : Int → Int → Int} (h : PE X e (tOp (rI C fun i j => .int (z i j)) (tB' X.K f) (tB' X.K g)))
    (ho : ∀ x y d, op x y = some d → ∃ i j, x = .int i ∧ y = .int j ∧ C i j ∧ d = .int (z i j)) : EX X e (d2 op f g) :=
  ex_op2 (ta := tC .non) (tb := tC .non) h fun x y u v d F H Q e s ru rv k => by
    obtain ⟨i, j, rfl, rfl, hc, rfl⟩ := ho x y d e
    exact ⟨i, j, ru.int, rv.int, hc, k _ F H (.refl s) (.int _)⟩
theorem ex_opI0 {op : D → D → Option D} {e : Expr} {z : Int → Int → Int} (h : PE X e (tOp (rI0 fun i j => .int (z i j)) (tB' X.K f) (tB' X.K g)))
    (ho : ∀ x y d, op x y = some d → ∃ i j, x = .int i ∧ y = .int j ∧ d = .int (z i j)) : EX X e (d2 op f g) :=
  ex_op2 (ta := tC .non) (tb := tC .non) h fun x y u v d F H Q e s ru rv k => by
    obtain ⟨i, j, rfl, rfl, rfl⟩ := ho x y d e
    exact ⟨i, j, ru.int, rv.int, k _ F H (.refl s) (.int _)⟩
theorem ints_of2 {op : D → D → Option D} {C : Int → Int → Prop} {z : Int → Int → Int} (hi : ∀ i j d, op (.int i) (.int j) = some d → C i j ∧ d = .int (z i j)) (hn : ∀ x y d, op x y = some d → ∃ i j, x = .int i ∧ y = .int j) :
    ∀ x y d, op x y = some d → ∃ i j, x = .int i ∧ y = .int j ∧ C i j ∧ d = .int (z i j) := fun x y d h => by
  obtain ⟨i, j, rfl, rfl⟩ := hn x y d h
  obtain ⟨h1, h2⟩ := hi i j d h
  exact ⟨i, j, rfl, rfl, h1, h2⟩
/-- + of ints, lists or tuples; a new list is frozen -/
theorem ex_add (ha : EB X a f) (hb : EB X b g) : EX X (.BinOp a .Add b pos) (d2 addD f g) := by
  refine ex_op2 (ta := tC .non) (tb := tC .non) (pe_op ((op_add.or op_cat).or op_catA) ha.pe hb.pe) fun x y u v d F H Q e s ru rv k => ?_
  cases x <;> cases y <;> simp only [addD, reduceCtorEq, Option.some.injEq] at e
  · subst e
    exact .inl (.inl ⟨_, _, ru.int, rv.int, k _ F H (.refl s) (.int _)⟩)
  · split at e
    · rename_i hl
      cases e
      obtain ⟨p, xs, rfl, hp, rp⟩ := ru.list s
      obtain ⟨q, ys, rfl, hq, rq⟩ := rv.list s
      refine .inl (.inr ⟨p, q, xs, ys, rfl, rfl, hp, hq, by rw [rp.length, rq.length]; exact line_of hl, fun t ht => ?_⟩)
      exact k _ _ _ (.add s ht) (.lst upd_same ((rp.append rq).mono (Sub.new (s.free ht))))
    · cases e
  · split at e
    · rename_i hl
      cases e
      obtain ⟨p, xs, rfl, hp, rp⟩ := ru.tuple s
      obtain ⟨q, ys, rfl, hq, rq⟩ := rv.tuple s
      refine .inr ⟨p, q, xs, ys, rfl, rfl, .inl (.inl hp), .inl (.inl hq), by rw [rp.length, rq.length]; exact line_of hl, fun e1 => ?_, fun e1 e2 => ?_, fun e1 e2 t ht => ?_⟩
      · subst e1
        cases rp
        rw [List.nil_append] at k
        exact k _ F H (.refl s) (rv.elim id fun ⟨a, o, z, _, z1, z2⟩ => nomatch z2)
      · subst e2
        cases rq
        rw [List.append_nil] at k
        exact k _ F H (.refl s) (ru.elim id fun ⟨a, o, z, _, z1, z2⟩ => nomatch z2)
      · exact k _ _ _ (.add s ht) (.tup upd_same ((rp.append rq).mono (Sub.new (s.free ht))))
    · cases e
/-- + of lists, the new list one's own -/
theorem en_cat (ha : EB X a f) (hb : EB X b g) : EN X (.BinOp a .Add b pos) (d2 (fun x y => match x, y with | .list xs, .list ys => addD (.list xs) (.list ys) | _, _ => none) f g) := by
  refine en_op2 (ta := tC .non) (tb := tC .non) (pe_op op_cat ha.pe hb.pe) fun x y u v d F H Q e s ru rv k => ?_
  cases x <;> cases y <;> simp only [addD, reduceCtorEq] at e
  split at e
  · rename_i hl
    cases e
    obtain ⟨p, xs, rfl, hp, rp⟩ := ru.list s
    obtain ⟨q, ys, rfl, hq, rq⟩ := rv.list s
    exact ⟨p, q, xs, ys, rfl, rfl, hp, hq, by rw [rp.length, rq.length]; exact line_of hl, fun t ht => k t _ ht (.lst (rp.append rq))⟩
  · cases e
theorem ex_sub (ha : EB X a f) (hb : EB X b g) : EX X (.BinOp a .Sub b pos) (d2 subD f g) :=
  ex_opI0 (pe_op op_sub ha.pe hb.pe) fun x y d e => by
    cases x <;> cases y <;> simp only [subD, reduceCtorEq, Option.some.injEq] at e
    exact ⟨_, _, rfl, rfl, e.symm⟩
theorem mulOk_ok {i j : Int} (h : mulOk i j = true) : IntMulOk i j := by
  have b : ∀ x : Int, Builtin.Int.intBits x ≤ x.natAbs.log2 + 1 := fun x => by
    unfold Builtin.Int.intBits
    split <;> omega
  have h1 := b i
  have h2 := b j
  have h3 := of_decide_eq_true h
  have e : bitsLine = 134217728 := by decide
  unfold IntMulOk
  intro z
  rw [Bool.and_eq_true] at z
  have z2 := z.2
  unfold Builtin.Int.intTooBig at z2
  have z3 := of_decide_eq_true z2
  rw [e] at z3
  omega
theorem op_mulZ : OpR X (binaryOp .Mult) (rI (fun i j => mulOk i j = true) fun i j => .int (i * j)) := opI fun _ _ _ _ _ _ _ hc q => PyProof.Rows.mul_int q (mulOk_ok hc)
theorem repL {K : PySem.W.Frag} {F : Hp} {xs : List D} {vs : List V} (h : RpL K F xs vs) : ∀ n : Nat, RpL K F (List.replicate n xs).flatten (List.replicate n vs).flatten
  | 0 => .nil
  | n + 1 => by
    rw [List.replicate_succ, List.replicate_succ, List.flatten_cons, List.flatten_cons]
    exact h.append (repL h n)
/-- * of ints -/
theorem ex_mul (ha : EB X a f) (hb : EB X b g) : EX X (.BinOp a .Mult b pos) (d2 (fun x y => match x, y with | .int i, .int j => mulD (.int i) (.int j) | _, _ => none) f g) :=
  ex_opI (pe_op op_mulZ ha.pe hb.pe) fun x y d e => by
    cases x <;> cases y <;> simp only [mulD, reduceCtorEq] at e
    split at e
    · rename_i h
      cases e
      exact ⟨_, _, rfl, rfl, h, rfl⟩
    · cases e
/-- a list times an int -/
theorem en_rep (ha : EB X a f) (hb : EB X b g) : EN X (.BinOp a .Mult b pos) (d2 (fun x y => match x, y with | .list xs, .int j => mulD (.list xs) (.int j) | _, _ => none) f g) := by
  refine en_op2 (ta := tC .non) (tb := tC .non) (pe_op op_rep ha.pe hb.pe) fun x y u v d F H Q e s ru rv k => ?_
  cases x <;> cases y <;> simp only [mulD, reduceCtorEq] at e
  split at e
  · rename_i hl
    cases e
    obtain ⟨p, xs, rfl, hp, rp⟩ := ru.list s
    refine ⟨p, _, xs, rfl, rv.int, hp, by omega, by omega, by rw [rp.length]; exact line_of hl.2, fun t ht => k t _ ht (.lst (repL rp _))⟩
  · cases e
theorem ex_fdiv (ha : EB X a f) (hb : EB X b g) : EX X (.BinOp a .FloorDiv b pos) (d2 fdivD f g) :=
  ex_opI (pe_op op_fdivW ha.pe hb.pe) fun x y d e => by
    cases x <;> cases y <;> simp only [fdivD, reduceCtorEq] at e
    split at e
    · rename_i h
      cases e
      exact ⟨_, _, rfl, rfl, h, rfl⟩
    · cases e
theorem ex_mod (ha : EB X a f) (hb : EB X b g) : EX X (.BinOp a .Mod b pos) (d2 modD f g) :=
  ex_opI (pe_op op_mod ha.pe hb.pe) fun x y d e => by
    cases x <;> cases y <;> simp only [modD, reduceCtorEq] at e
    split at e
    · rename_i h
      cases e
      exact ⟨_, _, rfl, rfl, h, rfl⟩
    · cases e
theorem ex_pow (ha : EB X a f) (hb : EB X b g) : EX X (.BinOp a .Pow b pos) (d2 powD f g) :=
  ex_opI (pe_op op_pow ha.pe hb.pe) fun x y d e => by
    cases x <;> cases y <;> simp only [powD, reduceCtorEq] at e
    split at e
    · rename_i h
      cases e
      exact ⟨_, _, rfl, rfl, ⟨h.1, by have := h.2.1; omega, h.2.2⟩, rfl⟩
    · cases e
theorem ex_shl (ha : EB X a f) (hb : EB X b g) : EX X (.BinOp a .LShift b pos) (d2 shlD f g) :=
  ex_opI (pe_op op_shl ha.pe hb.pe) fun x y d e => by
    cases x <;> cases y <;> simp only [shlD, reduceCtorEq] at e
    split at e
    · rename_i h
      cases e
      exact ⟨_, _, rfl, rfl, ⟨h.1, by have := h.2.1; omega, h.2.2⟩, rfl⟩
    · cases e
theorem ex_neg (ha : EB X a f) : EX X (.UnaryOp .USub a pos) (d1 negD f) :=
  mkX (pe_un un_neg ha.pe) fun σ H Q ρ F d e h k => by
    simp only [d1, Option.bind_eq_some_iff] at h
    obtain ⟨x, h1, h2⟩ := h
    refine ⟨ρ, F, x, e, h1, fun u F1 H1 x1 r1 => ?_⟩
    cases x <;> simp only [negD, reduceCtorEq, Option.some.injEq] at h2
    subst h2
    exact ⟨_, r1.int, k _ F1 H1 x1 (.int _)⟩
end

/-! ### what reads as data -/
mutual
theorem Rp.dp {K : PySem.W.Frag} {F H : Hp} (s : Sub F H) : ∀ (d : D) (v : V), d.plain = true → Rp K F d v → Dp K H v d
  | .none, _, _, h => by cases h; exact .non
  | .bool b, _, _, h => by cases h; exact .bl b
  | .int i, _, _, h => by cases h; exact .int i
  | .str x, _, _, h => by cases h; exact .str x
  | .list ds, _, p, h => by
    cases h with
    | lst h1 h2 => exact .lst (.inl (.inl (s _ _ h1))) (RpL.dp s ds _ (by simpa [PyData.plain] using p) h2)
  | .tuple ds, _, p, h => by
    cases h with
    | tup h1 h2 => exact .tup (.inl (.inl (s _ _ h1))) (RpL.dp s ds _ (by simpa [PyData.plain] using p) h2)
  | .dict _, _, p, _ => by simp [PyData.plain] at p
theorem RpL.dp {K : PySem.W.Frag} {F H : Hp} (s : Sub F H) : ∀ (ds : List D) (vs : List V), PyData.plainAll ds = true → RpL K F ds vs → DpAll K H vs ds
  | [], _, _, h => by cases h; exact .nil
  | d :: ds, _, p, h => by
    cases h with
    | cons h1 h2 =>
      rw [PyData.plainAll, Bool.and_eq_true] at p
      exact .cons (Rp.dp s d _ p.1 h1) (RpL.dp s ds _ p.2 h2)
end
theorem RpB.dp {K : PySem.W.Frag} {F H : Hp} (s : Sub F H) {d : D} {v : V} (p : d.plain = true) (h : RpB K F H d v) : Dp K H v d := by
  rcases h with h | ⟨a, o, rfl, _, h1, h2⟩
  · exact h.dp s d v p
  · cases h2 with
    | lst h2 => exact .lst (.inl (.inl h1)) (RpL.dp s _ _ (by simpa [PyData.plain] using p) h2)
    | dK _ => simp [PyData.plain] at p
    | dT _ => simp [PyData.plain] at p
theorem plain_of_shaped {d : D} (h : SeqAt.shaped d = true) : d.plain = true := by
  unfold SeqAt.shaped at h
  rw [Bool.and_eq_true] at h
  exact PyData.plain_of_canLay0 d h.1
end Zx
/-! Zx3: comparisons, tests, and | or | not, conditional expressions. -/
namespace Zx
open PySem PySem.Spec L2
abbrev DenB := Env → Option Bool
def b2 (op : D → D → Option Bool) (f g : Den) : DenB := fun ρ => (f ρ).bind fun x => (g ρ).bind fun y => op x y
def bV (f : DenB) : Den := fun ρ => (f ρ).bind fun b => some (.bool b)
def eqD (x y : D) : Option Bool := if SeqAt.shaped x && SeqAt.shaped y then some (PyData.eqv x y) else none
def neD (x y : D) : Option Bool := if SeqAt.shaped x && SeqAt.shaped y then some (!PyData.eqv x y) else none
def ordOk (x y : D) : Bool := SeqAt.shaped x && SeqAt.shaped y && PySem.W.alike x y && (match x with | .none => false | _ => true)
def ltD (x y : D) : Option Bool := if ordOk x y then some (PySem.W.dataLt x y) else none
def gtD (x y : D) : Option Bool := if ordOk x y then some (PySem.W.dataLt y x) else none
def leD (x y : D) : Option Bool := if ordOk x y then some (!PySem.W.dataLt y x) else none
def geD (x y : D) : Option Bool := if ordOk x y then some (!PySem.W.dataLt x y) else none
/-- ints -/
def ltI : D → D → Option Bool | .int a, .int b => some (decide (a < b)) | _, _ => none
def leI : D → D → Option Bool | .int a, .int b => some (decide (a ≤ b)) | _, _ => none
def gtI : D → D → Option Bool | .int a, .int b => some (decide (b < a)) | _, _ => none
def geI : D → D → Option Bool | .int a, .int b => some (decide (b ≤ a)) | _, _ => none
def inD (x : D) : D → Option Bool
  | .list ys => if SeqAt.shaped x && SeqAt.shaped (.list ys) then some (ys.any fun z => PyData.eqv z x) else none
  | .tuple ys => if SeqAt.shaped x && SeqAt.shaped (.tuple ys) then some (ys.any fun z => PyData.eqv z x) else none
  | _ => none
def ninD (x y : D) : Option Bool := (inD x y).map (!·)
def isN : D → Option Bool | .none => some true | _ => some false
def notN : D → Option Bool | .none => some false | _ => some true
def b1 (op : D → Option Bool) (f : Den) : DenB := fun ρ => (f ρ).bind op
def bAnd (f g : DenB) : DenB := fun ρ => (f ρ).bind fun b => if b then g ρ else some false
def bOr (f g : DenB) : DenB := fun ρ => (f ρ).bind fun b => if b then some true else g ρ
def bNot (f : DenB) : DenB := fun ρ => (f ρ).bind fun b => some (!b)
def bCh (op op' : D → D → Option Bool) (f g h : Den) : DenB := fun ρ => (f ρ).bind fun x => (g ρ).bind fun y => (op x y).bind fun b => if b then (h ρ).bind fun z => op' y z else some false
def dIf (c : DenB) (f g : Den) : Den := fun ρ => (c ρ).bind fun b => if b then f ρ else g ρ
def truD : D → Option Bool
  | .none => some false
  | .bool b => some b
  | .int i => some (i != 0)
  | .list xs => some (!xs.isEmpty)
  | .tuple xs => some (!xs.isEmpty)
  | _ => none

section
variable {X : Cx} {a b c : Expr} {f g : Den} {fb gb : DenB} {pos : Pos}
def tBl (K : PySem.W.Frag) (f : DenB) : TE := fun σ H Q => ∃ ρ F b, EnvOk K ρ σ F H ∧ f ρ = some b ∧ ∀ F' H', Ext F H F' H' → Q (.bl b) H'
structure EC (X : Cx) (op : CmpOp) (a b : Expr) (f : DenB) : Prop where
  pc : PC X op a b (tBl X.K f)
theorem PC.imp {op : CmpOp} {t t' : TE} (h : PC X op a b t) (i : ∀ σ H Q, t' σ H Q → t σ H Q) : PC X op a b t' := ⟨fun pins s σ H Q I hw => h.run pins s σ H Q I (i σ H Q hw)⟩
theorem pc_op {op : CmpOp} {r : R2} {ta tb : TE} (ho : OpR X (compareOp op) r) (ha : PE X a ta) (hb : PE X b tb) : PC X op a b (tOp r ta tb) :=
  ⟨fun pins s σ H Q I h => binT ha hb I h fun v u s2 x y H2 I2 rx ry q => ho pins s2 σ H2 x y v u Q I2 rx ry q⟩
theorem mkC {op : CmpOp} {o : D → D → Option Bool} {r : R2} (ho : OpR X (compareOp op) r) (ha : EB X a f) (hb : EB X b g)
    (hr : ∀ x y u v d F H Q, o x y = some d → Sub F H → RpB X.K F H x u → RpB X.K F H y v → Q (.bl d) H → r u v H Q) : EC X op a b (b2 o f g) :=
  ⟨PC.imp (pc_op ho ha.pe hb.pe) fun σ H Q ⟨ρ, F, d, e, h, k⟩ => by
    simp only [b2, Option.bind_eq_some_iff] at h
    obtain ⟨x, h1, y, h2, h3⟩ := h
    exact ⟨ρ, F, x, e, h1, fun u F1 H1 x1 r1 => ⟨ρ, F1, y, e.ext x1, h2, fun v F2 H2 x2 r2 => hr x y u v d F2 H2 Q h3 x2.le (r1.ext x2) r2 (k F2 H2 (x1.trans x2))⟩⟩⟩
theorem ec_eq (hu : X.A.units + 64 < cLine) (ha : EB X a f) (hb : EB X b g) : EC X .Eq a b (b2 eqD f g) :=
  mkC (op_eqD hu) ha hb fun x y u v d F H Q e s ru rv k => by
    unfold eqD at e
    split at e
    · rename_i h
      cases e
      rw [Bool.and_eq_true] at h
      exact ⟨x, y, ru.dp s (plain_of_shaped h.1), rv.dp s (plain_of_shaped h.2), h.1, h.2, k⟩
    · cases e
theorem ec_ne (hu : X.A.units + 64 < cLine) (ha : EB X a f) (hb : EB X b g) : EC X .NotEq a b (b2 neD f g) :=
  mkC (op_neD hu) ha hb fun x y u v d F H Q e s ru rv k => by
    unfold neD at e
    split at e
    · rename_i h
      cases e
      rw [Bool.and_eq_true] at h
      exact ⟨x, y, ru.dp s (plain_of_shaped h.1), rv.dp s (plain_of_shaped h.2), h.1, h.2, k⟩
    · cases e
def rOrdD (K : PySem.W.Frag) (z : D → D → Bool) : R2 := fun x y H Q => ∃ d e, Dp K H x d ∧ Dp K H y e ∧ ordOk d e = true ∧ Q (.bl (z d e)) H
theorem ord_parts {d e : D} (h : ordOk d e = true) : SeqAt.shaped d = true ∧ SeqAt.shaped e = true ∧ PySem.W.alike d e = true ∧ d ≠ .none := by
  unfold ordOk at h
  rw [Bool.and_eq_true, Bool.and_eq_true, Bool.and_eq_true] at h
  refine ⟨h.1.1.1, h.1.1.2, h.1.2, ?_⟩
  rintro rfl
  exact Bool.noConfusion h.2
theorem depth64 {d : D} (h : SeqAt.shaped d = true) : d.depth ≤ 64 := by
  unfold SeqAt.shaped at h
  rw [Bool.and_eq_true] at h
  exact of_decide_eq_true h.2
theorem op_ordD {op : CmpOp} {z : D → D → Bool} (hu : X.A.units + 64 < cLine)
    (rule : ∀ {da db : D} {s : Shared} {a b : Value} {as bs : List Addr} {Q : Value → Shared → Prop}, Reads s.heap a da as → Reads s.heap b db bs → PySem.W.alike da db = true → da ≠ .none → X.A.units + min da.depth db.depth < cLine → Q (.bool (z da db)) s → wpAny (model X.prog X.w) X.A (compareOp op a b) Q X.xe s) :
    OpR X (compareOp op) (rOrdD X.K z) := by
  intro pins s σ H x y v u Q I rx ry h
  obtain ⟨d, e, hd, he, ho, q⟩ := h
  obtain ⟨as, r1⟩ := Dp.reads I d x v hd rx
  obtain ⟨bs, r2⟩ := Dp.reads I e y u he ry
  obtain ⟨s1, s2, s3, s4⟩ := ord_parts ho
  have h1 := depth64 s1
  exact rule r1 r2 s3 s4 (by have : min d.depth e.depth ≤ d.depth := Nat.min_le_left _ _; omega) ⟨.bl _, H, I, rfl, q⟩
theorem ec_ord {op : CmpOp} {z : D → D → Bool} (ho : OpR X (compareOp op) (rOrdD X.K z)) (ha : EB X a f) (hb : EB X b g) : EC X op a b (b2 (fun x y => if ordOk x y then some (z x y) else none) f g) :=
  mkC ho ha hb fun x y u v d F H Q e s ru rv k => by
    split at e
    · rename_i h
      cases e
      obtain ⟨s1, s2, _, _⟩ := ord_parts h
      exact ⟨x, y, ru.dp s (plain_of_shaped s1), rv.dp s (plain_of_shaped s2), h, k⟩
    · cases e
theorem ec_lt (hu : X.A.units + 64 < cLine) (ha : EB X a f) (hb : EB X b g) : EC X .Lt a b (b2 ltD f g) := ec_ord (op_ordD hu fun r1 r2 h1 h2 h3 h4 => PySem.W.lt_data r1 r2 h1 h2 h3 h4) ha hb
theorem ec_gt (hu : X.A.units + 64 < cLine) (ha : EB X a f) (hb : EB X b g) : EC X .Gt a b (b2 gtD f g) := ec_ord (op_ordD hu fun r1 r2 h1 h2 h3 h4 => PySem.W.gt_data r1 r2 h1 h2 h3 h4) ha hb
theorem ec_le (hu : X.A.units + 64 < cLine) (ha : EB X a f) (hb : EB X b g) : EC X .LtE a b (b2 leD f g) := ec_ord (op_ordD hu fun r1 r2 h1 h2 h3 h4 => PySem.W.le_data r1 r2 h1 h2 h3 h4) ha hb
theorem ec_ge (hu : X.A.units + 64 < cLine) (ha : EB X a f) (hb : EB X b g) : EC X .GtE a b (b2 geD f g) := ec_ord (op_ordD hu fun r1 r2 h1 h2 h3 h4 => PySem.W.ge_data r1 r2 h1 h2 h3 h4) ha hb
theorem ec_int {op : CmpOp} {o : D → D → Option Bool} {z : Int → Int → Bool} (ho : OpR X (compareOp op) (rI0 fun i j => .bl (z i j))) (h : ∀ x y d, o x y = some d → ∃ i j, x = .int i ∧ y = .int j ∧ d = z i j) (ha : EB X a f) (hb : EB X b g) : EC X op a b (b2 o f g) :=
  mkC ho ha hb fun x y u v d F H Q e s ru rv k => by
    obtain ⟨i, j, rfl, rfl, rfl⟩ := h x y d e
    exact ⟨i, j, ru.int, rv.int, k⟩
theorem ltI_i (x y : D) (d : Bool) (e : ltI x y = some d) : ∃ i j, x = .int i ∧ y = .int j ∧ d = decide (i < j) := by
  cases x <;> cases y <;> simp only [ltI, reduceCtorEq, Option.some.injEq] at e
  exact ⟨_, _, rfl, rfl, e.symm⟩
theorem leI_i (x y : D) (d : Bool) (e : leI x y = some d) : ∃ i j, x = .int i ∧ y = .int j ∧ d = decide (i ≤ j) := by
  cases x <;> cases y <;> simp only [leI, reduceCtorEq, Option.some.injEq] at e
  exact ⟨_, _, rfl, rfl, e.symm⟩
theorem gtI_i (x y : D) (d : Bool) (e : gtI x y = some d) : ∃ i j, x = .int i ∧ y = .int j ∧ d = decide (j < i) := by
  cases x <;> cases y <;> simp only [gtI, reduceCtorEq, Option.some.injEq] at e
  exact ⟨_, _, rfl, rfl, e.symm⟩
theorem geI_i (x y : D) (d : Bool) (e : geI x y = some d) : ∃ i j, x = .int i ∧ y = .int j ∧ d = decide (j ≤ i) := by
  cases x <;> cases y <;> simp only [geI, reduceCtorEq, Option.some.injEq] at e
  exact ⟨_, _, rfl, rfl, e.symm⟩
theorem ec_ltI (ha : EB X a f) (hb : EB X b g) : EC X .Lt a b (b2 ltI f g) := ec_int op_lt ltI_i ha hb
theorem ec_leI (ha : EB X a f) (hb : EB X b g) : EC X .LtE a b (b2 leI f g) := ec_int op_le leI_i ha hb
theorem ec_gtI (ha : EB X a f) (hb : EB X b g) : EC X .Gt a b (b2 gtI f g) := ec_int op_gt gtI_i ha hb
theorem ec_geI (ha : EB X a f) (hb : EB X b g) : EC X .GtE a b (b2 geI f g) := ec_int op_ge geI_i ha hb
theorem ec_isN {j pos'} (ha : EB X a f) : EC X .Is a (.Constant .none j pos') (b1 isN f) :=
  ⟨PC.imp (pc_isN ha.pe) fun σ H Q ⟨ρ, F, d, e, h, k⟩ => by
    simp only [b1, Option.bind_eq_some_iff] at h
    obtain ⟨x, h1, h3⟩ := h
    refine ⟨ρ, F, x, e, h1, fun u F1 H1 x1 r1 => ?_⟩
    have z := k F1 H1 x1
    show Q (.bl (decide (u = .non))) H1
    rw [r1.isN]
    cases x <;> simp only [isN, Option.some.injEq] at h3 <;> subst h3 <;> exact z⟩
theorem ec_notN {j pos'} (ha : EB X a f) : EC X .IsNot a (.Constant .none j pos') (b1 notN f) :=
  ⟨PC.imp (pc_notN ha.pe) fun σ H Q ⟨ρ, F, d, e, h, k⟩ => by
    simp only [b1, Option.bind_eq_some_iff] at h
    obtain ⟨x, h1, h3⟩ := h
    refine ⟨ρ, F, x, e, h1, fun u F1 H1 x1 r1 => ?_⟩
    have z := k F1 H1 x1
    show Q (.bl (!decide (u = .non))) H1
    rw [r1.isN]
    cases x <;> simp only [notN, Option.some.injEq] at h3 <;> subst h3 <;> exact z⟩
/-! ### a comparison as a value, as a test -/
theorem ex_cmp {op : CmpOp} (h : EC X op a b fb) (hm : behindInMarks op b = false) : EX X (.Compare a [op] [b] pos) (bV fb) :=
  mkX (pe_cmp h.pc hm) fun σ H Q ρ F d e h k => by
    simp only [bV, Option.bind_eq_some_iff, Option.some.injEq] at h
    obtain ⟨x, h1, rfl⟩ := h
    exact ⟨ρ, F, x, e, h1, fun F1 H1 x1 => k _ F1 H1 x1 (.bl _)⟩
theorem et_cmp {op : CmpOp} (h : EC X op a b fb) (hm : behindInMarks op b = false) : ET X (.Compare a [op] [b] pos) fb :=
  mkTs (pt_cmp h.pc hm) fun σ H Q ρ F d e h k => ⟨ρ, F, d, e, h, fun F1 H1 x1 => ⟨d, rfl, k F1 H1 x1⟩⟩
/-! ### chains of ints -/
theorem chain_t {h : Den} {o o' : D → D → Option Bool} {z z' : Int → Int → Bool} (ho : ∀ x y d, o x y = some d → ∃ i j, x = .int i ∧ y = .int j ∧ d = z i j) (ho' : ∀ x y d, o' x y = some d → ∃ i j, x = .int i ∧ y = .int j ∧ d = z' i j)
    {σ : L2.St} {H : Hp} {Q : VK} {ρ : Env} {F : Hp} {d : Bool} (e : EnvOk X.K ρ σ F H) (hd : bCh o o' f g h ρ = some d) (k : ∀ F' H', Ext F H F' H' → Q (.bl d) H') :
    tChain (rI0 fun i j => .bl (z i j)) (rI0 fun i j => .bl (z' i j)) (tB' X.K f) (tB' X.K g) (tB' X.K h) σ H Q := by
  simp only [bCh, Option.bind_eq_some_iff] at hd
  obtain ⟨x, h1, y, h2, b0, h3, h4⟩ := hd
  obtain ⟨i, j, rfl, rfl, rfl⟩ := ho x y b0 h3
  refine ⟨ρ, F, _, e, h1, fun u F1 H1 x1 r1 => ⟨ρ, F1, _, e.ext x1, h2, fun v F2 H2 x2 r2 => ⟨i, j, (r1.ext x2).int, r2.int, _, rfl, ?_⟩⟩⟩
  split
  · rename_i hb
    rw [if_pos hb] at h4
    simp only [Option.bind_eq_some_iff] at h4
    obtain ⟨w, h5, h6⟩ := h4
    obtain ⟨i', j', ei, rfl, rfl⟩ := ho' _ w d h6
    cases ei
    exact ⟨ρ, F2, _, (e.ext x1).ext x2, h5, fun v3 F3 H3 x3 r3 => ⟨j, j', (r2.ext x3).int, r3.int, k F3 H3 ((x1.trans x2).trans x3)⟩⟩
  · rename_i hb
    rw [if_neg hb] at h4
    cases h4
    exact k F2 H2 (x1.trans x2)
theorem ex_chain {h : Den} {op op' : CmpOp} {o o' : D → D → Option Bool} {z z' : Int → Int → Bool} (hop : OpR X (compareOp op) (rI0 fun i j => .bl (z i j))) (hop' : OpR X (compareOp op') (rI0 fun i j => .bl (z' i j)))
    (ho : ∀ x y d, o x y = some d → ∃ i j, x = .int i ∧ y = .int j ∧ d = z i j) (ho' : ∀ x y d, o' x y = some d → ∃ i j, x = .int i ∧ y = .int j ∧ d = z' i j) (ha : EB X a f) (hb : EB X b g) (hc : EB X c h)
    (hm : lastMarks [op, op'] [b, c] = false) : EX X (.Compare a [op, op'] [b, c] pos) (bV (bCh o o' f g h)) :=
  mkX (pe_chain hop hop' ha.pe hb.pe hc.pe hm) fun σ H Q ρ F d e h k => by
    simp only [bV, Option.bind_eq_some_iff, Option.some.injEq] at h
    obtain ⟨x, h1, rfl⟩ := h
    exact chain_t ho ho' e h1 fun F' H' x' => k _ F' H' x' (.bl _)
theorem et_chain {h : Den} {op op' : CmpOp} {o o' : D → D → Option Bool} {z z' : Int → Int → Bool} (hop : OpR X (compareOp op) (rI0 fun i j => .bl (z i j))) (hop' : OpR X (compareOp op') (rI0 fun i j => .bl (z' i j)))
    (ho : ∀ x y d, o x y = some d → ∃ i j, x = .int i ∧ y = .int j ∧ d = z i j) (ho' : ∀ x y d, o' x y = some d → ∃ i j, x = .int i ∧ y = .int j ∧ d = z' i j) (ha : EB X a f) (hb : EB X b g) (hc : EB X c h)
    (hm : lastMarks [op, op'] [b, c] = false) : ET X (.Compare a [op, op'] [b, c] pos) (bCh o o' f g h) :=
  mkTs (pt_chain hop hop' ha.pe hb.pe hc.pe hm) fun σ H Q ρ F d e h k => chain_t (Q := fun x H' => ∃ k, x = .bl k ∧ Q k H') ho ho' e h fun F' H' x' => ⟨d, rfl, k F' H' x'⟩
theorem et_leLe {h : Den} (ha : EB X a f) (hb : EB X b g) (hc : EB X c h) (hm : lastMarks [.LtE, .LtE] [b, c] = false) : ET X (.Compare a [.LtE, .LtE] [b, c] pos) (bCh leI leI f g h) := et_chain op_le op_le leI_i leI_i ha hb hc hm
theorem et_leLt {h : Den} (ha : EB X a f) (hb : EB X b g) (hc : EB X c h) (hm : lastMarks [.LtE, .Lt] [b, c] = false) : ET X (.Compare a [.LtE, .Lt] [b, c] pos) (bCh leI ltI f g h) := et_chain op_le op_lt leI_i ltI_i ha hb hc hm
theorem et_ltLe {h : Den} (ha : EB X a f) (hb : EB X b g) (hc : EB X c h) (hm : lastMarks [.Lt, .LtE] [b, c] = false) : ET X (.Compare a [.Lt, .LtE] [b, c] pos) (bCh ltI leI f g h) := et_chain op_lt op_le ltI_i leI_i ha hb hc hm
theorem et_ltLt {h : Den} (ha : EB X a f) (hb : EB X b g) (hc : EB X c h) (hm : lastMarks [.Lt, .Lt] [b, c] = false) : ET X (.Compare a [.Lt, .Lt] [b, c] pos) (bCh ltI ltI f g h) := et_chain op_lt op_lt ltI_i ltI_i ha hb hc hm
theorem ex_leLe {h : Den} (ha : EB X a f) (hb : EB X b g) (hc : EB X c h) (hm : lastMarks [.LtE, .LtE] [b, c] = false) : EX X (.Compare a [.LtE, .LtE] [b, c] pos) (bV (bCh leI leI f g h)) := ex_chain op_le op_le leI_i leI_i ha hb hc hm
theorem ex_leLt {h : Den} (ha : EB X a f) (hb : EB X b g) (hc : EB X c h) (hm : lastMarks [.LtE, .Lt] [b, c] = false) : EX X (.Compare a [.LtE, .Lt] [b, c] pos) (bV (bCh leI ltI f g h)) := ex_chain op_le op_lt leI_i ltI_i ha hb hc hm
theorem ex_ltLt {h : Den} (ha : EB X a f) (hb : EB X b g) (hc : EB X c h) (hm : lastMarks [.Lt, .Lt] [b, c] = false) : EX X (.Compare a [.Lt, .Lt] [b, c] pos) (bV (bCh ltI ltI f g h)) := ex_chain op_lt op_lt ltI_i ltI_i ha hb hc hm
/-! ### in, not in: a list or a tuple -/
def rInZ (K : PySem.W.Frag) (neg : Bool) : R2 := fun x y H Q => ∃ d ds, Dp K H x d ∧ (Dp K H y (.list ds) ∨ Dp K H y (.tuple ds)) ∧ SeqAt.shaped d = true ∧ SeqAt.shaped (.list ds) = true ∧ Q (.bl (if neg then !ds.any (fun z => PyData.eqv z d) else ds.any fun z => PyData.eqv z d)) H
theorem shaped_lt {ds : List D} : SeqAt.shaped (.list ds) = SeqAt.shaped (.tuple ds) := rfl
theorem inz_room {A : Around} {d : D} {n : Nat} (h : SeqAt.shaped d = true) (hu : A.units + 65 < cLine) : A.units + 1 + min n d.depth < cLine := by
  have h1 := depth64 h
  have : min n d.depth ≤ d.depth := Nat.min_le_right _ _
  omega
theorem plainAll_of {ds : List D} (h : SeqAt.shaped (.list ds) = true) : PyData.plainAll ds = true := by
  have := plain_of_shaped h
  simpa [PyData.plain] using this
theorem op_inZ (hu : X.A.units + 65 < cLine) : OpR X (compareOp .In) (rInZ X.K false) := by
  intro pins s σ H x y v u Q I rx ry h
  obtain ⟨d, ds, hd, he, sd, se, q⟩ := h
  obtain ⟨as, r1⟩ := Dp.reads I d x v hd rx
  rcases he with he | he
  · obtain ⟨bs, r2⟩ := Dp.reads I (.list ds) y u he ry
    exact SeqAt.in_list_data r2 r1 (plainAll_of se) (plain_of_shaped sd) (inz_room sd hu) ⟨.bl _, H, I, rfl, q⟩
  · obtain ⟨bs, r2⟩ := Dp.reads I (.tuple ds) y u he ry
    exact SeqAt.in_tuple_data r2 r1 (plainAll_of se) (plain_of_shaped sd) (inz_room sd hu) ⟨.bl _, H, I, rfl, q⟩
theorem op_ninZ (hu : X.A.units + 65 < cLine) : OpR X (compareOp .NotIn) (rInZ X.K true) := by
  intro pins s σ H x y v u Q I rx ry h
  obtain ⟨d, ds, hd, he, sd, se, q⟩ := h
  obtain ⟨as, r1⟩ := Dp.reads I d x v hd rx
  rcases he with he | he
  · obtain ⟨bs, r2⟩ := Dp.reads I (.list ds) y u he ry
    exact SeqAt.notIn_list_data r2 r1 (plainAll_of se) (plain_of_shaped sd) (inz_room sd hu) ⟨.bl _, H, I, rfl, q⟩
  · obtain ⟨bs, r2⟩ := Dp.reads I (.tuple ds) y u he ry
    exact SeqAt.notIn_tuple_data r2 r1 (plainAll_of se) (plain_of_shaped sd) (inz_room sd hu) ⟨.bl _, H, I, rfl, q⟩
theorem inD_parts {x y : D} {b : Bool} (e : inD x y = some b) : ∃ ds, (y = .list ds ∨ y = .tuple ds) ∧ SeqAt.shaped x = true ∧ SeqAt.shaped (.list ds) = true ∧ b = ds.any fun z => PyData.eqv z x := by
  cases y <;> simp only [inD, reduceCtorEq] at e <;> split at e
  · rename_i h
    rw [Bool.and_eq_true] at h
    cases e
    exact ⟨_, .inl rfl, h.1, h.2, rfl⟩
  · cases e
  · rename_i h
    rw [Bool.and_eq_true] at h
    cases e
    exact ⟨_, .inr rfl, h.1, h.2, rfl⟩
  · cases e
theorem dp_seq {K : PySem.W.Frag} {F H : Hp} {y : D} {ds : List D} {v : V} (s : Sub F H) (hy : y = .list ds ∨ y = .tuple ds) (h : SeqAt.shaped (.list ds) = true) (r : RpB K F H y v) : Dp K H v (.list ds) ∨ Dp K H v (.tuple ds) := by
  rcases hy with rfl | rfl
  · exact .inl (r.dp s (plain_of_shaped h))
  · exact .inr (r.dp s (plain_of_shaped (shaped_lt ▸ h)))
theorem ec_in (hu : X.A.units + 65 < cLine) (ha : EB X a f) (hb : EB X b g) : EC X .In a b (b2 inD f g) :=
  mkC (op_inZ hu) ha hb fun x y u v d F H Q e s ru rv k => by
    obtain ⟨ds, hy, sx, sy, rfl⟩ := inD_parts e
    exact ⟨x, ds, ru.dp s (plain_of_shaped sx), dp_seq s hy sy rv, sx, sy, k⟩
theorem ec_nin (hu : X.A.units + 65 < cLine) (ha : EB X a f) (hb : EB X b g) : EC X .NotIn a b (b2 ninD f g) :=
  mkC (op_ninZ hu) ha hb fun x y u v d F H Q e s ru rv k => by
    simp only [ninD, Option.map_eq_some_iff] at e
    obtain ⟨b0, e, rfl⟩ := e
    obtain ⟨ds, hy, sx, sy, rfl⟩ := inD_parts e
    exact ⟨x, ds, ru.dp s (plain_of_shaped sx), dp_seq s hy sy rv, sx, sy, k⟩
/-! ### tests -/
/-- a test whatever its whole is -/
structure EW (X : Cx) (e : Expr) (f : DenB) : Prop where
  pw : PW X e (tTst X.K f)
theorem EW.t {e : Expr} (h : EW X e fb) : ET X e fb := ⟨h.pw.pt⟩
theorem PW.imp {e : Expr} {t t' : TT} (h : PW X e t) (i : ∀ σ H Q, t' σ H Q → t σ H Q) : PW X e t' := ⟨fun wh pins s σ H Q I hw => h.run wh pins s σ H Q I (i σ H Q hw)⟩
variable {rest : List Expr}
theorem ew_and1 (ha : ET X a fb) : EW X (.BoolOp .And [a] pos) fb := ⟨pw_and1 ha.pt⟩
theorem ew_or1 (ha : ET X a fb) : EW X (.BoolOp .Or [a] pos) fb := ⟨pw_or1 ha.pt⟩
theorem ew_and (ha : ET X a fb) (hb : EW X (.BoolOp .And (b :: rest) pos) gb) : EW X (.BoolOp .And (a :: b :: rest) pos) (bAnd fb gb) :=
  ⟨PW.imp (pw_and ha.pt hb.pw) fun σ H Q ⟨ρ, F, d, e, h, k⟩ => by
    simp only [bAnd, Option.bind_eq_some_iff] at h
    obtain ⟨x, h1, h2⟩ := h
    refine ⟨ρ, F, x, e, h1, fun F1 H1 x1 => ?_⟩
    cases x with
    | true => exact ⟨ρ, F1, d, e.ext x1, h2, fun F2 H2 x2 => k F2 H2 (x1.trans x2)⟩
    | false =>
      cases h2
      exact k F1 H1 x1⟩
theorem ew_or (ha : ET X a fb) (hb : EW X (.BoolOp .Or (b :: rest) pos) gb) : EW X (.BoolOp .Or (a :: b :: rest) pos) (bOr fb gb) :=
  ⟨PW.imp (pw_or ha.pt hb.pw) fun σ H Q ⟨ρ, F, d, e, h, k⟩ => by
    simp only [bOr, Option.bind_eq_some_iff] at h
    obtain ⟨x, h1, h2⟩ := h
    refine ⟨ρ, F, x, e, h1, fun F1 H1 x1 => ?_⟩
    cases x with
    | true =>
      cases h2
      exact k F1 H1 x1
    | false => exact ⟨ρ, F1, d, e.ext x1, h2, fun F2 H2 x2 => k F2 H2 (x1.trans x2)⟩⟩
theorem et_not (ha : ET X a fb) : ET X (.UnaryOp .Not a pos) (bNot fb) :=
  mkTs (pt_not ha.pt) fun σ H Q ρ F d e h k => by
    simp only [bNot, Option.bind_eq_some_iff, Option.some.injEq] at h
    obtain ⟨x, h1, rfl⟩ := h
    exact ⟨ρ, F, x, e, h1, fun F1 H1 x1 => k F1 H1 x1⟩
theorem truD_ok {K : PySem.W.Frag} {F H : Hp} {x : D} {v : V} {k : Bool} (s : Sub F H) (r : RpB K F H x v) (h : truD x = some k) : TruV K v H k := by
  cases x <;> simp only [truD, Option.some.injEq, reduceCtorEq] at h
  · rw [r.none']; exact h.symm
  · rw [r.bool]; exact h.symm
  · rw [r.int]; exact h.symm
  · obtain ⟨a, xs, rfl, h1, h2⟩ := r.list s
    refine .inl ⟨xs, .inl (.inl h1), ?_⟩
    rw [← h]
    cases h2 <;> rfl
  · obtain ⟨a, xs, rfl, h1, h2⟩ := r.tuple s
    refine .inr (.inl ⟨xs, .inl (.inl h1), ?_⟩)
    rw [← h]
    cases h2 <;> rfl
/-- a value's truth -/
theorem et_val (ha : EB X a f) (he : ∀ whole, isTrue a X.env whole = (do let v ← whole; standAt a.pos; holding [v] (truthy v))) : ET X a (b1 truD f) :=
  mkTs (pt_truth ha.pe he) fun σ H Q ρ F d e h k => by
    simp only [b1, Option.bind_eq_some_iff] at h
    obtain ⟨x, h1, h2⟩ := h
    exact ⟨ρ, F, x, e, h1, fun v F1 H1 x1 r1 => ⟨d, truD_ok x1.le r1 h2, k F1 H1 x1⟩⟩
/-! ### and, or, not as values of bools -/
def dAnd (f g : Den) : Den := fun ρ => (f ρ).bind fun x => match x with | .bool true => g ρ | .bool false => some (.bool false) | _ => none
def dOr (f g : Den) : Den := fun ρ => (f ρ).bind fun x => match x with | .bool true => some (.bool true) | .bool false => g ρ | _ => none
theorem ex_one {op} (h : EX X a f) : EX X (.BoolOp op [a] pos) f := ⟨pe_one h.pe⟩
theorem ex_and (ha : EX X a f) (hb : EX X (.BoolOp .And (b :: rest) pos) g) : EX X (.BoolOp .And (a :: b :: rest) pos) (dAnd f g) :=
  mkX (pe_and ha.pe hb.pe) fun σ H Q ρ F d e h k => by
    simp only [dAnd, Option.bind_eq_some_iff] at h
    obtain ⟨x, h1, h2⟩ := h
    refine ⟨ρ, F, x, e, h1, fun v F1 H1 x1 r1 => ?_⟩
    split at h2
    · cases r1
      refine ⟨true, rfl, ?_⟩
      exact ⟨ρ, F1, d, e.ext x1, h2, fun w F2 H2 x2 r2 => k w F2 H2 (x1.trans x2) r2⟩
    · cases r1
      cases h2
      exact ⟨false, rfl, k _ F1 H1 x1 (.bl _)⟩
    · cases h2
theorem ex_or (ha : EX X a f) (hb : EX X (.BoolOp .Or (b :: rest) pos) g) : EX X (.BoolOp .Or (a :: b :: rest) pos) (dOr f g) :=
  mkX (pe_or ha.pe hb.pe) fun σ H Q ρ F d e h k => by
    simp only [dOr, Option.bind_eq_some_iff] at h
    obtain ⟨x, h1, h2⟩ := h
    refine ⟨ρ, F, x, e, h1, fun v F1 H1 x1 r1 => ?_⟩
    split at h2
    · cases r1
      cases h2
      exact ⟨true, rfl, k _ F1 H1 x1 (.bl _)⟩
    · cases r1
      refine ⟨false, rfl, ?_⟩
      exact ⟨ρ, F1, d, e.ext x1, h2, fun w F2 H2 x2 r2 => k w F2 H2 (x1.trans x2) r2⟩
    · cases h2
def notD : D → Option D | .bool b => some (.bool (!b)) | _ => none
theorem ex_not (ha : EX X a f) : EX X (.UnaryOp .Not a pos) (d1 notD f) :=
  mkX (pe_not ha.pe) fun σ H Q ρ F d e h k => by
    simp only [d1, Option.bind_eq_some_iff] at h
    obtain ⟨x, h1, h2⟩ := h
    refine ⟨ρ, F, x, e, h1, fun v F1 H1 x1 r1 => ?_⟩
    cases x <;> simp only [notD, reduceCtorEq, Option.some.injEq] at h2
    subst h2
    cases r1
    exact ⟨_, rfl, k _ F1 H1 x1 (.bl _)⟩
/-! ### a if c else b -/
theorem ex_if (hc : ET X c fb) (ha : EX X a f) (hb : EX X b g) : EX X (.IfExp c a b pos) (dIf fb f g) :=
  mkX (pe_ifExp hc.pt ha.pe hb.pe) fun σ H Q ρ F d e h k => by
    simp only [dIf, Option.bind_eq_some_iff] at h
    obtain ⟨x, h1, h2⟩ := h
    refine ⟨ρ, F, x, e, h1, fun F1 H1 x1 => ?_⟩
    cases x with
    | true => exact ⟨ρ, F1, d, e.ext x1, h2, fun w F2 H2 x2 r2 => k w F2 H2 (x1.trans x2) r2⟩
    | false => exact ⟨ρ, F1, d, e.ext x1, h2, fun w F2 H2 x2 r2 => k w F2 H2 (x1.trans x2) r2⟩
end
end Zx
/-! Zx4: subscripts, slices, built-in functions, what is walked. -/
namespace Zx
open PySem PySem.Spec L2
/-! ### denotations -/
def ixD : D → D → Option D
  | .list xs, .int i => atI xs i
  | .tuple xs, .int i => atI xs i
  | .dict [(.none, .list xs)], .int i => atI xs i
  | _, _ => none
abbrev DenO := Env → Option (Option Int)
def oNone : DenO := fun _ => some none
def oSome (f : Den) : DenO := fun ρ => (f ρ).bind fun x => match x with | .int i => some (some i) | _ => none
def cutL {α : Type} (xs : List α) (lo hi : Option Int) : List α := (xs.drop (HT.sIx xs.length 0 lo)).take (HT.sIx xs.length xs.length hi - HT.sIx xs.length 0 lo)
def cutD (lo hi : Option Int) : D → Option D
  | .list xs => some (.list (cutL xs lo hi))
  | .tuple xs => some (.tuple (cutL xs lo hi))
  | _ => none
def dSl (f : Den) (l h : DenO) : Den := fun ρ => (f ρ).bind fun x => (l ρ).bind fun lo => (h ρ).bind fun hi => cutD lo hi x
def lenD : D → Option D
  | .list xs => some (.int xs.length)
  | .tuple xs => some (.int xs.length)
  | .dict [(.none, .list xs)] => some (.int xs.length)
  | _ => none
def absD : D → Option D | .int i => some (.int (if i < 0 then -i else i)) | _ => none
def minD2 : D → D → Option D | .int i, .int j => some (.int (if j < i then j else i)) | _, _ => none
def maxD2 : D → D → Option D | .int i, .int j => some (.int (if j > i then j else i)) | _, _ => none
def intD : D → Option D | .int i => some (.int i) | .bool k => some (.int (if k then 1 else 0)) | _ => none
def intsOf : List D → Option (List Int)
  | [] => some []
  | .int i :: r => (intsOf r).bind fun is => some (i :: is)
  | _ => none
def bools : List D → Option (List Bool)
  | [] => some []
  | .bool i :: r => (bools r).bind fun is => some (i :: is)
  | _ => none
def sumD : D → Option D | .list xs => (intsOf xs).bind fun is => some (.int is.sum) | _ => none
def anyD : D → Option D | .list xs => (bools xs).bind fun is => some (.bool (is.any id)) | _ => none
def allD : D → Option D | .list xs => (bools xs).bind fun is => some (.bool (is.all id)) | _ => none
def tupD : D → Option D | .list xs => some (.tuple xs) | .tuple xs => some (.tuple xs) | _ => none
def gcdD : D → D → Option D | .int a, .int b => some (.int (Nat.gcd a.natAbs b.natAbs : Nat)) | _, _ => none
def rgL (lo : Int) (n : Nat) : List D := (List.range n).map fun i => .int (lo + (i : Nat))
def rg1 : D → Option (List D) | .int j => if j.natAbs ≤ 1000000 then some (rgL 0 j.toNat) else none | _ => none
def rg2 : D → D → Option (List D) | .int i, .int j => if j.natAbs ≤ 1000000 ∧ i.natAbs ≤ 1000000 then some (rgL i (j - i).toNat) else none | _, _ => none
abbrev DenI := Env → Option (List D)
def iSeq (f : Den) : DenI := fun ρ => (f ρ).bind seqOf
def iR1 (f : Den) : DenI := fun ρ => (f ρ).bind rg1
def iR2 (f g : Den) : DenI := fun ρ => (f ρ).bind fun x => (g ρ).bind fun y => rg2 x y
def enumL (xs : List D) : List D := (List.range xs.length).zipWith (fun i x => .tuple [.int (i : Nat), x]) xs
def zipL (xs ys : List D) : List D := xs.zipWith (fun x y => .tuple [x, y]) ys
def iEn (f : Den) : DenI := fun ρ => (f ρ).bind fun x => match x with | .list xs => some (enumL xs) | _ => none
def iZp (f g : Den) : DenI := fun ρ => (f ρ).bind fun x => (g ρ).bind fun y => match x, y with | .list xs, .list ys => some (zipL xs ys) | _, _ => none

theorem RpK.nn {K : PySem.W.Frag} {F : Hp} {l : List (D × D)} {kvs : List (Key × V)} (h : RpK K F l kvs) {d : D} {r : List (D × D)} (e : l = (.none, d) :: r) : False := by
  cases h with
  | nil => cases e
  | @cons k _ _ _ _ _ _ =>
    injection e with e1 _
    injection e1 with e2 _
    cases k <;> cases e2
theorem RpB.scr {K : PySem.W.Frag} {F H : Hp} {xs : List D} {v : V} (s : Sub F H) (h : RpB K F H (.dict [(.none, .list xs)]) v) : ∃ (a : Addr) (ns : List Int), v = .ref a ∧ xs = ns.map .int ∧ SqL K H a (ns.map V.int) := by
  rcases h with h | ⟨_, o, _, _, _, h⟩
  · generalize hz : PyData.dict [(.none, .list xs)] = z at h
    cases h with
    | non => cases hz
    | bl => cases hz
    | int => cases hz
    | str => cases hz
    | lst => cases hz
    | tup => cases hz
    | dK h1 h2 =>
      injection hz with hz
      exact (h2.nn hz.symm).elim
    | dT h1 h2 =>
      injection hz with hz
      injection hz with hz _
      injection hz with hz _
      cases hz
    | @scr a ns h =>
      unfold scrD at hz
      injection hz with hz
      injection hz with hz _
      injection hz with _ hz
      injection hz with hz
      subst hz
      refine ⟨a, ns, rfl, rfl, ?_⟩
      rcases h with h | h
      · exact .inl (s.rd h)
      · exact .inr h
  · generalize hz : PyData.dict [(.none, .list xs)] = z at h
    cases h with
    | lst => cases hz
    | dK h2 =>
      injection hz with hz
      exact (h2.nn hz.symm).elim
    | dT h2 =>
      injection hz with hz
      injection hz with hz _
      injection hz with hz _
      cases hz
theorem ixN_len {α β : Type} {xs : List α} {ys : List β} (h : xs.length = ys.length) (i : Int) : ixN xs.length i = ixN ys.length i := by rw [h]
section
variable {X : Cx} {a b c : Expr} {f g : Den} {fl : DenL} {pos : Pos} {K : PySem.W.Frag} {F H : Hp}
theorem RpL.atI {ds : List D} {vs : List V} {i : Int} {d : D} (r : RpL K F ds vs) (h : L2.atI ds i = some d) : ∃ v, L2.atI vs i = some v ∧ Rp K F d v := by
  unfold L2.atI at h ⊢
  rw [Option.bind_eq_some_iff] at h
  obtain ⟨j, h1, h2⟩ := h
  obtain ⟨v, h3, h4⟩ := r.get h2
  exact ⟨v, by rw [ixN_len r.length, h1]; exact h3, h4⟩
theorem ex_ix (ha : EB X a f) (hb : EB X b g) (hs : PlainIx b) : EX X (.Subscript a b pos) (d2 ixD f g) := by
  refine ex_op2 (ta := tC .non) (tb := tC .non) (pe_ix (ix_list.or ix_tup) ha.pe hb.pe hs) fun x y u v d F H Q e s ru rv k => ?_
  unfold ixD at e
  split at e
  · obtain ⟨p, xs, rfl, hp, rp⟩ := ru.list s
    obtain ⟨w, h1, h2⟩ := rp.atI e
    exact .inl ⟨p, xs, _, w, rfl, rv.int, .inl (.inl hp), h1, k w F H (.refl s) h2⟩
  · obtain ⟨p, xs, rfl, hp, rp⟩ := ru.tuple s
    obtain ⟨w, h1, h2⟩ := rp.atI e
    exact .inr ⟨p, xs, _, w, rfl, rv.int, .inl (.inl hp), h1, k w F H (.refl s) h2⟩
  · obtain ⟨p, ns, rfl, rfl, hp⟩ := ru.scr s
    obtain ⟨w, h1, h2⟩ := (RpL.ints (K := X.K) (F := F) ns).atI e
    exact .inl ⟨p, _, _, w, rfl, rv.int, hp, h1, k w F H (.refl s) h2⟩
  · cases e
/-! ### slices -/
def tO (K : PySem.W.Frag) (f : DenO) : TO := fun σ H Q => ∃ ρ F o, EnvOk K ρ σ F H ∧ f ρ = some o ∧ ∀ F' H', Ext F H F' H' → Q o H'
structure EO (X : Cx) (e : Option Expr) (f : DenO) : Prop where
  po : PO X e (tO X.K f)
theorem PO.imp {e : Option Expr} {t t' : TO} (h : PO X e t) (i : ∀ σ H Q, t' σ H Q → t σ H Q) : PO X e t' := ⟨fun pins s σ H Q I hw => h.run pins s σ H Q I (i σ H Q hw)⟩
theorem eo_none : EO X none oNone := ⟨PO.imp po_none fun σ H Q ⟨ρ, F, o, e, h, k⟩ => by
  cases h
  exact k F H (.refl e.sub)⟩
theorem eo_some (ha : EB X a f) : EO X (some a) (oSome f) := ⟨PO.imp (po_some ha.pe) fun σ H Q ⟨ρ, F, o, e, h, k⟩ => by
  simp only [oSome, Option.bind_eq_some_iff] at h
  obtain ⟨x, h1, h2⟩ := h
  refine ⟨ρ, F, x, e, h1, fun v F1 H1 x1 r1 => ?_⟩
  cases x <;> simp only [reduceCtorEq, Option.some.injEq] at h2
  subst h2
  exact ⟨_, r1.int, k F1 H1 x1⟩⟩
theorem cut_rp {ds : List D} {vs : List V} (r : RpL K F ds vs) (lo hi : Option Int) : RpL K F (cutL ds lo hi) (cutV vs lo hi) := by
  unfold cutL cutV
  rw [r.length]
  exact (r.drop _).take _
theorem sl_t {lo hi : Option Expr} {fl fh : DenO} {p2 : Pos} {r} {σ : L2.St} {H : Hp} {Q : VK} {ρ : Env} {F : Hp} {d : D} (e : EnvOk X.K ρ σ F H) (h : dSl f fl fh ρ = some d)
    (k : ∀ x lo hi v F' H', Ext F H F' H' → RpB X.K F' H' x v → cutD lo hi x = some d → r v lo hi H' Q) : tSl r (tB' X.K f) (tO X.K fl) (tO X.K fh) σ H Q := by
  simp only [dSl, Option.bind_eq_some_iff] at h
  obtain ⟨x, h1, lo, h2, hi, h3, h4⟩ := h
  exact ⟨ρ, F, x, e, h1, fun v F1 H1 x1 r1 => ⟨ρ, F1, lo, e.ext x1, h2, fun F2 H2 x2 => ⟨ρ, F2, hi, (e.ext x1).ext x2, h3, fun F3 H3 x3 => k x lo hi v F3 H3 ((x1.trans x2).trans x3) ((r1.ext x2).ext x3) h4⟩⟩⟩
theorem ex_sl {lo hi : Option Expr} {fl fh : DenO} {p2 : Pos} (ha : EB X a f) (hl : EO X lo fl) (hh : EO X hi fh) : EX X (.Subscript a (.Slice lo hi none p2) pos) (dSl f fl fh) :=
  mkX (pe_slice (sl_list.or sl_tupA) ha.pe hl.po hh.po) fun σ H Q ρ F d e h k => sl_t (p2 := p2) (lo := lo) (hi := hi) e h fun x lo hi v F' H' x' r' hd => by
    unfold cutD at hd
    split at hd
    · cases hd
      obtain ⟨p, xs, rfl, hp, rp⟩ := r'.list x'.le
      exact .inl ⟨p, xs, rfl, .inl (.inl hp), fun q hq => k _ _ _ (x'.trans (.add x'.le hq)) (.lst upd_same ((cut_rp rp lo hi).mono (Sub.new (x'.le.free hq))))⟩
    · cases hd
      obtain ⟨p, xs, rfl, hp, rp⟩ := r'.tuple x'.le
      refine .inr ⟨p, xs, rfl, .inl (.inl hp), fun hw => ?_, fun hw q hq => ?_⟩
      · refine k _ F' H' x' ?_
        rename_i ds
        have e1 : cutL ds lo hi = ds := by
          unfold cutL
          rw [← rp.length, hw.1, hw.2, List.drop_zero, Nat.sub_zero, rp.length, List.take_length]
        rw [e1]
        exact r'.elim id fun ⟨_, _, _, _, _, z⟩ => nomatch z
      · exact k _ _ _ (x'.trans (.add x'.le hq)) (.tup upd_same ((cut_rp rp lo hi).mono (Sub.new (x'.le.free hq))))
    · cases hd
/-- a slice of a list, the new list one's own -/
theorem en_sl {lo hi : Option Expr} {fl fh : DenO} {p2 : Pos} (ha : EB X a (fun ρ => (f ρ).bind fun x => match x with | .list xs => some (.list xs) | _ => none)) (hl : EO X lo fl) (hh : EO X hi fh) : EN X (.Subscript a (.Slice lo hi none p2) pos) (dSl (fun ρ => (f ρ).bind fun x => match x with | .list xs => some (.list xs) | _ => none) fl fh) :=
  mkN (pe_slice sl_list ha.pe hl.po hh.po) fun σ H Q ρ F d e h k => by
    have hx : ∃ xs, (f ρ) = some (.list xs) := by
      simp only [dSl, Option.bind_eq_some_iff] at h
      obtain ⟨x, ⟨y, h1, h2⟩, _⟩ := h
      cases y <;> simp only [reduceCtorEq] at h2
      exact ⟨_, h1⟩
    obtain ⟨ys, hys⟩ := hx
    simp only [dSl, Option.bind_eq_some_iff] at h
    obtain ⟨x, ⟨y, h1, h1'⟩, lo, h2, hi, h3, h4⟩ := h
    rw [hys] at h1
    cases h1
    simp only [Option.some.injEq] at h1'
    subst h1'
    simp only [cutD, Option.some.injEq] at h4
    subst h4
    refine ⟨ρ, F, .list ys, e, by show (f ρ).bind _ = _; rw [hys]; rfl, fun v F1 H1 x1 r1 => ⟨ρ, F1, lo, e.ext x1, h2, fun F2 H2 x2 => ⟨ρ, F2, hi, (e.ext x1).ext x2, h3, fun F3 H3 x3 => ?_⟩⟩⟩
    obtain ⟨p, xs, rfl, hp, rp⟩ := ((r1.ext x2).ext x3).list x3.le
    have x' := (x1.trans x2).trans x3
    exact ⟨p, xs, rfl, .inl (.inl hp), fun q hq => k q _ F3 _ (x'.trans (.own x'.le hq)) (x'.le.free hq) (x'.h.free hq) upd_same (.lst (cut_rp rp lo hi))⟩

/-! ### built-in functions of one or two values -/
theorem ex_c1 {op : D → Option D} {e : Expr} {r : List V → Hp → VK → Prop} (h : PE X e (tCB r (tCons (tB' X.K f) tNil)))
    (hr : ∀ x u d F H Q, op x = some d → Sub F H → RpB X.K F H x u → (∀ w F' H', Ext F H F' H' → Rp X.K F' d w → Q w H') → r [u] H Q) : EX X e (d1 op f) :=
  mkX h fun σ H Q ρ F d e h k => by
    simp only [d1, Option.bind_eq_some_iff] at h
    obtain ⟨x, h1, h2⟩ := h
    exact ⟨ρ, F, x, e, h1, fun u F1 H1 x1 r1 => hr x u d F1 H1 Q h2 x1.le r1 fun w F' H' x2 rw => k w F' H' (x1.trans x2) rw⟩
theorem en_c1 {op : D → Option D} {e : Expr} {r : List V → Hp → VK → Prop} (h : PE X e (tCB r (tCons (tB' X.K f) tNil)))
    (hr : ∀ x u d F H Q, op x = some d → Sub F H → RpB X.K F H x u → (∀ p o, H p = none → OwnRep X.K F d o → Q (.ref p) (upd H p o)) → r [u] H Q) : EN X e (d1 op f) :=
  mkN h fun σ H Q ρ F d e h k => by
    simp only [d1, Option.bind_eq_some_iff] at h
    obtain ⟨x, h1, h2⟩ := h
    exact ⟨ρ, F, x, e, h1, fun u F1 H1 x1 r1 => hr x u d F1 H1 Q h2 x1.le r1 fun p o hp ho => k p o F1 _ (x1.trans (.own x1.le hp)) (x1.le.free hp) (x1.h.free hp) upd_same ho⟩
theorem ex_c2 {op : D → D → Option D} {e : Expr} {r : List V → Hp → VK → Prop} (h : PE X e (tCB r (tCons (tB' X.K f) (tCons (tB' X.K g) tNil))))
    (hr : ∀ x y u v d F H Q, op x y = some d → Sub F H → RpB X.K F H x u → RpB X.K F H y v → (∀ w F' H', Ext F H F' H' → Rp X.K F' d w → Q w H') → r [u, v] H Q) : EX X e (d2 op f g) :=
  mkX h fun σ H Q ρ F d e h k => by
    simp only [d2, Option.bind_eq_some_iff] at h
    obtain ⟨x, h1, y, h2, h3⟩ := h
    exact ⟨ρ, F, x, e, h1, fun u F1 H1 x1 r1 => ⟨ρ, F1, y, e.ext x1, h2, fun v F2 H2 x2 r2 => hr x y u v d F2 H2 Q h3 x2.le (r1.ext x2) r2 fun w F' H' x3 rw => k w F' H' ((x1.trans x2).trans x3) rw⟩⟩
variable {p : Pos}
abbrev N1 (X : Cx) (a : Expr) : Prop := starEach [a] X.env = (false, eval a X.env) :: starEach [] X.env
abbrev N2 (X : Cx) (a b : Expr) : Prop := starEach [a, b] X.env = (false, eval a X.env) :: starEach [b] X.env
theorem ex_len (hg : Gl X "len") (hm : X.mg "len" = none) (ha : EB X a f) (hs : N1 X a) : EX X (.Call (.Name "len" p) [a] [] pos) (d1 lenD f) :=
  ex_c1 (pe_callB call_len hg hm boot_len (pa_cons ha.pe pa_nil hs) (by decide) (by decide) hs rfl) fun x u d F H Q e s ru k => by
    unfold lenD at e
    split at e
    · cases e
      obtain ⟨q, xs, rfl, hq, rq⟩ := ru.list s
      rw [← rq.length] at k
      exact ⟨_, _, rfl, .inl ⟨xs, .inl (.inl hq), rfl⟩, k _ F H (.refl s) (.int _)⟩
    · cases e
      obtain ⟨q, xs, rfl, hq, rq⟩ := ru.tuple s
      rw [← rq.length] at k
      exact ⟨_, _, rfl, .inr ⟨xs, .inl (.inl hq), rfl⟩, k _ F H (.refl s) (.int _)⟩
    · cases e
      obtain ⟨q, ns, rfl, rfl, hq⟩ := ru.scr s
      rw [List.length_map] at k
      refine ⟨_, (ns.map V.int).length, rfl, .inl ⟨ns.map V.int, hq, rfl⟩, ?_⟩
      rw [List.length_map]
      exact k _ F H (.refl s) (.int _)
    · cases e
theorem ex_abs (hg : Gl X "abs") (hm : X.mg "abs" = none) (ha : EB X a f) (hs : N1 X a) : EX X (.Call (.Name "abs" p) [a] [] pos) (d1 absD f) :=
  ex_c1 (pe_callB call_abs hg hm rfl (pa_cons ha.pe pa_nil hs) (by decide) (by decide) hs rfl) fun x u d F H Q e s ru k => by
    cases x <;> simp only [absD, reduceCtorEq, Option.some.injEq] at e
    subst e
    exact ⟨_, congrArg (fun z => [z]) ru.int, k _ F H (.refl s) (.int _)⟩
theorem ex_int1 (hg : Gl X "int") (hm : X.mg "int" = none) (ha : EB X a f) (hs : N1 X a) : EX X (.Call (.Name "int" p) [a] [] pos) (d1 intD f) :=
  ex_c1 (pe_callTy call_int1 hg hm rfl (pa_cons ha.pe pa_nil hs) (by decide) (by decide) hs rfl) fun x u d F H Q e s ru k => by
    cases x <;> simp only [intD, reduceCtorEq, Option.some.injEq] at e
    · subst e
      exact .inr ⟨_, congrArg (fun z => [z]) ru.bool, k _ F H (.refl s) (.int _)⟩
    · subst e
      exact .inl ⟨_, congrArg (fun z => [z]) ru.int, k _ F H (.refl s) (.int _)⟩
theorem ex_min2 (hc : X.calm = true) (hg : Gl X "min") (hm : X.mg "min" = none) (ha : EB X a f) (hb : EB X b g) (hs : N2 X a b) (hs1 : N1 X b) : EX X (.Call (.Name "min" p) [a, b] [] pos) (d2 minD2 f g) :=
  ex_c2 (pe_callB (call_min2 hc) hg hm rfl (pa_cons ha.pe (pa_cons hb.pe pa_nil hs1) hs) (by decide) (by decide) hs (by rw [hs1]; rfl)) fun x y u v d F H Q e s ru rv k => by
    cases x <;> cases y <;> simp only [minD2, reduceCtorEq, Option.some.injEq] at e
    subst e
    exact ⟨_, _, by rw [ru.int, rv.int], k _ F H (.refl s) (.int _)⟩
theorem ex_max2 (hc : X.calm = true) (hg : Gl X "max") (hm : X.mg "max" = none) (ha : EB X a f) (hb : EB X b g) (hs : N2 X a b) (hs1 : N1 X b) : EX X (.Call (.Name "max" p) [a, b] [] pos) (d2 maxD2 f g) :=
  ex_c2 (pe_callB (call_max2 hc) hg hm rfl (pa_cons ha.pe (pa_cons hb.pe pa_nil hs1) hs) (by decide) (by decide) hs (by rw [hs1]; rfl)) fun x y u v d F H Q e s ru rv k => by
    cases x <;> cases y <;> simp only [maxD2, reduceCtorEq, Option.some.injEq] at e
    subst e
    exact ⟨_, _, by rw [ru.int, rv.int], k _ F H (.refl s) (.int _)⟩
theorem intsOf_eq : ∀ {xs : List D} {is : List Int}, intsOf xs = some is → xs = is.map .int
  | [], is, h => by cases h; rfl
  | .int i :: r, is, h => by
    simp only [intsOf, Option.bind_eq_some_iff, Option.some.injEq] at h
    obtain ⟨js, h1, rfl⟩ := h
    rw [intsOf_eq h1, List.map_cons]
  | .none :: r, is, h => by simp [intsOf] at h
  | .bool _ :: r, is, h => by simp [intsOf] at h
  | .str _ :: r, is, h => by simp [intsOf] at h
  | .list _ :: r, is, h => by simp [intsOf] at h
  | .tuple _ :: r, is, h => by simp [intsOf] at h
  | .dict _ :: r, is, h => by simp [intsOf] at h
theorem bools_eq : ∀ {xs : List D} {is : List Bool}, bools xs = some is → xs = is.map .bool
  | [], is, h => by cases h; rfl
  | .bool i :: r, is, h => by
    simp only [bools, Option.bind_eq_some_iff, Option.some.injEq] at h
    obtain ⟨js, h1, rfl⟩ := h
    rw [bools_eq h1, List.map_cons]
  | .none :: r, is, h => by simp [bools] at h
  | .int _ :: r, is, h => by simp [bools] at h
  | .str _ :: r, is, h => by simp [bools] at h
  | .list _ :: r, is, h => by simp [bools] at h
  | .tuple _ :: r, is, h => by simp [bools] at h
  | .dict _ :: r, is, h => by simp [bools] at h
theorem RpL.bls : ∀ {bs : List Bool} {vs : List V}, RpL K F (bs.map .bool) vs → vs = bs.map V.bl
  | [], _, .nil => rfl
  | n :: ns, _, .cons h t => by
    cases h
    rw [RpL.bls t, List.map_cons]
theorem ex_sum (hc : X.calm = true) (hg : Gl X "sum") (hm : X.mg "sum" = none) (ha : EB X a f) (hs : N1 X a) : EX X (.Call (.Name "sum" p) [a] [] pos) (d1 sumD f) :=
  ex_c1 (pe_callB (cr_sum hc) hg hm rfl (pa_cons ha.pe pa_nil hs) (by decide) (by decide) hs rfl) fun x u d F H Q e s ru k => by
    cases x <;> simp only [sumD, reduceCtorEq, Option.bind_eq_some_iff, Option.some.injEq] at e
    obtain ⟨is, h1, rfl⟩ := e
    have h2 := intsOf_eq h1
    subst h2
    obtain ⟨q, xs, rfl, hq, rq⟩ := ru.list s
    rw [rq.ints_inv] at hq
    exact ⟨q, is, rfl, .inl (.inl hq), k _ F H (.refl s) (.int _)⟩
theorem ex_any (hc : X.calm = true) (hg : Gl X "any") (hm : X.mg "any" = none) (ha : EB X a f) (hs : N1 X a) : EX X (.Call (.Name "any" p) [a] [] pos) (d1 anyD f) :=
  ex_c1 (pe_callB (cr_any hc) hg hm rfl (pa_cons ha.pe pa_nil hs) (by decide) (by decide) hs rfl) fun x u d F H Q e s ru k => by
    cases x <;> simp only [anyD, reduceCtorEq, Option.bind_eq_some_iff, Option.some.injEq] at e
    obtain ⟨is, h1, rfl⟩ := e
    have h2 := bools_eq h1
    subst h2
    obtain ⟨q, xs, rfl, hq, rq⟩ := ru.list s
    rw [rq.bls] at hq
    exact ⟨q, is, rfl, .inl (.inl hq), k _ F H (.refl s) (.bl _)⟩
theorem ex_all (hc : X.calm = true) (hg : Gl X "all") (hm : X.mg "all" = none) (ha : EB X a f) (hs : N1 X a) : EX X (.Call (.Name "all" p) [a] [] pos) (d1 allD f) :=
  ex_c1 (pe_callB (cr_all hc) hg hm rfl (pa_cons ha.pe pa_nil hs) (by decide) (by decide) hs rfl) fun x u d F H Q e s ru k => by
    cases x <;> simp only [allD, reduceCtorEq, Option.bind_eq_some_iff, Option.some.injEq] at e
    obtain ⟨is, h1, rfl⟩ := e
    have h2 := bools_eq h1
    subst h2
    obtain ⟨q, xs, rfl, hq, rq⟩ := ru.list s
    rw [rq.bls] at hq
    exact ⟨q, is, rfl, .inl (.inl hq), k _ F H (.refl s) (.bl _)⟩
theorem ex_gcd (hg : Gl X "gcd") (hm : X.mg "gcd" = some (.builtin "math.gcd")) (ha : EB X a f) (hb : EB X b g) (hs : N2 X a b) (hs1 : N1 X b) : EX X (.Call (.Name "gcd" p) [a, b] [] pos) (d2 gcdD f g) :=
  ex_c2 (pe_callBfun cr_gcd hg hm (pa_cons ha.pe (pa_cons hb.pe pa_nil hs1) hs) (by decide) hs (by rw [hs1]; rfl)) fun x y u v d F H Q e s ru rv k => by
    cases x <;> cases y <;> simp only [gcdD, reduceCtorEq, Option.some.injEq] at e
    subst e
    exact ⟨_, _, by rw [ru.int, rv.int], k _ F H (.refl s) (.int _)⟩
theorem ex_tuple (hg : Gl X "tuple") (hm : X.mg "tuple" = none) (ha : EB X a f) (hs : N1 X a) : EX X (.Call (.Name "tuple" p) [a] [] pos) (d1 tupD f) :=
  mkX (pe_tupleOf hg hm ha.pe hs) fun σ H Q ρ F d e h k => by
    simp only [d1, Option.bind_eq_some_iff] at h
    obtain ⟨x, h1, h2⟩ := h
    refine ⟨ρ, F, x, e, h1, fun u F1 H1 x1 r1 => ?_⟩
    unfold tupD at h2
    split at h2
    · cases h2
      obtain ⟨q, xs, rfl, hq, rq⟩ := r1.list x1.le
      exact .inl ⟨q, xs, rfl, .inl (.inl hq), fun t ht => k _ _ _ (x1.trans (.add x1.le ht)) (.tup upd_same (rq.mono (Sub.new (x1.le.free ht))))⟩
    · cases h2
      obtain ⟨q, xs, rfl, hq, rq⟩ := r1.tuple x1.le
      exact .inr ⟨q, xs, rfl, .inl (.inl hq), k _ F1 H1 x1 (r1.elim id fun ⟨_, _, _, _, _, z⟩ => nomatch z)⟩
    · cases h2

/-! ### what is walked -/
def Walks (K : PySem.W.Frag) (J : It) (F0 : Hp) (ds : List D) : Prop := ∀ (i : Nat) F H, Sub F0 F → Sub F H →
  (∀ d, ds[i]? = some d → J.go i H ∧ ∀ x H', J.yld i H x H' → ∃ F', Ext F H F' H' ∧ Rp K F' d x) ∧ (ds.length ≤ i → J.stop i H)
def tI (K : PySem.W.Frag) (f : DenI) : TI := fun σ H R => ∃ ρ F ds, EnvOk K ρ σ F H ∧ f ρ = some ds ∧ ∀ J F' H', Ext F H F' H' → Walks K J F' ds → R J H'
structure EI (X : Cx) (tg e : Expr) (f : DenI) : Prop where
  pi : PI X tg e (tI X.K f)
variable {tg : Expr} {fi : DenI}
theorem mkI {e : Expr} {t : TI} (h : PI X tg e t) (i : ∀ σ H R ρ F d, EnvOk X.K ρ σ F H → fi ρ = some d → (∀ J F' H', Ext F H F' H' → Walks X.K J F' d → R J H') → t σ H R) : EI X tg e fi :=
  ⟨PI.imp h fun σ H Q ⟨ρ, F, d, e1, e2, k⟩ => i σ H Q ρ F d e1 e2 k⟩
theorem walks_list {q : Addr} {xs : List V} {ds : List D} (h : F q = some (.lst xs)) (r : RpL K F ds xs) : Walks K (Itl K q) F ds := fun i F1 H1 s1 s2 => by
  have hq : SqL K H1 q xs := .inl (.inl (s2 _ _ (s1 _ _ h)))
  refine ⟨fun d hd => ?_, fun hi => ⟨xs, hq, by rw [r.length]; exact hi⟩⟩
  obtain ⟨v, hv, rv⟩ := r.get hd
  refine ⟨⟨xs, v, hq, hv⟩, fun x H' hy => ?_⟩
  obtain ⟨e, hy⟩ := hy
  subst e
  have := hy xs hq
  rw [hv] at this
  cases this
  exact ⟨F1, .refl s2, rv.mono s1⟩
theorem walks_tup {q : Addr} {xs : List V} {ds : List D} (h : F q = some (.tup xs)) (r : RpL K F ds xs) : Walks K (Itt K q) F ds := fun i F1 H1 s1 s2 => by
  have hq : SqT K H1 q xs := .inl (.inl (s2 _ _ (s1 _ _ h)))
  refine ⟨fun d hd => ?_, fun hi => ⟨xs, hq, by rw [r.length]; exact hi⟩⟩
  obtain ⟨v, hv, rv⟩ := r.get hd
  refine ⟨⟨xs, v, hq, hv⟩, fun x H' hy => ?_⟩
  obtain ⟨e, hy⟩ := hy
  subst e
  have := hy xs hq
  rw [hv] at this
  cases this
  exact ⟨F1, .refl s2, rv.mono s1⟩
theorem rgL_get {lo : Int} {n i : Nat} {d : D} (h : (rgL lo n)[i]? = some d) : i < n ∧ d = .int (lo + (i : Nat)) := by
  unfold rgL at h
  rw [List.getElem?_map, Option.map_eq_some_iff] at h
  obtain ⟨j, h1, rfl⟩ := h
  rw [List.getElem?_eq_some_iff] at h1
  obtain ⟨h2, h3⟩ := h1
  rw [List.getElem_range] at h3
  subst h3
  exact ⟨by simpa using h2, rfl⟩
theorem rgL_length (lo : Int) (n : Nat) : (rgL lo n).length = n := by unfold rgL; rw [List.length_map, List.length_range]
theorem walks_range (lo : Int) (n : Nat) : Walks K (Itr lo n) F (rgL lo n) := fun i F1 H1 s1 s2 => by
  refine ⟨fun d hd => ?_, fun hi => by rw [rgL_length] at hi; exact hi⟩
  obtain ⟨h1, rfl⟩ := rgL_get hd
  refine ⟨h1, fun x H' hy => ?_⟩
  obtain ⟨e, rfl⟩ := hy
  subst e
  exact ⟨F1, .refl s2, .int _⟩
/-- over a list -/
theorem ei_list (ha : EX X a f) : EI X tg a (fun ρ => (f ρ).bind fun x => match x with | .list xs => some xs | _ => none) :=
  mkI (pi_list ha.pe) fun σ H R ρ F d e h k => by
    simp only [Option.bind_eq_some_iff] at h
    obtain ⟨x, h1, h2⟩ := h
    refine ⟨ρ, F, x, e, h1, fun u F1 H1 x1 r1 => ?_⟩
    cases x <;> simp only [reduceCtorEq, Option.some.injEq] at h2
    subst h2
    cases r1 with
    | lst hq rq => exact ⟨_, rfl, ⟨_, .inl (.inl (x1.le _ _ hq))⟩, k _ F1 H1 x1 (walks_list hq rq)⟩
/-- over a tuple -/
theorem ei_tup (ha : EX X a f) : EI X tg a (fun ρ => (f ρ).bind fun x => match x with | .tuple xs => some xs | _ => none) :=
  mkI (pi_tup ha.pe) fun σ H R ρ F d e h k => by
    simp only [Option.bind_eq_some_iff] at h
    obtain ⟨x, h1, h2⟩ := h
    refine ⟨ρ, F, x, e, h1, fun u F1 H1 x1 r1 => ?_⟩
    cases x <;> simp only [reduceCtorEq, Option.some.injEq] at h2
    subst h2
    cases r1 with
    | tup hq rq => exact ⟨_, rfl, ⟨_, .inl (.inl (x1.le _ _ hq))⟩, k _ F1 H1 x1 (walks_tup hq rq)⟩
theorem ei_r1 (hg : Gl X "range") (hm : X.mg "range" = none) (ha : EX X a f) (hs : N1 X a) : EI X tg (.Call (.Name "range" p) [a] [] pos) (iR1 f) :=
  mkI (pi_range1 hg hm (pa_cons ha.pe pa_nil hs) (by rw [hs]; rfl)) fun σ H R ρ F d e h k => by
    simp only [iR1, Option.bind_eq_some_iff] at h
    obtain ⟨x, h1, h2⟩ := h
    refine ⟨ρ, F, x, e, h1, fun u F1 H1 x1 r1 => ?_⟩
    cases x <;> simp only [rg1, reduceCtorEq] at h2
    split at h2
    · rename_i hz
      cases h2
      cases r1
      exact ⟨_, rfl, by omega, by omega, k _ F1 H1 x1 (walks_range 0 _)⟩
    · cases h2
theorem ei_r2 (hg : Gl X "range") (hm : X.mg "range" = none) (ha : EX X a f) (hb : EX X b g) (hs : N2 X a b) (hs1 : N1 X b) : EI X tg (.Call (.Name "range" p) [a, b] [] pos) (iR2 f g) :=
  mkI (pi_range2 hg hm (pa_cons ha.pe (pa_cons hb.pe pa_nil hs1) hs) (by rw [hs, hs1]; rfl) (by rw [hs1]; rfl)) fun σ H R ρ F d e h k => by
    simp only [iR2, Option.bind_eq_some_iff] at h
    obtain ⟨x, h1, y, h2, h3⟩ := h
    refine ⟨ρ, F, x, e, h1, fun u F1 H1 x1 r1 => ⟨ρ, F1, y, e.ext x1, h2, fun v F2 H2 x2 r2 => ?_⟩⟩
    cases x <;> cases y <;> simp only [rg2, reduceCtorEq] at h3
    split at h3
    · rename_i hz
      cases h3
      cases r1
      cases r2
      exact ⟨_, _, rfl, ⟨by omega, by omega, by omega, by omega⟩, k _ F2 H2 (x1.trans x2) (walks_range _ _)⟩
    · cases h3
theorem enumL_get {xs : List D} {i : Nat} {d : D} (h : (enumL xs)[i]? = some d) : ∃ x, xs[i]? = some x ∧ d = .tuple [.int (i : Nat), x] := by
  unfold enumL at h
  rw [List.getElem?_zipWith] at h
  split at h
  · rename_i j x h1 h2
    cases h
    rw [List.getElem?_eq_some_iff] at h1
    obtain ⟨_, h3⟩ := h1
    rw [List.getElem_range] at h3
    subst h3
    exact ⟨x, h2, rfl⟩
  · cases h
theorem enumL_length (xs : List D) : (enumL xs).length = xs.length := by
  unfold enumL
  rw [List.length_zipWith, List.length_range, Nat.min_self]
theorem zipL_get {xs ys : List D} {i : Nat} {d : D} (h : (zipL xs ys)[i]? = some d) : ∃ x y, xs[i]? = some x ∧ ys[i]? = some y ∧ d = .tuple [x, y] := by
  unfold zipL at h
  rw [List.getElem?_zipWith] at h
  split at h
  · rename_i x y h1 h2
    cases h
    exact ⟨x, y, h1, h2, rfl⟩
  · cases h
theorem zipL_length (xs ys : List D) : (zipL xs ys).length = min xs.length ys.length := by
  unfold zipL
  rw [List.length_zipWith]
theorem walks_enum {q : Addr} {xs : List V} {ds : List D} (h : F q = some (.lst xs)) (r : RpL K F ds xs) : Walks K (Ite K q) F (enumL ds) := fun i F1 H1 s1 s2 => by
  have hq : SqL K H1 q xs := .inl (.inl (s2 _ _ (s1 _ _ h)))
  refine ⟨fun d hd => ?_, fun hi => ⟨xs, hq, by rw [r.length]; rw [enumL_length] at hi; exact hi⟩⟩
  obtain ⟨x, hx, rfl⟩ := enumL_get hd
  obtain ⟨v, hv, rv⟩ := r.get hx
  refine ⟨⟨xs, v, hq, hv⟩, fun y H' hy => ?_⟩
  obtain ⟨T, z, rfl, hT, rfl, hz⟩ := hy
  have := hz xs hq
  rw [hv] at this
  cases this
  exact ⟨_, .add s2 hT, .tup upd_same (.cons (.int _) (.cons (rv.mono (s1.trans (Sub.new (s2.free hT)))) .nil))⟩
theorem walks_zip {q q' : Addr} {xs ys : List V} {ds es : List D} (h : F q = some (.lst xs)) (r : RpL K F ds xs) (h' : F q' = some (.lst ys)) (r' : RpL K F es ys) : Walks K (Itz K q q') F (zipL ds es) := fun i F1 H1 s1 s2 => by
  have hq : SqL K H1 q xs := .inl (.inl (s2 _ _ (s1 _ _ h)))
  have hq' : SqL K H1 q' ys := .inl (.inl (s2 _ _ (s1 _ _ h')))
  refine ⟨fun d hd => ?_, fun hi => ⟨xs, ys, hq, hq', by rw [r.length, r'.length]; rw [zipL_length] at hi; omega⟩⟩
  obtain ⟨x, y, hx, hy, rfl⟩ := zipL_get hd
  obtain ⟨v, hv, rv⟩ := r.get hx
  obtain ⟨w, hw, rw'⟩ := r'.get hy
  refine ⟨⟨xs, ys, v, w, hq, hq', hv, hw⟩, fun y H' hy => ?_⟩
  obtain ⟨T, z1, z2, rfl, hT, rfl, hz1, hz2⟩ := hy
  have e1 := hz1 xs hq
  rw [hv] at e1
  cases e1
  have e2 := hz2 ys hq'
  rw [hw] at e2
  cases e2
  have s3 := s1.trans (Sub.new (H := F1) (o := .tup [v, w]) (s2.free hT))
  exact ⟨_, .add s2 hT, .tup upd_same (.cons (rv.mono s3) (.cons (rw'.mono s3) .nil))⟩
variable {elts : List Expr} {kk : Nat} {tpos : Pos}
theorem ei_enum (hg : Gl X "enumerate") (hm : X.mg "enumerate" = none) (ha : EX X a f) (hs : N1 X a) : EI X (.Tuple elts kk tpos) (.Call (.Name "enumerate" p) [a] [] pos) (iEn f) :=
  mkI (pi_enum hg hm (pa_cons ha.pe pa_nil hs) (by rw [hs]; rfl)) fun σ H R ρ F d e h k => by
    simp only [iEn, Option.bind_eq_some_iff] at h
    obtain ⟨x, h1, h2⟩ := h
    refine ⟨ρ, F, x, e, h1, fun u F1 H1 x1 r1 => ?_⟩
    cases x <;> simp only [reduceCtorEq, Option.some.injEq] at h2
    subst h2
    cases r1 with
    | lst hq rq => exact ⟨_, _, rfl, .inl (.inl (x1.le _ _ hq)), k _ F1 H1 x1 (walks_enum hq rq)⟩
theorem ei_zip (hg : Gl X "zip") (hm : X.mg "zip" = none) (ha : EX X a f) (hb : EX X b g) (hs : N2 X a b) (hs1 : N1 X b) : EI X (.Tuple elts kk tpos) (.Call (.Name "zip" p) [a, b] [] pos) (iZp f g) :=
  mkI (pi_zip hg hm (pa_cons ha.pe (pa_cons hb.pe pa_nil hs1) hs) hs (by rw [hs1]; rfl)) fun σ H R ρ F d e h k => by
    simp only [iZp, Option.bind_eq_some_iff] at h
    obtain ⟨x, h1, y, h2, h3⟩ := h
    refine ⟨ρ, F, x, e, h1, fun u F1 H1 x1 r1 => ⟨ρ, F1, y, e.ext x1, h2, fun v F2 H2 x2 r2 => ?_⟩⟩
    cases x <;> cases y <;> simp only [reduceCtorEq, Option.some.injEq] at h3
    subst h3
    cases r1 with
    | lst hq rq =>
      cases r2 with
      | lst hq' rq' => exact ⟨_, _, _, _, rfl, .inl (.inl (x2.le _ _ (x2.f _ _ hq))), .inl (.inl (x2.le _ _ hq')), k _ F2 H2 (x1.trans x2) (walks_zip (x2.f _ _ hq) (rq.mono x2.f) hq' rq')⟩
end
end Zx
/-! Zx5: targets, statements, loops. -/
namespace Zx
open PySem PySem.Spec L2
/-! ### targets that store names alone -/
abbrev DenG := D → Env → Option Env
structure SameBut (ws : List Nat) (σ σ' : L2.St) : Prop where
  len : σ'.length = σ.length
  at_ : ∀ j, j ∉ ws → σ'[j]? = σ[j]?
theorem SameBut.trans {ws vs : List Nat} {σ σ' σ'' : L2.St} (a : SameBut ws σ σ') (b : SameBut vs σ' σ'') : SameBut (ws ++ vs) σ σ'' :=
  ⟨b.len.trans a.len, fun j hj => by
    rw [List.mem_append, not_or] at hj
    rw [b.at_ j hj.2, a.at_ j hj.1]⟩
/-- what is one's own was so before -/
def OwK (ρ : Env) (σ : L2.St) (ρ' : Env) (σ' : L2.St) : Prop := ∀ (j : Nat) d, ρ'[j]? = some (.ow d) → ρ[j]? = some (.ow d) ∧ σ'[j]? = σ[j]?
theorem OwK.trans {ρ ρ' ρ'' : Env} {σ σ' σ'' : L2.St} (a : OwK ρ σ ρ' σ') (b : OwK ρ' σ' ρ'' σ'') : OwK ρ σ ρ'' σ'' := fun j d h => by
  obtain ⟨h1, h2⟩ := b j d h
  obtain ⟨h3, h4⟩ := a j d h1
  exact ⟨h3, h2.trans h4⟩
theorem OwK.set {ρ : Env} {σ : L2.St} {i : Nat} {d : D} {v : Option V} : OwK ρ σ (ρ.set i (.fz d)) (σ.set i v) := fun j d' h => by
  by_cases hj : i = j
  · subst hj
    by_cases hl : i < ρ.length
    · rw [List.getElem?_set_self hl] at h
      cases h
    · rw [List.getElem?_eq_none (by rw [List.length_set]; omega)] at h
      cases h
  · rw [List.getElem?_set_ne hj] at h
    exact ⟨h, List.getElem?_set_ne hj⟩
def tGt (K : PySem.W.Frag) (ws : List Nat) (g : DenG) : TG := fun v σ H Q => ∃ ρ F d ρ', EnvOk K ρ σ F H ∧ Rp K F d v ∧ g d ρ = some ρ' ∧ ∀ σ', EnvOk K ρ' σ' F H → SameBut ws σ σ' → OwK ρ σ ρ' σ' → Q σ' H
structure EG (X : Cx) (tg : Expr) (ws : List Nat) (g : DenG) : Prop where
  pg : PG X tg (tGt X.K ws g)
abbrev DenGs := List D → Env → Option Env
def tGts (K : PySem.W.Frag) (ws : List Nat) (g : DenGs) : TGs := fun vs σ H Q => ∃ ρ F ds ρ', EnvOk K ρ σ F H ∧ RpL K F ds vs ∧ g ds ρ = some ρ' ∧ ∀ σ', EnvOk K ρ' σ' F H → SameBut ws σ σ' → OwK ρ σ ρ' σ' → Q σ' H
structure EGs (X : Cx) (tg : List Expr) (ws : List Nat) (g : DenGs) : Prop where
  pg : PGs X tg (tGts X.K ws g)
theorem PG.imp {X : Cx} {e : Expr} {t t' : TG} (h : PG X e t) (i : ∀ v σ H Q, t' v σ H Q → t v σ H Q) : PG X e t' := ⟨fun pins s σ H v u Q I r hw => h.run pins s σ H v u Q I r (i v σ H Q hw)⟩
theorem PGs.imp {X : Cx} {e : List Expr} {t t' : TGs} (h : PGs X e t) (i : ∀ v σ H Q, t' v σ H Q → t v σ H Q) : PGs X e t' := ⟨fun pins s σ H v u Q I r hw => h.run pins s σ H v u Q I r (i v σ H Q hw)⟩
def gN (i : Nat) : DenG := fun d ρ => some (ρ.set i (.fz d))
def gsNil : DenGs := fun ds ρ => match ds with | [] => some ρ | _ => none
def gsCons (g : DenG) (gs : DenGs) : DenGs := fun ds ρ => match ds with | d :: r => (g d ρ).bind fun ρ' => gs r ρ' | _ => none
def gT (gs : DenGs) (n : Nat) : DenG := fun d ρ => match d with | .tuple ds => if ds.length = n then gs ds ρ else none | _ => none
def gLs (gs : DenGs) (n : Nat) : DenG := fun d ρ => match d with | .list ds => if ds.length = n then gs ds ρ else none | _ => none
theorem EnvOk.set {K : PySem.W.Frag} {ρ : Env} {σ : L2.St} {F H : Hp} {i : Nat} {d : D} {v : V} (e : EnvOk K ρ σ F H) (r : Rp K F d v) : EnvOk K (ρ.set i (.fz d)) (σ.set i (some v)) F H where
  sub := e.sub
  len := by rw [List.length_set, List.length_set]; exact e.len
  at_ := fun j s hs => by
    by_cases hj : i = j
    · subst hj
      by_cases hl : i < ρ.length
      · rw [List.getElem?_set_self hl] at hs
        cases hs
        exact ⟨some v, List.getElem?_set_self (by rw [← e.len]; exact hl), v, rfl, r⟩
      · rw [List.getElem?_eq_none (by rw [List.length_set]; omega)] at hs
        cases hs
    · rw [List.getElem?_set_ne hj] at hs
      rw [List.getElem?_set_ne hj]
      exact e.at_ j s hs
  dist := fun j k d1 d2 a h1 h2 h3 h4 => by
    have z : ∀ {j : Nat} {d1 : D}, (ρ.set i (.fz d))[j]? = some (.ow d1) → i ≠ j ∧ ρ[j]? = some (.ow d1) := fun {j d1} h => by
      by_cases hj : i = j
      · subst hj
        by_cases hl : i < ρ.length
        · rw [List.getElem?_set_self hl] at h
          cases h
        · rw [List.getElem?_eq_none (by rw [List.length_set]; omega)] at h
          cases h
      · rw [List.getElem?_set_ne hj] at h
        exact ⟨hj, h⟩
    obtain ⟨n1, g1⟩ := z h1
    obtain ⟨n2, g2⟩ := z h2
    rw [List.getElem?_set_ne n1] at h3
    rw [List.getElem?_set_ne n2] at h4
    exact e.dist j k d1 d2 a g1 g2 h3 h4
theorem SameBut.set {i : Nat} {σ : L2.St} {v : Option V} : SameBut [i] σ (σ.set i v) := ⟨List.length_set, fun j hj => List.getElem?_set_ne fun e => hj (by rw [e]; exact List.mem_singleton_self _)⟩
section
variable {X : Cx} {pos : Pos} {K : PySem.W.Frag}
def locB (sc : Scope) (x : Str) : Bool := match sc.names.lookup x with | some .local => true | some .cell => true | _ => false
theorem loc_of {sc : Scope} {x : Str} (h : locB sc x = true) : L2.Loc sc x := by
  unfold locB at h
  unfold L2.Loc
  split at h
  · rename_i e; exact .inl e
  · rename_i e; exact .inr e
  · cases h
def fnB (X : Cx) (x : Str) : Bool := X.fn x || (match X.env.scope.names.lookup x with | some .local => true | _ => false)
theorem fn_or {x : Str} (h : fnB X x = true) : X.fn x = true ∨ X.env.scope.names.lookup x = some .local := by
  unfold fnB at h
  rw [Bool.or_eq_true] at h
  rcases h with h | h
  · exact .inl h
  · right
    split at h
    · assumption
    · cases h
theorem eg_name (i : Nat) {x : Str} (hN : X.N.Nodup) (hi : X.N[i]? = some x) (hx : locB X.env.scope x = true) (hf : fnB X x = true) : EG X (.Name x pos) [i] (gN i) :=
  ⟨PG.imp (pg_name hN hi (loc_of hx) (fn_or hf)) fun v σ H Q ⟨ρ, F, d, ρ', e, r, h, k⟩ => by
    cases h
    exact k _ (e.set r) .set .set⟩
theorem egs_nil : EGs X [] [] gsNil :=
  ⟨PGs.imp pgs_nil fun vs σ H Q ⟨ρ, F, ds, ρ', e, r, h, k⟩ => by
    cases r with
    | nil =>
      cases h
      exact ⟨rfl, k σ e ⟨rfl, fun _ _ => rfl⟩ fun _ _ z => ⟨z, rfl⟩⟩
    | cons _ _ => cases h⟩
theorem egs_cons {a : Expr} {es : List Expr} {ws vs : List Nat} {g : DenG} {gs : DenGs} (h1 : EG X a ws g) (h2 : EGs X es vs gs) (hs : (assignEach (a :: es) X.env).map (·.2) = assign a X.env :: (assignEach es X.env).map (·.2)) : EGs X (a :: es) (ws ++ vs) (gsCons g gs) :=
  ⟨PGs.imp (pgs_cons h1.pg h2.pg hs) fun us σ H Q ⟨ρ, F, ds, ρ', e, r, h, k⟩ => by
    cases r with
    | nil => cases h
    | cons r t =>
      simp only [gsCons, Option.bind_eq_some_iff] at h
      obtain ⟨ρ1, g1, g2⟩ := h
      exact ⟨_, _, rfl, ρ, F, _, ρ1, e, r, g1, fun σ1 e1 s1 o1 => ⟨ρ1, F, _, ρ', e1, t, g2, fun σ2 e2 s2 o2 => k σ2 e2 (s1.trans s2) (o1.trans o2)⟩⟩⟩
theorem eg_tup {es : List Expr} {kk : Nat} {ws : List Nat} {gs : DenGs} {n : Nat} (hc : X.calm = true) (h : EGs X es ws gs) (hn : (assignEach es X.env).length = n) (hst : (assignEach es X.env).findIdx? (·.1) = none) : EG X (.Tuple es kk pos) ws (gT gs n) :=
  ⟨PG.imp (pg_tup hc h.pg hn hst) fun v σ H Q ⟨ρ, F, d, ρ', e, r, hg, k⟩ => by
    unfold gT at hg
    split at hg
    · split at hg
      · rename_i hl
        cases r with
        | tup ha hr => exact ⟨_, _, rfl, .inl (.inl (e.sub _ _ ha)), by rw [hr.length]; exact hl, ρ, F, _, ρ', e, hr, hg, k⟩
      · cases hg
    · cases hg⟩
theorem eg_lst {es : List Expr} {kk : Nat} {ws : List Nat} {gs : DenGs} {n : Nat} (hc : X.calm = true) (h : EGs X es ws gs) (hn : (assignEach es X.env).length = n) (hst : (assignEach es X.env).findIdx? (·.1) = none) : EG X (.Tuple es kk pos) ws (gLs gs n) :=
  ⟨PG.imp (pg_unl hc h.pg hn hst) fun v σ H Q ⟨ρ, F, d, ρ', e, r, hg, k⟩ => by
    unfold gLs at hg
    split at hg
    · split at hg
      · rename_i hl
        cases r with
        | lst ha hr => exact ⟨_, _, rfl, .inl (.inl (e.sub _ _ ha)), by rw [hr.length]; exact hl, ρ, F, _, ρ', e, hr, hg, k⟩
      · cases hg
    · cases hg⟩
end

/-! ### statements -/
inductive Out where
  | nx (ρ : Env) | rt (d : D) | rn (d : D) | bk (ρ : Env) | ct (ρ : Env)
abbrev DenS := Env → Option Out
structure EnvS (K : PySem.W.Frag) (F0 H0 : Hp) (ρ : Env) (σ : L2.St) (F H : Hp) : Prop where
  env : EnvOk K ρ σ F H
  ext : Ext F0 H0 F H
  own : ∀ (i : Nat) d a, ρ[i]? = some (.ow d) → σ[i]? = some (some (.ref a)) → H0 a = none
def Post (K : PySem.W.Frag) (F0 H0 : Hp) (D : Ends) : Out → Prop
  | .nx ρ' => ∀ σ' F' H', EnvS K F0 H0 ρ' σ' F' H' → D.nx σ' H'
  | .bk ρ' => ∀ σ' F' H', EnvS K F0 H0 ρ' σ' F' H' → D.bk σ' H'
  | .ct ρ' => ∀ σ' F' H', EnvS K F0 H0 ρ' σ' F' H' → D.ct σ' H'
  | .rt d => ∀ v F' H', Ext F0 H0 F' H' → Rp K F' d v → D.rt v H'
  | .rn d => ∀ a o F' H', Ext F0 H0 F' H' → F' a = none → H0 a = none → H' a = some o → OwnRep K F' d o → D.rt (.ref a) H'
def tSt (K : PySem.W.Frag) (f : DenS) : TS := fun D σ H => ∃ F0 H0 ρ F o, EnvS K F0 H0 ρ σ F H ∧ f ρ = some o ∧ Post K F0 H0 D o
structure SX (X : Cx) (st : Stmt) (f : DenS) : Prop where
  ps : PS X st (tSt X.K f)
structure SXs (X : Cx) (sts : List Stmt) (f : DenS) : Prop where
  pss : PSs X sts (tSt X.K f)
theorem EnvS.to {K : PySem.W.Frag} {F0 H0 : Hp} {ρ : Env} {σ : L2.St} {F H F' H' : Hp} (e : EnvS K F0 H0 ρ σ F H) (x : Ext F H F' H') : EnvS K F0 H0 ρ σ F' H' := ⟨e.env.ext x, e.ext.trans x, e.own⟩
def sNx : DenS := fun ρ => some (.nx ρ)
def sSeq (f g : DenS) : DenS := fun ρ => (f ρ).bind fun o => match o with | .nx ρ' => g ρ' | o => some o
section
variable {X : Cx} {st : Stmt} {sts : List Stmt} {f g : DenS} {fd : Den} {fb : DenB} {a : Expr} {pos : Pos}
theorem sx_mk {t : TS} (h : PS X st t) (i : ∀ D σ H F0 H0 ρ F o, EnvS X.K F0 H0 ρ σ F H → f ρ = some o → Post X.K F0 H0 D o → t D σ H) : SX X st f := ⟨PS.imp h fun D σ H ⟨F0, H0, ρ, F, o, e, h, k⟩ => i D σ H F0 H0 ρ F o e h k⟩
theorem sxs_nil : SXs X [] sNx := ⟨PSs.imp pss_nil fun D σ H ⟨F0, H0, ρ, F, o, e, h, k⟩ => by
  cases h
  exact k σ F H e⟩
theorem sxs_cons (h1 : SX X st f) (h2 : SXs X sts g) : SXs X (st :: sts) (sSeq f g) :=
  ⟨PSs.imp (pss_cons h1.ps h2.pss) fun D σ H ⟨F0, H0, ρ, F, o, e, h, k⟩ => by
    simp only [sSeq, Option.bind_eq_some_iff] at h
    obtain ⟨o1, h1, h2⟩ := h
    refine ⟨F0, H0, ρ, F, o1, e, h1, ?_⟩
    cases o1 with
    | nx ρ' => exact fun σ' F' H' e' => ⟨F0, H0, ρ', F', o, e', h2, k⟩
    | rt d =>
      cases h2
      exact k
    | rn d =>
      cases h2
      exact k
    | bk ρ' =>
      cases h2
      exact k
    | ct ρ' =>
      cases h2
      exact k⟩
theorem sxs_one (h1 : SX X st f) : SXs X [st] f := ⟨pss_one h1.ps⟩
/-- what the proof never comes to -/
def sNo : DenS := fun _ => none
theorem sx_no : SX X st sNo := ⟨PS.imp ps_never fun D σ H ⟨F0, H0, ρ, F, o, e, h, k⟩ => nomatch h⟩
theorem sx_pass : SX X (.Pass pos) sNx := sx_mk ps_pass fun D σ H F0 H0 ρ F o e h k => by
  cases h
  exact k σ F H e
def sBk : DenS := fun ρ => some (.bk ρ)
def sCt : DenS := fun ρ => some (.ct ρ)
theorem sx_break : SX X (.Break pos) sBk := sx_mk ps_break fun D σ H F0 H0 ρ F o e h k => by
  cases h
  exact k σ F H e
theorem sx_cont : SX X (.Continue pos) sCt := sx_mk ps_continue fun D σ H F0 H0 ρ F o e h k => by
  cases h
  exact k σ F H e
def sDrop (f : Den) : DenS := fun ρ => (f ρ).bind fun _ => some (.nx ρ)
theorem sx_expr (h : EX X a fd) (hs : swapsWith a none pos.line X.env = pure false) : SX X (.Expr a pos) (sDrop fd) := sx_mk (ps_expr h.pe hs) fun D σ H F0 H0 ρ F o e h k => by
  simp only [sDrop, Option.bind_eq_some_iff, Option.some.injEq] at h
  obtain ⟨d, h1, rfl⟩ := h
  exact ⟨ρ, F, d, e.env, h1, fun v F' H' x r => k σ F' H' (e.to x)⟩
def sRet (f : Den) : DenS := fun ρ => (f ρ).bind fun d => some (.rt d)
theorem sx_ret (h : EX X a fd) : SX X (.Return (some a) pos) (sRet fd) := sx_mk (ps_ret h.pe) fun D σ H F0 H0 ρ F o e h k => by
  simp only [sRet, Option.bind_eq_some_iff, Option.some.injEq] at h
  obtain ⟨d, h1, rfl⟩ := h
  exact ⟨ρ, F, d, e.env, h1, fun v F' H' x r => k v F' H' (e.ext.trans x) r⟩
def sRetNew (f : Den) : DenS := fun ρ => (f ρ).bind fun d => some (.rn d)
theorem sx_retNew (h : EN X a fd) : SX X (.Return (some a) pos) (sRetNew fd) := sx_mk (ps_ret h.pe) fun D σ H F0 H0 ρ F o e h k => by
  simp only [sRetNew, Option.bind_eq_some_iff, Option.some.injEq] at h
  obtain ⟨d, h1, rfl⟩ := h
  exact ⟨ρ, F, d, e.env, h1, fun a o F' H' x h1 h2 h3 h4 => k a o F' H' (e.ext.trans x) h1 (e.ext.h.free h2) h3 h4⟩
/-- return x, x one's own list: it is the caller's -/
def sRetOwn (i : Nat) : DenS := fun ρ => match ρ[i]? with | some (.ow d) => some (.rn d) | _ => none
theorem sx_retOwn (i : Nat) {x : Str} {p : Pos} (hN : X.N[i]? = some x) (hv : visB X.env.scope x = true) (hd : (x == ("__debug__" : Str)) = false) (hcd : (x == ("__classdict__" : Str)) = false) : SX X (.Return (some (.Name x p)) pos) (sRetOwn i) :=
  sx_mk (ps_ret (pe_var hN (vis_of hv) hd hcd)) fun D σ H F0 H0 ρ F o e h k => by
    unfold sRetOwn at h
    split at h
    · rename_i d hs
      cases h
      obtain ⟨ov, h1, a, o, h2, h3, h4, h5⟩ := e.env.at_ i _ hs
      subst h2
      exact ⟨_, h1, k a o F H e.ext h3 (e.own i d a hs h1) h4 h5⟩
    · cases h
def sRetN : DenS := fun _ => some (.rt .none)
theorem sx_retN : SX X (.Return none pos) sRetN := sx_mk ps_retN fun D σ H F0 H0 ρ F o e h k => by
  cases h
  exact k _ F H e.ext .non
def sIf (c : DenB) (f g : DenS) : DenS := fun ρ => (c ρ).bind fun b => if b then f ρ else g ρ
theorem sx_if {c : Expr} {s1 s2 : List Stmt} (hc : ET X c fb) (h1 : SXs X s1 f) (h2 : SXs X s2 g) : SX X (.If c s1 s2 pos) (sIf fb f g) := sx_mk (ps_if hc.pt h1.pss h2.pss) fun D σ H F0 H0 ρ F o e h k => by
  simp only [sIf, Option.bind_eq_some_iff] at h
  obtain ⟨b, h1, h2⟩ := h
  refine ⟨ρ, F, b, e.env, h1, fun F' H' x => ?_⟩
  cases b with
  | true => exact ⟨F0, H0, ρ, F', o, e.to x, h2, k⟩
  | false => exact ⟨F0, H0, ρ, F', o, e.to x, h2, k⟩
/-! ### assignments -/
def sSet (i : Nat) (f : Den) : DenS := fun ρ => (f ρ).bind fun d => some (.nx (ρ.set i (.fz d)))
theorem EnvS.set {K : PySem.W.Frag} {F0 H0 : Hp} {ρ : Env} {σ : L2.St} {F H : Hp} {i : Nat} {d : D} {v : V} (e : EnvS K F0 H0 ρ σ F H) (r : Rp K F d v) : EnvS K F0 H0 (ρ.set i (.fz d)) (σ.set i (some v)) F H :=
  ⟨e.env.set r, e.ext, fun j d' a h1 h2 => by
    by_cases hj : i = j
    · subst hj
      by_cases hl : i < ρ.length
      · rw [List.getElem?_set_self hl] at h1
        cases h1
      · rw [List.getElem?_eq_none (by rw [List.length_set]; omega)] at h1
        cases h1
    · rw [List.getElem?_set_ne hj] at h1 h2
      exact e.own j d' a h1 h2⟩
theorem sx_set (i : Nat) {x : Str} {pos' : Pos} (hN : X.N.Nodup) (hi : X.N[i]? = some x) (hx : locB X.env.scope x = true) (hf : fnB X x = true) (ha : EX X a fd) (hs : swapsWith a (some (.Name x pos')) pos.line X.env = pure false) :
    SX X (.Assign [.Name x pos'] a pos) (sSet i fd) := sx_mk (ps_set hN hi (loc_of hx) ha.pe hs (fn_or hf)) fun D σ H F0 H0 ρ F o e h k => by
  simp only [sSet, Option.bind_eq_some_iff, Option.some.injEq] at h
  obtain ⟨d, h1, rfl⟩ := h
  exact ⟨ρ, F, d, e.env, h1, fun v F' H' x r => k _ F' H' ((e.to x).set r)⟩
/-- x = a new list or dict, x one's own -/
def sOwn (i : Nat) (f : Den) : DenS := fun ρ => (f ρ).bind fun d => some (.nx (ρ.set i (.ow d)))
theorem EnvS.setOwn {K : PySem.W.Frag} {F0 H0 : Hp} {ρ : Env} {σ : L2.St} {F H F1 H1 : Hp} {i : Nat} {d : D} {p : Addr} {ob : HO} (e : EnvS K F0 H0 ρ σ F1 H1) (x : Ext F1 H1 F H) (hp : H1 p = none) (hF : F p = none) (hH : H p = some ob) (r : OwnRep K F d ob) :
    EnvS K F0 H0 (ρ.set i (.ow d)) (σ.set i (some (.ref p))) F H := by
  have e' := e.to x
  have z : ∀ {j : Nat} {d1 : D} {b : Addr}, (ρ.set i (.ow d))[j]? = some (.ow d1) → (σ.set i (some (.ref p)))[j]? = some (some (.ref b)) → (j = i ∧ b = p) ∨ (j ≠ i ∧ ρ[j]? = some (.ow d1) ∧ σ[j]? = some (some (.ref b)) ∧ b ≠ p) := fun {j d1 b} h1 h2 => by
    by_cases hj : i = j
    · subst hj
      by_cases hl : i < σ.length
      · rw [List.getElem?_set_self hl] at h2
        cases h2
        exact .inl ⟨rfl, rfl⟩
      · rw [List.getElem?_eq_none (by rw [List.length_set]; omega)] at h2
        cases h2
    · rw [List.getElem?_set_ne hj] at h1 h2
      refine .inr ⟨Ne.symm hj, h1, h2, ?_⟩
      rintro rfl
      obtain ⟨ov, g1, a, o, g2, g3, g4, g5⟩ := e.env.at_ j _ h1
      rw [h2] at g1
      cases g1
      cases g2
      rw [hp] at g4
      cases g4
  refine ⟨⟨e'.env.sub, by rw [List.length_set, List.length_set]; exact e'.env.len, fun j s hs => ?_, fun j k d1 d2 b h1 h2 h3 h4 => ?_⟩, e'.ext, fun j d1 b h1 h2 => ?_⟩
  · by_cases hj : i = j
    · subst hj
      by_cases hl : i < ρ.length
      · rw [List.getElem?_set_self hl] at hs
        cases hs
        exact ⟨_, List.getElem?_set_self (by rw [← e.env.len]; exact hl), p, ob, rfl, hF, hH, r⟩
      · rw [List.getElem?_eq_none (by rw [List.length_set]; omega)] at hs
        cases hs
    · rw [List.getElem?_set_ne hj] at hs
      rw [List.getElem?_set_ne hj]
      exact e'.env.at_ j s hs
  · rcases z h1 h3 with ⟨rfl, rfl⟩ | ⟨n1, g1, g3, nb⟩
    · rcases z h2 h4 with ⟨rfl, _⟩ | ⟨n2, g2, g4, nb⟩
      · rfl
      · exact absurd rfl nb
    · rcases z h2 h4 with ⟨_, rfl⟩ | ⟨n2, g2, g4, _⟩
      · exact absurd rfl nb
      · exact e.env.dist j k d1 d2 b g1 g2 g3 g4
  · rcases z h1 h2 with ⟨_, rfl⟩ | ⟨n1, g1, g3, nb⟩
    · exact e.ext.h.free hp
    · exact e.own j d1 b g1 g3
theorem sx_own (i : Nat) {x : Str} {pos' : Pos} (hN : X.N.Nodup) (hi : X.N[i]? = some x) (hx : locB X.env.scope x = true) (hf : fnB X x = true) (ha : EN X a fd) (hs : swapsWith a (some (.Name x pos')) pos.line X.env = pure false) :
    SX X (.Assign [.Name x pos'] a pos) (sOwn i fd) := sx_mk (ps_set hN hi (loc_of hx) ha.pe hs (fn_or hf)) fun D σ H F0 H0 ρ F o e h k => by
  simp only [sOwn, Option.bind_eq_some_iff, Option.some.injEq] at h
  obtain ⟨d, h1, rfl⟩ := h
  exact ⟨ρ, F, d, e.env, h1, fun p o F' H' x hF hp hH r => k _ F' H' (e.setOwn x hp hF hH r)⟩
/-- targets of names: a, b = e -/
def sAsg (g : DenG) (f : Den) : DenS := fun ρ => (f ρ).bind fun d => (g d ρ).bind fun ρ' => some (.nx ρ')
/-- ahead of a statement one's own list is given away: from here it is read only -/
def frz (i : Nat) (ρ : Env) : Env := match ρ[i]? with | some (.ow d) => ρ.set i (.fz d) | _ => ρ
def sFrz (i : Nat) (f : DenS) : DenS := fun ρ => f (frz i ρ)
theorem EnvS.frz {K : PySem.W.Frag} {F0 H0 : Hp} {ρ : Env} {σ : L2.St} {F H : Hp} (i : Nat) (e : EnvS K F0 H0 ρ σ F H) : ∃ F', EnvS K F0 H0 (frz i ρ) σ F' H := by
  unfold Zx.frz
  split
  · rename_i d hs
    obtain ⟨ov, h1, a, o, h2, h3, h4, h5⟩ := e.env.at_ i _ hs
    subst h2
    have sF : Sub F (upd F a o) := Sub.new h3
    have hl : i < ρ.length := (List.getElem?_eq_some_iff.mp hs).1
    have z : ∀ {j : Nat} {d1 : D}, (ρ.set i (.fz d))[j]? = some (.ow d1) → j ≠ i ∧ ρ[j]? = some (.ow d1) := fun {j d1} h => by
      by_cases hj : i = j
      · subst hj
        rw [List.getElem?_set_self hl] at h
        cases h
      · rw [List.getElem?_set_ne hj] at h
        exact ⟨Ne.symm hj, h⟩
    refine ⟨upd F a o, ⟨⟨fun b u hb => ?_, by rw [List.length_set]; exact e.env.len, fun j s hj => ?_, fun j k d1 d2 b g1 g2 g3 g4 => e.env.dist j k d1 d2 b (z g1).2 (z g2).2 g3 g4⟩, ⟨e.ext.f.trans sF, e.ext.h, fun b u hb => ?_, fun b n1 n2 => ?_⟩, fun j d1 b g1 g2 => e.own j d1 b (z g1).2 g2⟩⟩
    · by_cases hba : b = a
      · subst hba; rw [upd_same] at hb; cases hb; exact h4
      · rw [upd_ne hba] at hb; exact e.env.sub b u hb
    · by_cases hij : i = j
      · subst hij
        rw [List.getElem?_set_self hl] at hj
        cases hj
        refine ⟨_, h1, _, rfl, ?_⟩
        cases h5 with
        | lst t => exact .lst upd_same (t.mono sF)
        | dK t => exact .dK (.inl upd_same) (t.mono sF)
        | dT t => exact .dT (.inl upd_same) (t.mono sF)
      · rw [List.getElem?_set_ne hij] at hj
        obtain ⟨ov, g1, g2⟩ := e.env.at_ j s hj
        refine ⟨ov, g1, ?_⟩
        cases s with
        | no => trivial
        | fz d' =>
          obtain ⟨v, g3, g4⟩ := g2
          exact ⟨v, g3, g4.mono sF⟩
        | ow d' =>
          obtain ⟨b, u, g3, g4, g5, g6⟩ := g2
          refine ⟨b, u, g3, ?_, g5, g6.mono sF⟩
          rw [upd_ne]
          · exact g4
          · rintro rfl
            subst g3
            exact hij (e.env.dist i j d d' b hs hj h1 g1)
    · by_cases hba : b = a
      · subst hba; rw [upd_same] at hb; cases hb; exact h4
      · rw [upd_ne hba] at hb; exact e.env.sub b u hb
    · rw [upd_ne]
      · exact e.ext.new b n1 n2
      · rintro rfl
        exact n1 (e.own i d b hs h1)
  · exact ⟨F, e⟩
theorem sx_frz (i : Nat) (h : SX X st f) : SX X st (sFrz i f) := sx_mk h.ps fun D σ H F0 H0 ρ F o e h k => by
  obtain ⟨F', e'⟩ := e.frz i
  exact ⟨F0, H0, _, F', o, e', h, k⟩
theorem sxs_frz (i : Nat) (h : SXs X sts f) : SXs X sts (sFrz i f) := ⟨PSs.imp h.pss fun D σ H ⟨F0, H0, ρ, F, o, e, h, k⟩ => by
  obtain ⟨F', e'⟩ := e.frz i
  exact ⟨F0, H0, _, F', o, e', h, k⟩⟩
end
end Zx
/-! Zx6: targets stored, one's own lists and dicts changed, loops. -/
namespace Zx
open PySem PySem.Spec L2
/-! ### dicts, as lists of pairs -/
def dGet (kds : List (D × D)) (k : D) : Option D := (kds.find? fun p => PyData.eqv p.1 k).map (·.2)
def dHas (kds : List (D × D)) (k : D) : Bool := kds.any fun p => PyData.eqv p.1 k
def dPut (kds : List (D × D)) (k v : D) : List (D × D) := if dHas kds k then kds.map (fun p => if PyData.eqv p.1 k then (p.1, v) else p) else kds ++ [(k, v)]
def keyOf : D → Option Key
  | .int i => some (.inl i)
  | .str x => some (.inr x)
  | _ => none
def keysOf : List D → Option (List Key)
  | [] => some []
  | d :: r => (keyOf d).bind fun k => (keysOf r).bind fun ks => some (k :: ks)
theorem keyOf_eq {d : D} {k : Key} (h : keyOf d = some k) : d = keyD k := by
  cases d <;> simp only [keyOf, reduceCtorEq, Option.some.injEq] at h <;> subst h <;> rfl
theorem keysOf_eq : ∀ {ds : List D} {ks : List Key}, keysOf ds = some ks → ds = ks.map keyD
  | [], ks, h => by cases h; rfl
  | d :: r, ks, h => by
    simp only [keysOf, Option.bind_eq_some_iff, Option.some.injEq] at h
    obtain ⟨k, h1, js, h2, rfl⟩ := h
    rw [keyOf_eq h1, keysOf_eq h2, List.map_cons]
theorem eqv_key (a b : Key) : PyData.eqv (keyD a) (keyD b) = decide (a = b) := by
  cases a with
  | inl i =>
    cases b with
    | inl j => rw [key_ll]; rfl
    | inr y => rw [key_lr]; rfl
  | inr x =>
    cases b with
    | inl j => rw [key_rl]; rfl
    | inr y =>
      rw [key_rr]
      show (x == y) = decide (x = y)
      by_cases h : x = y
      · subst h; simp
      · rw [decide_eq_false h]; exact beq_eq_false_iff_ne.mpr h
theorem eqv_keys : ∀ (a b : List Key), PyData.eqvAll (a.map keyD) (b.map keyD) = decide (a = b)
  | [], [] => rfl
  | [], _ :: _ => rfl
  | _ :: _, [] => rfl
  | x :: a, y :: b => by
    have h1 := eqv_key x y
    have h2 := eqv_keys a b
    rw [List.map_cons, List.map_cons]
    show (PyData.eqv (keyD x) (keyD y) && PyData.eqvAll (a.map keyD) (b.map keyD)) = _
    rw [h1, h2]
    by_cases hx : x = y <;> by_cases hy : a = b <;> simp [hx, hy]
theorem eqv_tkeys (a b : List Key) : PyData.eqv (.tuple (a.map keyD)) (.tuple (b.map keyD)) = decide (a = b) := eqv_keys a b
section
variable {K : PySem.W.Frag} {F H : Hp}
theorem RpK.get (k : Key) : ∀ {kds : List (D × D)} {kvs : List (Key × V)}, RpK K F kds kvs → (valV kvs k = none ∧ dGet kds (keyD k) = none) ∨ ∃ v d, valV kvs k = some v ∧ dGet kds (keyD k) = some d ∧ Rp K F d v
  | _, _, .nil => .inl ⟨rfl, rfl⟩
  | _, _, .cons (k := j) (d := d) (v := v) r t => by
    by_cases h : j = k
    · subst h
      refine .inr ⟨v, d, valV_pos rfl, ?_, r⟩
      unfold dGet
      rw [List.find?_cons_of_pos (by rw [eqv_key]; simp)]
      rfl
    · rcases RpK.get k t with ⟨h1, h2⟩ | ⟨v', d', h1, h2, h3⟩
      · refine .inl ⟨by rw [valV_neg h]; exact h1, ?_⟩
        unfold dGet at h2 ⊢
        rw [List.find?_cons_of_neg (by rw [eqv_key]; simpa using h)]
        exact h2
      · refine .inr ⟨v', d', by rw [valV_neg h]; exact h1, ?_, h3⟩
        unfold dGet at h2 ⊢
        rw [List.find?_cons_of_neg (by rw [eqv_key]; simpa using h)]
        exact h2
theorem RpT.get (k : List Key) : ∀ {kds : List (D × D)} {kvs : List (List Key × V)}, RpT K F kds kvs → (valV kvs k = none ∧ dGet kds (.tuple (k.map keyD)) = none) ∨ ∃ v d, valV kvs k = some v ∧ dGet kds (.tuple (k.map keyD)) = some d ∧ Rp K F d v
  | _, _, .nil => .inl ⟨rfl, rfl⟩
  | _, _, .cons (k := j) (d := d) (v := v) r t => by
    by_cases h : j = k
    · subst h
      refine .inr ⟨v, d, valV_pos rfl, ?_, r⟩
      unfold dGet
      rw [List.find?_cons_of_pos (by rw [eqv_tkeys]; simp)]
      rfl
    · rcases RpT.get k t with ⟨h1, h2⟩ | ⟨v', d', h1, h2, h3⟩
      · refine .inl ⟨by rw [valV_neg h]; exact h1, ?_⟩
        unfold dGet at h2 ⊢
        rw [List.find?_cons_of_neg (by rw [eqv_tkeys]; simpa using h)]
        exact h2
      · refine .inr ⟨v', d', by rw [valV_neg h]; exact h1, ?_, h3⟩
        unfold dGet at h2 ⊢
        rw [List.find?_cons_of_neg (by rw [eqv_tkeys]; simpa using h)]
        exact h2
theorem dHas_iff (kds : List (D × D)) (k : D) : dHas kds k = (dGet kds k).isSome := by
  unfold dHas dGet
  rw [Option.isSome_map]
  induction kds with
  | nil => rfl
  | cons p r ih =>
    rw [List.any_cons, List.find?_cons]
    cases PyData.eqv p.1 k with
    | true => rfl
    | false => rw [Bool.false_or]; exact ih
theorem RpK.has (k : Key) {kds : List (D × D)} {kvs : List (Key × V)} (h : RpK K F kds kvs) : dHas kds (keyD k) = kvs.any fun kv => decide (kv.1 = k) := by
  rw [dHas_iff, valV_any]
  rcases h.get k with ⟨h1, h2⟩ | ⟨v, d, h1, h2, _⟩ <;> rw [h1, h2] <;> rfl
theorem RpT.has (k : List Key) {kds : List (D × D)} {kvs : List (List Key × V)} (h : RpT K F kds kvs) : dHas kds (.tuple (k.map keyD)) = kvs.any fun kv => decide (kv.1 = k) := by
  rw [dHas_iff, valV_any]
  rcases h.get k with ⟨h1, h2⟩ | ⟨v, d, h1, h2, _⟩ <;> rw [h1, h2] <;> rfl
theorem RpK.snoc (k : Key) {d : D} {v : V} (r : Rp K F d v) : ∀ {kds : List (D × D)} {kvs : List (Key × V)}, RpK K F kds kvs → RpK K F (kds ++ [(keyD k, d)]) (kvs ++ [(k, v)])
  | _, _, .nil => .cons r .nil
  | _, _, .cons h t => .cons h (RpK.snoc k r t)
theorem RpT.snoc (k : List Key) {d : D} {v : V} (r : Rp K F d v) : ∀ {kds : List (D × D)} {kvs : List (List Key × V)}, RpT K F kds kvs → RpT K F (kds ++ [(.tuple (k.map keyD), d)]) (kvs ++ [(k, v)])
  | _, _, .nil => .cons r .nil
  | _, _, .cons h t => .cons h (RpT.snoc k r t)
theorem RpK.repl (k : Key) {d : D} {v : V} (r : Rp K F d v) : ∀ {kds : List (D × D)} {kvs : List (Key × V)}, RpK K F kds kvs → RpK K F (kds.map fun p => if PyData.eqv p.1 (keyD k) then (p.1, d) else p) (kvs.map fun kv => if kv.1 = k then (kv.1, v) else kv)
  | _, _, .nil => .nil
  | _, _, .cons (k := j) h t => by
    rw [List.map_cons, List.map_cons]
    show RpK K F ((if PyData.eqv (keyD j) (keyD k) = true then (keyD j, d) else (keyD j, _)) :: _) _
    rw [eqv_key]
    by_cases hj : j = k
    · rw [if_pos (by simpa using hj), if_pos hj]
      exact .cons r (RpK.repl k r t)
    · rw [if_neg (by simpa using hj), if_neg hj]
      exact .cons h (RpK.repl k r t)
theorem RpT.repl (k : List Key) {d : D} {v : V} (r : Rp K F d v) : ∀ {kds : List (D × D)} {kvs : List (List Key × V)}, RpT K F kds kvs → RpT K F (kds.map fun p => if PyData.eqv p.1 (.tuple (k.map keyD)) then (p.1, d) else p) (kvs.map fun kv => if kv.1 = k then (kv.1, v) else kv)
  | _, _, .nil => .nil
  | _, _, .cons (k := j) h t => by
    rw [List.map_cons, List.map_cons]
    show RpT K F ((if PyData.eqv (.tuple (j.map keyD)) (.tuple (k.map keyD)) = true then (.tuple (j.map keyD), d) else (.tuple (j.map keyD), _)) :: _) _
    rw [eqv_tkeys]
    by_cases hj : j = k
    · rw [if_pos (by simpa using hj), if_pos hj]
      exact .cons r (RpT.repl k r t)
    · rw [if_neg (by simpa using hj), if_neg hj]
      exact .cons h (RpT.repl k r t)
theorem RpK.put (k : Key) {d : D} {v : V} (r : Rp K F d v) {kds : List (D × D)} {kvs : List (Key × V)} (h : RpK K F kds kvs) : RpK K F (dPut kds (keyD k) d) (putK kvs k v) := by
  unfold dPut putK
  rw [h.has k]
  split
  · exact h.repl k r
  · exact h.snoc k r
theorem RpT.put (k : List Key) {d : D} {v : V} (r : Rp K F d v) {kds : List (D × D)} {kvs : List (List Key × V)} (h : RpT K F kds kvs) : RpT K F (dPut kds (.tuple (k.map keyD)) d) (putK kvs k v) := by
  unfold dPut putK
  rw [h.has k]
  split
  · exact h.repl k r
  · exact h.snoc k r
theorem RpK.length : ∀ {kds : List (D × D)} {kvs : List (Key × V)}, RpK K F kds kvs → kvs.length = kds.length
  | _, _, .nil => rfl
  | _, _, .cons _ t => by rw [List.length_cons, List.length_cons, RpK.length t]
theorem RpT.length : ∀ {kds : List (D × D)} {kvs : List (List Key × V)}, RpT K F kds kvs → kvs.length = kds.length
  | _, _, .nil => rfl
  | _, _, .cons _ t => by rw [List.length_cons, List.length_cons, RpT.length t]
theorem keysL_vs : ∀ {ks : List Key} {vs : List V}, RpL K F (ks.map keyD) vs → vs = ks.map kV
  | [], _, h => by cases h; rfl
  | k :: ks, _, h => by
    rw [List.map_cons] at h
    cases h with
    | cons h1 h2 =>
      rw [keysL_vs h2, List.map_cons]
      cases k with
      | inl i => cases h1; rfl
      | inr x => cases h1; rfl
/-- the first key is no mark -/
def notMk : List (D × D) → Bool
  | (.none, _) :: _ => false
  | (.bool _, _) :: _ => false
  | _ => true
/-- a dict that is read -/
theorem RpB.dictK (s : Sub F H) {kds : List (D × D)} {v : V} (h : RpB K F H (.dict kds) v) (hn : notMk kds = true) : ∃ a kvs, v = .ref a ∧ Rd H a (.dK kvs) ∧ RpK K F kds kvs := by
  rcases h with h | ⟨a, o, rfl, _, h1, h2⟩
  · generalize hz : PyData.dict kds = z at h
    cases h with
    | non => cases hz
    | bl => cases hz
    | int => cases hz
    | str => cases hz
    | lst => cases hz
    | tup => cases hz
    | dK h1 h2 =>
      injection hz with hz
      subst hz
      exact ⟨_, _, rfl, s.rd h1, h2⟩
    | dT h1 h2 =>
      injection hz with hz
      subst hz
      cases hn
    | scr h =>
      unfold scrD at hz
      injection hz with hz
      subst hz
      cases hn
  · generalize hz : PyData.dict kds = z at h2
    cases h2 with
    | lst => cases hz
    | dK h2 =>
      injection hz with hz
      subst hz
      exact ⟨a, _, rfl, .inl h1, h2⟩
    | dT h2 =>
      injection hz with hz
      subst hz
      cases hn
theorem RpK.nb {l : List (D × D)} {kvs : List (Key × V)} (h : RpK K F l kvs) {b : Bool} {d : D} {r : List (D × D)} (e : l = (.bool b, d) :: r) : False := by
  cases h with
  | nil => cases e
  | @cons k _ _ _ _ _ _ =>
    injection e with e1 _
    injection e1 with e2 _
    cases k <;> cases e2
theorem RpB.dictT (s : Sub F H) {kds : List (D × D)} {v : V} (h : RpB K F H (.dict ((.bool true, .none) :: kds)) v) : ∃ a kvs, v = .ref a ∧ Rd H a (.dT kvs) ∧ RpT K F kds kvs := by
  rcases h with h | ⟨a, o, rfl, _, h1, h2⟩
  · generalize hz : PyData.dict ((.bool true, .none) :: kds) = z at h
    cases h with
    | non => cases hz
    | bl => cases hz
    | int => cases hz
    | str => cases hz
    | lst => cases hz
    | tup => cases hz
    | dK h1 h2 =>
      injection hz with hz
      exact (h2.nb hz.symm).elim
    | dT h1 h2 =>
      injection hz with hz
      injection hz with _ hz
      subst hz
      exact ⟨_, _, rfl, s.rd h1, h2⟩
    | scr h =>
      unfold scrD at hz
      injection hz with hz
      injection hz with hz _
      injection hz with hz _
      cases hz
  · generalize hz : PyData.dict ((.bool true, .none) :: kds) = z at h2
    cases h2 with
    | lst => cases hz
    | dK h2 =>
      injection hz with hz
      exact (h2.nb hz.symm).elim
    | dT h2 =>
      injection hz with hz
      injection hz with _ hz
      subst hz
      exact ⟨a, _, rfl, .inl h1, h2⟩
end
/-! ### d[k], k in d, d.get(k, x) -/
/-- the dict's pairs, if k may be one of its keys -/
def dkOf : D → D → Option (List (D × D))
  | .dict kds, k => match kds, k with
    | (.bool true, .none) :: r, .tuple ds => if (keysOf ds).isSome then some r else none
    | kds, k => if notMk kds && (keyOf k).isSome then some kds else none
  | _, _ => none
section
variable {K : PySem.W.Frag} {F H : Hp}
theorem dget_of (s : Sub F H) {d : D} {k : D} {kds : List (D × D)} {x y : V} (hx : RpB K F H d x) (hk : dkOf d k = some kds) (hy : RpB K F H k y) :
    ∃ a, x = .ref a ∧ ((dGet kds k = none ∧ DGet H a y none) ∨ ∃ v d, dGet kds k = some d ∧ DGet H a y (some v) ∧ Rp K F d v) := by
  unfold dkOf at hk
  split at hk
  · split at hk
    · rename_i r ds
      split at hk
      · rename_i h
        cases hk
        rw [Option.isSome_iff_exists] at h
        obtain ⟨ks, hks⟩ := h
        have := keysOf_eq hks
        subst this
        obtain ⟨b, us, rfl, hb, rb⟩ := hy.tuple s
        rw [keysL_vs rb] at hb
        obtain ⟨a, kvs, rfl, h1, h2⟩ := hx.dictT s
        refine ⟨a, rfl, ?_⟩
        rcases h2.get ks with ⟨g1, g2⟩ | ⟨v, d, g1, g2, g3⟩
        · exact .inl ⟨g2, .inr ⟨kvs, ks, b, h1, rfl, hb, g1.symm⟩⟩
        · exact .inr ⟨v, d, g2, .inr ⟨kvs, ks, b, h1, rfl, hb, g1.symm⟩, g3⟩
      · cases hk
    · split at hk
      · rename_i h
        cases hk
        rw [Bool.and_eq_true] at h
        obtain ⟨h1, h2⟩ := h
        rw [Option.isSome_iff_exists] at h2
        obtain ⟨j, hj⟩ := h2
        have := keyOf_eq hj
        subst this
        have ey : y = kV j := by
          cases j with
          | inl i => exact hy.int
          | inr x => exact hy.str
        subst ey
        obtain ⟨a, kvs, rfl, h1, h2⟩ := hx.dictK s h1
        refine ⟨a, rfl, ?_⟩
        rcases h2.get j with ⟨g1, g2⟩ | ⟨v, d, g1, g2, g3⟩
        · exact .inl ⟨g2, .inl ⟨kvs, j, h1, rfl, g1.symm⟩⟩
        · exact .inr ⟨v, d, g2, .inl ⟨kvs, j, h1, rfl, g1.symm⟩, g3⟩
      · cases hk
  · cases hk
end
theorem dk_isD {K : PySem.W.Frag} {F H : Hp} (s : Sub F H) {d : D} {k : D} {kds : List (D × D)} {x : V} (hx : RpB K F H d x) (hk : dkOf d k = some kds) : ∃ p, x = .ref p ∧ IsD H p := by
  unfold dkOf at hk
  split at hk
  · split at hk
    · obtain ⟨p, kvs, e, g, _⟩ := hx.dictT s
      exact ⟨p, e, .inr ⟨_, g⟩⟩
    · split at hk
      · rename_i hn
        rw [Bool.and_eq_true] at hn
        obtain ⟨p, kvs, e, g, _⟩ := hx.dictK s hn.1
        exact ⟨p, e, .inl ⟨_, g⟩⟩
      · cases hk
  · cases hk
section
variable {X : Cx} {a b c : Expr} {f g h : Den} {pos : Pos}
def dgetD (d k : D) : Option D := (dkOf d k).bind fun kds => dGet kds k
def dgetD3 (d k x : D) : Option D := (dkOf d k).bind fun kds => some ((dGet kds k).getD x)
def inK (k d : D) : Option Bool := (dkOf d k).bind fun kds => some (dHas kds k)
def ninK (k d : D) : Option Bool := (dkOf d k).bind fun kds => some (!dHas kds k)
def d3 (op : D → D → D → Option D) (f g h : Den) : Den := fun ρ => (f ρ).bind fun x => (g ρ).bind fun y => (h ρ).bind fun z => op x y z
theorem ex_dget (hu : X.A.units + 1 < cLine) (ha : EB X a f) (hb : EB X b g) (hs : NoSl b) : EX X (.Subscript a b pos) (d2 dgetD f g) :=
  mkX (pe_dget hu ha.pe hb.pe hs) fun σ H Q ρ F d e h k => by
    simp only [d2, dgetD, Option.bind_eq_some_iff] at h
    obtain ⟨x, h1, y, h2, kds, h3, h4⟩ := h
    refine ⟨ρ, F, x, e, h1, fun u F1 H1 x1 r1 => ⟨ρ, F1, y, e.ext x1, h2, fun v F2 H2 x2 r2 => ?_⟩⟩
    obtain ⟨p, rfl, g⟩ := dget_of x2.le (r1.ext x2) h3 r2
    rcases g with ⟨g1, _⟩ | ⟨w, d', g1, g2, g3⟩
    · rw [h4] at g1; cases g1
    · rw [h4] at g1
      cases g1
      exact ⟨p, w, rfl, g2, k w F2 H2 (x1.trans x2) g3⟩
theorem ec_inK (hu : X.A.units + 1 < cLine) (ha : EB X a f) (hb : EB X b g) : EC X .In a b (b2 inK f g) :=
  ⟨PC.imp (pc_din hu ha.pe hb.pe) fun σ H Q ⟨ρ, F, d, e, h, k⟩ => by
    simp only [b2, inK, Option.bind_eq_some_iff, Option.some.injEq] at h
    obtain ⟨x, h1, y, h2, kds, h3, rfl⟩ := h
    refine ⟨ρ, F, x, e, h1, fun u F1 H1 x1 r1 => ⟨ρ, F1, y, e.ext x1, h2, fun v F2 H2 x2 r2 => ?_⟩⟩
    obtain ⟨p, rfl, g⟩ := dget_of x2.le r2 h3 (r1.ext x2)
    rw [dHas_iff] at k
    rcases g with ⟨g1, g2⟩ | ⟨w, d', g1, g2, g3⟩
    · rw [g1] at k
      exact ⟨p, _, rfl, g2, k F2 H2 (x1.trans x2)⟩
    · rw [g1] at k
      exact ⟨p, _, rfl, g2, k F2 H2 (x1.trans x2)⟩⟩
theorem ec_ninK (hu : X.A.units + 1 < cLine) (ha : EB X a f) (hb : EB X b g) : EC X .NotIn a b (b2 ninK f g) :=
  ⟨PC.imp (pc_dnotin hu ha.pe hb.pe) fun σ H Q ⟨ρ, F, d, e, h, k⟩ => by
    simp only [b2, ninK, Option.bind_eq_some_iff, Option.some.injEq] at h
    obtain ⟨x, h1, y, h2, kds, h3, rfl⟩ := h
    refine ⟨ρ, F, x, e, h1, fun u F1 H1 x1 r1 => ⟨ρ, F1, y, e.ext x1, h2, fun v F2 H2 x2 r2 => ?_⟩⟩
    obtain ⟨p, rfl, g⟩ := dget_of x2.le r2 h3 (r1.ext x2)
    rw [dHas_iff] at k
    rcases g with ⟨g1, g2⟩ | ⟨w, d', g1, g2, g3⟩
    · rw [g1] at k
      exact ⟨p, _, rfl, g2, k F2 H2 (x1.trans x2)⟩
    · rw [g1] at k
      exact ⟨p, _, rfl, g2, k F2 H2 (x1.trans x2)⟩⟩
theorem ex_dget3 {apos cpos : Pos} (hu : X.A.units + 1 < cLine) (ha : EB X a f) (hb : EB X b g) (hc : EX X c h) (m : M2 X a "get" apos b c cpos) : EX X (.Call (.Attribute a "get" apos) [b, c] [] cpos) (d3 dgetD3 f g h) :=
  mkX (pe_dget2 hu ha.pe hb.pe hc.pe m) fun σ H Q ρ F d e h k => by
    simp only [d3, dgetD3, Option.bind_eq_some_iff, Option.some.injEq] at h
    obtain ⟨x, h1, y, h2, z, h3, kds, h4, rfl⟩ := h
    refine ⟨ρ, F, x, e, h1, fun u F1 H1 x1 r1 => ?_⟩
    obtain ⟨p, rfl, hd⟩ := dk_isD x1.le r1 h4
    refine ⟨p, rfl, hd, ρ, F1, y, e.ext x1, h2, fun v F2 H2 x2 r2 => ⟨ρ, F2, z, (e.ext x1).ext x2, h3, fun w F3 H3 x3 r3 => ?_⟩⟩
    obtain ⟨q, eq, g⟩ := dget_of x3.le ((r1.ext x2).ext x3) h4 (r2.ext x3)
    cases eq
    rcases g with ⟨g1, g2⟩ | ⟨v', d', g1, g2, g3⟩
    · rw [g1] at k
      exact ⟨_, g2, k _ F3 H3 ((x1.trans x2).trans x3) r3⟩
    · rw [g1] at k
      exact ⟨_, g2, k _ F3 H3 ((x1.trans x2).trans x3) g3⟩
theorem en_dK : EN X (.Dict [] [] pos) (kD (.dict [])) :=
  mkN pe_dnewK fun σ H Q ρ F d e h k => by
    cases h
    exact fun p hp => k p _ F _ (.own e.sub hp) (e.sub.free hp) hp upd_same (.dK .nil)
theorem en_dT : EN X (.Dict [] [] pos) (kD (.dict [(.bool true, .none)])) :=
  mkN pe_dnewT fun σ H Q ρ F d e h k => by
    cases h
    exact fun p hp => k p _ F _ (.own e.sub hp) (e.sub.free hp) hp upd_same (.dT .nil)
end
end Zx
/-! Zx7: stores, changes of one's own lists and dicts, loops. -/
namespace Zx
open PySem PySem.Spec L2
section
variable {X : Cx} {st : Stmt} {sts : List Stmt} {f g : DenS} {fd fe : Den} {fl : DenL} {fb : DenB} {a b : Expr} {pos : Pos} {K : PySem.W.Frag} {F0 H0 F H F1 H1 : Hp} {ρ : Env} {σ : L2.St}
theorem EnvS.tgt {ρ' : Env} {σ' : L2.St} (e : EnvS K F0 H0 ρ σ F H) (e' : EnvOk K ρ' σ' F H) (o : OwK ρ σ ρ' σ') : EnvS K F0 H0 ρ' σ' F H :=
  ⟨e', e.ext, fun j d a h1 h2 => by
    obtain ⟨g1, g2⟩ := o j d h1
    exact e.own j d a g1 (g2 ▸ h2)⟩
theorem sx_asg {tg : Expr} {ws : List Nat} {g : DenG} (ha : EX X a fd) (hg : EG X tg ws g) (hs : swapsWithSole [tg] a pos.line X.env = pure false) (hw : swappedStores [tg] a X.env = pure none)
    (h1 : (assignEach [tg] X.env).map (·.2) = [assign tg X.env]) : SX X (.Assign [tg] a pos) (sAsg g fd) := sx_mk (ps_asg ha.pe hg.pg hs hw h1) fun D σ H F0 H0 ρ F o e h k => by
  simp only [sAsg, Option.bind_eq_some_iff, Option.some.injEq] at h
  obtain ⟨d, h1, ρ', h2, rfl⟩ := h
  exact ⟨ρ, F, d, e.env, h1, fun v F' H' x r => ⟨ρ, F', d, ρ', e.env.ext x, r, h2, fun σ' e' _ o' => k σ' F' H' ((e.to x).tgt e' o')⟩⟩
def sPar (i j : Nat) (f : DenL) : DenS := fun ρ => (f ρ).bind fun ds => match ds with | [d, e] => some (.nx ((ρ.set i (.fz d)).set j (.fz e))) | _ => none
theorem sx_par (i j : Nat) {x y : Str} {px py pt : Pos} {kt k2 pt2} (hc : X.calm = true) (hN : X.N.Nodup) (hi : X.N[i]? = some x) (hj : X.N[j]? = some y) (hij : i ≠ j)
    (hx : X.env.scope.names.lookup x = some .local) (hy : X.env.scope.names.lookup y = some .local) (ha : EA X [a, b] fl)
    (hw : swappedStores [.Tuple [.Name x px, .Name y py] kt pt] (.Tuple [a, b] k2 pt2) X.env = pure (some [x, y]))
    (hs : swapsWithSole [.Tuple [.Name x px, .Name y py] kt pt] (.Tuple [a, b] k2 pt2) pos.line X.env = pure false) :
    SX X (.Assign [.Tuple [.Name x px, .Name y py] kt pt] (.Tuple [a, b] k2 pt2) pos) (sPar i j fl) := sx_mk (ps_par hc hN hi hj hij hx hy ha.pa hw hs) fun D σ H F0 H0 ρ F o e h k => by
  simp only [sPar, Option.bind_eq_some_iff] at h
  obtain ⟨ds, h1, h2⟩ := h
  refine ⟨ρ, F, ds, e.env, h1, fun vs F' H' x r => ?_⟩
  split at h2
  · cases h2
    cases r with
    | cons r1 r =>
      cases r with
      | cons r2 r =>
        cases r
        exact ⟨_, _, rfl, k _ F' H' (((e.to x).set r1).set r2)⟩
  · cases h2
def sPar3 (i j l : Nat) (f : DenL) : DenS := fun ρ => (f ρ).bind fun ds => match ds with | [d, e, c] => some (.nx (((ρ.set i (.fz d)).set j (.fz e)).set l (.fz c))) | _ => none
/-! ### one's own list or dict changed -/
theorem EnvS.put {i : Nat} {d d' : D} {p : Addr} {o : HO} (e : EnvS K F0 H0 ρ σ F H) (hs : ρ[i]? = some (.ow d)) (hv : σ[i]? = some (some (.ref p))) (r : OwnRep K F d' o) : EnvS K F0 H0 (ρ.set i (.ow d')) σ F (upd H p o) := by
  obtain ⟨ov, h1, q, o1, h2, h3, h4, h5⟩ := e.env.at_ i _ hs
  rw [hv] at h1
  cases h1
  cases h2
  have hl : i < ρ.length := (List.getElem?_eq_some_iff.mp hs).1
  have hH0 : H0 p = none := e.own i d p hs hv
  have sub : Sub F (upd H p o) := fun b u hb => by
    rw [upd_ne (ne_of_none hb h3)]
    exact e.env.sub b u hb
  have z : ∀ {j : Nat} {d1 : D}, (ρ.set i (.ow d'))[j]? = some (.ow d1) → ∃ d2, ρ[j]? = some (.ow d2) := fun {j d1} h => by
    by_cases hj : i = j
    · subst hj
      exact ⟨d, hs⟩
    · rw [List.getElem?_set_ne hj] at h
      exact ⟨d1, h⟩
  refine ⟨⟨sub, by rw [List.length_set]; exact e.env.len, fun j s hj => ?_, fun j k d1 d2 b g1 g2 g3 g4 => ?_⟩, ⟨e.ext.f, fun b u hb => ?_, sub, e.ext.new⟩, fun j d1 b g1 g2 => ?_⟩
  · by_cases hij : i = j
    · subst hij
      rw [List.getElem?_set_self hl] at hj
      cases hj
      exact ⟨_, hv, p, o, rfl, h3, upd_same, r⟩
    · rw [List.getElem?_set_ne hij] at hj
      obtain ⟨ov, g1, g2⟩ := e.env.at_ j s hj
      refine ⟨ov, g1, ?_⟩
      cases s with
      | no => trivial
      | fz d' => exact g2
      | ow d' =>
        obtain ⟨b, u, g3, g4, g5, g6⟩ := g2
        refine ⟨b, u, g3, g4, ?_, g6⟩
        rw [upd_ne]
        · exact g5
        · rintro rfl
          subst g3
          exact hij (e.env.dist i j d d' b hs hj hv g1)
  · obtain ⟨d3, g5⟩ := z g1
    obtain ⟨d4, g6⟩ := z g2
    exact e.env.dist j k d3 d4 b g5 g6 g3 g4
  · rw [upd_ne (ne_of_none hb hH0)]
    exact e.ext.h b u hb
  · obtain ⟨d3, g5⟩ := z g1
    exact e.own j d3 b g5 g2
/-- the slot's own list -/
def owL (ρ : Env) (i : Nat) : Option (List D) := match ρ[i]? with | some (.ow (.list xs)) => some xs | _ => none
theorem owL_at {i : Nat} {xs : List D} (e : EnvS K F0 H0 ρ σ F H) (h : owL ρ i = some xs) : ρ[i]? = some (.ow (.list xs)) ∧ ∃ p vs, σ[i]? = some (some (.ref p)) ∧ F p = none ∧ H p = some (.lst vs) ∧ RpL K F xs vs := by
  unfold owL at h
  split at h
  · rename_i hs
    cases h
    obtain ⟨ov, h1, q, o1, h2, h3, h4, h5⟩ := e.env.at_ i _ hs
    subst h2
    cases h5 with
    | lst h5 => exact ⟨hs, q, _, h1, h3, h4, h5⟩
  · cases h
def sApp (i : Nat) (f : Den) : DenS := fun ρ => (f ρ).bind fun d => (owL ρ i).bind fun xs => if xs.length < 1000000 then some (.nx (ρ.set i (.ow (.list (xs ++ [d]))))) else none
theorem sx_append (i : Nat) {x : Str} {p apos cpos : Pos} (hN : X.N[i]? = some x) (hv : visB X.env.scope x = true) (hd : (x == ("__debug__" : Str)) = false) (hcd : (x == ("__classdict__" : Str)) = false) (ha : EX X a fd) (hs : N1 X a)
    (hline : (apos.endLine == cpos.line) = true) :
    SX X (.Expr (.Call (.Attribute (.Name x p) "append" apos) [a] [] cpos) pos) (sApp i fd) :=
  sx_mk (ps_expr (pe_bm PySem.F.plainAttrs_list PySem.F.slot_list_append PySem.F.type_list_append mt_append (pe_var hN (vis_of hv) hd hcd) (pa_cons ha.pe pa_nil hs) rfl (by rw [hs]; rfl) hline hs rfl)) fun D σ H F0 H0 ρ F o e h k => by
    simp only [sApp, Option.bind_eq_some_iff] at h
    obtain ⟨d, h1, xs, h2, h3⟩ := h
    split at h3
    · rename_i hl
      cases h3
      obtain ⟨g1, q, vs, g2, g3, g4, g5⟩ := owL_at e h2
      refine ⟨_, g2, .inl ⟨rfl, vs, .inl (.inl g4)⟩, ρ, F, d, e.env, h1, fun w F' H' x r => ?_⟩
      have e' := e.to x
      refine ⟨q, vs, w, rfl, rfl, x.h _ _ g4, by rw [g5.length]; exact line_lt hl, ?_⟩
      exact k _ F' _ (e'.put g1 g2 (.lst ((g5.mono x.f).append (.one r))))
    · cases h3
def listOf : D → Option (List D) | .list xs => some xs | _ => none
def sExt (i : Nat) (f : Den) : DenS := fun ρ => (f ρ).bind fun d => (listOf d).bind fun ys => (owL ρ i).bind fun xs => if xs.length + ys.length ≤ 1000000 then some (.nx (ρ.set i (.ow (.list (xs ++ ys))))) else none
theorem sx_extend (i : Nat) {x : Str} {p apos cpos : Pos} (hN : X.N[i]? = some x) (hv : visB X.env.scope x = true) (hd : (x == ("__debug__" : Str)) = false) (hcd : (x == ("__classdict__" : Str)) = false) (ha : EX X a fd) (hs : N1 X a)
    (hline : (apos.endLine == cpos.line) = true) :
    SX X (.Expr (.Call (.Attribute (.Name x p) "extend" apos) [a] [] cpos) pos) (sExt i fd) :=
  sx_mk (ps_expr (pe_bm PySem.F.plainAttrs_list PySem.F.slot_list_extend PySem.F.type_list_extend mt_extend (pe_var hN (vis_of hv) hd hcd) (pa_cons ha.pe pa_nil hs) rfl (by rw [hs]; rfl) hline hs rfl)) fun D σ H F0 H0 ρ F o e h k => by
    simp only [sExt, Option.bind_eq_some_iff] at h
    obtain ⟨d, h1, ys, h0, xs, h2, h3⟩ := h
    split at h3
    · rename_i hl
      cases h3
      obtain ⟨g1, q, vs, g2, g3, g4, g5⟩ := owL_at e h2
      refine ⟨_, g2, .inl ⟨rfl, vs, .inl (.inl g4)⟩, ρ, F, d, e.env, h1, fun w F' H' x r => ?_⟩
      have e' := e.to x
      cases d <;> simp only [listOf, reduceCtorEq, Option.some.injEq] at h0
      subst h0
      cases r with
      | lst r1 r2 =>
        refine ⟨q, _, vs, _, rfl, rfl, x.h _ _ g4, x.le _ _ r1, by rw [g5.length, r2.length]; exact line_of hl, ?_⟩
        exact k _ F' _ (e'.put g1 g2 (.lst ((g5.mono x.f).append r2)))
    · cases h3
/-- x[j] = e -/
def sStL (i : Nat) (fj f : Den) : DenS := fun ρ => (f ρ).bind fun d => (fj ρ).bind fun j => (owL ρ i).bind fun xs => match j with
  | .int j => (ixN xs.length j).bind fun n => some (.nx (ρ.set i (.ow (.list (xs.set n d)))))
  | _ => none
theorem sx_setL (i : Nat) {x : Str} {p tpos : Pos} {fj : Den} (hN : X.N[i]? = some x) (hv : visB X.env.scope x = true) (hd : (x == ("__debug__" : Str)) = false) (hcd : (x == ("__classdict__" : Str)) = false) (ha : EX X a fd) (hb : EB X b fj)
    (has : ∀ v, assign (.Subscript (.Name x p) b tpos) X.env v = (do
      let ov ← holding [v] (eval (.Name x p) X.env)
      let iv ← holding [v, ov] (eval b X.env)
      standAt tpos
      holding [v, ov, iv] (setItem ov iv v)
      release [v, ov, iv] []))
    (hs : swapsWithSole [.Subscript (.Name x p) b tpos] a pos.line X.env = pure false) (hw : swappedStores [.Subscript (.Name x p) b tpos] a X.env = pure none)
    (h1 : (assignEach [.Subscript (.Name x p) b tpos] X.env).map (·.2) = [assign (.Subscript (.Name x p) b tpos) X.env]) : SX X (.Assign [.Subscript (.Name x p) b tpos] a pos) (sStL i fj fd) :=
  sx_mk (ps_asg ha.pe (pg_sub (pe_var hN (vis_of hv) hd hcd) hb.pe set_list has) hs hw h1) fun D σ H F0 H0 ρ F o e h k => by
    simp only [sStL, Option.bind_eq_some_iff] at h
    obtain ⟨d, h1, j, h2, xs, h3, h4⟩ := h
    cases j <;> simp only [reduceCtorEq, Option.bind_eq_some_iff, Option.some.injEq] at h4
    obtain ⟨n, h4, rfl⟩ := h4
    refine ⟨ρ, F, d, e.env, h1, fun w F1 H1 x1 r1 => ?_⟩
    have e1 := e.to x1
    obtain ⟨g1, q, vs, g2, g3, g4, g5⟩ := owL_at e1 h3
    refine ⟨_, g2, ρ, F1, _, e1.env, h2, fun u F2 H2 x2 r2 => ?_⟩
    have e2 := e1.to x2
    refine ⟨q, vs, _, n, rfl, r2.int, x2.h _ _ g4, by rw [g5.length]; exact h4, ?_⟩
    exact k _ F2 _ (e2.put g1 g2 (.lst ((g5.mono x2.f).set (r1.mono x2.f) n)))
/-- the slot's own dict -/
def owD (ρ : Env) (i : Nat) : Option (List (D × D)) := match ρ[i]? with | some (.ow (.dict xs)) => some xs | _ => none
/-- d[k] = v, the pairs behind it -/
def putD (kds : List (D × D)) (k v : D) : Option (List (D × D)) := match kds, k with
    | (.bool true, .none) :: r, .tuple ds => if (keysOf ds).isSome && decide (r.length < 1000000) then some ((.bool true, .none) :: dPut r (.tuple ds) v) else none
    | kds, k => if notMk kds && (keyOf k).isSome && decide (kds.length < 1000000) then some (dPut kds k v) else none
def sStD (i : Nat) (fk f : Den) : DenS := fun ρ => (f ρ).bind fun d => (fk ρ).bind fun j => (owD ρ i).bind fun xs => (putD xs j d).bind fun ys => some (.nx (ρ.set i (.ow (.dict ys))))
theorem owD_at {i : Nat} {xs : List (D × D)} (e : EnvS K F0 H0 ρ σ F H) (h : owD ρ i = some xs) : ρ[i]? = some (.ow (.dict xs)) ∧ ∃ p o, σ[i]? = some (some (.ref p)) ∧ F p = none ∧ H p = some o ∧ OwnRep K F (.dict xs) o := by
  unfold owD at h
  split at h
  · rename_i hs
    cases h
    obtain ⟨ov, h1, q, o1, h2, h3, h4, h5⟩ := e.env.at_ i _ hs
    subst h2
    exact ⟨hs, q, o1, h1, h3, h4, h5⟩
  · cases h
theorem OwnRep.dK_of {kds : List (D × D)} {o : HO} (h : OwnRep K F (.dict kds) o) (hn : notMk kds = true) : ∃ kvs, o = .dK kvs ∧ RpK K F kds kvs := by
  generalize hz : PyData.dict kds = z at h
  cases h with
  | lst => cases hz
  | dK h2 =>
    injection hz with hz
    subst hz
    exact ⟨_, rfl, h2⟩
  | dT h2 =>
    injection hz with hz
    subst hz
    cases hn
theorem OwnRep.dT_of {kds : List (D × D)} {o : HO} (h : OwnRep K F (.dict ((.bool true, .none) :: kds)) o) : ∃ kvs, o = .dT kvs ∧ RpT K F kds kvs := by
  generalize hz : PyData.dict ((.bool true, .none) :: kds) = z at h
  cases h with
  | lst => cases hz
  | dK h2 =>
    injection hz with hz
    exact (h2.nb hz.symm).elim
  | dT h2 =>
    injection hz with hz
    injection hz with _ hz
    subst hz
    exact ⟨_, rfl, h2⟩
theorem put_of {kds kds' : List (D × D)} {k d : D} {o : HO} {p : Addr} {y v : V} (s : Sub F H) (ho : H p = some o) (h : OwnRep K F (.dict kds) o) (hk : putD kds k d = some kds') (hy : RpB K F H k y) (hv : Rp K F d v) :
    ∃ o', DPut H p y v (upd H p o') ∧ OwnRep K F (.dict kds') o' := by
  unfold putD at hk
  split at hk
  · rename_i r ds
    split at hk
    · rename_i h1
      cases hk
      rw [Bool.and_eq_true] at h1
      obtain ⟨h1, hl⟩ := h1
      have hl := of_decide_eq_true hl
      rw [Option.isSome_iff_exists] at h1
      obtain ⟨ks, hks⟩ := h1
      have := keysOf_eq hks
      subst this
      obtain ⟨b, us, rfl, hb, rb⟩ := hy.tuple s
      rw [keysL_vs rb] at hb
      obtain ⟨kvs, rfl, h2⟩ := h.dT_of
      exact ⟨_, .t ho hb (by rw [h2.length]; exact line_lt hl), .dT (h2.put ks hv)⟩
    · cases hk
  · split at hk
    · rename_i h1
      cases hk
      rw [Bool.and_eq_true, Bool.and_eq_true] at h1
      obtain ⟨⟨h1, h2⟩, hl⟩ := h1
      have hl := of_decide_eq_true hl
      rw [Option.isSome_iff_exists] at h2
      obtain ⟨j, hj⟩ := h2
      have := keyOf_eq hj
      subst this
      have ey : y = kV j := by
        cases j with
        | inl i => exact hy.int
        | inr x => exact hy.str
      subst ey
      obtain ⟨kvs, rfl, h2⟩ := h.dK_of h1
      exact ⟨_, .k ho (by rw [h2.length]; exact line_lt hl), .dK (h2.put j hv)⟩
    · cases hk
theorem sx_setD (i : Nat) {x : Str} {p tpos : Pos} {fj : Den} (hu : X.A.units + 1 < cLine) (hN : X.N[i]? = some x) (hv : visB X.env.scope x = true) (hd : (x == ("__debug__" : Str)) = false) (hcd : (x == ("__classdict__" : Str)) = false) (ha : EX X a fd) (hb : EX X b fj)
    (hs : swapsWith a (some (.Subscript (.Name x p) b tpos)) pos.line X.env = pure false) : SX X (.Assign [.Subscript (.Name x p) b tpos] a pos) (sStD i fj fd) :=
  sx_mk (ps_dput hu (pe_var hN (vis_of hv) hd hcd) hb.pe ha.pe hs) fun D σ H F0 H0 ρ F o e h k => by
    simp only [sStD, Option.bind_eq_some_iff, Option.some.injEq] at h
    obtain ⟨d, h1, j, h2, xs, h3, ys, h4, rfl⟩ := h
    refine ⟨ρ, F, d, e.env, h1, fun w F1 H1 x1 r1 => ?_⟩
    have e1 := e.to x1
    obtain ⟨g1, q, ob, g2, g3, g4, g5⟩ := owD_at e1 h3
    refine ⟨_, g2, ρ, F1, _, e1.env, h2, fun u F2 H2 x2 r2 => ?_⟩
    have e2 := e1.to x2
    obtain ⟨o', p1, p2⟩ := put_of x2.le (x2.h _ _ g4) (g5.mono x2.f) h4 (.inl r2) (r1.mono x2.f)
    exact ⟨q, _, rfl, p1, k _ F2 _ (e2.put g1 g2 p2)⟩
/-! ### loops -/
def forL (g : DenG) (fb : DenS) : List D → DenS
  | [], ρ => some (.nx ρ)
  | d :: ds, ρ => (g d ρ).bind fun ρ1 => (fb ρ1).bind fun o => match o with
    | .nx ρ' => forL g fb ds ρ'
    | .ct ρ' => forL g fb ds ρ'
    | .bk ρ' => some (.nx ρ')
    | o => some o
def sFor (fi : DenI) (g : DenG) (fb : DenS) : DenS := fun ρ => (fi ρ).bind fun ds => forL g fb ds ρ
/-- the same from a later base -/
theorem EnvS.rebase (e : EnvS K F0 H0 ρ σ F1 H1) : ∃ Hx, Ext F0 H0 F1 Hx ∧ EnvS K F1 Hx ρ σ F1 H1 := by
  have hx : ∀ a, F1 a = none → H0 a = none → (match F1 a with | some o => some o | none => H0 a) = none := fun a h1 h2 => by rw [h1]; exact h2
  refine ⟨fun a => match F1 a with | some o => some o | none => H0 a, ⟨e.ext.f, fun a o h => ?_, fun a o h => ?_, e.ext.new⟩, ⟨e.env, ⟨.refl _, fun a o h => ?_, e.env.sub, fun _ _ h => h⟩, fun i d a h1 h2 => ?_⟩⟩
  · cases q : F1 a with
    | none => exact h
    | some u =>
      have h1 := e.env.sub a u q
      rw [e.ext.h a o h] at h1
      cases h1
      rfl
  · show (match F1 a with | some o => some o | none => H0 a) = some o
    rw [h]
  · have h' : (match F1 a with | some o => some o | none => H0 a) = some o := h
    cases q : F1 a with
    | none =>
      rw [q] at h'
      exact e.ext.h a o h'
    | some u =>
      rw [q] at h'
      cases h'
      exact e.env.sub a _ q
  · refine hx a ?_ (e.own i d a h1 h2)
    obtain ⟨ov, g1, b, o, g2, g3, _⟩ := e.env.at_ i _ h1
    rw [h2] at g1
    cases g1
    cases g2
    exact g3
theorem EnvS.unbase {Fx Hx : Hp} (x : Ext F0 H0 Fx Hx) (e : EnvS K Fx Hx ρ σ F H) : EnvS K F0 H0 ρ σ F H := ⟨e.env, x.trans e.ext, fun i d a h1 h2 => x.h.free (e.own i d a h1 h2)⟩
theorem Post.base {D : Ends} {o : Out} {Fx Hx : Hp} (x : Ext F0 H0 Fx Hx) (h : Post K F0 H0 D o) : Post K Fx Hx D o := by
  cases o with
  | nx ρ => exact fun σ' F' H' e => h σ' F' H' (e.unbase x)
  | bk ρ => exact fun σ' F' H' e => h σ' F' H' (e.unbase x)
  | ct ρ => exact fun σ' F' H' e => h σ' F' H' (e.unbase x)
  | rt d => exact fun v F' H' e r => h v F' H' (x.trans e) r
  | rn d => exact fun a o F' H' e h1 h2 h3 h4 => h a o F' H' (x.trans e) h1 (x.h.free h2) h3 h4
theorem for_t {wi : TI} {g : DenG} {fbd : DenS} {ws : List Nat} {fi : DenI} {o : Out} {D : Ends} (hwi : ∀ ds R, fi ρ = some ds → (∀ J F2 H2, Ext F H F2 H2 → Walks K J F2 ds → R J H2) → wi σ H R) (e : EnvS K F0 H0 ρ σ F H) (h : sFor fi g fbd ρ = some o) (k : Post K F0 H0 D o) :
    tFor wi (tGt K ws g) (tSt K fbd) D σ H := by
  simp only [sFor, Option.bind_eq_some_iff] at h
  obtain ⟨ds, h1, h2⟩ := h
  refine hwi ds _ h1 fun J F1 H1 x1 w => ?_
  obtain ⟨Hx, xb, eb⟩ := (e.to x1).rebase
  have kb := k.base xb
  refine ⟨fun i m σ' H' => i ≤ ds.length ∧ m = ds.length - i ∧ ∃ ρ' F', EnvS K F1 Hx ρ' σ' F' H' ∧ forL g fbd (ds.drop i) ρ' = some o, ⟨_, Nat.zero_le _, rfl, ρ, F1, eb, by rw [List.drop_zero]; exact h2⟩, ?_⟩
  rintro i m σ' H' ⟨hle, rfl, ρ', F', e', hl⟩
  obtain ⟨w1, w2⟩ := w i F' H' e'.ext.f e'.env.sub
  by_cases hi : i < ds.length
  · have hd : ds.drop i = ds[i] :: ds.drop (i + 1) := List.drop_eq_getElem_cons hi
    rw [hd] at hl
    simp only [forL, Option.bind_eq_some_iff] at hl
    obtain ⟨ρ1, g1, o1, g2, g3⟩ := hl
    obtain ⟨w3, w4⟩ := w1 ds[i] (List.getElem?_eq_getElem hi)
    refine .inr ⟨w3, fun σ2 H2 => ∃ ρ2 F2, EnvS K F1 Hx ρ2 σ2 F2 H2 ∧ forL g fbd (ds.drop (i + 1)) ρ2 = some o, fun σ2 H2 hN => ⟨_, by omega, hi, rfl, hN⟩, fun x H2 hy => ?_⟩
    obtain ⟨F2, x2, r2⟩ := w4 x H2 hy
    have e2 := e'.to x2
    refine ⟨ρ', F2, ds[i], ρ1, e2.env, r2, g1, fun σ3 e3 _ o3 => ?_⟩
    refine ⟨F1, Hx, ρ1, F2, o1, e2.tgt e3 o3, g2, ?_⟩
    cases o1 with
    | nx ρ2 => exact fun σ4 F4 H4 e4 => ⟨ρ2, F4, e4, g3⟩
    | ct ρ2 => exact fun σ4 F4 H4 e4 => ⟨ρ2, F4, e4, g3⟩
    | bk ρ2 =>
      cases g3
      exact kb
    | rt d =>
      cases g3
      exact kb
    | rn d =>
      cases g3
      exact kb
  · have hd : ds.drop i = [] := List.drop_eq_nil_of_le (by omega)
    rw [hd] at hl
    cases hl
    exact .inl ⟨w2 (by omega), kb σ' F' H' e'⟩
theorem sx_for {X : Cx} {pos : Pos} {tg iter : Expr} {body : List Stmt} {ws : List Nat} {fi : DenI} {g : DenG} {fbd : DenS} (hp : PassesOwn (model X.prog X.w) X.A X.env X.xe) (hc : X.calm = true) (hi : EI X tg iter fi) (hg : EG X tg ws g) (hb : SXs X body fbd)
    (hs : ∀ x, foldedSetIterable iter X.env x = pure x) : SX X (.For tg iter body [] pos) (sFor fi g fbd) :=
  sx_mk (ps_for hp hc hi.pi hg.pg hb.pss hs) fun D σ H F0 H0 ρ F o e h k => for_t (fun ds R h1 w => ⟨ρ, F, ds, e.env, h1, w⟩) e h k
/-! ### while -/
def whL (c : DenB) (fb : DenS) : Nat → DenS
  | 0, _ => none
  | n + 1, ρ => (c ρ).bind fun b => if b then (fb ρ).bind fun o => match o with
      | .nx ρ' => whL c fb n ρ'
      | .ct ρ' => whL c fb n ρ'
      | .bk ρ' => some (.nx ρ')
      | o => some o
    else some (.nx ρ)
open Classical in
noncomputable def sWh (c : DenB) (fb : DenS) : DenS := fun ρ => if h : ∃ n o, whL c fb n ρ = some o then some (Classical.choose (Classical.choose_spec h)) else none
theorem sWh_ex {c : DenB} {fb : DenS} {ρ : Env} {o : Out} (h : sWh c fb ρ = some o) : ∃ n, whL c fb n ρ = some o := by
  unfold sWh at h
  split at h
  · rename_i hh
    cases h
    exact ⟨_, Classical.choose_spec (Classical.choose_spec hh)⟩
  · cases h
theorem whL_mono {c : DenB} {fb : DenS} : ∀ {n m : Nat} {ρ : Env} {o : Out}, n ≤ m → whL c fb n ρ = some o → whL c fb m ρ = some o
  | 0, _, _, _, _, h => by cases h
  | n + 1, 0, _, _, h, _ => by omega
  | n + 1, m + 1, ρ, o, hl, h => by
    simp only [whL, Option.bind_eq_some_iff] at h ⊢
    obtain ⟨b, h1, h2⟩ := h
    refine ⟨b, h1, ?_⟩
    cases b with
    | false => exact h2
    | true =>
      simp only [if_true, Option.bind_eq_some_iff] at h2 ⊢
      obtain ⟨o1, h3, h4⟩ := h2
      refine ⟨o1, h3, ?_⟩
      cases o1 with
      | nx ρ' => exact whL_mono (by omega) h4
      | ct ρ' => exact whL_mono (by omega) h4
      | bk ρ' => exact h4
      | rt d => exact h4
      | rn d => exact h4
theorem sWh_of {c : DenB} {fb : DenS} {ρ : Env} {o : Out} {n : Nat} (h : whL c fb n ρ = some o) : sWh c fb ρ = some o := by
  have hh : ∃ n o, whL c fb n ρ = some o := ⟨n, o, h⟩
  unfold sWh
  rw [dif_pos hh]
  have h2 := Classical.choose_spec (Classical.choose_spec hh)
  have a := whL_mono (Nat.le_max_left n (Classical.choose hh)) h
  have b := whL_mono (Nat.le_max_right n (Classical.choose hh)) h2
  rw [a] at b
  exact b.symm
theorem sx_while {c : Expr} {body : List Stmt} {fc : DenB} {fbd : DenS} (hp : PassesOwn (model X.prog X.w) X.A X.env X.xe) (hc : ET X c fc) (hb : SXs X body fbd) : SX X (.While c body [] pos) (sWh fc fbd) :=
  sx_mk (ps_while hp hc.pt hb.pss) fun D σ H F0 H0 ρ F o e h k => by
    obtain ⟨n, h⟩ := sWh_ex h
    refine ⟨fun m σ' H' => ∃ ρ' F', EnvS X.K F0 H0 ρ' σ' F' H' ∧ whL fc fbd m ρ' = some o, ⟨n, ρ, F, e, h⟩, ?_⟩
    rintro m σ' H' ⟨ρ', F', e', hl⟩
    cases m with
    | zero => cases hl
    | succ m =>
      simp only [whL, Option.bind_eq_some_iff] at hl
      obtain ⟨b, h1, h2⟩ := hl
      refine ⟨ρ', F', b, e'.env, h1, fun F1 H1 x1 => ?_⟩
      cases b with
      | false =>
        cases h2
        exact k σ' F1 H1 (e'.to x1)
      | true =>
        simp only [if_true, Option.bind_eq_some_iff] at h2
        obtain ⟨o1, h3, h4⟩ := h2
        refine ⟨fun σ2 H2 => ∃ ρ2 F2, EnvS X.K F0 H0 ρ2 σ2 F2 H2 ∧ whL fc fbd m ρ2 = some o, fun σ2 H2 hN => ⟨m, by omega, hN⟩, F0, H0, ρ', F1, o1, e'.to x1, h3, ?_⟩
        cases o1 with
        | nx ρ2 => exact fun σ4 F4 H4 e4 => ⟨ρ2, F4, e4, h4⟩
        | ct ρ2 => exact fun σ4 F4 H4 e4 => ⟨ρ2, F4, e4, h4⟩
        | bk ρ2 =>
          cases h4
          exact k
        | rt d =>
          cases h4
          exact k
        | rn d =>
          cases h4
          exact k
end
end Zx
/-! Zx8: comprehensions, calls, defs. -/
namespace Zx
open PySem PySem.Spec L2
/-! ### comprehensions -/
def wipeE (ρ : Env) : List Nat → Env
  | [] => ρ
  | v :: vs => (wipeE ρ vs).set v .no
def lcL (g : DenG) (ft : DenB) (fe : Den) (ρ : Env) : List D → Option (List D)
  | [] => some []
  | d :: ds => (g d ρ).bind fun ρ1 => (ft ρ1).bind fun b => if b then (fe ρ1).bind fun x => (lcL g ft fe ρ ds).bind fun xs => some (x :: xs) else lcL g ft fe ρ ds
def dLc (fi : DenI) (g : DenG) (ft : DenB) (fe : Den) (vs : List Nat) : Den := fun ρ => (fi ρ).bind fun ds => (lcL g ft fe (wipeE ρ vs) ds).bind fun out => if out.length ≤ 1000000 then some (.list out) else none
def bYes : DenB := fun _ => some true
section
variable {X : Cx} {K : PySem.W.Frag} {F0 H0 F H F1 H1 F' H' : Hp} {ρ : Env} {σ : L2.St}
theorem EnvOk.no {i : Nat} (e : EnvOk K ρ σ F H) : EnvOk K (ρ.set i .no) (σ.set i none) F H where
  sub := e.sub
  len := by rw [List.length_set, List.length_set]; exact e.len
  at_ := fun j s hs => by
    by_cases hj : i = j
    · subst hj
      by_cases hl : i < ρ.length
      · rw [List.getElem?_set_self hl] at hs
        cases hs
        exact ⟨none, List.getElem?_set_self (by rw [← e.len]; exact hl), trivial⟩
      · rw [List.getElem?_eq_none (by rw [List.length_set]; omega)] at hs
        cases hs
    · rw [List.getElem?_set_ne hj] at hs
      rw [List.getElem?_set_ne hj]
      exact e.at_ j s hs
  dist := fun j k d1 d2 a h1 h2 h3 h4 => by
    have z : ∀ {j : Nat} {d1 : D}, (ρ.set i .no)[j]? = some (.ow d1) → i ≠ j ∧ ρ[j]? = some (.ow d1) := fun {j d1} h => by
      by_cases hj : i = j
      · subst hj
        by_cases hl : i < ρ.length
        · rw [List.getElem?_set_self hl] at h
          cases h
        · rw [List.getElem?_eq_none (by rw [List.length_set]; omega)] at h
          cases h
      · rw [List.getElem?_set_ne hj] at h
        exact ⟨hj, h⟩
    obtain ⟨n1, g1⟩ := z h1
    obtain ⟨n2, g2⟩ := z h2
    rw [List.getElem?_set_ne n1] at h3
    rw [List.getElem?_set_ne n2] at h4
    exact e.dist j k d1 d2 a g1 g2 h3 h4
theorem EnvOk.wipe (e : EnvOk K ρ σ F H) : ∀ vs : List Nat, EnvOk K (wipeE ρ vs) (wipe σ vs) F H
  | [] => e
  | v :: vs => (EnvOk.wipe e vs).no
/-- a new object that no slot owns is written -/
theorem EnvOk.upd {q : Addr} {o : HO} (e : EnvOk K ρ σ F H) (hF : F q = none) (hn : ∀ (i : Nat) d a, ρ[i]? = some (.ow d) → σ[i]? = some (some (.ref a)) → a ≠ q) : EnvOk K ρ σ F (upd H q o) where
  sub := fun b u hb => by
    rw [upd_ne (ne_of_none hb hF)]
    exact e.sub b u hb
  len := e.len
  dist := e.dist
  at_ := fun i s hs => by
    obtain ⟨ov, g1, g2⟩ := e.at_ i s hs
    refine ⟨ov, g1, ?_⟩
    cases s with
    | no => trivial
    | fz d => exact g2
    | ow d =>
      obtain ⟨b, u, g3, g4, g5, g6⟩ := g2
      subst g3
      refine ⟨b, u, rfl, g4, ?_, g6⟩
      rw [upd_ne (hn i d b hs g1)]
      exact g5
theorem Ext.mut {q : Addr} {o : HO} (x : Ext F1 H1 F H) (h1 : H1 q = none) (hF : F q = none) : Ext F1 H1 F (upd H q o) :=
  ⟨x.f, fun a u e => by
    rw [upd_ne (ne_of_none e h1)]
    exact x.h a u e, fun a u e => by
    rw [upd_ne (ne_of_none e hF)]
    exact x.le a u e, x.new⟩
theorem EnvOk.ne_new {q : Addr} (e : EnvOk K ρ σ F H) (hq : H q = none) : ∀ (i : Nat) d a, ρ[i]? = some (.ow d) → σ[i]? = some (some (.ref a)) → a ≠ q := fun i d a h1 h2 z => by
  subst z
  obtain ⟨ov, g1, b, o, g2, g3, g4, _⟩ := e.at_ i _ h1
  rw [h2] at g1
  cases g1
  cases g2
  rw [hq] at g4
  cases g4
/-- the tests of a clause -/
structure ETs (X : Cx) (ifs : List Expr) (f : DenB) : Prop where
  pts : PTs X ifs (tTst X.K f)
theorem PTs.imp {ifs : List Expr} {t t' : TT} (h : PTs X ifs t) (i : ∀ σ H Q, t' σ H Q → t σ H Q) : PTs X ifs t' := ⟨fun pins s σ H Q I hw => h.run pins s σ H Q I (i σ H Q hw)⟩
theorem ets_nil : ETs X [] bYes := ⟨PTs.imp pts_nil fun σ H Q ⟨ρ, F, b, e, h, k⟩ => by
  cases h
  exact k F H (.refl e.sub)⟩
theorem ets_one {c : Expr} {f : DenB} (h : ET X c f) : ETs X [c] f := ⟨pts_one h.pt⟩
theorem wipe_twice (σ σ2 : L2.St) : ∀ vs : List Nat, σ2.length = σ.length → (∀ j, j ∉ vs → σ2[j]? = (wipe σ vs)[j]?) → wipe σ2 vs = wipe σ vs := fun vs hl h => by
  have hw : ∀ (τ : L2.St) (vs : List Nat) (j : Nat), (wipe τ vs)[j]? = if j ∈ vs ∧ j < τ.length then some none else τ[j]? := fun τ vs => by
    induction vs with
    | nil => intro j; simp [L2.wipe]
    | cons v vs ih =>
      intro j
      unfold L2.wipe
      by_cases hj : v = j
      · subst hj
        by_cases hl : v < τ.length
        · rw [List.getElem?_set_self (by rw [wipe_length]; exact hl), if_pos ⟨List.mem_cons_self, hl⟩]
        · rw [List.getElem?_eq_none (by rw [List.length_set, wipe_length]; omega), if_neg (fun z => hl z.2), List.getElem?_eq_none (by omega)]
      · rw [List.getElem?_set_ne hj, ih]
        by_cases hm : j ∈ vs ∧ j < τ.length
        · rw [if_pos hm, if_pos ⟨List.mem_cons_of_mem _ hm.1, hm.2⟩]
        · rw [if_neg hm, if_neg (fun z => hm ⟨(List.mem_cons.mp z.1).resolve_left (Ne.symm hj), z.2⟩)]
  refine List.ext_getElem? fun j => ?_
  rw [hw σ2, hw σ, hl]
  by_cases hj : j ∈ vs
  · by_cases hl2 : j < σ.length
    · rw [if_pos ⟨hj, hl2⟩, if_pos ⟨hj, hl2⟩]
    · rw [if_neg (fun z => hl2 z.2), if_neg (fun z => hl2 z.2), List.getElem?_eq_none (by omega), List.getElem?_eq_none (by omega)]
  · rw [if_neg (fun z => hj z.1), if_neg (fun z => hj z.1), h j hj, wipe_out hj]
section
variable {wi wi1 : TI} {g : DenG} {ft ft1 : DenB} {fe : Den} {fi fi1 : DenI} {ws ws1 vs vs1 : List Nat} {Q : VK} {d : D} {g1 : DenG}
/-- a thing that is walked, told of the state -/
def WiOk (K : PySem.W.Frag) (wi : TI) (fi : DenI) (ρ : Env) (σ : L2.St) (F H : Hp) : Prop := ∀ ds R, fi ρ = some ds → (∀ J F1 H1, Ext F H F1 H1 → Walks K J F1 ds → R J H1) → wi σ H R
theorem EnvOk.wiOk (e : EnvOk K ρ σ F H) : WiOk K (tI K fi) fi ρ σ F H := fun ds R h k => ⟨ρ, F, ds, e, h, k⟩
theorem lc_t (hwi : WiOk K wi fi ρ σ F H) (hw : ∀ j ∈ ws, j ∈ vs) (e : EnvOk K ρ σ F H) (h : dLc fi g ft fe vs ρ = some d) (k : ∀ a o F' H', Ext F H F' H' → F' a = none → H a = none → H' a = some o → OwnRep K F' d o → Q (.ref a) H') :
    tLc wi (tGt K ws g) (tTst K ft) (tX K fe) vs σ H Q := by
  simp only [dLc, Option.bind_eq_some_iff] at h
  obtain ⟨ds, h1, out, h2, h3⟩ := h
  split at h3
  · rename_i hsz
    cases h3
    refine hwi ds _ h1 fun J F1 H1 x1 w q hq => ?_
    have e1 := (e.ext x1).wipe vs
    have hF1 : F1 q = none := x1.le.free hq
    have hne := e1.ne_new hq
    refine ⟨fun i m H' => i ≤ ds.length ∧ m = ds.length - i ∧ ∃ F' acc accD rest, EnvOk K (wipeE ρ vs) (wipe σ vs) F' H' ∧ Ext F1 H1 F' H' ∧ F' q = none ∧ H' q = some (.lst acc) ∧ RpL K F' accD acc ∧
      lcL g ft fe (wipeE ρ vs) (ds.drop i) = some rest ∧ accD ++ rest = out,
      ⟨_, Nat.zero_le _, rfl, F1, [], [], out, e1.upd hF1 hne, .mut (.refl x1.le) hq hF1, hF1, upd_same, .nil, by rw [List.drop_zero]; exact h2, rfl⟩, ?_⟩
    rintro i m H' ⟨hle, rfl, F', acc, accD, rest, e', x', hF', hq', rl, hr, ho⟩
    obtain ⟨w1, w2⟩ := w i F' H' x'.f x'.le
    by_cases hi : i < ds.length
    · have hd : ds.drop i = ds[i] :: ds.drop (i + 1) := List.drop_eq_getElem_cons hi
      rw [hd] at hr
      simp only [lcL, Option.bind_eq_some_iff] at hr
      obtain ⟨ρ1, g1, b, g2, g3⟩ := hr
      obtain ⟨w3, w4⟩ := w1 ds[i] (List.getElem?_eq_getElem hi)
      refine .inr ⟨w3, fun H' => ∃ F' acc accD rest, EnvOk K (wipeE ρ vs) (wipe σ vs) F' H' ∧ Ext F1 H1 F' H' ∧ F' q = none ∧ H' q = some (.lst acc) ∧ RpL K F' accD acc ∧
        lcL g ft fe (wipeE ρ vs) (ds.drop (i + 1)) = some rest ∧ accD ++ rest = out, fun H2 hN => ⟨_, by omega, hi, rfl, hN⟩, fun x H2 hy => ?_⟩
      obtain ⟨F2, x2, r2⟩ := w4 x H2 hy
      refine ⟨_, F2, ds[i], ρ1, e'.ext x2, r2, g1, fun σ3 e3 sb o3 => ⟨?_, ?_⟩⟩
      · refine wipe_twice σ σ3 _ (by rw [sb.len, wipe_length]) fun j hj => sb.at_ j fun z => hj (hw j z)
      refine ⟨ρ1, F2, b, e3, g2, fun F3 H3 x3 => ?_⟩
      have x23 := x2.trans x3
      cases b with
      | false =>
        refine ⟨F3, acc, accD, rest, e'.ext x23, x'.trans x23, x23.new q (by rw [hq']; exact fun z => nomatch z) hF', x23.h _ _ hq', rl.mono x23.f, g3, ho⟩
      | true =>
        simp only [if_true, Option.bind_eq_some_iff, Option.some.injEq] at g3
        obtain ⟨y, g4, rest', g5, rfl⟩ := g3
        refine ⟨ρ1, F3, y, e3.ext x3, g4, fun v F4 H4 x4 r4 => ?_⟩
        have x24 := x23.trans x4
        have hF4 : F4 q = none := x24.new q (by rw [hq']; exact fun z => nomatch z) hF'
        have hH4 : H4 q = some (.lst acc) := x24.h _ _ hq'
        refine ⟨acc, hH4, ?_, F4, acc ++ [v], accD ++ [y], rest', (e'.ext x24).upd hF4 hne, .mut (x'.trans x24) hq hF4, hF4, upd_same, (rl.mono x24.f).append (.one r4), g5, by rw [List.append_assoc]; exact ho⟩
        rw [rl.length]
        refine line_lt ?_
        have := congrArg List.length ho
        rw [List.length_append, List.length_cons] at this
        omega
    · have hd : ds.drop i = [] := List.drop_eq_nil_of_le (by omega)
      rw [hd] at hr
      cases hr
      rw [List.append_nil] at ho
      subst ho
      exact .inl ⟨w2 (by omega), k q _ F' H' (x1.trans x') hF' (x1.h.free hq) hq' (.lst rl)⟩
  · cases h3
/-! two clauses -/
def lc2L (g : DenG) (ft : DenB) (fi1 : DenI) (g1 : DenG) (ft1 : DenB) (fe : Den) (vs1 : List Nat) (ρ : Env) : List D → Option (List D)
  | [] => some []
  | d :: ds => (g d ρ).bind fun ρ1 => (ft ρ1).bind fun b => if b then (fi1 ρ1).bind fun es => (lcL g1 ft1 fe (wipeE ρ1 vs1) es).bind fun xs => (lc2L g ft fi1 g1 ft1 fe vs1 ρ ds).bind fun ys => some (xs ++ ys) else lc2L g ft fi1 g1 ft1 fe vs1 ρ ds
def dLc2 (fi : DenI) (g : DenG) (ft : DenB) (fi1 : DenI) (g1 : DenG) (ft1 : DenB) (fe : Den) (vs vs1 : List Nat) : Den := fun ρ => (fi ρ).bind fun ds => (lc2L g ft fi1 g1 ft1 fe vs1 (wipeE ρ vs) ds).bind fun out => if out.length ≤ 1000000 then some (.list out) else none
theorem wipe_wipe (hv : ∀ j ∈ vs1, j ∈ vs) (τ : L2.St) (h : wipe τ vs = wipe σ vs) (σ3 : L2.St) (hl : σ3.length = τ.length) (h3 : ∀ j, j ∉ vs1 → σ3[j]? = (wipe τ vs1)[j]?) : wipe σ3 vs1 = wipe τ vs1 := wipe_twice τ σ3 vs1 hl h3
theorem lc2_t (hwi : WiOk K wi fi ρ σ F H) (hw : ∀ j ∈ ws, j ∈ vs) (hw1 : ∀ j ∈ ws1, j ∈ vs1) (e : EnvOk K ρ σ F H) (h : dLc2 fi g ft fi1 g1 ft1 fe vs vs1 ρ = some d)
    (k : ∀ a o F' H', Ext F H F' H' → F' a = none → H a = none → H' a = some o → OwnRep K F' d o → Q (.ref a) H') :
    tLc2 wi (tGt K ws g) (tTst K ft) (tI K fi1) (tGt K ws1 g1) (tTst K ft1) (tX K fe) vs vs1 σ H Q := by
  simp only [dLc2, Option.bind_eq_some_iff] at h
  obtain ⟨ds, h1, out, h2, h3⟩ := h
  split at h3
  · rename_i hsz
    cases h3
    refine hwi ds _ h1 fun J F1 H1 x1 w q hq => ?_
    have e1 := (e.ext x1).wipe vs
    have hF1 : F1 q = none := x1.le.free hq
    have hne := e1.ne_new hq
    refine ⟨fun i m H' => i ≤ ds.length ∧ m = ds.length - i ∧ ∃ F' acc accD rest, EnvOk K (wipeE ρ vs) (wipe σ vs) F' H' ∧ Ext F1 H1 F' H' ∧ F' q = none ∧ H' q = some (.lst acc) ∧ RpL K F' accD acc ∧
      lc2L g ft fi1 g1 ft1 fe vs1 (wipeE ρ vs) (ds.drop i) = some rest ∧ accD ++ rest = out,
      ⟨_, Nat.zero_le _, rfl, F1, [], [], out, e1.upd hF1 hne, .mut (.refl x1.le) hq hF1, hF1, upd_same, .nil, by rw [List.drop_zero]; exact h2, rfl⟩, ?_⟩
    rintro i m H' ⟨hle, rfl, F', acc, accD, rest, e', x', hF', hq', rl, hr, ho⟩
    obtain ⟨w1, w2⟩ := w i F' H' x'.f x'.le
    by_cases hi : i < ds.length
    · have hd : ds.drop i = ds[i] :: ds.drop (i + 1) := List.drop_eq_getElem_cons hi
      rw [hd] at hr
      simp only [lc2L, Option.bind_eq_some_iff] at hr
      obtain ⟨ρ1, j1, b, j2, j3⟩ := hr
      obtain ⟨w3, w4⟩ := w1 ds[i] (List.getElem?_eq_getElem hi)
      refine .inr ⟨w3, fun H' => ∃ F' acc accD rest, EnvOk K (wipeE ρ vs) (wipe σ vs) F' H' ∧ Ext F1 H1 F' H' ∧ F' q = none ∧ H' q = some (.lst acc) ∧ RpL K F' accD acc ∧
        lc2L g ft fi1 g1 ft1 fe vs1 (wipeE ρ vs) (ds.drop (i + 1)) = some rest ∧ accD ++ rest = out, fun H2 hN => ⟨_, by omega, hi, rfl, hN⟩, fun x H2 hy => ?_⟩
      obtain ⟨F2, x2, r2⟩ := w4 x H2 hy
      refine ⟨_, F2, ds[i], ρ1, e'.ext x2, r2, j1, fun σ3 e3 sb o3 => ⟨?_, ?_⟩⟩
      · refine wipe_twice σ σ3 _ (by rw [sb.len, wipe_length]) fun j hj => sb.at_ j fun z => hj (hw j z)
      refine ⟨ρ1, F2, b, e3, j2, fun F3 H3 x3 => ?_⟩
      have x23 := x2.trans x3
      have hq3 : H3 q = some (.lst acc) := x23.h _ _ hq'
      have hF3 : F3 q = none := x23.new q (by rw [hq']; exact fun z => nomatch z) hF'
      cases b with
      | false =>
        exact ⟨F3, acc, accD, rest, e'.ext x23, x'.trans x23, hF3, hq3, rl.mono x23.f, j3, ho⟩
      | true =>
        simp only [if_true, Option.bind_eq_some_iff, Option.some.injEq] at j3
        obtain ⟨es, j4, xs, j5, ys, j6, rfl⟩ := j3
        have e33 := e3.ext x3
        refine ⟨ρ1, F3, es, e33, j4, fun J1 F4 H4 x4 u => ?_⟩
        have x24 := x23.trans x4
        have hne3 : ∀ (i : Nat) d a, (wipeE ρ1 vs1)[i]? = some (.ow d) → (wipe σ3 vs1)[i]? = some (some (.ref a)) → a ≠ q := fun i d a g1 g2 => by
          have e4 := (e3.wipe vs1)
          rintro rfl
          obtain ⟨ov, z1, b, o, z2, z3, z4, z5⟩ := e4.at_ i _ g1
          rw [g2] at z1
          cases z1
          cases z2
          have hw' : (wipeE ρ1 vs1)[i]? = some (.ow d) := g1
          rcases o3 i d (by
            have zz : ∀ (vs : List Nat) (τ : Env), (wipeE τ vs)[i]? = some (.ow d) → τ[i]? = some (.ow d) := fun vs => by
              induction vs with
              | nil => exact fun τ h => h
              | cons v vs ih =>
                intro τ h
                unfold wipeE at h
                by_cases hv : v = i
                · subst hv
                  by_cases hl : v < (wipeE τ vs).length
                  · rw [List.getElem?_set_self hl] at h
                    cases h
                  · rw [List.getElem?_eq_none (by rw [List.length_set]; omega)] at h
                    cases h
                · rw [List.getElem?_set_ne hv] at h
                  exact ih τ h
            exact zz vs1 ρ1 hw') with ⟨y1, y2⟩
          have y3 : σ3[i]? = some (some (.ref a)) := by
            have zz : ∀ (vs : List Nat) (τ : L2.St), (wipe τ vs)[i]? = some (some (.ref a)) → τ[i]? = some (some (.ref a)) := fun vs => by
              induction vs with
              | nil => exact fun τ h => h
              | cons v vs ih =>
                intro τ h
                unfold L2.wipe at h
                by_cases hv : v = i
                · subst hv
                  by_cases hl : v < (wipe τ vs).length
                  · rw [List.getElem?_set_self hl] at h
                    cases h
                  · rw [List.getElem?_eq_none (by rw [List.length_set]; omega)] at h
                    cases h
                · rw [List.getElem?_set_ne hv] at h
                  exact ih τ h
            exact zz vs1 σ3 g2
          rw [y2] at y3
          exact hne i d a y1 y3 rfl
        refine ⟨fun j m H' => j ≤ es.length ∧ m = es.length - j ∧ ∃ F' acc' accD' rest', EnvOk K (wipeE ρ1 vs1) (wipe σ3 vs1) F' H' ∧ EnvOk K (wipeE ρ vs) (wipe σ vs) F' H' ∧ Ext F1 H1 F' H' ∧ Sub F4 F' ∧ F' q = none ∧ H' q = some (.lst acc') ∧ RpL K F' accD' acc' ∧
          lcL g1 ft1 fe (wipeE ρ1 vs1) (es.drop j) = some rest' ∧ accD' ++ (rest' ++ ys) = out,
          ⟨_, Nat.zero_le _, rfl, F4, acc, accD, xs, (e33.ext x4).wipe vs1, (e'.ext x24), x'.trans x24, Sub.refl _, x4.new q (by rw [hq3]; exact fun z => nomatch z) hF3, x4.h _ _ hq3, rl.mono x24.f, by rw [List.drop_zero]; exact j5, ho⟩, ?_⟩
        rintro j m H5 ⟨hle1, rfl, F5, acc5, accD5, rest5, e5, e5', x5, sF5, hF5, hq5, rl5, hr5, ho5⟩
        obtain ⟨u1, u2⟩ := u j F5 H5 sF5 x5.le
        by_cases hj : j < es.length
        · have hd5 : es.drop j = es[j] :: es.drop (j + 1) := List.drop_eq_getElem_cons hj
          rw [hd5] at hr5
          simp only [lcL, Option.bind_eq_some_iff] at hr5
          obtain ⟨ρ2, k1, b, k2, k3⟩ := hr5
          obtain ⟨u3, u4⟩ := u1 es[j] (List.getElem?_eq_getElem hj)
          refine .inr ⟨u3, fun H' => ∃ F' acc' accD' rest', EnvOk K (wipeE ρ1 vs1) (wipe σ3 vs1) F' H' ∧ EnvOk K (wipeE ρ vs) (wipe σ vs) F' H' ∧ Ext F1 H1 F' H' ∧ Sub F4 F' ∧ F' q = none ∧ H' q = some (.lst acc') ∧ RpL K F' accD' acc' ∧
            lcL g1 ft1 fe (wipeE ρ1 vs1) (es.drop (j + 1)) = some rest' ∧ accD' ++ (rest' ++ ys) = out, fun H2 hN => ⟨_, by omega, hj, rfl, hN⟩, fun x H6 hy => ?_⟩
          obtain ⟨F6, x6, r6⟩ := u4 x H6 hy
          refine ⟨_, F6, es[j], ρ2, e5.ext x6, r6, k1, fun σ7 e7 sb7 o7 => ⟨?_, ?_⟩⟩
          · refine wipe_twice σ3 σ7 _ (by rw [sb7.len, wipe_length]) fun j hj => sb7.at_ j fun z => hj (hw1 j z)
          refine ⟨ρ2, F6, b, e7, k2, fun F7 H7 x7 => ?_⟩
          have x67 := x6.trans x7
          cases b with
          | false =>
            exact ⟨F7, acc5, accD5, rest5, e5.ext x67, e5'.ext x67, x5.trans x67, sF5.trans x67.f, x67.new q (by rw [hq5]; exact fun z => nomatch z) hF5, x67.h _ _ hq5, rl5.mono x67.f, k3, ho5⟩
          | true =>
            simp only [if_true, Option.bind_eq_some_iff, Option.some.injEq] at k3
            obtain ⟨y, k4, rest', k5, rfl⟩ := k3
            refine ⟨ρ2, F7, y, e7.ext x7, k4, fun v F8 H8 x8 r8 => ?_⟩
            have x68 := x67.trans x8
            have hF8 : F8 q = none := x68.new q (by rw [hq5]; exact fun z => nomatch z) hF5
            have hH8 : H8 q = some (.lst acc5) := x68.h _ _ hq5
            refine ⟨acc5, hH8, ?_, F8, acc5 ++ [v], accD5 ++ [y], rest', (e5.ext x68).upd hF8 hne3, (e5'.ext x68).upd hF8 hne, .mut (x5.trans x68) hq hF8, sF5.trans x68.f, hF8, upd_same, (rl5.mono x68.f).append (.one r8), k5, by rw [List.append_assoc]; exact ho5⟩
            rw [rl5.length]
            refine line_lt ?_
            have := congrArg List.length ho5
            rw [List.length_append, List.length_append, List.length_cons] at this
            omega
        · have hd5 : es.drop j = [] := List.drop_eq_nil_of_le (by omega)
          rw [hd5] at hr5
          cases hr5
          exact .inl ⟨u2 (by omega), F5, acc5, accD5, ys, e5', x5, hF5, hq5, rl5, j6, by simpa using ho5⟩
    · have hd : ds.drop i = [] := List.drop_eq_nil_of_le (by omega)
      rw [hd] at hr
      cases hr
      rw [List.append_nil] at ho
      subst ho
      exact .inl ⟨w2 (by omega), k q _ F' H' (x1.trans x') hF' (x1.h.free hq) hq' (.lst rl)⟩
  · cases h3
end
/-- a block's judgements -/
abbrev InBlk (X : Cx) (scope : Scope) (P : Cx → Prop) : Prop := ∀ (s : Shared) (H : Hp) (C : Addr) (cl : List (Str × Addr)) (fp : List Addr), P (X.blk s H scope (compEnvC scope cl C X.env) fp)
section
variable {elt tg iter tg1 iter1 : Expr} {ifs ifs1 : List Expr} {scope : Scope} {own : List (Str × Nat)} {pos spos : Pos} {ws ws1 vs1 : List Nat} {fi fi1 : DenI} {g g1 : DenG} {ft ft1 : DenB} {fe : Den}
theorem en_lc (hc : X.calm = true) (hN : X.N.Nodup) (hi : EI X tg iter fi) (ok : BlkOk X.N X.env.scope scope own)
    (hg : InBlk X scope fun Y => EG Y tg ws g) (ht : InBlk X scope fun Y => ETs Y ifs ft)
    (he : InBlk X scope fun Y => EX Y elt fe) (hs : ∀ x, foldedSetIterable iter X.env x = pure x) (hw : ∀ j ∈ ws, j ∈ own.map (·.2)) :
    EN X (.ListComp elt [⟨tg, iter, ifs, 0⟩] scope pos) (dLc fi g ft fe (own.map (·.2))) :=
  mkN (pe_lc (te := tX X.K fe) (tt := tTst X.K ft) (g := tGt X.K ws g) hc hN hi.pi ok (fun s H C cl fp => (hg s H C cl fp).pg) (fun s H C cl fp => (ht s H C cl fp).pts) (fun s H C cl fp => (he s H C cl fp).pe) hs) fun σ H Q ρ F d e h k => lc_t e.wiOk hw e h k
theorem en_lc2 (hc : X.calm = true) (hN : X.N.Nodup) (hi : EI X tg iter fi) (ok : BlkOk X.N X.env.scope scope own) (hv : ∀ i ∈ vs1, i ∈ own.map (·.2))
    (hg : InBlk X scope fun Y => EG Y tg ws g) (ht : InBlk X scope fun Y => ETs Y ifs ft) (hi1 : InBlk X scope fun Y => EI Y tg1 iter1 fi1) (hg1 : InBlk X scope fun Y => EG Y tg1 ws1 g1) (ht1 : InBlk X scope fun Y => ETs Y ifs1 ft1)
    (he : InBlk X scope fun Y => EX Y elt fe) (hs : ∀ x, foldedSetIterable iter X.env x = pure x) (hs1 : ∀ env x, foldedSetIterable iter1 env x = pure x) (hw : ∀ j ∈ ws, j ∈ own.map (·.2)) (hw1 : ∀ j ∈ ws1, j ∈ vs1) :
    EN X (.ListComp elt [⟨tg, iter, ifs, 0⟩, ⟨tg1, iter1, ifs1, 0⟩] scope pos) (dLc2 fi g ft fi1 g1 ft1 fe (own.map (·.2)) vs1) :=
  mkN (pe_lc2 (te := tX X.K fe) (tt := tTst X.K ft) (g := tGt X.K ws g) (wi1 := tI X.K fi1) (tt1 := tTst X.K ft1) (g1 := tGt X.K ws1 g1) hc hN hi.pi ok hv (fun s H C cl fp => (hg s H C cl fp).pg) (fun s H C cl fp => (ht s H C cl fp).pts)
    (fun s H C cl fp => (hi1 s H C cl fp).pi) (fun s H C cl fp => (hg1 s H C cl fp).pg) (fun s H C cl fp => (ht1 s H C cl fp).pts) (fun s H C cl fp => (he s H C cl fp).pe) hs hs1) fun σ H Q ρ F d e h k => lc2_t e.wiOk hw hw1 e h k
/-- y = [e for ..] on one line -/
def setNew (i : Nat) (b : Bool) (d : D) (ρ : Env) : Env := ρ.set i (if b then .ow d else .fz d)
def sLcSet (i : Nat) (own : Bool) (f : Den) : DenS := fun ρ => (f ρ).bind fun d => some (.nx (setNew i own d ρ))
theorem frzNew {a : Addr} {o : HO} {d : D} (x : Ext F H F' H') (ha : F' a = none) (hn : H a = none) (ho : H' a = some o) (r : OwnRep K F' d o) : ∃ F2, Ext F H F2 H' ∧ Rp K F2 d (.ref a) := by
  have x' : Ext F H (upd F' a o) H' := ⟨x.f.trans (Sub.new ha), x.h, fun b u eb => by
      by_cases hb : b = a
      · subst hb; rw [upd_same] at eb; cases eb; exact ho
      · rw [upd_ne hb] at eb; exact x.le b u eb,
    fun b h1 h2 => by
      rw [upd_ne (fun z => h1 (by rw [z]; exact hn))]
      exact x.new b h1 h2⟩
  have s : Sub F' (upd F' a o) := Sub.new ha
  refine ⟨_, x', ?_⟩
  cases r with
  | lst t => exact .lst upd_same (t.mono s)
  | dK t => exact .dK (.inl upd_same) (t.mono s)
  | dT t => exact .dT (.inl upd_same) (t.mono s)
theorem sx_setLc (i : Nat) (b : Bool) {y : Str} {py : Pos} (hc : X.calm = true) (hN : X.N.Nodup) (hy : X.N[i]? = some y) (hyl : X.env.scope.names.lookup y = some .local)
    (hsw : swapsWith (.ListComp elt [⟨tg, iter, ifs, 0⟩] scope pos) (some (.Name y py)) spos.line X.env = pure true) (hi : EI X tg iter fi) (ok : BlkOk X.N X.env.scope scope own)
    (hg : InBlk X scope fun Y => EG Y tg ws g) (ht : InBlk X scope fun Y => ETs Y ifs ft) (he : InBlk X scope fun Y => EX Y elt fe) (hs : ∀ x, foldedSetIterable iter X.env x = pure x) (hw : ∀ j ∈ ws, j ∈ own.map (·.2)) :
    SX X (.Assign [.Name y py] (.ListComp elt [⟨tg, iter, ifs, 0⟩] scope pos) spos) (sLcSet i b (dLc fi g ft fe (own.map (·.2)))) :=
  sx_mk (ps_setLc (te := tX X.K fe) (tt := tTst X.K ft) (g := tGt X.K ws g) hc hN hy hyl hsw hi.pi ok (fun s H C cl fp => (hg s H C cl fp).pg) (fun s H C cl fp => (ht s H C cl fp).pts) (fun s H C cl fp => (he s H C cl fp).pe) hs) fun D σ H F0 H0 ρ F o e h k => by
    simp only [sLcSet, Option.bind_eq_some_iff, Option.some.injEq] at h
    obtain ⟨d, h1, rfl⟩ := h
    refine lc_t (Q := fun x H1 => gName i x σ H1 D.nx) e.env.wiOk hw e.env h1 fun a ob F' H' x h2 h3 h4 h5 => ?_
    cases b with
    | true => exact k _ F' H' (e.setOwn x h3 h2 h4 h5)
    | false =>
      obtain ⟨F2, x2, r2⟩ := frzNew x h2 h3 h4 h5
      exact k _ F2 H' ((e.to x2).set r2)
theorem sx_setLc2 (i : Nat) (b : Bool) {y : Str} {py : Pos} (hc : X.calm = true) (hN : X.N.Nodup) (hy : X.N[i]? = some y) (hyl : X.env.scope.names.lookup y = some .local)
    (hsw : swapsWith (.ListComp elt [⟨tg, iter, ifs, 0⟩, ⟨tg1, iter1, ifs1, 0⟩] scope pos) (some (.Name y py)) spos.line X.env = pure true) (hi : EI X tg iter fi) (ok : BlkOk X.N X.env.scope scope own) (hv : ∀ i ∈ vs1, i ∈ own.map (·.2))
    (hg : InBlk X scope fun Y => EG Y tg ws g) (ht : InBlk X scope fun Y => ETs Y ifs ft) (hi1 : InBlk X scope fun Y => EI Y tg1 iter1 fi1) (hg1 : InBlk X scope fun Y => EG Y tg1 ws1 g1) (ht1 : InBlk X scope fun Y => ETs Y ifs1 ft1)
    (he : InBlk X scope fun Y => EX Y elt fe) (hs : ∀ x, foldedSetIterable iter X.env x = pure x) (hs1 : ∀ env x, foldedSetIterable iter1 env x = pure x) (hw : ∀ j ∈ ws, j ∈ own.map (·.2)) (hw1 : ∀ j ∈ ws1, j ∈ vs1) :
    SX X (.Assign [.Name y py] (.ListComp elt [⟨tg, iter, ifs, 0⟩, ⟨tg1, iter1, ifs1, 0⟩] scope pos) spos) (sLcSet i b (dLc2 fi g ft fi1 g1 ft1 fe (own.map (·.2)) vs1)) :=
  sx_mk (ps_setLc2 (te := tX X.K fe) (tt := tTst X.K ft) (g := tGt X.K ws g) (wi1 := tI X.K fi1) (tt1 := tTst X.K ft1) (g1 := tGt X.K ws1 g1) hc hN hy hyl hsw hi.pi ok hv (fun s H C cl fp => (hg s H C cl fp).pg) (fun s H C cl fp => (ht s H C cl fp).pts)
    (fun s H C cl fp => (hi1 s H C cl fp).pi) (fun s H C cl fp => (hg1 s H C cl fp).pg) (fun s H C cl fp => (ht1 s H C cl fp).pts) (fun s H C cl fp => (he s H C cl fp).pe) hs hs1) fun D σ H F0 H0 ρ F o e h k => by
    simp only [sLcSet, Option.bind_eq_some_iff, Option.some.injEq] at h
    obtain ⟨d, h1, rfl⟩ := h
    refine lc2_t (Q := fun x H1 => gName i x σ H1 D.nx) e.env.wiOk hw hw1 e.env h1 fun a ob F' H' x h2 h3 h4 h5 => ?_
    cases b with
    | true => exact k _ F' H' (e.setOwn x h3 h2 h4 h5)
    | false =>
      obtain ⟨F2, x2, r2⟩ := frzNew x h2 h3 h4 h5
      exact k _ F2 H' ((e.to x2).set r2)
end
end
end Zx
/-! Zx9: calls, defs. -/
namespace Zx
open PySem PySem.Spec L2
def spX (K : PySem.W.Frag) (n : Nat) (fn : List D → Option D) : Sp := fun vs H Q _ => ∃ F ds d, Sub F H ∧ RpL K F ds vs ∧ ds.length = n ∧ fn ds = some d ∧ ∀ v F' H', Ext F H F' H' → Rp K F' d v → Q v H'
def spN (K : PySem.W.Frag) (n : Nat) (fn : List D → Option D) : Sp := fun vs H Q _ => ∃ F ds d, Sub F H ∧ RpL K F ds vs ∧ ds.length = n ∧ fn ds = some d ∧ ∀ a o F' H', Ext F H F' H' → F' a = none → H a = none → H' a = some o → OwnRep K F' d o → Q (.ref a) H'
/-- the def of the module's name x, n parameters, hands back what fn says -/
structure FX (P : Program) (w : World) (K : PySem.W.Frag) (mg : Str → Option Value) (base : Heap) (k : Nat) (x : Str) (n : Nat) (fn : List D → Option D) : Prop where
  ex : ∃ (f : Addr) (fd : FuncData) (ps : List Str), FnOk P w K mg base CX0 k f fd ps (spX K n fn) ∧ mg x = some (.ref f) ∧ PySem.W.keepIn K (.ref f) = true ∧ Binds K fd ps []
/-- .. a new list or dict -/
structure FN (P : Program) (w : World) (K : PySem.W.Frag) (mg : Str → Option Value) (base : Heap) (k : Nat) (x : Str) (n : Nat) (fn : List D → Option D) : Prop where
  ex : ∃ (f : Addr) (fd : FuncData) (ps : List Str), FnOk P w K mg base CX0 k f fd ps (spN K n fn) ∧ mg x = some (.ref f) ∧ PySem.W.keepIn K (.ref f) = true ∧ Binds K fd ps []
section
variable {X : Cx} {a : Expr} {es : List Expr} {fl : DenL} {pos p : Pos} {x : Str} {k n : Nat} {fn : List D → Option D}
theorem ex_call (F : FX X.prog X.w X.K X.mg X.base k x n fn) (hr : Room k X.A) (hg : Gl X x) (hdb : (x == ("__debug__" : Str)) = false) (ha : EA X (a :: es) fl) (hn : (a :: es).length = n)
    (he : starEach (a :: es) X.env = (false, eval a X.env) :: starEach es X.env) (hpl : (backTo pos (starEach es X.env)).any (·.1) = false) (hl : ∀ ρ ds, fl ρ = some ds → ds.length = n) : EX X (.Call (.Name x p) (a :: es) [] pos) (fun ρ => (fl ρ).bind fn) := by
  obtain ⟨f, fd, ps, hF, hm, hk, hb⟩ := F.ex
  exact mkX (pe_call hF hr hg hm hk hb .nil pass0 ha.pa hdb he hpl) fun σ H Q ρ F d e h k => by
    simp only [Option.bind_eq_some_iff] at h
    obtain ⟨ds, h1, h2⟩ := h
    refine ⟨ρ, F, ds, e, h1, fun vs F1 H1 x1 r1 => ?_⟩
    show spX X.K n fn (vs ++ []) H1 Q E0
    rw [List.append_nil]
    exact ⟨F1, ds, d, x1.le, r1, hl ρ ds h1, h2, fun v F' H' x' r' => k v F' H' (x1.trans x') r'⟩
theorem en_call (F : FN X.prog X.w X.K X.mg X.base k x n fn) (hr : Room k X.A) (hg : Gl X x) (hdb : (x == ("__debug__" : Str)) = false) (ha : EA X (a :: es) fl) (hn : (a :: es).length = n)
    (he : starEach (a :: es) X.env = (false, eval a X.env) :: starEach es X.env) (hpl : (backTo pos (starEach es X.env)).any (·.1) = false) (hl : ∀ ρ ds, fl ρ = some ds → ds.length = n) : EN X (.Call (.Name x p) (a :: es) [] pos) (fun ρ => (fl ρ).bind fn) := by
  obtain ⟨f, fd, ps, hF, hm, hk, hb⟩ := F.ex
  exact mkN (pe_call hF hr hg hm hk hb .nil pass0 ha.pa hdb he hpl) fun σ H Q ρ F d e h k => by
    simp only [Option.bind_eq_some_iff] at h
    obtain ⟨ds, h1, h2⟩ := h
    refine ⟨ρ, F, ds, e, h1, fun vs F1 H1 x1 r1 => ?_⟩
    show spN X.K n fn (vs ++ []) H1 Q E0
    rw [List.append_nil]
    exact ⟨F1, ds, d, x1.le, r1, hl ρ ds h1, h2, fun a o F' H' x' g1 g2 g3 g4 => k a o F' H' (x1.trans x') g1 (x1.h.free g2) g3 g4⟩
end
/-! ### defs -/
def env0 (n : Nat) (ds : List D) : Env := ds.map .fz ++ List.replicate (n - ds.length) .no
def runX (fb : DenS) (n : Nat) (ds : List D) : Option D := match fb (env0 n ds) with
  | some (.rt d) => some d
  | some (.rn d) => some d
  | some (.nx _) => some .none
  | _ => none
def runN (fb : DenS) (n : Nat) (ds : List D) : Option D := match fb (env0 n ds) with
  | some (.rn d) => some d
  | _ => none
theorem env0_ok {K : PySem.W.Frag} {F H : Hp} {N : List Str} {ds : List D} {vs : List V} (s : Sub F H) (r : RpL K F ds vs) : EnvOk K (env0 N.length ds) (L2.start N vs) F H := by
  have hl : vs.length = ds.length := r.length
  have ow : ∀ {i : Nat} {d : D}, (env0 N.length ds)[i]? = some (.ow d) → False := fun {i d} h => by
    unfold env0 at h
    rw [List.getElem?_append] at h
    split at h
    · rw [List.getElem?_map, Option.map_eq_some_iff] at h
      obtain ⟨_, _, h⟩ := h
      cases h
    · rw [List.getElem?_replicate] at h
      split at h <;> cases h
  refine ⟨s, by unfold env0 L2.start; simp [hl], fun i sl h => ?_, fun i j d e a h1 => (ow h1).elim⟩
  unfold env0 at h
  rw [List.getElem?_append] at h
  unfold L2.start
  split at h
  · rename_i hi
    rw [List.length_map] at hi
    rw [List.getElem?_map, Option.map_eq_some_iff] at h
    obtain ⟨d, hd, rfl⟩ := h
    obtain ⟨v, hv, rv⟩ := r.get hd
    refine ⟨some v, ?_, v, rfl, rv⟩
    rw [List.getElem?_append_left (by rw [List.length_map]; omega), List.getElem?_map, hv]
    rfl
  · rename_i hi
    rw [List.length_map] at hi h
    rw [List.getElem?_replicate] at h
    split at h
    · rename_i hj
      cases h
      refine ⟨none, ?_, trivial⟩
      rw [List.getElem?_append_right (by rw [List.length_map]; omega), List.length_map, List.getElem?_replicate, if_pos (by omega)]
    · cases h
theorem env0_ow {n : Nat} {ds : List D} {i : Nat} {d : D} (h : (env0 n ds)[i]? = some (.ow d)) : False := by
  unfold env0 at h
  rw [List.getElem?_append] at h
  split at h
  · rw [List.getElem?_map, Option.map_eq_some_iff] at h
    obtain ⟨_, _, h⟩ := h
    cases h
  · rw [List.getElem?_replicate] at h
    split at h <;> cases h
/-- a def's body read -/
structure Bd (P : Program) (w : World) (K : PySem.W.Frag) (mg : Str → Option Value) (base : Heap) (k : Nat) (N : List Str) (x : Str) (body : List Stmt) (scope : Scope) (f : Addr) (fb : DenS) : Prop where
  h : ∀ (cdv : Value) (A : Around) (outer : List PySem.Env) (s : Shared) (H : Hp) (E : XK), Room k (A.deeper (PyProof.Rows.envOfC x scope s.heap.objs.size f cdv)) → SXs (cxOf CX0 P w K mg base N x scope f cdv A outer s H E).nox body fb
section
variable {P : Program} {w : World} {K : PySem.W.Frag} {mg : Str → Option Value} {base : Heap} {k : Nat} {N ps : List Str} {x : Str} {params : Arguments} {body : List Stmt} {scope : Scope} {f : Addr} {fd : FuncData} {fb : DenS} {n : Nat}
theorem fo_of (F : FunD K x x params body scope [] [] f fd) (S : FnScope N ps scope) 
    (hb : ∀ (kV doc pm : Value) (an : Option Addr) (cdv ct : Value) (us : List Value), us.length = ps.length → bindArgs (PySem.W.fnOf x x params body scope .none kV doc pm an cdv ct) ⟨us, []⟩ = pure (ps.zip us))
    (hn : ps.length = n) (B : Bd P w K mg base k N x body scope f fb) : FnOk P w K mg base CX0 (k + 1) f fd ps (spX K n (runX fb N.length)) := by
  refine FunD.ok F S (fun vs H Q E h => ?_) fun cdv A outer s H vs Q E hr h => ⟨tSt K fb, (B.h cdv A outer s H E hr).pss.nox, ?_⟩
  · obtain ⟨F1, ds, d, _, r, hl, _⟩ := h
    rw [r.length, hl, hn]
  · obtain ⟨F1, ds, d, s1, r, hl, hd, k⟩ := h
    unfold runX at hd
    refine ⟨F1, H, env0 N.length ds, F1, ?_⟩
    have e : EnvS K F1 H (env0 N.length ds) (L2.start N vs) F1 H := ⟨env0_ok s1 r, .refl s1, fun i d a h1 => (env0_ow h1).elim⟩
    split at hd
    · rename_i d' hf
      cases hd
      exact ⟨_, e, hf, fun v F' H' x' r' => k v F' H' x' r'⟩
    · rename_i d' hf
      cases hd
      refine ⟨_, e, hf, fun a o F' H' x' g1 g2 g3 g4 => ?_⟩
      refine k (.ref a) (upd F' a o) H' ⟨x'.f.trans (Sub.new g1), x'.h, fun b u hb => ?_, fun b h1 h2 => ?_⟩ ?_
      · by_cases hba : b = a
        · subst hba; rw [upd_same] at hb; cases hb; exact g3
        · rw [upd_ne hba] at hb; exact x'.le b u hb
      · rw [upd_ne (fun z => h1 (by rw [z]; exact g2))]
        exact x'.new b h1 h2
      · have sF : Sub F' (upd F' a o) := Sub.new g1
        cases g4 with
        | lst t => exact .lst upd_same (t.mono sF)
        | dK t => exact .dK (.inl upd_same) (t.mono sF)
        | dT t => exact .dT (.inl upd_same) (t.mono sF)
    · rename_i ρ' hf
      cases hd
      exact ⟨_, e, hf, fun σ' F' H' e' => k .non F' H' e'.ext .non⟩
    · cases hd
theorem fx_of (F : FunD K x x params body scope [] [] f fd) (S : FnScope N ps scope) (hm : mg x = some (.ref f))
    (hb : ∀ (kV doc pm : Value) (an : Option Addr) (cdv ct : Value) (us : List Value), us.length = ps.length → bindArgs (PySem.W.fnOf x x params body scope .none kV doc pm an cdv ct) ⟨us, []⟩ = pure (ps.zip us))
    (hn : ps.length = n) (B : Bd P w K mg base k N x body scope f fb) : FX P w K mg base (k + 1) x n (runX fb N.length) := ⟨f, fd, ps, fo_of F S hb hn B, hm, F.kp, F.bindsN hb⟩
theorem fn_of' (F : FunD K x x params body scope [] [] f fd) (S : FnScope N ps scope) (hm : mg x = some (.ref f))
    (hb : ∀ (kV doc pm : Value) (an : Option Addr) (cdv ct : Value) (us : List Value), us.length = ps.length → bindArgs (PySem.W.fnOf x x params body scope .none kV doc pm an cdv ct) ⟨us, []⟩ = pure (ps.zip us))
    (hn : ps.length = n) (B : Bd P w K mg base k N x body scope f fb) : FN P w K mg base (k + 1) x n (runN fb N.length) := by
  refine ⟨f, fd, ps, FunD.ok F S (fun vs H Q E h => ?_) fun cdv A outer s H vs Q E hr h => ⟨tSt K fb, (B.h cdv A outer s H E hr).pss.nox, ?_⟩, hm, F.kp, F.bindsN hb⟩
  · obtain ⟨F1, ds, d, _, r, hl, _⟩ := h
    rw [r.length, hl, hn]
  · obtain ⟨F1, ds, d, s1, r, hl, hd, k⟩ := h
    unfold runN at hd
    refine ⟨F1, H, env0 N.length ds, F1, ?_⟩
    have e : EnvS K F1 H (env0 N.length ds) (L2.start N vs) F1 H := ⟨env0_ok s1 r, .refl s1, fun i d a h1 => (env0_ow h1).elim⟩
    split at hd
    · rename_i d' hf
      cases hd
      exact ⟨_, e, hf, fun a o F' H' x' g1 g2 g3 g4 => k a o F' H' x' g1 g2 g3 g4⟩
    · cases hd
end
theorem len1 {f1 : Den} : ∀ ρ ds, lCons f1 lNil ρ = some ds → ds.length = 1 := fun ρ ds h => by
  simp only [lCons, lNil, Option.bind_eq_some_iff, Option.some.injEq] at h
  obtain ⟨_, _, _, rfl, rfl⟩ := h
  rfl
theorem lenS {f1 : Den} {g : DenL} {n : Nat} (hg : ∀ ρ ds, g ρ = some ds → ds.length = n) : ∀ ρ ds, lCons f1 g ρ = some ds → ds.length = n + 1 := fun ρ ds h => by
  simp only [lCons, Option.bind_eq_some_iff, Option.some.injEq] at h
  obtain ⟨_, _, xs, h2, rfl⟩ := h
  rw [List.length_cons, hg ρ xs h2]
theorem len0 : ∀ ρ ds, lNil ρ = some ds → ds.length = 0 := fun ρ ds h => by
  cases h
  rfl
theorem FX.mono {P : Program} {w : World} {K : PySem.W.Frag} {mg : Str → Option Value} {base : Heap} {j k n : Nat} {x : Str} {fn : List D → Option D} (F : FX P w K mg base j x n fn) (h : j ≤ k) : FX P w K mg base k x n fn := by
  obtain ⟨f, fd, ps, a, b⟩ := F.ex
  exact ⟨f, fd, ps, a.mono h, b⟩
theorem FN.mono {P : Program} {w : World} {K : PySem.W.Frag} {mg : Str → Option Value} {base : Heap} {j k n : Nat} {x : Str} {fn : List D → Option D} (F : FN P w K mg base j x n fn) (h : j ≤ k) : FN P w K mg base k x n fn := by
  obtain ⟨f, fd, ps, a, b⟩ := F.ex
  exact ⟨f, fd, ps, a.mono h, b⟩
/-- what is known of a def's value at the arguments one needs -/
theorem FX.imp {P : Program} {w : World} {K : PySem.W.Frag} {mg : Str → Option Value} {base : Heap} {k n : Nat} {x : Str} {fn fn' : List D → Option D} (F : FX P w K mg base k x n fn) (h : ∀ ds d, fn' ds = some d → fn ds = some d) : FX P w K mg base k x n fn' := by
  obtain ⟨f, fd, ps, a, b⟩ := F.ex
  exact ⟨f, fd, ps, a.imp fun vs H Q E ⟨F1, ds, d, s, r, hl, hd, k⟩ => ⟨F1, ds, d, s, r, hl, h ds d hd, k⟩, b⟩
theorem Room.u1 {k : Nat} {A : Around} (r : Room k A) : A.units + 1 < cLine := by have := r.un; omega
theorem Room.u64 {k : Nat} {A : Around} (r : Room k A) : A.units + 64 < cLine := by have := r.un; omega
theorem Room.u65 {k : Nat} {A : Around} (r : Room k A) : A.units + 65 < cLine := by have := r.un; omega
end Zx
/-! Zx10: sorted, min, max of lists; list.index. -/
namespace Zx
open PySem PySem.Spec L2 PySem.W
/-- the sort's order -/
def leS (a b : D) : Bool := !dataLt b a
def isTup1 : D → Bool
  | .tuple (_ :: _) => true
  | _ => false
def noTup : D → Bool
  | .tuple _ => false
  | .none => false
  | _ => true
def srtOk (ds : List D) : Bool := (ds.all fun x => ds.all fun y => alike x y) && (ds.all isTup1 || ds.all noTup) && ds.all SeqAt.shaped && decide (ds.length ≤ 1000000)
theorem srt_parts {ds : List D} (h : srtOk ds = true) : AllAlike ds ∧ Sortable ds ∧ (∀ d ∈ ds, SeqAt.shaped d = true) ∧ ds.length ≤ 1000000 := by
  unfold srtOk at h
  rw [Bool.and_eq_true, Bool.and_eq_true, Bool.and_eq_true, Bool.or_eq_true] at h
  obtain ⟨⟨⟨h1, h2⟩, h3⟩, h4⟩ := h
  refine ⟨fun d hd d' hd' => ?_, ?_, fun d hd => List.all_eq_true.mp h3 d hd, of_decide_eq_true h4⟩
  · exact List.all_eq_true.mp (List.all_eq_true.mp h1 d hd) d' hd'
  · rcases h2 with h2 | h2
    · refine .inl fun d hd => ?_
      have := List.all_eq_true.mp h2 d hd
      unfold isTup1 at this
      split at this
      · exact ⟨_, _, rfl⟩
      · cases this
    · refine .inr fun d hd => ?_
      have := List.all_eq_true.mp h2 d hd
      refine ⟨?_, fun xs => ?_⟩ <;> rintro rfl <;> cases this
/-- data, its value in the layer, its value -/
abbrev Tri := D × V × Value
inductive Tris (K : PySem.W.Frag) (F : Hp) : List Tri → List D → List V → List Value → Prop
  | nil : Tris K F [] [] [] []
  | cons {d : D} {x : V} {u : Value} {ts : List Tri} {ds : List D} {xs : List V} {us : List Value} : Rp K F d x → RelV x u → Tris K F ts ds xs us → Tris K F ((d, x, u) :: ts) (d :: ds) (x :: xs) (u :: us)
theorem tris_of {K : PySem.W.Frag} {F : Hp} : ∀ {ds : List D} {xs : List V} {us : List Value}, RpL K F ds xs → Vals xs us → ∃ ts, Tris K F ts ds xs us
  | _, _, _, .nil, .nil => ⟨_, .nil⟩
  | _, _, _, .cons a b, .cons c e => by
    obtain ⟨ts, h⟩ := tris_of b e
    exact ⟨_, .cons a c h⟩
theorem Tris.maps {K : PySem.W.Frag} {F : Hp} : ∀ {ts : List Tri} {ds : List D} {xs : List V} {us : List Value}, Tris K F ts ds xs us → ts.map (·.1) = ds ∧ ts.map (·.2.1) = xs ∧ ts.map (·.2.2) = us ∧ ∀ t ∈ ts, Rp K F t.1 t.2.1 ∧ RelV t.2.1 t.2.2
  | _, _, _, _, .nil => ⟨rfl, rfl, rfl, fun _ h => by cases h⟩
  | _, _, _, _, .cons a b c => by
    obtain ⟨h1, h2, h3, h4⟩ := c.maps
    refine ⟨by rw [List.map_cons, h1], by rw [List.map_cons, h2], by rw [List.map_cons, h3], fun t ht => ?_⟩
    rcases List.mem_cons.mp ht with rfl | ht
    · exact ⟨a, b⟩
    · exact h4 t ht
theorem rpl_map {K : PySem.W.Frag} {F : Hp} : ∀ {ts : List Tri}, (∀ t ∈ ts, Rp K F t.1 t.2.1 ∧ RelV t.2.1 t.2.2) → RpL K F (ts.map (·.1)) (ts.map (·.2.1)) ∧ Vals (ts.map (·.2.1)) (ts.map (·.2.2))
  | [], _ => ⟨.nil, .nil⟩
  | t :: ts, h => by
    obtain ⟨a, b⟩ := rpl_map (ts := ts) fun t ht => h t (List.mem_cons_of_mem _ ht)
    obtain ⟨c, d⟩ := h t List.mem_cons_self
    exact ⟨.cons c a, .cons d b⟩
theorem each_fn {α β : Type} {f : β → α} : ∀ {as : List α} {bs : List β}, EachIs (fun a b => a = f b) as bs → as = bs.map f
  | _, _, .nil => rfl
  | _, _, .cons r t => by rw [List.map_cons, ← r, ← each_fn t]
theorem fn_each {α β : Type} {f : β → α} : ∀ {bs : List β}, EachIs (fun a b => a = f b) (bs.map f) bs
  | [] => .nil
  | b :: bs => .cons rfl fn_each
theorem each_mapR {α β : Type} {R : α → β → Prop} {f : β → α} : ∀ {bs : List β}, (∀ b ∈ bs, R (f b) b) → EachIs R (bs.map f) bs
  | [], _ => .nil
  | b :: bs, h => .cons (h b List.mem_cons_self) (each_mapR fun b hb => h b (List.mem_cons_of_mem _ hb))
theorem tri_sort (ts : List Tri) : (ts.mergeSort (dataLe false fun t : Tri => t.1)).map (·.1) = (ts.map (·.1)).mergeSort leS :=
  List.map_mergeSort fun a _ b _ => by
    rw [dataLe_eq]
    rfl
def rSortedD (K : PySem.W.Frag) : List V → Hp → VK → Prop := fun vs H Q => ∃ (a : Addr) (F : Hp) (ds : List D) (xs : List V), vs = [V.ref a] ∧ H a = some (.lst xs) ∧ RpL K F ds xs ∧ Sub F H ∧ srtOk ds = true ∧
  ∀ p ys, H p = none → RpL K F (ds.mergeSort leS) ys → Q (.ref p) (upd H p (.lst ys))
section
variable {X : Cx} {a b : Expr} {f g : Den} {p pos : Pos}
theorem cr_sortedD (hu : X.A.units + 68 < cLine) : CallR X (.builtin "sorted") (rSortedD X.K) := by
  intro pins s σ H vs us Q I r h
  obtain ⟨l, F, ds, xs, rfl, hs, rp, sb, ok, q⟩ := h
  obtain ⟨its, rv, hl, hz⟩ := I.list (.inl (.inl hs))
  rw [Vals.ref1 r]
  obtain ⟨h1, h2, h3, h4⟩ := srt_parts ok
  obtain ⟨ts, ht⟩ := tris_of rp rv
  obtain ⟨m1, m2, m3, m4⟩ := ht.maps
  subst m3
  have hreads : ∀ t ∈ ts, ∃ as, Reads s.heap t.2.2 t.1 as := fun t ht => by
    have hd : t.1 ∈ ds := by rw [← m1]; exact List.mem_map_of_mem ht
    exact Dp.reads I t.1 t.2.1 t.2.2 ((m4 t ht).1.dp sb t.1 t.2.1 (plain_of_shaped (h3 t.1 hd))) (m4 t ht).2
  refine sorted_data (β := Tri) (enc := fun t => t.1) (R := fun v t => v = t.2.2) (bs := ts) hl.isList fn_each (each_mapR hreads) (by rw [m1]; exact h1) (by rw [m1]; exact h2) ?_ (fun t ht => ?_) fun out hlo he => ?_
  · have : ts.length = ds.length := by rw [← m1, List.length_map]
    have := line_of (n := ts.length) (by omega)
    exact this
  · have hd : t.1 ∈ ds := by rw [← m1]; exact List.mem_map_of_mem ht
    have := SeqAt.depth_of_shaped (h3 _ hd)
    omega
  · obtain ⟨ep, he'⟩ := PyProof.Rows.sortedAll_at s.heap (ts.map (·.2.2)) out.toArray
    have e2 := each_fn he
    have hm : ∀ t ∈ ts.mergeSort (dataLe false fun t : Tri => t.1), Rp X.K F t.1 t.2.1 ∧ RelV t.2.1 t.2.2 := fun t ht => m4 t ((List.mergeSort_perm ts _).mem_iff.mp ht)
    obtain ⟨r1, r2⟩ := rpl_map hm
    rw [tri_sort, m1] at r1
    rw [← e2] at r2
    refine ⟨.ref _, upd H (s.heap.objs.size + 1) (.lst ((ts.mergeSort (dataLe false fun t : Tri => t.1)).map (·.2.1))), I.laid (t' := s.toks) (fun _ _ => PyProof.Rows.sortedAll_old) (Nat.le_succ _) ⟨?_, out, ep, r2, he'⟩, rfl, q _ _ (I.hok.fresh (Nat.le_succ _)) r1⟩
    rw [List.length_map, List.length_mergeSort]
    have : ts.length = ds.length := by rw [← m1, List.length_map]
    exact line_of (by omega)
def sortD : D → Option D | .list ds => if srtOk ds then some (.list (ds.mergeSort leS)) else none | _ => none
theorem en_sorted (hu : X.A.units + 68 < cLine) (hg : Gl X "sorted") (hm : X.mg "sorted" = none) (ha : EB X a f) (hs : N1 X a) : EN X (.Call (.Name "sorted" p) [a] [] pos) (d1 sortD f) :=
  en_c1 (pe_callB (cr_sortedD hu) hg hm rfl (pa_cons ha.pe pa_nil hs) (by decide) (by decide) hs rfl) fun x u d F H Q e s ru k => by
    unfold sortD at e
    split at e
    · split at e
      · rename_i ds ok
        cases e
        obtain ⟨q, xs, rfl, hq, rq⟩ := ru.list s
        exact ⟨q, F, ds, xs, rfl, hq, rq, s, ok, fun p' ys hp r' => k p' _ hp (.lst r')⟩
      · cases e
    · cases e
/-! ### min, max of a list of ints -/
def minL : List Int → Option Int
  | [] => none
  | i :: is => some (is.foldl min i)
def maxL : List Int → Option Int
  | [] => none
  | i :: is => some (is.foldl max i)
theorem foldl_min : ∀ (l : List Int) (i m : Int), (m = i ∨ m ∈ l) → m ≤ i → (∀ x ∈ l, m ≤ x) → l.foldl min i = m
  | [], i, m, h, _, _ => by
    rcases h with h | h
    · exact h.symm
    · cases h
  | x :: l, i, m, h, h1, h2 => by
    rw [List.foldl_cons]
    have hx := h2 x List.mem_cons_self
    refine foldl_min l _ m ?_ (by omega) fun y hy => h2 y (List.mem_cons_of_mem _ hy)
    rcases h with h | h
    · left; omega
    · rcases List.mem_cons.mp h with h | h
      · left; omega
      · exact .inr h
theorem foldl_max : ∀ (l : List Int) (i m : Int), (m = i ∨ m ∈ l) → i ≤ m → (∀ x ∈ l, x ≤ m) → l.foldl max i = m
  | [], i, m, h, _, _ => by
    rcases h with h | h
    · exact h.symm
    · cases h
  | x :: l, i, m, h, h1, h2 => by
    rw [List.foldl_cons]
    have hx := h2 x List.mem_cons_self
    refine foldl_max l _ m ?_ (by omega) fun y hy => h2 y (List.mem_cons_of_mem _ hy)
    rcases h with h | h
    · left; omega
    · rcases List.mem_cons.mp h with h | h
      · left; omega
      · exact .inr h
def minLD : D → Option D | .list xs => (intsOf xs).bind fun is => (minL is).bind fun m => some (.int m) | _ => none
def maxLD : D → Option D | .list xs => (intsOf xs).bind fun is => (maxL is).bind fun m => some (.int m) | _ => none
theorem ex_minL (hc : X.calm = true) (hg : Gl X "min") (hm : X.mg "min" = none) (ha : EB X a f) (hs : N1 X a) : EX X (.Call (.Name "min" p) [a] [] pos) (d1 minLD f) :=
  ex_c1 (pe_callB (cr_min hc) hg hm rfl (pa_cons ha.pe pa_nil hs) (by decide) (by decide) hs rfl) fun x u d F H Q e s ru k => by
    unfold minLD at e
    split at e
    · rename_i ds
      simp only [Option.bind_eq_some_iff, Option.some.injEq] at e
      obtain ⟨is, h1, m, h2, rfl⟩ := e
      obtain ⟨q, xs, rfl, hq, rq⟩ := ru.list s
      have e1 := intsOf_eq h1
      subst e1
      have e2 := rq.ints_inv
      subst e2
      cases is with
      | nil => cases h2
      | cons i is =>
        cases h2
        refine ⟨q, i :: is, rfl, .inl (.inl hq), Nat.succ_pos _, fun m h1 h2 => ?_⟩
        rw [foldl_min is i m (List.mem_cons.mp h1) (h2 i List.mem_cons_self) fun x hx => h2 x (List.mem_cons_of_mem _ hx)] at k
        exact k _ F H (.refl s) (.int _)
    · cases e
theorem ex_maxL (hc : X.calm = true) (hg : Gl X "max") (hm : X.mg "max" = none) (ha : EB X a f) (hs : N1 X a) : EX X (.Call (.Name "max" p) [a] [] pos) (d1 maxLD f) :=
  ex_c1 (pe_callB (cr_max hc) hg hm rfl (pa_cons ha.pe pa_nil hs) (by decide) (by decide) hs rfl) fun x u d F H Q e s ru k => by
    unfold maxLD at e
    split at e
    · rename_i ds
      simp only [Option.bind_eq_some_iff, Option.some.injEq] at e
      obtain ⟨is, h1, m, h2, rfl⟩ := e
      obtain ⟨q, xs, rfl, hq, rq⟩ := ru.list s
      have e1 := intsOf_eq h1
      subst e1
      have e2 := rq.ints_inv
      subst e2
      cases is with
      | nil => cases h2
      | cons i is =>
        cases h2
        refine ⟨q, i :: is, rfl, .inl (.inl hq), Nat.succ_pos _, fun m h1 h2 => ?_⟩
        rw [foldl_max is i m (List.mem_cons.mp h1) (h2 i List.mem_cons_self) fun x hx => h2 x (List.mem_cons_of_mem _ hx)] at k
        exact k _ F H (.refl s) (.int _)
    · cases e
/-! ### index -/
def indexL (d : D) : List D → Option Nat
  | [] => none
  | x :: xs => if PyData.eqv x d then some 0 else (indexL d xs).map (· + 1)
def indexD : D → D → Option D
  | .list xs, d => if SeqAt.shaped (.list xs) && SeqAt.shaped d then (indexL d xs).bind fun i => some (.int (i : Nat)) else none
  | _, _ => none
theorem indexL_at : ∀ {xs : List D} {d : D} {i : Nat}, indexL d xs = some i → ∃ z, xs[i]? = some z ∧ PyData.eqv z d = true ∧ ∀ m z', m < i → xs[m]? = some z' → PyData.eqv z' d = false
  | [], _, _, h => by cases h
  | x :: xs, d, i, h => by
    unfold indexL at h
    split at h
    · rename_i hx
      cases h
      exact ⟨x, rfl, hx, fun m z' hm => absurd hm (Nat.not_lt_zero _)⟩
    · rename_i hx
      rw [Option.map_eq_some_iff] at h
      obtain ⟨j, h1, rfl⟩ := h
      obtain ⟨z, h2, h3, h4⟩ := indexL_at h1
      refine ⟨z, by simpa using h2, h3, fun m z' hm hz => ?_⟩
      cases m with
      | zero =>
        simp at hz
        subst hz
        simpa using hx
      | succ m => exact h4 m z' (by omega) (by simpa using hz)
theorem ex_index {apos cpos : Pos} (hu : X.A.units + 65 < cLine) (ha : EB X a f) (hb : EX X b g) (hs : N1 X b) (hbase : attributeBase a "index" X.env (eval a X.env) = eval a X.env) (hline : (apos.endLine == cpos.line) = true) :
    EX X (.Call (.Attribute a "index" apos) [b] [] cpos) (d2 indexD f g) :=
  mkX (pe_bm PySem.F.plainAttrs_list PySem.F.slot_list_index PySem.F.type_list_index (mt_indexD hu) ha.pe (pa_cons hb.b.pe pa_nil hs) hbase (by rw [hs]; rfl) hline hs rfl) fun σ H Q ρ F d e h k => by
    simp only [d2, Option.bind_eq_some_iff] at h
    obtain ⟨x, h1, y, h2, h3⟩ := h
    unfold indexD at h3
    split at h3
    · rename_i ds
      split at h3
      · rename_i hsh
        rw [Bool.and_eq_true] at hsh
        obtain ⟨s1, s2⟩ := hsh
        simp only [Option.bind_eq_some_iff, Option.some.injEq] at h3
        obtain ⟨j, h4, rfl⟩ := h3
        obtain ⟨z, z1, z2, z3⟩ := indexL_at h4
        refine ⟨ρ, F, .list ds, e, h1, fun u F1 H1 x1 r1 => ?_⟩
        obtain ⟨q, xs, rfl, hq, rq⟩ := r1.list x1.le
        refine ⟨.inl ⟨rfl, xs, .inl (.inl hq)⟩, ρ, F1, y, e.ext x1, h2, fun w F2 H2 x2 r2 => ?_⟩
        exact ⟨q, w, y, ds, j, z, rfl, rfl, (r1.ext x2).dp x2.le (plain_of_shaped s1), r2.dp x2.le (plain_of_shaped s2), s1, s2, z1, z2, z3, k _ F2 H2 (x1.trans x2) (.int _)⟩
      · cases h3
    · cases h3
end
end Zx
/-! Zx12: sorted(d.items()). -/
namespace Zx
open PySem PySem.Spec L2 PyProof.Rows
section
variable {X : Cx} {pins : List (Addr × Obj)} {σ : L2.St} {H : Hp} {s : Shared}
/-- many new objects laid at once -/
theorem lay_many (I : Inv X pins σ H s) {H2 : Hp} {h2 : Heap} {tk : Nat} (hk : ∀ b o, s.heap.get? b = some o → h2.get? b = some o) (kp : ∀ b u, H b = some u → H2 b = some u)
    (nw : ∀ b u, H2 b = some u → H b = none → s.heap.objs.size ≤ b ∧ ObjOk X.prog X.w H2 h2 b u) : Inv X pins σ H2 { s with heap := h2, toks := tk } := by
  have un : Un (frs X.stack) [] H H2 s.heap h2 := {
    keep := fun b o q _ _ _ => hk b o q
    slot := fun b o q _ _ _ => ⟨o.slots, hk b o q⟩
    free := fun b o q n _ => by
      cases e : H2 b with
      | none => rfl
      | some u => exact absurd (Heap.lt_size q) (Nat.not_lt.mpr (nw b u e n).1)
    there := fun b o q _ => ⟨o, hk b o q⟩
    tups := fun b xs q => kp b _ q
    frzs := fun b o u q => kp b _ q
    tbls := fun b ps q => ⟨#[], by rw [kp b _ q]; simp⟩ }
  refine I.call' (ch := []) rfl un (fun b u q => ?_) I.bare fun b z => by simp at z
  cases e : H b with
  | none => exact (nw b u q e).2
  | some u' =>
    rw [kp b u' e] at q
    cases q
    exact (I.hok b u e).stay (fun d v _ y => hk d v y) (fun d y => kp d _ y) fun d xs y => kp d _ y
theorem dk_obj (I : Inv X pins σ H s) {d : Addr} {kvs : List (Key × V)} (h : Rd H d (.dK kvs)) : kvs.length ≤ sizeLine ∧ (d == sysModules) = false ∧ ∃ vs, KV kvs vs ∧ s.heap.DictOf (mixKind X.prog X.w) d vs := by
  rcases h with h | ⟨o, h⟩
  · exact I.hok d _ h
  · exact (I.hok d _ h).2
end
/-- the pairs of a dict -/
def itL (kds : List (D × D)) : List D := kds.map fun p => .tuple [p.1, p.2]
/-- the pairs laid as tuples -/
def putP : Hp → List Addr → List (Key × V) → Hp
  | H, a :: as, p :: kvs => upd (putP H as kvs) a (.tup [kV p.1, p.2])
  | H, _, _ => H
theorem putP_off {b : Addr} : ∀ (as : List Addr) (kvs : List (Key × V)) (H : Hp), b ∉ as → putP H as kvs b = H b
  | [], _, _, _ => rfl
  | _ :: _, [], _, _ => rfl
  | a :: as, p :: kvs, H, h => by
    show upd (putP H as kvs) a _ b = H b
    rw [upd_ne (fun z => h (by rw [z]; exact List.mem_cons_self)), putP_off as kvs H fun z => h (List.mem_cons_of_mem _ z)]
theorem putP_in {b : Addr} {u : HO} : ∀ (as : List Addr) (kvs : List (Key × V)) (H : Hp), putP H as kvs b = some u → H b = none → b ∈ as
  | [], _, H, h, hn => by
    have h : H b = some u := h
    rw [hn] at h
    cases h
  | _ :: _, [], H, h, hn => by
    have h : H b = some u := h
    rw [hn] at h
    cases h
  | a :: as, p :: kvs, H, h, hn => by
    by_cases hb : b = a
    · rw [hb]; exact List.mem_cons_self
    · have h : upd (putP H as kvs) a (.tup [kV p.1, p.2]) b = some u := h
      rw [upd_ne hb] at h
      exact List.mem_cons_of_mem _ (putP_in as kvs H h hn)
theorem putP_at : ∀ (as : List Addr) (kvs : List (Key × V)) (H : Hp) (j : Nat) (a : Addr) (p : Key × V), as.Nodup → as[j]? = some a → kvs[j]? = some p → putP H as kvs a = some (.tup [kV p.1, p.2])
  | [], _, _, _, _, _, _, h, _ => by simp at h
  | _ :: _, [], _, _, _, _, _, _, h => by simp at h
  | b :: as, q :: kvs, H, 0, a, p, hn, h1, h2 => by
    simp at h1 h2
    subst h1 h2
    exact upd_same
  | b :: as, q :: kvs, H, j + 1, a, p, hn, h1, h2 => by
    obtain ⟨n1, n2⟩ := List.nodup_cons.mp hn
    have h1' : as[j]? = some a := by simpa using h1
    have hne : a ≠ b := fun z => n1 (by rw [← z]; exact List.mem_of_getElem? h1')
    show upd (putP H as kvs) b _ a = _
    rw [upd_ne hne]
    exact putP_at as kvs H j a p n2 h1' (by simpa using h2)
theorem keyD_rp {K : PySem.W.Frag} {F : Hp} (k : Key) : Rp K F (keyD k) (kV k) := by
  cases k with
  | inl i => exact .int i
  | inr x => exact .str x
theorem RpK.at_ {K : PySem.W.Frag} {F : Hp} : ∀ {kds : List (D × D)} {kvs : List (Key × V)} {j : Nat} {p : D × D}, RpK K F kds kvs → kds[j]? = some p → ∃ q, kvs[j]? = some q ∧ p.1 = keyD q.1 ∧ Rp K F p.2 q.2
  | _, _, _, _, .nil, h => by simp at h
  | _, _, 0, _, .cons r t, h => by
    simp at h
    subst h
    exact ⟨_, rfl, rfl, r⟩
  | _, _, j + 1, p, .cons r t, h => by
    obtain ⟨q, h1, h2⟩ := RpK.at_ (j := j) (p := p) t (by simpa using h)
    exact ⟨q, by simpa using h1, h2⟩
theorem rpl_ix {K : PySem.W.Frag} {F : Hp} : ∀ {ds : List D} {vs : List V}, ds.length = vs.length → (∀ (i : Nat) d v, ds[i]? = some d → vs[i]? = some v → Rp K F d v) → RpL K F ds vs
  | [], [], _, _ => .nil
  | [], _ :: _, h, _ => by cases h
  | _ :: _, [], h, _ => by cases h
  | d :: ds, v :: vs, h, hr => .cons (hr 0 d v rfl rfl) (rpl_ix (Nat.succ.inj h) fun i a b h1 h2 => hr (i + 1) a b h1 h2)
section
variable {X : Cx} {e : Expr} {f : Den} {p apos cpos pos : Pos}
def tSI (K : PySem.W.Frag) (te : TE) : TE := fun σ H Q => te σ H fun x H1 => ∃ d kvs F kds, x = V.ref d ∧ Rd H1 d (.dK kvs) ∧ RpK K F kds kvs ∧ Sub F H1 ∧ srtOk (itL kds) = true ∧
  ∀ H2 F2 q ys, Ext F H1 F2 H2 → F2 q = none → H1 q = none → H2 q = some (.lst ys) → RpL K F2 ((itL kds).mergeSort leS) ys → Q (.ref q) H2
theorem pe_sortItems {te : TE} (hc : X.calm = true) (hu : X.A.units + 68 < cLine) (he : PE X e te) (hg : Gl X "sorted") (hm : X.mg "sorted" = none) (hbase : attributeBase e "items" X.env (eval e X.env) = eval e X.env) (hline : (apos.endLine == cpos.line) = true)
    (hs : N1 X (.Call (.Attribute e "items" apos) [] [] cpos)) : PE X (.Call (.Name "sorted" p) [.Call (.Attribute e "items" apos) [] [] cpos] [] pos) (tSI X.K te) := by
  refine ⟨fun pins s σ H Q I hq => ?_⟩
  refine wpAny_Call_Name_kw (ld_blt I hg hm rfl ?_ (by decide) (by decide))
  refine PyProof.Rows.callWith_builtin1 ?_ hs rfl
  have hs' : starEach [.Call (.Attribute e "items" apos) [] [] cpos] X.env = [(false, eval (.Call (.Attribute e "items" apos) [] [] cpos) X.env)] := hs
  rw [hs']
  show wpAny _ _ (spliced [(false, eval (.Call (.Attribute e "items" apos) [] [] cpos) X.env)]) _ _ s
  refine Calls.spliced_cons ?_
  refine wpAny_Call_method (T := "dict") (id := "dict.items") hbase rfl hline F.plainAttrs_dict F.slot_dict_items F.type_dict_items (thn (he.run pins s σ H _ I hq) fun u s1 ⟨x, H1, I1, rx, d, kvs, F0, kds, ex, hd, rk, sb, ok, q⟩ => ?_)
  subst ex
  obtain rfl : u = Value.ref d := rx
  obtain ⟨hz, hs0, vs, kv, hdo⟩ := dk_obj I1 hd
  obtain ⟨ep, hat⟩ := hdo.dictAt
  have lk : kvs.length = vs.length := Paired.length kv
  have I2 : Inv X pins σ H1 { s1 with heap := s1.heap.push { cls := .type "dict_items", data := .fields #[.ref d] } } := I1.kept (t' := s1.toks) fun b ob q => Heap.get?_push_of_some _ q
  refine ⟨hdo.typeIs, hdo.mapOf.noDict, ?_⟩
  show wpAny _ _ (callWith cpos (.builtin "dict.items") [.ref d] [] []) _ X.xe s1
  refine method_meetsIn F.slot_dict_items F.entry_dict_items rfl (PySem.evalArgs_none ⟨rfl, hdo.typeIs, F.args_dict_items_1 _, _, meets_dict_items (mixKind X.prog X.w) d hs0, ⟨vs, hdo⟩, ?_⟩)
  refine Calls.spliced_nil ?_
  have hh : X.A.handled = none := I1.ok.hd hc
  generalize hw2 : s1.heap.push { cls := .type "dict_items", data := .fields #[.ref d] } = g2 at I2
  have view : g2.IsItemsView s1.heap.objs.size d := by rw [← hw2]; exact ⟨_, Heap.get?_push_size _ rfl, rfl, rfl⟩
  have hat2 : g2.DictAt (mixKind X.prog X.w) d vs ep := by rw [← hw2]; exact hat.push _
  refine Calls.call_function_entry kind_sorted plain_sorted entry_sorted (args_sorted1 _) ?_
  unfold Builtin.«sorted»
  refine wpAny_bind (m := checkCount "sorted" 1 1 _) (wpAny_pure ?_)
  refine wpAny_bind (PySem.W.kdx_collect (knd := mixKind X.prog X.w) (A := X.A.in1) (kvs := vs) (ep := ep) (by simpa using hh) view hat2 (by omega) fun h3 tk as hk hl hG => ?_)
  refine wpAny_bind (wpAny_newList ?_ (by rw [List.length_map, hl]; omega))
  obtain ⟨o1, o2, o3, o4⟩ := srt_parts ok
  have nd : as.Nodup := List.Pairwise.imp (fun {a b} (h : a < b) => Nat.ne_of_lt h) hG.rise
  have new : ∀ t ∈ as, H1 t = none := fun t ht => I2.hok.fresh (Nat.le_of_lt (hG.above t ht))
  have hkl : kds.length = kvs.length := rk.length.symm
  -- data, address
  let L : List (D × V × Value) := (itL kds).zip ((as.map V.ref).zip (as.map Value.ref))
  have hLl : L.length = as.length := by simp [L, itL]; omega
  have hLat : ∀ (j : Nat) t, L[j]? = some t → ∃ b pd qv, as[j]? = some b ∧ kds[j]? = some pd ∧ kvs[j]? = some qv ∧ t = (.tuple [pd.1, pd.2], .ref b, .ref b) ∧ pd.1 = keyD qv.1 ∧ Rp X.K F0 pd.2 qv.2 := fun j t ht => by
    have hj : j < as.length := by
      rw [← hLl]
      exact (List.getElem?_eq_some_iff.mp ht).1
    have hj2 : j < kds.length := by omega
    obtain ⟨qv, z1, z2, z3⟩ := rk.at_ (List.getElem?_eq_getElem hj2)
    refine ⟨as[j], kds[j], qv, List.getElem?_eq_getElem hj, List.getElem?_eq_getElem hj2, z1, ?_, z2, z3⟩
    have : L[j]? = some ((itL kds)[j]'(by simp [itL]; omega), (as.map V.ref)[j]'(by simpa using hj), (as.map Value.ref)[j]'(by simpa using hj)) := by
      simp only [L]
      rw [List.getElem?_eq_getElem (by simp [itL]; omega)]
      simp
    rw [this] at ht
    cases ht
    simp [itL]
  have m1 : L.map (·.1) = itL kds := by
    simp only [L]
    rw [List.map_fst_zip (by simp [itL]; omega)]
  have m3 : L.map (·.2.2) = as.map Value.ref := by
    simp only [L]
    rw [show (fun t : D × V × Value => t.2.2) = Prod.snd ∘ Prod.snd from rfl, ← List.map_map, List.map_snd_zip (by simp [itL]; omega), List.map_snd_zip (by simp)]
  -- the values read
  have hread : ∀ (j : Nat) t, L[j]? = some t → ∃ bs, Reads h3 t.2.2 t.1 bs ∧ (∀ b ∈ bs, ∃ o, h3.get? b = some o) := fun j t ht => by
    obtain ⟨b, pd, qv, e1, e2, e3, rfl, e5, e6⟩ := hLat j t ht
    obtain ⟨key, k, x, f1, f2, f3⟩ := hG.pairs j b e1
    obtain ⟨qv', g1, g2, g3⟩ := LiI.paired_get kv e3
    rw [f1] at g1
    cases g1
    have hmem : (.tuple [pd.1, pd.2] : D) ∈ itL kds := List.mem_map.mpr ⟨pd, List.mem_of_getElem? e2, rfl⟩
    have hsh := o3 _ hmem
    have hpl : pd.2.plain = true := by
      have := plain_of_shaped hsh
      simp [PyData.plain, PyData.plainAll] at this
      exact this.2
    obtain ⟨bs, r1⟩ := Dp.reads I2 pd.2 qv.2 x (e6.dp sb pd.2 qv.2 hpl) g3
    have r2 : Reads h3 x pd.2 bs := Reads.keeps hk r1
    have r0 : Reads h3 key pd.1 [] := by
      rw [e5, g2]
      have rk1 : RelV (kV k) key := relV_key (show keyIs k key = true from f2)
      cases k with
      | inl i =>
        obtain ⟨t, rfl⟩ := rk1
        exact .int _ _
      | inr z =>
        obtain ⟨t, rfl⟩ := rk1
        exact .str _ _
    have r3 : ReadsAll h3 [key, x] [pd.1, pd.2] ([] ++ (bs ++ [])) := .cons r0 (.cons r2 .nil)
    rw [List.nil_append, List.append_nil] at r3
    exact ⟨bs, .tuple f3 rfl rfl r3, fun b hb => PyProof.On.reads_mem_get r2 b hb⟩
  have hrp : ∀ (j : Nat) t, L[j]? = some t → Rp X.K (putP F0 as kvs) t.1 t.2.1 := fun j t ht => by
    obtain ⟨b, pd, qv, e1, e2, e3, rfl, e5, e6⟩ := hLat j t ht
    have sF : Sub F0 (putP F0 as kvs) := fun c u hc => by
      rw [putP_off as kvs F0 fun z => by have := new c z; rw [sb c u hc] at this; cases this]
      exact hc
    exact .tup (putP_at as kvs F0 j b qv nd e1 e3) (.cons (by rw [e5]; exact keyD_rp _) (.cons (e6.mono sF) .nil))
  have hrv : ∀ (j : Nat) t, L[j]? = some t → RelV t.2.1 t.2.2 := fun j t ht => by
    obtain ⟨b, pd, qv, e1, e2, e3, rfl, e5, e6⟩ := hLat j t ht
    rfl
  have na : h3.get? h3.objs.size = none := Heap.get?_none_of_le (Nat.le_refl _)
  have gsz : g2.objs.size ≤ h3.objs.size := by
    have e1 : g2.get? s1.heap.objs.size = some { cls := .type "dict_items", data := .fields #[.ref d] } := by rw [← hw2]; exact Heap.get?_push_size _ rfl
    have e2 := Heap.lt_size (hk _ _ e1)
    have e3 : g2.objs.size = s1.heap.objs.size + 1 := by rw [← hw2]; exact Heap.size_push ..
    rw [e3]
    exact e2
  have kp3 : ∀ b o, g2.get? b = some o → (h3.push { cls := .type "list", data := .seq (as.map Value.ref).toArray }).get? b = some o := fun b o q => Heap.get?_push_of_some _ (hk b o q)
  refine wpAny_bind (wpAny_holding (PySem.W.list_sort_data (β := Tri) (enc := fun t => t.1) (R := fun v t => v = t.2.2) (bs := L) (vs := as.map Value.ref) (n := 0) (Heap.get?_push_size _ rfl) (by rw [← m3]; exact fn_each) (by
      rw [← m3]
      refine each_mapR fun t ht => ?_
      obtain ⟨j, hj⟩ := List.mem_iff_getElem?.mp ht
      obtain ⟨bs, r1, r2⟩ := hread j t hj
      refine ⟨bs, Reads.keeps (fun b o q => Heap.get?_push_of_some _ q) r1, fun z => ?_⟩
      obtain ⟨o, ho⟩ := r2 _ z
      rw [na] at ho
      cases ho) (by rw [m1]; exact o1) (by rw [m1]; exact o2) (by rw [hLl]; omega) (fun t ht => ?_) fun out hlo he => ?_))
  · have hd : t.1 ∈ itL kds := by rw [← m1]; exact List.mem_map_of_mem ht
    have := SeqAt.depth_of_shaped (o3 _ hd)
    show X.A.units + 1 + 1 + t.1.depth < cLine
    omega
  refine wpAny_pure ?_
  have eo := each_fn he
  have hal : h3.objs.size ∉ as := fun z => Nat.lt_irrefl _ (hG.there z)
  have hH1a : H1 h3.objs.size = none := I2.hok.fresh (by exact gsz)
  have hinj : ∀ b, b ∈ as → b ≠ h3.objs.size := fun b hb => Nat.ne_of_lt (hG.there hb)
  have kpH : ∀ b u, H1 b = some u → upd (putP H1 as kvs) h3.objs.size (.lst ((L.mergeSort (PySem.W.dataLe false fun t : Tri => t.1)).map (·.2.1))) b = some u := fun b u hb => by
    rw [upd_ne (fun z => by rw [z, hH1a] at hb; cases hb), putP_off as kvs H1 fun z => by have := new b z; rw [hb] at this; cases this]
    exact hb
  have hmm : ∀ t ∈ L.mergeSort (PySem.W.dataLe false fun t : Tri => t.1), ∃ j, L[j]? = some t := fun t ht => List.mem_iff_getElem?.mp ((List.mergeSort_perm L _).mem_iff.mp ht)
  obtain ⟨z1, z2⟩ := rpl_map (K := X.K) (F := putP F0 as kvs) (ts := L.mergeSort (PySem.W.dataLe false fun t : Tri => t.1)) fun t ht => by
    obtain ⟨j, hj⟩ := hmm t ht
    exact ⟨hrp j t hj, hrv j t hj⟩
  rw [tri_sort, m1] at z1
  rw [← eo] at z2
  obtain ⟨ep2, hat3⟩ := PyProof.Rows.sortedHeap_at (a := h3.objs.size) (h := h3.push { cls := .type "list", data := .seq (as.map Value.ref).toArray }) (vs := as.map Value.ref) (out := out.toArray) (Heap.get?_push_size _ rfl)
  have kp4 : ∀ b o, b ≠ h3.objs.size → h3.get? b = some o → (sortedHeap (h3.push { cls := .type "list", data := .seq (as.map Value.ref).toArray }) h3.objs.size (as.map Value.ref) out.toArray).get? b = some o := fun b o hb q => by
    rw [PyProof.Rows.sortedHeap_old hb (Heap.lt_size (Heap.get?_push_of_some _ q))]
    exact Heap.get?_push_of_some _ q
  have J := lay_many (tk := tk) I2 (H2 := upd (putP H1 as kvs) h3.objs.size (.lst ((L.mergeSort (PySem.W.dataLe false fun t : Tri => t.1)).map (·.2.1))))
    (h2 := sortedHeap (h3.push { cls := .type "list", data := .seq (as.map Value.ref).toArray }) h3.objs.size (as.map Value.ref) out.toArray)
    (fun b o q => kp4 b o (Nat.ne_of_lt (Nat.lt_of_lt_of_le (Heap.lt_size q) gsz)) (hk b o q)) kpH (fun b u hb hn => by
      by_cases hba : b = h3.objs.size
      · subst hba
        rw [upd_same] at hb
        cases hb
        refine ⟨gsz, ?_, out, ep2, z2, hat3⟩
        rw [List.length_map, List.length_mergeSort, hLl, hl, ← lk]
        exact hz
      · rw [upd_ne hba] at hb
        have hm := putP_in as kvs H1 hb hn
        obtain ⟨j, hj⟩ := List.mem_iff_getElem?.mp hm
        obtain ⟨key, k, x, f1, f2, f3⟩ := hG.pairs j b hj
        have hj2 : j < kvs.length := by
          have := (List.getElem?_eq_some_iff.mp hj).1
          omega
        obtain ⟨qv, g1, g2', g3⟩ := LiI.paired_get kv (List.getElem?_eq_getElem hj2)
        rw [f1] at g1
        cases g1
        rw [putP_at as kvs H1 j b _ nd hj (List.getElem?_eq_getElem hj2)] at hb
        cases hb
        have rk1 : RelV (kV (kvs[j]).1) key := by
          rw [g2']
          exact relV_key (show keyIs k key = true from f2)
        exact ⟨Nat.le_of_lt (hG.above b hm), by show 2 ≤ sizeLine; decide, [key, x], .cons rk1 (.cons g3 .nil), ⟨_, kp4 b _ hba f3, rfl, _, rfl⟩⟩)
  refine ⟨_, rfl, .ref h3.objs.size, _, J, rfl, q _ (putP F0 as kvs) h3.objs.size _ ⟨fun b u hb => ?_, kpH, fun b u hb => ?_, fun b h1 h2 => ?_⟩ ?_ hH1a upd_same z1⟩
  · rw [putP_off as kvs F0 fun z => by have := new b z; rw [sb b u hb] at this; cases this]
    exact hb
  · by_cases hm : b ∈ as
    · rw [upd_ne (hinj b hm)]
      obtain ⟨j, hj⟩ := List.mem_iff_getElem?.mp hm
      have hj2 : j < kvs.length := by
        have := (List.getElem?_eq_some_iff.mp hj).1
        omega
      rw [putP_at as kvs F0 j b _ nd hj (List.getElem?_eq_getElem hj2)] at hb
      rw [putP_at as kvs H1 j b _ nd hj (List.getElem?_eq_getElem hj2)]
      exact hb
    · rw [putP_off as kvs F0 hm] at hb
      exact kpH b u (sb b u hb)
  · rw [putP_off as kvs F0 fun z => h1 (new b z)]
    exact h2
  · rw [putP_off as kvs F0 hal]
    exact sb.free hH1a
def sortItD : D → Option D
  | .dict kds => if notMk kds && srtOk (itL kds) then some (.list ((itL kds).mergeSort leS)) else none
  | _ => none
theorem en_sortItems (hc : X.calm = true) (hu : X.A.units + 68 < cLine) (he : EB X e f) (hg : Gl X "sorted") (hm : X.mg "sorted" = none) (hbase : attributeBase e "items" X.env (eval e X.env) = eval e X.env) (hline : (apos.endLine == cpos.line) = true)
    (hs : N1 X (.Call (.Attribute e "items" apos) [] [] cpos)) : EN X (.Call (.Name "sorted" p) [.Call (.Attribute e "items" apos) [] [] cpos] [] pos) (d1 sortItD f) :=
  mkN (pe_sortItems hc hu he.pe hg hm hbase hline hs) fun σ H Q ρ F d e h k => by
    simp only [d1, Option.bind_eq_some_iff] at h
    obtain ⟨x, h1, h2⟩ := h
    unfold sortItD at h2
    split at h2
    · split at h2
      · rename_i kds ok
        cases h2
        rw [Bool.and_eq_true] at ok
        refine ⟨ρ, F, .dict kds, e, h1, fun u F1 H1 x1 r1 => ?_⟩
        obtain ⟨a, kvs, rfl, ra, rk⟩ := r1.dictK x1.le ok.1
        exact ⟨a, kvs, F1, kds, rfl, ra, rk, x1.le, ok.2, fun H2 F2 q ys x2 g1 g2 g3 g4 => k q _ F2 H2 (x1.trans x2) g1 (x1.h.free g2) g3 (.lst g4)⟩
      · cases h2
    · cases h2
end
end Zx
/-! Zx13: dicts walked under a lock, dict comprehensions, a display of one pair. -/
namespace Zx
open PySem PySem.Spec L2
def isDk : HO → Prop
  | .dK _ => True
  | .dT _ => True
  | _ => False
/-- the same dict, locked or not -/
def DkLike (u w : HO) : Prop := ∃ o v, isDk v ∧ ((u = v ∧ w = .frz o v) ∨ (u = .frz o v ∧ w = v))
theorem DkLike.symm {u w : HO} (h : DkLike u w) : DkLike w u := by
  obtain ⟨o, v, h1, h2 | h2⟩ := h
  · exact ⟨o, v, h1, .inr ⟨h2.2, h2.1⟩⟩
  · exact ⟨o, v, h1, .inl ⟨h2.2, h2.1⟩⟩
section
variable {K : PySem.W.Frag} {F H F' H' F0 H0 : Hp} {p : Addr} {u w : HO} {ρ : Env} {σ : L2.St}
theorem DkLike.nl (h : DkLike u w) (xs : List V) : u ≠ .lst xs ∧ u ≠ .tup xs ∧ ∀ o, u ≠ .frz o (.lst xs) := by
  obtain ⟨o, v, h1, h2 | h2⟩ := h
  · rw [h2.1]
    refine ⟨?_, ?_, fun o => ?_⟩ <;> rintro rfl <;> exact h1
  · rw [h2.1]
    refine ⟨fun z => (nomatch z), fun z => (nomatch z), fun o z => ?_⟩
    injection z with _ z
    subst z
    exact h1
theorem Rd.sw (hp : F p = some u) (d : DkLike u w) {a : Addr} {v : HO} (h : Rd F a v) (hv : isDk v) : Rd (upd F p w) a v := by
  by_cases ha : a = p
  · subst ha
    obtain ⟨o, v', h1, h2 | h2⟩ := d
    · rw [h2.1] at hp
      refine .inr ⟨o, ?_⟩
      rw [upd_same, h2.2]
      rcases h with h | ⟨o', h⟩
      · rw [hp] at h; cases h; rfl
      · rw [hp] at h; cases h; exact h1.elim
    · rw [h2.1] at hp
      refine .inl ?_
      rw [upd_same, h2.2]
      rcases h with h | ⟨o', h⟩
      · rw [hp] at h; cases h; exact hv.elim
      · rw [hp] at h; cases h; rfl
  · rcases h with h | ⟨o', h⟩
    · exact .inl (by rw [upd_ne ha]; exact h)
    · exact .inr ⟨o', by rw [upd_ne ha]; exact h⟩
theorem neDk (hp : F p = some u) (d : DkLike u w) {a : Addr} {o : HO} (h : F a = some o) (ho : o ≠ u) : a ≠ p := fun z => by
  subst z
  rw [hp] at h
  cases h
  exact ho rfl
mutual
theorem Rp.sw (hp : F p = some u) (d : DkLike u w) : ∀ {x : D} {y : V}, Rp K F x y → Rp K (upd F p w) x y
  | _, _, .non => .non
  | _, _, .bl b => .bl b
  | _, _, .int i => .int i
  | _, _, .str x => .str x
  | _, _, .lst (xs := xs) h t => .lst (by rw [upd_ne (neDk hp d h fun z => (d.nl xs).1 z.symm)]; exact h) (RpL.sw hp d t)
  | _, _, .tup (xs := xs) h t => .tup (by rw [upd_ne (neDk hp d h fun z => (d.nl xs).2.1 z.symm)]; exact h) (RpL.sw hp d t)
  | _, _, .dK h t => .dK (Rd.sw hp d h trivial) (RpK.sw hp d t)
  | _, _, .dT h t => .dT (Rd.sw hp d h trivial) (RpT.sw hp d t)
  | _, _, .scr (ns := ns) h => .scr (by
      rcases h with h | h
      · refine .inl ?_
        rcases h with h | ⟨o, h⟩
        · exact .inl (by rw [upd_ne (neDk hp d h fun z => (d.nl (ns.map V.int)).1 z.symm)]; exact h)
        · exact .inr ⟨o, by rw [upd_ne (neDk hp d h fun z => (d.nl (ns.map V.int)).2.2 o z.symm)]; exact h⟩
      · exact .inr h)
theorem RpL.sw (hp : F p = some u) (d : DkLike u w) : ∀ {ds : List D} {vs : List V}, RpL K F ds vs → RpL K (upd F p w) ds vs
  | _, _, .nil => .nil
  | _, _, .cons h t => .cons (Rp.sw hp d h) (RpL.sw hp d t)
theorem RpK.sw (hp : F p = some u) (d : DkLike u w) : ∀ {ds : List (D × D)} {vs : List (Key × V)}, RpK K F ds vs → RpK K (upd F p w) ds vs
  | _, _, .nil => .nil
  | _, _, .cons h t => .cons (Rp.sw hp d h) (RpK.sw hp d t)
theorem RpT.sw (hp : F p = some u) (d : DkLike u w) : ∀ {ds : List (D × D)} {vs : List (List Key × V)}, RpT K F ds vs → RpT K (upd F p w) ds vs
  | _, _, .nil => .nil
  | _, _, .cons h t => .cons (Rp.sw hp d h) (RpT.sw hp d t)
end
theorem OwnRep.sw (hp : F p = some u) (d : DkLike u w) {x : D} {o : HO} (h : OwnRep K F x o) : OwnRep K (upd F p w) x o := by
  cases h with
  | lst t => exact .lst (t.sw hp d)
  | dK t => exact .dK (t.sw hp d)
  | dT t => exact .dT (t.sw hp d)
theorem upd_upd {H : Hp} {p : Addr} {a b : HO} : upd (upd H p a) p b = upd H p b := by
  funext x
  by_cases h : x = p
  · rw [h, upd_same, upd_same]
  · rw [upd_ne h, upd_ne h, upd_ne h]
theorem upd_self {H : Hp} {p : Addr} {a : HO} (h : H p = some a) : upd H p a = H := by
  funext x
  by_cases hx : x = p
  · rw [hx, upd_same, h]
  · rw [upd_ne hx]
theorem Sub.sw (s : Sub F H) : Sub (upd F p w) (upd H p w) := fun a o h => by
  by_cases ha : a = p
  · subst ha; rw [upd_same] at h ⊢; exact h
  · rw [upd_ne ha] at h ⊢; exact s a o h
theorem EnvOk.sw (e : EnvOk K ρ σ F H) (hp : F p = some u) (d : DkLike u w) : EnvOk K ρ σ (L2.upd F p w) (L2.upd H p w) where
  sub := e.sub.sw
  len := e.len
  dist := e.dist
  at_ := fun i s hs => by
    obtain ⟨ov, h1, h2⟩ := e.at_ i s hs
    refine ⟨ov, h1, ?_⟩
    cases s with
    | no => trivial
    | fz d' =>
      obtain ⟨v, h3, h4⟩ := h2
      exact ⟨v, h3, h4.sw hp d⟩
    | ow d' =>
      obtain ⟨a, o, h3, h4, h5, h6⟩ := h2
      have ha : a ≠ p := fun z => by rw [z, hp] at h4; cases h4
      exact ⟨a, o, h3, by rw [upd_ne ha]; exact h4, by rw [upd_ne ha]; exact h5, h6.sw hp d⟩
/-- what went on while it was locked -/
theorem Ext.sw (hF : F p = some u) (hH : H p = some u) (x : Ext (upd F p w) (upd H p w) F' H') : Ext F H (upd F' p u) (upd H' p u) := by
  refine ⟨fun a o h => ?_, fun a o h => ?_, x.le.sw, fun a h1 h2 => ?_⟩
  · by_cases ha : a = p
    · subst ha; rw [upd_same]; rw [hF] at h; exact h
    · rw [upd_ne ha]
      exact x.f a o (by rw [upd_ne ha]; exact h)
  · by_cases ha : a = p
    · subst ha; rw [upd_same]; rw [hH] at h; exact h
    · rw [upd_ne ha]
      exact x.h a o (by rw [upd_ne ha]; exact h)
  · have ha : a ≠ p := fun z => by rw [z, hF] at h2; cases h2
    rw [upd_ne ha]
    exact x.new a (by rw [upd_ne ha]; exact h1) (by rw [upd_ne ha]; exact h2)
/-- slot j's dict is locked -/
def Lk (j : Nat) (σ : L2.St) (F : Hp) : Prop := ∃ p o v, σ[j]? = some (some (.ref p)) ∧ F p = some (.frz o v) ∧ isDk v
/-- slot j holds a dict with plain keys (b: with tuple keys) -/
def dkSlot (j : Nat) (b : Bool) (ρ : Env) : Option (List (D × D)) := match ρ[j]? with
  | some (.fz (.dict kds)) => if b then (match kds with | (.bool true, .none) :: r => some r | _ => none) else if notMk kds then some kds else none
  | _ => none
theorem dk_slot {j : Nat} {b : Bool} {kds : List (D × D)} (e : EnvOk K ρ σ F H) (h : dkSlot j b ρ = some kds) : ∃ p v, σ[j]? = some (some (.ref p)) ∧ Rd F p v ∧ isDk v ∧ Rp K F (.dict (if b then (.bool true, .none) :: kds else kds)) (.ref p) := by
  unfold dkSlot at h
  split at h
  · rename_i kds' hs
    obtain ⟨ov, h1, y, h2, h3⟩ := e.at_ j _ hs
    subst h2
    cases b with
    | true =>
      simp only [if_true] at h
      split at h
      · cases h
        obtain ⟨a, kvs, rfl, h4, h5⟩ := (RpB.of (H := F) h3).dictT (Sub.refl F)
        exact ⟨a, .dT kvs, h1, h4, trivial, h3⟩
      · cases h
    | false =>
      simp only [Bool.false_eq_true, if_false] at h
      split at h
      · rename_i hn
        cases h
        obtain ⟨a, kvs, rfl, h4, h5⟩ := (RpB.of (H := F) h3).dictK (Sub.refl F) hn
        exact ⟨a, .dK kvs, h1, h4, trivial, h3⟩
      · cases h
  · cases h
end
/-! ### what is walked under a lock -/
def tIL (K : PySem.W.Frag) (j : Nat) (f : DenI) : TI := fun σ H R => ∃ ρ F ds, EnvOk K ρ σ F H ∧ Lk j σ F ∧ f ρ = some ds ∧ ∀ J F' H', Ext F H F' H' → Walks K J F' ds → R J H'
structure EIL (X : Cx) (tg e : Expr) (j : Nat) (f : DenI) : Prop where
  pi : PI X tg e (tIL X.K j f)
def tNL (K : PySem.W.Frag) (j : Nat) (f : Den) : TE := fun σ H Q => ∃ ρ F d, EnvOk K ρ σ F H ∧ Lk j σ F ∧ f ρ = some d ∧ ∀ a o F' H', Ext F H F' H' → F' a = none → H a = none → H' a = some o → OwnRep K F' d o → Q (.ref a) H'
structure ENL (X : Cx) (e : Expr) (j : Nat) (f : Den) : Prop where
  pe : PE X e (tNL X.K j f)
def tStL (K : PySem.W.Frag) (j : Nat) (f : DenS) : TS := fun D σ H => ∃ F0 H0 ρ F o, EnvS K F0 H0 ρ σ F H ∧ Lk j σ F ∧ f ρ = some o ∧ Post K F0 H0 D o
structure SXL (X : Cx) (st : Stmt) (j : Nat) (f : DenS) : Prop where
  ps : PS X st (tStL X.K j f)
/-- a reading needs a dict in slot j -/
def Needs {α : Type} (j : Nat) (f : Env → Option α) : Prop := ∀ ρ d, f ρ = some d → ∃ b kds, dkSlot j b ρ = some kds
theorem EnvOk.wiL {K : PySem.W.Frag} {ρ : Env} {σ : L2.St} {F H : Hp} {fi : DenI} {j : Nat} (e : EnvOk K ρ σ F H) (l : Lk j σ F) : WiOk K (tIL K j fi) fi ρ σ F H := fun ds R h k => ⟨ρ, F, ds, e, l, h, k⟩
section
variable {X : Cx} {e : Expr} {f : Den} {st : Stmt} {fs : DenS} {j : Nat}
theorem en_lock (h : ENL X e j f) (n : Needs j f) : EN X e f := by
  refine ⟨⟨fun pins s σ H Q I hw => ?_⟩⟩
  obtain ⟨ρ, F, d, e1, hf, k⟩ := hw
  obtain ⟨b, kds, hd⟩ := n ρ d hf
  obtain ⟨p, v, h1, h2, h3, h4⟩ := dk_slot e1 hd
  rcases h2 with h2 | ⟨o, h2⟩
  · refine (pe_lock h.pe).run pins s σ H Q I ?_
    refine ⟨p, v, e1.sub _ _ h2, by cases v <;> first | exact h3.elim | trivial, fun od => ?_⟩
    have dk : DkLike v (.frz od v) := ⟨od, v, h3, .inl ⟨rfl, rfl⟩⟩
    refine ⟨ρ, _, d, e1.sw h2 dk, ⟨p, od, v, h1, upd_same, h3⟩, hf, fun a o F' H' x g1 g2 g3 g4 => ?_⟩
    have hF' : F' p = some (.frz od v) := x.f _ _ upd_same
    have hH' : H' p = some (.frz od v) := x.h _ _ upd_same
    have ha : a ≠ p := fun z => by rw [z, hF'] at g1; cases g1
    refine ⟨hH', k a o (upd F' p v) (upd H' p v) (Ext.sw h2 (e1.sub _ _ h2) x) (by rw [upd_ne ha]; exact g1) ?_ (by rw [upd_ne ha]; exact g3) (g4.sw hF' dk.symm)⟩
    rw [upd_ne ha] at g2
    exact g2
  · exact h.pe.run pins s σ H Q I ⟨ρ, F, d, e1, ⟨p, o, v, h1, h2, h3⟩, hf, k⟩
theorem sx_lock (h : SXL X st j fs) (n : Needs j fs) : SX X st fs := by
  refine ⟨⟨fun pins s σ H D I hw => ?_⟩⟩
  obtain ⟨F0, H0, ρ, F, o, e1, hf, k⟩ := hw
  obtain ⟨b, kds, hd⟩ := n ρ o hf
  obtain ⟨p, v, h1, h2, h3, h4⟩ := dk_slot e1.env hd
  rcases h2 with h2 | ⟨ob, h2⟩
  · refine (ps_lock h.ps).run pins s σ H D I ?_
    have hHp := e1.env.sub _ _ h2
    refine ⟨p, v, hHp, by cases v <;> first | exact h3.elim | trivial, fun od => ?_⟩
    have dk : DkLike v (.frz od v) := ⟨od, v, h3, .inl ⟨rfl, rfl⟩⟩
    obtain ⟨Hx, xb, eb⟩ := e1.rebase
    have kb := k.base xb
    have hHx : Hx p = some v := eb.ext.le |> fun _ => xb.le _ _ h2
    have e2 : EnvS X.K (upd F p (.frz od v)) (upd Hx p (.frz od v)) ρ σ (upd F p (.frz od v)) (upd H p (.frz od v)) :=
      ⟨eb.env.sw h2 dk, ⟨Sub.refl _, eb.ext.h.sw, eb.env.sub.sw, fun a _ h => h⟩, fun i d a g1 g2 => by
        have := eb.own i d a g1 g2
        rw [upd_ne (fun z => by rw [z, hHx] at this; cases this)]
        exact this⟩
    have un : ∀ {ρ' : Env} {σ' : L2.St} {F' H' : Hp}, EnvS X.K (upd F p (.frz od v)) (upd Hx p (.frz od v)) ρ' σ' F' H' → H' p = some (.frz od v) ∧ EnvS X.K F Hx ρ' σ' (upd F' p v) (upd H' p v) := fun {ρ' σ' F' H'} z => by
      have hF' : F' p = some (.frz od v) := z.ext.f _ _ upd_same
      refine ⟨z.ext.h _ _ upd_same, z.env.sw hF' dk.symm, Ext.sw h2 hHx z.ext, fun i d a g1 g2 => ?_⟩
      have := z.own i d a g1 g2
      have ha : a ≠ p := fun y => by rw [y, upd_same] at this; cases this
      rw [upd_ne ha] at this
      exact this
    refine ⟨_, _, ρ, _, o, e2, ⟨p, od, v, h1, upd_same, h3⟩, hf, ?_⟩
    cases o with
    | nx ρ' => exact fun σ' F' H' z => ⟨(un z).1, kb σ' _ _ (un z).2⟩
    | bk ρ' => exact fun σ' F' H' z => ⟨(un z).1, kb σ' _ _ (un z).2⟩
    | ct ρ' => exact fun σ' F' H' z => ⟨(un z).1, kb σ' _ _ (un z).2⟩
    | rt d =>
      intro y F' H' x r
      have hF' : F' p = some (.frz od v) := x.f _ _ upd_same
      exact ⟨x.h _ _ upd_same, kb y _ _ (Ext.sw h2 hHx x) (r.sw hF' dk.symm)⟩
    | rn d =>
      intro a ob F' H' x g1 g2 g3 g4
      have hF' : F' p = some (.frz od v) := x.f _ _ upd_same
      have ha : a ≠ p := fun z => by rw [z, hF'] at g1; cases g1
      refine ⟨x.h _ _ upd_same, kb a ob _ _ (Ext.sw h2 hHx x) (by rw [upd_ne ha]; exact g1) ?_ (by rw [upd_ne ha]; exact g3) (g4.sw hF' dk.symm)⟩
      rw [upd_ne ha] at g2
      exact g2
  · exact h.ps.run pins s σ H D I ⟨F0, H0, ρ, F, o, e1, ⟨p, ob, v, h1, h2, h3⟩, hf, k⟩
end
/-! ### keys, values, items of the dict in slot j -/
def iKeysJ (j : Nat) : DenI := fun ρ => (dkSlot j false ρ).map fun kds => kds.map (·.1)
def iKeysT (j : Nat) : DenI := fun ρ => (dkSlot j true ρ).map fun kds => kds.map (·.1)
def iValsJ (j : Nat) : DenI := fun ρ => (dkSlot j false ρ).map fun kds => kds.map (·.2)
def iItemsJ (j : Nat) : DenI := fun ρ => (dkSlot j false ρ).map itL
theorem needs_I {j : Nat} {b : Bool} {h : List (D × D) → List D} : Needs j (fun ρ => (dkSlot j b ρ).map h) := fun ρ d e => by
  rw [Option.map_eq_some_iff] at e
  obtain ⟨kds, h1, _⟩ := e
  exact ⟨b, kds, h1⟩
theorem needs_lc {j : Nat} {fi : DenI} {g : DenG} {ft : DenB} {fe : Den} {vs : List Nat} (n : Needs j fi) : Needs j (dLc fi g ft fe vs) := fun ρ d e => by
  simp only [dLc, Option.bind_eq_some_iff] at e
  obtain ⟨ds, h1, _⟩ := e
  exact n ρ ds h1
theorem needs_for {j : Nat} {fi : DenI} {g : DenG} {fb : DenS} (n : Needs j fi) : Needs j (sFor fi g fb) := fun ρ d e => by
  simp only [sFor, Option.bind_eq_some_iff] at e
  obtain ⟨ds, h1, _⟩ := e
  exact n ρ ds h1
theorem needs_bind {j : Nat} {α β : Type} {f : Env → Option α} {h : Env → α → Option β} (n : Needs j f) : Needs j (fun ρ => (f ρ).bind (h ρ)) := fun ρ d e => by
  simp only [Option.bind_eq_some_iff] at e
  obtain ⟨x, h1, _⟩ := e
  exact n ρ x h1
theorem lk_at {K : PySem.W.Frag} {ρ : Env} {σ : L2.St} {F H : Hp} {j : Nat} {kds : List (D × D)} (e : EnvOk K ρ σ F H) (l : Lk j σ F) (h : dkSlot j false ρ = some kds) : ∃ p o kvs, σ[j]? = some (some (.ref p)) ∧ F p = some (.frz o (.dK kvs)) ∧ RpK K F kds kvs := by
  obtain ⟨p, v, h1, h2, h3, h4⟩ := dk_slot e h
  obtain ⟨p', o, v', g1, g2, g3⟩ := l
  rw [h1] at g1
  cases g1
  have hn : notMk kds = true := by
    unfold dkSlot at h
    split at h
    · simp only [Bool.false_eq_true, if_false] at h
      split at h
      · cases h; assumption
      · cases h
    · cases h
  obtain ⟨a, kvs, ea, h5, h6⟩ := (RpB.of (H := F) h4).dictK (Sub.refl F) hn
  cases ea
  have : Rd F p (.dK kvs) := h5
  rcases h5 with h5 | ⟨o', h5⟩
  · rw [g2] at h5; cases h5
  · rw [g2] at h5
    cases h5
    exact ⟨p, _, kvs, h1, g2, h6⟩
theorem RpK.keys {K : PySem.W.Frag} {F : Hp} : ∀ {kds : List (D × D)} {kvs : List (Key × V)}, RpK K F kds kvs → ∀ (i : Nat) d, (kds.map (·.1))[i]? = some d → ∃ k v, kvs[i]? = some (k, v) ∧ d = keyD k
  | _, _, h, i, d, e => by
    rw [List.getElem?_map, Option.map_eq_some_iff] at e
    obtain ⟨q, h1, rfl⟩ := e
    obtain ⟨y, h2, h3, _⟩ := h.at_ h1
    exact ⟨y.1, y.2, h2, h3⟩
section
variable {X : Cx} {tg : Expr} {p apos cpos : Pos} {x : Str} {j : Nat}
theorem mkLk {e : Expr} {fi : DenI} {t : TI} (h : PI X tg e t) (i : ∀ σ H R ρ F d, EnvOk X.K ρ σ F H → Lk j σ F → fi ρ = some d → (∀ J F' H', Ext F H F' H' → Walks X.K J F' d → R J H') → t σ H R) : EIL X tg e j fi :=
  ⟨PI.imp h fun σ H Q ⟨ρ, F, d, e1, l, e2, k⟩ => i σ H Q ρ F d e1 l e2 k⟩
theorem eil_keys (hN : X.N[j]? = some x) (hv : visB X.env.scope x = true) (hd : (x == ("__debug__" : Str)) = false) (hcd : (x == ("__classdict__" : Str)) = false) : EIL X tg (.Name x p) j (iKeysJ j) :=
  mkLk (pi_keys (pe_var hN (vis_of hv) hd hcd)) fun σ H R ρ F ds e l h k => by
    unfold iKeysJ at h
    rw [Option.map_eq_some_iff] at h
    obtain ⟨kds, h1, rfl⟩ := h
    obtain ⟨q, o, kvs, h2, h3, h4⟩ := lk_at e l h1
    refine ⟨.ref q, h2, q, o, rfl, .inl ⟨kvs, e.sub _ _ h3, k _ F H (.refl e.sub) fun i F1 H1 s1 s2 => ?_⟩⟩
    have hq : H1 q = some (.frz o (.dK kvs)) := s2 _ _ (s1 _ _ h3)
    refine ⟨fun d hd => ?_, fun hi => ⟨hq, by rw [h4.length]; simpa using hi⟩⟩
    obtain ⟨kk, v, h5, rfl⟩ := h4.keys i d hd
    refine ⟨⟨hq, (List.getElem?_eq_some_iff.mp h5).1⟩, fun x H' hy => ?_⟩
    obtain ⟨rfl, k', v', h6, rfl⟩ := hy
    rw [h5] at h6
    cases h6
    exact ⟨F1, .refl s2, keyD_rp _⟩
theorem eil_vals (hN : X.N[j]? = some x) (hv : visB X.env.scope x = true) (hd : (x == ("__debug__" : Str)) = false) (hcd : (x == ("__classdict__" : Str)) = false) (hbase : attributeBase (.Name x p) "values" X.env (eval (.Name x p) X.env) = eval (.Name x p) X.env) (hline : (apos.endLine == cpos.line) = true) :
    EIL X tg (.Call (.Attribute (.Name x p) "values" apos) [] [] cpos) j (iValsJ j) :=
  mkLk (pi_values (pe_var hN (vis_of hv) hd hcd) hbase hline) fun σ H R ρ F ds e l h k => by
    unfold iValsJ at h
    rw [Option.map_eq_some_iff] at h
    obtain ⟨kds, h1, rfl⟩ := h
    obtain ⟨q, o, kvs, h2, h3, h4⟩ := lk_at e l h1
    refine ⟨.ref q, h2, q, o, kvs, rfl, e.sub _ _ h3, k _ F H (.refl e.sub) fun i F1 H1 s1 s2 => ?_⟩
    have hq : H1 q = some (.frz o (.dK kvs)) := s2 _ _ (s1 _ _ h3)
    refine ⟨fun d hd => ?_, fun hi => ⟨hq, by rw [h4.length]; simpa using hi⟩⟩
    rw [List.getElem?_map, Option.map_eq_some_iff] at hd
    obtain ⟨y, h5, rfl⟩ := hd
    obtain ⟨z, h6, h7, h8⟩ := h4.at_ h5
    refine ⟨⟨hq, (List.getElem?_eq_some_iff.mp h6).1⟩, fun x H' hy => ?_⟩
    obtain ⟨rfl, k', h9⟩ := hy
    rw [h6] at h9
    cases h9
    exact ⟨F1, .refl s2, h8.mono s1⟩
theorem eil_items {elts : List Expr} {kk : Nat} {tpos : Pos} (hN : X.N[j]? = some x) (hv : visB X.env.scope x = true) (hd : (x == ("__debug__" : Str)) = false) (hcd : (x == ("__classdict__" : Str)) = false) (hbase : attributeBase (.Name x p) "items" X.env (eval (.Name x p) X.env) = eval (.Name x p) X.env) (hline : (apos.endLine == cpos.line) = true) :
    EIL X (.Tuple elts kk tpos) (.Call (.Attribute (.Name x p) "items" apos) [] [] cpos) j (iItemsJ j) :=
  mkLk (pi_items (pe_var hN (vis_of hv) hd hcd) hbase hline) fun σ H R ρ F ds e l h k => by
    unfold iItemsJ at h
    rw [Option.map_eq_some_iff] at h
    obtain ⟨kds, h1, rfl⟩ := h
    obtain ⟨q, o, kvs, h2, h3, h4⟩ := lk_at e l h1
    refine ⟨.ref q, h2, q, o, kvs, rfl, e.sub _ _ h3, k _ F H (.refl e.sub) fun i F1 H1 s1 s2 => ?_⟩
    have hq : H1 q = some (.frz o (.dK kvs)) := s2 _ _ (s1 _ _ h3)
    refine ⟨fun d hd => ?_, fun hi => ⟨hq, by rw [h4.length]; simpa [itL] using hi⟩⟩
    unfold itL at hd
    rw [List.getElem?_map, Option.map_eq_some_iff] at hd
    obtain ⟨y, h5, rfl⟩ := hd
    obtain ⟨z, h6, h7, h8⟩ := h4.at_ h5
    refine ⟨⟨hq, (List.getElem?_eq_some_iff.mp h6).1⟩, fun x H' hy => ?_⟩
    obtain ⟨T, k', v', h9, rfl, hT, rfl⟩ := hy
    rw [h6] at h9
    cases h9
    have sN : Sub F1 (upd F1 T (.tup [kV k', v'])) := Sub.new (s2.free hT)
    exact ⟨_, .add s2 hT, .tup upd_same (.cons (by rw [h7]; exact keyD_rp _) (.cons ((h8.mono s1).mono sN) .nil))⟩
end
/-! ### statements and comprehensions over them -/
section
variable {X : Cx} {elt tg iter kx vx : Expr} {ifs : List Expr} {scope : Scope} {own : List (Str × Nat)} {pos spos : Pos} {ws : List Nat} {fi : DenI} {g : DenG} {ft : DenB} {fe fk fv : Den} {j : Nat} {fb : DenS} {body : List Stmt}
theorem sxl_for (hp : PassesOwn (model X.prog X.w) X.A X.env X.xe) (hc : X.calm = true) (hi : EIL X tg iter j fi) (hg : EG X tg ws g) (hb : SXs X body fb) (hs : ∀ x, foldedSetIterable iter X.env x = pure x) : SXL X (.For tg iter body [] pos) j (sFor fi g fb) :=
  ⟨PS.imp (ps_for hp hc hi.pi hg.pg hb.pss hs) fun D σ H ⟨F0, H0, ρ, F, o, e, l, h, k⟩ => for_t (e.env.wiL l) e h k⟩
theorem enl_lc (hc : X.calm = true) (hN : X.N.Nodup) (hi : EIL X tg iter j fi) (ok : BlkOk X.N X.env.scope scope own)
    (hg : InBlk X scope fun Y => EG Y tg ws g) (ht : InBlk X scope fun Y => ETs Y ifs ft) (he : InBlk X scope fun Y => EX Y elt fe) (hs : ∀ x, foldedSetIterable iter X.env x = pure x) (hw : ∀ j ∈ ws, j ∈ own.map (·.2)) :
    ENL X (.ListComp elt [⟨tg, iter, ifs, 0⟩] scope pos) j (dLc fi g ft fe (own.map (·.2))) :=
  ⟨PE.imp (pe_lc (te := tX X.K fe) (tt := tTst X.K ft) (g := tGt X.K ws g) hc hN hi.pi ok (fun s H C cl fp => (hg s H C cl fp).pg) (fun s H C cl fp => (ht s H C cl fp).pts) (fun s H C cl fp => (he s H C cl fp).pe) hs) fun σ H Q ⟨ρ, F, d, e, l, h, k⟩ => lc_t (e.wiL l) hw e h k⟩
theorem sxl_setLc (i : Nat) (b : Bool) {y : Str} {py : Pos} (hc : X.calm = true) (hN : X.N.Nodup) (hy : X.N[i]? = some y) (hyl : X.env.scope.names.lookup y = some .local)
    (hsw : swapsWith (.ListComp elt [⟨tg, iter, ifs, 0⟩] scope pos) (some (.Name y py)) spos.line X.env = pure true) (hi : EIL X tg iter j fi) (ok : BlkOk X.N X.env.scope scope own)
    (hg : InBlk X scope fun Y => EG Y tg ws g) (ht : InBlk X scope fun Y => ETs Y ifs ft) (he : InBlk X scope fun Y => EX Y elt fe) (hs : ∀ x, foldedSetIterable iter X.env x = pure x) (hw : ∀ j ∈ ws, j ∈ own.map (·.2)) :
    SXL X (.Assign [.Name y py] (.ListComp elt [⟨tg, iter, ifs, 0⟩] scope pos) spos) j (sLcSet i b (dLc fi g ft fe (own.map (·.2)))) :=
  ⟨PS.imp (ps_setLc (te := tX X.K fe) (tt := tTst X.K ft) (g := tGt X.K ws g) hc hN hy hyl hsw hi.pi ok (fun s H C cl fp => (hg s H C cl fp).pg) (fun s H C cl fp => (ht s H C cl fp).pts) (fun s H C cl fp => (he s H C cl fp).pe) hs) fun D σ H ⟨F0, H0, ρ, F, o, e, l, h, k⟩ => by
    simp only [sLcSet, Option.bind_eq_some_iff, Option.some.injEq] at h
    obtain ⟨d, h1, rfl⟩ := h
    refine lc_t (Q := fun x H1 => gName i x σ H1 D.nx) (e.env.wiL l) hw e.env h1 fun a ob F' H' x h2 h3 h4 h5 => ?_
    cases b with
    | true => exact k _ F' H' (e.setOwn x h3 h2 h4 h5)
    | false =>
      obtain ⟨F2, x2, r2⟩ := frzNew x h2 h3 h4 h5
      exact k _ F2 H' ((e.to x2).set r2)⟩
/-! ### dict comprehensions -/
def dcL (g : DenG) (ft : DenB) (fk fv : Den) (ρ : Env) : List D → List (D × D) → Option (List (D × D))
  | [], acc => some acc
  | d :: ds, acc => (g d ρ).bind fun ρ1 => (ft ρ1).bind fun b => if b then (fk ρ1).bind fun x => (keyOf x).bind fun _ => (fv ρ1).bind fun y => dcL g ft fk fv ρ ds (dPut acc x y) else dcL g ft fk fv ρ ds acc
def dDc (fi : DenI) (g : DenG) (ft : DenB) (fk fv : Den) (vs : List Nat) : Den := fun ρ => (fi ρ).bind fun ds => if ds.length ≤ 1000000 then (dcL g ft fk fv (wipeE ρ vs) ds []).bind fun out => some (.dict out) else none
theorem dPut_len (kds : List (D × D)) (k v : D) : (dPut kds k v).length ≤ kds.length + 1 := by
  unfold dPut
  split
  · rw [List.length_map]; omega
  · rw [List.length_append]; exact Nat.le_refl _
theorem dc_t {K : PySem.W.Frag} {wi : TI} {vs : List Nat} {Q : VK} {d : D} {ρ : Env} {σ : L2.St} {F H : Hp} (hwi : WiOk K wi fi ρ σ F H) (hw : ∀ j ∈ ws, j ∈ vs) (e : EnvOk K ρ σ F H) (h : dDc fi g ft fk fv vs ρ = some d)
    (k : ∀ a o F' H', Ext F H F' H' → F' a = none → H a = none → H' a = some o → OwnRep K F' d o → Q (.ref a) H') :
    tDc wi (tGt K ws g) (tTst K ft) (tX K fk) (tX K fv) vs σ H Q := by
  simp only [dDc, Option.bind_eq_some_iff] at h
  obtain ⟨ds, h1, h2⟩ := h
  split at h2
  · rename_i hsz
    rw [Option.bind_eq_some_iff] at h2
    obtain ⟨out, h2, h3⟩ := h2
    cases h3
    refine hwi ds _ h1 fun J F1 H1 x1 w q hq => ?_
    have e1 := (e.ext x1).wipe vs
    have hF1 : F1 q = none := x1.le.free hq
    have hne := e1.ne_new hq
    refine ⟨fun i m H' => i ≤ ds.length ∧ m = ds.length - i ∧ ∃ F' acc accD, EnvOk K (wipeE ρ vs) (wipe σ vs) F' H' ∧ Ext F1 H1 F' H' ∧ F' q = none ∧ H' q = some (.dK acc) ∧ RpK K F' accD acc ∧ acc.length ≤ i ∧
      dcL g ft fk fv (wipeE ρ vs) (ds.drop i) accD = some out,
      ⟨_, Nat.zero_le _, rfl, F1, [], [], e1.upd hF1 hne, .mut (.refl x1.le) hq hF1, hF1, upd_same, .nil, Nat.zero_le _, by rw [List.drop_zero]; exact h2⟩, ?_⟩
    rintro i m H' ⟨hle, rfl, F', acc, accD, e', x', hF', hq', rl, hla, hr⟩
    obtain ⟨w1, w2⟩ := w i F' H' x'.f x'.le
    by_cases hi : i < ds.length
    · have hd : ds.drop i = ds[i] :: ds.drop (i + 1) := List.drop_eq_getElem_cons hi
      rw [hd] at hr
      simp only [dcL, Option.bind_eq_some_iff] at hr
      obtain ⟨ρ1, g1, b, g2, g3⟩ := hr
      obtain ⟨w3, w4⟩ := w1 ds[i] (List.getElem?_eq_getElem hi)
      refine .inr ⟨w3, fun H' => ∃ F' acc accD, EnvOk K (wipeE ρ vs) (wipe σ vs) F' H' ∧ Ext F1 H1 F' H' ∧ F' q = none ∧ H' q = some (.dK acc) ∧ RpK K F' accD acc ∧ acc.length ≤ i + 1 ∧
        dcL g ft fk fv (wipeE ρ vs) (ds.drop (i + 1)) accD = some out, fun H2 hN => ⟨_, by omega, hi, rfl, hN⟩, fun x H2 hy => ?_⟩
      obtain ⟨F2, x2, r2⟩ := w4 x H2 hy
      refine ⟨_, F2, ds[i], ρ1, e'.ext x2, r2, g1, fun σ3 e3 sb o3 => ⟨?_, ?_⟩⟩
      · refine wipe_twice σ σ3 _ (by rw [sb.len, wipe_length]) fun j hj => sb.at_ j fun z => hj (hw j z)
      refine ⟨ρ1, F2, b, e3, g2, fun F3 H3 x3 => ?_⟩
      have x23 := x2.trans x3
      cases b with
      | false =>
        exact ⟨F3, acc, accD, e'.ext x23, x'.trans x23, x23.new q (by rw [hq']; exact fun z => nomatch z) hF', x23.h _ _ hq', rl.mono x23.f, by omega, g3⟩
      | true =>
        simp only [if_true, Option.bind_eq_some_iff] at g3
        obtain ⟨y, g4, kk, g5, z, g6, g7⟩ := g3
        have ey := keyOf_eq g5
        subst ey
        refine ⟨ρ1, F3, _, e3.ext x3, g4, fun vk F4 H4 x4 r4 => ?_⟩
        have ek : vk = kV kk := by
          cases kk with
          | inl i => cases r4; rfl
          | inr i => cases r4; rfl
        subst ek
        refine ⟨ρ1, F4, z, (e3.ext x3).ext x4, g6, fun v F5 H5 x5 r5 => ?_⟩
        have x25 := (x23.trans x4).trans x5
        have hF5 : F5 q = none := x25.new q (by rw [hq']; exact fun z => nomatch z) hF'
        have hH5 : H5 q = some (.dK acc) := x25.h _ _ hq'
        refine ⟨acc, kk, rfl, hH5, line_lt (by omega), F5, putK acc kk v, dPut accD (keyD kk) z, (e'.ext x25).upd hF5 hne, .mut (x'.trans x25) hq hF5, hF5, upd_same, (rl.mono x25.f).put kk r5, ?_, g7⟩
        have h1 := dPut_len accD (keyD kk) z
        have h2 := ((rl.mono x25.f).put kk r5).length
        have h3 := rl.length
        omega
    · have hd : ds.drop i = [] := List.drop_eq_nil_of_le (by omega)
      rw [hd] at hr
      cases hr
      exact .inl ⟨w2 (by omega), k q _ F' H' (x1.trans x') hF' (x1.h.free hq) hq' (.dK rl)⟩
  · cases h2
theorem needs_dc {vs : List Nat} (n : Needs j fi) : Needs j (dDc fi g ft fk fv vs) := fun ρ d e => by
  simp only [dDc, Option.bind_eq_some_iff] at e
  obtain ⟨ds, h1, _⟩ := e
  exact n ρ ds h1
/-- y = {k: v for ..} on one line -/
theorem ps_setDc' {i : Nat} {y : Str} {py : Pos} {wi : TI} {g : TG} {tt : TT} {tk tv : TE} (hc : X.calm = true) (hN : X.N.Nodup) (hy : X.N[i]? = some y) (hyl : X.env.scope.names.lookup y = some .local)
    (hsw : swapsWith (.DictComp kx vx [⟨tg, iter, ifs, 0⟩] scope pos) (some (.Name y py)) spos.line X.env = pure true) (hi : PI X tg iter wi) (ok : BlkOk X.N X.env.scope scope own)
    (hg : InBlk X scope fun Y => PG Y tg g) (ht : InBlk X scope fun Y => PTs Y ifs tt) (hk : InBlk X scope fun Y => PE Y kx tk) (he : InBlk X scope fun Y => PE Y vx tv) (hs : ∀ x, foldedSetIterable iter X.env x = pure x) :
    PS X (.Assign [.Name y py] (.DictComp kx vx [⟨tg, iter, ifs, 0⟩] scope pos) spos) (tAsg (tDc wi g tt tk tv (own.map (·.2))) (gName i)) := by
  refine ⟨fun pins s σ H D I hD => ?_⟩
  rw [exec_Assign_Name_used _ _ _ _ hsw]
  refine wpAny_bind (wpAny_standAt (wpAny_bind ?_))
  show wpAny _ X.A (do let _ ← comprehension (.DictComp kx vx [⟨tg, iter, ifs, 0⟩] scope pos) scope X.env (firstIterPos [⟨tg, iter, ifs, 0⟩] pos) newDict false (eval iter X.env) (some (assign (.Name y py) X.env))) _ _ s
  have hD' : tDc wi g tt tk tv (own.map (·.2)) σ H (fun x H1 => gName i x σ H1 D.nx) := hD
  refine wpAny_bind (thn (dc_core (Qf := fun _ s' => SP X pins D .next s') hc hN I hi ok hg ht hk he hs hD' fun dd C s' m H' I' q hn fo => ?_) fun _ s' hq => wpAny_pure (wpAny_pure hq))
  show wpAny _ _ (assign (.Name y py) X.env (.ref dd)) _ _ _
  refine wpAny_assign_Name (store_ok2 (v := V.ref dd) I' hN hy (.inl hyl) rfl (fun s2 I2 ⟨a, sb, ha⟩ => ?_) (.inr hyl))
  obtain ⟨z0, z1, z2, z3, z4, z5⟩ := fo
  have hne : C ≠ a := ha.elim (fun z => by rw [z]; exact z1) fun z e => z4 y a z e.symm
  exact ⟨m, hn.sameBut sb hne, fun h3 sb3 => ⟨_, H', I2.turned (t' := s2.toks) (fun b o hb e => (sb3.2 b hb).trans e) z0 z1 z3 z4 z5, q⟩⟩
section
variable {hcx : X.calm = true}
theorem en_dc (hc : X.calm = true) (hN : X.N.Nodup) (hi : EI X tg iter fi) (ok : BlkOk X.N X.env.scope scope own)
    (hg : InBlk X scope fun Y => EG Y tg ws g) (ht : InBlk X scope fun Y => ETs Y ifs ft) (hk : InBlk X scope fun Y => EX Y kx fk) (he : InBlk X scope fun Y => EX Y vx fe) (hs : ∀ x, foldedSetIterable iter X.env x = pure x) (hw : ∀ j ∈ ws, j ∈ own.map (·.2)) :
    EN X (.DictComp kx vx [⟨tg, iter, ifs, 0⟩] scope pos) (dDc fi g ft fk fe (own.map (·.2))) :=
  mkN (pe_dc (tk := tX X.K fk) (tv := tX X.K fe) (tt := tTst X.K ft) (g := tGt X.K ws g) hc hN hi.pi ok (fun s H C cl fp => (hg s H C cl fp).pg) (fun s H C cl fp => (ht s H C cl fp).pts) (fun s H C cl fp => (hk s H C cl fp).pe) (fun s H C cl fp => (he s H C cl fp).pe) hs) fun σ H Q ρ F d e h k => dc_t e.wiOk hw e h k
theorem enl_dc (hc : X.calm = true) (hN : X.N.Nodup) (hi : EIL X tg iter j fi) (ok : BlkOk X.N X.env.scope scope own)
    (hg : InBlk X scope fun Y => EG Y tg ws g) (ht : InBlk X scope fun Y => ETs Y ifs ft) (hk : InBlk X scope fun Y => EX Y kx fk) (he : InBlk X scope fun Y => EX Y vx fe) (hs : ∀ x, foldedSetIterable iter X.env x = pure x) (hw : ∀ j ∈ ws, j ∈ own.map (·.2)) :
    ENL X (.DictComp kx vx [⟨tg, iter, ifs, 0⟩] scope pos) j (dDc fi g ft fk fe (own.map (·.2))) :=
  ⟨PE.imp (pe_dc (tk := tX X.K fk) (tv := tX X.K fe) (tt := tTst X.K ft) (g := tGt X.K ws g) hc hN hi.pi ok (fun s H C cl fp => (hg s H C cl fp).pg) (fun s H C cl fp => (ht s H C cl fp).pts) (fun s H C cl fp => (hk s H C cl fp).pe) (fun s H C cl fp => (he s H C cl fp).pe) hs) fun σ H Q ⟨ρ, F, d, e, l, h, k⟩ => dc_t (e.wiL l) hw e h k⟩
theorem setDc_end {K : PySem.W.Frag} {i : Nat} {b : Bool} {DD : Ends} {σ : L2.St} {H F0 H0 F : Hp} {ρ : Env} {d : D} (e : EnvS K F0 H0 ρ σ F H) (k : Post K F0 H0 DD (.nx (setNew i b d ρ))) {a : Addr} {ob : HO} {F' H' : Hp} (x : Ext F H F' H') (h2 : F' a = none) (h3 : H a = none) (h4 : H' a = some ob) (h5 : OwnRep K F' d ob) : gName i (.ref a) σ H' DD.nx := by
  cases b with
  | true => exact k _ F' H' (e.setOwn x h3 h2 h4 h5)
  | false =>
    obtain ⟨F2, x2, r2⟩ := frzNew x h2 h3 h4 h5
    exact k _ F2 H' ((e.to x2).set r2)
theorem sx_setDc (i : Nat) (b : Bool) {y : Str} {py : Pos} (hc : X.calm = true) (hN : X.N.Nodup) (hy : X.N[i]? = some y) (hyl : X.env.scope.names.lookup y = some .local)
    (hsw : swapsWith (.DictComp kx vx [⟨tg, iter, ifs, 0⟩] scope pos) (some (.Name y py)) spos.line X.env = pure true) (hi : EI X tg iter fi) (ok : BlkOk X.N X.env.scope scope own)
    (hg : InBlk X scope fun Y => EG Y tg ws g) (ht : InBlk X scope fun Y => ETs Y ifs ft) (hk : InBlk X scope fun Y => EX Y kx fk) (he : InBlk X scope fun Y => EX Y vx fe) (hs : ∀ x, foldedSetIterable iter X.env x = pure x) (hw : ∀ j ∈ ws, j ∈ own.map (·.2)) :
    SX X (.Assign [.Name y py] (.DictComp kx vx [⟨tg, iter, ifs, 0⟩] scope pos) spos) (sLcSet i b (dDc fi g ft fk fe (own.map (·.2)))) :=
  sx_mk (ps_setDc' (tk := tX X.K fk) (tv := tX X.K fe) (tt := tTst X.K ft) (g := tGt X.K ws g) hc hN hy hyl hsw hi.pi ok (fun s H C cl fp => (hg s H C cl fp).pg) (fun s H C cl fp => (ht s H C cl fp).pts) (fun s H C cl fp => (hk s H C cl fp).pe) (fun s H C cl fp => (he s H C cl fp).pe) hs) fun D σ H F0 H0 ρ F o e h k => by
    simp only [sLcSet, Option.bind_eq_some_iff, Option.some.injEq] at h
    obtain ⟨d, h1, rfl⟩ := h
    exact dc_t (Q := fun x H1 => gName i x σ H1 D.nx) e.env.wiOk hw e.env h1 fun a ob F' H' x h2 h3 h4 h5 => setDc_end e k x h2 h3 h4 h5
theorem sxl_setDc (i : Nat) (b : Bool) {y : Str} {py : Pos} (hc : X.calm = true) (hN : X.N.Nodup) (hy : X.N[i]? = some y) (hyl : X.env.scope.names.lookup y = some .local)
    (hsw : swapsWith (.DictComp kx vx [⟨tg, iter, ifs, 0⟩] scope pos) (some (.Name y py)) spos.line X.env = pure true) (hi : EIL X tg iter j fi) (ok : BlkOk X.N X.env.scope scope own)
    (hg : InBlk X scope fun Y => EG Y tg ws g) (ht : InBlk X scope fun Y => ETs Y ifs ft) (hk : InBlk X scope fun Y => EX Y kx fk) (he : InBlk X scope fun Y => EX Y vx fe) (hs : ∀ x, foldedSetIterable iter X.env x = pure x) (hw : ∀ j ∈ ws, j ∈ own.map (·.2)) :
    SXL X (.Assign [.Name y py] (.DictComp kx vx [⟨tg, iter, ifs, 0⟩] scope pos) spos) j (sLcSet i b (dDc fi g ft fk fe (own.map (·.2)))) :=
  ⟨PS.imp (ps_setDc' (tk := tX X.K fk) (tv := tX X.K fe) (tt := tTst X.K ft) (g := tGt X.K ws g) hc hN hy hyl hsw hi.pi ok (fun s H C cl fp => (hg s H C cl fp).pg) (fun s H C cl fp => (ht s H C cl fp).pts) (fun s H C cl fp => (hk s H C cl fp).pe) (fun s H C cl fp => (he s H C cl fp).pe) hs) fun D σ H ⟨F0, H0, ρ, F, o, e, l, h, k⟩ => by
    simp only [sLcSet, Option.bind_eq_some_iff, Option.some.injEq] at h
    obtain ⟨d, h1, rfl⟩ := h
    exact dc_t (Q := fun x H1 => gName i x σ H1 D.nx) (e.env.wiL l) hw e.env h1 fun a ob F' H' x h2 h3 h4 h5 => setDc_end e k x h2 h3 h4 h5⟩
theorem needs_set {i : Nat} {b : Bool} {f : Den} (n : Needs j f) : Needs j (sLcSet i b f) := fun ρ d e => by
  simp only [sLcSet, Option.bind_eq_some_iff] at e
  obtain ⟨x, h1, _⟩ := e
  exact n ρ x h1
end
/-- {k: v} -/
def dDisp1 (f g : Den) : Den := fun ρ => (f ρ).bind fun k => (keyOf k).bind fun _ => (g ρ).bind fun v => some (.dict [(k, v)])
theorem en_disp1 (hk : EX X kx fk) (hv : EX X vx fe) : EN X (.Dict [some kx] [vx] pos) (dDisp1 fk fe) :=
  mkN (pe_disp (pps_cons hk.pe hv.pe pps_nil) rfl rfl (fun z => nomatch z) (by simp)) fun σ H Q ρ F d e h k => by
    simp only [dDisp1, Option.bind_eq_some_iff, Option.some.injEq] at h
    obtain ⟨x, h1, kk, h2, y, h3, rfl⟩ := h
    have ey := keyOf_eq h2
    subst ey
    intro p hp
    have e1 := e.ext (.own (o := .dK []) e.sub hp)
    refine ⟨ρ, F, _, e1, h1, fun u F1 H1 x1 r1 => ⟨ρ, F1, y, e1.ext x1, h3, fun w F2 H2 x2 r2 => ?_⟩⟩
    have x12 := x1.trans x2
    have hFp : F p = none := e.sub.free hp
    have hH2 : H2 p = some (.dK []) := x12.h _ _ upd_same
    have hF2 : F2 p = none := x12.new p (by rw [upd_same]; exact fun z => nomatch z) hFp
    have ek : u = kV kk := by
      cases kk with
      | inl i => cases r1; rfl
      | inr i => cases r1; rfl
    subst ek
    refine ⟨hH2, [(kk, w)], rfl, by simp, k p _ F2 _ ?_ hF2 hp upd_same (.dK (.cons r2 .nil))⟩
    have x0 : Ext F H F2 H2 := (Ext.own (o := .dK []) e.sub hp).trans x12
    exact .mut x0 hp hF2
end
end Zx
/-! Zx14: what the printed derivations use beside the rules. -/
namespace Zx
open PySem PySem.Spec L2
def vOk (sc : Scope) (x : Str) : Bool := visB sc x && (!(x == ("__debug__" : Str)) && !(x == ("__classdict__" : Str)))
theorem vOk_parts {sc : Scope} {x : Str} (h : vOk sc x = true) : visB sc x = true ∧ (x == ("__debug__" : Str)) = false ∧ (x == ("__classdict__" : Str)) = false := by
  unfold vOk at h
  simp only [Bool.and_eq_true, Bool.not_eq_true'] at h
  exact ⟨h.1, h.2.1, h.2.2⟩
theorem PE.or {X : Cx} {e : Expr} {t t' : TE} (h : PE X e t) (h' : PE X e t') : PE X e (fun σ H Q => t σ H Q ∨ t' σ H Q) := ⟨fun pins s σ H Q I hw => hw.elim (h.run pins s σ H Q I) (h'.run pins s σ H Q I)⟩
theorem PI.or {X : Cx} {tg e : Expr} {t t' : TI} (h : PI X tg e t) (h' : PI X tg e t') : PI X tg e (fun σ H Q => t σ H Q ∨ t' σ H Q) := ⟨fun pins s σ H Q I hw => hw.elim (h.run pins s σ H Q I) (h'.run pins s σ H Q I)⟩
def dCall (fl : DenL) (fn : List D → Option D) : Den := fun ρ => (fl ρ).bind fn
section
variable {X : Cx} {a b c e : Expr} {f g h : Den} {pos p : Pos} {fl : DenL} {x : Str} {es : List Expr} {k n : Nat} {fn : List D → Option D}
theorem vX (i : Nat) (hN : X.N[i]? = some x) (h : vOk X.env.scope x = true) : EX X (.Name x pos) (vR i) := let ⟨h2, h3, h4⟩ := vOk_parts h; ex_var i hN h2 h3 h4
theorem vE (i : Nat) (hN : X.N[i]? = some x) (h : vOk X.env.scope x = true) : EB X (.Name x pos) (vB i) := let ⟨h2, h3, h4⟩ := vOk_parts h; eb_var i hN h2 h3 h4
theorem cX (F : FX X.prog X.w X.K X.mg X.base k x n fn) (hr : Room k X.A) (hg : Gl X x) (hdb : (x == ("__debug__" : Str)) = false) (ha : EA X (a :: es) fl) (hn : (a :: es).length = n)
    (he : starEach (a :: es) X.env = (false, eval a X.env) :: starEach es X.env) (hpl : (backTo pos (starEach es X.env)).any (·.1) = false) (hl : ∀ ρ ds, fl ρ = some ds → ds.length = n) : EX X (.Call (.Name x p) (a :: es) [] pos) (dCall fl fn) := ex_call F hr hg hdb ha hn he hpl hl
/-- any list or tuple is walked -/
theorem ei_seq {tg : Expr} (ha : EX X a f) : EI X tg a (iSeq f) :=
  ⟨PI.imp (PI.or (ei_list (tg := tg) ha).pi (ei_tup (tg := tg) ha).pi) fun σ H R ⟨ρ, F, ds, e, h1, k⟩ => by
    unfold iSeq at h1
    rw [Option.bind_eq_some_iff] at h1
    obtain ⟨x, h2, h3⟩ := h1
    unfold seqOf at h3
    split at h3
    · cases h3
      exact .inl ⟨ρ, F, ds, e, by simp only [h2, Option.bind_some], k⟩
    · cases h3
      exact .inr ⟨ρ, F, ds, e, by simp only [h2, Option.bind_some], k⟩
    · cases h3⟩
/-- a test for which one's own list is frozen, but not longer -/
def bTmp (i : Nat) (fb : DenB) : DenB := fun ρ => fb (frz i ρ)
theorem et_tmp (i : Nat) {fb : DenB} (ht : ET X c fb) : ET X c (bTmp i fb) :=
  ⟨PT.imp ht.pt fun σ H Q ⟨ρ, F, b, e, h1, k⟩ => by
    have e0 : EnvS X.K F F ρ σ F H := ⟨e, ⟨.refl _, e.sub, e.sub, fun a h1 h2 => absurd h2 h1⟩, fun i d a g1 g2 => by
      obtain ⟨ov, h1, q, o, h2, h3, h4, h5⟩ := e.at_ i _ g1
      rw [g2] at h1
      cases h1
      cases h2
      exact h3⟩
    obtain ⟨F', e'⟩ := e0.frz i
    exact ⟨_, F', b, e'.env, h1, fun F2 H2 x => k F H2 ⟨.refl _, x.h, e.sub.trans x.h, fun _ _ h => h⟩⟩⟩
end
def mulI : D → D → Option D | .int i, .int j => mulD (.int i) (.int j) | _, _ => none
def repD : D → D → Option D | .list xs, .int j => mulD (.list xs) (.int j) | _, _ => none
def catL : D → D → Option D | .list xs, .list ys => addD (.list xs) (.list ys) | _, _ => none
section
variable {X : Cx} {a b : Expr} {f g : Den} {pos : Pos}
theorem ex_mulI (ha : EB X a f) (hb : EB X b g) : EX X (.BinOp a .Mult b pos) (d2 mulI f g) := ex_mul ha hb
theorem en_repD (ha : EB X a f) (hb : EB X b g) : EN X (.BinOp a .Mult b pos) (d2 repD f g) := en_rep ha hb
theorem en_catL (ha : EB X a f) (hb : EB X b g) : EN X (.BinOp a .Add b pos) (d2 catL f g) := en_cat ha hb
end
theorem Room.u68 {k : Nat} {A : Around} (r : Room k A) : A.units + 68 < cLine := by have := r.un; omega
theorem gl_of {X : Cx} {x : Str} (h : X.env.kindOf x = some .globalImplicit) : Gl X x := h
/-- the i-th top statement -/
abbrev topOf (P : Program) (i : Nat) : Stmt := P.main.body.getD i (.Pass ⟨0, 0, 0, 0⟩)
end Zx
/-! Y1: reading denotations: loops, the draws, fractions. -/
namespace Zx
open PySem PySem.Spec L2
/-! ### loops -/
theorem forL_ok {g : DenG} {fb : DenS} (P : Nat → Env → Prop) : ∀ (ds : List D) (i : Nat) (ρ : Env), P i ρ →
    (∀ j d ρ, ds[j]? = some d → P (i + j) ρ → ∃ ρ1 o, g d ρ = some ρ1 ∧ fb ρ1 = some o ∧ ((∃ ρ2, (o = .nx ρ2 ∨ o = .ct ρ2) ∧ P (i + j + 1) ρ2))) → ∃ ρ', forL g fb ds ρ = some (.nx ρ') ∧ P (i + ds.length) ρ'
  | [], i, ρ, h, _ => ⟨ρ, rfl, h⟩
  | d :: ds, i, ρ, h, hs => by
    obtain ⟨ρ1, o, h1, h2, ρ2, h3, h4⟩ := hs 0 d ρ rfl h
    obtain ⟨ρ', h5, h6⟩ := forL_ok P ds (i + 1) ρ2 h4 fun j e τ hj hp => by
      have := hs (j + 1) e τ (by simpa using hj) (by rw [show i + (j + 1) = i + 1 + j by omega]; exact hp)
      rw [show i + (j + 1) + 1 = i + 1 + j + 1 by omega] at this
      exact this
    refine ⟨ρ', ?_, by rw [List.length_cons, show i + (ds.length + 1) = i + 1 + ds.length by omega]; exact h6⟩
    rcases h3 with rfl | rfl
    · simp only [forL, h1, h2, Option.bind_some]; exact h5
    · simp only [forL, h1, h2, Option.bind_some]; exact h5
/-- a loop whose turns all go on -/
theorem sFor_ok {fi : DenI} {g : DenG} {fb : DenS} {ρ : Env} {ds : List D} (P : Nat → Env → Prop) (hi : fi ρ = some ds) (h0 : P 0 ρ)
    (hs : ∀ j d ρ, ds[j]? = some d → P j ρ → ∃ ρ1 o, g d ρ = some ρ1 ∧ fb ρ1 = some o ∧ ∃ ρ2, (o = .nx ρ2 ∨ o = .ct ρ2) ∧ P (j + 1) ρ2) : ∃ ρ', sFor fi g fb ρ = some (.nx ρ') ∧ P ds.length ρ' := by
  obtain ⟨ρ', h1, h2⟩ := forL_ok P ds 0 ρ h0 fun j d τ hj hp => by
    rw [Nat.zero_add] at hp ⊢
    exact hs j d τ hj hp
  rw [Nat.zero_add] at h2
  exact ⟨ρ', by unfold sFor; rw [hi]; exact h1, h2⟩
theorem sSeq_nx {f g : DenS} {ρ ρ' : Env} (h : f ρ = some (.nx ρ')) : sSeq f g ρ = g ρ' := by
  unfold sSeq
  rw [h]
  rfl
theorem sSeq_rt {f g : DenS} {ρ : Env} {d : D} (h : f ρ = some (.rt d)) : sSeq f g ρ = some (.rt d) := by
  unfold sSeq
  rw [h]
  rfl
theorem sIf_t {c : DenB} {f g : DenS} {ρ : Env} (h : c ρ = some true) : sIf c f g ρ = f ρ := by
  unfold sIf
  rw [h]
  rfl
theorem sIf_f {c : DenB} {f g : DenS} {ρ : Env} (h : c ρ = some false) : sIf c f g ρ = g ρ := by
  unfold sIf
  rw [h]
  rfl
/-- small numbers may be multiplied -/
def Sm (n : Nat) (a : Int) : Prop := a.natAbs < 2 ^ n
theorem log2_lt {a n : Nat} (h : a < 2 ^ n) (hn : 0 < n) : a.log2 < n := by
  rcases Nat.eq_zero_or_pos a with rfl | ha
  · simpa using hn
  · exact (Nat.log2_lt (by omega)).mpr h
theorem mulOk_of {a b : Int} (ha : a.natAbs < 2 ^ 10000) (hb : b.natAbs < 2 ^ 10000) : mulOk a b = true := by
  unfold mulOk
  have := log2_lt ha (by decide)
  have := log2_lt hb (by decide)
  exact decide_eq_true (by omega)
section
@[simp] theorem vR_s (i : Nat) {ρ : Env} : vR i ρ = (match ρ[i]? with | some (.fz d) => some d | _ => none) := (rfl)
@[simp] theorem vB_s (i : Nat) {ρ : Env} : vB i ρ = (match ρ[i]? with | some (.fz d) => some d | some (.ow d) => some d | _ => none) := (rfl)
@[simp] theorem kD_s (d : D) {ρ : Env} : kD d ρ = (some d) := (rfl)
@[simp] theorem d1_s (op : D → Option D) (f : Den) {ρ : Env} : d1 op f ρ = ((f ρ).bind op) := (rfl)
@[simp] theorem d2_s (op : D → D → Option D) (f g : Den) {ρ : Env} : d2 op f g ρ = ((f ρ).bind fun x => (g ρ).bind fun y => op x y) := (rfl)
@[simp] theorem d3_s (op : D → D → D → Option D) (f g h : Den) {ρ : Env} : d3 op f g h ρ = ((f ρ).bind fun x => (g ρ).bind fun y => (h ρ).bind fun z => op x y z) := (rfl)
@[simp] theorem b1_s (op : D → Option Bool) (f : Den) {ρ : Env} : b1 op f ρ = ((f ρ).bind op) := (rfl)
@[simp] theorem b2_s (op : D → D → Option Bool) (f g : Den) {ρ : Env} : b2 op f g ρ = ((f ρ).bind fun x => (g ρ).bind fun y => op x y) := (rfl)
@[simp] theorem bV_s (f : DenB) {ρ : Env} : bV f ρ = ((f ρ).bind fun b => some (.bool b)) := (rfl)
@[simp] theorem bCh_s (op op' : D → D → Option Bool) (f g h : Den) {ρ : Env} : bCh op op' f g h ρ = ((f ρ).bind fun x => (g ρ).bind fun y => (op x y).bind fun b => if b then (h ρ).bind fun z => op' y z else some false) := (rfl)
@[simp] theorem bNot_s (f : DenB) {ρ : Env} : bNot f ρ = ((f ρ).bind fun b => some (!b)) := (rfl)
@[simp] theorem bAnd_s (f g : DenB) {ρ : Env} : bAnd f g ρ = ((f ρ).bind fun b => if b then g ρ else some false) := (rfl)
@[simp] theorem bOr_s (f g : DenB) {ρ : Env} : bOr f g ρ = ((f ρ).bind fun b => if b then some true else g ρ) := (rfl)
@[simp] theorem bYes_s {ρ : Env} : bYes  ρ = (some true) := (rfl)
@[simp] theorem bTmp_s (i : Nat) (fb : DenB) {ρ : Env} : bTmp i fb ρ = (fb (frz i ρ)) := (rfl)
@[simp] theorem dIf_s (c : DenB) (f g : Den) {ρ : Env} : dIf c f g ρ = ((c ρ).bind fun b => if b then f ρ else g ρ) := (rfl)
@[simp] theorem dAnd_s (f g : Den) {ρ : Env} : dAnd f g ρ = ((f ρ).bind fun x => match x with | .bool true => g ρ | .bool false => some (.bool false) | _ => none) := (rfl)
@[simp] theorem dOr_s (f g : Den) {ρ : Env} : dOr f g ρ = ((f ρ).bind fun x => match x with | .bool true => some (.bool true) | .bool false => g ρ | _ => none) := (rfl)
@[simp] theorem lNil_s {ρ : Env} : lNil  ρ = (some []) := (rfl)
@[simp] theorem lCons_s (f : Den) (g : DenL) {ρ : Env} : lCons f g ρ = ((f ρ).bind fun x => (g ρ).bind fun xs => some (x :: xs)) := (rfl)
@[simp] theorem lStar_s (f : Den) (g : DenL) {ρ : Env} : lStar f g ρ = ((f ρ).bind fun x => (seqOf x).bind fun ys => (g ρ).bind fun xs => some (ys ++ xs)) := (rfl)
@[simp] theorem mkT_s (g : DenL) {ρ : Env} : mkT g ρ = ((g ρ).bind fun xs => if xs.length ≤ 1000000 then some (.tuple xs) else none) := (rfl)
@[simp] theorem mkL_s (g : DenL) {ρ : Env} : mkL g ρ = ((g ρ).bind fun xs => if xs.length ≤ 1000000 then some (.list xs) else none) := (rfl)
@[simp] theorem dCall_s (fl : DenL) (fn : List D → Option D) {ρ : Env} : dCall fl fn ρ = ((fl ρ).bind fn) := (rfl)
@[simp] theorem sSeq_s (f g : DenS) {ρ : Env} : sSeq f g ρ = ((f ρ).bind fun o => match o with | .nx ρ' => g ρ' | o => some o) := (rfl)
@[simp] theorem sSet_s (i : Nat) (f : Den) {ρ : Env} : sSet i f ρ = ((f ρ).bind fun d => some (.nx (ρ.set i (.fz d)))) := (rfl)
@[simp] theorem sOwn_s (i : Nat) (f : Den) {ρ : Env} : sOwn i f ρ = ((f ρ).bind fun d => some (.nx (ρ.set i (.ow d)))) := (rfl)
@[simp] theorem sIf_s (c : DenB) (f g : DenS) {ρ : Env} : sIf c f g ρ = ((c ρ).bind fun b => if b then f ρ else g ρ) := (rfl)
@[simp] theorem sRet_s (f : Den) {ρ : Env} : sRet f ρ = ((f ρ).bind fun d => some (.rt d)) := (rfl)
@[simp] theorem sAsg_s (g : DenG) (f : Den) {ρ : Env} : sAsg g f ρ = ((f ρ).bind fun d => (g d ρ).bind fun ρ' => some (.nx ρ')) := (rfl)
@[simp] theorem sDrop_s (f : Den) {ρ : Env} : sDrop f ρ = ((f ρ).bind fun _ => some (.nx ρ)) := (rfl)
@[simp] theorem sPar_s (i j : Nat) (f : DenL) {ρ : Env} : sPar i j f ρ = ((f ρ).bind fun ds => match ds with | [d, e] => some (.nx ((ρ.set i (.fz d)).set j (.fz e))) | _ => none) := (rfl)
@[simp] theorem sNo_s {ρ : Env} : sNo  ρ = (none) := (rfl)
@[simp] theorem sNx_s {ρ : Env} : sNx  ρ = (some (.nx ρ)) := (rfl)
@[simp] theorem sRetN_s {ρ : Env} : sRetN  ρ = (some (.rt .none)) := (rfl)
@[simp] theorem sBk_s {ρ : Env} : sBk  ρ = (some (.bk ρ)) := (rfl)
@[simp] theorem sCt_s {ρ : Env} : sCt  ρ = (some (.ct ρ)) := (rfl)
@[simp] theorem sFrz_s (i : Nat) (f : DenS) {ρ : Env} : sFrz i f ρ = (f (frz i ρ)) := (rfl)
@[simp] theorem sApp_s (i : Nat) (f : Den) {ρ : Env} : sApp i f ρ = ((f ρ).bind fun d => (owL ρ i).bind fun xs => if xs.length < 1000000 then some (.nx (ρ.set i (.ow (.list (xs ++ [d]))))) else none) := (rfl)
@[simp] theorem sExt_s (i : Nat) (f : Den) {ρ : Env} : sExt i f ρ = ((f ρ).bind fun d => (listOf d).bind fun ys => (owL ρ i).bind fun xs => if xs.length + ys.length ≤ 1000000 then some (.nx (ρ.set i (.ow (.list (xs ++ ys))))) else none) := (rfl)
@[simp] theorem sStD_s (i : Nat) (fk f : Den) {ρ : Env} : sStD i fk f ρ = ((f ρ).bind fun d => (fk ρ).bind fun j => (owD ρ i).bind fun xs => (putD xs j d).bind fun ys => some (.nx (ρ.set i (.ow (.dict ys))))) := (rfl)
@[simp] theorem sLcSet_s (i : Nat) (own : Bool) (f : Den) {ρ : Env} : sLcSet i own f ρ = ((f ρ).bind fun d => some (.nx (setNew i own d ρ))) := (rfl)
@[simp] theorem gN_s (i : Nat) {d : D} {ρ : Env} : gN i d ρ = (some (ρ.set i (.fz d))) := (rfl)
@[simp] theorem gT_s (gs : DenGs) (n : Nat) {d : D} {ρ : Env} : gT gs n d ρ = (match d with | .tuple ds => if ds.length = n then gs ds ρ else none | _ => none) := (rfl)
@[simp] theorem gLs_s (gs : DenGs) (n : Nat) {d : D} {ρ : Env} : gLs gs n d ρ = (match d with | .list ds => if ds.length = n then gs ds ρ else none | _ => none) := (rfl)
@[simp] theorem oNone_s {ρ : Env} : oNone  ρ = (some none) := (rfl)
@[simp] theorem oSome_s (f : Den) {ρ : Env} : oSome f ρ = ((f ρ).bind fun x => match x with | .int i => some (some i) | _ => none) := (rfl)
@[simp] theorem dSl_s (f : Den) (l h : DenO) {ρ : Env} : dSl f l h ρ = ((f ρ).bind fun x => (l ρ).bind fun lo => (h ρ).bind fun hi => cutD lo hi x) := (rfl)
@[simp] theorem iSeq_s (f : Den) {ρ : Env} : iSeq f ρ = ((f ρ).bind seqOf) := (rfl)
@[simp] theorem iR1_s (f : Den) {ρ : Env} : iR1 f ρ = ((f ρ).bind rg1) := (rfl)
@[simp] theorem iR2_s (f g : Den) {ρ : Env} : iR2 f g ρ = ((f ρ).bind fun x => (g ρ).bind fun y => rg2 x y) := (rfl)
@[simp] theorem iEn_s (f : Den) {ρ : Env} : iEn f ρ = ((f ρ).bind fun x => match x with | .list xs => some (enumL xs) | _ => none) := (rfl)
@[simp] theorem iZp_s (f g : Den) {ρ : Env} : iZp f g ρ = ((f ρ).bind fun x => (g ρ).bind fun y => match x, y with | .list xs, .list ys => some (zipL xs ys) | _, _ => none) := (rfl)
@[simp] theorem dDisp1_s (f g : Den) {ρ : Env} : dDisp1 f g ρ = ((f ρ).bind fun k => (keyOf k).bind fun _ => (g ρ).bind fun v => some (.dict [(k, v)])) := (rfl)
@[simp] theorem runX_s (fb : DenS) (n : Nat) (ds : List D) : runX fb n ds = (match fb (env0 n ds) with | some (.rt d) => some d | some (.rn d) => some d | some (.nx _) => some .none | _ => none) := (rfl)
@[simp] theorem env0_s (n : Nat) (ds : List D) : env0 n ds = ds.map .fz ++ List.replicate (n - ds.length) .no := (rfl)
@[simp] theorem frz_s (i : Nat) (ρ : Env) : frz i ρ = (match ρ[i]? with | some (.ow d) => ρ.set i (.fz d) | _ => ρ) := (rfl)
@[simp] theorem owL_s (i : Nat) (ρ : Env) : owL ρ i = (match ρ[i]? with | some (.ow (.list xs)) => some xs | _ => none) := (rfl)
@[simp] theorem gsNil_s (ρ : Env) : gsNil [] ρ = some ρ := (rfl)
@[simp] theorem gsCons_s (g : DenG) (gs : DenGs) (d : D) (r : List D) (ρ : Env) : gsCons g gs (d :: r) ρ = (g d ρ).bind fun ρ' => gs r ρ' := (rfl)
@[simp] theorem ltI_s (a b : Int) : ltI (.int a) (.int b) = some (decide (a < b)) := (rfl)
@[simp] theorem leI_s (a b : Int) : leI (.int a) (.int b) = some (decide (a ≤ b)) := (rfl)
@[simp] theorem gtI_s (a b : Int) : gtI (.int a) (.int b) = some (decide (b < a)) := (rfl)
@[simp] theorem geI_s (a b : Int) : geI (.int a) (.int b) = some (decide (b ≤ a)) := (rfl)
@[simp] theorem addD_i (a b : Int) : addD (.int a) (.int b) = some (.int (a + b)) := (rfl)
@[simp] theorem addD_l (a b : List D) : addD (.list a) (.list b) = if a.length + b.length ≤ 1000000 then some (.list (a ++ b)) else none := (rfl)
@[simp] theorem addD_t (a b : List D) : addD (.tuple a) (.tuple b) = if a.length + b.length ≤ 1000000 then some (.tuple (a ++ b)) else none := (rfl)
@[simp] theorem subD_i (a b : Int) : subD (.int a) (.int b) = some (.int (a - b)) := (rfl)
@[simp] theorem mulI_i (a b : Int) : mulI (.int a) (.int b) = if mulOk a b then some (.int (a * b)) else none := (rfl)
@[simp] theorem negD_i (a : Int) : negD (.int a) = some (.int (-a)) := (rfl)
@[simp] theorem lenD_l (a : List D) : lenD (.list a) = some (.int a.length) := (rfl)
@[simp] theorem lenD_t (a : List D) : lenD (.tuple a) = some (.int a.length) := (rfl)
@[simp] theorem intD_i (a : Int) : intD (.int a) = some (.int a) := (rfl)
@[simp] theorem intD_b (a : Bool) : intD (.bool a) = some (.int (if a then 1 else 0)) := (rfl)
@[simp] theorem absD_i (i : Int) : absD (.int i) = some (.int (if i < 0 then -i else i)) := (rfl)
@[simp] theorem minD2_i (i j : Int) : minD2 (.int i) (.int j) = some (.int (if j < i then j else i)) := (rfl)
@[simp] theorem maxD2_i (i j : Int) : maxD2 (.int i) (.int j) = some (.int (if j > i then j else i)) := (rfl)
@[simp] theorem ixD_l (xs : List D) (i : Int) : ixD (.list xs) (.int i) = atI xs i := (rfl)
@[simp] theorem ixD_t (xs : List D) (i : Int) : ixD (.tuple xs) (.int i) = atI xs i := (rfl)
@[simp] theorem seqOf_l (xs : List D) : seqOf (.list xs) = some xs := (rfl)
@[simp] theorem seqOf_t (xs : List D) : seqOf (.tuple xs) = some xs := (rfl)
@[simp] theorem modD_i (a b : Int) : modD (.int a) (.int b) = if 0 < b then some (.int (a % b)) else none := (rfl)
@[simp] theorem fdivD_i (a b : Int) : fdivD (.int a) (.int b) = if 0 < b ∧ b.natAbs.log2 < 9000 then some (.int (a / b)) else none := (rfl)
@[simp] theorem gcdD_i (a b : Int) : gcdD (.int a) (.int b) = some (.int (Nat.gcd a.natAbs b.natAbs : Nat)) := (rfl)
theorem atI_nat (xs : List D) (i : Nat) (h : i < xs.length) : atI xs (i : Int) = xs[i]? := by
  unfold atI ixN
  simp [h]
@[simp] theorem atI_0 (x : D) (xs : List D) : atI (x :: xs) 0 = some x := atI_nat _ 0 (by simp)
@[simp] theorem atI_1 (x y : D) (xs : List D) : atI (x :: y :: xs) 1 = some y := atI_nat _ 1 (by simp)
@[simp] theorem atI_2 (x y z : D) (xs : List D) : atI (x :: y :: z :: xs) 2 = some z := atI_nat _ 2 (by simp)
end
namespace Cm
noncomputable def D__law_draws : DenS :=
  (sSeq (sOwn 1 (mkL lNil))
  (sSeq (sFor (iR1 (d2 minD2 (kD (.int 63)) (d1 lenD (vR 0)))) (gN 2) (sSeq (sSet 3 (d1 absD (d2 ixD (vR 0) (vR 2))))
   (sIf (b2 geI (vR 3) (d2 powD (kD (.int 10)) (kD (.int 18)))) (sFor (iR1 (kD (.int 60))) (gN 4) (sIf (b2 gtI (vR 3) (kD (.int 0))) (sSeq (sApp 1 (d2 modD (d1 intD (vR 3)) (kD (.int 65536))))
      (sSet 3 (d2 fdivD (vR 3) (kD (.int 65536))))) sNx)) (sSeq (sSet 5 (d2 modD (d1 intD (d2 addD (d2 mulI (vR 3) (kD (.int 48271))) (d2 mulI (d2 addD (vR 2) (kD (.int 1))) (kD (.int 69621))))) (kD (.int 2147483647))))
    (sSeq (sSet 5 (d2 modD (d1 intD (d2 addD (d2 addD (d2 mulI (vR 5) (kD (.int 16807))) (d2 mulI (kD (.int 11)) (vR 2))) (kD (.int 5)))) (kD (.int 2147483629))))
    (sSeq (sApp 1 (d2 modD (d1 intD (vR 5)) (kD (.int 65536))))
    (sApp 1 (d2 modD (d1 intD (d2 fdivD (vR 5) (kD (.int 65536)))) (kD (.int 32768))))))))))
  (sFrz 1 (sRet (vR 1)))))
noncomputable def f__law_draws : List D → Option D := runX D__law_draws 6
noncomputable def D__law_mix : DenS :=
  (sSeq (sSet 3 (kD (.int 0)))
  (sSeq (sIf (b2 gtI (d1 lenD (vR 0)) (kD (.int 0))) (sSet 3 (d2 ixD (vR 0) (d2 modD (d1 intD (vR 1)) (d1 lenD (vR 0))))) sNx)
  (sSeq (sIf (b2 ltI (vR 1) (d1 lenD (vR 0))) (sRet (d2 modD (d1 intD (vR 3)) (vR 2))) sNx)
  (sRet (d2 modD (d1 intD (d2 fdivD (d1 intD (d2 addD (d2 mulI (vR 3) (kD (.int 7919))) (d2 mulI (vR 1) (kD (.int 104729))))) (kD (.int 3)))) (vR 2))))))
noncomputable def f__law_mix : List D → Option D := runX D__law_mix 4
noncomputable def D_fraction : DenS :=
  (sSeq (sIf (b2 ltI (vR 1) (kD (.int 0))) (sPar 0 1 (lCons (d1 negD (vR 0)) (lCons (d1 negD (vR 1)) lNil))) sNx)
  (sSeq (sSet 2 (d2 gcdD (vR 0) (vR 1)))
  (sRet (mkT (lCons (d2 fdivD (vR 0) (vR 2)) (lCons (d2 fdivD (vR 1) (vR 2)) lNil))))))
noncomputable def f_fraction : List D → Option D := runX D_fraction 3
noncomputable def D_plus : DenS :=
  (sRet (dCall (lCons (d2 addD (d2 mulI (d2 ixD (vR 0) (kD (.int 0))) (d2 ixD (vR 1) (kD (.int 1)))) (d2 mulI (d2 ixD (vR 1) (kD (.int 0))) (d2 ixD (vR 0) (kD (.int 1))))) (lCons (d2 mulI (d2 ixD (vR 0) (kD (.int 1))) (d2 ixD (vR 1) (kD (.int 1)))) lNil)) f_fraction))
noncomputable def f_plus : List D → Option D := runX D_plus 2
noncomputable def D_times : DenS :=
  (sRet (dCall (lCons (d2 mulI (d2 ixD (vR 0) (kD (.int 0))) (d2 ixD (vR 1) (kD (.int 0)))) (lCons (d2 mulI (d2 ixD (vR 0) (kD (.int 1))) (d2 ixD (vR 1) (kD (.int 1)))) lNil)) f_fraction))
noncomputable def f_times : List D → Option D := runX D_times 2
noncomputable def D_total : DenS :=
  (sSeq (sSet 1 (mkT (lCons (kD (.int 0)) (lCons (kD (.int 1)) lNil))))
  (sSeq (sFor (iSeq (vR 0)) (gN 2) (sSet 1 (dCall (lCons (vR 1) (lCons (vR 2) lNil)) f_plus)))
  (sRet (vR 1))))
noncomputable def f_total : List D → Option D := runX D_total 3
end Cm
/-! ### fractions -/
def frD (q : Rat) : D := .tuple [.int q.num, .int q.den]
theorem fraction_eq (a b : Int) (hb : b ≠ 0) (h1 : b.natAbs < 2 ^ 9000) : Cm.f_fraction [.int a, .int b] = some (frD ((a : Rat) / b)) := by
  have hg : 0 < Nat.gcd a.natAbs b.natAbs := Nat.gcd_pos_of_pos_right _ (by omega)
  have hl : (Nat.gcd a.natAbs b.natAbs).log2 < 9000 := log2_lt (Nat.lt_of_le_of_lt (Nat.gcd_le_right _ (by omega)) h1) (by decide)
  have key : ∀ (a b : Int), 0 < b → frD ((a : Rat) / b) = .tuple [.int (a / (Nat.gcd a.natAbs b.natAbs : Nat)), .int (b / (Nat.gcd a.natAbs b.natAbs : Nat))] := fun a b hb => by
    unfold frD
    rw [← Rat.divInt_eq_div, Rat.num_divInt, Rat.den_divInt, if_neg (by omega)]
    have e1 : b.sign = 1 := Int.sign_eq_one_of_pos hb
    have e2 : b.gcd a = Nat.gcd a.natAbs b.natAbs := by rw [Int.gcd_comm]; rfl
    have e3 : ((b.natAbs : Nat) : Int) = b := by omega
    rw [e1, e2, Int.one_mul, Int.natCast_ediv, e3]
  unfold Cm.f_fraction Cm.D_fraction
  by_cases h : b < 0
  · have := key (-a) (-b) (by omega)
    rw [show (((-a : Int) : Rat) / ((-b : Int) : Rat)) = (a : Rat) / b by
      rw [Rat.intCast_neg, Rat.intCast_neg]; grind] at this
    rw [this]
    simp [h, hl, hb]
  · rw [key a b (by omega)]
    simp [h, hl, hb]
/-- a fraction of small parts -/
def Sq (q : Rat) : Prop := q.num.natAbs < 2 ^ 4000 ∧ q.den < 2 ^ 4000
theorem pow_mul_lt {a b m n : Nat} (ha : a < 2 ^ m) (hb : b < 2 ^ n) : a * b < 2 ^ (m + n) := by
  rw [Nat.pow_add]
  exact Nat.mul_lt_mul'' ha hb
theorem plus_eq (p q : Rat) (hp : Sq p) (hq : Sq q) : Cm.f_plus [frD p, frD q] = some (frD (p + q)) := by
  have hw : ∀ a b : Nat, a < 2 ^ 4000 → b < 2 ^ 4000 → a * b < 2 ^ 9000 := fun a b ha hb => Nat.lt_of_lt_of_le (pow_mul_lt ha hb) (Nat.pow_le_pow_right (by decide) (by decide))
  have h1 : ∀ a b : Int, a.natAbs < 2 ^ 4000 → b.natAbs < 2 ^ 4000 → mulOk a b = true := fun a b ha hb => mulOk_of (Nat.lt_of_lt_of_le ha (Nat.pow_le_pow_right (by decide) (by decide))) (Nat.lt_of_lt_of_le hb (Nat.pow_le_pow_right (by decide) (by decide)))
  have e1 := h1 p.num q.den hp.1 (by simpa using hq.2)
  have e2 := h1 q.num p.den hq.1 (by simpa using hp.2)
  have e3 := h1 p.den q.den (by simpa using hp.2) (by simpa using hq.2)
  have hd : ((p.den : Int) * (q.den : Int)) ≠ 0 := by
    have := p.den_nz; have := q.den_nz
    exact Int.mul_ne_zero (by omega) (by omega)
  have key := fraction_eq (p.num * q.den + q.num * p.den) (p.den * q.den) hd (by rw [Int.natAbs_mul]; exact hw _ _ (by simpa using hp.2) (by simpa using hq.2))
  have e4 : ((p.num * q.den + q.num * p.den : Int) : Rat) / ((p.den * q.den : Int) : Rat) = p + q := by
    rw [← Rat.divInt_eq_div, ← Int.natCast_mul, Rat.divInt_ofNat, Rat.add_def']
  rw [e4] at key
  unfold Cm.f_plus Cm.D_plus
  simp [frD, e1, e2, e3] at key ⊢
  rw [key]
  rfl
theorem times_eq (p q : Rat) (hp : Sq p) (hq : Sq q) : Cm.f_times [frD p, frD q] = some (frD (p * q)) := by
  have hw : ∀ a b : Nat, a < 2 ^ 4000 → b < 2 ^ 4000 → a * b < 2 ^ 9000 := fun a b ha hb => Nat.lt_of_lt_of_le (pow_mul_lt ha hb) (Nat.pow_le_pow_right (by decide) (by decide))
  have h1 : ∀ a b : Int, a.natAbs < 2 ^ 4000 → b.natAbs < 2 ^ 4000 → mulOk a b = true := fun a b ha hb => mulOk_of (Nat.lt_of_lt_of_le ha (Nat.pow_le_pow_right (by decide) (by decide))) (Nat.lt_of_lt_of_le hb (Nat.pow_le_pow_right (by decide) (by decide)))
  have e1 := h1 p.num q.num hp.1 hq.1
  have e3 := h1 p.den q.den (by simpa using hp.2) (by simpa using hq.2)
  have hd : ((p.den : Int) * (q.den : Int)) ≠ 0 := by
    have := p.den_nz; have := q.den_nz
    exact Int.mul_ne_zero (by omega) (by omega)
  have key := fraction_eq (p.num * q.num) (p.den * q.den) hd (by rw [Int.natAbs_mul]; exact hw _ _ (by simpa using hp.2) (by simpa using hq.2))
  have e4 : ((p.num * q.num : Int) : Rat) / ((p.den * q.den : Int) : Rat) = p * q := by
    rw [← Rat.divInt_eq_div, ← Int.natCast_mul, Rat.divInt_ofNat, Rat.mul_def']
  rw [e4] at key
  unfold Cm.f_times Cm.D_times
  simp [frD, e1, e3] at key ⊢
  rw [key]
  rfl
theorem run_seq {A B : DenS} {n : Nat} {ds : List D} {ρ' : Env} {r : Option D} (h : A (env0 n ds) = some (.nx ρ')) (h2 : (match B ρ' with | some (.rt d) => some d | some (.rn d) => some d | some (.nx _) => some .none | _ => none) = r) : runX (sSeq A B) n ds = r := by
  rw [runX_s, sSeq_nx h]
  exact h2
theorem sum_take_succ {qs : List Rat} {j : Nat} {q : Rat} (h : qs[j]? = some q) : (qs.take (j + 1)).sum = (qs.take j).sum + q := by
  rw [List.take_add_one, h, List.sum_append]
  simp [Rat.add_zero]
/-- total of fractions whose partial sums are small -/
theorem total_eq (qs : List Rat) (hs : ∀ n, Sq ((qs.take n).sum)) (hq : ∀ q ∈ qs, Sq q) : Cm.f_total [.list (qs.map frD)] = some (frD qs.sum) := by
  unfold Cm.f_total Cm.D_total
  refine run_seq (ρ' := [.fz (.list (qs.map frD)), .fz (frD 0), .no]) (by simp [frD]) ?_
  obtain ⟨ρ', h1, h2⟩ := sFor_ok (fi := iSeq (vR 0)) (g := gN 2) (fb := sSet 1 (dCall (lCons (vR 1) (lCons (vR 2) lNil)) Cm.f_plus)) (ρ := [.fz (.list (qs.map frD)), .fz (frD 0), .no]) (ds := qs.map frD)
    (fun n ρ => ∃ s, ρ = [.fz (.list (qs.map frD)), .fz (frD ((qs.take n).sum)), s]) (by simp) ⟨.no, by simp⟩ (fun j d ρ hd ⟨s, hp⟩ => by
      rw [List.getElem?_map, Option.map_eq_some_iff] at hd
      obtain ⟨q, hq1, rfl⟩ := hd
      subst hp
      refine ⟨_, _, rfl, by simp [plus_eq _ _ (hs j) (hq q (List.mem_of_getElem? hq1))]; rfl, _, .inl rfl, .fz (frD q), ?_⟩
      simp [sum_take_succ hq1])
  obtain ⟨s, rfl⟩ := h2
  rw [sSeq_nx h1]
  simp
end Zx
/-! Y2: the draws. -/
namespace Zx
open PySem PySem.Spec L2
@[simp] theorem ixD_s (ns : List Int) (i : Int) : ixD (scrD ns) (.int i) = atI (ns.map .int) i := (rfl)
@[simp] theorem lenD_s (ns : List Int) : lenD (scrD ns) = some (.int ns.length) := by simp [scrD, lenD]
@[simp] theorem pow18 : powD (.int 10) (.int 18) = some (.int 1000000000000000000) := (rfl)
theorem rgL_at {lo : Int} {n j : Nat} {d : D} (h : (rgL lo n)[j]? = some d) : j < n ∧ d = .int (lo + j) := by
  unfold rgL at h
  rw [List.getElem?_map, Option.map_eq_some_iff] at h
  obtain ⟨i, h1, rfl⟩ := h
  obtain ⟨h2, h3⟩ := List.getElem?_eq_some_iff.mp h1
  rw [List.length_range] at h2
  rw [List.getElem_range] at h3
  subst h3
  exact ⟨h2, rfl⟩
@[simp] theorem rgL_len (lo : Int) (n : Nat) : (rgL lo n).length = n := by simp [rgL]
theorem rg1_ok {n : Int} (h0 : 0 ≤ n) (h : n ≤ 1000000) : rg1 (.int n) = some (rgL 0 n.toNat) := by
  unfold rg1
  simp only
  rw [if_pos (by omega)]
theorem rg2_ok {m n : Int} (hm : -1000 ≤ m) (hm' : m ≤ 1000000) (h0 : -1000 ≤ n) (h : n ≤ 1000000) : rg2 (.int m) (.int n) = some (rgL m (n - m).toNat) := by
  unfold rg2
  simp only
  rw [if_pos ⟨by omega, by omega⟩]
/-- numbers below 65536 -/
def Dr (m : Nat) (dr : List Int) : Prop := (∀ d ∈ dr, 0 ≤ d ∧ d < 65536) ∧ dr.length ≤ m
theorem Dr.add {m : Nat} {dr : List Int} {d : Int} (h : Dr m dr) (h0 : 0 ≤ d) (h1 : d < 65536) : Dr (m + 1) (dr ++ [d]) := by
  refine ⟨fun x hx => ?_, by rw [List.length_append]; have := h.2; simpa using this⟩
  rcases List.mem_append.mp hx with hx | hx
  · exact h.1 x hx
  · rw [List.mem_singleton] at hx
    subst hx
    exact ⟨h0, h1⟩
theorem Dr.le {m n : Nat} {dr : List Int} (h : Dr m dr) (hl : m ≤ n) : Dr n dr := ⟨h.1, Nat.le_trans h.2 hl⟩
theorem mulOk_i {a b : Int} {m n : Nat} (ha : a.natAbs < 2 ^ m) (hb : b.natAbs < 2 ^ n) (hm : 2 ^ m ≤ 2 ^ 10000) (hn : 2 ^ n ≤ 2 ^ 10000) : mulOk a b = true := mulOk_of (Nat.lt_of_lt_of_le ha hm) (Nat.lt_of_lt_of_le hb hn)
theorem mulOk64 {a b : Int} (ha : a.natAbs < 2 ^ 64) (hb : b.natAbs < 2 ^ 64) : mulOk a b = true := by
  unfold mulOk
  have := log2_lt ha (by decide)
  have := log2_lt hb (by decide)
  exact decide_eq_true (by omega)
theorem draws_ok (ns : List Int) (hn : ns.length ≤ 63) : ∃ dr : List Int, Cm.f__law_draws [scrD ns] = some (.list (dr.map .int)) ∧ Dr 3780 dr := by
  unfold Cm.f__law_draws Cm.D__law_draws
  obtain ⟨ρ', h1, h2⟩ := sFor_ok (fi := iR1 (d2 minD2 (kD (.int 63)) (d1 lenD (vR 0)))) (g := gN 2)
    (fb := sSeq (sSet 3 (d1 absD (d2 ixD (vR 0) (vR 2)))) (sIf (b2 geI (vR 3) (d2 powD (kD (.int 10)) (kD (.int 18)))) (sFor (iR1 (kD (.int 60))) (gN 4) (sIf (b2 gtI (vR 3) (kD (.int 0))) (sSeq (sApp 1 (d2 modD (d1 intD (vR 3)) (kD (.int 65536)))) (sSet 3 (d2 fdivD (vR 3) (kD (.int 65536))))) sNx))
      (sSeq (sSet 5 (d2 modD (d1 intD (d2 addD (d2 mulI (vR 3) (kD (.int 48271))) (d2 mulI (d2 addD (vR 2) (kD (.int 1))) (kD (.int 69621))))) (kD (.int 2147483647))))
        (sSeq (sSet 5 (d2 modD (d1 intD (d2 addD (d2 addD (d2 mulI (vR 5) (kD (.int 16807))) (d2 mulI (kD (.int 11)) (vR 2))) (kD (.int 5)))) (kD (.int 2147483629))))
          (sSeq (sApp 1 (d2 modD (d1 intD (vR 5)) (kD (.int 65536)))) (sApp 1 (d2 modD (d1 intD (d2 fdivD (vR 5) (kD (.int 65536)))) (kD (.int 32768)))))))))
    (ρ := [.fz (scrD ns), .ow (.list []), .no, .no, .no, .no]) (ds := rgL 0 ns.length)
    (fun n ρ => ∃ dr s2 s3 s4 s5, ρ = [.fz (scrD ns), .ow (.list (dr.map .int)), s2, s3, s4, s5] ∧ Dr (60 * n) dr)
    (by
      have : (if (ns.length : Int) < 63 then (ns.length : Int) else 63) = ns.length := by split <;> omega
      simp [this]
      rw [rg1_ok (by omega) (by omega)]
      simp) ⟨[], .no, .no, .no, .no, by simp, by simp [Dr]⟩ (fun j d ρ hd ⟨dr, s2, s3, s4, s5, hp, hdr⟩ => by
      obtain ⟨hj, rfl⟩ := rgL_at hd
      subst hp
      have ha : atI (ns.map PyData.int) (0 + (j : Int)) = some (.int ns[j]) := by
        rw [Int.zero_add, atI_nat _ j (by simpa using hj)]
        simp [hj]
      refine ⟨[.fz (scrD ns), .ow (.list (dr.map .int)), .fz (.int (0 + j)), s3, s4, s5], ?_⟩
      generalize hr : (if ns[j] < 0 then -ns[j] else ns[j]) = rest
      have hr0 : 0 ≤ rest := by subst hr; split <;> omega
      have hq : 0 + (j : Int) < 63 := by omega
      generalize hk : (0 : Int) + (j : Int) = k at ha hq
      have hk0 : 0 ≤ k := by omega
      have e1 : sSet 3 (d1 absD (d2 ixD (vR 0) (vR 2))) [.fz (scrD ns), .ow (.list (dr.map .int)), .fz (.int k), s3, s4, s5] = some (.nx [.fz (scrD ns), .ow (.list (dr.map .int)), .fz (.int k), .fz (.int rest), s4, s5]) := by
        simp [ha, hr]
      rw [sSeq_nx e1]
      by_cases hb : 1000000000000000000 ≤ rest
      · obtain ⟨ρ2, g1, g2⟩ := sFor_ok (fi := iR1 (kD (.int 60))) (g := gN 4) (fb := sIf (b2 gtI (vR 3) (kD (.int 0))) (sSeq (sApp 1 (d2 modD (d1 intD (vR 3)) (kD (.int 65536)))) (sSet 3 (d2 fdivD (vR 3) (kD (.int 65536))))) sNx)
          (ρ := [.fz (scrD ns), .ow (.list (dr.map .int)), .fz (.int k), .fz (.int rest), s4, s5]) (ds := rgL 0 60)
          (fun n ρ => ∃ dr r t4, ρ = [.fz (scrD ns), .ow (.list (dr.map .int)), .fz (.int k), .fz (.int r), t4, s5] ∧ Dr (60 * j + n) dr) (by simp [rg1]) ⟨dr, rest, s4, rfl, hdr⟩
          (fun i e τ he ⟨dr', r, t4, hp', hd'⟩ => by
            subst hp'
            obtain ⟨hi, rfl⟩ := rgL_at he
            by_cases h0 : 0 < r
            · have hm1 := Int.emod_nonneg r (b := 65536) (by omega)
              have hm2 := Int.emod_lt_of_pos r (b := 65536) (by omega)
              have hl := hd'.2
              refine ⟨_, _, rfl, by
                have hlt : dr'.length < 1000000 := by omega
                simp [h0, hlt]; rfl, _, .inl rfl, dr' ++ [r % 65536], r / 65536, .fz (.int (0 + i)), by simp, ?_⟩
              exact (hd'.add hm1 hm2)
            · exact ⟨_, _, rfl, by simp [h0]; rfl, _, .inl rfl, dr', r, .fz (.int (0 + i)), by simp, hd'.le (by omega)⟩)
        obtain ⟨dr', r, t4, rfl, hd'⟩ := g2
        refine ⟨_, rfl, ?_, _, .inl rfl, dr', .fz (.int k), .fz (.int r), t4, s5, rfl, hd'.le (by simp; omega)⟩
        rw [sIf_t (by simp [hb])]
        exact g1
      · have hlt : rest < 1000000000000000000 := by omega
        have m1 : mulOk rest 48271 = true := mulOk64 (by omega) (by decide)
        have m2 : mulOk (k + 1) 69621 = true := mulOk64 (by omega) (by decide)
        generalize hx : (rest * 48271 + (k + 1) * 69621) % 2147483647 = x
        have hx1 : 0 ≤ x := by rw [← hx]; exact Int.emod_nonneg _ (by omega)
        have hx2 : x < 2147483647 := by rw [← hx]; exact Int.emod_lt_of_pos _ (by omega)
        have m3 : mulOk x 16807 = true := mulOk64 (by omega) (by decide)
        have m4 : mulOk 11 k = true := mulOk64 (by decide) (by omega)
        generalize hy : (x * 16807 + 11 * k + 5) % 2147483629 = y
        have hl := hdr.2
        have l1 : dr.length < 1000000 := by omega
        have l2 : dr.length + 1 < 1000000 := by omega
        refine ⟨_, rfl, by
          rw [sIf_f (by simp; omega)]
          simp [m1, m2, m3, m4, hx, hy, l1, l2]; rfl, _, .inl rfl, dr ++ [y % 65536, y / 65536 % 32768], .fz (.int k), .fz (.int rest), s4, .fz (.int y), by simp, ?_⟩
        have a1 := Int.emod_nonneg y (b := 65536) (by omega)
        have a2 := Int.emod_lt_of_pos y (b := 65536) (by omega)
        have a3 := Int.emod_nonneg (y / 65536) (b := 32768) (by omega)
        have a4 := Int.emod_lt_of_pos (y / 65536) (b := 32768) (by omega)
        have := (hdr.add a1 a2).add a3 (by omega)
        rw [List.append_assoc] at this
        exact this.le (by omega))
  obtain ⟨dr, s2, s3, s4, s5, rfl, hdr⟩ := h2
  refine ⟨dr, run_seq (ρ' := [.fz (scrD ns), .ow (.list []), .no, .no, .no, .no]) (by simp) ?_, hdr.le (by simp; omega)⟩
  rw [sSeq_nx h1]
  simp
theorem atI_int (xs : List D) (i : Int) (h0 : 0 ≤ i) (h : i < xs.length) : atI xs i = xs[i.toNat]? := by
  have := atI_nat xs i.toNat (by omega)
  rw [show ((i.toNat : Nat) : Int) = i by omega] at this
  exact this
theorem mix_ok {m : Nat} {dr : List Int} (hd : Dr m dr) (hm : m ≤ 100000) (k many : Int) (hk : 0 ≤ k) (hk2 : k < 1000000) (h0 : 0 < many) : ∃ x, Cm.f__law_mix [.list (dr.map .int), .int k, .int many] = some (.int x) ∧ 0 ≤ x ∧ x < many := by
  unfold Cm.f__law_mix Cm.D__law_mix
  have hl := hd.2
  have cell : ∃ c : Int, sIf (b2 gtI (d1 lenD (vR 0)) (kD (.int 0))) (sSet 3 (d2 ixD (vR 0) (d2 modD (d1 intD (vR 1)) (d1 lenD (vR 0))))) sNx [.fz (.list (dr.map .int)), .fz (.int k), .fz (.int many), .fz (.int 0)] =
      some (.nx [.fz (.list (dr.map .int)), .fz (.int k), .fz (.int many), .fz (.int c)]) ∧ 0 ≤ c ∧ c < 65536 := by
    by_cases hz : 0 < dr.length
    · have hz' : (0 : Int) < dr.length := by omega
      have a1 := Int.emod_nonneg k (b := dr.length) (by omega)
      have a2 := Int.emod_lt_of_pos k hz'
      have ha : atI (dr.map PyData.int) (k % (dr.length : Int)) = some (.int (dr[(k % (dr.length : Int)).toNat]'(by omega))) := by
        have hlt : (k % (dr.length : Int)).toNat < dr.length := by omega
        rw [atI_int _ _ a1 (by simpa using a2), List.getElem?_map, List.getElem?_eq_getElem hlt]
        rfl
      refine ⟨dr[(k % (dr.length : Int)).toNat]'(by omega), ?_, hd.1 _ (List.getElem_mem _)⟩
      simp [hz, ha]
    · refine ⟨0, ?_, by omega, by omega⟩
      simp [hz]
  obtain ⟨c, hc, hc0, hc1⟩ := cell
  have m1 : mulOk c 7919 = true := mulOk64 (by omega) (by decide)
  have m2 : mulOk k 104729 = true := mulOk64 (by omega) (by decide)
  by_cases hkl : k < dr.length
  · refine ⟨c % many, run_seq (ρ' := [.fz (.list (dr.map .int)), .fz (.int k), .fz (.int many), .fz (.int 0)]) (by simp) ?_, Int.emod_nonneg _ (by omega), Int.emod_lt_of_pos _ h0⟩
    rw [sSeq_nx hc]
    simp [hkl, h0]
  · refine ⟨((c * 7919 + k * 104729) / 3) % many, run_seq (ρ' := [.fz (.list (dr.map .int)), .fz (.int k), .fz (.int many), .fz (.int 0)]) (by simp) ?_, Int.emod_nonneg _ (by omega), Int.emod_lt_of_pos _ h0⟩
    rw [sSeq_nx hc]
    have l3 : Nat.log2 3 < 9000 := by decide
    simp [hkl, h0, m1, m2, l3]
end Zx
/-! Bin: binomial numbers, sums over ranges. -/
namespace Zx
def C : Nat → Nat → Nat
  | _, 0 => 1
  | 0, _ + 1 => 0
  | n + 1, k + 1 => C n k + C n (k + 1)
@[simp] theorem C_zero (n : Nat) : C n 0 = 1 := by cases n <;> rfl
theorem C_succ (n k : Nat) : C (n + 1) (k + 1) = C n k + C n (k + 1) := rfl
theorem C_big : ∀ {n k : Nat}, n < k → C n k = 0
  | 0, 0, h => absurd h (Nat.lt_irrefl _)
  | 0, _ + 1, _ => rfl
  | n + 1, 0, h => absurd h (Nat.not_lt_zero _)
  | n + 1, k + 1, h => by rw [C_succ, C_big (by omega), C_big (by omega)]
@[simp] theorem C_self : ∀ n : Nat, C n n = 1
  | 0 => rfl
  | n + 1 => by rw [C_succ, C_self n, C_big (by omega)]
theorem C_pos : ∀ {n k : Nat}, k ≤ n → 0 < C n k
  | _, 0, _ => by simp
  | 0, k + 1, h => absurd h (by omega)
  | n + 1, k + 1, h => by
    rw [C_succ]
    have := C_pos (n := n) (k := k) (by omega)
    omega
theorem C_le : ∀ (n k : Nat), C n k ≤ 2 ^ n
  | _, 0 => by simpa using Nat.one_le_two_pow
  | 0, k + 1 => by simp [C]
  | n + 1, k + 1 => by
    rw [C_succ, Nat.pow_succ]
    have := C_le n k; have := C_le n (k + 1)
    omega
/-- the step of the loop -/
theorem C_step : ∀ (n k : Nat), C n (k + 1) * (k + 1) = C n k * (n - k)
  | 0, 0 => by simp [C]
  | 0, k + 1 => by simp [C]
  | n + 1, 0 => by
    have := C_step n 0
    rw [C_succ, C_zero, C_zero] at *
    simp at this ⊢
    omega
  | n + 1, k + 1 => by
    have h1 := C_step n k
    have h2 := C_step n (k + 1)
    rw [C_succ n (k + 1), C_succ n k]
    by_cases hk : k + 1 ≤ n
    · have e1 : n - k = (n - (k + 1)) + 1 := by omega
      have e2 : n + 1 - (k + 1) = (n - (k + 1)) + 1 := by omega
      rw [e1] at h1
      rw [e2]
      generalize n - (k + 1) = d at *
      generalize C n k = a at *
      generalize C n (k + 1) = b at *
      generalize C n (k + 1 + 1) = c at *
      grind
    · have z1 : C n (k + 1) = 0 := C_big (by omega)
      have z2 : C n (k + 1 + 1) = 0 := C_big (by omega)
      rw [z1, z2]
      by_cases hk2 : n < k
      · rw [C_big hk2]; simp
      · have : n + 1 - (k + 1) = 0 := by omega
        rw [this]; simp
/-- C N k * C k j = C N j * C (N-j) (k-j) -/
theorem C_tri : ∀ (n k j : Nat), j ≤ k → C n k * C k j = C n j * C (n - j) (k - j)
  | n, k, 0, _ => by simp
  | n, 0, j + 1, h => absurd h (by omega)
  | 0, k + 1, j + 1, h => by simp [C]
  | n + 1, k + 1, j + 1, h => by
    -- (j+1) * : by the step downwards
    have a1 : ∀ n k, C (n + 1) (k + 1) * (k + 1) = C n k * (n + 1) := fun n k => by
      have := C_step n k
      rw [C_succ, Nat.add_mul, this]
      by_cases hk : k ≤ n
      · rw [← Nat.mul_add]
        congr 1
        omega
      · rw [C_big (by omega)]; simp
    have ih := C_tri n k j (by omega)
    have b1 := a1 n k
    have b2 := a1 k j
    have b3 := a1 n j
    have e1 : n + 1 - (j + 1) = n - j := by omega
    have e2 : k + 1 - (j + 1) = k - j := by omega
    rw [e1, e2]
    have hpos : 0 < (k + 1) * (j + 1) := Nat.mul_pos (by omega) (by omega)
    refine Nat.eq_of_mul_eq_mul_right hpos ?_
    calc C (n + 1) (k + 1) * C (k + 1) (j + 1) * ((k + 1) * (j + 1)) = (C (n + 1) (k + 1) * (k + 1)) * (C (k + 1) (j + 1) * (j + 1)) := by
          simp only [Nat.mul_assoc, Nat.mul_comm, Nat.mul_left_comm]
      _ = (C n k * (n + 1)) * (C k j * (k + 1)) := by rw [b1, b2]
      _ = (C n k * C k j) * ((n + 1) * (k + 1)) := by simp only [Nat.mul_assoc, Nat.mul_comm, Nat.mul_left_comm]
      _ = (C n j * C (n - j) (k - j)) * ((n + 1) * (k + 1)) := by rw [ih]
      _ = (C n j * (n + 1)) * C (n - j) (k - j) * (k + 1) := by simp only [Nat.mul_assoc, Nat.mul_comm, Nat.mul_left_comm]
      _ = (C (n + 1) (j + 1) * (j + 1)) * C (n - j) (k - j) * (k + 1) := by rw [b3]
      _ = C (n + 1) (j + 1) * C (n - j) (k - j) * ((k + 1) * (j + 1)) := by simp only [Nat.mul_assoc, Nat.mul_comm, Nat.mul_left_comm]
theorem C_symm {n k : Nat} (h : k ≤ n) : C n k = C n (n - k) := by
  have h1 := C_tri n n k h
  have h2 := C_tri n n (n - k) (by omega)
  rw [C_self] at h1 h2
  simp at h1 h2
  have h3 := C_tri n k k (by omega)
  -- by factorials: both solve the same steps
  have key : ∀ a b, C (a + b) a = C (a + b) b := by
    intro a
    induction a with
    | zero => intro b; simp
    | succ a ih =>
      intro b
      induction b with
      | zero => simp
      | succ b ihb =>
        rw [show a + 1 + (b + 1) = (a + 1 + b) + 1 by omega, C_succ, C_succ]
        have e1 := ih (b + 1)
        rw [show a + (b + 1) = a + 1 + b by omega] at e1
        rw [e1, ← ihb]
        omega
  have := key k (n - k)
  rw [show k + (n - k) = n by omega] at this
  exact this
/-! ### sums -/
def rs (n : Nat) (f : Nat → Nat) : Nat := ((List.range n).map f).sum
theorem rs_zero (f : Nat → Nat) : rs 0 f = 0 := rfl
theorem rs_succ (n : Nat) (f : Nat → Nat) : rs (n + 1) f = rs n f + f n := by
  unfold rs
  rw [List.range_succ, List.map_append, List.sum_append]
  simp
theorem rs_succ' (n : Nat) (f : Nat → Nat) : rs (n + 1) f = f 0 + rs n fun i => f (i + 1) := by
  induction n with
  | zero => simp [rs]
  | succ n ih => rw [rs_succ, ih, rs_succ]; omega
theorem rs_congr {n : Nat} {f g : Nat → Nat} (h : ∀ i, i < n → f i = g i) : rs n f = rs n g := by
  induction n with
  | zero => rfl
  | succ n ih => rw [rs_succ, rs_succ, ih fun i hi => h i (by omega), h n (by omega)]
theorem rs_add (n : Nat) (f g : Nat → Nat) : rs n (fun i => f i + g i) = rs n f + rs n g := by
  induction n with
  | zero => rfl
  | succ n ih => rw [rs_succ, rs_succ, rs_succ, ih]; omega
theorem rs_mul (n c : Nat) (f : Nat → Nat) : rs n (fun i => c * f i) = c * rs n f := by
  induction n with
  | zero => rfl
  | succ n ih => rw [rs_succ, rs_succ, ih, Nat.mul_add]
theorem rs_split (m n : Nat) (f : Nat → Nat) : rs (m + n) f = rs m f + rs n fun i => f (m + i) := by
  induction n with
  | zero => simp [rs]
  | succ n ih => rw [← Nat.add_assoc, rs_succ, ih, rs_succ]; omega
theorem rs_zeros {n : Nat} {f : Nat → Nat} (h : ∀ i, i < n → f i = 0) : rs n f = 0 := by
  rw [rs_congr (g := fun _ => 0) h]
  induction n with
  | zero => rfl
  | succ n ih => rw [rs_succ, ih fun i hi => h i (by omega)]
theorem rs_rev (n : Nat) (f : Nat → Nat) : rs (n + 1) f = rs (n + 1) fun i => f (n - i) := by
  induction n generalizing f with
  | zero => rfl
  | succ n ih =>
    rw [rs_succ, ih f, rs_succ' (n + 1) fun i => f (n + 1 - i), Nat.add_comm]
    congr 1
    refine rs_congr fun i hi => ?_
    rw [show n + 1 - (i + 1) = n - i by omega]
/-- Vandermonde -/
theorem vdm : ∀ (a b k : Nat), rs (k + 1) (fun i => C a i * C b (k - i)) = C (a + b) k
  | 0, b, k => by
    rw [rs_succ', rs_zeros (fun i _ => by simp [C])]
    simp
  | a + 1, b, 0 => by simp [rs]
  | a + 1, b, k + 1 => by
    rw [rs_succ']
    have e1 : rs (k + 1) (fun i => C (a + 1) (i + 1) * C b (k + 1 - (i + 1))) = rs (k + 1) (fun i => C a i * C b (k - i)) + rs (k + 1) (fun i => C a (i + 1) * C b (k + 1 - (i + 1))) := by
      rw [← rs_add]
      refine rs_congr fun i hi => ?_
      rw [C_succ, Nat.add_mul, show k + 1 - (i + 1) = k - i by omega]
    have e2 := vdm a b (k + 1)
    rw [rs_succ'] at e2
    rw [e1, vdm a b k, show a + 1 + b = (a + b) + 1 by omega, C_succ, ← e2]
    simp
    omega
/-- strictly rising in the first place -/
theorem C_lt {s t j : Nat} (hj : 1 ≤ j) (h1 : j ≤ s) (h : s < t) : C s j < C t j := by
  obtain ⟨j, rfl⟩ : ∃ i, j = i + 1 := ⟨j - 1, by omega⟩
  have step : ∀ s, j ≤ s → C s (j + 1) < C (s + 1) (j + 1) := fun s hs => by
    rw [C_succ]
    have := C_pos hs
    omega
  induction t with
  | zero => omega
  | succ t ih =>
    by_cases ht : s < t
    · exact Nat.lt_trans (ih ht) (step t (by omega))
    · have : s = t := by omega
      subst this
      exact step s (by omega)
end Zx
namespace Zx.k75
open PySem PySem.Spec L2 Zx
abbrev PR : PySem.Program := PySem.Challenge.pw_triedwares_k75_whole_lots_turned_about
/-! ### _law_draws -/
abbrev N__law_draws : List Str := ["script", "draws", "k", "rest", "turn", "mixed"]
noncomputable def D__law_draws : DenS :=
  (sSeq (sOwn 1 (mkL lNil))
  (sSeq (sFor (iR1 (d2 minD2 (kD (.int 63)) (d1 lenD (vR 0)))) (gN 2) (sSeq (sSet 3 (d1 absD (d2 ixD (vR 0) (vR 2))))
   (sIf (b2 geI (vR 3) (d2 powD (kD (.int 10)) (kD (.int 18)))) (sFor (iR1 (kD (.int 60))) (gN 4) (sIf (b2 gtI (vR 3) (kD (.int 0))) (sSeq (sApp 1 (d2 modD (d1 intD (vR 3)) (kD (.int 65536))))
      (sSet 3 (d2 fdivD (vR 3) (kD (.int 65536))))) sNx)) (sSeq (sSet 5 (d2 modD (d1 intD (d2 addD (d2 mulI (vR 3) (kD (.int 48271))) (d2 mulI (d2 addD (vR 2) (kD (.int 1))) (kD (.int 69621))))) (kD (.int 2147483647))))
    (sSeq (sSet 5 (d2 modD (d1 intD (d2 addD (d2 addD (d2 mulI (vR 5) (kD (.int 16807))) (d2 mulI (kD (.int 11)) (vR 2))) (kD (.int 5)))) (kD (.int 2147483629))))
    (sSeq (sApp 1 (d2 modD (d1 intD (vR 5)) (kD (.int 65536))))
    (sApp 1 (d2 modD (d1 intD (d2 fdivD (vR 5) (kD (.int 65536)))) (kD (.int 32768))))))))))
  (sFrz 1 (sRet (vR 1)))))
noncomputable def f__law_draws : List D → Option D := runX D__law_draws 6
theorem sc__law_draws : FnScope N__law_draws ["script"] (defScope (topOf PR 36)) := ⟨rfl, rfl, rfl, by decide +kernel, rfl, by decide +kernel, by decide +kernel⟩
theorem b__law_draws {w : World} {K : PySem.W.Frag} {mg : Str → Option Value} {base : Heap} {f : Addr} (h_abs : mg "abs" = none) (h_int : mg "int" = none) (h_len : mg "len" = none) (h_min : mg "min" = none) (h_range : mg "range" = none) : Bd PR w K mg base 0 N__law_draws "_law_draws" (defBody (topOf PR 36)) (defScope (topOf PR 36)) f D__law_draws :=
  ⟨fun cdv A outer s H E hr => by
  have nd : N__law_draws.Nodup := sc__law_draws.nd
  exact (sxs_cons (sx_own 1 nd (by kernel_rfl) (by kernel_rfl) (by kernel_rfl) (en_lst ea_nil) (by kernel_rfl))
  (sxs_cons (sx_for PySem.PassesOwn.never rfl (ei_r1 (gl_of (by kernel_rfl)) h_range (ex_min2 rfl (gl_of (by kernel_rfl)) h_min ex_int.b (ex_len (gl_of (by kernel_rfl)) h_len (vX 0 (by kernel_rfl) (by kernel_rfl)).b (by kernel_rfl)).b (by kernel_rfl) (by kernel_rfl)) (by kernel_rfl)) (eg_name 2 nd (by kernel_rfl) (by kernel_rfl) (by kernel_rfl)) (sxs_cons (sx_set 3 nd (by kernel_rfl) (by kernel_rfl) (by kernel_rfl) (ex_abs (gl_of (by kernel_rfl)) h_abs (ex_ix (vX 0 (by kernel_rfl) (by kernel_rfl)).b (vX 2 (by kernel_rfl) (by kernel_rfl)).b (fun _ _ => rfl)).b (by kernel_rfl)) (by kernel_rfl))
   (sxs_one (sx_if (et_cmp (ec_geI (vX 3 (by kernel_rfl) (by kernel_rfl)).b (ex_pow ex_int.b ex_int.b).b) (by kernel_rfl)) (sxs_one (sx_for PySem.PassesOwn.never rfl (ei_r1 (gl_of (by kernel_rfl)) h_range ex_int (by kernel_rfl)) (eg_name 4 nd (by kernel_rfl) (by kernel_rfl) (by kernel_rfl)) (sxs_one (sx_if (et_cmp (ec_gtI (vX 3 (by kernel_rfl) (by kernel_rfl)).b ex_int.b) (by kernel_rfl)) (sxs_cons (sx_append 1 (by kernel_rfl) (by kernel_rfl) (by kernel_rfl) (by kernel_rfl) (ex_mod (ex_int1 (gl_of (by kernel_rfl)) h_int (vX 3 (by kernel_rfl) (by kernel_rfl)).b (by kernel_rfl)).b ex_int.b) (by kernel_rfl) (by kernel_rfl))
      (sxs_one (sx_set 3 nd (by kernel_rfl) (by kernel_rfl) (by kernel_rfl) (ex_fdiv (vX 3 (by kernel_rfl) (by kernel_rfl)).b ex_int.b) (by kernel_rfl)))) sxs_nil)) (fun _ => rfl))) (sxs_cons (sx_set 5 nd (by kernel_rfl) (by kernel_rfl) (by kernel_rfl) (ex_mod (ex_int1 (gl_of (by kernel_rfl)) h_int (ex_add (ex_mulI (vX 3 (by kernel_rfl) (by kernel_rfl)).b ex_int.b).b (ex_mulI (ex_add (vX 2 (by kernel_rfl) (by kernel_rfl)).b ex_int.b).b ex_int.b).b).b (by kernel_rfl)).b ex_int.b) (by kernel_rfl))
    (sxs_cons (sx_set 5 nd (by kernel_rfl) (by kernel_rfl) (by kernel_rfl) (ex_mod (ex_int1 (gl_of (by kernel_rfl)) h_int (ex_add (ex_add (ex_mulI (vX 5 (by kernel_rfl) (by kernel_rfl)).b ex_int.b).b (ex_mulI ex_int.b (vX 2 (by kernel_rfl) (by kernel_rfl)).b).b).b ex_int.b).b (by kernel_rfl)).b ex_int.b) (by kernel_rfl))
    (sxs_cons (sx_append 1 (by kernel_rfl) (by kernel_rfl) (by kernel_rfl) (by kernel_rfl) (ex_mod (ex_int1 (gl_of (by kernel_rfl)) h_int (vX 5 (by kernel_rfl) (by kernel_rfl)).b (by kernel_rfl)).b ex_int.b) (by kernel_rfl) (by kernel_rfl))
    (sxs_one (sx_append 1 (by kernel_rfl) (by kernel_rfl) (by kernel_rfl) (by kernel_rfl) (ex_mod (ex_int1 (gl_of (by kernel_rfl)) h_int (ex_fdiv (vX 5 (by kernel_rfl) (by kernel_rfl)).b ex_int.b).b (by kernel_rfl)).b ex_int.b) (by kernel_rfl) (by kernel_rfl))))))))) (fun _ => rfl))
  (sxs_one (sx_frz 1 (sx_ret (vX 1 (by kernel_rfl) (by kernel_rfl)))))))⟩
/-! ### _law_mix -/
abbrev N__law_mix : List Str := ["draws", "k", "many", "cell"]
noncomputable def D__law_mix : DenS :=
  (sSeq (sSet 3 (kD (.int 0)))
  (sSeq (sIf (b2 gtI (d1 lenD (vR 0)) (kD (.int 0))) (sSet 3 (d2 ixD (vR 0) (d2 modD (d1 intD (vR 1)) (d1 lenD (vR 0))))) sNx)
  (sSeq (sIf (b2 ltI (vR 1) (d1 lenD (vR 0))) (sRet (d2 modD (d1 intD (vR 3)) (vR 2))) sNx)
  (sRet (d2 modD (d1 intD (d2 fdivD (d1 intD (d2 addD (d2 mulI (vR 3) (kD (.int 7919))) (d2 mulI (vR 1) (kD (.int 104729))))) (kD (.int 3)))) (vR 2))))))
noncomputable def f__law_mix : List D → Option D := runX D__law_mix 4
theorem sc__law_mix : FnScope N__law_mix ["draws", "k", "many"] (defScope (topOf PR 37)) := ⟨rfl, rfl, rfl, by decide +kernel, rfl, by decide +kernel, by decide +kernel⟩
theorem b__law_mix {w : World} {K : PySem.W.Frag} {mg : Str → Option Value} {base : Heap} {f : Addr} (h_int : mg "int" = none) (h_len : mg "len" = none) : Bd PR w K mg base 0 N__law_mix "_law_mix" (defBody (topOf PR 37)) (defScope (topOf PR 37)) f D__law_mix :=
  ⟨fun cdv A outer s H E hr => by
  have nd : N__law_mix.Nodup := sc__law_mix.nd
  exact (sxs_cons (sx_set 3 nd (by kernel_rfl) (by kernel_rfl) (by kernel_rfl) ex_int (by kernel_rfl))
  (sxs_cons (sx_if (et_cmp (ec_gtI (ex_len (gl_of (by kernel_rfl)) h_len (vX 0 (by kernel_rfl) (by kernel_rfl)).b (by kernel_rfl)).b ex_int.b) (by kernel_rfl)) (sxs_one (sx_set 3 nd (by kernel_rfl) (by kernel_rfl) (by kernel_rfl) (ex_ix (vX 0 (by kernel_rfl) (by kernel_rfl)).b (ex_mod (ex_int1 (gl_of (by kernel_rfl)) h_int (vX 1 (by kernel_rfl) (by kernel_rfl)).b (by kernel_rfl)).b (ex_len (gl_of (by kernel_rfl)) h_len (vX 0 (by kernel_rfl) (by kernel_rfl)).b (by kernel_rfl)).b).b (fun _ _ => rfl)) (by kernel_rfl))) sxs_nil)
  (sxs_cons (sx_if (et_cmp (ec_ltI (vX 1 (by kernel_rfl) (by kernel_rfl)).b (ex_len (gl_of (by kernel_rfl)) h_len (vX 0 (by kernel_rfl) (by kernel_rfl)).b (by kernel_rfl)).b) (by kernel_rfl)) (sxs_one (sx_ret (ex_mod (ex_int1 (gl_of (by kernel_rfl)) h_int (vX 3 (by kernel_rfl) (by kernel_rfl)).b (by kernel_rfl)).b (vX 2 (by kernel_rfl) (by kernel_rfl)).b))) sxs_nil)
  (sxs_one (sx_ret (ex_mod (ex_int1 (gl_of (by kernel_rfl)) h_int (ex_fdiv (ex_int1 (gl_of (by kernel_rfl)) h_int (ex_add (ex_mulI (vX 3 (by kernel_rfl) (by kernel_rfl)).b ex_int.b).b (ex_mulI (vX 1 (by kernel_rfl) (by kernel_rfl)).b ex_int.b).b).b (by kernel_rfl)).b ex_int.b).b (by kernel_rfl)).b (vX 2 (by kernel_rfl) (by kernel_rfl)).b))))))⟩
/-! ### check_size -/
abbrev N_check_size : List Str := ["size"]
noncomputable def D_check_size : DenS :=
  (sIf (bNot (bCh leI leI (kD (.int 1)) (vR 0) (kD (.int (100))))) sNo sNx)
noncomputable def f_check_size : List D → Option D := runX D_check_size 1
theorem sc_check_size : FnScope N_check_size ["size"] (defScope (topOf PR 16)) := ⟨rfl, rfl, rfl, by decide +kernel, rfl, by decide +kernel, by decide +kernel⟩
theorem b_check_size {w : World} {K : PySem.W.Frag} {mg : Str → Option Value} {base : Heap} {f : Addr} {t_MOST_SIZE : Tok} (h_MOST_SIZE : mg "MOST_SIZE" = some (.int (100) t_MOST_SIZE)) : Bd PR w K mg base 0 N_check_size "check_size" (defBody (topOf PR 16)) (defScope (topOf PR 16)) f D_check_size :=
  ⟨fun cdv A outer s H E hr => by
  have nd : N_check_size.Nodup := sc_check_size.nd
  exact (sxs_one (sx_if (et_not (et_leLe ex_int.b (vX 0 (by kernel_rfl) (by kernel_rfl)).b (ex_glob (gl_of (by kernel_rfl)) h_MOST_SIZE (by kernel_rfl)).b (by kernel_rfl))) (sxs_one sx_no) sxs_nil))⟩
/-! ### check_lot -/
abbrev N_check_lot : List Str := ["lot", "size", "bad"]
noncomputable def D_check_lot : DenS :=
  (sSeq (sAsg (gT (gsCons (gN 1) (gsCons (gN 2) gsNil)) 2) (vR 0))
  (sSeq (sDrop (dCall (lCons (vR 1) lNil) f_check_size))
  (sIf (bNot (bCh leI leI (kD (.int 0)) (vR 2) (vR 1))) sNo sNx)))
noncomputable def f_check_lot : List D → Option D := runX D_check_lot 3
theorem sc_check_lot : FnScope N_check_lot ["lot"] (defScope (topOf PR 17)) := ⟨rfl, rfl, rfl, by decide +kernel, rfl, by decide +kernel, by decide +kernel⟩
theorem b_check_lot {w : World} {K : PySem.W.Frag} {mg : Str → Option Value} {base : Heap} {f : Addr} (c_check_size : FX PR w K mg base 1 "check_size" 1 f_check_size) : Bd PR w K mg base 1 N_check_lot "check_lot" (defBody (topOf PR 17)) (defScope (topOf PR 17)) f D_check_lot :=
  ⟨fun cdv A outer s H E hr => by
  have nd : N_check_lot.Nodup := sc_check_lot.nd
  exact (sxs_cons (sx_asg (vX 0 (by kernel_rfl) (by kernel_rfl)) (eg_tup (n := 2) rfl (egs_cons (eg_name 1 nd (by kernel_rfl) (by kernel_rfl) (by kernel_rfl)) (egs_cons (eg_name 2 nd (by kernel_rfl) (by kernel_rfl) (by kernel_rfl)) egs_nil (by kernel_rfl)) (by kernel_rfl)) (by kernel_rfl) (by kernel_rfl)) (by kernel_rfl) (by kernel_rfl) (by kernel_rfl))
  (sxs_cons (sx_expr (cX (c_check_size : FX PR w K mg base _ _ _ _) hr (gl_of (by kernel_rfl)) (by kernel_rfl) (ea_cons (vX 1 (by kernel_rfl) (by kernel_rfl)) ea_nil (by kernel_rfl)) rfl (by kernel_rfl) (by kernel_rfl) (lenS len0)) (by kernel_rfl))
  (sxs_one (sx_if (et_not (et_leLe ex_int.b (vX 2 (by kernel_rfl) (by kernel_rfl)).b (vX 1 (by kernel_rfl) (by kernel_rfl)).b (by kernel_rfl))) (sxs_one sx_no) sxs_nil))))⟩
/-! ### check_plan -/
abbrev N_check_plan : List Str := ["size", "plan", "sample", "most"]
noncomputable def D_check_plan : DenS :=
  (sSeq (sAsg (gT (gsCons (gN 2) (gsCons (gN 3) gsNil)) 2) (vR 1))
  (sSeq (sIf (bNot (bCh leI leI (kD (.int 1)) (vR 2) (vR 0))) sNo sNx)
  (sIf (bNot (bCh leI leI (kD (.int 0)) (vR 3) (vR 2))) sNo sNx)))
noncomputable def f_check_plan : List D → Option D := runX D_check_plan 4
theorem sc_check_plan : FnScope N_check_plan ["size", "plan"] (defScope (topOf PR 18)) := ⟨rfl, rfl, rfl, by decide +kernel, rfl, by decide +kernel, by decide +kernel⟩
theorem b_check_plan {w : World} {K : PySem.W.Frag} {mg : Str → Option Value} {base : Heap} {f : Addr}  : Bd PR w K mg base 0 N_check_plan "check_plan" (defBody (topOf PR 18)) (defScope (topOf PR 18)) f D_check_plan :=
  ⟨fun cdv A outer s H E hr => by
  have nd : N_check_plan.Nodup := sc_check_plan.nd
  exact (sxs_cons (sx_asg (vX 1 (by kernel_rfl) (by kernel_rfl)) (eg_tup (n := 2) rfl (egs_cons (eg_name 2 nd (by kernel_rfl) (by kernel_rfl) (by kernel_rfl)) (egs_cons (eg_name 3 nd (by kernel_rfl) (by kernel_rfl) (by kernel_rfl)) egs_nil (by kernel_rfl)) (by kernel_rfl)) (by kernel_rfl) (by kernel_rfl)) (by kernel_rfl) (by kernel_rfl) (by kernel_rfl))
  (sxs_cons (sx_if (et_not (et_leLe ex_int.b (vX 2 (by kernel_rfl) (by kernel_rfl)).b (vX 0 (by kernel_rfl) (by kernel_rfl)).b (by kernel_rfl))) (sxs_one sx_no) sxs_nil)
  (sxs_one (sx_if (et_not (et_leLe ex_int.b (vX 3 (by kernel_rfl) (by kernel_rfl)).b (vX 2 (by kernel_rfl) (by kernel_rfl)).b (by kernel_rfl))) (sxs_one sx_no) sxs_nil))))⟩
/-! ### check_both -/
abbrev N_check_both : List Str := ["lot", "plan"]
noncomputable def D_check_both : DenS :=
  (sSeq (sDrop (dCall (lCons (vR 0) lNil) f_check_lot))
  (sDrop (dCall (lCons (d2 ixD (vR 0) (kD (.int 0))) (lCons (vR 1) lNil)) f_check_plan)))
noncomputable def f_check_both : List D → Option D := runX D_check_both 2
theorem sc_check_both : FnScope N_check_both ["lot", "plan"] (defScope (topOf PR 19)) := ⟨rfl, rfl, rfl, by decide +kernel, rfl, by decide +kernel, by decide +kernel⟩
theorem b_check_both {w : World} {K : PySem.W.Frag} {mg : Str → Option Value} {base : Heap} {f : Addr} (c_check_lot : FX PR w K mg base 2 "check_lot" 1 f_check_lot) (c_check_plan : FX PR w K mg base 2 "check_plan" 2 f_check_plan) : Bd PR w K mg base 2 N_check_both "check_both" (defBody (topOf PR 19)) (defScope (topOf PR 19)) f D_check_both :=
  ⟨fun cdv A outer s H E hr => by
  have nd : N_check_both.Nodup := sc_check_both.nd
  exact (sxs_cons (sx_expr (cX (c_check_lot : FX PR w K mg base _ _ _ _) hr (gl_of (by kernel_rfl)) (by kernel_rfl) (ea_cons (vX 0 (by kernel_rfl) (by kernel_rfl)) ea_nil (by kernel_rfl)) rfl (by kernel_rfl) (by kernel_rfl) (lenS len0)) (by kernel_rfl))
  (sxs_one (sx_expr (cX (c_check_plan : FX PR w K mg base _ _ _ _) hr (gl_of (by kernel_rfl)) (by kernel_rfl) (ea_cons (ex_ix (vX 0 (by kernel_rfl) (by kernel_rfl)).b ex_int.b (fun _ _ => rfl)) (ea_cons (vX 1 (by kernel_rfl) (by kernel_rfl)) ea_nil (by kernel_rfl)) (by kernel_rfl)) rfl (by kernel_rfl) (by kernel_rfl) (lenS (lenS len0))) (by kernel_rfl))))⟩
/-! ### fraction -/
abbrev N_fraction : List Str := ["number", "by", "common"]
noncomputable def D_fraction : DenS :=
  (sSeq (sIf (b2 ltI (vR 1) (kD (.int 0))) (sPar 0 1 (lCons (d1 negD (vR 0)) (lCons (d1 negD (vR 1)) lNil))) sNx)
  (sSeq (sSet 2 (d2 gcdD (vR 0) (vR 1)))
  (sRet (mkT (lCons (d2 fdivD (vR 0) (vR 2)) (lCons (d2 fdivD (vR 1) (vR 2)) lNil))))))
noncomputable def f_fraction : List D → Option D := runX D_fraction 3
theorem sc_fraction : FnScope N_fraction ["number", "by"] (defScope (topOf PR 9)) := ⟨rfl, rfl, rfl, by decide +kernel, rfl, by decide +kernel, by decide +kernel⟩
theorem b_fraction {w : World} {K : PySem.W.Frag} {mg : Str → Option Value} {base : Heap} {f : Addr} (h_gcd : mg "gcd" = some (.builtin "math.gcd")) : Bd PR w K mg base 0 N_fraction "fraction" (defBody (topOf PR 9)) (defScope (topOf PR 9)) f D_fraction :=
  ⟨fun cdv A outer s H E hr => by
  have nd : N_fraction.Nodup := sc_fraction.nd
  exact (sxs_cons (sx_if (et_cmp (ec_ltI (vX 1 (by kernel_rfl) (by kernel_rfl)).b ex_int.b) (by kernel_rfl)) (sxs_one (sx_par 0 1 rfl nd (by kernel_rfl) (by kernel_rfl) (by decide) (by kernel_rfl) (by kernel_rfl) (ea_cons (ex_neg (vX 0 (by kernel_rfl) (by kernel_rfl)).b) (ea_cons (ex_neg (vX 1 (by kernel_rfl) (by kernel_rfl)).b) ea_nil (by kernel_rfl)) (by kernel_rfl)) (by kernel_rfl) (by kernel_rfl))) sxs_nil)
  (sxs_cons (sx_set 2 nd (by kernel_rfl) (by kernel_rfl) (by kernel_rfl) (ex_gcd (gl_of (by kernel_rfl)) h_gcd (vX 0 (by kernel_rfl) (by kernel_rfl)).b (vX 1 (by kernel_rfl) (by kernel_rfl)).b (by kernel_rfl) (by kernel_rfl)) (by kernel_rfl))
  (sxs_one (sx_ret (ex_tup (ea_cons (ex_fdiv (vX 0 (by kernel_rfl) (by kernel_rfl)).b (vX 2 (by kernel_rfl) (by kernel_rfl)).b) (ea_cons (ex_fdiv (vX 1 (by kernel_rfl) (by kernel_rfl)).b (vX 2 (by kernel_rfl) (by kernel_rfl)).b) ea_nil (by kernel_rfl)) (by kernel_rfl)))))))⟩
/-! ### choose -/
abbrev N_choose : List Str := ["many", "some", "found", "k"]
noncomputable def D_choose : DenS :=
  (sSeq (sIf (bOr (b2 ltI (vR 1) (kD (.int 0))) (b2 gtI (vR 1) (vR 0))) (sRet (kD (.int 0))) sNx)
  (sSeq (sSet 2 (kD (.int 1)))
  (sSeq (sFor (iR1 (vR 1)) (gN 3) (sSet 2 (d2 fdivD (d2 mulI (vR 2) (d2 subD (vR 0) (vR 3))) (d2 addD (vR 3) (kD (.int 1))))))
  (sRet (vR 2)))))
noncomputable def f_choose : List D → Option D := runX D_choose 4
theorem sc_choose : FnScope N_choose ["many", "some"] (defScope (topOf PR 15)) := ⟨rfl, rfl, rfl, by decide +kernel, rfl, by decide +kernel, by decide +kernel⟩
theorem b_choose {w : World} {K : PySem.W.Frag} {mg : Str → Option Value} {base : Heap} {f : Addr} (h_range : mg "range" = none) : Bd PR w K mg base 0 N_choose "choose" (defBody (topOf PR 15)) (defScope (topOf PR 15)) f D_choose :=
  ⟨fun cdv A outer s H E hr => by
  have nd : N_choose.Nodup := sc_choose.nd
  exact (sxs_cons (sx_if (ew_or (et_cmp (ec_ltI (vX 1 (by kernel_rfl) (by kernel_rfl)).b ex_int.b) (by kernel_rfl)) (ew_or1 (et_cmp (ec_gtI (vX 1 (by kernel_rfl) (by kernel_rfl)).b (vX 0 (by kernel_rfl) (by kernel_rfl)).b) (by kernel_rfl)))).t (sxs_one (sx_ret ex_int)) sxs_nil)
  (sxs_cons (sx_set 2 nd (by kernel_rfl) (by kernel_rfl) (by kernel_rfl) ex_int (by kernel_rfl))
  (sxs_cons (sx_for PySem.PassesOwn.never rfl (ei_r1 (gl_of (by kernel_rfl)) h_range (vX 1 (by kernel_rfl) (by kernel_rfl)) (by kernel_rfl)) (eg_name 3 nd (by kernel_rfl) (by kernel_rfl) (by kernel_rfl)) (sxs_one (sx_set 2 nd (by kernel_rfl) (by kernel_rfl) (by kernel_rfl) (ex_fdiv (ex_mulI (vX 2 (by kernel_rfl) (by kernel_rfl)).b (ex_sub (vX 0 (by kernel_rfl) (by kernel_rfl)).b (vX 3 (by kernel_rfl) (by kernel_rfl)).b).b).b (ex_add (vX 3 (by kernel_rfl) (by kernel_rfl)).b ex_int.b).b) (by kernel_rfl))) (fun _ => rfl))
  (sxs_one (sx_ret (vX 2 (by kernel_rfl) (by kernel_rfl)))))))⟩
/-! ### sets_with -/
abbrev N_sets_with : List Str := ["lot", "sample", "found", "size", "bad"]
noncomputable def D_sets_with : DenS :=
  (sSeq (sAsg (gT (gsCons (gN 3) (gsCons (gN 4) gsNil)) 2) (vR 0))
  (sRet (d2 mulI (dCall (lCons (vR 4) (lCons (vR 2) lNil)) f_choose) (dCall (lCons (d2 subD (vR 3) (vR 4)) (lCons (d2 subD (vR 1) (vR 2)) lNil)) f_choose))))
noncomputable def f_sets_with : List D → Option D := runX D_sets_with 5
theorem sc_sets_with : FnScope N_sets_with ["lot", "sample", "found"] (defScope (topOf PR 20)) := ⟨rfl, rfl, rfl, by decide +kernel, rfl, by decide +kernel, by decide +kernel⟩
theorem b_sets_with {w : World} {K : PySem.W.Frag} {mg : Str → Option Value} {base : Heap} {f : Addr} (c_choose : FX PR w K mg base 1 "choose" 2 f_choose) : Bd PR w K mg base 1 N_sets_with "sets_with" (defBody (topOf PR 20)) (defScope (topOf PR 20)) f D_sets_with :=
  ⟨fun cdv A outer s H E hr => by
  have nd : N_sets_with.Nodup := sc_sets_with.nd
  exact (sxs_cons (sx_asg (vX 0 (by kernel_rfl) (by kernel_rfl)) (eg_tup (n := 2) rfl (egs_cons (eg_name 3 nd (by kernel_rfl) (by kernel_rfl) (by kernel_rfl)) (egs_cons (eg_name 4 nd (by kernel_rfl) (by kernel_rfl) (by kernel_rfl)) egs_nil (by kernel_rfl)) (by kernel_rfl)) (by kernel_rfl) (by kernel_rfl)) (by kernel_rfl) (by kernel_rfl) (by kernel_rfl))
  (sxs_one (sx_ret (ex_mulI (cX (c_choose : FX PR w K mg base _ _ _ _) hr (gl_of (by kernel_rfl)) (by kernel_rfl) (ea_cons (vX 4 (by kernel_rfl) (by kernel_rfl)) (ea_cons (vX 2 (by kernel_rfl) (by kernel_rfl)) ea_nil (by kernel_rfl)) (by kernel_rfl)) rfl (by kernel_rfl) (by kernel_rfl) (lenS (lenS len0))).b (cX (c_choose : FX PR w K mg base _ _ _ _) hr (gl_of (by kernel_rfl)) (by kernel_rfl) (ea_cons (ex_sub (vX 3 (by kernel_rfl) (by kernel_rfl)).b (vX 4 (by kernel_rfl) (by kernel_rfl)).b) (ea_cons (ex_sub (vX 1 (by kernel_rfl) (by kernel_rfl)).b (vX 2 (by kernel_rfl) (by kernel_rfl)).b) ea_nil (by kernel_rfl)) (by kernel_rfl)) rfl (by kernel_rfl) (by kernel_rfl) (lenS (lenS len0))).b))))⟩
/-! ### ways_of -/
abbrev N_ways_of : List Str := ["lot", "plan", "found"]
noncomputable def D_ways_of : DenS :=
  (sRet (d1 sumD (dLc (iR1 (d2 addD (d2 ixD (vR 1) (kD (.int 1))) (kD (.int 1)))) (gN 2) bYes (dCall (lCons (vR 0) (lCons (d2 ixD (vR 1) (kD (.int 0))) (lCons (vR 2) lNil))) f_sets_with) [2])))
noncomputable def f_ways_of : List D → Option D := runX D_ways_of 3
theorem sc_ways_of : FnScope N_ways_of ["lot", "plan"] (defScope (topOf PR 21)) := ⟨rfl, rfl, rfl, by decide +kernel, rfl, by decide +kernel, by decide +kernel⟩
theorem b_ways_of {w : World} {K : PySem.W.Frag} {mg : Str → Option Value} {base : Heap} {f : Addr} (h_range : mg "range" = none) (h_sum : mg "sum" = none) (c_sets_with : FX PR w K mg base 2 "sets_with" 3 f_sets_with) : Bd PR w K mg base 2 N_ways_of "ways_of" (defBody (topOf PR 21)) (defScope (topOf PR 21)) f D_ways_of :=
  ⟨fun cdv A outer s H E hr => by
  have nd : N_ways_of.Nodup := sc_ways_of.nd
  exact (sxs_one (sx_ret (ex_sum rfl (gl_of (by kernel_rfl)) h_sum (en_lc (own := [("found", 2)]) rfl nd (ei_r1 (gl_of (by kernel_rfl)) h_range (ex_add (ex_ix (vX 1 (by kernel_rfl) (by kernel_rfl)).b ex_int.b (fun _ _ => rfl)).b ex_int.b) (by kernel_rfl)) (blkOk_by (by kernel_rfl)) (fun _ _ _ _ _ => (eg_name 2 nd (by kernel_rfl) (by kernel_rfl) (by kernel_rfl))) (fun _ _ _ _ _ => ets_nil) (fun _ _ _ _ _ => (cX (c_sets_with : FX PR w K mg base _ _ _ _) hr (gl_of (by kernel_rfl)) (by kernel_rfl) (ea_cons (vX 0 (by kernel_rfl) (by kernel_rfl)) (ea_cons (ex_ix (vX 1 (by kernel_rfl) (by kernel_rfl)).b ex_int.b (fun _ _ => rfl)) (ea_cons (vX 2 (by kernel_rfl) (by kernel_rfl)) ea_nil (by kernel_rfl)) (by kernel_rfl)) (by kernel_rfl)) rfl (by kernel_rfl) (by kernel_rfl) (lenS (lenS (lenS len0))))) (fun _ => rfl) (by decide)).x.b (by kernel_rfl))))⟩
/-! ### chance_of -/
abbrev N_chance_of : List Str := ["lot", "plan"]
noncomputable def D_chance_of : DenS :=
  (sRet (dCall (lCons (dCall (lCons (vR 0) (lCons (vR 1) lNil)) f_ways_of) (lCons (dCall (lCons (d2 ixD (vR 0) (kD (.int 0))) (lCons (d2 ixD (vR 1) (kD (.int 0))) lNil)) f_choose) lNil)) f_fraction))
noncomputable def f_chance_of : List D → Option D := runX D_chance_of 2
theorem sc_chance_of : FnScope N_chance_of ["lot", "plan"] (defScope (topOf PR 23)) := ⟨rfl, rfl, rfl, by decide +kernel, rfl, by decide +kernel, by decide +kernel⟩
theorem b_chance_of {w : World} {K : PySem.W.Frag} {mg : Str → Option Value} {base : Heap} {f : Addr} (c_choose : FX PR w K mg base 3 "choose" 2 f_choose) (c_fraction : FX PR w K mg base 3 "fraction" 2 f_fraction) (c_ways_of : FX PR w K mg base 3 "ways_of" 2 f_ways_of) : Bd PR w K mg base 3 N_chance_of "chance_of" (defBody (topOf PR 23)) (defScope (topOf PR 23)) f D_chance_of :=
  ⟨fun cdv A outer s H E hr => by
  have nd : N_chance_of.Nodup := sc_chance_of.nd
  exact (sxs_one (sx_ret (cX (c_fraction : FX PR w K mg base _ _ _ _) hr (gl_of (by kernel_rfl)) (by kernel_rfl) (ea_cons (cX (c_ways_of : FX PR w K mg base _ _ _ _) hr (gl_of (by kernel_rfl)) (by kernel_rfl) (ea_cons (vX 0 (by kernel_rfl) (by kernel_rfl)) (ea_cons (vX 1 (by kernel_rfl) (by kernel_rfl)) ea_nil (by kernel_rfl)) (by kernel_rfl)) rfl (by kernel_rfl) (by kernel_rfl) (lenS (lenS len0))) (ea_cons (cX (c_choose : FX PR w K mg base _ _ _ _) hr (gl_of (by kernel_rfl)) (by kernel_rfl) (ea_cons (ex_ix (vX 0 (by kernel_rfl) (by kernel_rfl)).b ex_int.b (fun _ _ => rfl)) (ea_cons (ex_ix (vX 1 (by kernel_rfl) (by kernel_rfl)).b ex_int.b (fun _ _ => rfl)) ea_nil (by kernel_rfl)) (by kernel_rfl)) rfl (by kernel_rfl) (by kernel_rfl) (lenS (lenS len0))) ea_nil (by kernel_rfl)) (by kernel_rfl)) rfl (by kernel_rfl) (by kernel_rfl) (lenS (lenS len0)))))⟩
/-! ### chance -/
abbrev N_chance : List Str := ["lot", "plan"]
noncomputable def D_chance : DenS :=
  (sSeq (sDrop (dCall (lCons (vR 0) (lCons (vR 1) lNil)) f_check_both))
  (sRet (dCall (lCons (vR 0) (lCons (vR 1) lNil)) f_chance_of)))
noncomputable def f_chance : List D → Option D := runX D_chance 2
theorem sc_chance : FnScope N_chance ["lot", "plan"] (defScope (topOf PR 24)) := ⟨rfl, rfl, rfl, by decide +kernel, rfl, by decide +kernel, by decide +kernel⟩
theorem b_chance {w : World} {K : PySem.W.Frag} {mg : Str → Option Value} {base : Heap} {f : Addr} (c_chance_of : FX PR w K mg base 4 "chance_of" 2 f_chance_of) (c_check_both : FX PR w K mg base 4 "check_both" 2 f_check_both) : Bd PR w K mg base 4 N_chance "chance" (defBody (topOf PR 24)) (defScope (topOf PR 24)) f D_chance :=
  ⟨fun cdv A outer s H E hr => by
  have nd : N_chance.Nodup := sc_chance.nd
  exact (sxs_cons (sx_expr (cX (c_check_both : FX PR w K mg base _ _ _ _) hr (gl_of (by kernel_rfl)) (by kernel_rfl) (ea_cons (vX 0 (by kernel_rfl) (by kernel_rfl)) (ea_cons (vX 1 (by kernel_rfl) (by kernel_rfl)) ea_nil (by kernel_rfl)) (by kernel_rfl)) rfl (by kernel_rfl) (by kernel_rfl) (lenS (lenS len0))) (by kernel_rfl))
  (sxs_one (sx_ret (cX (c_chance_of : FX PR w K mg base _ _ _ _) hr (gl_of (by kernel_rfl)) (by kernel_rfl) (ea_cons (vX 0 (by kernel_rfl) (by kernel_rfl)) (ea_cons (vX 1 (by kernel_rfl) (by kernel_rfl)) ea_nil (by kernel_rfl)) (by kernel_rfl)) rfl (by kernel_rfl) (by kernel_rfl) (lenS (lenS len0))))))⟩
/-! ### ways -/
abbrev N_ways : List Str := ["lot", "plan"]
noncomputable def D_ways : DenS :=
  (sSeq (sDrop (dCall (lCons (vR 0) (lCons (vR 1) lNil)) f_check_both))
  (sRet (dCall (lCons (vR 0) (lCons (vR 1) lNil)) f_ways_of)))
noncomputable def f_ways : List D → Option D := runX D_ways 2
theorem sc_ways : FnScope N_ways ["lot", "plan"] (defScope (topOf PR 22)) := ⟨rfl, rfl, rfl, by decide +kernel, rfl, by decide +kernel, by decide +kernel⟩
theorem b_ways {w : World} {K : PySem.W.Frag} {mg : Str → Option Value} {base : Heap} {f : Addr} (c_check_both : FX PR w K mg base 3 "check_both" 2 f_check_both) (c_ways_of : FX PR w K mg base 3 "ways_of" 2 f_ways_of) : Bd PR w K mg base 3 N_ways "ways" (defBody (topOf PR 22)) (defScope (topOf PR 22)) f D_ways :=
  ⟨fun cdv A outer s H E hr => by
  have nd : N_ways.Nodup := sc_ways.nd
  exact (sxs_cons (sx_expr (cX (c_check_both : FX PR w K mg base _ _ _ _) hr (gl_of (by kernel_rfl)) (by kernel_rfl) (ea_cons (vX 0 (by kernel_rfl) (by kernel_rfl)) (ea_cons (vX 1 (by kernel_rfl) (by kernel_rfl)) ea_nil (by kernel_rfl)) (by kernel_rfl)) rfl (by kernel_rfl) (by kernel_rfl) (lenS (lenS len0))) (by kernel_rfl))
  (sxs_one (sx_ret (cX (c_ways_of : FX PR w K mg base _ _ _ _) hr (gl_of (by kernel_rfl)) (by kernel_rfl) (ea_cons (vX 0 (by kernel_rfl) (by kernel_rfl)) (ea_cons (vX 1 (by kernel_rfl) (by kernel_rfl)) ea_nil (by kernel_rfl)) (by kernel_rfl)) rfl (by kernel_rfl) (by kernel_rfl) (lenS (lenS len0))))))⟩
/-! ### _law_gcd -/
abbrev N__law_gcd : List Str := ["one", "two"]
noncomputable def D__law_gcd : DenS :=
  (sSeq (sWh (b2 neD (vR 1) (kD (.int 0))) (sAsg (gLs (gsCons (gN 0) (gsCons (gN 1) gsNil)) 2) (mkL (lCons (vR 1) (lCons (d2 modD (d1 intD (vR 0)) (vR 1)) lNil)))))
  (sRet (d1 absD (vR 0))))
noncomputable def f__law_gcd : List D → Option D := runX D__law_gcd 2
theorem sc__law_gcd : FnScope N__law_gcd ["one", "two"] (defScope (topOf PR 38)) := ⟨rfl, rfl, rfl, by decide +kernel, rfl, by decide +kernel, by decide +kernel⟩
theorem b__law_gcd {w : World} {K : PySem.W.Frag} {mg : Str → Option Value} {base : Heap} {f : Addr} (h_abs : mg "abs" = none) (h_int : mg "int" = none) : Bd PR w K mg base 0 N__law_gcd "_law_gcd" (defBody (topOf PR 38)) (defScope (topOf PR 38)) f D__law_gcd :=
  ⟨fun cdv A outer s H E hr => by
  have nd : N__law_gcd.Nodup := sc__law_gcd.nd
  exact (sxs_cons (sx_while PySem.PassesOwn.never (et_cmp (ec_ne (Zx.Room.u64 hr) (vX 1 (by kernel_rfl) (by kernel_rfl)).b ex_int.b) (by kernel_rfl)) (sxs_one (sx_asg (en_lst (ea_cons (vX 1 (by kernel_rfl) (by kernel_rfl)) (ea_cons (ex_mod (ex_int1 (gl_of (by kernel_rfl)) h_int (vX 0 (by kernel_rfl) (by kernel_rfl)).b (by kernel_rfl)).b (vX 1 (by kernel_rfl) (by kernel_rfl)).b) ea_nil (by kernel_rfl)) (by kernel_rfl))).x (eg_lst (n := 2) rfl (egs_cons (eg_name 0 nd (by kernel_rfl) (by kernel_rfl) (by kernel_rfl)) (egs_cons (eg_name 1 nd (by kernel_rfl) (by kernel_rfl) (by kernel_rfl)) egs_nil (by kernel_rfl)) (by kernel_rfl)) (by kernel_rfl) (by kernel_rfl)) (by kernel_rfl) (by kernel_rfl) (by kernel_rfl))))
  (sxs_one (sx_ret (ex_abs (gl_of (by kernel_rfl)) h_abs (vX 0 (by kernel_rfl) (by kernel_rfl)).b (by kernel_rfl)))))⟩
/-! ### _law_low -/
abbrev N__law_low : List Str := ["number", "by", "common"]
noncomputable def D__law_low : DenS :=
  (sSeq (sSet 2 (dCall (lCons (vR 0) (lCons (vR 1) lNil)) f__law_gcd))
  (sRet (mkT (lCons (d1 intD (d2 fdivD (vR 0) (vR 2))) (lCons (d1 intD (d2 fdivD (vR 1) (vR 2))) lNil)))))
noncomputable def f__law_low : List D → Option D := runX D__law_low 3
theorem sc__law_low : FnScope N__law_low ["number", "by"] (defScope (topOf PR 39)) := ⟨rfl, rfl, rfl, by decide +kernel, rfl, by decide +kernel, by decide +kernel⟩
theorem b__law_low {w : World} {K : PySem.W.Frag} {mg : Str → Option Value} {base : Heap} {f : Addr} (h_int : mg "int" = none) (c__law_gcd : FX PR w K mg base 1 "_law_gcd" 2 f__law_gcd) : Bd PR w K mg base 1 N__law_low "_law_low" (defBody (topOf PR 39)) (defScope (topOf PR 39)) f D__law_low :=
  ⟨fun cdv A outer s H E hr => by
  have nd : N__law_low.Nodup := sc__law_low.nd
  exact (sxs_cons (sx_set 2 nd (by kernel_rfl) (by kernel_rfl) (by kernel_rfl) (cX (c__law_gcd : FX PR w K mg base _ _ _ _) hr (gl_of (by kernel_rfl)) (by kernel_rfl) (ea_cons (vX 0 (by kernel_rfl) (by kernel_rfl)) (ea_cons (vX 1 (by kernel_rfl) (by kernel_rfl)) ea_nil (by kernel_rfl)) (by kernel_rfl)) rfl (by kernel_rfl) (by kernel_rfl) (lenS (lenS len0))) (by kernel_rfl))
  (sxs_one (sx_ret (ex_tup (ea_cons (ex_int1 (gl_of (by kernel_rfl)) h_int (ex_fdiv (vX 0 (by kernel_rfl) (by kernel_rfl)).b (vX 2 (by kernel_rfl) (by kernel_rfl)).b).b (by kernel_rfl)) (ea_cons (ex_int1 (gl_of (by kernel_rfl)) h_int (ex_fdiv (vX 1 (by kernel_rfl) (by kernel_rfl)).b (vX 2 (by kernel_rfl) (by kernel_rfl)).b).b (by kernel_rfl)) ea_nil (by kernel_rfl)) (by kernel_rfl))))))⟩
/-! ### _law_plus -/
abbrev N__law_plus : List Str := ["one", "two"]
noncomputable def D__law_plus : DenS :=
  (sRet (dCall (lCons (d2 addD (d2 mulI (d2 ixD (vR 0) (kD (.int 0))) (d2 ixD (vR 1) (kD (.int 1)))) (d2 mulI (d2 ixD (vR 1) (kD (.int 0))) (d2 ixD (vR 0) (kD (.int 1))))) (lCons (d2 mulI (d2 ixD (vR 0) (kD (.int 1))) (d2 ixD (vR 1) (kD (.int 1)))) lNil)) f__law_low))
noncomputable def f__law_plus : List D → Option D := runX D__law_plus 2
theorem sc__law_plus : FnScope N__law_plus ["one", "two"] (defScope (topOf PR 40)) := ⟨rfl, rfl, rfl, by decide +kernel, rfl, by decide +kernel, by decide +kernel⟩
theorem b__law_plus {w : World} {K : PySem.W.Frag} {mg : Str → Option Value} {base : Heap} {f : Addr} (c__law_low : FX PR w K mg base 2 "_law_low" 2 f__law_low) : Bd PR w K mg base 2 N__law_plus "_law_plus" (defBody (topOf PR 40)) (defScope (topOf PR 40)) f D__law_plus :=
  ⟨fun cdv A outer s H E hr => by
  have nd : N__law_plus.Nodup := sc__law_plus.nd
  exact (sxs_one (sx_ret (cX (c__law_low : FX PR w K mg base _ _ _ _) hr (gl_of (by kernel_rfl)) (by kernel_rfl) (ea_cons (ex_add (ex_mulI (ex_ix (vX 0 (by kernel_rfl) (by kernel_rfl)).b ex_int.b (fun _ _ => rfl)).b (ex_ix (vX 1 (by kernel_rfl) (by kernel_rfl)).b ex_int.b (fun _ _ => rfl)).b).b (ex_mulI (ex_ix (vX 1 (by kernel_rfl) (by kernel_rfl)).b ex_int.b (fun _ _ => rfl)).b (ex_ix (vX 0 (by kernel_rfl) (by kernel_rfl)).b ex_int.b (fun _ _ => rfl)).b).b) (ea_cons (ex_mulI (ex_ix (vX 0 (by kernel_rfl) (by kernel_rfl)).b ex_int.b (fun _ _ => rfl)).b (ex_ix (vX 1 (by kernel_rfl) (by kernel_rfl)).b ex_int.b (fun _ _ => rfl)).b) ea_nil (by kernel_rfl)) (by kernel_rfl)) rfl (by kernel_rfl) (by kernel_rfl) (lenS (lenS len0)))))⟩
/-! ### check_stages -/
abbrev N_check_stages : List Str := ["size", "stages", "drawn", "k", "sample", "take", "refuse"]
noncomputable def D_check_stages : DenS :=
  (sSeq (sDrop (dCall (lCons (vR 0) lNil) f_check_size))
  (sSeq (sIf (bNot (bCh leI leI (kD (.int 1)) (d1 lenD (vR 1)) (kD (.int (4))))) sNo sNx)
  (sSeq (sSet 2 (kD (.int 0)))
  (sFor (iEn (vR 1)) (gT (gsCons (gN 3) (gsCons (gT (gsCons (gN 4) (gsCons (gN 5) (gsCons (gN 6) gsNil))) 3) gsNil)) 2) (sSeq (sSet 2 (d2 addD (vR 2) (vR 4)))
   (sSeq (sIf (bOr (b2 ltI (vR 4) (kD (.int 1))) (bOr (b2 gtI (vR 2) (vR 0)) (bOr (b2 ltI (vR 5) (d1 negD (kD (.int 1)))) (b2 leI (vR 6) (vR 5))))) sNo sNx)
   (sIf (bAnd (b2 eqD (vR 3) (d2 subD (d1 lenD (vR 1)) (kD (.int 1)))) (b2 neD (vR 6) (d2 addD (vR 5) (kD (.int 1))))) sNo sNx)))))))
noncomputable def f_check_stages : List D → Option D := runX D_check_stages 7
theorem sc_check_stages : FnScope N_check_stages ["size", "stages"] (defScope (topOf PR 27)) := ⟨rfl, rfl, rfl, by decide +kernel, rfl, by decide +kernel, by decide +kernel⟩
theorem b_check_stages {w : World} {K : PySem.W.Frag} {mg : Str → Option Value} {base : Heap} {f : Addr} (h_enumerate : mg "enumerate" = none) (h_len : mg "len" = none) {t_MOST_STAGES : Tok} (h_MOST_STAGES : mg "MOST_STAGES" = some (.int (4) t_MOST_STAGES)) (c_check_size : FX PR w K mg base 1 "check_size" 1 f_check_size) : Bd PR w K mg base 1 N_check_stages "check_stages" (defBody (topOf PR 27)) (defScope (topOf PR 27)) f D_check_stages :=
  ⟨fun cdv A outer s H E hr => by
  have nd : N_check_stages.Nodup := sc_check_stages.nd
  exact (sxs_cons (sx_expr (cX (c_check_size : FX PR w K mg base _ _ _ _) hr (gl_of (by kernel_rfl)) (by kernel_rfl) (ea_cons (vX 0 (by kernel_rfl) (by kernel_rfl)) ea_nil (by kernel_rfl)) rfl (by kernel_rfl) (by kernel_rfl) (lenS len0)) (by kernel_rfl))
  (sxs_cons (sx_if (et_not (et_leLe ex_int.b (ex_len (gl_of (by kernel_rfl)) h_len (vX 1 (by kernel_rfl) (by kernel_rfl)).b (by kernel_rfl)).b (ex_glob (gl_of (by kernel_rfl)) h_MOST_STAGES (by kernel_rfl)).b (by kernel_rfl))) (sxs_one sx_no) sxs_nil)
  (sxs_cons (sx_set 2 nd (by kernel_rfl) (by kernel_rfl) (by kernel_rfl) ex_int (by kernel_rfl))
  (sxs_one (sx_for PySem.PassesOwn.never rfl (ei_enum (gl_of (by kernel_rfl)) h_enumerate (vX 1 (by kernel_rfl) (by kernel_rfl)) (by kernel_rfl)) (eg_tup (n := 2) rfl (egs_cons (eg_name 3 nd (by kernel_rfl) (by kernel_rfl) (by kernel_rfl)) (egs_cons (eg_tup (n := 3) rfl (egs_cons (eg_name 4 nd (by kernel_rfl) (by kernel_rfl) (by kernel_rfl)) (egs_cons (eg_name 5 nd (by kernel_rfl) (by kernel_rfl) (by kernel_rfl)) (egs_cons (eg_name 6 nd (by kernel_rfl) (by kernel_rfl) (by kernel_rfl)) egs_nil (by kernel_rfl)) (by kernel_rfl)) (by kernel_rfl)) (by kernel_rfl) (by kernel_rfl)) egs_nil (by kernel_rfl)) (by kernel_rfl)) (by kernel_rfl) (by kernel_rfl)) (sxs_cons (sx_set 2 nd (by kernel_rfl) (by kernel_rfl) (by kernel_rfl) (ex_add (vX 2 (by kernel_rfl) (by kernel_rfl)).b (vX 4 (by kernel_rfl) (by kernel_rfl)).b) (by kernel_rfl))
   (sxs_cons (sx_if (ew_or (et_cmp (ec_ltI (vX 4 (by kernel_rfl) (by kernel_rfl)).b ex_int.b) (by kernel_rfl)) (ew_or (et_cmp (ec_gtI (vX 2 (by kernel_rfl) (by kernel_rfl)).b (vX 0 (by kernel_rfl) (by kernel_rfl)).b) (by kernel_rfl)) (ew_or (et_cmp (ec_ltI (vX 5 (by kernel_rfl) (by kernel_rfl)).b (ex_neg ex_int.b).b) (by kernel_rfl)) (ew_or1 (et_cmp (ec_leI (vX 6 (by kernel_rfl) (by kernel_rfl)).b (vX 5 (by kernel_rfl) (by kernel_rfl)).b) (by kernel_rfl)))))).t (sxs_one sx_no) sxs_nil)
   (sxs_one (sx_if (ew_and (et_cmp (ec_eq (Zx.Room.u64 hr) (vX 3 (by kernel_rfl) (by kernel_rfl)).b (ex_sub (ex_len (gl_of (by kernel_rfl)) h_len (vX 1 (by kernel_rfl) (by kernel_rfl)).b (by kernel_rfl)).b ex_int.b).b) (by kernel_rfl)) (ew_and1 (et_cmp (ec_ne (Zx.Room.u64 hr) (vX 6 (by kernel_rfl) (by kernel_rfl)).b (ex_add (vX 5 (by kernel_rfl) (by kernel_rfl)).b ex_int.b).b) (by kernel_rfl)))).t (sxs_one sx_no) sxs_nil)))) (fun _ => rfl))))))⟩
/-! ### check_all -/
abbrev N_check_all : List Str := ["lot", "stages"]
noncomputable def D_check_all : DenS :=
  (sSeq (sDrop (dCall (lCons (vR 0) lNil) f_check_lot))
  (sDrop (dCall (lCons (d2 ixD (vR 0) (kD (.int 0))) (lCons (vR 1) lNil)) f_check_stages)))
noncomputable def f_check_all : List D → Option D := runX D_check_all 2
theorem sc_check_all : FnScope N_check_all ["lot", "stages"] (defScope (topOf PR 28)) := ⟨rfl, rfl, rfl, by decide +kernel, rfl, by decide +kernel, by decide +kernel⟩
theorem b_check_all {w : World} {K : PySem.W.Frag} {mg : Str → Option Value} {base : Heap} {f : Addr} (c_check_lot : FX PR w K mg base 2 "check_lot" 1 f_check_lot) (c_check_stages : FX PR w K mg base 2 "check_stages" 2 f_check_stages) : Bd PR w K mg base 2 N_check_all "check_all" (defBody (topOf PR 28)) (defScope (topOf PR 28)) f D_check_all :=
  ⟨fun cdv A outer s H E hr => by
  have nd : N_check_all.Nodup := sc_check_all.nd
  exact (sxs_cons (sx_expr (cX (c_check_lot : FX PR w K mg base _ _ _ _) hr (gl_of (by kernel_rfl)) (by kernel_rfl) (ea_cons (vX 0 (by kernel_rfl) (by kernel_rfl)) ea_nil (by kernel_rfl)) rfl (by kernel_rfl) (by kernel_rfl) (lenS len0)) (by kernel_rfl))
  (sxs_one (sx_expr (cX (c_check_stages : FX PR w K mg base _ _ _ _) hr (gl_of (by kernel_rfl)) (by kernel_rfl) (ea_cons (ex_ix (vX 0 (by kernel_rfl) (by kernel_rfl)).b ex_int.b (fun _ _ => rfl)) (ea_cons (vX 1 (by kernel_rfl) (by kernel_rfl)) ea_nil (by kernel_rfl)) (by kernel_rfl)) rfl (by kernel_rfl) (by kernel_rfl) (lenS (lenS len0))) (by kernel_rfl))))⟩
/-! ### times -/
abbrev N_times : List Str := ["one", "two"]
noncomputable def D_times : DenS :=
  (sRet (dCall (lCons (d2 mulI (d2 ixD (vR 0) (kD (.int 0))) (d2 ixD (vR 1) (kD (.int 0)))) (lCons (d2 mulI (d2 ixD (vR 0) (kD (.int 1))) (d2 ixD (vR 1) (kD (.int 1)))) lNil)) f_fraction))
noncomputable def f_times : List D → Option D := runX D_times 2
theorem sc_times : FnScope N_times ["one", "two"] (defScope (topOf PR 11)) := ⟨rfl, rfl, rfl, by decide +kernel, rfl, by decide +kernel, by decide +kernel⟩
theorem b_times {w : World} {K : PySem.W.Frag} {mg : Str → Option Value} {base : Heap} {f : Addr} (c_fraction : FX PR w K mg base 1 "fraction" 2 f_fraction) : Bd PR w K mg base 1 N_times "times" (defBody (topOf PR 11)) (defScope (topOf PR 11)) f D_times :=
  ⟨fun cdv A outer s H E hr => by
  have nd : N_times.Nodup := sc_times.nd
  exact (sxs_one (sx_ret (cX (c_fraction : FX PR w K mg base _ _ _ _) hr (gl_of (by kernel_rfl)) (by kernel_rfl) (ea_cons (ex_mulI (ex_ix (vX 0 (by kernel_rfl) (by kernel_rfl)).b ex_int.b (fun _ _ => rfl)).b (ex_ix (vX 1 (by kernel_rfl) (by kernel_rfl)).b ex_int.b (fun _ _ => rfl)).b) (ea_cons (ex_mulI (ex_ix (vX 0 (by kernel_rfl) (by kernel_rfl)).b ex_int.b (fun _ _ => rfl)).b (ex_ix (vX 1 (by kernel_rfl) (by kernel_rfl)).b ex_int.b (fun _ _ => rfl)).b) ea_nil (by kernel_rfl)) (by kernel_rfl)) rfl (by kernel_rfl) (by kernel_rfl) (lenS (lenS len0)))))⟩
/-! ### plus -/
abbrev N_plus : List Str := ["one", "two"]
noncomputable def D_plus : DenS :=
  (sRet (dCall (lCons (d2 addD (d2 mulI (d2 ixD (vR 0) (kD (.int 0))) (d2 ixD (vR 1) (kD (.int 1)))) (d2 mulI (d2 ixD (vR 1) (kD (.int 0))) (d2 ixD (vR 0) (kD (.int 1))))) (lCons (d2 mulI (d2 ixD (vR 0) (kD (.int 1))) (d2 ixD (vR 1) (kD (.int 1)))) lNil)) f_fraction))
noncomputable def f_plus : List D → Option D := runX D_plus 2
theorem sc_plus : FnScope N_plus ["one", "two"] (defScope (topOf PR 10)) := ⟨rfl, rfl, rfl, by decide +kernel, rfl, by decide +kernel, by decide +kernel⟩
theorem b_plus {w : World} {K : PySem.W.Frag} {mg : Str → Option Value} {base : Heap} {f : Addr} (c_fraction : FX PR w K mg base 1 "fraction" 2 f_fraction) : Bd PR w K mg base 1 N_plus "plus" (defBody (topOf PR 10)) (defScope (topOf PR 10)) f D_plus :=
  ⟨fun cdv A outer s H E hr => by
  have nd : N_plus.Nodup := sc_plus.nd
  exact (sxs_one (sx_ret (cX (c_fraction : FX PR w K mg base _ _ _ _) hr (gl_of (by kernel_rfl)) (by kernel_rfl) (ea_cons (ex_add (ex_mulI (ex_ix (vX 0 (by kernel_rfl) (by kernel_rfl)).b ex_int.b (fun _ _ => rfl)).b (ex_ix (vX 1 (by kernel_rfl) (by kernel_rfl)).b ex_int.b (fun _ _ => rfl)).b).b (ex_mulI (ex_ix (vX 1 (by kernel_rfl) (by kernel_rfl)).b ex_int.b (fun _ _ => rfl)).b (ex_ix (vX 0 (by kernel_rfl) (by kernel_rfl)).b ex_int.b (fun _ _ => rfl)).b).b) (ea_cons (ex_mulI (ex_ix (vX 0 (by kernel_rfl) (by kernel_rfl)).b ex_int.b (fun _ _ => rfl)).b (ex_ix (vX 1 (by kernel_rfl) (by kernel_rfl)).b ex_int.b (fun _ _ => rfl)).b) ea_nil (by kernel_rfl)) (by kernel_rfl)) rfl (by kernel_rfl) (by kernel_rfl) (lenS (lenS len0)))))⟩
/-! ### rows_of -/
abbrev N_rows_of : List Str := ["lot", "stages", "size", "bad", "row", "drawn", "found", "sample", "take", "refuse", "now", "seen", "part", "left", "more", "ways", "share"]
noncomputable def D_rows_of : DenS :=
  (sSeq (sAsg (gT (gsCons (gN 2) (gsCons (gN 3) gsNil)) 2) (vR 0))
  (sSeq (sSet 4 (dDisp1 (kD (.int 0)) (mkT (lCons (kD (.int 1)) (lCons (kD (.int 1)) lNil)))))
  (sSeq (sSet 5 (kD (.int 0)))
  (sSeq (sOwn 6 (mkL lNil))
  (sSeq (sFor (iSeq (vR 1)) (gT (gsCons (gN 7) (gsCons (gN 8) (gsCons (gN 9) gsNil))) 3) (sSeq (sOwn 10 (kD (.dict [])))
   (sSeq (sFor (iSeq (d1 sortItD (vR 4))) (gT (gsCons (gN 11) (gsCons (gN 12) gsNil)) 2) (sSeq (sSet 13 (d2 subD (vR 2) (vR 5)))
    (sFor (iR1 (d2 addD (d2 minD2 (vR 7) (d2 subD (vR 3) (vR 11))) (kD (.int 1)))) (gN 14) (sSeq (sSet 15 (d2 mulI (dCall (lCons (d2 subD (vR 3) (vR 11)) (lCons (vR 14) lNil)) f_choose) (dCall (lCons (d2 addD (d2 subD (vR 13) (vR 3)) (vR 11)) (lCons (d2 subD (vR 7) (vR 14)) lNil)) f_choose)))
     (sIf (b2 gtI (vR 15) (kD (.int 0))) (sSeq (sSet 16 (dCall (lCons (vR 12) (lCons (dCall (lCons (vR 15) (lCons (dCall (lCons (vR 13) (lCons (vR 7) lNil)) f_choose) lNil)) f_fraction) lNil)) f_times))
      (sStD 10 (d2 addD (vR 11) (vR 14)) (dCall (lCons (d3 dgetD3 (vB 10) (d2 addD (vR 11) (vR 14)) (mkT (lCons (kD (.int 0)) (lCons (kD (.int 1)) lNil)))) (lCons (vR 16) lNil)) f_plus))) sNx)))))
   (sSeq (sFrz 10 (sApp 6 (vR 10)))
   (sSeq (sFrz 10 (sLcSet 4 false (dDc (iItemsJ 10) (gT (gsCons (gN 11) (gsCons (gN 12) gsNil)) 2) (bCh ltI ltI (vR 8) (vR 11) (vR 9)) (vR 11) (vR 12) [11, 12])))
   (sSet 5 (d2 addD (vR 5) (vR 7))))))))
  (sFrz 6 (sRet (vR 6))))))))
noncomputable def f_rows_of : List D → Option D := runX D_rows_of 17
theorem sc_rows_of : FnScope N_rows_of ["lot", "stages"] (defScope (topOf PR 29)) := ⟨rfl, rfl, rfl, by decide +kernel, rfl, by decide +kernel, by decide +kernel⟩
theorem b_rows_of {w : World} {K : PySem.W.Frag} {mg : Str → Option Value} {base : Heap} {f : Addr} (h_min : mg "min" = none) (h_range : mg "range" = none) (h_sorted : mg "sorted" = none) (c_choose : FX PR w K mg base 2 "choose" 2 f_choose) (c_fraction : FX PR w K mg base 2 "fraction" 2 f_fraction) (c_plus : FX PR w K mg base 2 "plus" 2 f_plus) (c_times : FX PR w K mg base 2 "times" 2 f_times) : Bd PR w K mg base 2 N_rows_of "rows_of" (defBody (topOf PR 29)) (defScope (topOf PR 29)) f D_rows_of :=
  ⟨fun cdv A outer s H E hr => by
  have nd : N_rows_of.Nodup := sc_rows_of.nd
  exact (sxs_cons (sx_asg (vX 0 (by kernel_rfl) (by kernel_rfl)) (eg_tup (n := 2) rfl (egs_cons (eg_name 2 nd (by kernel_rfl) (by kernel_rfl) (by kernel_rfl)) (egs_cons (eg_name 3 nd (by kernel_rfl) (by kernel_rfl) (by kernel_rfl)) egs_nil (by kernel_rfl)) (by kernel_rfl)) (by kernel_rfl) (by kernel_rfl)) (by kernel_rfl) (by kernel_rfl) (by kernel_rfl))
  (sxs_cons (sx_set 4 nd (by kernel_rfl) (by kernel_rfl) (by kernel_rfl) (en_disp1 ex_int (ex_tup (ea_cons ex_int (ea_cons ex_int ea_nil (by kernel_rfl)) (by kernel_rfl)))).x (by kernel_rfl))
  (sxs_cons (sx_set 5 nd (by kernel_rfl) (by kernel_rfl) (by kernel_rfl) ex_int (by kernel_rfl))
  (sxs_cons (sx_own 6 nd (by kernel_rfl) (by kernel_rfl) (by kernel_rfl) (en_lst ea_nil) (by kernel_rfl))
  (sxs_cons (sx_for PySem.PassesOwn.never rfl (ei_seq (vX 1 (by kernel_rfl) (by kernel_rfl))) (eg_tup (n := 3) rfl (egs_cons (eg_name 7 nd (by kernel_rfl) (by kernel_rfl) (by kernel_rfl)) (egs_cons (eg_name 8 nd (by kernel_rfl) (by kernel_rfl) (by kernel_rfl)) (egs_cons (eg_name 9 nd (by kernel_rfl) (by kernel_rfl) (by kernel_rfl)) egs_nil (by kernel_rfl)) (by kernel_rfl)) (by kernel_rfl)) (by kernel_rfl) (by kernel_rfl)) (sxs_cons (sx_own 10 nd (by kernel_rfl) (by kernel_rfl) (by kernel_rfl) en_dK (by kernel_rfl))
   (sxs_cons (sx_for PySem.PassesOwn.never rfl (ei_seq (en_sortItems rfl (Zx.Room.u68 hr) (vX 4 (by kernel_rfl) (by kernel_rfl)).b (gl_of (by kernel_rfl)) h_sorted (by kernel_rfl) (by kernel_rfl) (by kernel_rfl)).x) (eg_tup (n := 2) rfl (egs_cons (eg_name 11 nd (by kernel_rfl) (by kernel_rfl) (by kernel_rfl)) (egs_cons (eg_name 12 nd (by kernel_rfl) (by kernel_rfl) (by kernel_rfl)) egs_nil (by kernel_rfl)) (by kernel_rfl)) (by kernel_rfl) (by kernel_rfl)) (sxs_cons (sx_set 13 nd (by kernel_rfl) (by kernel_rfl) (by kernel_rfl) (ex_sub (vX 2 (by kernel_rfl) (by kernel_rfl)).b (vX 5 (by kernel_rfl) (by kernel_rfl)).b) (by kernel_rfl))
    (sxs_one (sx_for PySem.PassesOwn.never rfl (ei_r1 (gl_of (by kernel_rfl)) h_range (ex_add (ex_min2 rfl (gl_of (by kernel_rfl)) h_min (vX 7 (by kernel_rfl) (by kernel_rfl)).b (ex_sub (vX 3 (by kernel_rfl) (by kernel_rfl)).b (vX 11 (by kernel_rfl) (by kernel_rfl)).b).b (by kernel_rfl) (by kernel_rfl)).b ex_int.b) (by kernel_rfl)) (eg_name 14 nd (by kernel_rfl) (by kernel_rfl) (by kernel_rfl)) (sxs_cons (sx_set 15 nd (by kernel_rfl) (by kernel_rfl) (by kernel_rfl) (ex_mulI (cX (c_choose : FX PR w K mg base _ _ _ _) hr (gl_of (by kernel_rfl)) (by kernel_rfl) (ea_cons (ex_sub (vX 3 (by kernel_rfl) (by kernel_rfl)).b (vX 11 (by kernel_rfl) (by kernel_rfl)).b) (ea_cons (vX 14 (by kernel_rfl) (by kernel_rfl)) ea_nil (by kernel_rfl)) (by kernel_rfl)) rfl (by kernel_rfl) (by kernel_rfl) (lenS (lenS len0))).b (cX (c_choose : FX PR w K mg base _ _ _ _) hr (gl_of (by kernel_rfl)) (by kernel_rfl) (ea_cons (ex_add (ex_sub (vX 13 (by kernel_rfl) (by kernel_rfl)).b (vX 3 (by kernel_rfl) (by kernel_rfl)).b).b (vX 11 (by kernel_rfl) (by kernel_rfl)).b) (ea_cons (ex_sub (vX 7 (by kernel_rfl) (by kernel_rfl)).b (vX 14 (by kernel_rfl) (by kernel_rfl)).b) ea_nil (by kernel_rfl)) (by kernel_rfl)) rfl (by kernel_rfl) (by kernel_rfl) (lenS (lenS len0))).b) (by kernel_rfl))
     (sxs_one (sx_if (et_cmp (ec_gtI (vX 15 (by kernel_rfl) (by kernel_rfl)).b ex_int.b) (by kernel_rfl)) (sxs_cons (sx_set 16 nd (by kernel_rfl) (by kernel_rfl) (by kernel_rfl) (cX (c_times : FX PR w K mg base _ _ _ _) hr (gl_of (by kernel_rfl)) (by kernel_rfl) (ea_cons (vX 12 (by kernel_rfl) (by kernel_rfl)) (ea_cons (cX (c_fraction : FX PR w K mg base _ _ _ _) hr (gl_of (by kernel_rfl)) (by kernel_rfl) (ea_cons (vX 15 (by kernel_rfl) (by kernel_rfl)) (ea_cons (cX (c_choose : FX PR w K mg base _ _ _ _) hr (gl_of (by kernel_rfl)) (by kernel_rfl) (ea_cons (vX 13 (by kernel_rfl) (by kernel_rfl)) (ea_cons (vX 7 (by kernel_rfl) (by kernel_rfl)) ea_nil (by kernel_rfl)) (by kernel_rfl)) rfl (by kernel_rfl) (by kernel_rfl) (lenS (lenS len0))) ea_nil (by kernel_rfl)) (by kernel_rfl)) rfl (by kernel_rfl) (by kernel_rfl) (lenS (lenS len0))) ea_nil (by kernel_rfl)) (by kernel_rfl)) rfl (by kernel_rfl) (by kernel_rfl) (lenS (lenS len0))) (by kernel_rfl))
      (sxs_one (sx_setD 10 (Zx.Room.u1 hr) (by kernel_rfl) (by kernel_rfl) (by kernel_rfl) (by kernel_rfl) (cX (c_plus : FX PR w K mg base _ _ _ _) hr (gl_of (by kernel_rfl)) (by kernel_rfl) (ea_cons (ex_dget3 (Zx.Room.u1 hr) (vE 10 (by kernel_rfl) (by kernel_rfl)) (ex_add (vX 11 (by kernel_rfl) (by kernel_rfl)).b (vX 14 (by kernel_rfl) (by kernel_rfl)).b).b (ex_tup (ea_cons ex_int (ea_cons ex_int ea_nil (by kernel_rfl)) (by kernel_rfl))) ⟨(by kernel_rfl), (by kernel_rfl), (by kernel_rfl), (by kernel_rfl)⟩) (ea_cons (vX 16 (by kernel_rfl) (by kernel_rfl)) ea_nil (by kernel_rfl)) (by kernel_rfl)) rfl (by kernel_rfl) (by kernel_rfl) (lenS (lenS len0))) (ex_add (vX 11 (by kernel_rfl) (by kernel_rfl)).b (vX 14 (by kernel_rfl) (by kernel_rfl)).b) (by kernel_rfl)))) sxs_nil))) (fun _ => rfl)))) (fun _ => rfl))
   (sxs_cons (sx_frz 10 (sx_append 6 (by kernel_rfl) (by kernel_rfl) (by kernel_rfl) (by kernel_rfl) (vX 10 (by kernel_rfl) (by kernel_rfl)) (by kernel_rfl) (by kernel_rfl)))
   (sxs_cons (sx_frz 10 (sx_lock (sxl_setDc (own := [("seen", 11), ("part", 12)]) 4 false rfl nd (by kernel_rfl) (by kernel_rfl) (by kernel_rfl) (eil_items (j := 10) (by kernel_rfl) (by kernel_rfl) (by kernel_rfl) (by kernel_rfl) (by kernel_rfl) (by kernel_rfl)) (blkOk_by (by kernel_rfl)) (fun _ _ _ _ _ => (eg_tup (n := 2) rfl (egs_cons (eg_name 11 nd (by kernel_rfl) (by kernel_rfl) (by kernel_rfl)) (egs_cons (eg_name 12 nd (by kernel_rfl) (by kernel_rfl) (by kernel_rfl)) egs_nil (by kernel_rfl)) (by kernel_rfl)) (by kernel_rfl) (by kernel_rfl))) (fun _ _ _ _ _ => (ets_one (et_ltLt (vX 8 (by kernel_rfl) (by kernel_rfl)).b (vX 11 (by kernel_rfl) (by kernel_rfl)).b (vX 9 (by kernel_rfl) (by kernel_rfl)).b (by kernel_rfl)))) (fun _ _ _ _ _ => (vX 11 (by kernel_rfl) (by kernel_rfl))) (fun _ _ _ _ _ => (vX 12 (by kernel_rfl) (by kernel_rfl))) (fun _ => rfl) (by decide)) (needs_set (needs_dc needs_I))))
   (sxs_one (sx_set 5 nd (by kernel_rfl) (by kernel_rfl) (by kernel_rfl) (ex_add (vX 5 (by kernel_rfl) (by kernel_rfl)).b (vX 7 (by kernel_rfl) (by kernel_rfl)).b) (by kernel_rfl))))))) (fun _ => rfl))
  (sxs_one (sx_frz 6 (sx_ret (vX 6 (by kernel_rfl) (by kernel_rfl))))))))))⟩
/-! ### total -/
abbrev N_total : List Str := ["told", "found", "one"]
noncomputable def D_total : DenS :=
  (sSeq (sSet 1 (mkT (lCons (kD (.int 0)) (lCons (kD (.int 1)) lNil))))
  (sSeq (sFor (iSeq (vR 0)) (gN 2) (sSet 1 (dCall (lCons (vR 1) (lCons (vR 2) lNil)) f_plus)))
  (sRet (vR 1))))
noncomputable def f_total : List D → Option D := runX D_total 3
theorem sc_total : FnScope N_total ["told"] (defScope (topOf PR 12)) := ⟨rfl, rfl, rfl, by decide +kernel, rfl, by decide +kernel, by decide +kernel⟩
theorem b_total {w : World} {K : PySem.W.Frag} {mg : Str → Option Value} {base : Heap} {f : Addr} (c_plus : FX PR w K mg base 2 "plus" 2 f_plus) : Bd PR w K mg base 2 N_total "total" (defBody (topOf PR 12)) (defScope (topOf PR 12)) f D_total :=
  ⟨fun cdv A outer s H E hr => by
  have nd : N_total.Nodup := sc_total.nd
  exact (sxs_cons (sx_set 1 nd (by kernel_rfl) (by kernel_rfl) (by kernel_rfl) (ex_tup (ea_cons ex_int (ea_cons ex_int ea_nil (by kernel_rfl)) (by kernel_rfl))) (by kernel_rfl))
  (sxs_cons (sx_for PySem.PassesOwn.never rfl (ei_seq (vX 0 (by kernel_rfl) (by kernel_rfl))) (eg_name 2 nd (by kernel_rfl) (by kernel_rfl) (by kernel_rfl)) (sxs_one (sx_set 1 nd (by kernel_rfl) (by kernel_rfl) (by kernel_rfl) (cX (c_plus : FX PR w K mg base _ _ _ _) hr (gl_of (by kernel_rfl)) (by kernel_rfl) (ea_cons (vX 1 (by kernel_rfl) (by kernel_rfl)) (ea_cons (vX 2 (by kernel_rfl) (by kernel_rfl)) ea_nil (by kernel_rfl)) (by kernel_rfl)) rfl (by kernel_rfl) (by kernel_rfl) (lenS (lenS len0))) (by kernel_rfl))) (fun _ => rfl))
  (sxs_one (sx_ret (vX 1 (by kernel_rfl) (by kernel_rfl))))))⟩
/-! ### mean -/
abbrev N_mean : List Str := ["lot", "stages", "found", "row", "sample", "_", "part"]
noncomputable def D_mean : DenS :=
  (sSeq (sDrop (dCall (lCons (vR 0) (lCons (vR 1) lNil)) f_check_all))
  (sSeq (sSet 2 (mkT (lCons (kD (.int 0)) (lCons (kD (.int 1)) lNil))))
  (sSeq (sFor (iZp (dCall (lCons (vR 0) (lCons (vR 1) lNil)) f_rows_of) (vR 1)) (gT (gsCons (gN 3) (gsCons (gT (gsCons (gN 4) (gsCons (gN 5) (gsCons (gN 5) gsNil))) 3) gsNil)) 2) (sSet 2 (dCall (lCons (vR 2) (lCons (dCall (lCons (mkT (lCons (vR 4) (lCons (kD (.int 1)) lNil))) (lCons (dCall (lCons (dLc (iSeq (d1 sortItD (vR 3))) (gT (gsCons (gN 5) (gsCons (gN 6) gsNil)) 2) bYes (vR 6) [5, 6]) lNil) f_total) lNil)) f_times) lNil)) f_plus)))
  (sRet (vR 2)))))
noncomputable def f_mean : List D → Option D := runX D_mean 7
theorem sc_mean : FnScope N_mean ["lot", "stages"] (defScope (topOf PR 32)) := ⟨rfl, rfl, rfl, by decide +kernel, rfl, by decide +kernel, by decide +kernel⟩
theorem b_mean {w : World} {K : PySem.W.Frag} {mg : Str → Option Value} {base : Heap} {f : Addr} (h_sorted : mg "sorted" = none) (h_zip : mg "zip" = none) (c_check_all : FX PR w K mg base 3 "check_all" 2 f_check_all) (c_plus : FX PR w K mg base 3 "plus" 2 f_plus) (c_rows_of : FX PR w K mg base 3 "rows_of" 2 f_rows_of) (c_times : FX PR w K mg base 3 "times" 2 f_times) (c_total : FX PR w K mg base 3 "total" 1 f_total) : Bd PR w K mg base 3 N_mean "mean" (defBody (topOf PR 32)) (defScope (topOf PR 32)) f D_mean :=
  ⟨fun cdv A outer s H E hr => by
  have nd : N_mean.Nodup := sc_mean.nd
  exact (sxs_cons (sx_expr (cX (c_check_all : FX PR w K mg base _ _ _ _) hr (gl_of (by kernel_rfl)) (by kernel_rfl) (ea_cons (vX 0 (by kernel_rfl) (by kernel_rfl)) (ea_cons (vX 1 (by kernel_rfl) (by kernel_rfl)) ea_nil (by kernel_rfl)) (by kernel_rfl)) rfl (by kernel_rfl) (by kernel_rfl) (lenS (lenS len0))) (by kernel_rfl))
  (sxs_cons (sx_set 2 nd (by kernel_rfl) (by kernel_rfl) (by kernel_rfl) (ex_tup (ea_cons ex_int (ea_cons ex_int ea_nil (by kernel_rfl)) (by kernel_rfl))) (by kernel_rfl))
  (sxs_cons (sx_for PySem.PassesOwn.never rfl (ei_zip (gl_of (by kernel_rfl)) h_zip (cX (c_rows_of : FX PR w K mg base _ _ _ _) hr (gl_of (by kernel_rfl)) (by kernel_rfl) (ea_cons (vX 0 (by kernel_rfl) (by kernel_rfl)) (ea_cons (vX 1 (by kernel_rfl) (by kernel_rfl)) ea_nil (by kernel_rfl)) (by kernel_rfl)) rfl (by kernel_rfl) (by kernel_rfl) (lenS (lenS len0))) (vX 1 (by kernel_rfl) (by kernel_rfl)) (by kernel_rfl) (by kernel_rfl)) (eg_tup (n := 2) rfl (egs_cons (eg_name 3 nd (by kernel_rfl) (by kernel_rfl) (by kernel_rfl)) (egs_cons (eg_tup (n := 3) rfl (egs_cons (eg_name 4 nd (by kernel_rfl) (by kernel_rfl) (by kernel_rfl)) (egs_cons (eg_name 5 nd (by kernel_rfl) (by kernel_rfl) (by kernel_rfl)) (egs_cons (eg_name 5 nd (by kernel_rfl) (by kernel_rfl) (by kernel_rfl)) egs_nil (by kernel_rfl)) (by kernel_rfl)) (by kernel_rfl)) (by kernel_rfl) (by kernel_rfl)) egs_nil (by kernel_rfl)) (by kernel_rfl)) (by kernel_rfl) (by kernel_rfl)) (sxs_one (sx_set 2 nd (by kernel_rfl) (by kernel_rfl) (by kernel_rfl) (cX (c_plus : FX PR w K mg base _ _ _ _) hr (gl_of (by kernel_rfl)) (by kernel_rfl) (ea_cons (vX 2 (by kernel_rfl) (by kernel_rfl)) (ea_cons (cX (c_times : FX PR w K mg base _ _ _ _) hr (gl_of (by kernel_rfl)) (by kernel_rfl) (ea_cons (ex_tup (ea_cons (vX 4 (by kernel_rfl) (by kernel_rfl)) (ea_cons ex_int ea_nil (by kernel_rfl)) (by kernel_rfl))) (ea_cons (cX (c_total : FX PR w K mg base _ _ _ _) hr (gl_of (by kernel_rfl)) (by kernel_rfl) (ea_cons (en_lc (own := [("_", 5), ("part", 6)]) rfl nd (ei_seq (en_sortItems rfl (Zx.Room.u68 hr) (vX 3 (by kernel_rfl) (by kernel_rfl)).b (gl_of (by kernel_rfl)) h_sorted (by kernel_rfl) (by kernel_rfl) (by kernel_rfl)).x) (blkOk_by (by kernel_rfl)) (fun _ _ _ _ _ => (eg_tup (n := 2) rfl (egs_cons (eg_name 5 nd (by kernel_rfl) (by kernel_rfl) (by kernel_rfl)) (egs_cons (eg_name 6 nd (by kernel_rfl) (by kernel_rfl) (by kernel_rfl)) egs_nil (by kernel_rfl)) (by kernel_rfl)) (by kernel_rfl) (by kernel_rfl))) (fun _ _ _ _ _ => ets_nil) (fun _ _ _ _ _ => (vX 6 (by kernel_rfl) (by kernel_rfl))) (fun _ => rfl) (by decide)).x ea_nil (by kernel_rfl)) rfl (by kernel_rfl) (by kernel_rfl) (lenS len0)) ea_nil (by kernel_rfl)) (by kernel_rfl)) rfl (by kernel_rfl) (by kernel_rfl) (lenS (lenS len0))) ea_nil (by kernel_rfl)) (by kernel_rfl)) rfl (by kernel_rfl) (by kernel_rfl) (lenS (lenS len0))) (by kernel_rfl))) (fun _ => rfl))
  (sxs_one (sx_ret (vX 2 (by kernel_rfl) (by kernel_rfl)))))))⟩
/-! ### course_of -/
abbrev N_course_of : List Str := ["lot", "stages", "found", "row", "_", "take", "refuse", "taken", "seen", "part"]
noncomputable def D_course_of : DenS :=
  (sSeq (sOwn 2 (mkL lNil))
  (sSeq (sFor (iZp (dCall (lCons (vR 0) (lCons (vR 1) lNil)) f_rows_of) (vR 1)) (gT (gsCons (gN 3) (gsCons (gT (gsCons (gN 4) (gsCons (gN 5) (gsCons (gN 6) gsNil))) 3) gsNil)) 2) (sSeq (sSet 7 (dCall (lCons (dLc (iSeq (d1 sortItD (vR 3))) (gT (gsCons (gN 8) (gsCons (gN 9) gsNil)) 2) (b2 leI (vR 8) (vR 5)) (vR 9) [8, 9]) lNil) f_total))
   (sApp 2 (mkT (lCons (vR 7) (lCons (dCall (lCons (dLc (iSeq (d1 sortItD (vR 3))) (gT (gsCons (gN 8) (gsCons (gN 9) gsNil)) 2) (b2 geI (vR 8) (vR 6)) (vR 9) [8, 9]) lNil) f_total) lNil))))))
  (sFrz 2 (sRet (vR 2)))))
noncomputable def f_course_of : List D → Option D := runX D_course_of 10
theorem sc_course_of : FnScope N_course_of ["lot", "stages"] (defScope (topOf PR 30)) := ⟨rfl, rfl, rfl, by decide +kernel, rfl, by decide +kernel, by decide +kernel⟩
theorem b_course_of {w : World} {K : PySem.W.Frag} {mg : Str → Option Value} {base : Heap} {f : Addr} (h_sorted : mg "sorted" = none) (h_zip : mg "zip" = none) (c_rows_of : FX PR w K mg base 3 "rows_of" 2 f_rows_of) (c_total : FX PR w K mg base 3 "total" 1 f_total) : Bd PR w K mg base 3 N_course_of "course_of" (defBody (topOf PR 30)) (defScope (topOf PR 30)) f D_course_of :=
  ⟨fun cdv A outer s H E hr => by
  have nd : N_course_of.Nodup := sc_course_of.nd
  exact (sxs_cons (sx_own 2 nd (by kernel_rfl) (by kernel_rfl) (by kernel_rfl) (en_lst ea_nil) (by kernel_rfl))
  (sxs_cons (sx_for PySem.PassesOwn.never rfl (ei_zip (gl_of (by kernel_rfl)) h_zip (cX (c_rows_of : FX PR w K mg base _ _ _ _) hr (gl_of (by kernel_rfl)) (by kernel_rfl) (ea_cons (vX 0 (by kernel_rfl) (by kernel_rfl)) (ea_cons (vX 1 (by kernel_rfl) (by kernel_rfl)) ea_nil (by kernel_rfl)) (by kernel_rfl)) rfl (by kernel_rfl) (by kernel_rfl) (lenS (lenS len0))) (vX 1 (by kernel_rfl) (by kernel_rfl)) (by kernel_rfl) (by kernel_rfl)) (eg_tup (n := 2) rfl (egs_cons (eg_name 3 nd (by kernel_rfl) (by kernel_rfl) (by kernel_rfl)) (egs_cons (eg_tup (n := 3) rfl (egs_cons (eg_name 4 nd (by kernel_rfl) (by kernel_rfl) (by kernel_rfl)) (egs_cons (eg_name 5 nd (by kernel_rfl) (by kernel_rfl) (by kernel_rfl)) (egs_cons (eg_name 6 nd (by kernel_rfl) (by kernel_rfl) (by kernel_rfl)) egs_nil (by kernel_rfl)) (by kernel_rfl)) (by kernel_rfl)) (by kernel_rfl) (by kernel_rfl)) egs_nil (by kernel_rfl)) (by kernel_rfl)) (by kernel_rfl) (by kernel_rfl)) (sxs_cons (sx_set 7 nd (by kernel_rfl) (by kernel_rfl) (by kernel_rfl) (cX (c_total : FX PR w K mg base _ _ _ _) hr (gl_of (by kernel_rfl)) (by kernel_rfl) (ea_cons (en_lc (own := [("seen", 8), ("part", 9)]) rfl nd (ei_seq (en_sortItems rfl (Zx.Room.u68 hr) (vX 3 (by kernel_rfl) (by kernel_rfl)).b (gl_of (by kernel_rfl)) h_sorted (by kernel_rfl) (by kernel_rfl) (by kernel_rfl)).x) (blkOk_by (by kernel_rfl)) (fun _ _ _ _ _ => (eg_tup (n := 2) rfl (egs_cons (eg_name 8 nd (by kernel_rfl) (by kernel_rfl) (by kernel_rfl)) (egs_cons (eg_name 9 nd (by kernel_rfl) (by kernel_rfl) (by kernel_rfl)) egs_nil (by kernel_rfl)) (by kernel_rfl)) (by kernel_rfl) (by kernel_rfl))) (fun _ _ _ _ _ => (ets_one (et_cmp (ec_leI (vX 8 (by kernel_rfl) (by kernel_rfl)).b (vX 5 (by kernel_rfl) (by kernel_rfl)).b) (by kernel_rfl)))) (fun _ _ _ _ _ => (vX 9 (by kernel_rfl) (by kernel_rfl))) (fun _ => rfl) (by decide)).x ea_nil (by kernel_rfl)) rfl (by kernel_rfl) (by kernel_rfl) (lenS len0)) (by kernel_rfl))
   (sxs_one (sx_append 2 (by kernel_rfl) (by kernel_rfl) (by kernel_rfl) (by kernel_rfl) (ex_tup (ea_cons (vX 7 (by kernel_rfl) (by kernel_rfl)) (ea_cons (cX (c_total : FX PR w K mg base _ _ _ _) hr (gl_of (by kernel_rfl)) (by kernel_rfl) (ea_cons (en_lc (own := [("seen", 8), ("part", 9)]) rfl nd (ei_seq (en_sortItems rfl (Zx.Room.u68 hr) (vX 3 (by kernel_rfl) (by kernel_rfl)).b (gl_of (by kernel_rfl)) h_sorted (by kernel_rfl) (by kernel_rfl) (by kernel_rfl)).x) (blkOk_by (by kernel_rfl)) (fun _ _ _ _ _ => (eg_tup (n := 2) rfl (egs_cons (eg_name 8 nd (by kernel_rfl) (by kernel_rfl) (by kernel_rfl)) (egs_cons (eg_name 9 nd (by kernel_rfl) (by kernel_rfl) (by kernel_rfl)) egs_nil (by kernel_rfl)) (by kernel_rfl)) (by kernel_rfl) (by kernel_rfl))) (fun _ _ _ _ _ => (ets_one (et_cmp (ec_geI (vX 8 (by kernel_rfl) (by kernel_rfl)).b (vX 6 (by kernel_rfl) (by kernel_rfl)).b) (by kernel_rfl)))) (fun _ _ _ _ _ => (vX 9 (by kernel_rfl) (by kernel_rfl))) (fun _ => rfl) (by decide)).x ea_nil (by kernel_rfl)) rfl (by kernel_rfl) (by kernel_rfl) (lenS len0)) ea_nil (by kernel_rfl)) (by kernel_rfl))) (by kernel_rfl) (by kernel_rfl)))) (fun _ => rfl))
  (sxs_one (sx_frz 2 (sx_ret (vX 2 (by kernel_rfl) (by kernel_rfl)))))))⟩
/-! ### chance_by -/
abbrev N_chance_by : List Str := ["lot", "stages", "taken", "_"]
noncomputable def D_chance_by : DenS :=
  (sRet (dCall (lCons (dLc (iSeq (dCall (lCons (vR 0) (lCons (vR 1) lNil)) f_course_of)) (gT (gsCons (gN 2) (gsCons (gN 3) gsNil)) 2) bYes (vR 2) [2, 3]) lNil) f_total))
noncomputable def f_chance_by : List D → Option D := runX D_chance_by 4
theorem sc_chance_by : FnScope N_chance_by ["lot", "stages"] (defScope (topOf PR 31)) := ⟨rfl, rfl, rfl, by decide +kernel, rfl, by decide +kernel, by decide +kernel⟩
theorem b_chance_by {w : World} {K : PySem.W.Frag} {mg : Str → Option Value} {base : Heap} {f : Addr} (c_course_of : FX PR w K mg base 4 "course_of" 2 f_course_of) (c_total : FX PR w K mg base 4 "total" 1 f_total) : Bd PR w K mg base 4 N_chance_by "chance_by" (defBody (topOf PR 31)) (defScope (topOf PR 31)) f D_chance_by :=
  ⟨fun cdv A outer s H E hr => by
  have nd : N_chance_by.Nodup := sc_chance_by.nd
  exact (sxs_one (sx_ret (cX (c_total : FX PR w K mg base _ _ _ _) hr (gl_of (by kernel_rfl)) (by kernel_rfl) (ea_cons (en_lc (own := [("taken", 2), ("_", 3)]) rfl nd (ei_seq (cX (c_course_of : FX PR w K mg base _ _ _ _) hr (gl_of (by kernel_rfl)) (by kernel_rfl) (ea_cons (vX 0 (by kernel_rfl) (by kernel_rfl)) (ea_cons (vX 1 (by kernel_rfl) (by kernel_rfl)) ea_nil (by kernel_rfl)) (by kernel_rfl)) rfl (by kernel_rfl) (by kernel_rfl) (lenS (lenS len0)))) (blkOk_by (by kernel_rfl)) (fun _ _ _ _ _ => (eg_tup (n := 2) rfl (egs_cons (eg_name 2 nd (by kernel_rfl) (by kernel_rfl) (by kernel_rfl)) (egs_cons (eg_name 3 nd (by kernel_rfl) (by kernel_rfl) (by kernel_rfl)) egs_nil (by kernel_rfl)) (by kernel_rfl)) (by kernel_rfl) (by kernel_rfl))) (fun _ _ _ _ _ => ets_nil) (fun _ _ _ _ _ => (vX 2 (by kernel_rfl) (by kernel_rfl))) (fun _ => rfl) (by decide)).x ea_nil (by kernel_rfl)) rfl (by kernel_rfl) (by kernel_rfl) (lenS len0))))⟩
/-! ### parting -/
abbrev N_parting : List Str := ["size", "one", "two", "bad"]
noncomputable def D_parting : DenS :=
  (sSeq (sDrop (dCall (lCons (vR 0) (lCons (vR 1) lNil)) f_check_stages))
  (sSeq (sDrop (dCall (lCons (vR 0) (lCons (vR 2) lNil)) f_check_stages))
  (sSeq (sFor (iR1 (d2 addD (vR 0) (kD (.int 1)))) (gN 3) (sIf (b2 neD (dCall (lCons (mkT (lCons (vR 0) (lCons (vR 3) lNil))) (lCons (vR 1) lNil)) f_chance_by) (dCall (lCons (mkT (lCons (vR 0) (lCons (vR 3) lNil))) (lCons (vR 2) lNil)) f_chance_by)) (sRet (vR 3)) sNx))
  (sRet (kD .none)))))
noncomputable def f_parting : List D → Option D := runX D_parting 4
theorem sc_parting : FnScope N_parting ["size", "one", "two"] (defScope (topOf PR 33)) := ⟨rfl, rfl, rfl, by decide +kernel, rfl, by decide +kernel, by decide +kernel⟩
theorem b_parting {w : World} {K : PySem.W.Frag} {mg : Str → Option Value} {base : Heap} {f : Addr} (h_range : mg "range" = none) (c_chance_by : FX PR w K mg base 5 "chance_by" 2 f_chance_by) (c_check_stages : FX PR w K mg base 5 "check_stages" 2 f_check_stages) : Bd PR w K mg base 5 N_parting "parting" (defBody (topOf PR 33)) (defScope (topOf PR 33)) f D_parting :=
  ⟨fun cdv A outer s H E hr => by
  have nd : N_parting.Nodup := sc_parting.nd
  exact (sxs_cons (sx_expr (cX (c_check_stages : FX PR w K mg base _ _ _ _) hr (gl_of (by kernel_rfl)) (by kernel_rfl) (ea_cons (vX 0 (by kernel_rfl) (by kernel_rfl)) (ea_cons (vX 1 (by kernel_rfl) (by kernel_rfl)) ea_nil (by kernel_rfl)) (by kernel_rfl)) rfl (by kernel_rfl) (by kernel_rfl) (lenS (lenS len0))) (by kernel_rfl))
  (sxs_cons (sx_expr (cX (c_check_stages : FX PR w K mg base _ _ _ _) hr (gl_of (by kernel_rfl)) (by kernel_rfl) (ea_cons (vX 0 (by kernel_rfl) (by kernel_rfl)) (ea_cons (vX 2 (by kernel_rfl) (by kernel_rfl)) ea_nil (by kernel_rfl)) (by kernel_rfl)) rfl (by kernel_rfl) (by kernel_rfl) (lenS (lenS len0))) (by kernel_rfl))
  (sxs_cons (sx_for PySem.PassesOwn.never rfl (ei_r1 (gl_of (by kernel_rfl)) h_range (ex_add (vX 0 (by kernel_rfl) (by kernel_rfl)).b ex_int.b) (by kernel_rfl)) (eg_name 3 nd (by kernel_rfl) (by kernel_rfl) (by kernel_rfl)) (sxs_one (sx_if (et_cmp (ec_ne (Zx.Room.u64 hr) (cX (c_chance_by : FX PR w K mg base _ _ _ _) hr (gl_of (by kernel_rfl)) (by kernel_rfl) (ea_cons (ex_tup (ea_cons (vX 0 (by kernel_rfl) (by kernel_rfl)) (ea_cons (vX 3 (by kernel_rfl) (by kernel_rfl)) ea_nil (by kernel_rfl)) (by kernel_rfl))) (ea_cons (vX 1 (by kernel_rfl) (by kernel_rfl)) ea_nil (by kernel_rfl)) (by kernel_rfl)) rfl (by kernel_rfl) (by kernel_rfl) (lenS (lenS len0))).b (cX (c_chance_by : FX PR w K mg base _ _ _ _) hr (gl_of (by kernel_rfl)) (by kernel_rfl) (ea_cons (ex_tup (ea_cons (vX 0 (by kernel_rfl) (by kernel_rfl)) (ea_cons (vX 3 (by kernel_rfl) (by kernel_rfl)) ea_nil (by kernel_rfl)) (by kernel_rfl))) (ea_cons (vX 2 (by kernel_rfl) (by kernel_rfl)) ea_nil (by kernel_rfl)) (by kernel_rfl)) rfl (by kernel_rfl) (by kernel_rfl) (lenS (lenS len0))).b) (by kernel_rfl)) (sxs_one (sx_ret (vX 3 (by kernel_rfl) (by kernel_rfl)))) sxs_nil)) (fun _ => rfl))
  (sxs_one (sx_ret ex_non)))))⟩
/-! ### single -/
abbrev N_single : List Str := ["size", "stages", "due", "sample", "most", "bad", "one"]
noncomputable def D_single : DenS :=
  (sSeq (sDrop (dCall (lCons (vR 0) (lCons (vR 1) lNil)) f_check_stages))
  (sSeq (sLcSet 2 false (dLc (iR1 (d2 addD (vR 0) (kD (.int 1)))) (gN 5) bYes (dCall (lCons (mkT (lCons (vR 0) (lCons (vR 5) lNil))) (lCons (vR 1) lNil)) f_chance_by) [5]))
  (sSeq (sFor (iR2 (kD (.int 1)) (d2 addD (vR 0) (kD (.int 1)))) (gN 3) (sFor (iR1 (vR 3)) (gN 4) (sIf (b1 truD (d1 allD (dLc (iEn (vR 2)) (gT (gsCons (gN 5) (gsCons (gN 6) gsNil)) 2) bYes (bV (b2 eqD (dCall (lCons (mkT (lCons (vR 0) (lCons (vR 5) lNil))) (lCons (mkT (lCons (vR 3) (lCons (vR 4) lNil))) lNil)) f_chance_of) (vR 6))) [5, 6]))) (sRet (mkT (lCons (vR 3) (lCons (vR 4) lNil)))) sNx)))
  (sRet (kD .none)))))
noncomputable def f_single : List D → Option D := runX D_single 7
theorem sc_single : FnScope N_single ["size", "stages"] (defScope (topOf PR 34)) := ⟨rfl, rfl, rfl, by decide +kernel, rfl, by decide +kernel, by decide +kernel⟩
theorem b_single {w : World} {K : PySem.W.Frag} {mg : Str → Option Value} {base : Heap} {f : Addr} (h_all : mg "all" = none) (h_enumerate : mg "enumerate" = none) (h_range : mg "range" = none) (c_chance_by : FX PR w K mg base 5 "chance_by" 2 f_chance_by) (c_chance_of : FX PR w K mg base 5 "chance_of" 2 f_chance_of) (c_check_stages : FX PR w K mg base 5 "check_stages" 2 f_check_stages) : Bd PR w K mg base 5 N_single "single" (defBody (topOf PR 34)) (defScope (topOf PR 34)) f D_single :=
  ⟨fun cdv A outer s H E hr => by
  have nd : N_single.Nodup := sc_single.nd
  exact (sxs_cons (sx_expr (cX (c_check_stages : FX PR w K mg base _ _ _ _) hr (gl_of (by kernel_rfl)) (by kernel_rfl) (ea_cons (vX 0 (by kernel_rfl) (by kernel_rfl)) (ea_cons (vX 1 (by kernel_rfl) (by kernel_rfl)) ea_nil (by kernel_rfl)) (by kernel_rfl)) rfl (by kernel_rfl) (by kernel_rfl) (lenS (lenS len0))) (by kernel_rfl))
  (sxs_cons (sx_setLc (own := [("bad", 5)]) 2 false rfl nd (by kernel_rfl) (by kernel_rfl) (by kernel_rfl) (ei_r1 (gl_of (by kernel_rfl)) h_range (ex_add (vX 0 (by kernel_rfl) (by kernel_rfl)).b ex_int.b) (by kernel_rfl)) (blkOk_by (by kernel_rfl)) (fun _ _ _ _ _ => (eg_name 5 nd (by kernel_rfl) (by kernel_rfl) (by kernel_rfl))) (fun _ _ _ _ _ => ets_nil) (fun _ _ _ _ _ => (cX (c_chance_by : FX PR w K mg base _ _ _ _) hr (gl_of (by kernel_rfl)) (by kernel_rfl) (ea_cons (ex_tup (ea_cons (vX 0 (by kernel_rfl) (by kernel_rfl)) (ea_cons (vX 5 (by kernel_rfl) (by kernel_rfl)) ea_nil (by kernel_rfl)) (by kernel_rfl))) (ea_cons (vX 1 (by kernel_rfl) (by kernel_rfl)) ea_nil (by kernel_rfl)) (by kernel_rfl)) rfl (by kernel_rfl) (by kernel_rfl) (lenS (lenS len0)))) (fun _ => rfl) (by decide))
  (sxs_cons (sx_for PySem.PassesOwn.never rfl (ei_r2 (gl_of (by kernel_rfl)) h_range ex_int (ex_add (vX 0 (by kernel_rfl) (by kernel_rfl)).b ex_int.b) (by kernel_rfl) (by kernel_rfl)) (eg_name 3 nd (by kernel_rfl) (by kernel_rfl) (by kernel_rfl)) (sxs_one (sx_for PySem.PassesOwn.never rfl (ei_r1 (gl_of (by kernel_rfl)) h_range (vX 3 (by kernel_rfl) (by kernel_rfl)) (by kernel_rfl)) (eg_name 4 nd (by kernel_rfl) (by kernel_rfl) (by kernel_rfl)) (sxs_one (sx_if (et_val (ex_all rfl (gl_of (by kernel_rfl)) h_all (en_lc (own := [("bad", 5), ("one", 6)]) rfl nd (ei_enum (gl_of (by kernel_rfl)) h_enumerate (vX 2 (by kernel_rfl) (by kernel_rfl)) (by kernel_rfl)) (blkOk_by (by kernel_rfl)) (fun _ _ _ _ _ => (eg_tup (n := 2) rfl (egs_cons (eg_name 5 nd (by kernel_rfl) (by kernel_rfl) (by kernel_rfl)) (egs_cons (eg_name 6 nd (by kernel_rfl) (by kernel_rfl) (by kernel_rfl)) egs_nil (by kernel_rfl)) (by kernel_rfl)) (by kernel_rfl) (by kernel_rfl))) (fun _ _ _ _ _ => ets_nil) (fun _ _ _ _ _ => (ex_cmp (ec_eq (Zx.Room.u64 hr) (cX (c_chance_of : FX PR w K mg base _ _ _ _) hr (gl_of (by kernel_rfl)) (by kernel_rfl) (ea_cons (ex_tup (ea_cons (vX 0 (by kernel_rfl) (by kernel_rfl)) (ea_cons (vX 5 (by kernel_rfl) (by kernel_rfl)) ea_nil (by kernel_rfl)) (by kernel_rfl))) (ea_cons (ex_tup (ea_cons (vX 3 (by kernel_rfl) (by kernel_rfl)) (ea_cons (vX 4 (by kernel_rfl) (by kernel_rfl)) ea_nil (by kernel_rfl)) (by kernel_rfl))) ea_nil (by kernel_rfl)) (by kernel_rfl)) rfl (by kernel_rfl) (by kernel_rfl) (lenS (lenS len0))).b (vX 6 (by kernel_rfl) (by kernel_rfl)).b) (by kernel_rfl))) (fun _ => rfl) (by decide)).x.b (by kernel_rfl)).b (fun _ => rfl)) (sxs_one (sx_ret (ex_tup (ea_cons (vX 3 (by kernel_rfl) (by kernel_rfl)) (ea_cons (vX 4 (by kernel_rfl) (by kernel_rfl)) ea_nil (by kernel_rfl)) (by kernel_rfl))))) sxs_nil)) (fun _ => rfl))) (fun _ => rfl))
  (sxs_one (sx_ret ex_non)))))⟩
/-! ### law -/
abbrev N_law : List Str := ["script", "draws", "size", "turn", "bad", "sample", "most", "taken", "first", "stages"]
noncomputable def D_law : DenS :=
  (sSeq (sSet 1 (dCall (lCons (vR 0) lNil) f__law_draws))
  (sSeq (sSet 2 (d2 addD (kD (.int 1)) (dCall (lCons (vR 1) (lCons (kD (.int 0)) (lCons (kD (.int 40)) lNil))) f__law_mix)))
  (sSeq (sFor (iR1 (kD (.int 5))) (gN 3) (sSeq (sSet 4 (dCall (lCons (vR 1) (lCons (d2 addD (kD (.int 10)) (d2 mulI (kD (.int 3)) (vR 3))) (lCons (d2 addD (vR 2) (kD (.int 1))) lNil))) f__law_mix))
   (sSeq (sSet 5 (d2 addD (kD (.int 1)) (dCall (lCons (vR 1) (lCons (d2 addD (kD (.int 11)) (d2 mulI (kD (.int 3)) (vR 3))) (lCons (vR 2) lNil))) f__law_mix)))
   (sSeq (sSet 6 (dCall (lCons (vR 1) (lCons (d2 addD (kD (.int 12)) (d2 mulI (kD (.int 3)) (vR 3))) (lCons (d2 addD (vR 5) (kD (.int 1))) lNil))) f__law_mix))
   (sSeq (sSet 7 (dCall (lCons (mkT (lCons (vR 2) (lCons (vR 4) lNil))) (lCons (mkT (lCons (vR 5) (lCons (vR 6) lNil))) lNil)) f_chance))
   (sSeq (sIf (bAnd (b2 ltI (vR 6) (vR 5)) (b2 neD (dCall (lCons (vR 7) (lCons (dCall (lCons (mkT (lCons (vR 2) (lCons (d2 subD (vR 2) (vR 4)) lNil))) (lCons (mkT (lCons (vR 5) (lCons (d2 subD (d2 subD (vR 5) (vR 6)) (kD (.int 1))) lNil))) lNil)) f_chance) lNil)) f__law_plus) (mkT (lCons (kD (.int 1)) (lCons (kD (.int 1)) lNil))))) (sRet (kD (.bool false))) sNx)
   (sSeq (sIf (bAnd (b2 gtI (vR 4) (kD (.int 0))) (b2 neD (dCall (lCons (mkT (lCons (vR 2) (lCons (vR 5) lNil))) (lCons (mkT (lCons (vR 4) (lCons (d2 minD2 (vR 6) (vR 4)) lNil))) lNil)) f_chance) (vR 7))) (sRet (kD (.bool false))) sNx)
   (sSeq (sIf (b2 neD (dCall (lCons (mkT (lCons (vR 2) (lCons (vR 4) lNil))) (lCons (mkT (lCons (vR 2) (lCons (d2 minD2 (vR 6) (vR 2)) lNil))) lNil)) f_chance) (mkT (lCons (d1 intD (bV (b2 leI (vR 4) (vR 6)))) (lCons (kD (.int 1)) lNil)))) (sRet (kD (.bool false))) sNx)
   (sIf (bAnd (b2 gtI (vR 5) (kD (.int 1))) (b2 ltI (vR 6) (vR 5))) (sSeq (sSet 8 (d2 addD (kD (.int 1)) (dCall (lCons (vR 1) (lCons (d2 addD (kD (.int 40)) (vR 3)) (lCons (d2 subD (vR 5) (kD (.int 1))) lNil))) f__law_mix)))
    (sSeq (sSet 9 (mkL (lCons (mkT (lCons (vR 8) (lCons (d1 negD (kD (.int 1))) (lCons (d2 addD (vR 8) (vR 5)) lNil)))) (lCons (mkT (lCons (d2 subD (vR 5) (vR 8)) (lCons (vR 6) (lCons (d2 addD (vR 6) (kD (.int 1))) lNil)))) lNil))))
    (sSeq (sIf (bAnd (b2 ltI (vR 2) (kD (.int 15))) (bOr (b1 notN (dCall (lCons (vR 2) (lCons (vR 9) (lCons (mkL (lCons (mkT (lCons (vR 5) (lCons (vR 6) (lCons (d2 addD (vR 6) (kD (.int 1))) lNil)))) lNil)) lNil))) f_parting)) (b2 neD (dCall (lCons (vR 2) (lCons (vR 9) lNil)) f_single) (mkT (lCons (vR 5) (lCons (vR 6) lNil)))))) (sRet (kD (.bool false))) sNx)
    (sIf (b2 neD (dCall (lCons (mkT (lCons (vR 2) (lCons (vR 4) lNil))) (lCons (vR 9) lNil)) f_mean) (mkT (lCons (vR 5) (lCons (kD (.int 1)) lNil)))) (sRet (kD (.bool false))) sNx)))) sNx)))))))))
  (sRet (dAnd (bV (b2 eqD (dCall (lCons (mkT (lCons (vR 2) (lCons (kD (.int 0)) lNil))) (lCons (mkT (lCons (kD (.int 1)) (lCons (kD (.int 0)) lNil))) lNil)) f_ways) (vR 2))) (bV (b2 eqD (dCall (lCons (mkT (lCons (vR 2) (lCons (vR 2) lNil))) (lCons (mkT (lCons (kD (.int 1)) (lCons (kD (.int 0)) lNil))) lNil)) f_ways) (kD (.int 0)))))))))
noncomputable def f_law : List D → Option D := runX D_law 10
theorem sc_law : FnScope N_law ["script"] (defScope (topOf PR 45)) := ⟨rfl, rfl, rfl, by decide +kernel, rfl, by decide +kernel, by decide +kernel⟩
theorem b_law {w : World} {K : PySem.W.Frag} {mg : Str → Option Value} {base : Heap} {f : Addr} (h_int : mg "int" = none) (h_min : mg "min" = none) (h_range : mg "range" = none) (c__law_draws : FX PR w K mg base 6 "_law_draws" 1 f__law_draws) (c__law_mix : FX PR w K mg base 6 "_law_mix" 3 f__law_mix) (c__law_plus : FX PR w K mg base 6 "_law_plus" 2 f__law_plus) (c_chance : FX PR w K mg base 6 "chance" 2 f_chance) (c_mean : FX PR w K mg base 6 "mean" 2 f_mean) (c_parting : FX PR w K mg base 6 "parting" 3 f_parting) (c_single : FX PR w K mg base 6 "single" 2 f_single) (c_ways : FX PR w K mg base 6 "ways" 2 f_ways) : Bd PR w K mg base 6 N_law "law" (defBody (topOf PR 45)) (defScope (topOf PR 45)) f D_law :=
  ⟨fun cdv A outer s H E hr => by
  have nd : N_law.Nodup := sc_law.nd
  exact (sxs_cons (sx_set 1 nd (by kernel_rfl) (by kernel_rfl) (by kernel_rfl) (cX (c__law_draws : FX PR w K mg base _ _ _ _) hr (gl_of (by kernel_rfl)) (by kernel_rfl) (ea_cons (vX 0 (by kernel_rfl) (by kernel_rfl)) ea_nil (by kernel_rfl)) rfl (by kernel_rfl) (by kernel_rfl) (lenS len0)) (by kernel_rfl))
  (sxs_cons (sx_set 2 nd (by kernel_rfl) (by kernel_rfl) (by kernel_rfl) (ex_add ex_int.b (cX (c__law_mix : FX PR w K mg base _ _ _ _) hr (gl_of (by kernel_rfl)) (by kernel_rfl) (ea_cons (vX 1 (by kernel_rfl) (by kernel_rfl)) (ea_cons ex_int (ea_cons ex_int ea_nil (by kernel_rfl)) (by kernel_rfl)) (by kernel_rfl)) rfl (by kernel_rfl) (by kernel_rfl) (lenS (lenS (lenS len0)))).b) (by kernel_rfl))
  (sxs_cons (sx_for PySem.PassesOwn.never rfl (ei_r1 (gl_of (by kernel_rfl)) h_range ex_int (by kernel_rfl)) (eg_name 3 nd (by kernel_rfl) (by kernel_rfl) (by kernel_rfl)) (sxs_cons (sx_set 4 nd (by kernel_rfl) (by kernel_rfl) (by kernel_rfl) (cX (c__law_mix : FX PR w K mg base _ _ _ _) hr (gl_of (by kernel_rfl)) (by kernel_rfl) (ea_cons (vX 1 (by kernel_rfl) (by kernel_rfl)) (ea_cons (ex_add ex_int.b (ex_mulI ex_int.b (vX 3 (by kernel_rfl) (by kernel_rfl)).b).b) (ea_cons (ex_add (vX 2 (by kernel_rfl) (by kernel_rfl)).b ex_int.b) ea_nil (by kernel_rfl)) (by kernel_rfl)) (by kernel_rfl)) rfl (by kernel_rfl) (by kernel_rfl) (lenS (lenS (lenS len0)))) (by kernel_rfl))
   (sxs_cons (sx_set 5 nd (by kernel_rfl) (by kernel_rfl) (by kernel_rfl) (ex_add ex_int.b (cX (c__law_mix : FX PR w K mg base _ _ _ _) hr (gl_of (by kernel_rfl)) (by kernel_rfl) (ea_cons (vX 1 (by kernel_rfl) (by kernel_rfl)) (ea_cons (ex_add ex_int.b (ex_mulI ex_int.b (vX 3 (by kernel_rfl) (by kernel_rfl)).b).b) (ea_cons (vX 2 (by kernel_rfl) (by kernel_rfl)) ea_nil (by kernel_rfl)) (by kernel_rfl)) (by kernel_rfl)) rfl (by kernel_rfl) (by kernel_rfl) (lenS (lenS (lenS len0)))).b) (by kernel_rfl))
   (sxs_cons (sx_set 6 nd (by kernel_rfl) (by kernel_rfl) (by kernel_rfl) (cX (c__law_mix : FX PR w K mg base _ _ _ _) hr (gl_of (by kernel_rfl)) (by kernel_rfl) (ea_cons (vX 1 (by kernel_rfl) (by kernel_rfl)) (ea_cons (ex_add ex_int.b (ex_mulI ex_int.b (vX 3 (by kernel_rfl) (by kernel_rfl)).b).b) (ea_cons (ex_add (vX 5 (by kernel_rfl) (by kernel_rfl)).b ex_int.b) ea_nil (by kernel_rfl)) (by kernel_rfl)) (by kernel_rfl)) rfl (by kernel_rfl) (by kernel_rfl) (lenS (lenS (lenS len0)))) (by kernel_rfl))
   (sxs_cons (sx_set 7 nd (by kernel_rfl) (by kernel_rfl) (by kernel_rfl) (cX (c_chance : FX PR w K mg base _ _ _ _) hr (gl_of (by kernel_rfl)) (by kernel_rfl) (ea_cons (ex_tup (ea_cons (vX 2 (by kernel_rfl) (by kernel_rfl)) (ea_cons (vX 4 (by kernel_rfl) (by kernel_rfl)) ea_nil (by kernel_rfl)) (by kernel_rfl))) (ea_cons (ex_tup (ea_cons (vX 5 (by kernel_rfl) (by kernel_rfl)) (ea_cons (vX 6 (by kernel_rfl) (by kernel_rfl)) ea_nil (by kernel_rfl)) (by kernel_rfl))) ea_nil (by kernel_rfl)) (by kernel_rfl)) rfl (by kernel_rfl) (by kernel_rfl) (lenS (lenS len0))) (by kernel_rfl))
   (sxs_cons (sx_if (ew_and (et_cmp (ec_ltI (vX 6 (by kernel_rfl) (by kernel_rfl)).b (vX 5 (by kernel_rfl) (by kernel_rfl)).b) (by kernel_rfl)) (ew_and1 (et_cmp (ec_ne (Zx.Room.u64 hr) (cX (c__law_plus : FX PR w K mg base _ _ _ _) hr (gl_of (by kernel_rfl)) (by kernel_rfl) (ea_cons (vX 7 (by kernel_rfl) (by kernel_rfl)) (ea_cons (cX (c_chance : FX PR w K mg base _ _ _ _) hr (gl_of (by kernel_rfl)) (by kernel_rfl) (ea_cons (ex_tup (ea_cons (vX 2 (by kernel_rfl) (by kernel_rfl)) (ea_cons (ex_sub (vX 2 (by kernel_rfl) (by kernel_rfl)).b (vX 4 (by kernel_rfl) (by kernel_rfl)).b) ea_nil (by kernel_rfl)) (by kernel_rfl))) (ea_cons (ex_tup (ea_cons (vX 5 (by kernel_rfl) (by kernel_rfl)) (ea_cons (ex_sub (ex_sub (vX 5 (by kernel_rfl) (by kernel_rfl)).b (vX 6 (by kernel_rfl) (by kernel_rfl)).b).b ex_int.b) ea_nil (by kernel_rfl)) (by kernel_rfl))) ea_nil (by kernel_rfl)) (by kernel_rfl)) rfl (by kernel_rfl) (by kernel_rfl) (lenS (lenS len0))) ea_nil (by kernel_rfl)) (by kernel_rfl)) rfl (by kernel_rfl) (by kernel_rfl) (lenS (lenS len0))).b (ex_tup (ea_cons ex_int (ea_cons ex_int ea_nil (by kernel_rfl)) (by kernel_rfl))).b) (by kernel_rfl)))).t (sxs_one (sx_ret ex_bl)) sxs_nil)
   (sxs_cons (sx_if (ew_and (et_cmp (ec_gtI (vX 4 (by kernel_rfl) (by kernel_rfl)).b ex_int.b) (by kernel_rfl)) (ew_and1 (et_cmp (ec_ne (Zx.Room.u64 hr) (cX (c_chance : FX PR w K mg base _ _ _ _) hr (gl_of (by kernel_rfl)) (by kernel_rfl) (ea_cons (ex_tup (ea_cons (vX 2 (by kernel_rfl) (by kernel_rfl)) (ea_cons (vX 5 (by kernel_rfl) (by kernel_rfl)) ea_nil (by kernel_rfl)) (by kernel_rfl))) (ea_cons (ex_tup (ea_cons (vX 4 (by kernel_rfl) (by kernel_rfl)) (ea_cons (ex_min2 rfl (gl_of (by kernel_rfl)) h_min (vX 6 (by kernel_rfl) (by kernel_rfl)).b (vX 4 (by kernel_rfl) (by kernel_rfl)).b (by kernel_rfl) (by kernel_rfl)) ea_nil (by kernel_rfl)) (by kernel_rfl))) ea_nil (by kernel_rfl)) (by kernel_rfl)) rfl (by kernel_rfl) (by kernel_rfl) (lenS (lenS len0))).b (vX 7 (by kernel_rfl) (by kernel_rfl)).b) (by kernel_rfl)))).t (sxs_one (sx_ret ex_bl)) sxs_nil)
   (sxs_cons (sx_if (et_cmp (ec_ne (Zx.Room.u64 hr) (cX (c_chance : FX PR w K mg base _ _ _ _) hr (gl_of (by kernel_rfl)) (by kernel_rfl) (ea_cons (ex_tup (ea_cons (vX 2 (by kernel_rfl) (by kernel_rfl)) (ea_cons (vX 4 (by kernel_rfl) (by kernel_rfl)) ea_nil (by kernel_rfl)) (by kernel_rfl))) (ea_cons (ex_tup (ea_cons (vX 2 (by kernel_rfl) (by kernel_rfl)) (ea_cons (ex_min2 rfl (gl_of (by kernel_rfl)) h_min (vX 6 (by kernel_rfl) (by kernel_rfl)).b (vX 2 (by kernel_rfl) (by kernel_rfl)).b (by kernel_rfl) (by kernel_rfl)) ea_nil (by kernel_rfl)) (by kernel_rfl))) ea_nil (by kernel_rfl)) (by kernel_rfl)) rfl (by kernel_rfl) (by kernel_rfl) (lenS (lenS len0))).b (ex_tup (ea_cons (ex_int1 (gl_of (by kernel_rfl)) h_int (ex_cmp (ec_leI (vX 4 (by kernel_rfl) (by kernel_rfl)).b (vX 6 (by kernel_rfl) (by kernel_rfl)).b) (by kernel_rfl)).b (by kernel_rfl)) (ea_cons ex_int ea_nil (by kernel_rfl)) (by kernel_rfl))).b) (by kernel_rfl)) (sxs_one (sx_ret ex_bl)) sxs_nil)
   (sxs_one (sx_if (ew_and (et_cmp (ec_gtI (vX 5 (by kernel_rfl) (by kernel_rfl)).b ex_int.b) (by kernel_rfl)) (ew_and1 (et_cmp (ec_ltI (vX 6 (by kernel_rfl) (by kernel_rfl)).b (vX 5 (by kernel_rfl) (by kernel_rfl)).b) (by kernel_rfl)))).t (sxs_cons (sx_set 8 nd (by kernel_rfl) (by kernel_rfl) (by kernel_rfl) (ex_add ex_int.b (cX (c__law_mix : FX PR w K mg base _ _ _ _) hr (gl_of (by kernel_rfl)) (by kernel_rfl) (ea_cons (vX 1 (by kernel_rfl) (by kernel_rfl)) (ea_cons (ex_add ex_int.b (vX 3 (by kernel_rfl) (by kernel_rfl)).b) (ea_cons (ex_sub (vX 5 (by kernel_rfl) (by kernel_rfl)).b ex_int.b) ea_nil (by kernel_rfl)) (by kernel_rfl)) (by kernel_rfl)) rfl (by kernel_rfl) (by kernel_rfl) (lenS (lenS (lenS len0)))).b) (by kernel_rfl))
    (sxs_cons (sx_set 9 nd (by kernel_rfl) (by kernel_rfl) (by kernel_rfl) (en_lst (ea_cons (ex_tup (ea_cons (vX 8 (by kernel_rfl) (by kernel_rfl)) (ea_cons (ex_neg ex_int.b) (ea_cons (ex_add (vX 8 (by kernel_rfl) (by kernel_rfl)).b (vX 5 (by kernel_rfl) (by kernel_rfl)).b) ea_nil (by kernel_rfl)) (by kernel_rfl)) (by kernel_rfl))) (ea_cons (ex_tup (ea_cons (ex_sub (vX 5 (by kernel_rfl) (by kernel_rfl)).b (vX 8 (by kernel_rfl) (by kernel_rfl)).b) (ea_cons (vX 6 (by kernel_rfl) (by kernel_rfl)) (ea_cons (ex_add (vX 6 (by kernel_rfl) (by kernel_rfl)).b ex_int.b) ea_nil (by kernel_rfl)) (by kernel_rfl)) (by kernel_rfl))) ea_nil (by kernel_rfl)) (by kernel_rfl))).x (by kernel_rfl))
    (sxs_cons (sx_if (ew_and (et_cmp (ec_ltI (vX 2 (by kernel_rfl) (by kernel_rfl)).b ex_int.b) (by kernel_rfl)) (ew_and1 (ew_or (et_cmp (ec_notN (cX (c_parting : FX PR w K mg base _ _ _ _) hr (gl_of (by kernel_rfl)) (by kernel_rfl) (ea_cons (vX 2 (by kernel_rfl) (by kernel_rfl)) (ea_cons (vX 9 (by kernel_rfl) (by kernel_rfl)) (ea_cons (en_lst (ea_cons (ex_tup (ea_cons (vX 5 (by kernel_rfl) (by kernel_rfl)) (ea_cons (vX 6 (by kernel_rfl) (by kernel_rfl)) (ea_cons (ex_add (vX 6 (by kernel_rfl) (by kernel_rfl)).b ex_int.b) ea_nil (by kernel_rfl)) (by kernel_rfl)) (by kernel_rfl))) ea_nil (by kernel_rfl))).x ea_nil (by kernel_rfl)) (by kernel_rfl)) (by kernel_rfl)) rfl (by kernel_rfl) (by kernel_rfl) (lenS (lenS (lenS len0)))).b) (by kernel_rfl)) (ew_or1 (et_cmp (ec_ne (Zx.Room.u64 hr) (cX (c_single : FX PR w K mg base _ _ _ _) hr (gl_of (by kernel_rfl)) (by kernel_rfl) (ea_cons (vX 2 (by kernel_rfl) (by kernel_rfl)) (ea_cons (vX 9 (by kernel_rfl) (by kernel_rfl)) ea_nil (by kernel_rfl)) (by kernel_rfl)) rfl (by kernel_rfl) (by kernel_rfl) (lenS (lenS len0))).b (ex_tup (ea_cons (vX 5 (by kernel_rfl) (by kernel_rfl)) (ea_cons (vX 6 (by kernel_rfl) (by kernel_rfl)) ea_nil (by kernel_rfl)) (by kernel_rfl))).b) (by kernel_rfl)))).t)).t (sxs_one (sx_ret ex_bl)) sxs_nil)
    (sxs_one (sx_if (et_cmp (ec_ne (Zx.Room.u64 hr) (cX (c_mean : FX PR w K mg base _ _ _ _) hr (gl_of (by kernel_rfl)) (by kernel_rfl) (ea_cons (ex_tup (ea_cons (vX 2 (by kernel_rfl) (by kernel_rfl)) (ea_cons (vX 4 (by kernel_rfl) (by kernel_rfl)) ea_nil (by kernel_rfl)) (by kernel_rfl))) (ea_cons (vX 9 (by kernel_rfl) (by kernel_rfl)) ea_nil (by kernel_rfl)) (by kernel_rfl)) rfl (by kernel_rfl) (by kernel_rfl) (lenS (lenS len0))).b (ex_tup (ea_cons (vX 5 (by kernel_rfl) (by kernel_rfl)) (ea_cons ex_int ea_nil (by kernel_rfl)) (by kernel_rfl))).b) (by kernel_rfl)) (sxs_one (sx_ret ex_bl)) sxs_nil))))) sxs_nil))))))))) (fun _ => rfl))
  (sxs_one (sx_ret (ex_and (ex_cmp (ec_eq (Zx.Room.u64 hr) (cX (c_ways : FX PR w K mg base _ _ _ _) hr (gl_of (by kernel_rfl)) (by kernel_rfl) (ea_cons (ex_tup (ea_cons (vX 2 (by kernel_rfl) (by kernel_rfl)) (ea_cons ex_int ea_nil (by kernel_rfl)) (by kernel_rfl))) (ea_cons (ex_tup (ea_cons ex_int (ea_cons ex_int ea_nil (by kernel_rfl)) (by kernel_rfl))) ea_nil (by kernel_rfl)) (by kernel_rfl)) rfl (by kernel_rfl) (by kernel_rfl) (lenS (lenS len0))).b (vX 2 (by kernel_rfl) (by kernel_rfl)).b) (by kernel_rfl)) (ex_one (ex_cmp (ec_eq (Zx.Room.u64 hr) (cX (c_ways : FX PR w K mg base _ _ _ _) hr (gl_of (by kernel_rfl)) (by kernel_rfl) (ea_cons (ex_tup (ea_cons (vX 2 (by kernel_rfl) (by kernel_rfl)) (ea_cons (vX 2 (by kernel_rfl) (by kernel_rfl)) ea_nil (by kernel_rfl)) (by kernel_rfl))) (ea_cons (ex_tup (ea_cons ex_int (ea_cons ex_int ea_nil (by kernel_rfl)) (by kernel_rfl))) ea_nil (by kernel_rfl)) (by kernel_rfl)) rfl (by kernel_rfl) (by kernel_rfl) (lenS (lenS len0))).b ex_int.b) (by kernel_rfl)))))))))⟩
end Zx.k75
/-! P1: choose, ways, chances. -/
namespace Zx.k75
open PySem PySem.Spec L2 Zx
theorem e_fraction : f_fraction = Cm.f_fraction := rfl
theorem e_plus : f_plus = Cm.f_plus := rfl
theorem e_times : f_times = Cm.f_times := rfl
theorem e_total : f_total = Cm.f_total := rfl
theorem e_draws : f__law_draws = Cm.f__law_draws := rfl
theorem e_mix : f__law_mix = Cm.f__law_mix := rfl
/-- choose(n, k) -/
def CI (n k : Int) : Nat := if k < 0 ∨ n < k then 0 else C n.toNat k.toNat
theorem CI_nat (n k : Nat) : CI n k = C n k := by
  unfold CI
  by_cases h : (n : Int) < k
  · rw [if_pos (.inr h), C_big (by omega)]
  · rw [if_neg (by omega)]
    simp
theorem CI_neg {n k : Int} (h : n < 0) : CI n k = 0 := by
  unfold CI
  split
  · rfl
  · rename_i hk
    exfalso
    omega
theorem CI_le {n k : Int} (h : n ≤ 100) : CI n k ≤ 2 ^ 100 := by
  unfold CI
  split
  · exact Nat.zero_le _
  · exact Nat.le_trans (C_le _ _) (Nat.pow_le_pow_right (by decide) (by omega))
theorem small_log {a : Nat} (h : a < 1000000) : a.log2 < 9000 := Nat.lt_of_lt_of_le (log2_lt (n := 20) (by omega) (by decide)) (by decide)
theorem choose_eq (n k : Int) (hn : n ≤ 100) : f_choose [.int n, .int k] = some (.int (CI n k)) := by
  unfold f_choose D_choose
  by_cases hb : k < 0 ∨ n < k
  · have : CI n k = 0 := if_pos hb
    rw [this]
    by_cases h1 : k < 0
    · simp [h1]
    · have h2 : n < k := hb.resolve_left h1
      simp [h1, h2]
  · have h1 : ¬ k < 0 := fun h => hb (.inl h)
    have h2 : ¬ n < k := fun h => hb (.inr h)
    have e1 : CI n k = C n.toNat k.toNat := if_neg hb
    refine run_seq (ρ' := [.fz (.int n), .fz (.int k), .no, .no]) (by simp [h1, h2]) ?_
    rw [sSeq_nx (ρ' := [.fz (.int n), .fz (.int k), .fz (.int 1), .no]) (by simp)]
    obtain ⟨ρ', g1, g2⟩ := sFor_ok (fi := iR1 (vR 1)) (g := gN 3) (fb := sSet 2 (d2 fdivD (d2 mulI (vR 2) (d2 subD (vR 0) (vR 3))) (d2 addD (vR 3) (kD (.int 1))))) (ρ := [.fz (.int n), .fz (.int k), .fz (.int 1), .no]) (ds := rgL 0 k.toNat)
      (fun j ρ => ∃ s, ρ = [.fz (.int n), .fz (.int k), .fz (.int (C n.toNat j)), s]) (by simp; exact rg1_ok (by omega) (by omega)) ⟨.no, by simp⟩ (fun j d ρ hd ⟨s, hp⟩ => by
        subst hp
        obtain ⟨hj, rfl⟩ := rgL_at hd
        have hC := C_le n.toNat j
        have hp : (2 : Nat) ^ n.toNat ≤ 2 ^ 100 := Nat.pow_le_pow_right (by decide) (by omega)
        have m1 : mulOk (C n.toNat j : Int) (n - (0 + j)) = true := mulOk_i (m := 101) (n := 64) (by rw [Int.natAbs_natCast, Nat.pow_succ]; omega) (by omega) (by decide) (by decide)
        have e2 : (C n.toNat j : Int) * (n - (0 + j)) / (0 + j + 1) = C n.toNat (j + 1) := by
          have := C_step n.toNat j
          have e3 : (C n.toNat j : Int) * (n - (0 + j)) = ((C n.toNat (j + 1) : Nat) : Int) * (0 + j + 1) := by
            have e4 : n - (0 + (j : Int)) = ((n.toNat - j : Nat) : Int) := by omega
            have e5 : (0 : Int) + (j : Int) + 1 = ((j + 1 : Nat) : Int) := by omega
            rw [e4, e5, ← Int.natCast_mul, ← Int.natCast_mul, this]
          rw [e3, Int.mul_ediv_cancel _ (by omega)]
        have hlog : ((0 : Int) + j + 1).natAbs.log2 < 9000 := small_log (by omega)
        have hpos : (0 : Int) < 0 + j + 1 := by omega
        refine ⟨_, _, rfl, by
          simp only [sSet_s, d2_s, vR_s, kD_s, List.set_cons_zero, List.set_cons_succ, List.getElem?_cons_zero, List.getElem?_cons_succ, Option.bind_some, subD_i, mulI_i, m1, if_true, addD_i, fdivD_i, hlog, hpos, and_self, e2], _, .inl rfl, .fz (.int (0 + j)), rfl⟩)
    obtain ⟨s, rfl⟩ := g2
    rw [sSeq_nx g1]
    simp [e1]
/-! ### comprehensions -/
theorem lcL_all {g : DenG} {fe : Den} {ρ : Env} (e : D → D) : ∀ (ds : List D), (∀ d ∈ ds, ∃ ρ1, g d ρ = some ρ1 ∧ fe ρ1 = some (e d)) → lcL g bYes fe ρ ds = some (ds.map e)
  | [], _ => rfl
  | d :: ds, h => by
    obtain ⟨ρ1, h1, h2⟩ := h d List.mem_cons_self
    have ih := lcL_all e ds fun x hx => h x (List.mem_cons_of_mem _ hx)
    simp [lcL, h1, h2, ih]
theorem lcL_if {g : DenG} {ft : DenB} {fe : Den} {ρ : Env} (b : D → Bool) (e : D → D) : ∀ (ds : List D), (∀ d ∈ ds, ∃ ρ1, g d ρ = some ρ1 ∧ ft ρ1 = some (b d) ∧ (b d = true → fe ρ1 = some (e d))) → lcL g ft fe ρ ds = some ((ds.filter b).map e)
  | [], _ => rfl
  | d :: ds, h => by
    obtain ⟨ρ1, h1, h2, h3⟩ := h d List.mem_cons_self
    have ih := lcL_if b e ds fun x hx => h x (List.mem_cons_of_mem _ hx)
    cases hb : b d with
    | true => simp [lcL, h1, h2, hb, h3 hb, ih]
    | false => simp [lcL, h1, h2, hb, ih]
theorem dLc_of {fi : DenI} {g : DenG} {ft : DenB} {fe : Den} {vs : List Nat} {ρ : Env} {ds out : List D} (h1 : fi ρ = some ds) (h2 : lcL g ft fe (wipeE ρ vs) ds = some out) (h3 : out.length ≤ 1000000) : dLc fi g ft fe vs ρ = some (.list out) := by
  unfold dLc
  simp [h1, h2, h3]
theorem intsOf_map : ∀ (is : List Int), intsOf (is.map .int) = some is
  | [] => rfl
  | i :: is => by
    rw [List.map_cons, intsOf, intsOf_map is]
    rfl
theorem bools_map : ∀ (is : List Bool), bools (is.map .bool) = some is
  | [] => rfl
  | i :: is => by
    rw [List.map_cons, bools, bools_map is]
    rfl
theorem rs_cast (n : Nat) (f : Nat → Nat) : ((List.range n).map fun i => (f i : Int)).sum = ((rs n f : Nat) : Int) := by
  unfold rs
  induction n with
  | zero => rfl
  | succ n ih => rw [List.range_succ, List.map_append, List.sum_append, ih, List.map_append, List.sum_append, Int.natCast_add]; simp
/-- the ways with at most m bad ones -/
def W (n b s m : Nat) : Nat := rs (m + 1) fun f => C b f * C (n - b) (s - f)
theorem W_le (n b s m : Nat) (hb : b ≤ n) (hm : m ≤ s) : W n b s m ≤ C n s := by
  have h := vdm b (n - b) s
  rw [show b + (n - b) = n by omega] at h
  rw [← h]
  have := rs_split (m + 1) (s - m) fun f => C b f * C (n - b) (s - f)
  rw [show m + 1 + (s - m) = s + 1 by omega] at this
  rw [this]
  exact Nat.le_add_right _ _
abbrev tup (xs : List D) : D := .tuple xs
abbrev lotD (n b : Nat) : D := .tuple [.int n, .int b]
theorem mulCI {a b c d : Int} (h1 : a ≤ 100) (h2 : c ≤ 100) : mulOk (CI a b : Int) (CI c d : Int) = true := by
  have := CI_le (k := b) h1
  have := CI_le (k := d) h2
  exact mulOk_i (m := 101) (n := 101) (by rw [Int.natAbs_natCast, Nat.pow_succ]; omega) (by rw [Int.natAbs_natCast, Nat.pow_succ]; omega) (by decide) (by decide)
theorem sets_eq (n b s f : Nat) (hn : n ≤ 40) (hb : b ≤ n) (hf : f ≤ s) : f_sets_with [lotD n b, .int s, .int f] = some (.int ((C b f * C (n - b) (s - f) : Nat) : Int)) := by
  unfold f_sets_with D_sets_with
  have c1 := choose_eq (b : Int) f (by omega)
  have c2 := choose_eq ((n : Int) - b) ((s : Int) - f) (by omega)
  have m1 := mulCI (a := (b : Int)) (b := f) (c := (n : Int) - b) (d := (s : Int) - f) (by omega) (by omega)
  have e1 : CI b f = C b f := CI_nat b f
  have e2 : CI ((n : Int) - b) ((s : Int) - f) = C (n - b) (s - f) := by
    rw [show (n : Int) - b = ((n - b : Nat) : Int) by omega, show (s : Int) - f = ((s - f : Nat) : Int) by omega, CI_nat]
  rw [e1, e2] at m1
  rw [e1] at c1
  rw [e2] at c2
  simp [c1, c2, m1]
theorem ways_eq (n b s m : Nat) (hn : n ≤ 40) (hb : b ≤ n) (hm : m ≤ s) (hs : s ≤ n) : f_ways_of [lotD n b, .tuple [.int s, .int m]] = some (.int (W n b s m)) := by
  unfold f_ways_of D_ways_of
  have hl : dLc (iR1 (d2 addD (d2 ixD (vR 1) (kD (.int 1))) (kD (.int 1)))) (gN 2) bYes (dCall (lCons (vR 0) (lCons (d2 ixD (vR 1) (kD (.int 0))) (lCons (vR 2) lNil))) f_sets_with) [2] [.fz (lotD n b), .fz (.tuple [.int s, .int m]), .no] =
      some (.list ((List.range (m + 1)).map fun f => .int ((C b f * C (n - b) (s - f) : Nat) : Int))) := by
    refine dLc_of (ds := rgL 0 (m + 1)) (by simp; exact rg1_ok (by omega) (by omega)) ?_ (by simp; omega)
    rw [lcL_all (fun d => match d with | .int i => .int ((C b i.toNat * C (n - b) (s - i.toNat) : Nat) : Int) | _ => .none) (rgL 0 (m + 1)) fun d hd => ?_]
    · unfold rgL
      rw [List.map_map]
      congr 1
      refine List.map_congr_left fun i hi => ?_
      simp
    · obtain ⟨j, hj⟩ := List.mem_iff_getElem?.mp hd
      obtain ⟨hj2, rfl⟩ := rgL_at hj
      refine ⟨_, rfl, ?_⟩
      have := sets_eq n b s j hn hb (by omega)
      simp [this, wipeE]
  have e1 : ((List.range (m + 1)).map fun f => PyData.int ((C b f * C (n - b) (s - f) : Nat) : Int)) = ((List.range (m + 1)).map fun f => ((C b f * C (n - b) (s - f) : Nat) : Int)).map PyData.int := by rw [List.map_map]; rfl
  simp only [runX_s, env0_s, List.map_cons, List.map_nil, List.length_cons, List.length_nil, List.replicate, List.cons_append, List.nil_append, sRet_s, d1_s]
  rw [hl, Option.bind_some, e1]
  simp only [sumD, intsOf_map, Option.bind_some]
  rw [rs_cast]
  rfl
/-- the chance -/
def ch (n b s m : Nat) : Rat := (W n b s m : Rat) / (C n s : Rat)
theorem C_lt_pow {n s : Nat} (hn : n ≤ 40) : C n s < 2 ^ 41 := by
  have := C_le n s
  have h2 : (2 : Nat) ^ n ≤ 2 ^ 40 := Nat.pow_le_pow_right (by decide) hn
  omega
theorem chance_of_eq (n b s m : Nat) (hn : n ≤ 40) (hb : b ≤ n) (hm : m ≤ s) (hs : s ≤ n) : f_chance_of [lotD n b, .tuple [.int s, .int m]] = some (frD (ch n b s m)) := by
  unfold f_chance_of D_chance_of
  have hw := ways_eq n b s m hn hb hm hs
  have c1 := choose_eq (n : Int) s (by omega)
  rw [CI_nat] at c1
  have hp := C_pos hs
  have hlt := C_lt_pow (s := s) hn
  have hf := fraction_eq (W n b s m) (C n s) (by omega) (by rw [Int.natAbs_natCast]; exact Nat.lt_of_lt_of_le hlt (Nat.pow_le_pow_right (by decide) (by decide)))
  have e : ((W n b s m : Int) : Rat) / ((C n s : Int) : Rat) = ch n b s m := rfl
  rw [e] at hf
  simp [hw, c1, e_fraction, hf]
theorem check_size_eq (n : Nat) (h1 : 1 ≤ n) (hn : n ≤ 40) : f_check_size [.int n] = some .none := by
  unfold f_check_size D_check_size
  have h2 : (1 : Int) ≤ n := by omega
  have h3 : (n : Int) ≤ 100 := by omega
  simp [h2, h3]
theorem check_lot_eq (n b : Nat) (h1 : 1 ≤ n) (hn : n ≤ 40) (hb : b ≤ n) : f_check_lot [lotD n b] = some .none := by
  unfold f_check_lot D_check_lot
  have hz : ((b : Int) ≤ n) := by omega
  simp [check_size_eq n h1 hn, hz]
theorem check_plan_eq (n s m : Nat) (hs1 : 1 ≤ s) (hs : s ≤ n) (hm : m ≤ s) : f_check_plan [.int n, .tuple [.int s, .int m]] = some .none := by
  unfold f_check_plan D_check_plan
  have h1 : (1 : Int) ≤ s := by omega
  have h2 : (s : Int) ≤ n := by omega
  have h3 : (m : Int) ≤ s := by omega
  simp [h1, h2, h3]
theorem check_both_eq (n b s m : Nat) (h1 : 1 ≤ n) (hn : n ≤ 40) (hb : b ≤ n) (hs1 : 1 ≤ s) (hs : s ≤ n) (hm : m ≤ s) : f_check_both [lotD n b, .tuple [.int s, .int m]] = some .none := by
  unfold f_check_both D_check_both
  simp [check_lot_eq n b h1 hn hb, check_plan_eq n s m hs1 hs hm]
theorem chance_eq (n b s m : Nat) (h1 : 1 ≤ n) (hn : n ≤ 40) (hb : b ≤ n) (hs1 : 1 ≤ s) (hs : s ≤ n) (hm : m ≤ s) : f_chance [lotD n b, .tuple [.int s, .int m]] = some (frD (ch n b s m)) := by
  unfold f_chance D_chance
  simp [check_both_eq n b s m h1 hn hb hs1 hs hm, chance_of_eq n b s m hn hb hm hs]
theorem waysc_eq (n b s m : Nat) (h1 : 1 ≤ n) (hn : n ≤ 40) (hb : b ≤ n) (hs1 : 1 ≤ s) (hs : s ≤ n) (hm : m ≤ s) : f_ways [lotD n b, .tuple [.int s, .int m]] = some (.int (W n b s m)) := by
  unfold f_ways D_ways
  simp [check_both_eq n b s m h1 hn hb hs1 hs hm, ways_eq n b s m hn hb hm hs]
end Zx.k75
/-! P2: the laws of the hypergeometric numbers; the law's own fractions. -/
namespace Zx.k75
open PySem PySem.Spec L2 Zx
/-- good and bad exchanged -/
theorem W_turn (n b s m : Nat) (hb : b ≤ n) (hm : m < s) : W n b s m + W n (n - b) s (s - m - 1) = C n s := by
  have h := vdm b (n - b) s
  rw [show b + (n - b) = n by omega] at h
  have h2 := rs_split (m + 1) (s - m) fun f => C b f * C (n - b) (s - f)
  rw [show m + 1 + (s - m) = s + 1 by omega, h] at h2
  rw [h2]
  unfold W
  congr 1
  rw [show s - m - 1 + 1 = (s - m - 1) + 1 from rfl, rs_rev, show s - m - 1 + 1 = s - m by omega]
  refine rs_congr fun i hi => ?_
  rw [show n - (n - b) = b by omega, show s - (s - m - 1 - i) = m + 1 + i by omega, show s - m - 1 - i = s - (m + 1 + i) by omega, Nat.mul_comm]
theorem C_two (N u v : Nat) : C N u * C (N - u) v = C N v * C (N - v) u := by
  have h1 := C_tri N (u + v) u (by omega)
  have h2 := C_tri N (u + v) v (by omega)
  rw [show u + v - u = v by omega] at h1
  rw [show u + v - v = u by omega] at h2
  rw [← h1, ← h2]
  congr 1
  have := C_symm (n := u + v) (k := u) (by omega)
  rw [this, show u + v - u = v by omega]
theorem W_term (n b s f : Nat) (hf1 : f ≤ b) (hf2 : f ≤ s) : C s f * C (n - s) (b - f) * C n s = C b f * C (n - b) (s - f) * C n b := by
  have t1 := C_tri n s f hf2
  have t2 := C_tri n b f hf1
  have t3 := C_two (n - f) (s - f) (b - f)
  rw [show n - f - (s - f) = n - s by omega, show n - f - (b - f) = n - b by omega] at t3
  calc C s f * C (n - s) (b - f) * C n s = (C n s * C s f) * C (n - s) (b - f) := by simp only [Nat.mul_assoc, Nat.mul_comm, Nat.mul_left_comm]
    _ = (C n f * C (n - f) (s - f)) * C (n - s) (b - f) := by rw [t1]
    _ = C n f * (C (n - f) (s - f) * C (n - s) (b - f)) := by rw [Nat.mul_assoc]
    _ = C n f * (C (n - f) (b - f) * C (n - b) (s - f)) := by rw [t3]
    _ = (C n f * C (n - f) (b - f)) * C (n - b) (s - f) := by rw [Nat.mul_assoc]
    _ = (C n b * C b f) * C (n - b) (s - f) := by rw [t2]
    _ = C b f * C (n - b) (s - f) * C n b := by simp only [Nat.mul_assoc, Nat.mul_comm, Nat.mul_left_comm]
theorem W_min (n b s m : Nat) : W n b s m = W n b s (min m b) := by
  by_cases h : m ≤ b
  · rw [Nat.min_eq_left h]
  · rw [Nat.min_eq_right (by omega)]
    unfold W
    rw [show m + 1 = (b + 1) + (m - b) by omega, rs_split, rs_zeros (n := m - b), Nat.add_zero]
    intro i hi
    rw [C_big (show b < b + 1 + i by omega), Nat.zero_mul]
/-- sample and bad exchanged -/
theorem W_swap (n b s m : Nat) (hm : m ≤ s) : W n s b (min m b) * C n s = W n b s m * C n b := by
  rw [W_min n b s m]
  unfold W
  have h1 : ∀ (k : Nat) (f : Nat → Nat) (c : Nat), rs k f * c = rs k fun i => f i * c := fun k f c => by
    rw [Nat.mul_comm, ← rs_mul]
    exact rs_congr fun i _ => Nat.mul_comm _ _
  rw [h1, h1]
  refine rs_congr fun i hi => ?_
  exact W_term n b s i (by omega) (by omega)
theorem W_all (n b m : Nat) (hb : b ≤ n) (hm : m ≤ n) : W n b n m = if b ≤ m then 1 else 0 := by
  unfold W
  have z : ∀ f, f ≤ n → f ≠ b → C b f * C (n - b) (n - f) = 0 := fun f hf hne => by
    by_cases h : b < f
    · rw [C_big h, Nat.zero_mul]
    · rw [C_big (show n - b < n - f by omega), Nat.mul_zero]
  split
  · rename_i h
    rw [show m + 1 = b + (1 + (m - b)) by omega, rs_split, rs_zeros (n := b) (fun i hi => z i (by omega) (by omega)), rs_split, rs_zeros (n := m - b) (fun i hi => z _ (by omega) (by omega))]
    simp [rs]
  · exact rs_zeros fun i hi => z i (by omega) (by omega)
theorem W_full (n b s : Nat) (hb : b ≤ n) : W n b s s = C n s := by
  have h := vdm b (n - b) s
  rw [show b + (n - b) = n by omega] at h
  exact h
/-! ### the same as chances -/
theorem nz {n s : Nat} (h : s ≤ n) : ((C n s : Nat) : Rat) ≠ 0 := by
  have := C_pos h
  have : ((C n s : Nat) : Rat) > 0 := Rat.natCast_pos.mpr this
  grind
theorem ch_turn (n b s m : Nat) (hb : b ≤ n) (hm : m < s) (hs : s ≤ n) : ch n b s m + ch n (n - b) s (s - m - 1) = 1 := by
  have h := W_turn n b s m hb hm
  have h1 : ((W n b s m : Nat) : Rat) + ((W n (n - b) s (s - m - 1) : Nat) : Rat) = ((C n s : Nat) : Rat) := by rw [← h, Rat.natCast_add]
  have := nz hs
  unfold ch
  grind
theorem ch_swap (n b s m : Nat) (hm : m ≤ s) (hb : b ≤ n) (hs : s ≤ n) : ch n s b (min m b) = ch n b s m := by
  have h := W_swap n b s m hm
  have h1 : ((W n s b (min m b) : Nat) : Rat) * ((C n s : Nat) : Rat) = ((W n b s m : Nat) : Rat) * ((C n b : Nat) : Rat) := by rw [← Rat.natCast_mul, h, Rat.natCast_mul]
  have := nz hs
  have := nz hb
  unfold ch
  grind
theorem ch_all (n b m : Nat) (hb : b ≤ n) (hm : m ≤ n) : ch n b n m = if b ≤ m then 1 else 0 := by
  unfold ch
  rw [W_all n b m hb hm, C_self]
  split
  · grind
  · grind
/-! ### the law's fractions -/
theorem gcd_loop : ∀ (b a : Nat), ∃ n, whL (b2 neD (vR 1) (kD (.int 0))) (sAsg (gLs (gsCons (gN 0) (gsCons (gN 1) gsNil)) 2) (mkL (lCons (vR 1) (lCons (d2 modD (d1 intD (vR 0)) (vR 1)) lNil)))) n [.fz (.int a), .fz (.int b)] = some (.nx [.fz (.int (Nat.gcd a b : Nat)), .fz (.int 0)]) := by
  intro b
  induction b using Nat.strongRecOn with
  | ind b ih =>
    intro a
    have hne : neD (.int b) (.int 0) = some (decide (b ≠ 0)) := by
      have e : neD (.int b) (.int 0) = some (!decide ((b : Int) = 0)) := rfl
      rw [e]
      simp
    by_cases hb : b = 0
    · subst hb
      refine ⟨1, ?_⟩
      simp [whL, hne]
      rfl
    · obtain ⟨n, hn⟩ := ih (a % b) (Nat.mod_lt _ (by omega)) b
      refine ⟨n + 1, ?_⟩
      have hpos : 0 < b := by omega
      have e : Nat.gcd a b = Nat.gcd b (a % b) := by rw [Nat.gcd_comm, Nat.gcd_rec, Nat.gcd_comm]
      rw [e, ← hn]
      simp [whL, hne, hb, hpos]
theorem lgcd_eq (a b : Nat) : f__law_gcd [.int a, .int b] = some (.int (Nat.gcd a b : Nat)) := by
  unfold f__law_gcd D__law_gcd
  obtain ⟨n, hn⟩ := gcd_loop b a
  have := sWh_of hn
  refine run_seq (ρ' := [.fz (.int (Nat.gcd a b : Nat)), .fz (.int 0)]) this ?_
  simp
  intro h
  omega
theorem low_eq (a b : Nat) (hb : b ≠ 0) (h1 : b < 2 ^ 8999) : f__law_low [.int a, .int b] = some (frD ((a : Rat) / b)) := by
  unfold f__law_low D__law_low
  have hg : 0 < Nat.gcd a b := Nat.gcd_pos_of_pos_right _ (by omega)
  have hl : (Nat.gcd a b).log2 < 9000 := log2_lt (Nat.lt_of_le_of_lt (Nat.gcd_le_right _ (by omega)) (Nat.lt_of_lt_of_le h1 (Nat.pow_le_pow_right (by decide) (by decide)))) (by decide)
  have key : frD ((a : Rat) / b) = .tuple [.int ((a / Nat.gcd a b : Nat) : Int), .int ((b / Nat.gcd a b : Nat) : Int)] := by
    unfold frD
    have e : (a : Rat) / b = mkRat a b := by rw [Rat.mkRat_eq_div]; rfl
    rw [e, Rat.num_mkRat, Rat.den_mkRat, if_neg hb, if_neg hb]
    simp only [Int.natAbs_natCast]
    rw [Nat.gcd_comm b a]
    simp
  rw [key]
  simp [lgcd_eq, hg, hl]
theorem lplus_eq (p q : Rat) (hp : Sq p) (hq : Sq q) (p0 : 0 ≤ p) (q0 : 0 ≤ q) : f__law_plus [frD p, frD q] = some (frD (p + q)) := by
  have pn : 0 ≤ p.num := Rat.num_nonneg.mpr p0
  have qn : 0 ≤ q.num := Rat.num_nonneg.mpr q0
  obtain ⟨a, ha⟩ := Int.eq_ofNat_of_zero_le pn
  obtain ⟨b, hb⟩ := Int.eq_ofNat_of_zero_le qn
  have h1 : ∀ a b : Int, a.natAbs < 2 ^ 4000 → b.natAbs < 2 ^ 4000 → mulOk a b = true := fun a b ha hb => mulOk_of (Nat.lt_of_lt_of_le ha (Nat.pow_le_pow_right (by decide) (by decide))) (Nat.lt_of_lt_of_le hb (Nat.pow_le_pow_right (by decide) (by decide)))
  have e1 := h1 p.num q.den hp.1 (by simpa using hq.2)
  have e2 := h1 q.num p.den hq.1 (by simpa using hp.2)
  have e3 := h1 p.den q.den (by simpa using hp.2) (by simpa using hq.2)
  have hd : p.den * q.den ≠ 0 := Nat.mul_ne_zero p.den_nz q.den_nz
  have key := low_eq (a * q.den + b * p.den) (p.den * q.den) hd (Nat.lt_of_lt_of_le (pow_mul_lt hp.2 hq.2) (Nat.pow_le_pow_right (by decide) (by decide)))
  have e4 : ((a * q.den + b * p.den : Nat) : Rat) / ((p.den * q.den : Nat) : Rat) = p + q := by
    have e : ((a * q.den + b * p.den : Nat) : Rat) / ((p.den * q.den : Nat) : Rat) = mkRat ((a * q.den + b * p.den : Nat) : Int) (p.den * q.den) := by rw [Rat.mkRat_eq_div]; rfl
    rw [e, Rat.add_def', ha, hb]
    simp
  rw [e4] at key
  unfold f__law_plus D__law_plus
  rw [ha] at e1
  rw [hb] at e2
  simp [frD, e1, e2, e3, ha, hb] at key ⊢
  rw [key]
  rfl
theorem Sq_div {a b : Nat} (ha : a < 2 ^ 4000) (hb : b < 2 ^ 4000) (h0 : b ≠ 0) : Sq ((a : Rat) / b) := by
  have e : (a : Rat) / b = mkRat a b := by rw [Rat.mkRat_eq_div]; rfl
  rw [e]
  unfold Sq
  rw [Rat.num_mkRat, Rat.den_mkRat, if_neg h0, if_neg h0]
  constructor
  · have : ((a : Int) / ((b.gcd (a : Int).natAbs : Nat) : Int)).natAbs ≤ a := by
      rw [← Int.natCast_ediv, Int.natAbs_natCast]
      exact Nat.div_le_self _ _
    omega
  · have := Nat.div_le_self b (b.gcd (a : Int).natAbs)
    omega
theorem ch_small (n b s m : Nat) (hn : n ≤ 40) (hb : b ≤ n) (hm : m ≤ s) (hs : s ≤ n) : Sq (ch n b s m) := by
  have h1 := W_le n b s m hb hm
  have h2 := C_lt_pow (s := s) hn
  have h3 : (2 : Nat) ^ 41 ≤ 2 ^ 4000 := Nat.pow_le_pow_right (by decide) (by decide)
  have h4 := C_pos hs
  exact Sq_div (by omega) (by omega) (by omega)
theorem div_nonneg' (a b : Nat) : 0 ≤ (a : Rat) / b := by
  have e : (a : Rat) / b = mkRat a b := by rw [Rat.mkRat_eq_div]; rfl
  rw [e, ← Rat.num_nonneg, Rat.num_mkRat]
  split
  · exact Int.le_refl _
  · exact Int.ediv_nonneg (by omega) (by omega)
theorem ch_nonneg (n b s m : Nat) : 0 ≤ ch n b s m := div_nonneg' _ _
theorem frD_eqv (p q : Rat) : PyData.eqv (frD p) (frD q) = decide (p = q) := by
  have e : PyData.eqv (frD p) (frD q) = (decide (p.num = q.num) && (decide ((p.den : Int) = q.den) && true)) := rfl
  rw [e]
  by_cases h : p = q
  · subst h; simp
  · have : ¬ (p.num = q.num ∧ p.den = q.den) := fun ⟨h1, h2⟩ => h (Rat.ext h1 h2)
    simp [h]
    intro h1 h2
    exact absurd ⟨h1, by omega⟩ this
theorem neD_fr (p q : Rat) : neD (frD p) (frD q) = some (decide (p ≠ q)) := by
  have e : neD (frD p) (frD q) = some (!PyData.eqv (frD p) (frD q)) := rfl
  rw [e, frD_eqv]
  simp
theorem eqD_fr (p q : Rat) : eqD (frD p) (frD q) = some (decide (p = q)) := by
  have e : eqD (frD p) (frD q) = some (PyData.eqv (frD p) (frD q)) := rfl
  rw [e, frD_eqv]
end Zx.k75
/-! P3: rows as dicts of fractions with one denominator. -/
namespace Zx.k75
open PySem PySem.Spec L2 Zx
abbrev Row := List (Nat × Nat)
def rowK (B : Nat) (l : Row) : List (D × D) := l.map fun p => (.int p.1, frD ((p.2 : Rat) / B))
def rowD (B : Nat) (l : Row) : D := .dict (rowK B l)
def itm (B : Nat) (p : Nat × Nat) : D := .tuple [.int p.1, frD ((p.2 : Rat) / B)]
def ND (l : Row) : Prop := (l.map (·.1)).Nodup
def getR (l : Row) (k : Nat) : Nat := ((l.find? fun p => p.1 == k).map (·.2)).getD 0
def putR (l : Row) (k a : Nat) : Row := if l.any (fun p => p.1 == k) then l.map (fun p => if p.1 == k then (p.1, a) else p) else l ++ [(k, a)]
def sumN (G : Nat → Nat) (l : Row) : Nat := (l.map fun p => p.2 * G p.1).sum
theorem eqv_int (a b : Nat) : PyData.eqv (.int a) (.int b) = (a == b) := by
  have e : PyData.eqv (.int (a : Int)) (.int (b : Int)) = decide ((a : Int) = b) := rfl
  rw [e]
  by_cases h : a = b
  · subst h; simp
  · have : ¬ ((a : Int) = b) := by omega
    simp [this, h]
theorem notMk_row (B : Nat) (l : Row) : notMk (rowK B l) = true := by
  cases l with
  | nil => rfl
  | cons p l => rfl
theorem keyOf_int (i : Int) : keyOf (.int i) = some (.inl i) := rfl
theorem dkOf_row (B : Nat) (l : Row) (k : Int) : dkOf (rowD B l) (.int k) = some (rowK B l) := by
  unfold dkOf rowD
  cases l with
  | nil => rfl
  | cons p l => rfl
theorem dGet_row (B : Nat) (l : Row) (k : Nat) : dGet (rowK B l) (.int k) = (l.find? fun p => p.1 == k).map fun p => frD ((p.2 : Rat) / B) := by
  unfold dGet rowK
  induction l with
  | nil => rfl
  | cons p l ih =>
    rw [List.map_cons, List.find?_cons, List.find?_cons]
    simp only [eqv_int]
    by_cases h : p.1 == k
    · simp [h]
    · simp only [h]
      exact ih
theorem fr0 : frD 0 = .tuple [.int 0, .int 1] := rfl
theorem get_eq (B : Nat) (l : Row) (k : Nat) : dgetD3 (rowD B l) (.int k) (.tuple [.int 0, .int 1]) = some (frD ((getR l k : Rat) / B)) := by
  unfold dgetD3
  rw [dkOf_row, Option.bind_some, dGet_row]
  unfold getR
  cases h : l.find? fun p => p.1 == k with
  | none =>
    simp only [Option.map_none, Option.getD_none]
    rw [← fr0]
    congr 2
    have : (((0 : Nat) : Rat)) = 0 := rfl
    rw [this]
    grind
  | some p => rfl
theorem dHas_row (B : Nat) (l : Row) (k : Nat) : dHas (rowK B l) (.int k) = l.any fun p => p.1 == k := by
  unfold dHas rowK
  rw [List.any_map]
  congr 1
  funext p
  exact eqv_int p.1 k
theorem dPut_row (B : Nat) (l : Row) (k a : Nat) : dPut (rowK B l) (.int k) (frD ((a : Rat) / B)) = rowK B (putR l k a) := by
  unfold dPut putR
  rw [dHas_row]
  split
  · unfold rowK
    rw [List.map_map, List.map_map]
    refine List.map_congr_left fun p _ => ?_
    simp only [Function.comp, eqv_int]
    split <;> rfl
  · unfold rowK
    rw [List.map_append]
    rfl
theorem rowK_len (B : Nat) (l : Row) : (rowK B l).length = l.length := by simp [rowK]
theorem put_eq (B : Nat) (l : Row) (k a : Nat) (h : l.length < 1000000) : putD (rowK B l) (.int k) (frD ((a : Rat) / B)) = some (rowK B (putR l k a)) := by
  rw [← dPut_row]
  have h2 : (rowK B l).length < 1000000 := by rw [rowK_len]; exact h
  have h3 := notMk_row B l
  unfold putD
  split
  · rename_i r ds e1 e2
    cases e2
  · simp [h3, keyOf_int, h2]
theorem putR_len (l : Row) (k a : Nat) : (putR l k a).length ≤ l.length + 1 := by
  unfold putR
  split <;> simp
theorem putR_keys (l : Row) (k a : Nat) : ∀ p ∈ putR l k a, p.1 = k ∨ ∃ q ∈ l, q.1 = p.1 := fun p hp => by
  unfold putR at hp
  split at hp
  · obtain ⟨q, h1, h2⟩ := List.mem_map.mp hp
    refine .inr ⟨q, h1, ?_⟩
    subst h2
    split <;> rfl
  · rcases List.mem_append.mp hp with h | h
    · exact .inr ⟨p, h, rfl⟩
    · rw [List.mem_singleton] at h
      subst h
      exact .inl rfl
theorem putR_nd (l : Row) (k a : Nat) (h : ND l) : ND (putR l k a) := by
  unfold ND putR at *
  split
  · have e : ((l.map fun p => if p.1 == k then (p.1, a) else p).map (·.1)) = l.map (·.1) := by
      rw [List.map_map]
      refine List.map_congr_left fun p _ => ?_
      simp only [Function.comp]
      split <;> rfl
    rw [e]
    exact h
  · rename_i hn
    rw [List.map_append, List.nodup_append]
    refine ⟨h, by simp, fun x hx y hy => ?_⟩
    simp at hy
    subst hy
    rintro rfl
    obtain ⟨q, h1, h2⟩ := List.mem_map.mp hx
    exact hn (List.any_eq_true.mpr ⟨q, h1, by simpa using h2⟩)
theorem sumN_cons (G : Nat → Nat) (p : Nat × Nat) (l : Row) : sumN G (p :: l) = p.2 * G p.1 + sumN G l := by simp [sumN]
theorem sumN_append (G : Nat → Nat) (l m : Row) : sumN G (l ++ m) = sumN G l + sumN G m := by simp [sumN]
theorem sumN_put (G : Nat → Nat) (l : Row) (k a : Nat) (h : ND l) : sumN G (putR l k (getR l k + a)) = sumN G l + a * G k := by
  unfold putR
  split
  · rename_i hk
    induction l with
    | nil => simp at hk
    | cons p l ih =>
      unfold ND at h
      rw [List.map_cons, List.nodup_cons] at h
      by_cases hp : p.1 = k
      · have e : ∀ c, (l.map fun q => if q.1 == k then (q.1, c) else q) = l := fun c => by
          have : ∀ q ∈ l, (if q.1 == k then (q.1, c) else q) = id q := fun q hq => by
            have hne : ¬ q.1 = k := fun z => h.1 (List.mem_map.mpr ⟨q, hq, z.trans hp.symm⟩)
            simp [hne]
          rw [List.map_congr_left this, List.map_id]
        have g : getR (p :: l) k = p.2 := by
          unfold getR
          simp [hp]
        rw [List.map_cons, e, g, sumN_cons, sumN_cons]
        simp [hp, Nat.add_mul]
        omega
      · have hk' : l.any (fun p => p.1 == k) = true := by
          rw [List.any_cons] at hk
          simpa [hp] using hk
        have g : getR (p :: l) k = getR l k := by
          unfold getR
          simp [hp]
        rw [List.map_cons, g, sumN_cons, sumN_cons, ih h.2 hk']
        simp [hp]
        omega
  · rename_i hk
    have g : getR l k = 0 := by
      unfold getR
      have : l.find? (fun p => p.1 == k) = none := by
        rw [List.find?_eq_none]
        intro q hq hz
        exact hk (List.any_eq_true.mpr ⟨q, hq, hz⟩)
      rw [this]
      rfl
    rw [g, sumN_append]
    simp [sumN]
theorem getR_le (l : Row) (k : Nat) : getR l k ≤ sumN (fun _ => 1) l := by
  unfold getR
  cases h : l.find? fun p => p.1 == k with
  | none => exact Nat.zero_le _
  | some p =>
    have hm := List.mem_of_find?_eq_some h
    simp only [Option.map_some, Option.getD_some]
    clear h
    induction l with
    | nil => cases hm
    | cons q l ih =>
      rw [sumN_cons]
      rcases List.mem_cons.mp hm with rfl | hm
      · omega
      · have := ih hm
        omega
theorem mem_le {l : Row} {p : Nat × Nat} (h : p ∈ l) : p.2 ≤ sumN (fun _ => 1) l := by
  induction l with
  | nil => cases h
  | cons q l ih =>
    rw [sumN_cons]
    rcases List.mem_cons.mp h with rfl | h
    · omega
    · have := ih h
      omega
/-! ### sorted(row.items()) -/
theorem itL_row (B : Nat) (l : Row) : itL (rowK B l) = l.map (itm B) := by
  unfold itL rowK
  rw [List.map_map]
  rfl
theorem srt_row (B : Nat) (l : Row) (h : l.length ≤ 1000000) : srtOk (l.map (itm B)) = true := by
  unfold srtOk
  have h1 : ((l.map (itm B)).all fun x => (l.map (itm B)).all fun y => PySem.W.alike x y) = true := by
    rw [List.all_eq_true]
    intro x hx
    rw [List.all_eq_true]
    intro y hy
    obtain ⟨p, _, rfl⟩ := List.mem_map.mp hx
    obtain ⟨q, _, rfl⟩ := List.mem_map.mp hy
    rfl
  have h2 : (l.map (itm B)).all isTup1 = true := by
    rw [List.all_eq_true]
    intro x hx
    obtain ⟨p, _, rfl⟩ := List.mem_map.mp hx
    rfl
  have h3 : (l.map (itm B)).all SeqAt.shaped = true := by
    rw [List.all_eq_true]
    intro x hx
    obtain ⟨p, _, rfl⟩ := List.mem_map.mp hx
    rfl
  rw [h1, h2, h3]
  simp [h]
theorem sort_row (B : Nat) (l : Row) (h : l.length ≤ 1000000) : ∃ l' : Row, l'.Perm l ∧ sortItD (rowD B l) = some (.list (l'.map (itm B))) := by
  refine ⟨l.mergeSort fun a b => leS (itm B a) (itm B b), List.mergeSort_perm _ _, ?_⟩
  unfold sortItD rowD
  simp only
  rw [itL_row, notMk_row, srt_row B l h]
  simp only [Bool.and_self, if_true]
  rw [List.map_mergeSort (s := leS) fun a _ b _ => rfl]
theorem sumN_perm (G : Nat → Nat) {l m : Row} (h : l.Perm m) : sumN G l = sumN G m := by
  unfold sumN
  exact (h.map _).sum_nat
/-! ### the kept ones -/
theorem keep_row (B : Nat) (c : Nat → Bool) (g : DenG) (ft : DenB) (fk fv : Den) (ρ : Env) : ∀ (l acc : Row), (∀ p ∈ l, ∃ ρ1, g (itm B p) ρ = some ρ1 ∧ ft ρ1 = some (c p.1) ∧ fk ρ1 = some (.int p.1) ∧ fv ρ1 = some (frD ((p.2 : Rat) / B))) → ND (acc ++ l) →
    dcL g ft fk fv ρ (l.map (itm B)) (rowK B acc) = some (rowK B (acc ++ l.filter fun p => c p.1))
  | [], acc, _, _ => by simp [dcL]
  | p :: l, acc, h, nd => by
    obtain ⟨ρ1, h1, h2, h3, h4⟩ := h p List.mem_cons_self
    have nd' : ND ((acc ++ [p]) ++ l) := by rw [List.append_assoc]; exact nd
    have h5 : putR acc p.1 p.2 = acc ++ [p] := by
      unfold putR
      have : acc.any (fun q => q.1 == p.1) = false := by
        rw [Bool.eq_false_iff]
        intro hz
        obtain ⟨q, hq, hqp⟩ := List.any_eq_true.mp hz
        unfold ND at nd
        rw [List.map_append, List.nodup_append] at nd
        exact nd.2.2 q.1 (List.mem_map_of_mem hq) p.1 (List.mem_map_of_mem List.mem_cons_self) (by simpa using hqp)
      rw [this]
      rfl
    rw [List.map_cons]
    simp only [dcL, h1, h2, h3, h4, Option.bind_some, keyOf_int]
    cases hc : c p.1 with
    | true =>
      simp only [if_true]
      rw [dPut_row, h5, keep_row B c g ft fk fv ρ l (acc ++ [p]) (fun q hq => h q (List.mem_cons_of_mem _ hq)) nd']
      rw [List.filter_cons]
      simp [hc]
    | false =>
      simp only [Bool.false_eq_true, if_false]
      have nd2 : ND (acc ++ l) := by
        unfold ND at nd ⊢
        rw [List.map_append] at nd ⊢
        refine List.Nodup.sublist ?_ nd
        exact List.Sublist.append_left (by rw [List.map_cons]; exact List.sublist_cons_self _ _) _
      rw [keep_row B c g ft fk fv ρ l acc (fun q hq => h q (List.mem_cons_of_mem _ hq)) nd2]
      rw [List.filter_cons]
      simp [hc]
end Zx.k75
/-! P4: a stage of rows_of. -/
namespace Zx.k75
open PySem PySem.Spec L2 Zx
@[simp] theorem owD_s (ρ : Env) (i : Nat) : owD ρ i = (match ρ[i]? with | some (.ow (.dict xs)) => some xs | _ => none) := (rfl)
theorem W_pos (p : Nat) : (0 : Nat) < 2 ^ p := Nat.two_pow_pos p
/-- ways of a turn -/
def wy (n b dr s x m : Nat) : Nat := CI ((b : Int) - x) m * CI ((n : Int) - dr - b + x) ((s : Int) - m)
theorem wy_le (n b dr s x m : Nat) (hn : n ≤ 40) (hb : b ≤ n) (hx : x ≤ b) : wy n b dr s x m ≤ 2 ^ 200 := by
  have h1 := CI_le (n := (b : Int) - x) (k := m) (by omega)
  have h2 := CI_le (n := (n : Int) - dr - b + x) (k := (s : Int) - m) (by omega)
  have := Nat.mul_le_mul h1 h2
  rw [← Nat.pow_add] at this
  exact this
noncomputable abbrev innerB : DenS := (sSeq (sSet 15 (d2 mulI (dCall (lCons (d2 subD (vR 3) (vR 11)) (lCons (vR 14) lNil)) f_choose) (dCall (lCons (d2 addD (d2 subD (vR 13) (vR 3)) (vR 11)) (lCons (d2 subD (vR 7) (vR 14)) lNil)) f_choose)))
     (sIf (b2 gtI (vR 15) (kD (.int 0))) (sSeq (sSet 16 (dCall (lCons (vR 12) (lCons (dCall (lCons (vR 15) (lCons (dCall (lCons (vR 13) (lCons (vR 7) lNil)) f_choose) lNil)) f_fraction) lNil)) f_times))
      (sStD 10 (d2 addD (vR 11) (vR 14)) (dCall (lCons (d3 dgetD3 (vB 10) (d2 addD (vR 11) (vR 14)) (mkT (lCons (kD (.int 0)) (lCons (kD (.int 1)) lNil)))) (lCons (vR 16) lNil)) f_plus))) sNx))
theorem inner_turn (n b dr s B x a m T : Nat) (now : Row) (s0 s1 s2 s4 s5 s6 s8 s9 s15 s16 : Slot) (hn : n ≤ 40) (hb : b ≤ n) (hx : x ≤ b) (hs : s ≤ n - dr) (hdr : dr ≤ n) (ha : a < 2 ^ 300) (hB : B < 2 ^ 300) (hB0 : B ≠ 0) (hm : m ≤ s)
    (nd : ND now) (hl : now.length < 100000) (hT : sumN (fun _ => 1) now < 2 ^ 3000) :
    ∃ now' s15' s16', innerB [s0, s1, s2, .fz (.int b), s4, s5, s6, .fz (.int s), s8, s9, .ow (rowD (B * C (n - dr) s) now), .fz (.int x), .fz (frD ((a : Rat) / B)), .fz (.int ((n : Int) - dr)), .fz (.int m), s15, s16] =
      some (.nx [s0, s1, s2, .fz (.int b), s4, s5, s6, .fz (.int s), s8, s9, .ow (rowD (B * C (n - dr) s) now'), .fz (.int x), .fz (frD ((a : Rat) / B)), .fz (.int ((n : Int) - dr)), .fz (.int m), s15', s16']) ∧
      ND now' ∧ now'.length ≤ now.length + 1 ∧ (∀ p ∈ now', p.1 = x + m ∨ ∃ q ∈ now, q.1 = p.1) ∧ ∀ G, sumN G now' = sumN G now + a * wy n b dr s x m * G (x + m) := by
  have c1 := choose_eq ((b : Int) - x) m (by omega)
  have c2 := choose_eq ((n : Int) - dr - b + x) ((s : Int) - m) (by omega)
  have c3 := choose_eq ((n : Int) - dr) s (by omega)
  have e3 : CI ((n : Int) - dr) s = C (n - dr) s := by rw [show (n : Int) - dr = ((n - dr : Nat) : Int) by omega, CI_nat]
  rw [e3] at c3
  have m1 := mulCI (a := (b : Int) - x) (b := m) (c := (n : Int) - dr - b + x) (d := (s : Int) - m) (by omega) (by omega)
  have hC := C_pos hs
  have hC2 := C_lt_pow (n := n - dr) (s := s) (by omega)
  have hp : ∀ k : Nat, k ≤ 4000 → (2 : Nat) ^ k ≤ 2 ^ 4000 := fun k hk => Nat.pow_le_pow_right (by decide) hk
  have hw : ((CI ((b : Int) - x) m : Int) * (CI ((n : Int) - dr - b + x) ((s : Int) - m) : Int)) = ((wy n b dr s x m : Nat) : Int) := by
    unfold wy
    rw [Int.natCast_mul]
  have first : sSet 15 (d2 mulI (dCall (lCons (d2 subD (vR 3) (vR 11)) (lCons (vR 14) lNil)) f_choose) (dCall (lCons (d2 addD (d2 subD (vR 13) (vR 3)) (vR 11)) (lCons (d2 subD (vR 7) (vR 14)) lNil)) f_choose))
      [s0, s1, s2, .fz (.int b), s4, s5, s6, .fz (.int s), s8, s9, .ow (rowD (B * C (n - dr) s) now), .fz (.int x), .fz (frD ((a : Rat) / B)), .fz (.int ((n : Int) - dr)), .fz (.int m), s15, s16] =
      some (.nx [s0, s1, s2, .fz (.int b), s4, s5, s6, .fz (.int s), s8, s9, .ow (rowD (B * C (n - dr) s) now), .fz (.int x), .fz (frD ((a : Rat) / B)), .fz (.int ((n : Int) - dr)), .fz (.int m), .fz (.int (wy n b dr s x m)), s16]) := by
    simp [c1, c2, m1, hw]
  unfold innerB
  rw [sSeq_nx first]
  by_cases h0 : 0 < wy n b dr s x m
  · have hwl := wy_le n b dr s x m hn hb hx
    have f1 := fraction_eq (wy n b dr s x m) (C (n - dr) s) (by omega) (by
      rw [Int.natAbs_natCast]
      exact Nat.lt_of_lt_of_le hC2 (Nat.pow_le_pow_right (by decide) (by decide)))
    have e5 : (((wy n b dr s x m : Nat) : Int) : Rat) / (((C (n - dr) s : Nat) : Int) : Rat) = ((wy n b dr s x m : Nat) : Rat) / ((C (n - dr) s : Nat) : Rat) := rfl
    rw [e5] at f1
    have q1 : Sq ((a : Rat) / B) := Sq_div (Nat.lt_of_lt_of_le ha (hp _ (by decide))) (Nat.lt_of_lt_of_le hB (hp _ (by decide))) hB0
    have q2 : Sq (((wy n b dr s x m : Nat) : Rat) / ((C (n - dr) s : Nat) : Rat)) := Sq_div (by have := hp 201 (by decide); rw [Nat.pow_succ] at this; omega) (by have := hp 41 (by decide); omega) (by omega)
    have t1 := times_eq _ _ q1 q2
    have e6 : (a : Rat) / B * (((wy n b dr s x m : Nat) : Rat) / ((C (n - dr) s : Nat) : Rat)) = ((a * wy n b dr s x m : Nat) : Rat) / ((B * C (n - dr) s : Nat) : Rat) := by
      rw [Rat.natCast_mul, Rat.natCast_mul]
      grind
    rw [e6] at t1
    have hBC : B * C (n - dr) s < 2 ^ 4000 := Nat.lt_of_lt_of_le (pow_mul_lt hB hC2) (hp _ (by decide))
    have hBC0 : B * C (n - dr) s ≠ 0 := Nat.mul_ne_zero hB0 (by omega)
    have haw : a * wy n b dr s x m < 2 ^ 4000 := Nat.lt_of_lt_of_le (pow_mul_lt (n := 201) ha (by rw [Nat.pow_succ]; omega)) (hp _ (by decide))
    have hg := getR_le now (x + m)
    have q3 : Sq (((getR now (x + m) : Nat) : Rat) / ((B * C (n - dr) s : Nat) : Rat)) := Sq_div (by have := hp 3000 (by decide); omega) hBC hBC0
    have q4 : Sq (((a * wy n b dr s x m : Nat) : Rat) / ((B * C (n - dr) s : Nat) : Rat)) := Sq_div haw hBC hBC0
    have p1 := plus_eq _ _ q3 q4
    have e7 : ((getR now (x + m) : Nat) : Rat) / ((B * C (n - dr) s : Nat) : Rat) + ((a * wy n b dr s x m : Nat) : Rat) / ((B * C (n - dr) s : Nat) : Rat) = ((getR now (x + m) + a * wy n b dr s x m : Nat) : Rat) / ((B * C (n - dr) s : Nat) : Rat) := by
      rw [Rat.natCast_add (getR now (x + m))]
      grind
    rw [e7] at p1
    have g1 := get_eq (B * C (n - dr) s) now (x + m)
    have pt := put_eq (B * C (n - dr) s) now (x + m) (getR now (x + m) + a * wy n b dr s x m) (by omega)
    refine ⟨putR now (x + m) (getR now (x + m) + a * wy n b dr s x m), .fz (.int (wy n b dr s x m)), .fz (frD (((a * wy n b dr s x m : Nat) : Rat) / ((B * C (n - dr) s : Nat) : Rat))), ?_, putR_nd _ _ _ nd, putR_len _ _ _, fun p hp => putR_keys _ _ _ p hp, fun G => sumN_put G now (x + m) _ nd⟩
    have hz : ((0 : Int) < ((wy n b dr s x m : Nat) : Int)) := by omega
    rw [sIf_t (by simp only [b2_s, vR_s, kD_s, List.getElem?_cons_zero, List.getElem?_cons_succ, Option.bind_some, gtI_s, hz, decide_true])]
    have key : (x : Int) + m = ((x + m : Nat) : Int) := by omega
    have second : sSet 16 (dCall (lCons (vR 12) (lCons (dCall (lCons (vR 15) (lCons (dCall (lCons (vR 13) (lCons (vR 7) lNil)) f_choose) lNil)) f_fraction) lNil)) f_times)
        [s0, s1, s2, .fz (.int b), s4, s5, s6, .fz (.int s), s8, s9, .ow (rowD (B * C (n - dr) s) now), .fz (.int x), .fz (frD ((a : Rat) / B)), .fz (.int ((n : Int) - dr)), .fz (.int m), .fz (.int (wy n b dr s x m)), s16] =
        some (.nx [s0, s1, s2, .fz (.int b), s4, s5, s6, .fz (.int s), s8, s9, .ow (rowD (B * C (n - dr) s) now), .fz (.int x), .fz (frD ((a : Rat) / B)), .fz (.int ((n : Int) - dr)), .fz (.int m), .fz (.int (wy n b dr s x m)), .fz (frD (((a * wy n b dr s x m : Nat) : Rat) / ((B * C (n - dr) s : Nat) : Rat)))]) := by
      simp only [sSet_s, dCall_s, lCons_s, lNil_s, vR_s, List.getElem?_cons_zero, List.getElem?_cons_succ, Option.bind_some, c3, e_fraction, f1, e_times, t1, List.set_cons_zero, List.set_cons_succ]
    rw [sSeq_nx second]
    unfold rowD at g1
    simp only [sStD_s, dCall_s, lCons_s, lNil_s, vR_s, vB_s, d2_s, d3_s, mkT_s, kD_s, List.getElem?_cons_zero, List.getElem?_cons_succ, Option.bind_some, addD_i, key, List.length_cons, List.length_nil, Nat.zero_add, Nat.reduceAdd, Nat.reduceLeDiff, if_true, g1, e_plus, p1, owD_s, rowD, pt, List.set_cons_zero, List.set_cons_succ]
  · refine ⟨now, .fz (.int (wy n b dr s x m)), s16, ?_, nd, by omega, fun p hp => .inr ⟨p, hp, rfl⟩, fun G => ?_⟩
    · have hz : ¬ ((0 : Int) < ((wy n b dr s x m : Nat) : Int)) := by omega
      rw [sIf_f (by simp only [b2_s, vR_s, kD_s, List.getElem?_cons_zero, List.getElem?_cons_succ, Option.bind_some, gtI_s, hz, decide_false])]
      rfl
    · have : wy n b dr s x m = 0 := by omega
      rw [this]
      simp
/-- all turns of one seen number -/
theorem inner_ok (n b dr s B x a : Nat) (now0 : Row) (L S : D) (row : D) (acc : List D) (tk rf : Int) (s14 s15 s16 : Slot) (hn : n ≤ 40) (hb : b ≤ n) (hx : x ≤ b) (hs : s ≤ n - dr) (hdr : dr ≤ n) (ha : a < 2 ^ 300) (hB : B < 2 ^ 300) (hB0 : B ≠ 0)
    (nd : ND now0) (hl : now0.length + 42 < 100000) (hT : sumN (fun _ => 1) now0 + rs (min s (b - x) + 1) (fun m => a * wy n b dr s x m) < 2 ^ 3000) :
    ∃ now' s14' s15' s16', sFor (iR1 (d2 addD (d2 minD2 (vR 7) (d2 subD (vR 3) (vR 11))) (kD (.int 1)))) (gN 14) innerB
      [.fz L, .fz S, .fz (.int n), .fz (.int b), .fz row, .fz (.int dr), .ow (.list acc), .fz (.int s), .fz (.int tk), .fz (.int rf), .ow (rowD (B * C (n - dr) s) now0), .fz (.int x), .fz (frD ((a : Rat) / B)), .fz (.int ((n : Int) - dr)), s14, s15, s16] =
      some (.nx [.fz L, .fz S, .fz (.int n), .fz (.int b), .fz row, .fz (.int dr), .ow (.list acc), .fz (.int s), .fz (.int tk), .fz (.int rf), .ow (rowD (B * C (n - dr) s) now'), .fz (.int x), .fz (frD ((a : Rat) / B)), .fz (.int ((n : Int) - dr)), s14', s15', s16']) ∧
      ND now' ∧ now'.length ≤ now0.length + 42 ∧ (∀ p ∈ now', (∃ m, m ≤ s ∧ m ≤ b - x ∧ p.1 = x + m) ∨ ∃ q ∈ now0, q.1 = p.1) ∧ ∀ G, sumN G now' = sumN G now0 + rs (min s (b - x) + 1) fun m => a * wy n b dr s x m * G (x + m) := by
  obtain ⟨ρ', g1, g2⟩ := sFor_ok (fi := iR1 (d2 addD (d2 minD2 (vR 7) (d2 subD (vR 3) (vR 11))) (kD (.int 1)))) (g := gN 14) (fb := innerB)
    (ρ := [.fz L, .fz S, .fz (.int n), .fz (.int b), .fz row, .fz (.int dr), .ow (.list acc), .fz (.int s), .fz (.int tk), .fz (.int rf), .ow (rowD (B * C (n - dr) s) now0), .fz (.int x), .fz (frD ((a : Rat) / B)), .fz (.int ((n : Int) - dr)), s14, s15, s16])
    (ds := rgL 0 (min s (b - x) + 1))
    (fun j ρ => j ≤ min s (b - x) + 1 ∧ ∃ now s14 s15 s16, ρ = [.fz L, .fz S, .fz (.int n), .fz (.int b), .fz row, .fz (.int dr), .ow (.list acc), .fz (.int s), .fz (.int tk), .fz (.int rf), .ow (rowD (B * C (n - dr) s) now), .fz (.int x), .fz (frD ((a : Rat) / B)), .fz (.int ((n : Int) - dr)), s14, s15, s16] ∧
      ND now ∧ now.length ≤ now0.length + j ∧ (∀ p ∈ now, (∃ m, m ≤ s ∧ m ≤ b - x ∧ p.1 = x + m) ∨ ∃ q ∈ now0, q.1 = p.1) ∧ ∀ G, sumN G now = sumN G now0 + rs j fun m => a * wy n b dr s x m * G (x + m))
    (by
      have e : (if (b : Int) - x < s then (b : Int) - x else (s : Int)) + 1 = ((min s (b - x) + 1 : Nat) : Int) := by split <;> omega
      simp [-Int.natCast_add]
      rw [e, rg1_ok (by omega) (by omega)]
      simp [-Int.natCast_add])
    ⟨Nat.zero_le _, now0, s14, s15, s16, rfl, nd, by omega, fun p hp => .inr ⟨p, hp, rfl⟩, fun G => by simp [rs]⟩
    (fun j d ρ hd ⟨hj, now, t14, t15, t16, hp, nd1, hl1, hk1, hG⟩ => by
      obtain ⟨hj2, rfl⟩ := rgL_at hd
      subst hp
      have hT1 : sumN (fun _ => 1) now < 2 ^ 3000 := by
        rw [hG]
        refine Nat.lt_of_le_of_lt ?_ hT
        have := rs_split j (min s (b - x) + 1 - j) fun m => a * wy n b dr s x m
        rw [show j + (min s (b - x) + 1 - j) = min s (b - x) + 1 by omega] at this
        rw [this]
        simp only [Nat.mul_one]
        omega
      obtain ⟨now', s15', s16', f1, f2, f3, f4, f5⟩ := inner_turn n b dr s B x a j 0 now (.fz L) (.fz S) (.fz (.int n)) (.fz row) (.fz (.int dr)) (.ow (.list acc)) (.fz (.int tk)) (.fz (.int rf)) t15 t16 hn hb hx hs hdr ha hB hB0 (by omega) nd1 (by omega) hT1
      refine ⟨_, _, rfl, ?_, _, .inl rfl, by omega, now', .fz (.int j), s15', s16', rfl, f2, by omega, fun p hp => ?_, fun G => ?_⟩
      · rw [← f1]
        simp
      · rcases f4 p hp with h | ⟨q, hq, hqp⟩
        · exact .inl ⟨j, by omega, by omega, h⟩
        · rcases hk1 q hq with ⟨m, h1, h2, h3⟩ | ⟨q2, h1, h2⟩
          · exact .inl ⟨m, h1, h2, by omega⟩
          · exact .inr ⟨q2, h1, by omega⟩
      · rw [f5, hG, rs_succ]
        omega)
  obtain ⟨_, now', t14, t15, t16, rfl, nd1, hl1, hk1, hG⟩ := g2
  rw [rgL_len] at hl1 hG
  exact ⟨now', t14, t15, t16, g1, nd1, by omega, hk1, hG⟩
end Zx.k75
/-! P5: the stages. -/
namespace Zx.k75
open PySem PySem.Spec L2 Zx
/-- what an entry gives to the next row -/
def cs (n b dr s : Nat) (G : Nat → Nat) (p : Nat × Nat) : Nat := rs (min s (b - p.1) + 1) fun m => p.2 * wy n b dr s p.1 m * G (p.1 + m)
def stg (n b dr s : Nat) (G : Nat → Nat) (l : Row) : Nat := (l.map (cs n b dr s G)).sum
theorem stg_perm (n b dr s : Nat) (G : Nat → Nat) {l m : Row} (h : l.Perm m) : stg n b dr s G l = stg n b dr s G m := (h.map _).sum_nat
theorem rs_le {n M : Nat} {f : Nat → Nat} (h : ∀ i, i < n → f i ≤ M) : rs n f ≤ n * M := by
  induction n with
  | zero => simp [rs]
  | succ n ih =>
    rw [rs_succ, Nat.add_mul, Nat.one_mul]
    have := ih fun i hi => h i (by omega)
    have := h n (by omega)
    omega
theorem cs_le (n b dr s : Nat) (p : Nat × Nat) (hn : n ≤ 40) (hb : b ≤ n) (hx : p.1 ≤ b) (ha : p.2 < 2 ^ 300) : cs n b dr s (fun _ => 1) p ≤ 2 ^ 600 := by
  have h := rs_le (n := min s (b - p.1) + 1) (M := 2 ^ 501) (f := fun m => p.2 * wy n b dr s p.1 m * 1) fun i hi => by
    have h1 := wy_le n b dr s p.1 i hn hb hx
    rw [Nat.mul_one, show (501 : Nat) = 300 + 201 from rfl, Nat.pow_add]
    exact Nat.mul_le_mul (Nat.le_of_lt ha) (by rw [Nat.pow_succ]; omega)
  have h2 : (min s (b - p.1) + 1) * 2 ^ 501 ≤ 2 ^ 6 * 2 ^ 501 := Nat.mul_le_mul_right _ (by omega)
  rw [← Nat.pow_add] at h2
  have h3 : (2 : Nat) ^ (6 + 501) ≤ 2 ^ 600 := Nat.pow_le_pow_right (by decide) (by decide)
  show rs (min s (b - p.1) + 1) (fun m => p.2 * wy n b dr s p.1 m * 1) ≤ 2 ^ 600
  omega
abbrev gSP : DenG := gT (gsCons (gN 11) (gsCons (gN 12) gsNil)) 2
noncomputable abbrev innerF : DenS := sFor (iR1 (d2 addD (d2 minD2 (vR 7) (d2 subD (vR 3) (vR 11))) (kD (.int 1)))) (gN 14) innerB
theorem loop_ok (n b dr s B : Nat) (l : Row) (L S : D) (acc : List D) (tk rf : Int) (s11 s12 s13 s14 s15 s16 : Slot) (hn : n ≤ 40) (hb : b ≤ n) (hs : s ≤ n - dr) (hdr : dr ≤ n) (hB : B < 2 ^ 300) (hB0 : B ≠ 0)
    (hk : ∀ p ∈ l, p.1 ≤ b ∧ p.2 < 2 ^ 300) (hl : l.length ≤ 2000) :
    ∃ now s11' s12' s13' s14' s15' s16', sFor (iSeq (d1 sortItD (vR 4))) gSP (sSeq (sSet 13 (d2 subD (vR 2) (vR 5))) innerF)
      [.fz L, .fz S, .fz (.int n), .fz (.int b), .fz (rowD B l), .fz (.int dr), .ow (.list acc), .fz (.int s), .fz (.int tk), .fz (.int rf), .ow (.dict []), s11, s12, s13, s14, s15, s16] =
      some (.nx [.fz L, .fz S, .fz (.int n), .fz (.int b), .fz (rowD B l), .fz (.int dr), .ow (.list acc), .fz (.int s), .fz (.int tk), .fz (.int rf), .ow (rowD (B * C (n - dr) s) now), s11', s12', s13', s14', s15', s16']) ∧
      ND now ∧ now.length ≤ 42 * l.length ∧ (∀ p ∈ now, ∃ q ∈ l, ∃ m, m ≤ s ∧ m ≤ b - q.1 ∧ p.1 = q.1 + m) ∧ ∀ G, sumN G now = stg n b dr s G l := by
  obtain ⟨l', hp, hsort⟩ := sort_row B l (by omega)
  have hll := hp.length_eq
  obtain ⟨ρ', g1, g2⟩ := sFor_ok (fi := iSeq (d1 sortItD (vR 4))) (g := gSP) (fb := sSeq (sSet 13 (d2 subD (vR 2) (vR 5))) innerF)
    (ρ := [.fz L, .fz S, .fz (.int n), .fz (.int b), .fz (rowD B l), .fz (.int dr), .ow (.list acc), .fz (.int s), .fz (.int tk), .fz (.int rf), .ow (.dict []), s11, s12, s13, s14, s15, s16])
    (ds := l'.map (itm B))
    (fun j ρ => ∃ now s11 s12 s13 s14 s15 s16, ρ = [.fz L, .fz S, .fz (.int n), .fz (.int b), .fz (rowD B l), .fz (.int dr), .ow (.list acc), .fz (.int s), .fz (.int tk), .fz (.int rf), .ow (rowD (B * C (n - dr) s) now), s11, s12, s13, s14, s15, s16] ∧
      ND now ∧ now.length ≤ 42 * j ∧ (∀ p ∈ now, ∃ q ∈ l, ∃ m, m ≤ s ∧ m ≤ b - q.1 ∧ p.1 = q.1 + m) ∧ sumN (fun _ => 1) now ≤ j * 2 ^ 600 ∧ ∀ G, sumN G now = stg n b dr s G (l'.take j))
    (by simp [hsort]) ⟨[], s11, s12, s13, s14, s15, s16, rfl, List.nodup_nil, by simp, by simp, by simp [sumN], fun G => rfl⟩
    (fun j d ρ hd ⟨now, t11, t12, t13, t14, t15, t16, hρ, nd1, hl1, hk1, hT1, hG⟩ => by
      rw [List.getElem?_map, Option.map_eq_some_iff] at hd
      obtain ⟨q, hq, rfl⟩ := hd
      subst hρ
      have hql : q ∈ l := hp.mem_iff.mp (List.mem_of_getElem? hq)
      obtain ⟨hx, ha⟩ := hk q hql
      have hj : j < l'.length := (List.getElem?_eq_some_iff.mp hq).1
      have hc := cs_le n b dr s q hn hb hx ha
      have hc' : rs (min s (b - q.1) + 1) (fun m => q.2 * wy n b dr s q.1 m) = cs n b dr s (fun _ => 1) q := by
        unfold cs
        exact rs_congr fun i _ => (Nat.mul_one _).symm
      have hbig : (j + 1) * 2 ^ 600 < 2 ^ 3000 := by
        have h1 : (j + 1) * 2 ^ 600 ≤ 2 ^ 11 * 2 ^ 600 := Nat.mul_le_mul_right _ (by omega)
        rw [← Nat.pow_add] at h1
        have h2 : (2 : Nat) ^ (11 + 600) < 2 ^ 3000 := Nat.pow_lt_pow_right (by decide) (by decide)
        omega
      have hsum : sumN (fun _ => 1) now + rs (min s (b - q.1) + 1) (fun m => q.2 * wy n b dr s q.1 m) ≤ (j + 1) * 2 ^ 600 := by
        rw [hc', Nat.add_mul, Nat.one_mul]
        omega
      obtain ⟨now', u14, u15, u16, f1, f2, f3, f4, f5⟩ := inner_ok n b dr s B q.1 q.2 now L S (rowD B l) acc tk rf t14 t15 t16 hn hb hx hs hdr ha hB hB0 nd1 (by omega) (by omega)
      refine ⟨[.fz L, .fz S, .fz (.int n), .fz (.int b), .fz (rowD B l), .fz (.int dr), .ow (.list acc), .fz (.int s), .fz (.int tk), .fz (.int rf), .ow (rowD (B * C (n - dr) s) now), .fz (.int q.1), .fz (frD ((q.2 : Rat) / B)), t13, t14, t15, t16], _, by simp [itm], ?_, _, .inl rfl, now', .fz (.int q.1), .fz (frD ((q.2 : Rat) / B)), .fz (.int ((n : Int) - dr)), u14, u15, u16, rfl, f2, by omega, fun p hpm => ?_, ?_, fun G => ?_⟩
      · rw [sSeq_nx (ρ' := [.fz L, .fz S, .fz (.int n), .fz (.int b), .fz (rowD B l), .fz (.int dr), .ow (.list acc), .fz (.int s), .fz (.int tk), .fz (.int rf), .ow (rowD (B * C (n - dr) s) now), .fz (.int q.1), .fz (frD ((q.2 : Rat) / B)), .fz (.int ((n : Int) - dr)), t14, t15, t16]) (by simp)]
        exact f1
      · rcases f4 p hpm with ⟨m, h1, h2, h3⟩ | ⟨r, h1, h2⟩
        · exact ⟨q, hql, m, h1, h2, h3⟩
        · obtain ⟨q2, h4, m, h5, h6, h7⟩ := hk1 r h1
          exact ⟨q2, h4, m, h5, h6, by omega⟩
      · rw [f5]
        unfold cs at hc'
        simp only [Nat.mul_one] at hc' ⊢
        omega
      · rw [f5, hG]
        unfold stg
        rw [List.take_add_one, hq, List.map_append, List.sum_append]
        simp
        rfl)
  obtain ⟨now, t11, t12, t13, t14, t15, t16, rfl, nd1, hl1, hk1, hT1, hG⟩ := g2
  refine ⟨now, t11, t12, t13, t14, t15, t16, g1, nd1, by rw [List.length_map, hll] at hl1; exact hl1, hk1, fun G => ?_⟩
  rw [hG, List.length_map, List.take_length]
  exact stg_perm n b dr s G hp
theorem notMk_dk (ρ : Env) (j B : Nat) (l : Row) (h : ρ[j]? = some (.fz (rowD B l))) : iItemsJ j ρ = some (l.map (itm B)) := by
  unfold iItemsJ dkSlot
  rw [h]
  simp only [rowD, Bool.false_eq_true, if_false, notMk_row, if_true, Option.map_some, itL_row]
noncomputable abbrev stageB : DenS := (sSeq (sOwn 10 (kD (.dict [])))
   (sSeq (sFor (iSeq (d1 sortItD (vR 4))) (gT (gsCons (gN 11) (gsCons (gN 12) gsNil)) 2) (sSeq (sSet 13 (d2 subD (vR 2) (vR 5))) innerF))
   (sSeq (sFrz 10 (sApp 6 (vR 10)))
   (sSeq (sFrz 10 (sLcSet 4 false (dDc (iItemsJ 10) (gT (gsCons (gN 11) (gsCons (gN 12) gsNil)) 2) (bCh ltI ltI (vR 8) (vR 11) (vR 9)) (vR 11) (vR 12) [11, 12])))
   (sSet 5 (d2 addD (vR 5) (vR 7)))))))
theorem stage_ok (n b dr s B : Nat) (l : Row) (L S : D) (acc : List D) (tk rf : Int) (s10 s11 s12 s13 s14 s15 s16 : Slot) (hn : n ≤ 40) (hb : b ≤ n) (hs : s ≤ n - dr) (hdr : dr ≤ n) (hB : B < 2 ^ 300) (hB0 : B ≠ 0)
    (hk : ∀ p ∈ l, p.1 ≤ b ∧ p.2 < 2 ^ 300) (hl : l.length ≤ 2000) (hacc : acc.length < 100) :
    ∃ now s11' s12' s13' s14' s15' s16', stageB
      [.fz L, .fz S, .fz (.int n), .fz (.int b), .fz (rowD B l), .fz (.int dr), .ow (.list acc), .fz (.int s), .fz (.int tk), .fz (.int rf), s10, s11, s12, s13, s14, s15, s16] =
      some (.nx [.fz L, .fz S, .fz (.int n), .fz (.int b), .fz (rowD (B * C (n - dr) s) (now.filter fun p => decide (tk < p.1) && decide ((p.1 : Int) < rf))), .fz (.int ((dr + s : Nat) : Int)), .ow (.list (acc ++ [rowD (B * C (n - dr) s) now])), .fz (.int s), .fz (.int tk), .fz (.int rf), .fz (rowD (B * C (n - dr) s) now), s11', s12', s13', s14', s15', s16']) ∧
      ND now ∧ now.length ≤ 42 * l.length ∧ (∀ p ∈ now, ∃ q ∈ l, ∃ m, m ≤ s ∧ m ≤ b - q.1 ∧ p.1 = q.1 + m) ∧ ∀ G, sumN G now = stg n b dr s G l := by
  obtain ⟨now, t11, t12, t13, t14, t15, t16, f1, f2, f3, f4, f5⟩ := loop_ok n b dr s B l L S acc tk rf s11 s12 s13 s14 s15 s16 hn hb hs hdr hB hB0 hk hl
  refine ⟨now, t11, t12, t13, t14, t15, t16, ?_, f2, f3, f4, f5⟩
  unfold stageB
  rw [sSeq_nx (ρ' := [.fz L, .fz S, .fz (.int n), .fz (.int b), .fz (rowD B l), .fz (.int dr), .ow (.list acc), .fz (.int s), .fz (.int tk), .fz (.int rf), .ow (.dict []), s11, s12, s13, s14, s15, s16]) (by simp)]
  rw [sSeq_nx f1]
  rw [sSeq_nx (ρ' := [.fz L, .fz S, .fz (.int n), .fz (.int b), .fz (rowD B l), .fz (.int dr), .ow (.list (acc ++ [rowD (B * C (n - dr) s) now])), .fz (.int s), .fz (.int tk), .fz (.int rf), .fz (rowD (B * C (n - dr) s) now), t11, t12, t13, t14, t15, t16]) (by
    have : acc.length < 1000000 := by omega
    simp [this])]
  have kp := keep_row (B * C (n - dr) s) (fun k => decide (tk < k) && decide ((k : Int) < rf)) (gT (gsCons (gN 11) (gsCons (gN 12) gsNil)) 2) (bCh ltI ltI (vR 8) (vR 11) (vR 9)) (vR 11) (vR 12)
    (wipeE [.fz L, .fz S, .fz (.int n), .fz (.int b), .fz (rowD B l), .fz (.int dr), .ow (.list (acc ++ [rowD (B * C (n - dr) s) now])), .fz (.int s), .fz (.int tk), .fz (.int rf), .fz (rowD (B * C (n - dr) s) now), t11, t12, t13, t14, t15, t16] [11, 12]) now []
    (fun p hp => by
      refine ⟨_, by simp [wipeE, itm]; rfl, ?_, ?_, ?_⟩
      · by_cases h : tk < (p.1 : Int)
        · simp [h]
        · simp [h]
      · simp
      · simp) (by simpa using f2)
  have hd : dDc (iItemsJ 10) (gT (gsCons (gN 11) (gsCons (gN 12) gsNil)) 2) (bCh ltI ltI (vR 8) (vR 11) (vR 9)) (vR 11) (vR 12) [11, 12]
      [.fz L, .fz S, .fz (.int n), .fz (.int b), .fz (rowD B l), .fz (.int dr), .ow (.list (acc ++ [rowD (B * C (n - dr) s) now])), .fz (.int s), .fz (.int tk), .fz (.int rf), .fz (rowD (B * C (n - dr) s) now), t11, t12, t13, t14, t15, t16] =
      some (rowD (B * C (n - dr) s) (now.filter fun p => decide (tk < p.1) && decide ((p.1 : Int) < rf))) := by
    unfold dDc
    rw [notMk_dk _ 10 (B * C (n - dr) s) now (by simp)]
    have hlen : (now.map (itm (B * C (n - dr) s))).length ≤ 1000000 := by rw [List.length_map]; omega
    simp only [Option.bind_some, hlen, if_true]
    have kp' : dcL (gT (gsCons (gN 11) (gsCons (gN 12) gsNil)) 2) (bCh ltI ltI (vR 8) (vR 11) (vR 9)) (vR 11) (vR 12) _ (now.map (itm (B * C (n - dr) s))) [] = _ := kp
    rw [kp']
    simp [rowD]
  rw [sSeq_nx (ρ' := [.fz L, .fz S, .fz (.int n), .fz (.int b), .fz (rowD (B * C (n - dr) s) (now.filter fun p => decide (tk < p.1) && decide ((p.1 : Int) < rf))), .fz (.int dr), .ow (.list (acc ++ [rowD (B * C (n - dr) s) now])), .fz (.int s), .fz (.int tk), .fz (.int rf), .fz (rowD (B * C (n - dr) s) now), t11, t12, t13, t14, t15, t16]) (by
    simp only [sFrz_s, frz_s, List.getElem?_cons_zero, List.getElem?_cons_succ, sLcSet_s, hd, Option.bind_some]
    rfl)]
  simp
end Zx.k75
/-! P6: one stage, two stages: the rows' numbers. -/
namespace Zx.k75
open PySem PySem.Spec L2 Zx
theorem rs_swap (m n : Nat) (f : Nat → Nat → Nat) : rs m (fun i => rs n fun j => f i j) = rs n fun j => rs m fun i => f i j := by
  induction m with
  | zero => rw [rs_zero, rs_zeros fun _ _ => rs_zero _]
  | succ m ih =>
    rw [rs_succ, ih, ← rs_add]
    exact rs_congr fun j _ => (rs_succ m _).symm
theorem rs_tail {k n : Nat} {f : Nat → Nat} (hk : k ≤ n) (h : ∀ i, k ≤ i → i < n → f i = 0) : rs n f = rs k f := by
  have := rs_split k (n - k) f
  rw [show k + (n - k) = n by omega] at this
  rw [this, rs_zeros (n := n - k) fun i hi => h _ (by omega) (by omega), Nat.add_zero]
/-- two drawings one behind the other are one -/
theorem two_one (n b f s2 : Nat) (G : Nat → Nat) (hb : b ≤ n) (hf : f ≤ n) :
    rs (f + 1) (fun x => C b x * C (n - b) (f - x) * rs (min s2 (b - x) + 1) fun m => wy n b f s2 x m * G (x + m)) = C (f + s2) f * rs (f + s2 + 1) fun t => C b t * C (n - b) (f + s2 - t) * G t := by
  have h1 : ∀ x, x < f + 1 → C b x * C (n - b) (f - x) * rs (min s2 (b - x) + 1) (fun m => wy n b f s2 x m * G (x + m)) =
      rs (f + s2 + 1) fun t => C b t * C (n - b) (f + s2 - t) * G t * (C t x * C (f + s2 - t) (f - x)) := fun x hx => by
    have e1 : f + s2 + 1 = x + ((s2 + 1) + (f - x)) := by omega
    rw [e1, rs_split x, rs_zeros (n := x) (fun i hi => by rw [C_big (show i < x by omega)]; simp), Nat.zero_add, rs_split (s2 + 1),
      rs_zeros (n := f - x) (fun i hi => by rw [C_big (show f + s2 - (x + (s2 + 1 + i)) < f - x by omega)]; simp), Nat.add_zero]
    by_cases hxb : x ≤ b
    · rw [rs_tail (k := min s2 (b - x) + 1) (n := s2 + 1) (by omega) (fun i h1 h2 => by rw [C_big (show b < x + i by omega)]; simp), ← rs_mul]
      refine rs_congr fun m hm => ?_
      have hm1 : m ≤ s2 := by omega
      have hm2 : m ≤ b - x := by omega
      have t1 := C_tri b (x + m) x (by omega)
      have t2 := C_tri (n - b) (f + s2 - (x + m)) (f - x) (by omega)
      rw [show x + m - x = m by omega] at t1
      rw [show f + s2 - (x + m) - (f - x) = s2 - m by omega] at t2
      by_cases hz : f - x ≤ n - b
      · have w : wy n b f s2 x m = C (b - x) m * C (n - b - (f - x)) (s2 - m) := by
          unfold wy
          rw [show (b : Int) - x = ((b - x : Nat) : Int) by omega, show (n : Int) - f - b + x = ((n - b - (f - x) : Nat) : Int) by omega, show (s2 : Int) - m = ((s2 - m : Nat) : Int) by omega, CI_nat, CI_nat]
        rw [w]
        calc C b x * C (n - b) (f - x) * (C (b - x) m * C (n - b - (f - x)) (s2 - m) * G (x + m)) = (C b x * C (b - x) m) * (C (n - b) (f - x) * C (n - b - (f - x)) (s2 - m)) * G (x + m) := by simp only [Nat.mul_assoc, Nat.mul_comm, Nat.mul_left_comm]
          _ = (C b (x + m) * C (x + m) x) * (C (n - b) (f + s2 - (x + m)) * C (f + s2 - (x + m)) (f - x)) * G (x + m) := by rw [t1, t2]
          _ = _ := by simp only [Nat.mul_assoc, Nat.mul_comm, Nat.mul_left_comm]
      · have z : C (n - b) (f - x) = 0 := C_big (by omega)
        rw [z, Nat.zero_mul] at t2
        rw [z]
        have : C b (x + m) * C (n - b) (f + s2 - (x + m)) * G (x + m) * (C (x + m) x * C (f + s2 - (x + m)) (f - x)) = (C (n - b) (f + s2 - (x + m)) * C (f + s2 - (x + m)) (f - x)) * (C b (x + m) * G (x + m) * C (x + m) x) := by simp only [Nat.mul_assoc, Nat.mul_comm, Nat.mul_left_comm]
        rw [this, t2]
        simp
    · rw [C_big (show b < x by omega)]
      rw [rs_zeros (n := s2 + 1) fun m hm => by rw [C_big (show b < x + m by omega)]; simp]
      simp
  rw [rs_congr h1, rs_swap, ← rs_mul]
  refine rs_congr fun t ht => ?_
  have h2 := vdm t (f + s2 - t) f
  rw [show t + (f + s2 - t) = f + s2 by omega] at h2
  rw [rs_mul, h2, Nat.mul_comm]
/-- the numbers of the first row -/
theorem stg_one (n b s : Nat) (G : Nat → Nat) (hb : b ≤ n) : stg n b 0 s G [(0, 1)] = rs (s + 1) fun m => C b m * C (n - b) (s - m) * G m := by
  have e : stg n b 0 s G [(0, 1)] = rs (min s b + 1) fun m => wy n b 0 s 0 m * G m := by
    unfold stg cs
    simp
  rw [e, rs_tail (k := min s b + 1) (n := s + 1) (by omega) (fun i h1 h2 => by rw [C_big (show b < i by omega)]; simp)]
  refine rs_congr fun m hm => ?_
  have w : wy n b 0 s 0 m = C b m * C (n - b) (s - m) := by
    unfold wy
    rw [show (b : Int) - (0 : Nat) = b by omega, show (n : Int) - (0 : Nat) - b + (0 : Nat) = ((n - b : Nat) : Int) by omega, show (s : Int) - m = ((s - m : Nat) : Int) by omega, CI_nat, CI_nat]
  rw [w]
theorem stg_sum (n b dr s : Nat) (G : Nat → Nat) (l : Row) : stg n b dr s G l = sumN (fun x => rs (min s (b - x) + 1) fun m => wy n b dr s x m * G (x + m)) l := by
  unfold stg sumN
  congr 1
  refine List.map_congr_left fun p _ => ?_
  unfold cs
  rw [← rs_mul]
  exact rs_congr fun i _ => by rw [Nat.mul_assoc]
theorem row0 : PyData.dict [(.int 0, .tuple [.int 1, .int 1])] = rowD 1 [(0, 1)] := by
  have e : ((1 : Nat) : Rat) / ((1 : Nat) : Rat) = 1 := by grind
  unfold rowD rowK
  simp only [List.map_cons, List.map_nil, e]
  rfl
abbrev stD (s : Nat) (t r : Int) : D := .tuple [.int s, .int t, .int r]
theorem sumN_le_of {l : Row} {M : Nat} (h : sumN (fun _ => 1) l ≤ M) : ∀ p ∈ l, p.2 ≤ M := fun p hp => Nat.le_trans (mem_le hp) h
theorem rows_start (n b : Nat) (S : D) (xs : List D) (hS : S = .list xs) (o : Out) (h : forL (gT (gsCons (gN 7) (gsCons (gN 8) (gsCons (gN 9) gsNil))) 3) stageB xs [.fz (lotD n b), .fz S, .fz (.int n), .fz (.int b), .fz (rowD 1 [(0, 1)]), .fz (.int 0), .ow (.list []), .no, .no, .no, .no, .no, .no, .no, .no, .no, .no] = some o) (ρ' : Env) (ho : o = .nx ρ') (out : D) (h6 : ρ'[6]? = some (.ow out)) :
    f_rows_of [lotD n b, S] = some out := by
  unfold f_rows_of D_rows_of
  refine run_seq (ρ' := [.fz (lotD n b), .fz S, .fz (.int n), .fz (.int b), .no, .no, .no, .no, .no, .no, .no, .no, .no, .no, .no, .no, .no]) (by simp) ?_
  rw [sSeq_nx (ρ' := [.fz (lotD n b), .fz S, .fz (.int n), .fz (.int b), .fz (rowD 1 [(0, 1)]), .no, .no, .no, .no, .no, .no, .no, .no, .no, .no, .no, .no]) (by
    rw [← row0]
    simp [keyOf_int])]
  rw [sSeq_nx (ρ' := [.fz (lotD n b), .fz S, .fz (.int n), .fz (.int b), .fz (rowD 1 [(0, 1)]), .fz (.int 0), .no, .no, .no, .no, .no, .no, .no, .no, .no, .no, .no]) (by simp)]
  rw [sSeq_nx (ρ' := [.fz (lotD n b), .fz S, .fz (.int n), .fz (.int b), .fz (rowD 1 [(0, 1)]), .fz (.int 0), .ow (.list []), .no, .no, .no, .no, .no, .no, .no, .no, .no, .no]) (by simp)]
  subst ho
  have hf : sFor (iSeq (vR 1)) (gT (gsCons (gN 7) (gsCons (gN 8) (gsCons (gN 9) gsNil))) 3) stageB [.fz (lotD n b), .fz S, .fz (.int n), .fz (.int b), .fz (rowD 1 [(0, 1)]), .fz (.int 0), .ow (.list []), .no, .no, .no, .no, .no, .no, .no, .no, .no, .no] = some (.nx ρ') := by
    unfold sFor
    subst hS
    simpa using h
  unfold stageB innerF innerB at hf
  rw [sSeq_nx hf]
  have hl : 6 < ρ'.length := (List.getElem?_eq_some_iff.mp h6).1
  simp only [sFrz_s, frz_s, h6, sRet_s, vR_s, List.getElem?_set_self hl, Option.bind_some]
/-- a plan in one stage -/
theorem rows_one (n b s : Nat) (t r : Int) (hn : n ≤ 40) (hb : b ≤ n) (hs : s ≤ n) :
    ∃ now : Row, f_rows_of [lotD n b, .list [stD s t r]] = some (.list [rowD (C n s) now]) ∧ ND now ∧ now.length ≤ 42 ∧ ∀ G, sumN G now = rs (s + 1) fun m => C b m * C (n - b) (s - m) * G m := by
  obtain ⟨now, t11, t12, t13, t14, t15, t16, f1, f2, f3, f4, f5⟩ := stage_ok n b 0 s 1 [(0, 1)] (lotD n b) (.list [stD s t r]) [] t r .no .no .no .no .no .no .no hn hb (by omega) (by omega) (by decide) (by decide) (by simp) (by simp) (by simp)
  refine ⟨now, rows_start n b _ _ rfl _ (by
    simp only [forL, gT_s, gsCons_s, gsNil_s, gN_s, List.length_cons, List.length_nil, Nat.zero_add, Nat.reduceAdd, if_true, Option.bind_some, List.set_cons_zero, List.set_cons_succ]
    have f1' := f1
    rw [show ((0 : Nat) : Int) = 0 from rfl] at f1'
    rw [f1']
    rfl) _ rfl _ (by simp), f2, by simpa using f3, fun G => ?_⟩
  rw [f5, stg_one n b s G hb]
/-- a plan in two stages, the first of which goes on at any number -/
theorem rows_two (n b f s2 : Nat) (t2 r2 : Int) (hn : n ≤ 40) (hb : b ≤ n) (hs : f + s2 ≤ n) (hf1 : 1 ≤ f) (r1 : Int) (hr1 : r1 = f + (f + s2 : Nat)) :
    ∃ now1 now2 : Row, f_rows_of [lotD n b, .list [stD f (-1) r1, stD s2 t2 r2]] = some (.list [rowD (C n f) now1, rowD (C n f * C (n - f) s2) now2]) ∧ ND now1 ∧ now1.length ≤ 42 ∧ (∀ G, sumN G now1 = rs (f + 1) fun m => C b m * C (n - b) (f - m) * G m) ∧
      ND now2 ∧ now2.length ≤ 2000 ∧ ∀ G, sumN G now2 = C (f + s2) f * rs (f + s2 + 1) fun t => C b t * C (n - b) (f + s2 - t) * G t := by
  obtain ⟨now1, t11, t12, t13, t14, t15, t16, f1, f2, f3, f4, f5⟩ := stage_ok n b 0 f 1 [(0, 1)] (lotD n b) (.list [stD f (-1) r1, stD s2 t2 r2]) [] (-1) r1 .no .no .no .no .no .no .no hn hb (by omega) (by omega) (by decide) (by decide) (by simp) (by simp) (by simp)
  have hkeys : ∀ p ∈ now1, p.1 ≤ f ∧ p.1 ≤ b := fun p hp => by
    obtain ⟨q, hq, m, h1, h2, h3⟩ := f4 p hp
    simp at hq
    subst hq
    simp at h2 h3
    omega
  have hfil : (now1.filter fun p => decide ((-1 : Int) < p.1) && decide ((p.1 : Int) < r1)) = now1 := by
    rw [List.filter_eq_self]
    intro p hp
    have := hkeys p hp
    simp
    omega
  have h1 : ∀ G, sumN G now1 = rs (f + 1) fun m => C b m * C (n - b) (f - m) * G m := fun G => by rw [f5, stg_one n b f G hb]
  have hC := C_lt_pow (n := n) (s := f) hn
  have hC0 := C_pos (show f ≤ n by omega)
  have htot : sumN (fun _ => 1) now1 = C n f := by
    rw [h1]
    simp only [Nat.mul_one]
    have := vdm b (n - b) f
    rw [show b + (n - b) = n by omega] at this
    exact this
  have h41 : (2 : Nat) ^ 41 ≤ 2 ^ 300 := Nat.pow_le_pow_right (by decide) (by decide)
  have hsm : ∀ p ∈ now1, p.1 ≤ b ∧ p.2 < 2 ^ 300 := fun p hp => by
    refine ⟨(hkeys p hp).2, ?_⟩
    have := sumN_le_of (Nat.le_of_eq htot) p hp
    omega
  rw [hfil] at f1
  have e1 : 1 * C (n - 0) f = C n f := by simp
  rw [e1] at f1
  obtain ⟨now2, u11, u12, u13, u14, u15, u16, g1, g2, g3, g4, g5⟩ := stage_ok n b f s2 (C n f) now1 (lotD n b) (.list [stD f (-1) r1, stD s2 t2 r2]) [rowD (C n f) now1] t2 r2 (.fz (rowD (C n f) now1)) t11 t12 t13 t14 t15 t16 hn hb (by omega) (by omega) (by omega) (by omega) hsm (by simp at f3; omega) (by simp)
  refine ⟨now1, now2, rows_start n b _ _ rfl _ (by
    simp only [forL, gT_s, gsCons_s, gsNil_s, gN_s, List.length_cons, List.length_nil, Nat.zero_add, Nat.reduceAdd, if_true, Option.bind_some, List.set_cons_zero, List.set_cons_succ]
    have f1' := f1
    rw [show ((0 : Nat) : Int) = 0 from rfl] at f1'
    rw [f1']
    simp only [Option.bind_some, gT_s, gsCons_s, gsNil_s, gN_s, List.length_cons, List.length_nil, Nat.zero_add, Nat.reduceAdd, if_true, List.set_cons_zero, List.set_cons_succ, List.nil_append]
    rw [g1]
    rfl) _ rfl _ (by simp), f2, by simpa using f3, h1, g2, by simp at f3; omega, fun G => ?_⟩
  rw [g5, stg_sum, h1, two_one n b f s2 G hb (by omega)]
end Zx.k75
/-! P7: totals of rows, chances in stages, the mean number. -/
namespace Zx.k75
open PySem PySem.Spec L2 Zx
def ind (c : Nat → Bool) (k : Nat) : Nat := if c k then 1 else 0
theorem sum_div (B : Nat) : ∀ (l : Row), (l.map fun p => ((p.2 : Rat) / B)).sum = ((sumN (fun _ => 1) l : Nat) : Rat) / B
  | [] => by
    have : ((0 : Nat) : Rat) = 0 := rfl
    simp only [List.map_nil, List.sum_nil, sumN]
    grind
  | p :: l => by
    rw [List.map_cons, List.sum_cons, sum_div B l, sumN_cons, Rat.natCast_add, Nat.mul_one]
    grind
theorem sumN_take (l : Row) (j : Nat) : sumN (fun _ => 1) (l.take j) ≤ sumN (fun _ => 1) l := by
  have := sumN_append (fun _ => 1) (l.take j) (l.drop j)
  rw [List.take_append_drop] at this
  omega
theorem sumN_filter (c : Nat → Bool) : ∀ (l : Row), sumN (fun _ => 1) (l.filter fun p => c p.1) = sumN (ind c) l
  | [] => rfl
  | p :: l => by
    rw [List.filter_cons, sumN_cons]
    cases h : c p.1 with
    | true => simp [sumN_cons, sumN_filter c l, ind, h]
    | false => simp [sumN_filter c l, ind, h]
theorem ind_le (c : Nat → Bool) (l : Row) : sumN (ind c) l ≤ sumN (fun _ => 1) l := by
  induction l with
  | nil => exact Nat.le_refl _
  | cons p l ih =>
    rw [sumN_cons, sumN_cons]
    have : p.2 * ind c p.1 ≤ p.2 * 1 := Nat.mul_le_mul_left _ (by unfold ind; split <;> omega)
    omega
theorem total_row (B : Nat) (l : Row) (hT : sumN (fun _ => 1) l < 2 ^ 4000) (hB : B < 2 ^ 4000) (hB0 : B ≠ 0) : f_total [.list (l.map fun p => frD ((p.2 : Rat) / B))] = some (frD (((sumN (fun _ => 1) l : Nat) : Rat) / B)) := by
  have e : (l.map fun p => frD ((p.2 : Rat) / B)) = (l.map fun p => ((p.2 : Rat) / B)).map frD := by rw [List.map_map]; rfl
  rw [e, e_total, total_eq, sum_div]
  · intro j
    rw [← List.map_take, sum_div]
    have := sumN_take l j
    exact Sq_div (by omega) hB hB0
  · intro q hq
    obtain ⟨p, hp, rfl⟩ := List.mem_map.mp hq
    have := mem_le hp
    exact Sq_div (by omega) hB hB0
/-- total([part for seen, part in sorted(row.items()) if ..]) -/
theorem comp_row (B : Nat) (l : Row) (c : Nat → Bool) (i j kk : Nat) (ft : DenB) (ρ : Env) (hl : l.length ≤ 1000000) (hrow : ρ[kk]? = some (.fz (rowD B l)))
    (hT : sumN (fun _ => 1) l < 2 ^ 4000) (hB : B < 2 ^ 4000) (hB0 : B ≠ 0)
    (hc : ∀ p ∈ l, ∃ ρ1, gT (gsCons (gN i) (gsCons (gN j) gsNil)) 2 (itm B p) (wipeE ρ [i, j]) = some ρ1 ∧ ft ρ1 = some (c p.1) ∧ vR j ρ1 = some (frD ((p.2 : Rat) / B))) :
    dCall (lCons (dLc (iSeq (d1 sortItD (vR kk))) (gT (gsCons (gN i) (gsCons (gN j) gsNil)) 2) ft (vR j) [i, j]) lNil) f_total ρ = some (frD (((sumN (ind c) l : Nat) : Rat) / B)) := by
  obtain ⟨l', hp, hs⟩ := sort_row B l hl
  have hd : dLc (iSeq (d1 sortItD (vR kk))) (gT (gsCons (gN i) (gsCons (gN j) gsNil)) 2) ft (vR j) [i, j] ρ = some (.list ((l'.filter fun p => c p.1).map fun p => frD ((p.2 : Rat) / B))) := by
    refine dLc_of (ds := l'.map (itm B)) (by simp [hrow, hs]) ?_ (by
      rw [List.length_map]
      have := List.length_filter_le (fun p : Nat × Nat => c p.1) l'
      have := hp.length_eq
      omega)
    have gen : ∀ m : Row, (∀ p ∈ m, p ∈ l) → lcL (gT (gsCons (gN i) (gsCons (gN j) gsNil)) 2) ft (vR j) (wipeE ρ [i, j]) (m.map (itm B)) = some ((m.filter fun p => c p.1).map fun p => frD ((p.2 : Rat) / B)) := by
      intro m
      induction m with
      | nil => intro _; rfl
      | cons p m ih =>
        intro hm
        obtain ⟨ρ1, h1, h2, h3⟩ := hc p (hm p List.mem_cons_self)
        have := ih fun q hq => hm q (List.mem_cons_of_mem _ hq)
        rw [List.map_cons, List.filter_cons]
        cases hcp : c p.1 with
        | true => simp only [lcL, h1, h2, hcp, h3, this, Option.bind_some, if_true, List.map_cons]
        | false => simp only [lcL, h1, h2, hcp, this, Option.bind_some, Bool.false_eq_true, if_false]
    exact gen l' fun p hp' => hp.mem_iff.mp hp'
  have hsum : sumN (fun _ => 1) (l'.filter fun p => c p.1) = sumN (ind c) l := by rw [sumN_filter]; exact sumN_perm _ hp
  have hle := ind_le c l
  simp only [dCall_s, lCons_s, lNil_s, hd, Option.bind_some]
  rw [total_row B _ (by rw [hsum]; omega) hB hB0, hsum]
noncomputable abbrev courseB : DenS := (sSeq (sSet 7 (dCall (lCons (dLc (iSeq (d1 sortItD (vR 3))) (gT (gsCons (gN 8) (gsCons (gN 9) gsNil)) 2) (b2 leI (vR 8) (vR 5)) (vR 9) [8, 9]) lNil) f_total))
   (sApp 2 (mkT (lCons (vR 7) (lCons (dCall (lCons (dLc (iSeq (d1 sortItD (vR 3))) (gT (gsCons (gN 8) (gsCons (gN 9) gsNil)) 2) (b2 geI (vR 8) (vR 6)) (vR 9) [8, 9]) lNil) f_total) lNil)))))
abbrev gCo : DenG := gT (gsCons (gN 3) (gsCons (gT (gsCons (gN 4) (gsCons (gN 5) (gsCons (gN 6) gsNil))) 3) gsNil)) 2
theorem course_turn (B : Nat) (l : Row) (t r s : Int) (s0 s1 s3 s4 s5 s6 s7 s8 s9 : Slot) (acc : List D) (hl : l.length ≤ 1000000) (hT : sumN (fun _ => 1) l < 2 ^ 4000) (hB : B < 2 ^ 4000) (hB0 : B ≠ 0) (ha : acc.length < 100) :
    ∃ q7 q8 : Slot, (gCo (.tuple [rowD B l, .tuple [.int s, .int t, .int r]]) [s0, s1, .ow (.list acc), s3, s4, s5, s6, s7, s8, s9]).bind courseB = some (.nx [s0, s1, .ow (.list (acc ++ [.tuple [frD (((sumN (ind fun k => decide ((k : Int) ≤ t)) l : Nat) : Rat) / B), frD (((sumN (ind fun k => decide (r ≤ (k : Int))) l : Nat) : Rat) / B)]])), .fz (rowD B l), .fz (.int s), .fz (.int t), .fz (.int r), q7, s8, s9]) := by
  refine ⟨.fz (frD (((sumN (ind fun k => decide ((k : Int) ≤ t)) l : Nat) : Rat) / B)), .no, ?_⟩
  have c1 := comp_row B l (fun k => decide ((k : Int) ≤ t)) 8 9 3 (b2 leI (vR 8) (vR 5)) [s0, s1, .ow (.list acc), .fz (rowD B l), .fz (.int s), .fz (.int t), .fz (.int r), s7, s8, s9] hl rfl hT hB hB0 (fun p hp => ⟨_, by simp [wipeE, itm]; rfl, by simp, by simp⟩)
  have c2 := comp_row B l (fun k => decide (r ≤ (k : Int))) 8 9 3 (b2 geI (vR 8) (vR 6)) [s0, s1, .ow (.list acc), .fz (rowD B l), .fz (.int s), .fz (.int t), .fz (.int r), .fz (frD (((sumN (ind fun k => decide ((k : Int) ≤ t)) l : Nat) : Rat) / B)), s8, s9] hl rfl hT hB hB0 (fun p hp => ⟨_, by simp [wipeE, itm]; rfl, by simp, by simp⟩)
  have hlt : acc.length < 1000000 := by omega
  simp only [gT_s, gsCons_s, gsNil_s, gN_s, List.length_cons, List.length_nil, Nat.zero_add, Nat.reduceAdd, if_true, Option.bind_some, List.set_cons_zero, List.set_cons_succ]
  unfold courseB
  rw [sSeq_nx (ρ' := [s0, s1, .ow (.list acc), .fz (rowD B l), .fz (.int s), .fz (.int t), .fz (.int r), .fz (frD (((sumN (ind fun k => decide ((k : Int) ≤ t)) l : Nat) : Rat) / B)), s8, s9]) (by
    rw [sSet_s, c1]
    simp)]
  simp only [sApp_s, mkT_s, lCons_s, lNil_s, c2, vR_s, owL_s, List.getElem?_cons_zero, List.getElem?_cons_succ, Option.bind_some, List.length_cons, List.length_nil, Nat.zero_add, Nat.reduceAdd, Nat.reduceLeDiff, if_true, hlt, List.set_cons_zero, List.set_cons_succ]
/-- taken, refused -/
def tkD (B : Nat) (l : Row) (t r : Int) : D := .tuple [frD (((sumN (ind fun k => decide ((k : Int) ≤ t)) l : Nat) : Rat) / B), frD (((sumN (ind fun k => decide (r ≤ (k : Int))) l : Nat) : Rat) / B)]
theorem course_one (L : D) (B : Nat) (l : Row) (s t r : Int) (h : f_rows_of [L, .list [.tuple [.int s, .int t, .int r]]] = some (.list [rowD B l])) (hl : l.length ≤ 1000000) (hT : sumN (fun _ => 1) l < 2 ^ 4000) (hB : B < 2 ^ 4000) (hB0 : B ≠ 0) :
    f_course_of [L, .list [.tuple [.int s, .int t, .int r]]] = some (.list [tkD B l t r]) := by
  unfold f_course_of D_course_of
  refine run_seq (ρ' := [.fz L, .fz (.list [.tuple [.int s, .int t, .int r]]), .ow (.list []), .no, .no, .no, .no, .no, .no, .no]) (by simp) ?_
  obtain ⟨q7, q8, ct⟩ := course_turn B l t r s (.fz L) (.fz (.list [.tuple [.int s, .int t, .int r]])) .no .no .no .no .no .no .no [] hl hT hB hB0 (by simp)
  have hf : sFor (iZp (dCall (lCons (vR 0) (lCons (vR 1) lNil)) f_rows_of) (vR 1)) gCo courseB [.fz L, .fz (.list [.tuple [.int s, .int t, .int r]]), .ow (.list []), .no, .no, .no, .no, .no, .no, .no] = some (.nx [.fz L, .fz (.list [.tuple [.int s, .int t, .int r]]), .ow (.list [tkD B l t r]), .fz (rowD B l), .fz (.int s), .fz (.int t), .fz (.int r), q7, .no, .no]) := by
    unfold sFor
    simp only [iZp_s, dCall_s, lCons_s, lNil_s, vR_s, List.getElem?_cons_zero, List.getElem?_cons_succ, Option.bind_some, h, zipL, List.zipWith_cons_cons, List.zipWith_nil_left, forL]
    rw [Option.bind_eq_some_iff] at ct
    obtain ⟨ρ1, h1, h2⟩ := ct
    rw [h1, Option.bind_some, h2]
    rfl
  unfold courseB gCo at hf
  rw [sSeq_nx hf]
  simp
theorem course_two (L : D) (B1 B2 : Nat) (l1 l2 : Row) (s1 t1 r1 s2 t2 r2 : Int) (h : f_rows_of [L, .list [.tuple [.int s1, .int t1, .int r1], .tuple [.int s2, .int t2, .int r2]]] = some (.list [rowD B1 l1, rowD B2 l2]))
    (hl : l1.length ≤ 1000000) (hT : sumN (fun _ => 1) l1 < 2 ^ 4000) (hB : B1 < 2 ^ 4000) (hB0 : B1 ≠ 0) (hl2 : l2.length ≤ 1000000) (hT2 : sumN (fun _ => 1) l2 < 2 ^ 4000) (hB2 : B2 < 2 ^ 4000) (hB02 : B2 ≠ 0) :
    f_course_of [L, .list [.tuple [.int s1, .int t1, .int r1], .tuple [.int s2, .int t2, .int r2]]] = some (.list [tkD B1 l1 t1 r1, tkD B2 l2 t2 r2]) := by
  unfold f_course_of D_course_of
  generalize hS : PyData.list [.tuple [.int s1, .int t1, .int r1], .tuple [.int s2, .int t2, .int r2]] = S at h
  refine run_seq (ρ' := [.fz L, .fz S, .ow (.list []), .no, .no, .no, .no, .no, .no, .no]) (by simp) ?_
  obtain ⟨q7, q8, ct⟩ := course_turn B1 l1 t1 r1 s1 (.fz L) (.fz S) .no .no .no .no .no .no .no [] hl hT hB hB0 (by simp)
  obtain ⟨q7', q8', ct2⟩ := course_turn B2 l2 t2 r2 s2 (.fz L) (.fz S) (.fz (rowD B1 l1)) (.fz (.int s1)) (.fz (.int t1)) (.fz (.int r1)) q7 .no .no [tkD B1 l1 t1 r1] hl2 hT2 hB2 hB02 (by simp)
  have hf : sFor (iZp (dCall (lCons (vR 0) (lCons (vR 1) lNil)) f_rows_of) (vR 1)) gCo courseB [.fz L, .fz S, .ow (.list []), .no, .no, .no, .no, .no, .no, .no] = some (.nx [.fz L, .fz S, .ow (.list [tkD B1 l1 t1 r1, tkD B2 l2 t2 r2]), .fz (rowD B2 l2), .fz (.int s2), .fz (.int t2), .fz (.int r2), q7', .no, .no]) := by
    have hz : iZp (dCall (lCons (vR 0) (lCons (vR 1) lNil)) f_rows_of) (vR 1) [.fz L, .fz S, .ow (.list []), .no, .no, .no, .no, .no, .no, .no] = some [.tuple [rowD B1 l1, .tuple [.int s1, .int t1, .int r1]], .tuple [rowD B2 l2, .tuple [.int s2, .int t2, .int r2]]] := by
      simp only [iZp_s, dCall_s, lCons_s, lNil_s, vR_s, List.getElem?_cons_zero, List.getElem?_cons_succ, Option.bind_some, h]
      rw [← hS]
      rfl
    unfold sFor
    rw [hz]
    simp only [Option.bind_some, forL]
    rw [Option.bind_eq_some_iff] at ct ct2
    obtain ⟨ρ1, h1, h2⟩ := ct
    obtain ⟨ρ2, h3, h4⟩ := ct2
    rw [h1, Option.bind_some, h2]
    simp only [Option.bind_some, List.nil_append]
    have h3' : gCo (.tuple [rowD B2 l2, .tuple [.int s2, .int t2, .int r2]]) [.fz L, .fz S, .ow (.list [tkD B1 l1 t1 r1]), .fz (rowD B1 l1), .fz (.int s1), .fz (.int t1), .fz (.int r1), q7, .no, .no] = some ρ2 := h3
    unfold tkD at h3'
    rw [h3']
    simp only [Option.bind_some]
    rw [h4]
    rfl
  unfold courseB gCo at hf
  rw [sSeq_nx hf]
  simp
end Zx.k75
/-! P8: chances by stages, the mean, parting. -/
namespace Zx.k75
open PySem PySem.Spec L2 Zx
theorem W_ind (n b s m : Nat) (hm : m ≤ s) : (rs (s + 1) fun k => C b k * C (n - b) (s - k) * ind (fun k => decide ((k : Int) ≤ (m : Int))) k) = W n b s m := by
  rw [rs_tail (k := m + 1) (n := s + 1) (by omega) fun i h1 h2 => by
    have : ¬ ((i : Int) ≤ (m : Int)) := by omega
    simp [ind, this]]
  unfold W
  refine rs_congr fun i hi => ?_
  have : (i : Int) ≤ (m : Int) := by omega
  simp [ind, this]
theorem rs_all (n b s : Nat) (hb : b ≤ n) : (rs (s + 1) fun k => C b k * C (n - b) (s - k) * 1) = C n s := by
  simp only [Nat.mul_one]
  have := vdm b (n - b) s
  rw [show b + (n - b) = n by omega] at this
  exact this
theorem p41 : (2 : Nat) ^ 41 ≤ 2 ^ 4000 := Nat.pow_le_pow_right (by decide) (by decide)
theorem p82 : (2 : Nat) ^ 82 ≤ 2 ^ 4000 := Nat.pow_le_pow_right (by decide) (by decide)
theorem Sq0 : Sq 0 := by
  unfold Sq
  constructor
  · exact Nat.two_pow_pos _
  · exact Nat.one_lt_two_pow (by decide)
theorem total1 (q : Rat) (h : Sq q) : f_total [.list [frD q]] = some (frD q) := by
  have := total_eq [q] (fun n => by
    cases n with
    | zero => exact Sq0
    | succ n => simpa [Rat.add_zero] using h) (by simpa using h)
  rw [e_total]
  simpa [Rat.add_zero] using this
theorem total2 (q : Rat) (h : Sq q) : f_total [.list [frD 0, frD q]] = some (frD q) := by
  have := total_eq [0, q] (fun n => by
    match n with
    | 0 => exact Sq0
    | 1 => simpa [Rat.add_zero] using Sq0
    | n + 2 => simpa [Rat.add_zero, Rat.zero_add] using h) (by simp [Sq0, h])
  rw [e_total]
  simpa [Rat.add_zero, Rat.zero_add] using this
theorem by_one (n b s m : Nat) (r : Int) (hn : n ≤ 40) (hb : b ≤ n) (hs : s ≤ n) (hm : m ≤ s) : f_chance_by [lotD n b, .list [stD s m r]] = some (frD (ch n b s m)) := by
  obtain ⟨now, h1, h2, h3, h4⟩ := rows_one n b s m r hn hb hs
  have hC := C_lt_pow (n := n) (s := s) hn
  have hC0 := C_pos hs
  have ht : sumN (fun _ => 1) now = C n s := by rw [h4, rs_all n b s hb]
  have h41 := p41
  have hc := course_one (lotD n b) (C n s) now s m r h1 (by omega) (by omega) (by omega) (by omega)
  have e : ((sumN (ind fun k => decide ((k : Int) ≤ (m : Int))) now : Nat) : Rat) / ((C n s : Nat) : Rat) = ch n b s m := by
    rw [h4, W_ind n b s m hm]
    rfl
  have hsm := ch_small n b s m hn hb hm hs
  unfold f_chance_by D_chance_by
  have hl : dLc (iSeq (dCall (lCons (vR 0) (lCons (vR 1) lNil)) f_course_of)) (gT (gsCons (gN 2) (gsCons (gN 3) gsNil)) 2) bYes (vR 2) [2, 3] [.fz (lotD n b), .fz (.list [stD s m r]), .no, .no] = some (.list [frD (ch n b s m)]) := by
    refine dLc_of (ds := [tkD (C n s) now m r]) (by simp [hc]) ?_ (by simp)
    unfold tkD
    rw [e]
    simp [lcL, wipeE]
  simp [hl, total1 _ hsm]
theorem by_two (n b f s2 m : Nat) (r1 r2 : Int) (hn : n ≤ 40) (hb : b ≤ n) (hf : 1 ≤ f) (hs : f + s2 ≤ n) (hm : m ≤ f + s2) (hr1 : r1 = f + (f + s2 : Nat)) : f_chance_by [lotD n b, .list [stD f (-1) r1, stD s2 m r2]] = some (frD (ch n b (f + s2) m)) := by
  obtain ⟨now1, now2, h1, a1, a2, a3, c1, c2, c3⟩ := rows_two n b f s2 m r2 hn hb hs hf r1 hr1
  have hC := C_lt_pow (n := n) (s := f) hn
  have hC0 := C_pos (show f ≤ n by omega)
  have hD := C_lt_pow (n := n - f) (s := s2) (by omega)
  have hD0 := C_pos (show s2 ≤ n - f by omega)
  have hE := C_lt_pow (n := f + s2) (s := f) (by omega)
  have ht1 : sumN (fun _ => 1) now1 = C n f := by rw [a3, rs_all n b f hb]
  have ht2 : sumN (fun _ => 1) now2 = C (f + s2) f * C n (f + s2) := by rw [c3, rs_all n b (f + s2) hb]
  have h41 := p41
  have h82 := p82
  have hB2 : C n f * C (n - f) s2 < 2 ^ 4000 := Nat.lt_of_lt_of_le (pow_mul_lt hC hD) p82
  have hF := C_lt_pow (n := n) (s := f + s2) hn
  have hT2 : C (f + s2) f * C n (f + s2) < 2 ^ 4000 := Nat.lt_of_lt_of_le (pow_mul_lt hE hF) p82
  have hc := course_two (lotD n b) (C n f) (C n f * C (n - f) s2) now1 now2 f (-1) r1 s2 m r2 h1 (by omega) (by omega) (by omega) (by omega) (by omega) (by rw [ht2]; exact hT2) hB2 (Nat.mul_ne_zero (by omega) (by omega))
  have e1 : ((sumN (ind fun k => decide ((k : Int) ≤ (-1 : Int))) now1 : Nat) : Rat) / ((C n f : Nat) : Rat) = 0 := by
    have : sumN (ind fun k => decide ((k : Int) ≤ (-1 : Int))) now1 = 0 := by
      rw [a3]
      refine rs_zeros fun i hi => ?_
      have : ¬ ((i : Int) ≤ -1) := by omega
      simp [ind, this]
    rw [this]
    have z : ((0 : Nat) : Rat) = 0 := rfl
    grind
  have e2 : ((sumN (ind fun k => decide ((k : Int) ≤ (m : Int))) now2 : Nat) : Rat) / ((C n f * C (n - f) s2 : Nat) : Rat) = ch n b (f + s2) m := by
    rw [c3, W_ind n b (f + s2) m hm]
    have t := C_tri n (f + s2) f (by omega)
    rw [show f + s2 - f = s2 by omega] at t
    rw [← t]
    unfold ch
    have n1 := nz (n := n) (s := f + s2) hs
    have n2 := nz (n := f + s2) (s := f) (by omega)
    rw [Rat.natCast_mul, Rat.natCast_mul]
    grind
  have hsm := ch_small n b (f + s2) m hn hb hm hs
  unfold f_chance_by D_chance_by
  have hl : dLc (iSeq (dCall (lCons (vR 0) (lCons (vR 1) lNil)) f_course_of)) (gT (gsCons (gN 2) (gsCons (gN 3) gsNil)) 2) bYes (vR 2) [2, 3] [.fz (lotD n b), .fz (.list [stD f (-1) r1, stD s2 m r2]), .no, .no] = some (.list [frD 0, frD (ch n b (f + s2) m)]) := by
    refine dLc_of (ds := [tkD (C n f) now1 (-1) r1, tkD (C n f * C (n - f) s2) now2 m r2]) (by simp [hc]) ?_ (by simp)
    unfold tkD
    rw [e1, e2]
    simp [lcL, wipeE]
  simp [hl, total2 _ hsm]
/-! ### checks -/
theorem eqD_int (a b : Int) : eqD (.int a) (.int b) = some (decide (a = b)) := rfl
theorem neD_int (a b : Int) : neD (.int a) (.int b) = some (!decide (a = b)) := rfl
theorem check_one (n s m : Nat) (h1 : 1 ≤ n) (hn : n ≤ 40) (hs1 : 1 ≤ s) (hs : s ≤ n) : f_check_stages [.int n, .list [stD s m ((m : Int) + 1)]] = some .none := by
  unfold f_check_stages D_check_stages
  have a1 : ¬ ((s : Int) < 1) := by omega
  have a2 : ¬ ((n : Int) < s) := by omega
  have a3 : ¬ ((m : Int) < -1) := by omega
  have a4 : ¬ ((m : Int) + 1 ≤ m) := by omega
  simp [check_size_eq n h1 hn, enumL, forL, sFor, List.range_succ, a1, a2, a3, a4, eqD_int, neD_int]
theorem check_two (n f s2 m : Nat) (h1 : 1 ≤ n) (hn : n ≤ 40) (hf : 1 ≤ f) (hs2 : 1 ≤ s2) (hs : f + s2 ≤ n) (r1 : Int) (hr1 : r1 = f + (f + s2 : Nat)) : f_check_stages [.int n, .list [stD f (-1) r1, stD s2 m ((m : Int) + 1)]] = some .none := by
  unfold f_check_stages D_check_stages
  have a1 : ¬ ((f : Int) < 1) := by omega
  have a2 : ¬ ((n : Int) < f) := by omega
  have a4 : ¬ (r1 ≤ -1) := by omega
  have b1 : ¬ ((s2 : Int) < 1) := by omega
  have b2 : ¬ ((n : Int) < (f : Int) + s2) := by omega
  have b3 : ¬ ((m : Int) < -1) := by omega
  have b4 : ¬ ((m : Int) + 1 ≤ m) := by omega
  simp [check_size_eq n h1 hn, enumL, forL, sFor, List.range_succ, a1, a2, a4, b1, b2, b3, b4, eqD_int, neD_int]
end Zx.k75
/-! P9: the mean number, parting, the one plan. -/
namespace Zx.k75
open PySem PySem.Spec L2 Zx
theorem fr_nat (s : Nat) : PyData.tuple [.int s, .int 1] = frD ((s : Nat) : Rat) := rfl
theorem Sq_nat (s : Nat) (h : s < 2 ^ 4000) : Sq ((s : Nat) : Rat) := by
  unfold Sq
  constructor
  · simpa using h
  · exact Nat.one_lt_two_pow (by decide)
theorem p10 : (1000 : Nat) ≤ 2 ^ 4000 := Nat.le_trans (show 1000 ≤ 2 ^ 10 by decide) (Nat.pow_le_pow_right (by decide) (by decide))
noncomputable abbrev meanB : DenS := (sSet 2 (dCall (lCons (vR 2) (lCons (dCall (lCons (mkT (lCons (vR 4) (lCons (kD (.int 1)) lNil))) (lCons (dCall (lCons (dLc (iSeq (d1 sortItD (vR 3))) (gT (gsCons (gN 5) (gsCons (gN 6) gsNil)) 2) bYes (vR 6) [5, 6]) lNil) f_total) lNil)) f_times) lNil)) f_plus))
abbrev gMe : DenG := gT (gsCons (gN 3) (gsCons (gT (gsCons (gN 4) (gsCons (gN 5) (gsCons (gN 5) gsNil))) 3) gsNil)) 2
theorem mean_turn (B : Nat) (l : Row) (s c : Nat) (t r : Int) (s0 s1 s3 s4 s5 s6 : Slot) (hl : l.length ≤ 1000000) (hT : sumN (fun _ => 1) l = B) (hB : B < 2 ^ 4000) (hB0 : B ≠ 0) (hs : s < 500) (hc : c < 500) :
    (gMe (.tuple [rowD B l, .tuple [.int s, .int t, .int r]]) [s0, s1, .fz (frD ((c : Nat) : Rat)), s3, s4, s5, s6]).bind meanB = some (.nx [s0, s1, .fz (frD ((c + s : Nat) : Rat)), .fz (rowD B l), .fz (.int s), .fz (.int r), s6]) := by
  have c1 := comp_row B l (fun _ => true) 5 6 3 bYes [s0, s1, .fz (frD ((c : Nat) : Rat)), .fz (rowD B l), .fz (.int s), .fz (.int r), s6] hl rfl (by omega) hB hB0 (fun p hp => ⟨_, by simp [wipeE, itm]; rfl, rfl, by simp⟩)
  have e : ((sumN (ind fun _ => true) l : Nat) : Rat) / ((B : Nat) : Rat) = ((1 : Nat) : Rat) := by
    have e0 : sumN (ind fun _ => true) l = B := by rw [← hT]; rfl
    rw [e0]
    have : ((B : Nat) : Rat) > 0 := Rat.natCast_pos.mpr (by omega)
    have z : ((1 : Nat) : Rat) = 1 := rfl
    grind
  rw [e] at c1
  have h10 := p10
  have t1 := times_eq ((s : Nat) : Rat) ((1 : Nat) : Rat) (Sq_nat s (by omega)) (Sq_nat 1 (by omega))
  have e2 : ((s : Nat) : Rat) * ((1 : Nat) : Rat) = ((s : Nat) : Rat) := by
    have z : ((1 : Nat) : Rat) = 1 := rfl
    grind
  rw [e2] at t1
  have p1 := plus_eq ((c : Nat) : Rat) ((s : Nat) : Rat) (Sq_nat c (by omega)) (Sq_nat s (by omega))
  rw [← Rat.natCast_add] at p1
  simp only [gT_s, gsCons_s, gsNil_s, gN_s, List.length_cons, List.length_nil, Nat.zero_add, Nat.reduceAdd, if_true, Option.bind_some, List.set_cons_zero, List.set_cons_succ]
  unfold meanB
  rw [sSet_s]
  simp only [dCall_s, lCons_s, lNil_s] at c1
  simp only [dCall_s, lCons_s, lNil_s, vR_s, mkT_s, kD_s, List.getElem?_cons_zero, List.getElem?_cons_succ, Option.bind_some, List.length_cons, List.length_nil, Nat.zero_add, Nat.reduceAdd, Nat.reduceLeDiff, if_true] at c1 ⊢
  rw [c1]
  simp only [Option.bind_some, fr_nat, e_times, t1, e_plus, p1, List.set_cons_zero, List.set_cons_succ]
theorem mean_eq (n b f s2 m : Nat) (r1 : Int) (h1 : 1 ≤ n) (hn : n ≤ 40) (hb : b ≤ n) (hf : 1 ≤ f) (hs2 : 1 ≤ s2) (hs : f + s2 ≤ n) (hr1 : r1 = f + (f + s2 : Nat)) : f_mean [lotD n b, .list [stD f (-1) r1, stD s2 m ((m : Int) + 1)]] = some (frD ((f + s2 : Nat) : Rat)) := by
  obtain ⟨now1, now2, hr, a1, a2, a3, c1, c2, c3⟩ := rows_two n b f s2 m ((m : Int) + 1) hn hb hs hf r1 hr1
  have hC := C_lt_pow (n := n) (s := f) hn
  have hC0 := C_pos (show f ≤ n by omega)
  have hD := C_lt_pow (n := n - f) (s := s2) (by omega)
  have hD0 := C_pos (show s2 ≤ n - f by omega)
  have ht1 : sumN (fun _ => 1) now1 = C n f := by rw [a3, rs_all n b f hb]
  have ht2 : sumN (fun _ => 1) now2 = C n f * C (n - f) s2 := by
    rw [c3, rs_all n b (f + s2) hb]
    have t := C_tri n (f + s2) f (by omega)
    rw [show f + s2 - f = s2 by omega] at t
    rw [← t, Nat.mul_comm]
  have h41 := p41
  have hB2 : C n f * C (n - f) s2 < 2 ^ 4000 := Nat.lt_of_lt_of_le (pow_mul_lt hC hD) p82
  have ck := check_two n f s2 m h1 hn hf hs2 hs r1 hr1
  have cl := check_lot_eq n b h1 hn hb
  generalize hS : PyData.list [stD f (-1) r1, stD s2 m ((m : Int) + 1)] = S at hr ck
  have ca : f_check_all [lotD n b, S] = some .none := by
    unfold f_check_all D_check_all
    simp [cl, ck]
  have mt1 := mean_turn (C n f) now1 f 0 (-1) r1 (.fz (lotD n b)) (.fz S) .no .no .no .no (by omega) ht1 (by omega) (by omega) (by omega) (by omega)
  have mt2 := mean_turn (C n f * C (n - f) s2) now2 s2 (0 + f) m ((m : Int) + 1) (.fz (lotD n b)) (.fz S) (.fz (rowD (C n f) now1)) (.fz (.int f)) (.fz (.int r1)) .no (by omega) ht2 hB2 (Nat.mul_ne_zero (by omega) (by omega)) (by omega) (by omega)
  unfold f_mean D_mean
  refine run_seq (ρ' := [.fz (lotD n b), .fz S, .no, .no, .no, .no, .no]) (by simp [ca]) ?_
  rw [sSeq_nx (ρ' := [.fz (lotD n b), .fz S, .fz (frD ((0 : Nat) : Rat)), .no, .no, .no, .no]) (by simp; rfl)]
  have hf' : sFor (iZp (dCall (lCons (vR 0) (lCons (vR 1) lNil)) f_rows_of) (vR 1)) gMe meanB [.fz (lotD n b), .fz S, .fz (frD ((0 : Nat) : Rat)), .no, .no, .no, .no] = some (.nx [.fz (lotD n b), .fz S, .fz (frD ((0 + f + s2 : Nat) : Rat)), .fz (rowD (C n f * C (n - f) s2) now2), .fz (.int s2), .fz (.int ((m : Int) + 1)), .no]) := by
    have hz : iZp (dCall (lCons (vR 0) (lCons (vR 1) lNil)) f_rows_of) (vR 1) [.fz (lotD n b), .fz S, .fz (frD ((0 : Nat) : Rat)), .no, .no, .no, .no] = some [.tuple [rowD (C n f) now1, stD f (-1) r1], .tuple [rowD (C n f * C (n - f) s2) now2, stD s2 m ((m : Int) + 1)]] := by
      simp only [iZp_s, dCall_s, lCons_s, lNil_s, vR_s, List.getElem?_cons_zero, List.getElem?_cons_succ, Option.bind_some, hr]
      rw [← hS]
      rfl
    unfold sFor
    rw [hz]
    simp only [Option.bind_some, forL]
    rw [Option.bind_eq_some_iff] at mt1 mt2
    obtain ⟨ρ1, h1, h2⟩ := mt1
    obtain ⟨ρ2, h3, h4⟩ := mt2
    rw [h1, Option.bind_some, h2]
    simp only [Option.bind_some]
    rw [h3, Option.bind_some, h4]
    rfl
  unfold meanB gMe at hf'
  rw [sSeq_nx hf']
  simp
/-! ### parting -/
theorem parting_eq (n f s2 m : Nat) (r1 : Int) (h1 : 1 ≤ n) (hn : n ≤ 40) (hf : 1 ≤ f) (hs2 : 1 ≤ s2) (hs : f + s2 ≤ n) (hm : m ≤ f + s2) (hr1 : r1 = f + (f + s2 : Nat)) :
    f_parting [.int n, .list [stD f (-1) r1, stD s2 m ((m : Int) + 1)], .list [.tuple [.int ((f + s2 : Nat) : Int), .int m, .int ((m : Int) + 1)]]] = some .none := by
  have k1 := check_two n f s2 m h1 hn hf hs2 hs r1 hr1
  have k2 := check_one n (f + s2) m h1 hn (by omega) hs
  have w1 := fun b (hb : b ≤ n) => by_two n b f s2 m r1 ((m : Int) + 1) hn hb hf hs hm hr1
  have w2 := fun b (hb : b ≤ n) => by_one n b (f + s2) m ((m : Int) + 1) hn hb hs hm
  generalize PyData.list [stD f (-1) r1, stD s2 m ((m : Int) + 1)] = S at k1 w1 ⊢
  generalize PyData.list [stD (f + s2) m ((m : Int) + 1)] = S2 at k2 w2 ⊢
  unfold f_parting D_parting
  refine run_seq (ρ' := [.fz (.int n), .fz S, .fz S2, .no]) (by simp [k1]) ?_
  rw [sSeq_nx (ρ' := [.fz (.int n), .fz S, .fz S2, .no]) (by simp [k2])]
  obtain ⟨ρ', g1, g2⟩ := sFor_ok (fi := iR1 (d2 addD (vR 0) (kD (.int 1)))) (g := gN 3) (fb := sIf (b2 neD (dCall (lCons (mkT (lCons (vR 0) (lCons (vR 3) lNil))) (lCons (vR 1) lNil)) f_chance_by) (dCall (lCons (mkT (lCons (vR 0) (lCons (vR 3) lNil))) (lCons (vR 2) lNil)) f_chance_by)) (sRet (vR 3)) sNx)
    (ρ := [.fz (.int n), .fz S, .fz S2, .no]) (ds := rgL 0 (n + 1)) (fun j ρ => ∃ s, ρ = [.fz (.int n), .fz S, .fz S2, s])
    (by
      simp
      have := rg1_ok (n := (n : Int) + 1) (by omega) (by omega)
      rw [this, show ((n : Int) + 1).toNat = n + 1 by omega]) ⟨.no, rfl⟩ (fun j d ρ hd ⟨s, hp⟩ => by
      obtain ⟨hj, rfl⟩ := rgL_at hd
      subst hp
      have c1 := w1 j (by omega)
      have c2 := w2 j (by omega)
      refine ⟨_, _, rfl, by
        rw [sIf_f (by simp [c1, c2, neD_fr])]
        rfl, _, .inl rfl, .fz (.int (0 + j)), rfl⟩)
  obtain ⟨s, rfl⟩ := g2
  rw [sSeq_nx g1]
  simp
end Zx.k75
/-! P10: the one plan, the law. -/
namespace Zx.k75
open PySem PySem.Spec L2 Zx
theorem forL_ret {g : DenG} {fb : DenS} {r : D} (P : Env → Prop) : ∀ (ds : List D) (i : Nat) (d : D) (ρ : Env), ds[i]? = some d → P ρ →
    (∀ j e ρ, j < i → ds[j]? = some e → P ρ → ∃ ρ1 ρ2, g e ρ = some ρ1 ∧ fb ρ1 = some (.nx ρ2) ∧ P ρ2) → (∀ ρ, P ρ → ∃ ρ1, g d ρ = some ρ1 ∧ fb ρ1 = some (.rt r)) → forL g fb ds ρ = some (.rt r)
  | [], i, d, ρ, h, _, _, _ => by simp at h
  | e :: ds, 0, d, ρ, h, hp, _, hr => by
    simp at h
    subst h
    obtain ⟨ρ1, h1, h2⟩ := hr ρ hp
    simp only [forL, h1, h2, Option.bind_some]
  | e :: ds, i + 1, d, ρ, h, hp, hs, hr => by
    obtain ⟨ρ1, ρ2, h1, h2, h3⟩ := hs 0 e ρ (by omega) rfl hp
    simp only [forL, h1, h2, Option.bind_some]
    exact forL_ret P ds i d ρ2 (by simpa using h) h3 (fun j e' τ hj he ht => hs (j + 1) e' τ (by omega) (by simpa using he) ht) hr
theorem enumL_map (n : Nat) (f : Nat → D) : enumL ((List.range n).map f) = (List.range n).map fun i => .tuple [.int (i : Nat), f i] := by
  unfold enumL
  refine List.ext_getElem? fun i => ?_
  rw [List.getElem?_zipWith, List.getElem?_map]
  by_cases hi : i < n
  · simp [hi]
  · simp [hi]
/-- which of the plans has these chances -/
def agr (n b0 s m s' m' : Nat) : Bool := (List.range (n + 1)).all fun b => decide (ch n b s' m' = ch n b s m)
theorem agr_self (n s m : Nat) : agr n 0 s m s m = true := by
  unfold agr
  simp
theorem W_less (n s m : Nat) (hm : m < s) (hs : s ≤ n) : W n (m + 1) s m + C (n - (m + 1)) (s - (m + 1)) = C n s := by
  have h := W_full n (m + 1) s (by omega)
  have h2 := W_min n (m + 1) s s
  rw [h, Nat.min_eq_right (by omega)] at h2
  rw [h2]
  unfold W
  rw [rs_succ (m + 1)]
  simp
theorem W_most (n s m b : Nat) (hb : b ≤ m) (hbs : b ≤ s) (hbn : b ≤ n) : W n b s m = C n s := by
  rw [W_min, Nat.min_eq_right hb]
  have h2 := W_min n b s s
  rw [Nat.min_eq_right hbs, W_full n b s hbn] at h2
  exact h2.symm
theorem uniq (n s m s' m' : Nat) (hs : s ≤ n) (hm : m < s) (hs' : s' ≤ n) (hm' : m' < s') (h : ∀ b, b ≤ n → ch n b s' m' = ch n b s m) : s' = s ∧ m' = m := by
  have cross : ∀ b, b ≤ n → W n b s' m' * C n s = W n b s m * C n s' := fun b hb => by
    have h1 := h b hb
    unfold ch at h1
    have n1 := nz hs
    have n2 := nz hs'
    have h2 : ((W n b s' m' : Nat) : Rat) * ((C n s : Nat) : Rat) = ((W n b s m : Nat) : Rat) * ((C n s' : Nat) : Rat) := by grind
    rw [← Rat.natCast_mul, ← Rat.natCast_mul] at h2
    exact Rat.natCast_inj.mp h2
  have p := C_pos hs
  have p' := C_pos hs'
  have l := W_less n s m hm hs
  have l' := W_less n s' m' hm' hs'
  have px := C_pos (n := n - (m + 1)) (k := s - (m + 1)) (by omega)
  have px' := C_pos (n := n - (m' + 1)) (k := s' - (m' + 1)) (by omega)
  have em : m' = m := by
    rcases Nat.lt_trichotomy m m' with hlt | heq | hgt
    · have c := cross (m + 1) (by omega)
      rw [W_most n s' m' (m + 1) (by omega) (by omega) (by omega), Nat.mul_comm] at c
      have := Nat.eq_of_mul_eq_mul_right p' c
      omega
    · exact heq.symm
    · have c := cross (m' + 1) (by omega)
      rw [W_most n s m (m' + 1) (by omega) (by omega) (by omega), Nat.mul_comm (C n s)] at c
      have := Nat.eq_of_mul_eq_mul_right p c
      omega
  subst em
  refine ⟨?_, rfl⟩
  have c := cross (m' + 1) (by omega)
  have t := C_tri n s (m' + 1) (by omega)
  have t' := C_tri n s' (m' + 1) (by omega)
  have hX : C (n - (m' + 1)) (s' - (m' + 1)) * C n s = C (n - (m' + 1)) (s - (m' + 1)) * C n s' := by
    generalize C (n - (m' + 1)) (s' - (m' + 1)) = X' at *
    generalize C (n - (m' + 1)) (s - (m' + 1)) = X at *
    generalize W n (m' + 1) s m' = w at *
    generalize W n (m' + 1) s' m' = w' at *
    rw [← l, ← l'] at c ⊢
    grind
  have e : C s' (m' + 1) = C s (m' + 1) := by
    have hp : 0 < C n s * C n s' := Nat.mul_pos p p'
    refine Nat.eq_of_mul_eq_mul_right hp ?_
    calc C s' (m' + 1) * (C n s * C n s') = (C n s' * C s' (m' + 1)) * C n s := by simp only [Nat.mul_assoc, Nat.mul_comm, Nat.mul_left_comm]
      _ = C n (m' + 1) * (C (n - (m' + 1)) (s' - (m' + 1)) * C n s) := by rw [t', Nat.mul_assoc]
      _ = C n (m' + 1) * (C (n - (m' + 1)) (s - (m' + 1)) * C n s') := by rw [hX]
      _ = (C n s * C s (m' + 1)) * C n s' := by rw [t, Nat.mul_assoc]
      _ = C s (m' + 1) * (C n s * C n s') := by simp only [Nat.mul_assoc, Nat.mul_comm, Nat.mul_left_comm]
  rcases Nat.lt_trichotomy s s' with hlt | heq | hgt
  · have := C_lt (j := m' + 1) (by omega) (by omega) hlt
    omega
  · exact heq.symm
  · have := C_lt (j := m' + 1) (by omega) (by omega) hgt
    omega
theorem agr_uniq (n s m s' m' : Nat) (hs : s ≤ n) (hm : m < s) (hs' : s' ≤ n) (hm' : m' < s') (h : agr n 0 s m s' m' = true) : s' = s ∧ m' = m := by
  refine uniq n s m s' m' hs hm hs' hm' fun b hb => ?_
  unfold agr at h
  rw [List.all_eq_true] at h
  exact of_decide_eq_true (h b (List.mem_range.mpr (by omega)))
noncomputable abbrev testS : DenB := (b1 truD (d1 allD (dLc (iEn (vR 2)) (gT (gsCons (gN 5) (gsCons (gN 6) gsNil)) 2) bYes (bV (b2 eqD (dCall (lCons (mkT (lCons (vR 0) (lCons (vR 5) lNil))) (lCons (mkT (lCons (vR 3) (lCons (vR 4) lNil))) lNil)) f_chance_of) (vR 6))) [5, 6])))
def dueD (n s m : Nat) : D := .list ((List.range (n + 1)).map fun b => frD (ch n b s m))
theorem test_eq (n s m s' m' : Nat) (S : D) (t5 t6 : Slot) (hn : n ≤ 40) (hs' : s' ≤ n) (hm' : m' ≤ s') : testS [.fz (.int n), .fz S, .fz (dueD n s m), .fz (.int s'), .fz (.int m'), t5, t6] = some (agr n 0 s m s' m') := by
  have hd : dLc (iEn (vR 2)) (gT (gsCons (gN 5) (gsCons (gN 6) gsNil)) 2) bYes (bV (b2 eqD (dCall (lCons (mkT (lCons (vR 0) (lCons (vR 5) lNil))) (lCons (mkT (lCons (vR 3) (lCons (vR 4) lNil))) lNil)) f_chance_of) (vR 6))) [5, 6]
      [.fz (.int n), .fz S, .fz (dueD n s m), .fz (.int s'), .fz (.int m'), t5, t6] = some (.list (((List.range (n + 1)).map fun b => decide (ch n b s' m' = ch n b s m)).map .bool)) := by
    refine dLc_of (ds := (List.range (n + 1)).map fun i => .tuple [.int (i : Nat), frD (ch n i s m)]) (by
      simp only [iEn_s, vR_s, List.getElem?_cons_zero, List.getElem?_cons_succ, Option.bind_some, dueD]
      rw [enumL_map]) ?_ (by simp; omega)
    have gen : ∀ k, k ≤ n + 1 → lcL (gT (gsCons (gN 5) (gsCons (gN 6) gsNil)) 2) bYes (bV (b2 eqD (dCall (lCons (mkT (lCons (vR 0) (lCons (vR 5) lNil))) (lCons (mkT (lCons (vR 3) (lCons (vR 4) lNil))) lNil)) f_chance_of) (vR 6)))
        (wipeE [.fz (.int n), .fz S, .fz (dueD n s m), .fz (.int s'), .fz (.int m'), t5, t6] [5, 6]) (((List.range (n + 1)).drop k).map fun i => .tuple [.int (i : Nat), frD (ch n i s m)]) = some (((List.range (n + 1)).drop k).map fun b => .bool (decide (ch n b s' m' = ch n b s m))) := by
      intro k hk
      generalize hl : (List.range (n + 1)).drop k = l
      have hmem : ∀ b ∈ l, b ≤ n := fun b hb => by
        rw [← hl] at hb
        have := List.mem_of_mem_drop hb
        rw [List.mem_range] at this
        omega
      clear hl hk
      induction l with
      | nil => rfl
      | cons b l ih =>
        have ih' := ih fun x hx => hmem x (List.mem_cons_of_mem _ hx)
        have hb := hmem b List.mem_cons_self
        have c1 := chance_of_eq n b s' m' hn hb hm' hs'
        rw [List.map_cons, List.map_cons]
        have e1 : gT (gsCons (gN 5) (gsCons (gN 6) gsNil)) 2 (.tuple [.int (b : Nat), frD (ch n b s m)]) (wipeE [.fz (.int n), .fz S, .fz (dueD n s m), .fz (.int s'), .fz (.int m'), t5, t6] [5, 6]) =
          some [.fz (.int n), .fz S, .fz (dueD n s m), .fz (.int s'), .fz (.int m'), .fz (.int b), .fz (frD (ch n b s m))] := by simp [wipeE]
        have e2 : bV (b2 eqD (dCall (lCons (mkT (lCons (vR 0) (lCons (vR 5) lNil))) (lCons (mkT (lCons (vR 3) (lCons (vR 4) lNil))) lNil)) f_chance_of) (vR 6)) [.fz (.int n), .fz S, .fz (dueD n s m), .fz (.int s'), .fz (.int m'), .fz (.int b), .fz (frD (ch n b s m))] = some (.bool (decide (ch n b s' m' = ch n b s m))) := by
          simp [c1, eqD_fr]
        simp only [lcL, e1, e2, ih', Option.bind_some, bYes_s, if_true]
    have := gen 0 (by omega)
    rw [List.drop_zero] at this
    rw [this, List.map_map]
    rfl
  unfold testS
  simp only [b1_s, d1_s, hd, Option.bind_some, allD, bools_map, truD]
  unfold agr
  rw [List.all_map]
  rfl
theorem single_eq (n f s2 m : Nat) (r1 : Int) (h1 : 1 ≤ n) (hn : n ≤ 40) (hf : 1 ≤ f) (hs2 : 1 ≤ s2) (hs : f + s2 ≤ n) (hm : m < f + s2) (hr1 : r1 = f + (f + s2 : Nat)) :
    f_single [.int n, .list [stD f (-1) r1, stD s2 m ((m : Int) + 1)]] = some (.tuple [.int ((f + s2 : Nat) : Int), .int m]) := by
  have k1 := check_two n f s2 m h1 hn hf hs2 hs r1 hr1
  have w1 := fun b (hb : b ≤ n) => by_two n b f s2 m r1 ((m : Int) + 1) hn hb hf hs (by omega) hr1
  generalize PyData.list [stD f (-1) r1, stD s2 m ((m : Int) + 1)] = S at k1 w1 ⊢
  generalize hs0 : f + s2 = s at *
  unfold f_single D_single
  refine run_seq (ρ' := [.fz (.int n), .fz S, .no, .no, .no, .no, .no]) (by simp [k1]) ?_
  have hdue : dLc (iR1 (d2 addD (vR 0) (kD (.int 1)))) (gN 5) bYes (dCall (lCons (mkT (lCons (vR 0) (lCons (vR 5) lNil))) (lCons (vR 1) lNil)) f_chance_by) [5] [.fz (.int n), .fz S, .no, .no, .no, .no, .no] = some (dueD n s m) := by
    refine dLc_of (ds := rgL 0 (n + 1)) (by
      simp
      have := rg1_ok (n := (n : Int) + 1) (by omega) (by omega)
      rw [this, show ((n : Int) + 1).toNat = n + 1 by omega]) ?_ (by simp; omega)
    rw [lcL_all (fun d => match d with | .int i => frD (ch n i.toNat s m) | _ => .none) (rgL 0 (n + 1)) fun d hd => ?_]
    · unfold rgL
      rw [List.map_map]
      congr 1
      refine List.map_congr_left fun i hi => ?_
      simp
    · obtain ⟨j, hj⟩ := List.mem_iff_getElem?.mp hd
      obtain ⟨hj2, rfl⟩ := rgL_at hj
      refine ⟨_, rfl, ?_⟩
      have := w1 j (by omega)
      simp [this, wipeE]
  rw [sSeq_nx (ρ' := [.fz (.int n), .fz S, .fz (dueD n s m), .no, .no, .no, .no]) (by
    rw [sLcSet_s, hdue]
    rfl)]
  have inner : ∀ s', 1 ≤ s' → s' ≤ n → ∀ t4 t5 t6, ∃ o, sFor (iR1 (vR 3)) (gN 4) (sIf testS (sRet (mkT (lCons (vR 3) (lCons (vR 4) lNil)))) sNx) [.fz (.int n), .fz S, .fz (dueD n s m), .fz (.int (s' : Nat)), t4, t5, t6] = some o ∧
      if s' = s then o = .rt (.tuple [.int s, .int m]) else ∃ u4, o = .nx [.fz (.int n), .fz S, .fz (dueD n s m), .fz (.int (s' : Nat)), u4, t5, t6] := by
    intro s' hs1 hs'n t4 t5 t6
    have hfi : iR1 (vR 3) [.fz (.int n), .fz S, .fz (dueD n s m), .fz (.int (s' : Nat)), t4, t5, t6] = some (rgL 0 s') := by
      simp
      have := rg1_ok (n := (s' : Int)) (by omega) (by omega)
      rw [this]
      simp
    have tst : ∀ m', m' < s' → ∀ u5 u6, testS [.fz (.int n), .fz S, .fz (dueD n s m), .fz (.int (s' : Nat)), .fz (.int (0 + (m' : Nat))), u5, u6] = some (agr n 0 s m s' m') := fun m' hm' u5 u6 => by
      rw [Int.zero_add]
      exact test_eq n s m s' m' S u5 u6 hn hs'n (by omega)
    by_cases e : s' = s
    · subst e
      refine ⟨.rt (.tuple [.int s', .int m]), ?_, by simp⟩
      unfold sFor
      rw [hfi, Option.bind_some]
      refine forL_ret (fun ρ => ∃ u4, ρ = [.fz (.int n), .fz S, .fz (dueD n s' m), .fz (.int (s' : Nat)), u4, t5, t6]) _ m (.int (0 + (m : Nat))) _ (by
        unfold rgL
        rw [List.getElem?_map, List.getElem?_range (by omega)]
        rfl) ⟨t4, rfl⟩ (fun j d ρ hj hd ⟨u4, hρ⟩ => ?_) (fun ρ ⟨u4, hρ⟩ => ?_)
      · subst hρ
        obtain ⟨hj2, rfl⟩ := rgL_at hd
        have ha : agr n 0 s' m s' j = false := by
          rw [Bool.eq_false_iff]
          intro hz
          have := agr_uniq n s' m s' j hs hm hs'n hj2 hz
          omega
        refine ⟨_, _, rfl, by
          rw [sIf_f (by simp only [List.set_cons_zero, List.set_cons_succ]; rw [tst j hj2, ha])]
          rfl, .fz (.int (0 + j)), rfl⟩
      · subst hρ
        refine ⟨_, rfl, ?_⟩
        rw [sIf_t (by simp only [List.set_cons_zero, List.set_cons_succ]; rw [tst m hm, agr_self])]
        simp
    · obtain ⟨ρ', g1, g2⟩ := sFor_ok (fi := iR1 (vR 3)) (g := gN 4) (fb := sIf testS (sRet (mkT (lCons (vR 3) (lCons (vR 4) lNil)))) sNx) (ρ := [.fz (.int n), .fz S, .fz (dueD n s m), .fz (.int (s' : Nat)), t4, t5, t6]) (ds := rgL 0 s')
        (fun j ρ => ∃ u4, ρ = [.fz (.int n), .fz S, .fz (dueD n s m), .fz (.int (s' : Nat)), u4, t5, t6]) hfi ⟨t4, rfl⟩ (fun j d ρ hd ⟨u4, hρ⟩ => by
          subst hρ
          obtain ⟨hj2, rfl⟩ := rgL_at hd
          have ha : agr n 0 s m s' j = false := by
            rw [Bool.eq_false_iff]
            intro hz
            have := agr_uniq n s m s' j hs hm hs'n hj2 hz
            omega
          refine ⟨_, _, rfl, by
            rw [sIf_f (by simp only [List.set_cons_zero, List.set_cons_succ]; rw [tst j hj2, ha])]
            rfl, _, .inl rfl, .fz (.int (0 + j)), rfl⟩)
      obtain ⟨u4, rfl⟩ := g2
      exact ⟨_, g1, by rw [if_neg e]; exact ⟨u4, rfl⟩⟩
  have outer : sFor (iR2 (kD (.int 1)) (d2 addD (vR 0) (kD (.int 1)))) (gN 3) (sFor (iR1 (vR 3)) (gN 4) (sIf testS (sRet (mkT (lCons (vR 3) (lCons (vR 4) lNil)))) sNx)) [.fz (.int n), .fz S, .fz (dueD n s m), .no, .no, .no, .no] = some (.rt (.tuple [.int s, .int m])) := by
    have hfi : iR2 (kD (.int 1)) (d2 addD (vR 0) (kD (.int 1))) [.fz (.int n), .fz S, .fz (dueD n s m), .no, .no, .no, .no] = some (rgL 1 n) := by
      simp
      have := rg2_ok (m := 1) (n := (n : Int) + 1) (by omega) (by omega) (by omega) (by omega)
      rw [this]
      congr 2
      omega
    unfold sFor
    rw [hfi, Option.bind_some]
    refine forL_ret (fun ρ => ∃ u3 u4, ρ = [.fz (.int n), .fz S, .fz (dueD n s m), u3, u4, .no, .no]) _ (s - 1) (.int (s : Nat)) _ (by
      unfold rgL
      rw [List.getElem?_map, List.getElem?_range (by omega)]
      simp
      omega) ⟨.no, .no, rfl⟩ (fun j d ρ hj hd ⟨u3, u4, hρ⟩ => ?_) (fun ρ ⟨u3, u4, hρ⟩ => ?_)
    · subst hρ
      obtain ⟨hj2, rfl⟩ := rgL_at hd
      have ec : (1 : Int) + (j : Nat) = ((j + 1 : Nat) : Int) := by omega
      obtain ⟨o, h2, h3⟩ := inner (j + 1) (by omega) (by omega) u4 .no .no
      rw [if_neg (by omega)] at h3
      obtain ⟨v4, rfl⟩ := h3
      refine ⟨_, _, rfl, ?_, .fz (.int ((j + 1 : Nat) : Int)), v4, rfl⟩
      simp only [List.set_cons_zero, List.set_cons_succ]
      rw [ec]
      exact h2
    · subst hρ
      obtain ⟨o, h2, h3⟩ := inner s (by omega) hs u4 .no .no
      rw [if_pos rfl] at h3
      subst h3
      exact ⟨_, rfl, h2⟩
  unfold testS at outer
  rw [sSeq_rt outer]
end Zx.k75
/-! P11: the law. -/
namespace Zx.k75
open PySem PySem.Spec L2 Zx
noncomputable abbrev lawB : DenS := (sSeq (sSet 4 (dCall (lCons (vR 1) (lCons (d2 addD (kD (.int 10)) (d2 mulI (kD (.int 3)) (vR 3))) (lCons (d2 addD (vR 2) (kD (.int 1))) lNil))) f__law_mix))
   (sSeq (sSet 5 (d2 addD (kD (.int 1)) (dCall (lCons (vR 1) (lCons (d2 addD (kD (.int 11)) (d2 mulI (kD (.int 3)) (vR 3))) (lCons (vR 2) lNil))) f__law_mix)))
   (sSeq (sSet 6 (dCall (lCons (vR 1) (lCons (d2 addD (kD (.int 12)) (d2 mulI (kD (.int 3)) (vR 3))) (lCons (d2 addD (vR 5) (kD (.int 1))) lNil))) f__law_mix))
   (sSeq (sSet 7 (dCall (lCons (mkT (lCons (vR 2) (lCons (vR 4) lNil))) (lCons (mkT (lCons (vR 5) (lCons (vR 6) lNil))) lNil)) f_chance))
   (sSeq (sIf (bAnd (b2 ltI (vR 6) (vR 5)) (b2 neD (dCall (lCons (vR 7) (lCons (dCall (lCons (mkT (lCons (vR 2) (lCons (d2 subD (vR 2) (vR 4)) lNil))) (lCons (mkT (lCons (vR 5) (lCons (d2 subD (d2 subD (vR 5) (vR 6)) (kD (.int 1))) lNil))) lNil)) f_chance) lNil)) f__law_plus) (mkT (lCons (kD (.int 1)) (lCons (kD (.int 1)) lNil))))) (sRet (kD (.bool false))) sNx)
   (sSeq (sIf (bAnd (b2 gtI (vR 4) (kD (.int 0))) (b2 neD (dCall (lCons (mkT (lCons (vR 2) (lCons (vR 5) lNil))) (lCons (mkT (lCons (vR 4) (lCons (d2 minD2 (vR 6) (vR 4)) lNil))) lNil)) f_chance) (vR 7))) (sRet (kD (.bool false))) sNx)
   (sSeq (sIf (b2 neD (dCall (lCons (mkT (lCons (vR 2) (lCons (vR 4) lNil))) (lCons (mkT (lCons (vR 2) (lCons (d2 minD2 (vR 6) (vR 2)) lNil))) lNil)) f_chance) (mkT (lCons (d1 intD (bV (b2 leI (vR 4) (vR 6)))) (lCons (kD (.int 1)) lNil)))) (sRet (kD (.bool false))) sNx)
   (sIf (bAnd (b2 gtI (vR 5) (kD (.int 1))) (b2 ltI (vR 6) (vR 5))) (sSeq (sSet 8 (d2 addD (kD (.int 1)) (dCall (lCons (vR 1) (lCons (d2 addD (kD (.int 40)) (vR 3)) (lCons (d2 subD (vR 5) (kD (.int 1))) lNil))) f__law_mix)))
    (sSeq (sSet 9 (mkL (lCons (mkT (lCons (vR 8) (lCons (d1 negD (kD (.int 1))) (lCons (d2 addD (vR 8) (vR 5)) lNil)))) (lCons (mkT (lCons (d2 subD (vR 5) (vR 8)) (lCons (vR 6) (lCons (d2 addD (vR 6) (kD (.int 1))) lNil)))) lNil))))
    (sSeq (sIf (bAnd (b2 ltI (vR 2) (kD (.int 15))) (bOr (b1 notN (dCall (lCons (vR 2) (lCons (vR 9) (lCons (mkL (lCons (mkT (lCons (vR 5) (lCons (vR 6) (lCons (d2 addD (vR 6) (kD (.int 1))) lNil)))) lNil)) lNil))) f_parting)) (b2 neD (dCall (lCons (vR 2) (lCons (vR 9) lNil)) f_single) (mkT (lCons (vR 5) (lCons (vR 6) lNil)))))) (sRet (kD (.bool false))) sNx)
    (sIf (b2 neD (dCall (lCons (mkT (lCons (vR 2) (lCons (vR 4) lNil))) (lCons (vR 9) lNil)) f_mean) (mkT (lCons (vR 5) (lCons (kD (.int 1)) lNil)))) (sRet (kD (.bool false))) sNx)))) sNx))))))))
theorem pair_ne (a b c d : Int) : neD (.tuple [.int a, .int b]) (.tuple [.int c, .int d]) = some (!(decide (a = c) && (decide (b = d) && true))) := rfl
theorem fr1 : PyData.tuple [.int 1, .int 1] = frD 1 := rfl
theorem turn_ok (dr : List Int) (n j : Nat) (S : D) (t4 t5 t6 t7 t8 t9 : Slot) (hd : Dr 3780 dr) (h1 : 1 ≤ n) (hn : n ≤ 40) (hj : j < 5) :
    ∃ u4 u5 u6 u7 u8 u9, lawB [.fz S, .fz (.list (dr.map .int)), .fz (.int n), .fz (.int (0 + (j : Int))), t4, t5, t6, t7, t8, t9] = some (.nx [.fz S, .fz (.list (dr.map .int)), .fz (.int n), .fz (.int (0 + (j : Int))), u4, u5, u6, u7, u8, u9]) := by
  rw [Int.zero_add]
  have mk : mulOk 3 (j : Int) = true := mulOk64 (by decide) (by omega)
  obtain ⟨x4, m4, a4, b4⟩ := mix_ok hd (by decide) (10 + 3 * (j : Int)) ((n : Int) + 1) (by omega) (by omega) (by omega)
  obtain ⟨b, rfl⟩ := Int.eq_ofNat_of_zero_le a4
  obtain ⟨x5, m5, a5, b5⟩ := mix_ok hd (by decide) (11 + 3 * (j : Int)) (n : Int) (by omega) (by omega) (by omega)
  obtain ⟨s0, rfl⟩ := Int.eq_ofNat_of_zero_le a5
  have es : (1 : Int) + (s0 : Nat) = ((1 + s0 : Nat) : Int) := by omega
  generalize hs : 1 + s0 = s at es
  obtain ⟨x6, m6, a6, b6⟩ := mix_ok hd (by decide) (12 + 3 * (j : Int)) ((s : Int) + 1) (by omega) (by omega) (by omega)
  obtain ⟨m, rfl⟩ := Int.eq_ofNat_of_zero_le a6
  have hbn : b ≤ n := by omega
  have hsn : s ≤ n := by omega
  have hs1 : 1 ≤ s := by omega
  have hms : m ≤ s := by omega
  clear a4 b4 a5 b5 a6 b6
  have c1 := chance_eq n b s m h1 hn hbn hs1 hsn hms
  unfold lawB
  rw [sSeq_nx (ρ' := [.fz S, .fz (.list (dr.map .int)), .fz (.int n), .fz (.int j), .fz (.int b), t5, t6, t7, t8, t9]) (by simp [mk, e_mix, m4])]
  rw [sSeq_nx (ρ' := [.fz S, .fz (.list (dr.map .int)), .fz (.int n), .fz (.int j), .fz (.int b), .fz (.int s), t6, t7, t8, t9]) (by simp [mk, e_mix, m5, es])]
  rw [sSeq_nx (ρ' := [.fz S, .fz (.list (dr.map .int)), .fz (.int n), .fz (.int j), .fz (.int b), .fz (.int s), .fz (.int m), t7, t8, t9]) (by simp [mk, e_mix, m6])]
  rw [sSeq_nx (ρ' := [.fz S, .fz (.list (dr.map .int)), .fz (.int n), .fz (.int j), .fz (.int b), .fz (.int s), .fz (.int m), .fz (frD (ch n b s m)), t8, t9]) (by simp [c1])]
  rw [sSeq_nx (ρ' := [.fz S, .fz (.list (dr.map .int)), .fz (.int n), .fz (.int j), .fz (.int b), .fz (.int s), .fz (.int m), .fz (frD (ch n b s m)), t8, t9]) (by
    by_cases hm : m < s
    · have c2 := chance_eq n (n - b) s (s - m - 1) h1 hn (by omega) hs1 hsn (by omega)
      have e1 : (n : Int) - b = ((n - b : Nat) : Int) := by omega
      have e2 : (s : Int) - m - 1 = ((s - m - 1 : Nat) : Int) := by omega
      have p := lplus_eq _ _ (ch_small n b s m hn hbn hms hsn) (ch_small n (n - b) s (s - m - 1) hn (by omega) (by omega) hsn) (ch_nonneg _ _ _ _) (ch_nonneg _ _ _ _)
      rw [ch_turn n b s m hbn hm hsn] at p
      rw [sIf_f (by simp [hm, e1, e2, c2, p, fr1, neD_fr])]
      rfl
    · rw [sIf_f (by simp [hm])]
      rfl)]
  rw [sSeq_nx (ρ' := [.fz S, .fz (.list (dr.map .int)), .fz (.int n), .fz (.int j), .fz (.int b), .fz (.int s), .fz (.int m), .fz (frD (ch n b s m)), t8, t9]) (by
    by_cases hb0 : 0 < b
    · have c2 := chance_eq n s b (min m b) h1 hn hsn hb0 hbn (by omega)
      rw [ch_swap n b s m hms hbn hsn] at c2
      have e1 : (if (b : Int) < m then (b : Int) else (m : Int)) = ((min m b : Nat) : Int) := by split <;> omega
      rw [sIf_f (by
        simp only [bAnd_s, b2_s, gtI_s, vR_s, kD_s, dCall_s, lCons_s, lNil_s, mkT_s, d2_s, minD2_i, List.getElem?_cons_zero, List.getElem?_cons_succ, Option.bind_some, List.length_cons, List.length_nil, Nat.zero_add, Nat.reduceAdd, Nat.reduceLeDiff, if_true, e1, c2, neD_fr]
        simp [hb0])]
      rfl
    · rw [sIf_f (by simp [hb0])]
      rfl)]
  rw [sSeq_nx (ρ' := [.fz S, .fz (.list (dr.map .int)), .fz (.int n), .fz (.int j), .fz (.int b), .fz (.int s), .fz (.int m), .fz (frD (ch n b s m)), t8, t9]) (by
    have c2 := chance_eq n b n m h1 hn hbn h1 (Nat.le_refl n) (by omega)
    rw [ch_all n b m hbn (by omega)] at c2
    have e1 : (if (n : Int) < m then (n : Int) else (m : Int)) = (m : Int) := by split <;> omega
    rw [sIf_f (by
      simp only [bV_s, b2_s, leI_s, vR_s, kD_s, dCall_s, lCons_s, lNil_s, mkT_s, d1_s, d2_s, intD_b, minD2_i, List.getElem?_cons_zero, List.getElem?_cons_succ, Option.bind_some, List.length_cons, List.length_nil, Nat.zero_add, Nat.reduceAdd, Nat.reduceLeDiff, if_true, e1, c2]
      by_cases hbm : b ≤ m
      · have : (b : Int) ≤ m := by omega
        simp only [hbm, this, if_true, decide_true]
        rfl
      · have : ¬ ((b : Int) ≤ m) := by omega
        simp only [hbm, this, if_false, decide_false, Bool.false_eq_true]
        rfl)]
    rfl)]
  by_cases hc : 1 < s ∧ m < s
  · obtain ⟨hs2, hm⟩ := hc
    obtain ⟨x8, m8, a8, b8⟩ := mix_ok hd (by decide) (40 + (j : Int)) ((s : Int) - 1) (by omega) (by omega) (by omega)
    obtain ⟨f0, rfl⟩ := Int.eq_ofNat_of_zero_le a8
    have ef : (1 : Int) + (f0 : Nat) = ((1 + f0 : Nat) : Int) := by omega
    generalize hf : 1 + f0 = f at ef
    have hf1 : 1 ≤ f := by omega
    have hfs : f < s := by omega
    clear a8 b8
    have esf : f + (s - f) = s := by omega
    have hr1 : (f : Int) + s = f + (f + (s - f) : Nat) := by omega
    have me := mean_eq n b f (s - f) m ((f : Int) + s) h1 hn hbn hf1 (by omega) (by omega) hr1
    have pa := parting_eq n f (s - f) m ((f : Int) + s) h1 hn hf1 (by omega) (by omega) (by omega) hr1
    have si := single_eq n f (s - f) m ((f : Int) + s) h1 hn hf1 (by omega) (by omega) (by omega) hr1
    rw [esf] at me pa si
    have es2 : (s : Int) - f = ((s - f : Nat) : Int) := by omega
    rw [sIf_t (by
      have : (1 : Int) < s := by omega
      simp [this, hm])]
    rw [sSeq_nx (ρ' := [.fz S, .fz (.list (dr.map .int)), .fz (.int n), .fz (.int j), .fz (.int b), .fz (.int s), .fz (.int m), .fz (frD (ch n b s m)), .fz (.int f), t9]) (by simp [e_mix, m8, ef])]
    have st : sSet 9 (mkL (lCons (mkT (lCons (vR 8) (lCons (d1 negD (kD (.int 1))) (lCons (d2 addD (vR 8) (vR 5)) lNil)))) (lCons (mkT (lCons (d2 subD (vR 5) (vR 8)) (lCons (vR 6) (lCons (d2 addD (vR 6) (kD (.int 1))) lNil)))) lNil)))
        [.fz S, .fz (.list (dr.map .int)), .fz (.int n), .fz (.int j), .fz (.int b), .fz (.int s), .fz (.int m), .fz (frD (ch n b s m)), .fz (.int f), t9] =
        some (.nx [.fz S, .fz (.list (dr.map .int)), .fz (.int n), .fz (.int j), .fz (.int b), .fz (.int s), .fz (.int m), .fz (frD (ch n b s m)), .fz (.int f), .fz (.list [stD f (-1) ((f : Int) + s), stD (s - f) m ((m : Int) + 1)])]) := by
      simp [es2]
    rw [sSeq_nx st]
    generalize PyData.list [stD f (-1) ((f : Int) + s), stD (s - f) m ((m : Int) + 1)] = ST at me pa si ⊢
    rw [sSeq_nx (ρ' := [.fz S, .fz (.list (dr.map .int)), .fz (.int n), .fz (.int j), .fz (.int b), .fz (.int s), .fz (.int m), .fz (frD (ch n b s m)), .fz (.int f), .fz ST]) (by
      rw [sIf_f (by simp [pa, si, notN, pair_ne])]
      rfl)]
    refine ⟨.fz (.int b), .fz (.int s), .fz (.int m), .fz (frD (ch n b s m)), .fz (.int f), .fz ST, ?_⟩
    rw [sIf_f (by simp [me, fr_nat, neD_fr])]
    rfl
  · refine ⟨.fz (.int b), .fz (.int s), .fz (.int m), .fz (frD (ch n b s m)), t8, t9, ?_⟩
    rw [sIf_f (by
      by_cases h2 : 1 < s
      · have : ¬ m < s := fun h => hc ⟨h2, h⟩
        have h3 : (1 : Int) < s := by omega
        simp [this]
      · have h3 : ¬ ((1 : Int) < s) := by omega
        simp [h3])]
    rfl
theorem W_none (n : Nat) (h1 : 1 ≤ n) : W n 0 1 0 = n ∧ W n n 1 0 = 0 := by
  unfold W rs
  have : C (n - n) 1 = 0 := by rw [Nat.sub_self]; rfl
  have h2 : ∀ k, C k 1 = k := fun k => by
    induction k with
    | zero => rfl
    | succ k ih =>
      rw [C_succ]
      simp [ih]
      omega
  simp [this, h2]
theorem law_true (ns : List Int) (h : ns.length ≤ 63) : f_law [scrD ns] = some (.bool true) := by
  obtain ⟨dr, hdr, hd⟩ := draws_ok ns h
  obtain ⟨x2, m2, a2, b2'⟩ := mix_ok hd (by decide) 0 40 (by omega) (by omega) (by omega)
  obtain ⟨n0, rfl⟩ := Int.eq_ofNat_of_zero_le a2
  have en : (1 : Int) + (n0 : Nat) = ((1 + n0 : Nat) : Int) := by omega
  generalize hn : 1 + n0 = n at en
  have h1 : 1 ≤ n := by omega
  have hn40 : n ≤ 40 := by omega
  unfold f_law D_law
  generalize hS : scrD ns = S at *
  refine run_seq (ρ' := [.fz S, .fz (.list (dr.map .int)), .no, .no, .no, .no, .no, .no, .no, .no]) (by simp [e_draws, hdr]) ?_
  rw [sSeq_nx (ρ' := [.fz S, .fz (.list (dr.map .int)), .fz (.int n), .no, .no, .no, .no, .no, .no, .no]) (by simp [e_mix, m2, en])]
  obtain ⟨ρ', g1, g2⟩ := sFor_ok (fi := iR1 (kD (.int 5))) (g := gN 3) (fb := lawB) (ρ := [.fz S, .fz (.list (dr.map .int)), .fz (.int n), .no, .no, .no, .no, .no, .no, .no]) (ds := rgL 0 5)
    (fun j ρ => ∃ t3 t4 t5 t6 t7 t8 t9, ρ = [.fz S, .fz (.list (dr.map .int)), .fz (.int n), t3, t4, t5, t6, t7, t8, t9]) (by simp [rg1]) ⟨.no, .no, .no, .no, .no, .no, .no, rfl⟩ (fun j d ρ hdj ⟨t3, t4, t5, t6, t7, t8, t9, hρ⟩ => by
      subst hρ
      obtain ⟨hj, rfl⟩ := rgL_at hdj
      obtain ⟨u4, u5, u6, u7, u8, u9, hu⟩ := turn_ok dr n j S t4 t5 t6 t7 t8 t9 hd h1 hn40 hj
      exact ⟨_, _, rfl, hu, _, .inl rfl, _, u4, u5, u6, u7, u8, u9, rfl⟩)
  obtain ⟨t3, t4, t5, t6, t7, t8, t9, rfl⟩ := g2
  unfold lawB at g1
  rw [sSeq_nx g1]
  have w1 := waysc_eq n 0 1 0 h1 hn40 (by omega) (by omega) h1 (by omega)
  have w2 := waysc_eq n n 1 0 h1 hn40 (by omega) (by omega) h1 (by omega)
  obtain ⟨z1, z2⟩ := W_none n h1
  rw [z1] at w1
  rw [z2] at w2
  have w1' : f_ways [lotD n 0, .tuple [.int 1, .int 0]] = some (.int n) := w1
  have w2' : f_ways [lotD n n, .tuple [.int 1, .int 0]] = some (.int 0) := w2
  have l0 : lotD n 0 = .tuple [.int n, .int 0] := rfl
  rw [l0] at w1'
  simp [w1', w2', eqD_int, dAnd]
end Zx.k75
namespace Zx.k75
open PySem PySem.Spec PyProof.Rows L2 Zx
/-! ### the head -/
def d__law_draws : He.DefD := ⟨("_law_draws", none), "_law_draws", "_law_draws", defArgs (topOf PR 36), defBody (topOf PR 36), defScope (topOf PR 36), [], []⟩
def d__law_mix : He.DefD := ⟨("_law_mix", none), "_law_mix", "_law_mix", defArgs (topOf PR 37), defBody (topOf PR 37), defScope (topOf PR 37), [], []⟩
def d_check_size : He.DefD := ⟨("check_size", none), "check_size", "check_size", defArgs (topOf PR 16), defBody (topOf PR 16), defScope (topOf PR 16), [], []⟩
def d_check_lot : He.DefD := ⟨("check_lot", none), "check_lot", "check_lot", defArgs (topOf PR 17), defBody (topOf PR 17), defScope (topOf PR 17), [], []⟩
def d_check_plan : He.DefD := ⟨("check_plan", none), "check_plan", "check_plan", defArgs (topOf PR 18), defBody (topOf PR 18), defScope (topOf PR 18), [], []⟩
def d_check_both : He.DefD := ⟨("check_both", none), "check_both", "check_both", defArgs (topOf PR 19), defBody (topOf PR 19), defScope (topOf PR 19), [], []⟩
def d_fraction : He.DefD := ⟨("fraction", none), "fraction", "fraction", defArgs (topOf PR 9), defBody (topOf PR 9), defScope (topOf PR 9), [], []⟩
def d_choose : He.DefD := ⟨("choose", none), "choose", "choose", defArgs (topOf PR 15), defBody (topOf PR 15), defScope (topOf PR 15), [], []⟩
def d_sets_with : He.DefD := ⟨("sets_with", none), "sets_with", "sets_with", defArgs (topOf PR 20), defBody (topOf PR 20), defScope (topOf PR 20), [], []⟩
def d_ways_of : He.DefD := ⟨("ways_of", none), "ways_of", "ways_of", defArgs (topOf PR 21), defBody (topOf PR 21), defScope (topOf PR 21), [], []⟩
def d_chance_of : He.DefD := ⟨("chance_of", none), "chance_of", "chance_of", defArgs (topOf PR 23), defBody (topOf PR 23), defScope (topOf PR 23), [], []⟩
def d_chance : He.DefD := ⟨("chance", none), "chance", "chance", defArgs (topOf PR 24), defBody (topOf PR 24), defScope (topOf PR 24), [], []⟩
def d_ways : He.DefD := ⟨("ways", none), "ways", "ways", defArgs (topOf PR 22), defBody (topOf PR 22), defScope (topOf PR 22), [], []⟩
def d__law_gcd : He.DefD := ⟨("_law_gcd", none), "_law_gcd", "_law_gcd", defArgs (topOf PR 38), defBody (topOf PR 38), defScope (topOf PR 38), [], []⟩
def d__law_low : He.DefD := ⟨("_law_low", none), "_law_low", "_law_low", defArgs (topOf PR 39), defBody (topOf PR 39), defScope (topOf PR 39), [], []⟩
def d__law_plus : He.DefD := ⟨("_law_plus", none), "_law_plus", "_law_plus", defArgs (topOf PR 40), defBody (topOf PR 40), defScope (topOf PR 40), [], []⟩
def d_check_stages : He.DefD := ⟨("check_stages", none), "check_stages", "check_stages", defArgs (topOf PR 27), defBody (topOf PR 27), defScope (topOf PR 27), [], []⟩
def d_check_all : He.DefD := ⟨("check_all", none), "check_all", "check_all", defArgs (topOf PR 28), defBody (topOf PR 28), defScope (topOf PR 28), [], []⟩
def d_times : He.DefD := ⟨("times", none), "times", "times", defArgs (topOf PR 11), defBody (topOf PR 11), defScope (topOf PR 11), [], []⟩
def d_plus : He.DefD := ⟨("plus", none), "plus", "plus", defArgs (topOf PR 10), defBody (topOf PR 10), defScope (topOf PR 10), [], []⟩
def d_rows_of : He.DefD := ⟨("rows_of", none), "rows_of", "rows_of", defArgs (topOf PR 29), defBody (topOf PR 29), defScope (topOf PR 29), [], []⟩
def d_total : He.DefD := ⟨("total", none), "total", "total", defArgs (topOf PR 12), defBody (topOf PR 12), defScope (topOf PR 12), [], []⟩
def d_mean : He.DefD := ⟨("mean", none), "mean", "mean", defArgs (topOf PR 32), defBody (topOf PR 32), defScope (topOf PR 32), [], []⟩
def d_course_of : He.DefD := ⟨("course_of", none), "course_of", "course_of", defArgs (topOf PR 30), defBody (topOf PR 30), defScope (topOf PR 30), [], []⟩
def d_chance_by : He.DefD := ⟨("chance_by", none), "chance_by", "chance_by", defArgs (topOf PR 31), defBody (topOf PR 31), defScope (topOf PR 31), [], []⟩
def d_parting : He.DefD := ⟨("parting", none), "parting", "parting", defArgs (topOf PR 33), defBody (topOf PR 33), defScope (topOf PR 33), [], []⟩
def d_single : He.DefD := ⟨("single", none), "single", "single", defArgs (topOf PR 34), defBody (topOf PR 34), defScope (topOf PR 34), [], []⟩
def d_law : He.DefD := ⟨("law", none), "law", "law", defArgs (topOf PR 45), defBody (topOf PR 45), defScope (topOf PR 45), [], []⟩
def fn : List He.DefD := [d__law_draws, d__law_mix, d_check_size, d_check_lot, d_check_plan, d_check_both, d_fraction, d_choose, d_sets_with, d_ways_of, d_chance_of, d_chance, d_ways, d__law_gcd, d__law_low, d__law_plus, d_check_stages, d_check_all, d_times, d_plus, d_rows_of, d_total, d_mean, d_course_of, d_chance_by, d_parting, d_single, d_law]
def fa : List He.Fa := [.glo "_law_draws", .glo "_law_mix", .glo "check_size", .glo "check_lot", .glo "check_plan", .glo "check_both", .glo "fraction", .glo "choose", .glo "sets_with", .glo "ways_of", .glo "chance_of", .glo "chance", .glo "ways", .glo "_law_gcd", .glo "_law_low", .glo "_law_plus", .glo "check_stages", .glo "check_all", .glo "times", .glo "plus", .glo "rows_of", .glo "total", .glo "mean", .glo "course_of", .glo "chance_by", .glo "parting", .glo "single", .glo "law", .free "abs", .free "all", .free "enumerate", .free "int", .free "len", .free "min", .free "range", .free "sorted", .free "sum", .free "zip", .int "MOST_SIZE" (100), .int "MOST_STAGES" (4)]
def loose : List PySem.Str := (["__name__", "WareError", "OutOfRange", "WrongSize", "BadCount", "BadPlan", "BadStage", "fraction", "plus", "times", "total", "MOST_SIZE", "choose", "check_size", "check_lot", "check_plan", "check_both", "sets_with", "ways_of", "ways", "chance_of", "chance", "MOST_STAGES", "check_stages", "check_all", "rows_of", "course_of", "chance_by", "mean", "parting"] : List PySem.Str) ++ (["single", "_law_draws", "_law_mix", "_law_gcd", "_law_low", "_law_plus", "_law_times", "_law_less", "_law_minus", "_law_over"] : List PySem.Str)
abbrev R : PySem.W.OpenRow := PySem.W.OpenLaw.row PySem.Challenge.rw_triedwares_k75_whole_lots_turned_about
def ex (K : PySem.W.Frag) : Bool := He.eqO (PySem.W.nsIn K mainGlobals "gcd") (some (some (.builtin "math.gcd")))
abbrev hk : PySem.W.Hook := He.hookX 4 fa fn [] [] ex
def ob (s : PySem.W.SharedT) : He.AlX := He.obsX 4 fa fn [] [] ex (HandSHeadRun.getT s)
theorem ob_eq (s : PySem.W.SharedT) : ob s = hk.obs s.abs := He.obsX_eq (HandSHeadRun.getT_eq s)
theorem run (w : World) : HandSHeadRun.RunEqI R (PySem.W.view R.prog [0, 45]) hk ob 6000 loose w := by
  unfold HandSHeadRun.RunEqI
  kernel_rfl
theorem facts {w : World} {K : PySem.W.Frag} {mg : Str → Option Value} {h : Heap} {f : Addr} (X : K.In h) (G : h.Ns mainGlobals mg) (hfa : mg ("law" : Str) = some (.ref f)) (c : He.SaysD fa fn K) (hgcd : ex K = true) :
    ∃ fd : FuncData, (∀ (s : Shared) (v : Value), BindsTo s fd ⟨[v], []⟩ [("script", v)]) ∧ ∀ base : Heap, K.In base → base.Ns mainGlobals mg → FnOk PR w K mg base CX0 7 f fd ["script"] (spX K 1 f_law) := by
  obtain ⟨fd__law_draws, F__law_draws⟩ := c.def_ 0 (d := d__law_draws) rfl
  have m__law_draws := He.glo_ok X G (c.fact 0 (f := .glo "_law_draws") rfl)
  obtain ⟨fd__law_mix, F__law_mix⟩ := c.def_ 1 (d := d__law_mix) rfl
  have m__law_mix := He.glo_ok X G (c.fact 1 (f := .glo "_law_mix") rfl)
  obtain ⟨fd_check_size, F_check_size⟩ := c.def_ 2 (d := d_check_size) rfl
  have m_check_size := He.glo_ok X G (c.fact 2 (f := .glo "check_size") rfl)
  obtain ⟨fd_check_lot, F_check_lot⟩ := c.def_ 3 (d := d_check_lot) rfl
  have m_check_lot := He.glo_ok X G (c.fact 3 (f := .glo "check_lot") rfl)
  obtain ⟨fd_check_plan, F_check_plan⟩ := c.def_ 4 (d := d_check_plan) rfl
  have m_check_plan := He.glo_ok X G (c.fact 4 (f := .glo "check_plan") rfl)
  obtain ⟨fd_check_both, F_check_both⟩ := c.def_ 5 (d := d_check_both) rfl
  have m_check_both := He.glo_ok X G (c.fact 5 (f := .glo "check_both") rfl)
  obtain ⟨fd_fraction, F_fraction⟩ := c.def_ 6 (d := d_fraction) rfl
  have m_fraction := He.glo_ok X G (c.fact 6 (f := .glo "fraction") rfl)
  obtain ⟨fd_choose, F_choose⟩ := c.def_ 7 (d := d_choose) rfl
  have m_choose := He.glo_ok X G (c.fact 7 (f := .glo "choose") rfl)
  obtain ⟨fd_sets_with, F_sets_with⟩ := c.def_ 8 (d := d_sets_with) rfl
  have m_sets_with := He.glo_ok X G (c.fact 8 (f := .glo "sets_with") rfl)
  obtain ⟨fd_ways_of, F_ways_of⟩ := c.def_ 9 (d := d_ways_of) rfl
  have m_ways_of := He.glo_ok X G (c.fact 9 (f := .glo "ways_of") rfl)
  obtain ⟨fd_chance_of, F_chance_of⟩ := c.def_ 10 (d := d_chance_of) rfl
  have m_chance_of := He.glo_ok X G (c.fact 10 (f := .glo "chance_of") rfl)
  obtain ⟨fd_chance, F_chance⟩ := c.def_ 11 (d := d_chance) rfl
  have m_chance := He.glo_ok X G (c.fact 11 (f := .glo "chance") rfl)
  obtain ⟨fd_ways, F_ways⟩ := c.def_ 12 (d := d_ways) rfl
  have m_ways := He.glo_ok X G (c.fact 12 (f := .glo "ways") rfl)
  obtain ⟨fd__law_gcd, F__law_gcd⟩ := c.def_ 13 (d := d__law_gcd) rfl
  have m__law_gcd := He.glo_ok X G (c.fact 13 (f := .glo "_law_gcd") rfl)
  obtain ⟨fd__law_low, F__law_low⟩ := c.def_ 14 (d := d__law_low) rfl
  have m__law_low := He.glo_ok X G (c.fact 14 (f := .glo "_law_low") rfl)
  obtain ⟨fd__law_plus, F__law_plus⟩ := c.def_ 15 (d := d__law_plus) rfl
  have m__law_plus := He.glo_ok X G (c.fact 15 (f := .glo "_law_plus") rfl)
  obtain ⟨fd_check_stages, F_check_stages⟩ := c.def_ 16 (d := d_check_stages) rfl
  have m_check_stages := He.glo_ok X G (c.fact 16 (f := .glo "check_stages") rfl)
  obtain ⟨fd_check_all, F_check_all⟩ := c.def_ 17 (d := d_check_all) rfl
  have m_check_all := He.glo_ok X G (c.fact 17 (f := .glo "check_all") rfl)
  obtain ⟨fd_times, F_times⟩ := c.def_ 18 (d := d_times) rfl
  have m_times := He.glo_ok X G (c.fact 18 (f := .glo "times") rfl)
  obtain ⟨fd_plus, F_plus⟩ := c.def_ 19 (d := d_plus) rfl
  have m_plus := He.glo_ok X G (c.fact 19 (f := .glo "plus") rfl)
  obtain ⟨fd_rows_of, F_rows_of⟩ := c.def_ 20 (d := d_rows_of) rfl
  have m_rows_of := He.glo_ok X G (c.fact 20 (f := .glo "rows_of") rfl)
  obtain ⟨fd_total, F_total⟩ := c.def_ 21 (d := d_total) rfl
  have m_total := He.glo_ok X G (c.fact 21 (f := .glo "total") rfl)
  obtain ⟨fd_mean, F_mean⟩ := c.def_ 22 (d := d_mean) rfl
  have m_mean := He.glo_ok X G (c.fact 22 (f := .glo "mean") rfl)
  obtain ⟨fd_course_of, F_course_of⟩ := c.def_ 23 (d := d_course_of) rfl
  have m_course_of := He.glo_ok X G (c.fact 23 (f := .glo "course_of") rfl)
  obtain ⟨fd_chance_by, F_chance_by⟩ := c.def_ 24 (d := d_chance_by) rfl
  have m_chance_by := He.glo_ok X G (c.fact 24 (f := .glo "chance_by") rfl)
  obtain ⟨fd_parting, F_parting⟩ := c.def_ 25 (d := d_parting) rfl
  have m_parting := He.glo_ok X G (c.fact 25 (f := .glo "parting") rfl)
  obtain ⟨fd_single, F_single⟩ := c.def_ 26 (d := d_single) rfl
  have m_single := He.glo_ok X G (c.fact 26 (f := .glo "single") rfl)
  obtain ⟨fd_law, F_law⟩ := c.def_ 27 (d := d_law) rfl
  have h_abs := He.free_ok X G (c.fact 28 (f := .free "abs") rfl)
  have h_all := He.free_ok X G (c.fact 29 (f := .free "all") rfl)
  have h_enumerate := He.free_ok X G (c.fact 30 (f := .free "enumerate") rfl)
  have h_int := He.free_ok X G (c.fact 31 (f := .free "int") rfl)
  have h_len := He.free_ok X G (c.fact 32 (f := .free "len") rfl)
  have h_min := He.free_ok X G (c.fact 33 (f := .free "min") rfl)
  have h_range := He.free_ok X G (c.fact 34 (f := .free "range") rfl)
  have h_sorted := He.free_ok X G (c.fact 35 (f := .free "sorted") rfl)
  have h_sum := He.free_ok X G (c.fact 36 (f := .free "sum") rfl)
  have h_zip := He.free_ok X G (c.fact 37 (f := .free "zip") rfl)
  obtain ⟨t_MOST_SIZE, h_MOST_SIZE⟩ := He.int_ok X G (c.fact 38 (f := .int "MOST_SIZE" (100)) rfl)
  obtain ⟨t_MOST_STAGES, h_MOST_STAGES⟩ := He.int_ok X G (c.fact 39 (f := .int "MOST_STAGES" (4)) rfl)
  have h_gcd : mg "gcd" = some (.builtin "math.gcd") := PySem.W.mg_of X G (He.eqO_ok hgcd)
  have e := hfa.symm.trans (He.glo_ok X G (c.fact 27 (f := .glo "law") rfl))
  cases e
  have bl := FunD.bindsA (ps := ["script"]) F_law fun _ _ _ _ _ _ us hl => match us, hl with | [_], _ => rfl
  refine ⟨fd_law, fun s v => bl s [v] rfl, fun base _ _ => ?_⟩
  have c__law_draws : FX PR w K mg base 1 "_law_draws" 1 f__law_draws := fx_of F__law_draws sc__law_draws m__law_draws (fun _ _ _ _ _ _ us hl => match us, hl with | [_], _ => rfl) rfl (b__law_draws h_abs h_int h_len h_min h_range)
  have c__law_mix : FX PR w K mg base 1 "_law_mix" 3 f__law_mix := fx_of F__law_mix sc__law_mix m__law_mix (fun _ _ _ _ _ _ us hl => match us, hl with | [_, _, _], _ => rfl) rfl (b__law_mix h_int h_len)
  have c_check_size : FX PR w K mg base 1 "check_size" 1 f_check_size := fx_of F_check_size sc_check_size m_check_size (fun _ _ _ _ _ _ us hl => match us, hl with | [_], _ => rfl) rfl (b_check_size h_MOST_SIZE)
  have c_check_lot : FX PR w K mg base 2 "check_lot" 1 f_check_lot := fx_of F_check_lot sc_check_lot m_check_lot (fun _ _ _ _ _ _ us hl => match us, hl with | [_], _ => rfl) rfl (b_check_lot (c_check_size.mono (by decide)))
  have c_check_plan : FX PR w K mg base 1 "check_plan" 2 f_check_plan := fx_of F_check_plan sc_check_plan m_check_plan (fun _ _ _ _ _ _ us hl => match us, hl with | [_, _], _ => rfl) rfl (b_check_plan )
  have c_check_both : FX PR w K mg base 3 "check_both" 2 f_check_both := fx_of F_check_both sc_check_both m_check_both (fun _ _ _ _ _ _ us hl => match us, hl with | [_, _], _ => rfl) rfl (b_check_both (c_check_lot.mono (by decide)) (c_check_plan.mono (by decide)))
  have c_fraction : FX PR w K mg base 1 "fraction" 2 f_fraction := fx_of F_fraction sc_fraction m_fraction (fun _ _ _ _ _ _ us hl => match us, hl with | [_, _], _ => rfl) rfl (b_fraction h_gcd)
  have c_choose : FX PR w K mg base 1 "choose" 2 f_choose := fx_of F_choose sc_choose m_choose (fun _ _ _ _ _ _ us hl => match us, hl with | [_, _], _ => rfl) rfl (b_choose h_range)
  have c_sets_with : FX PR w K mg base 2 "sets_with" 3 f_sets_with := fx_of F_sets_with sc_sets_with m_sets_with (fun _ _ _ _ _ _ us hl => match us, hl with | [_, _, _], _ => rfl) rfl (b_sets_with (c_choose.mono (by decide)))
  have c_ways_of : FX PR w K mg base 3 "ways_of" 2 f_ways_of := fx_of F_ways_of sc_ways_of m_ways_of (fun _ _ _ _ _ _ us hl => match us, hl with | [_, _], _ => rfl) rfl (b_ways_of h_range h_sum (c_sets_with.mono (by decide)))
  have c_chance_of : FX PR w K mg base 4 "chance_of" 2 f_chance_of := fx_of F_chance_of sc_chance_of m_chance_of (fun _ _ _ _ _ _ us hl => match us, hl with | [_, _], _ => rfl) rfl (b_chance_of (c_choose.mono (by decide)) (c_fraction.mono (by decide)) (c_ways_of.mono (by decide)))
  have c_chance : FX PR w K mg base 5 "chance" 2 f_chance := fx_of F_chance sc_chance m_chance (fun _ _ _ _ _ _ us hl => match us, hl with | [_, _], _ => rfl) rfl (b_chance (c_chance_of.mono (by decide)) (c_check_both.mono (by decide)))
  have c_ways : FX PR w K mg base 4 "ways" 2 f_ways := fx_of F_ways sc_ways m_ways (fun _ _ _ _ _ _ us hl => match us, hl with | [_, _], _ => rfl) rfl (b_ways (c_check_both.mono (by decide)) (c_ways_of.mono (by decide)))
  have c__law_gcd : FX PR w K mg base 1 "_law_gcd" 2 f__law_gcd := fx_of F__law_gcd sc__law_gcd m__law_gcd (fun _ _ _ _ _ _ us hl => match us, hl with | [_, _], _ => rfl) rfl (b__law_gcd h_abs h_int)
  have c__law_low : FX PR w K mg base 2 "_law_low" 2 f__law_low := fx_of F__law_low sc__law_low m__law_low (fun _ _ _ _ _ _ us hl => match us, hl with | [_, _], _ => rfl) rfl (b__law_low h_int (c__law_gcd.mono (by decide)))
  have c__law_plus : FX PR w K mg base 3 "_law_plus" 2 f__law_plus := fx_of F__law_plus sc__law_plus m__law_plus (fun _ _ _ _ _ _ us hl => match us, hl with | [_, _], _ => rfl) rfl (b__law_plus (c__law_low.mono (by decide)))
  have c_check_stages : FX PR w K mg base 2 "check_stages" 2 f_check_stages := fx_of F_check_stages sc_check_stages m_check_stages (fun _ _ _ _ _ _ us hl => match us, hl with | [_, _], _ => rfl) rfl (b_check_stages h_enumerate h_len h_MOST_STAGES (c_check_size.mono (by decide)))
  have c_check_all : FX PR w K mg base 3 "check_all" 2 f_check_all := fx_of F_check_all sc_check_all m_check_all (fun _ _ _ _ _ _ us hl => match us, hl with | [_, _], _ => rfl) rfl (b_check_all (c_check_lot.mono (by decide)) (c_check_stages.mono (by decide)))
  have c_times : FX PR w K mg base 2 "times" 2 f_times := fx_of F_times sc_times m_times (fun _ _ _ _ _ _ us hl => match us, hl with | [_, _], _ => rfl) rfl (b_times (c_fraction.mono (by decide)))
  have c_plus : FX PR w K mg base 2 "plus" 2 f_plus := fx_of F_plus sc_plus m_plus (fun _ _ _ _ _ _ us hl => match us, hl with | [_, _], _ => rfl) rfl (b_plus (c_fraction.mono (by decide)))
  have c_rows_of : FX PR w K mg base 3 "rows_of" 2 f_rows_of := fx_of F_rows_of sc_rows_of m_rows_of (fun _ _ _ _ _ _ us hl => match us, hl with | [_, _], _ => rfl) rfl (b_rows_of h_min h_range h_sorted (c_choose.mono (by decide)) (c_fraction.mono (by decide)) (c_plus.mono (by decide)) (c_times.mono (by decide)))
  have c_total : FX PR w K mg base 3 "total" 1 f_total := fx_of F_total sc_total m_total (fun _ _ _ _ _ _ us hl => match us, hl with | [_], _ => rfl) rfl (b_total (c_plus.mono (by decide)))
  have c_mean : FX PR w K mg base 4 "mean" 2 f_mean := fx_of F_mean sc_mean m_mean (fun _ _ _ _ _ _ us hl => match us, hl with | [_, _], _ => rfl) rfl (b_mean h_sorted h_zip (c_check_all.mono (by decide)) (c_plus.mono (by decide)) (c_rows_of.mono (by decide)) (c_times.mono (by decide)) (c_total.mono (by decide)))
  have c_course_of : FX PR w K mg base 4 "course_of" 2 f_course_of := fx_of F_course_of sc_course_of m_course_of (fun _ _ _ _ _ _ us hl => match us, hl with | [_, _], _ => rfl) rfl (b_course_of h_sorted h_zip (c_rows_of.mono (by decide)) (c_total.mono (by decide)))
  have c_chance_by : FX PR w K mg base 5 "chance_by" 2 f_chance_by := fx_of F_chance_by sc_chance_by m_chance_by (fun _ _ _ _ _ _ us hl => match us, hl with | [_, _], _ => rfl) rfl (b_chance_by (c_course_of.mono (by decide)) (c_total.mono (by decide)))
  have c_parting : FX PR w K mg base 6 "parting" 3 f_parting := fx_of F_parting sc_parting m_parting (fun _ _ _ _ _ _ us hl => match us, hl with | [_, _, _], _ => rfl) rfl (b_parting h_range (c_chance_by.mono (by decide)) (c_check_stages.mono (by decide)))
  have c_single : FX PR w K mg base 6 "single" 2 f_single := fx_of F_single sc_single m_single (fun _ _ _ _ _ _ us hl => match us, hl with | [_, _], _ => rfl) rfl (b_single h_all h_enumerate h_range (c_chance_by.mono (by decide)) (c_chance_of.mono (by decide)) (c_check_stages.mono (by decide)))
  exact fo_of F_law sc_law (fun _ _ _ _ _ _ us hl => match us, hl with | [_], _ => rfl) rfl (b_law h_int h_min h_range (c__law_draws.mono (by decide)) (c__law_mix.mono (by decide)) (c__law_plus.mono (by decide)) (c_chance.mono (by decide)) (c_mean.mono (by decide)) (c_parting.mono (by decide)) (c_single.mono (by decide)) (c_ways.mono (by decide)))
end Zx.k75
open PySem PySem.W PySem.Calls PyProof.Rows
theorem PySem.Challenge.cw_triedwares_k75_whole_lots_turned_about_holds : PySem.Challenge.rw_triedwares_k75_whole_lots_turned_about.Holds := by
  w_on; o_law
  refine HandSHeadRun.head_imp (r := OpenLaw.row PySem.Challenge.rw_triedwares_k75_whole_lots_turned_about) (q := view (OpenLaw.row PySem.Challenge.rw_triedwares_k75_whole_lots_turned_about).prog [0, 45]) (H := Zx.k75.hk) (ob := Zx.k75.ob) (M := 6000) (loose := Zx.k75.loose) (d := HandSHeadRun.topDef (OpenLaw.row PySem.Challenge.rw_triedwares_k75_whole_lots_turned_about).prog 45) (kwd := []) Zx.k75.ob_eq Zx.k75.run
    (by kernel_rfl) (by kernel_rfl) (by kernel_rfl) (by rfl) (by first | assumption | decide +kernel) (by decide +kernel) ⟨rfl, rfl, rfl, rfl, rfl, by decide +kernel⟩ ?hw ?hc
  case hw => w_witness2
  case hc =>
    refine L2.walk_ofE (l := PySem.Challenge.rw_triedwares_k75_whole_lots_turned_about) (n := 63) (k := 7) (x := "script") (CX := L2.CX0) rfl (by decide) (by kernel_rfl) ⟨rfl, by decide, by decide⟩ ?F (fun _ _ _ _ z => z)
    intro w mg fa h Y G hmg0
    obtain ⟨K, KX, c⟩ := Y
    have hmg : mg ("law" : PySem.Str) = some (.ref fa) := by
      have e : (HandSHeadRun.topDef (OpenLaw.row PySem.Challenge.rw_triedwares_k75_whole_lots_turned_about).prog 45).name = ("law" : PySem.Str) := by kernel_rfl
      rw [← e]
      exact hmg0
    obtain ⟨fd, hb, hF⟩ := Zx.k75.facts (w := w) KX G hmg c.t.d c.more
    refine ⟨K, fd, Zx.spX K 1 Zx.k75.f_law, KX, hb, fun H a ns hl _ hS => ?_, hF⟩
    exact ⟨H, [Zx.scrD ns], .bool true, Zx.Sub.refl H, .cons (.scr hS) .nil, rfl, Zx.k75.law_true ns hl, fun v F' H' x r => by cases r; rfl⟩
