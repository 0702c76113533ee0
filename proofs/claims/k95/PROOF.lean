import PyProof.Rows.All
import HandS.ForMost
import HandS.Wide
import HandS.Gcd
import HandS.Flow
import HandS.Style
import KE.DataCmp
import KE.DataEq
import KE.SortData
import KE.DataMinMax
import HandS.Lambda
import HandS.Star
import HandS.TupAny
import HandS.Deep
import HandS.NoneIn
import HandS.Conv
import HandS.Zip
import HandS.Iter
import HandS.Defaults
import HandS.DictTup
import HandS.SetFor
import HandS.Strs
import HandS.ListItems
import PyProof.Transfer
import HandS.DictComp
import HandS.Words
import KE.KDictSum
import PyProof.ReprRoads
import PyProof.ReprLen
import HandS.Ends
import HandS.HeadEnd
import HandS.TupLe
import HandS.TupMul
import HandS.EndTab
import KE.SortKeyHeap
import HandS.HeadHook4
import HandS.HeadWalk
import KE.DatumOrd
import PySem.Challenge.RW_triedwares_k95_whole_strong_tables_cover
import HandS.More
import HandS.WordsExc
import HandS.Head0
import HandS.Head1
import HandS.Head2
import HandS.Head3
import HandS.HeadHook1
import HandS.HeadHook2
import HandS.HeadHook3
set_option Elab.async false
set_option linter.all false
set_option maxRecDepth 100000
set_option maxHeartbeats 0
/-! Zx: denotations over PyData for the hand layer's judgements. -/
namespace Zx
open PySem PySem.Spec L2
abbrev D := PyData

/-! ### heaps -/
def Sub (F H : Hp) : Prop := ∀ a o, F a = some o → H a = some o
theorem Sub.refl (F : Hp) : Sub F F := fun _ _ h => h
theorem Sub.trans {F G H : Hp} (a : Sub F G) (b : Sub G H) : Sub F H := fun x o h => b x o (a x o h)
theorem Sub.rd {F H : Hp} (s : Sub F H) {a : Addr} {u : HO} (h : Rd F a u) : Rd H a u := by
  rcases h with h | ⟨o, h⟩
  · exact .inl (s _ _ h)
  · exact .inr ⟨o, s _ _ h⟩
theorem Sub.free {F H : Hp} (s : Sub F H) {a : Addr} (h : H a = none) : F a = none := by
  cases e : F a with
  | none => rfl
  | some o => rw [s a o e] at h; cases h
theorem Sub.new {H : Hp} {p : Addr} {o : HO} (h : H p = none) : Sub H (upd H p o) := fun a u e => by
  rw [upd_ne (ne_of_none e h)]
  exact e

/-- no table of code objects -/
def Nt (o : HO) : Prop := ∀ ps, o ≠ .tbl ps
theorem Nt.lst {xs : List V} : Nt (.lst xs) := fun _ z => nomatch z
theorem Nt.tup {xs : List V} : Nt (.tup xs) := fun _ z => nomatch z
/-- all of H but the tables stay in H'; nothing known is lost -/
structure Gr (H H' : Hp) : Prop where
  n : ∀ a o, H a = some o → Nt o → H' a = some o
  k : ∀ a, H' a = none → H a = none
theorem Gr.refl (H : Hp) : Gr H H := ⟨fun _ _ h _ => h, fun _ h => h⟩
theorem Gr.trans {F G H : Hp} (a : Gr F G) (b : Gr G H) : Gr F H := ⟨fun x o h n => b.n x o (a.n x o h n) n, fun x h => a.k x (b.k x h)⟩
theorem Gr.of {H H' : Hp} (s : Sub H H') : Gr H H' := ⟨fun a o h _ => s a o h, fun _ h => s.free h⟩
theorem Gr.free {H H' : Hp} (s : Gr H H') {a : Addr} (h : H' a = none) : H a = none := s.k a h
theorem Gr.new {H : Hp} {p : Addr} {o : HO} (h : H p = none) : Gr H (upd H p o) := .of (Sub.new h)
/-- the table of code objects that is tracked, and its lambda's name; a head's matter (none: no table) -/
class Marked where
  at_ : Option (Addr × Str)
instance (priority := low) noMark : Marked := ⟨none⟩
variable [Marked]
/-- the table at P is tracked, with the name q -/
def Mk (P : Addr) (q : Str) : Prop := Marked.at_ = some (P, q)
/-- what is frozen stands in the heap; the marked table is as told -/
structure Le (F H : Hp) : Prop where
  g : Gr F H
  m : ∀ P q, Mk P q → LamX.TabS H P q
theorem Le.n {F H : Hp} (s : Le F H) {a : Addr} {o : HO} (h : F a = some o) (n : Nt o) : H a = some o := s.g.n a o h n
theorem Le.free {F H : Hp} (s : Le F H) {a : Addr} (h : H a = none) : F a = none := s.g.k a h
theorem Gr.rd {F H : Hp} (s : Gr F H) {a : Addr} {u : HO} (h : Rd F a u) (n : Nt u) : Rd H a u := by
  rcases h with h | ⟨o, h⟩
  · exact .inl (s.n _ _ h n)
  · exact .inr ⟨o, s.n _ _ h fun _ z => nomatch z⟩
theorem Le.rd {F H : Hp} (s : Le F H) {a : Addr} {u : HO} (h : Rd F a u) (n : Nt u) : Rd H a u := s.g.rd h n
theorem Le.mono {F G H : Hp} (f : Sub F G) (s : Le G H) : Le F H := ⟨(Gr.of f).trans s.g, s.m⟩
theorem tabS_up {H : Hp} {p P : Addr} {o : HO} {q : Str} (hp : H p = none) (h : LamX.TabS H P q) : LamX.TabS (upd H p o) P q := h.ext fun b u e => Sub.new hp b u e
theorem Le.own {F H : Hp} (s : Le F H) {p : Addr} {o : HO} (hp : H p = none) : Le F (upd H p o) := ⟨s.g.trans (.new hp), fun P q h => tabS_up hp (s.m P q h)⟩
/-- a known object is frozen -/
theorem Le.put {F H : Hp} (s : Le F H) {p : Addr} {o : HO} (ho : H p = some o) (n : Nt o) : Le (upd F p o) H := by
  refine ⟨⟨fun a u e nu => ?_, fun a e => ?_⟩, fun P q h => s.m P q h⟩
  · by_cases h : a = p
    · subst h; rw [upd_same] at e; cases e; exact ho
    · rw [upd_ne h] at e; exact s.n e nu
  · rw [upd_ne (fun z => by rw [z, ho] at e; cases e)]
    exact s.free e
theorem Le.add {F H : Hp} (s : Le F H) {p : Addr} {o : HO} (hp : H p = none) (n : Nt o) : Le (upd F p o) (upd H p o) := (s.own hp).put upd_same n

/-! ### what a value stands for -/
def keyD : Key → D
  | .inl i => .int i
  | .inr x => .str x
/-- the script -/
def scrD (ns : List Int) : D := .dict [(.none, .list (ns.map .int))]
mutual
inductive Rp (K : PySem.W.Frag) (F : Hp) : D → V → Prop
  | non : Rp K F .none .non
  | bl (b : Bool) : Rp K F (.bool b) (.bl b)
  | int (i : Int) : Rp K F (.int i) (.int i)
  | str (x : Str) : Rp K F (.str x) (.str x)
  | lst {a : Addr} {xs : List V} {ds : List D} : F a = some (.lst xs) → RpL K F ds xs → Rp K F (.list ds) (.ref a)
  | tup {a : Addr} {xs : List V} {ds : List D} : F a = some (.tup xs) → RpL K F ds xs → Rp K F (.tuple ds) (.ref a)
  | dK {a : Addr} {kvs : List (Key × V)} {kds : List (D × D)} : Rd F a (.dK kvs) → RpK K F kds kvs → Rp K F (.dict kds) (.ref a)
  | dT {a : Addr} {kvs : List (List Key × V)} {kds : List (D × D)} : Rd F a (.dT kvs) → RpT K F kds kvs → Rp K F (.dict ((.bool true, .none) :: kds)) (.ref a)
  | scr {a : Addr} {ns : List Int} : SqL K F a (ns.map V.int) → Rp K F (scrD ns) (.ref a)
inductive RpL (K : PySem.W.Frag) (F : Hp) : List D → List V → Prop
  | nil : RpL K F [] []
  | cons {d : D} {ds : List D} {v : V} {vs : List V} : Rp K F d v → RpL K F ds vs → RpL K F (d :: ds) (v :: vs)
inductive RpK (K : PySem.W.Frag) (F : Hp) : List (D × D) → List (Key × V) → Prop
  | nil : RpK K F [] []
  | cons {k : Key} {d : D} {kds : List (D × D)} {v : V} {kvs : List (Key × V)} : Rp K F d v → RpK K F kds kvs → RpK K F ((keyD k, d) :: kds) ((k, v) :: kvs)
inductive RpT (K : PySem.W.Frag) (F : Hp) : List (D × D) → List (List Key × V) → Prop
  | nil : RpT K F [] []
  | cons {k : List Key} {d : D} {kds : List (D × D)} {v : V} {kvs : List (List Key × V)} : Rp K F d v → RpT K F kds kvs → RpT K F ((.tuple (k.map keyD), d) :: kds) ((k, v) :: kvs)
end
section
variable {K : PySem.W.Frag} {F G H : Hp}
mutual
theorem Rp.mono (s : Sub F G) : ∀ {d : D} {v : V}, Rp K F d v → Rp K G d v
  | _, _, .non => .non
  | _, _, .bl b => .bl b
  | _, _, .int i => .int i
  | _, _, .str x => .str x
  | _, _, .lst h t => .lst (s _ _ h) (RpL.mono s t)
  | _, _, .tup h t => .tup (s _ _ h) (RpL.mono s t)
  | _, _, .dK h t => .dK (s.rd h) (RpK.mono s t)
  | _, _, .dT h t => .dT (s.rd h) (RpT.mono s t)
  | _, _, .scr h => .scr (by
      rcases h with h | h
      · exact .inl (s.rd h)
      · exact .inr h)
theorem RpL.mono (s : Sub F G) : ∀ {ds : List D} {vs : List V}, RpL K F ds vs → RpL K G ds vs
  | _, _, .nil => .nil
  | _, _, .cons h t => .cons (Rp.mono s h) (RpL.mono s t)
theorem RpK.mono (s : Sub F G) : ∀ {ds : List (D × D)} {vs : List (Key × V)}, RpK K F ds vs → RpK K G ds vs
  | _, _, .nil => .nil
  | _, _, .cons h t => .cons (Rp.mono s h) (RpK.mono s t)
theorem RpT.mono (s : Sub F G) : ∀ {ds : List (D × D)} {vs : List (List Key × V)}, RpT K F ds vs → RpT K G ds vs
  | _, _, .nil => .nil
  | _, _, .cons h t => .cons (Rp.mono s h) (RpT.mono s t)
end
theorem RpL.length : ∀ {ds : List D} {vs : List V}, RpL K F ds vs → vs.length = ds.length
  | _, _, .nil => rfl
  | _, _, .cons _ t => by rw [List.length_cons, List.length_cons, RpL.length t]
theorem RpL.append : ∀ {ds es : List D} {vs us : List V}, RpL K F ds vs → RpL K F es us → RpL K F (ds ++ es) (vs ++ us)
  | _, _, _, _, .nil, s => s
  | _, _, _, _, .cons h t, s => .cons h (RpL.append t s)
theorem RpL.get : ∀ {ds : List D} {vs : List V} {i : Nat} {d : D}, RpL K F ds vs → ds[i]? = some d → ∃ v, vs[i]? = some v ∧ Rp K F d v
  | _, _, _, _, .nil, e => by simp at e
  | _, _, 0, _, .cons h _, e => by
    simp at e; subst e; exact ⟨_, rfl, h⟩
  | _, _, i + 1, d, .cons _ t, e => by
    obtain ⟨u, h1, h2⟩ := RpL.get (i := i) (d := d) t (by simpa using e)
    exact ⟨u, by simpa using h1, h2⟩
theorem RpL.getV : ∀ {ds : List D} {vs : List V} {i : Nat} {v : V}, RpL K F ds vs → vs[i]? = some v → ∃ d, ds[i]? = some d ∧ Rp K F d v
  | _, _, _, _, .nil, e => by simp at e
  | _, _, 0, _, .cons h _, e => by
    simp at e; subst e; exact ⟨_, rfl, h⟩
  | _, _, i + 1, d, .cons _ t, e => by
    obtain ⟨u, h1, h2⟩ := RpL.getV (i := i) (v := d) t (by simpa using e)
    exact ⟨u, by simpa using h1, h2⟩
theorem RpL.take : ∀ {ds : List D} {vs : List V} (n : Nat), RpL K F ds vs → RpL K F (ds.take n) (vs.take n)
  | _, _, 0, _ => .nil
  | _, _, _ + 1, .nil => .nil
  | _, _, n + 1, .cons h t => .cons h (RpL.take n t)
theorem RpL.drop : ∀ {ds : List D} {vs : List V} (n : Nat), RpL K F ds vs → RpL K F (ds.drop n) (vs.drop n)
  | _, _, 0, h => h
  | _, _, _ + 1, .nil => .nil
  | _, _, n + 1, .cons _ t => RpL.drop n t
theorem RpL.set {d : D} {v : V} (r : Rp K F d v) : ∀ {ds : List D} {vs : List V} (i : Nat), RpL K F ds vs → RpL K F (ds.set i d) (vs.set i v)
  | _, _, _, .nil => .nil
  | _, _, 0, .cons _ t => .cons r t
  | _, _, i + 1, .cons q t => .cons q (RpL.set r i t)
theorem RpL.one {d : D} {v : V} (r : Rp K F d v) : RpL K F [d] [v] := .cons r .nil
theorem RpL.reverse : ∀ {ds : List D} {vs : List V}, RpL K F ds vs → RpL K F ds.reverse vs.reverse
  | _, _, .nil => .nil
  | _, _, .cons h t => by
    rw [List.reverse_cons, List.reverse_cons]
    exact RpL.append (RpL.reverse t) (.one h)
theorem RpL.ints : ∀ (ns : List Int), RpL K F (ns.map .int) (ns.map V.int)
  | [] => .nil
  | n :: ns => .cons (.int n) (RpL.ints ns)
theorem RpL.ints_inv : ∀ {ns : List Int} {vs : List V}, RpL K F (ns.map .int) vs → vs = ns.map V.int
  | [], _, .nil => rfl
  | n :: ns, _, .cons h t => by
    cases h
    rw [RpL.ints_inv t, List.map_cons]

/-- an owned container's object -/
inductive OwnRep (K : PySem.W.Frag) (F : Hp) : D → HO → Prop
  | lst {ds : List D} {xs : List V} : RpL K F ds xs → OwnRep K F (.list ds) (.lst xs)
  | dK {kds : List (D × D)} {kvs : List (Key × V)} : RpK K F kds kvs → OwnRep K F (.dict kds) (.dK kvs)
  | dT {kds : List (D × D)} {kvs : List (List Key × V)} : RpT K F kds kvs → OwnRep K F (.dict ((.bool true, .none) :: kds)) (.dT kvs)
theorem OwnRep.mono (s : Sub F G) {d : D} {o : HO} (h : OwnRep K F d o) : OwnRep K G d o := by
  cases h with
  | lst t => exact .lst (t.mono s)
  | dK t => exact .dK (t.mono s)
  | dT t => exact .dT (t.mono s)
/-- read where it is frozen or owned -/
def RpB (K : PySem.W.Frag) (F H : Hp) (d : D) (v : V) : Prop := Rp K F d v ∨ ∃ a o, v = .ref a ∧ F a = none ∧ H a = some o ∧ OwnRep K F d o
theorem RpB.of {d : D} {v : V} (h : Rp K F d v) : RpB K F H d v := .inl h
theorem RpB.list (s : Le F H) {ds : List D} {v : V} (h : RpB K F H (.list ds) v) : ∃ a xs, v = .ref a ∧ H a = some (.lst xs) ∧ RpL K F ds xs := by
  rcases h with h | ⟨a, o, e, _, h1, h2⟩
  · cases h with
    | lst h1 h2 => exact ⟨_, _, rfl, s.n h1 .lst, h2⟩
  · cases h2 with
    | lst h2 => exact ⟨_, _, e, h1, h2⟩
theorem RpB.tuple (s : Le F H) {ds : List D} {v : V} (h : RpB K F H (.tuple ds) v) : ∃ a xs, v = .ref a ∧ H a = some (.tup xs) ∧ RpL K F ds xs := by
  rcases h with h | ⟨a, o, e, _, h1, h2⟩
  · cases h with
    | tup h1 h2 => exact ⟨_, _, rfl, s.n h1 .tup, h2⟩
  · cases h2
theorem RpB.int {i : Int} {v : V} (h : RpB K F H (.int i) v) : v = .int i := by
  rcases h with h | ⟨a, o, e, _, h1, h2⟩
  · cases h; rfl
  · cases h2
theorem RpB.bool {i : Bool} {v : V} (h : RpB K F H (.bool i) v) : v = .bl i := by
  rcases h with h | ⟨a, o, e, _, h1, h2⟩
  · cases h; rfl
  · cases h2
theorem RpB.str {i : Str} {v : V} (h : RpB K F H (.str i) v) : v = .str i := by
  rcases h with h | ⟨a, o, e, _, h1, h2⟩
  · cases h; rfl
  · cases h2
theorem RpB.none' {v : V} (h : RpB K F H .none v) : v = .non := by
  rcases h with h | ⟨a, o, e, _, h1, h2⟩
  · cases h; rfl
  · cases h2
theorem RpB.isN {d : D} {v : V} (h : RpB K F H d v) : decide (v = .non) = (match d with | .none => true | _ => false) := by
  rcases h with h | ⟨a, o, e, _, h1, h2⟩
  · cases h <;> rfl
  · subst e
    cases h2 <;> rfl
end

/-! ### environments -/
inductive Slot where
  | no | fz (d : D) | ow (d : D)
abbrev Env := List Slot
def SlotOk (K : PySem.W.Frag) (F H : Hp) : Slot → Option V → Prop
  | .no, _ => True
  | .fz d, ov => ∃ v, ov = some v ∧ Rp K F d v
  | .ow d, ov => ∃ a o, ov = some (.ref a) ∧ F a = none ∧ H a = some o ∧ OwnRep K F d o
structure EnvOk (K : PySem.W.Frag) (ρ : Env) (σ : L2.St) (F H : Hp) : Prop where
  sub : Le F H
  len : ρ.length = σ.length
  at_ : ∀ (i : Nat) s, ρ[i]? = some s → ∃ ov, σ[i]? = some ov ∧ SlotOk K F H s ov
  dist : ∀ (i j : Nat) d e a, ρ[i]? = some (.ow d) → ρ[j]? = some (.ow e) → σ[i]? = some (some (.ref a)) → σ[j]? = some (some (.ref a)) → i = j
structure Ext (F H F' H' : Hp) : Prop where
  f : Sub F F'
  h : Gr H H'
  le : Le F' H'
  new : ∀ a, H a ≠ none → F a = none → F' a = none
section
variable {K : PySem.W.Frag} {ρ : Env} {σ : L2.St} {F H F' H' F'' H'' : Hp}
theorem Ext.refl (s : Le F H) : Ext F H F H := ⟨Sub.refl _, .refl _, s, fun _ _ h => h⟩
theorem Ext.trans (a : Ext F H F' H') (b : Ext F' H' F'' H'') : Ext F H F'' H'' :=
  ⟨a.f.trans b.f, a.h.trans b.h, b.le, fun x h1 h2 => b.new x (fun z => h1 (a.h.k x z)) (a.new x h1 h2)⟩
/-- a new object that is frozen at once -/
theorem Ext.add (s : Le F H) {p : Addr} {o : HO} (hp : H p = none) (n : Nt o := by exact fun _ z => nomatch z) : Ext F H (upd F p o) (upd H p o) where
  f := Sub.new (s.free hp)
  h := .new hp
  le := s.add hp n
  new := fun a h1 h2 => by
    rw [upd_ne (fun z => h1 (by rw [z]; exact hp))]
    exact h2
/-- a new object that is not frozen -/
theorem Ext.own (s : Le F H) {p : Addr} {o : HO} (hp : H p = none) : Ext F H F (upd H p o) :=
  ⟨Sub.refl _, .new hp, s.own hp, fun _ _ h => h⟩
theorem OwnRep.nt {d : D} {o : HO} (h : OwnRep K F d o) : Nt o := by
  cases h <;> exact fun _ z => nomatch z
theorem OwnRep.nx {d : D} {o : HO} (h : OwnRep K F d o) (φ) : o ≠ .ext φ := by
  cases h <;> exact fun z => nomatch z
/-- what stands at p may be written: no table, no code -/
def Wr (H : Hp) (p : Addr) : Prop := ∀ o, H p = some o → Nt o ∧ ∀ φ, o ≠ .ext φ
theorem Wr.no {p : Addr} (h : H p = none) : Wr H p := fun o e => by rw [h] at e; cases e
theorem Wr.lst {p : Addr} {xs : List V} (h : H p = some (.lst xs)) : Wr H p := fun o e => by
  rw [h] at e
  cases e
  exact ⟨(fun _ z => nomatch z), (fun _ z => nomatch z)⟩
theorem Wr.dK {p : Addr} {xs : List (Key × V)} (h : H p = some (.dK xs)) : Wr H p := fun o e => by
  rw [h] at e
  cases e
  exact ⟨(fun _ z => nomatch z), (fun _ z => nomatch z)⟩
theorem Wr.own {p : Addr} {o : HO} {d : D} (h : H p = some o) (r : OwnRep K F d o) : Wr H p := fun u e => by
  rw [h] at e
  cases e
  exact ⟨r.nt, r.nx⟩
theorem tabS_set {p P : Addr} {o : HO} {q : Str} (w : Wr H p) (h : LamX.TabS H P q) : LamX.TabS (upd H p o) P q := by
  obtain ⟨ps, h1, h2, h3⟩ := h
  refine ⟨ps, ?_, h2, fun pos cv hc => ?_⟩
  · rw [upd_ne (fun z => by rw [z] at h1; exact (w _ h1).1 _ rfl)]
    exact h1
  · obtain ⟨c, e1, e2⟩ := h3 pos cv hc
    refine ⟨c, e1, ?_⟩
    rw [upd_ne (fun z => by rw [z] at e2; exact (w _ e2).2 _ rfl)]
    exact e2
theorem Le.sw {F H : Hp} (s : Le F H) {p : Addr} {o : HO} (w : Wr H p) (n : Nt o) : Le (upd F p o) (upd H p o) := by
  refine ⟨⟨fun a u e nu => ?_, fun a e => ?_⟩, fun P q h => tabS_set w (s.m P q h)⟩
  · by_cases h : a = p
    · subst h; rw [upd_same] at e ⊢; exact e
    · rw [upd_ne h] at e ⊢; exact s.n e nu
  · have h : a ≠ p := fun z => by rw [z, upd_same] at e; cases e
    rw [upd_ne h] at e ⊢
    exact s.free e
/-- one's own object is changed -/
theorem Le.set {F H : Hp} (s : Le F H) {p : Addr} {o : HO} (hF : F p = none) (w : Wr H p) : Le F (upd H p o) := by
  refine ⟨⟨fun a u e nu => ?_, fun a e => ?_⟩, fun P q h => ?_⟩
  · rw [upd_ne (ne_of_none e hF)]
    exact s.n e nu
  · by_cases h : a = p
    · subst h; exact hF
    · rw [upd_ne h] at e
      exact s.free e
  · obtain ⟨ps, h1, h2, h3⟩ := s.m P q h
    refine ⟨ps, ?_, h2, fun pos cv hc => ?_⟩
    · rw [upd_ne (fun z => by rw [z] at h1; exact (w _ h1).1 _ rfl)]
      exact h1
    · obtain ⟨c, e1, e2⟩ := h3 pos cv hc
      refine ⟨c, e1, ?_⟩
      rw [upd_ne (fun z => by rw [z] at e2; exact (w _ e2).2 _ rfl)]
      exact e2
theorem Gr.set {F H : Hp} (s : Gr F H) {p : Addr} {o : HO} (hF : F p = none) : Gr F (upd H p o) := ⟨fun a u e nu => by
  rw [upd_ne (ne_of_none e hF)]
  exact s.n a u e nu, fun a e => by
  by_cases h : a = p
  · subst h; exact hF
  · rw [upd_ne h] at e
    exact s.k a e⟩
/-- a new object is frozen afterwards -/
theorem Ext.put (x : Ext F H F' H') {a : Addr} {o : HO} (ha : F' a = none) (hn : H a = none) (ho : H' a = some o) (n : Nt o) : Ext F H (upd F' a o) H' :=
  ⟨x.f.trans (Sub.new ha), x.h, x.le.put ho n, fun b h1 h2 => by
    rw [upd_ne (fun z => h1 (by rw [z]; exact hn))]
    exact x.new b h1 h2⟩
theorem EnvOk.ext (e : EnvOk K ρ σ F H) (x : Ext F H F' H') : EnvOk K ρ σ F' H' where
  sub := x.le
  len := e.len
  dist := e.dist
  at_ := fun i s hs => by
    obtain ⟨ov, h1, h2⟩ := e.at_ i s hs
    refine ⟨ov, h1, ?_⟩
    cases s with
    | no => trivial
    | fz d =>
      obtain ⟨v, h3, h4⟩ := h2
      exact ⟨v, h3, h4.mono x.f⟩
    | ow d =>
      obtain ⟨a, o, h3, h4, h5, h6⟩ := h2
      exact ⟨a, o, h3, x.new a (by rw [h5]; exact fun z => nomatch z) h4, x.h.n _ _ h5 h6.nt, h6.mono x.f⟩
theorem RpB.ext {d : D} {v : V} (h : RpB K F H d v) (x : Ext F H F' H') : RpB K F' H' d v := by
  rcases h with h | ⟨a, o, e, h1, h2, h3⟩
  · exact .inl (h.mono x.f)
  · exact .inr ⟨a, o, e, x.new a (by rw [h2]; exact fun z => nomatch z) h1, x.h.n _ _ h2 h3.nt, h3.mono x.f⟩
end

/-! ### judgements of expressions -/
abbrev Den := Env → Option D
def tX (K : PySem.W.Frag) (f : Den) : TE := fun σ H Q => ∃ ρ F d, EnvOk K ρ σ F H ∧ f ρ = some d ∧ ∀ v F' H', Ext F H F' H' → Rp K F' d v → Q v H'
def tB' (K : PySem.W.Frag) (f : Den) : TE := fun σ H Q => ∃ ρ F d, EnvOk K ρ σ F H ∧ f ρ = some d ∧ ∀ v F' H', Ext F H F' H' → RpB K F' H' d v → Q v H'
def tN (K : PySem.W.Frag) (f : Den) : TE := fun σ H Q => ∃ ρ F d, EnvOk K ρ σ F H ∧ f ρ = some d ∧ ∀ a o F' H', Ext F H F' H' → F' a = none → H a = none → H' a = some o → OwnRep K F' d o → Q (.ref a) H'
def tTst (K : PySem.W.Frag) (f : Env → Option Bool) : TT := fun σ H Q => ∃ ρ F b, EnvOk K ρ σ F H ∧ f ρ = some b ∧ ∀ F' H', Ext F H F' H' → Q b H'
/-- a value, frozen -/
structure EX (X : Cx) (e : Expr) (f : Den) : Prop where
  pe : PE X e (tX X.K f)
/-- a value, perhaps a borrowed one -/
structure EB (X : Cx) (e : Expr) (f : Den) : Prop where
  pe : PE X e (tB' X.K f)
/-- a new list or dict -/
structure EN (X : Cx) (e : Expr) (f : Den) : Prop where
  pe : PE X e (tN X.K f)
/-- a test -/
structure ET (X : Cx) (e : Expr) (f : Env → Option Bool) : Prop where
  pt : PT X e (tTst X.K f)
theorem PE.imp {X : Cx} {e : Expr} {t t' : TE} (h : PE X e t) (i : ∀ σ H Q, t' σ H Q → t σ H Q) : PE X e t' := ⟨fun pins s σ H Q I hw => h.run pins s σ H Q I (i σ H Q hw)⟩
theorem PT.imp {X : Cx} {e : Expr} {t t' : TT} (h : PT X e t) (i : ∀ σ H Q, t' σ H Q → t σ H Q) : PT X e t' := ⟨fun pins s σ H Q I hw => h.run pins s σ H Q I (i σ H Q hw)⟩
theorem PI.imp {X : Cx} {tg e : Expr} {t t' : TI} (h : PI X tg e t) (i : ∀ σ H Q, t' σ H Q → t σ H Q) : PI X tg e t' := ⟨fun pins s σ H Q I hw => h.run pins s σ H Q I (i σ H Q hw)⟩
theorem PA.imp {X : Cx} {e : List Expr} {t t' : TA} (h : PA X e t) (i : ∀ σ H Q, t' σ H Q → t σ H Q) : PA X e t' := ⟨fun pos pins s σ H Q I hw => h.run pos pins s σ H Q I (i σ H Q hw)⟩
theorem PS.imp {X : Cx} {e : Stmt} {t t' : TS} (h : PS X e t) (i : ∀ D σ H, t' D σ H → t D σ H) : PS X e t' := ⟨fun pins s σ H D I hw => h.run pins s σ H D I (i D σ H hw)⟩
theorem PSs.imp {X : Cx} {e : List Stmt} {t t' : TS} (h : PSs X e t) (i : ∀ D σ H, t' D σ H → t D σ H) : PSs X e t' := ⟨fun pins s σ H D I hw => h.run pins s σ H D I (i D σ H hw)⟩
section
variable {X : Cx} {e : Expr} {f : Den}
theorem EX.b (h : EX X e f) : EB X e f := ⟨PE.imp h.pe fun σ H Q ⟨ρ, F, d, e1, e2, k⟩ => ⟨ρ, F, d, e1, e2, fun v F' H' x r => k v F' H' x (.inl r)⟩⟩
theorem EN.x (h : EN X e f) : EX X e f := ⟨PE.imp h.pe fun σ H Q ⟨ρ, F, d, e1, e2, k⟩ => ⟨ρ, F, d, e1, e2, fun a o F' H' x ha hn ho r => by
  have x' : Ext F H (upd F' a o) H' := x.put ha hn ho r.nt
  refine k _ _ _ x' ?_
  have s : Sub F' (upd F' a o) := Sub.new ha
  cases r with
  | lst t => exact .lst upd_same (t.mono s)
  | dK t => exact .dK (.inl upd_same) (t.mono s)
  | dT t => exact .dT (.inl upd_same) (t.mono s)⟩⟩
theorem EN.b (h : EN X e f) : EB X e f := h.x.b
end
end Zx
/-! Zx2: names, constants, displays, operators, comparisons. -/
namespace Zx
variable [Marked]
open PySem PySem.Spec L2
theorem line_of {n : Nat} (h : n ≤ 1000000) : n ≤ sizeLine := by rw [sizeLine_eq]; omega
theorem line_lt {n : Nat} (h : n < 1000000) : n < sizeLine := by rw [sizeLine_eq]; omega

/-! ### denotations -/
def vR (i : Nat) : Den := fun ρ => match ρ[i]? with | some (.fz d) => some d | _ => none
def vB (i : Nat) : Den := fun ρ => match ρ[i]? with | some (.fz d) => some d | some (.ow d) => some d | _ => none
def kD (d : D) : Den := fun _ => some d
def d1 (op : D → Option D) (f : Den) : Den := fun ρ => (f ρ).bind op
def d2 (op : D → D → Option D) (f g : Den) : Den := fun ρ => (f ρ).bind fun x => (g ρ).bind fun y => op x y
abbrev DenL := Env → Option (List D)
def lNil : DenL := fun _ => some []
def lCons (f : Den) (g : DenL) : DenL := fun ρ => (f ρ).bind fun x => (g ρ).bind fun xs => some (x :: xs)
def seqOf : D → Option (List D)
  | .list xs => some xs
  | .tuple xs => some xs
  | _ => none
def lStar (f : Den) (g : DenL) : DenL := fun ρ => (f ρ).bind fun x => (seqOf x).bind fun ys => (g ρ).bind fun xs => some (ys ++ xs)
def mkT (g : DenL) : Den := fun ρ => (g ρ).bind fun xs => if xs.length ≤ 1000000 then some (.tuple xs) else none
def mkL (g : DenL) : Den := fun ρ => (g ρ).bind fun xs => if xs.length ≤ 1000000 then some (.list xs) else none
/-- the bits of a factor -/
def mulOk (a b : Int) : Bool := decide (a.natAbs.log2 + b.natAbs.log2 < 100000000)
def addD : D → D → Option D
  | .int a, .int b => some (.int (a + b))
  | .list xs, .list ys => if xs.length + ys.length ≤ 1000000 then some (.list (xs ++ ys)) else none
  | .tuple xs, .tuple ys => if xs.length + ys.length ≤ 1000000 then some (.tuple (xs ++ ys)) else none
  | _, _ => none
def subD : D → D → Option D
  | .int a, .int b => some (.int (a - b))
  | _, _ => none
def mulD : D → D → Option D
  | .int a, .int b => if mulOk a b then some (.int (a * b)) else none
  | .list xs, .int k => if k.natAbs ≤ 1000000 ∧ xs.length * k.toNat ≤ 1000000 then some (.list (List.replicate k.toNat xs).flatten) else none
  | _, _ => none
def fdivD : D → D → Option D
  | .int a, .int b => if 0 < b ∧ b.natAbs.log2 < 9000 then some (.int (a / b)) else none
  | _, _ => none
def modD : D → D → Option D
  | .int a, .int b => if 0 < b then some (.int (a % b)) else none
  | _, _ => none
def powD : D → D → Option D
  | .int a, .int b => if 0 ≤ b ∧ b.natAbs ≤ 1000000 ∧ a.natAbs < 2 ^ 64 then some (.int (a ^ b.toNat)) else none
  | _, _ => none
def shlD : D → D → Option D
  | .int a, .int b => if 0 ≤ b ∧ b.natAbs ≤ 1000000 ∧ a.natAbs < 2 ^ 64 then some (.int (a * 2 ^ b.toNat)) else none
  | _, _ => none
def negD : D → Option D
  | .int a => some (.int (-a))
  | _ => none

section
variable {X : Cx} {a b : Expr} {f g : Den} {fl : DenL} {pos : Pos}
theorem mkX {e : Expr} {t : TE} (h : PE X e t) (i : ∀ σ H Q ρ F d, EnvOk X.K ρ σ F H → f ρ = some d → (∀ v F' H', Ext F H F' H' → Rp X.K F' d v → Q v H') → t σ H Q) : EX X e f :=
  ⟨PE.imp h fun σ H Q ⟨ρ, F, d, e1, e2, k⟩ => i σ H Q ρ F d e1 e2 k⟩
theorem mkN {e : Expr} {t : TE} (h : PE X e t) (i : ∀ σ H Q ρ F d, EnvOk X.K ρ σ F H → f ρ = some d → (∀ a o F' H', Ext F H F' H' → F' a = none → H a = none → H' a = some o → OwnRep X.K F' d o → Q (.ref a) H') → t σ H Q) : EN X e f :=
  ⟨PE.imp h fun σ H Q ⟨ρ, F, d, e1, e2, k⟩ => i σ H Q ρ F d e1 e2 k⟩
theorem mkBb {e : Expr} {t : TE} (h : PE X e t) (i : ∀ σ H Q ρ F d, EnvOk X.K ρ σ F H → f ρ = some d → (∀ v F' H', Ext F H F' H' → RpB X.K F' H' d v → Q v H') → t σ H Q) : EB X e f :=
  ⟨PE.imp h fun σ H Q ⟨ρ, F, d, e1, e2, k⟩ => i σ H Q ρ F d e1 e2 k⟩
theorem mkTs {e : Expr} {t : TT} {h' : Env → Option Bool} (h : PT X e t) (i : ∀ σ H Q ρ F b, EnvOk X.K ρ σ F H → h' ρ = some b → (∀ F' H', Ext F H F' H' → Q b H') → t σ H Q) : ET X e h' :=
  ⟨PT.imp h fun σ H Q ⟨ρ, F, d, e1, e2, k⟩ => i σ H Q ρ F d e1 e2 k⟩

/-! ### names -/
def visB (sc : Scope) (x : Str) : Bool := match sc.names.lookup x with | some .local => true | some .cell => true | some .free => true | _ => false
theorem vis_of {sc : Scope} {x : Str} (h : visB sc x = true) : Vis sc x := by
  unfold visB at h
  unfold Vis
  split at h
  · rename_i e; exact .inl e
  · rename_i e; exact .inr (.inl e)
  · rename_i e; exact .inr (.inr e)
  · cases h
theorem ex_var (i : Nat) {x : Str} (hN : X.N[i]? = some x) (hv : visB X.env.scope x = true) (hd : (x == ("__debug__" : Str)) = false) (hcd : (x == ("__classdict__" : Str)) = false) : EX X (.Name x pos) (vR i) :=
  mkX (pe_var hN (vis_of hv) hd hcd) fun σ H Q ρ F d e h k => by
    unfold vR at h
    split at h
    · rename_i d' hs
      cases h
      obtain ⟨ov, h1, v, h2, h3⟩ := e.at_ i _ hs
      subst h2
      exact ⟨v, h1, k v F H (.refl e.sub) h3⟩
    · cases h
theorem eb_var (i : Nat) {x : Str} (hN : X.N[i]? = some x) (hv : visB X.env.scope x = true) (hd : (x == ("__debug__" : Str)) = false) (hcd : (x == ("__classdict__" : Str)) = false) : EB X (.Name x pos) (vB i) :=
  mkBb (pe_var hN (vis_of hv) hd hcd) fun σ H Q ρ F d e h k => by
    unfold vB at h
    split at h
    · rename_i d' hs
      cases h
      obtain ⟨ov, h1, v, h2, h3⟩ := e.at_ i _ hs
      subst h2
      exact ⟨v, h1, k v F H (.refl e.sub) (.inl h3)⟩
    · rename_i d' hs
      cases h
      obtain ⟨ov, h1, a, o, h2, h3, h4, h5⟩ := e.at_ i _ hs
      subst h2
      exact ⟨_, h1, k _ F H (.refl e.sub) (.inr ⟨a, o, rfl, h3, h4, h5⟩)⟩
    · cases h
/-! ### constants -/
theorem ex_const {e : Expr} {v : V} (d : D) (h : PE X e (tC v)) (r : ∀ F, Rp X.K F d v) : EX X e (kD d) :=
  mkX h fun σ H Q ρ F d' e h k => by
    cases h
    exact k v F H (.refl e.sub) (r F)
theorem ex_int {i j} : EX X (.Constant (.int i) j pos) (kD (.int i)) := ex_const _ pe_int fun _ => .int i
theorem ex_bl {b j} : EX X (.Constant (.bool b) j pos) (kD (.bool b)) := ex_const _ pe_bl fun _ => .bl b
theorem ex_non {j} : EX X (.Constant .none j pos) (kD .none) := ex_const _ pe_non fun _ => .non
theorem ex_str {x j} : EX X (.Constant (.str x) j pos) (kD (.str x)) := ex_const _ pe_str fun _ => .str x
/-- an int constant of the module -/
theorem ex_glob {x : Str} {i : Int} {t : Tok} (hg : Gl X x) (hm : X.mg x = some (.int i t)) (hd : (x == ("__debug__" : Str)) = false) : EX X (.Name x pos) (kD (.int i)) := ex_const (v := .int i) _ (pe_glob hg hm ⟨t, rfl⟩ hd) fun _ => .int i
/-! ### displays -/
def tA (K : PySem.W.Frag) (f : DenL) : TA := fun σ H Q => ∃ ρ F ds, EnvOk K ρ σ F H ∧ f ρ = some ds ∧ ∀ vs F' H', Ext F H F' H' → RpL K F' ds vs → Q vs H'
structure EA (X : Cx) (es : List Expr) (f : DenL) : Prop where
  pa : PA X es (tA X.K f)
theorem mkA {es : List Expr} {t : TA} (h : PA X es t) (i : ∀ σ H Q ρ F d, EnvOk X.K ρ σ F H → fl ρ = some d → (∀ v F' H', Ext F H F' H' → RpL X.K F' d v → Q v H') → t σ H Q) : EA X es fl :=
  ⟨PA.imp h fun σ H Q ⟨ρ, F, d, e1, e2, k⟩ => i σ H Q ρ F d e1 e2 k⟩
theorem ea_nil : EA X [] lNil := mkA pa_nil fun σ H Q ρ F d e h k => by
  cases h
  exact k [] F H (.refl e.sub) .nil
theorem ea_cons {es : List Expr} (ha : EX X a f) (hr : EA X es fl) (hs : starEach (a :: es) X.env = (false, eval a X.env) :: starEach es X.env) : EA X (a :: es) (lCons f fl) :=
  mkA (pa_cons ha.pe hr.pa hs) fun σ H Q ρ F d e h k => by
    simp only [lCons, Option.bind_eq_some_iff, Option.some.injEq] at h
    obtain ⟨x, h1, xs, h2, rfl⟩ := h
    exact ⟨ρ, F, x, e, h1, fun v F1 H1 x1 r1 => ⟨ρ, F1, xs, e.ext x1, h2, fun vs F2 H2 x2 r2 => k _ F2 H2 (x1.trans x2) (.cons (r1.mono x2.f) r2)⟩⟩
theorem ea_star {es : List Expr} {p : Pos} (ha : EB X a f) (hr : EA X es fl) (hs : starEach (.Starred a p :: es) X.env = (true, eval a X.env) :: starEach es X.env) : EA X (.Starred a p :: es) (lStar f fl) :=
  mkA (StX.pa_star ha.pe hr.pa hs) fun σ H Q ρ F d e h k => by
    simp only [lStar, Option.bind_eq_some_iff, Option.some.injEq] at h
    obtain ⟨x, h1, ys, h0, xs, h2, rfl⟩ := h
    refine ⟨ρ, F, x, e, h1, fun v F1 H1 x1 r1 => ?_⟩
    cases x <;> simp only [seqOf, Option.some.injEq, reduceCtorEq] at h0
    · subst h0
      obtain ⟨p, vs, rfl, hp, hr⟩ := r1.list x1.le
      exact ⟨p, vs, rfl, .inr (.inl (.inl hp)), ρ, F1, xs, e.ext x1, h2, fun us F2 H2 x2 r2 => k _ F2 H2 (x1.trans x2) (RpL.append (hr.mono x2.f) r2)⟩
    · subst h0
      obtain ⟨p, vs, rfl, hp, hr⟩ := r1.tuple x1.le
      exact ⟨p, vs, rfl, .inl (.inl (.inl hp)), ρ, F1, xs, e.ext x1, h2, fun us F2 H2 x2 r2 => k _ F2 H2 (x1.trans x2) (RpL.append (hr.mono x2.f) r2)⟩
theorem ex_tup {es : List Expr} {x1} (h : EA X es fl) : EX X (.Tuple es x1 pos) (mkT fl) :=
  mkX (pe_tup h.pa) fun σ H Q ρ F d e h k => by
    simp only [mkT, Option.bind_eq_some_iff] at h
    obtain ⟨xs, h1, h2⟩ := h
    split at h2
    · rename_i hl
      cases h2
      refine ⟨ρ, F, xs, e, h1, fun vs F1 H1 x1 r1 => ⟨by rw [r1.length]; exact line_of hl, fun p hp => ?_⟩⟩
      exact k _ _ _ (x1.trans (.add x1.le hp)) (.tup upd_same (r1.mono (Sub.new (x1.le.free hp))))
    · cases h2
theorem en_lst {es : List Expr} (h : EA X es fl) : EN X (.List es pos) (mkL fl) :=
  mkN (pe_lst h.pa) fun σ H Q ρ F d e h k => by
    simp only [mkL, Option.bind_eq_some_iff] at h
    obtain ⟨xs, h1, h2⟩ := h
    split at h2
    · rename_i hl
      cases h2
      refine ⟨ρ, F, xs, e, h1, fun vs F1 H1 x1 r1 => ⟨by rw [r1.length]; exact line_of hl, fun p hp => ?_⟩⟩
      have hp0 : H p = none := x1.h.free hp
      exact k p _ _ _ (x1.trans (.own x1.le hp)) (x1.le.free hp) hp0 upd_same (.lst r1)
    · cases h2

/-! ### two operands -/
theorem ex_op2 {op : D → D → Option D} {e : Expr} {ta tb : TE} {r : R2} (h : PE X e (tOp r (tB' X.K f) (tB' X.K g)))
    (hr : ∀ x y u v d F H Q, op x y = some d → Le F H → RpB X.K F H x u → RpB X.K F H y v → (∀ w F' H', Ext F H F' H' → Rp X.K F' d w → Q w H') → r u v H Q) : EX X e (d2 op f g) :=
  mkX h fun σ H Q ρ F d e h k => by
    simp only [d2, Option.bind_eq_some_iff] at h
    obtain ⟨x, h1, y, h2, h3⟩ := h
    exact ⟨ρ, F, x, e, h1, fun u F1 H1 x1 r1 => ⟨ρ, F1, y, e.ext x1, h2, fun v F2 H2 x2 r2 => hr x y u v d F2 H2 Q h3 x2.le (r1.ext x2) r2 fun w F' H' x3 rw => k w F' H' ((x1.trans x2).trans x3) rw⟩⟩
theorem en_op2 {op : D → D → Option D} {e : Expr} {ta tb : TE} {r : R2} (h : PE X e (tOp r (tB' X.K f) (tB' X.K g)))
    (hr : ∀ x y u v d F H Q, op x y = some d → Le F H → RpB X.K F H x u → RpB X.K F H y v → (∀ p o, H p = none → OwnRep X.K F d o → Q (.ref p) (upd H p o)) → r u v H Q) : EN X e (d2 op f g) :=
  mkN h fun σ H Q ρ F d e h k => by
    simp only [d2, Option.bind_eq_some_iff] at h
    obtain ⟨x, h1, y, h2, h3⟩ := h
    exact ⟨ρ, F, x, e, h1, fun u F1 H1 x1 r1 => ⟨ρ, F1, y, e.ext x1, h2, fun v F2 H2 x2 r2 => hr x y u v d F2 H2 Q h3 x2.le (r1.ext x2) r2 fun p o hp ho =>
      k p o F2 _ ((x1.trans x2).trans (.own x2.le hp)) (x2.le.free hp) ((x1.trans x2).h.free hp) upd_same ho⟩⟩
/-- ints alone -/
theorem ex_opI {op : D → D → Option D} {e : Expr} {C : Int → Int → Prop} {z : Int → Int → Int} (h : PE X e (tOp (rI C fun i j => .int (z i j)) (tB' X.K f) (tB' X.K g)))
    (ho : ∀ x y d, op x y = some d → ∃ i j, x = .int i ∧ y = .int j ∧ C i j ∧ d = .int (z i j)) : EX X e (d2 op f g) :=
  ex_op2 (ta := tC .non) (tb := tC .non) h fun x y u v d F H Q e s ru rv k => by
    obtain ⟨i, j, rfl, rfl, hc, rfl⟩ := ho x y d e
    exact ⟨i, j, ru.int, rv.int, hc, k _ F H (.refl s) (.int _)⟩
theorem ex_opI0 {op : D → D → Option D} {e : Expr} {z : Int → Int → Int} (h : PE X e (tOp (rI0 fun i j => .int (z i j)) (tB' X.K f) (tB' X.K g)))
    (ho : ∀ x y d, op x y = some d → ∃ i j, x = .int i ∧ y = .int j ∧ d = .int (z i j)) : EX X e (d2 op f g) :=
  ex_op2 (ta := tC .non) (tb := tC .non) h fun x y u v d F H Q e s ru rv k => by
    obtain ⟨i, j, rfl, rfl, rfl⟩ := ho x y d e
    exact ⟨i, j, ru.int, rv.int, k _ F H (.refl s) (.int _)⟩
theorem ints_of2 {op : D → D → Option D} {C : Int → Int → Prop} {z : Int → Int → Int} (hi : ∀ i j d, op (.int i) (.int j) = some d → C i j ∧ d = .int (z i j)) (hn : ∀ x y d, op x y = some d → ∃ i j, x = .int i ∧ y = .int j) :
    ∀ x y d, op x y = some d → ∃ i j, x = .int i ∧ y = .int j ∧ C i j ∧ d = .int (z i j) := fun x y d h => by
  obtain ⟨i, j, rfl, rfl⟩ := hn x y d h
  obtain ⟨h1, h2⟩ := hi i j d h
  exact ⟨i, j, rfl, rfl, h1, h2⟩
/-- + of ints, lists or tuples; a new list is frozen -/
theorem ex_add (ha : EB X a f) (hb : EB X b g) : EX X (.BinOp a .Add b pos) (d2 addD f g) := by
  refine ex_op2 (ta := tC .non) (tb := tC .non) (pe_op ((op_add.or op_cat).or op_catA) ha.pe hb.pe) fun x y u v d F H Q e s ru rv k => ?_
  cases x <;> cases y <;> simp only [addD, reduceCtorEq, Option.some.injEq] at e
  · subst e
    exact .inl (.inl ⟨_, _, ru.int, rv.int, k _ F H (.refl s) (.int _)⟩)
  · split at e
    · rename_i hl
      cases e
      obtain ⟨p, xs, rfl, hp, rp⟩ := ru.list s
      obtain ⟨q, ys, rfl, hq, rq⟩ := rv.list s
      refine .inl (.inr ⟨p, q, xs, ys, rfl, rfl, hp, hq, by rw [rp.length, rq.length]; exact line_of hl, fun t ht => ?_⟩)
      exact k _ _ _ (.add s ht) (.lst upd_same ((rp.append rq).mono (Sub.new (s.free ht))))
    · cases e
  · split at e
    · rename_i hl
      cases e
      obtain ⟨p, xs, rfl, hp, rp⟩ := ru.tuple s
      obtain ⟨q, ys, rfl, hq, rq⟩ := rv.tuple s
      refine .inr ⟨p, q, xs, ys, rfl, rfl, .inl (.inl hp), .inl (.inl hq), by rw [rp.length, rq.length]; exact line_of hl, fun e1 => ?_, fun e1 e2 => ?_, fun e1 e2 t ht => ?_⟩
      · subst e1
        cases rp
        rw [List.nil_append] at k
        exact k _ F H (.refl s) (rv.elim id fun ⟨a, o, z, _, z1, z2⟩ => nomatch z2)
      · subst e2
        cases rq
        rw [List.append_nil] at k
        exact k _ F H (.refl s) (ru.elim id fun ⟨a, o, z, _, z1, z2⟩ => nomatch z2)
      · exact k _ _ _ (.add s ht) (.tup upd_same ((rp.append rq).mono (Sub.new (s.free ht))))
    · cases e
/-- + of lists, the new list one's own -/
theorem en_cat (ha : EB X a f) (hb : EB X b g) : EN X (.BinOp a .Add b pos) (d2 (fun x y => match x, y with | .list xs, .list ys => addD (.list xs) (.list ys) | _, _ => none) f g) := by
  refine en_op2 (ta := tC .non) (tb := tC .non) (pe_op op_cat ha.pe hb.pe) fun x y u v d F H Q e s ru rv k => ?_
  cases x <;> cases y <;> simp only [addD, reduceCtorEq] at e
  split at e
  · rename_i hl
    cases e
    obtain ⟨p, xs, rfl, hp, rp⟩ := ru.list s
    obtain ⟨q, ys, rfl, hq, rq⟩ := rv.list s
    exact ⟨p, q, xs, ys, rfl, rfl, hp, hq, by rw [rp.length, rq.length]; exact line_of hl, fun t ht => k t _ ht (.lst (rp.append rq))⟩
  · cases e
theorem ex_sub (ha : EB X a f) (hb : EB X b g) : EX X (.BinOp a .Sub b pos) (d2 subD f g) :=
  ex_opI0 (pe_op op_sub ha.pe hb.pe) fun x y d e => by
    cases x <;> cases y <;> simp only [subD, reduceCtorEq, Option.some.injEq] at e
    exact ⟨_, _, rfl, rfl, e.symm⟩
theorem mulOk_ok {i j : Int} (h : mulOk i j = true) : IntMulOk i j := by
  have b : ∀ x : Int, Builtin.Int.intBits x ≤ x.natAbs.log2 + 1 := fun x => by
    unfold Builtin.Int.intBits
    split <;> omega
  have h1 := b i
  have h2 := b j
  have h3 := of_decide_eq_true h
  have e : bitsLine = 134217728 := by decide
  unfold IntMulOk
  intro z
  rw [Bool.and_eq_true] at z
  have z2 := z.2
  unfold Builtin.Int.intTooBig at z2
  have z3 := of_decide_eq_true z2
  rw [e] at z3
  omega
theorem op_mulZ : OpR X (binaryOp .Mult) (rI (fun i j => mulOk i j = true) fun i j => .int (i * j)) := opI fun _ _ _ _ _ _ _ hc q => PyProof.Rows.mul_int q (mulOk_ok hc)
theorem repL {K : PySem.W.Frag} {F : Hp} {xs : List D} {vs : List V} (h : RpL K F xs vs) : ∀ n : Nat, RpL K F (List.replicate n xs).flatten (List.replicate n vs).flatten
  | 0 => .nil
  | n + 1 => by
    rw [List.replicate_succ, List.replicate_succ, List.flatten_cons, List.flatten_cons]
    exact h.append (repL h n)
/-- * of ints -/
theorem ex_mul (ha : EB X a f) (hb : EB X b g) : EX X (.BinOp a .Mult b pos) (d2 (fun x y => match x, y with | .int i, .int j => mulD (.int i) (.int j) | _, _ => none) f g) :=
  ex_opI (pe_op op_mulZ ha.pe hb.pe) fun x y d e => by
    cases x <;> cases y <;> simp only [mulD, reduceCtorEq] at e
    split at e
    · rename_i h
      cases e
      exact ⟨_, _, rfl, rfl, h, rfl⟩
    · cases e
/-- a list times an int -/
theorem en_rep (ha : EB X a f) (hb : EB X b g) : EN X (.BinOp a .Mult b pos) (d2 (fun x y => match x, y with | .list xs, .int j => mulD (.list xs) (.int j) | _, _ => none) f g) := by
  refine en_op2 (ta := tC .non) (tb := tC .non) (pe_op op_rep ha.pe hb.pe) fun x y u v d F H Q e s ru rv k => ?_
  cases x <;> cases y <;> simp only [mulD, reduceCtorEq] at e
  split at e
  · rename_i hl
    cases e
    obtain ⟨p, xs, rfl, hp, rp⟩ := ru.list s
    refine ⟨p, _, xs, rfl, rv.int, hp, by omega, by omega, by rw [rp.length]; exact line_of hl.2, fun t ht => k t _ ht (.lst (repL rp _))⟩
  · cases e
theorem ex_fdiv (ha : EB X a f) (hb : EB X b g) : EX X (.BinOp a .FloorDiv b pos) (d2 fdivD f g) :=
  ex_opI (pe_op op_fdivW ha.pe hb.pe) fun x y d e => by
    cases x <;> cases y <;> simp only [fdivD, reduceCtorEq] at e
    split at e
    · rename_i h
      cases e
      exact ⟨_, _, rfl, rfl, h, rfl⟩
    · cases e
theorem ex_mod (ha : EB X a f) (hb : EB X b g) : EX X (.BinOp a .Mod b pos) (d2 modD f g) :=
  ex_opI (pe_op op_mod ha.pe hb.pe) fun x y d e => by
    cases x <;> cases y <;> simp only [modD, reduceCtorEq] at e
    split at e
    · rename_i h
      cases e
      exact ⟨_, _, rfl, rfl, h, rfl⟩
    · cases e
theorem ex_pow (ha : EB X a f) (hb : EB X b g) : EX X (.BinOp a .Pow b pos) (d2 powD f g) :=
  ex_opI (pe_op op_pow ha.pe hb.pe) fun x y d e => by
    cases x <;> cases y <;> simp only [powD, reduceCtorEq] at e
    split at e
    · rename_i h
      cases e
      exact ⟨_, _, rfl, rfl, ⟨h.1, by have := h.2.1; omega, h.2.2⟩, rfl⟩
    · cases e
theorem ex_shl (ha : EB X a f) (hb : EB X b g) : EX X (.BinOp a .LShift b pos) (d2 shlD f g) :=
  ex_opI (pe_op op_shl ha.pe hb.pe) fun x y d e => by
    cases x <;> cases y <;> simp only [shlD, reduceCtorEq] at e
    split at e
    · rename_i h
      cases e
      exact ⟨_, _, rfl, rfl, ⟨h.1, by have := h.2.1; omega, h.2.2⟩, rfl⟩
    · cases e
theorem ex_neg (ha : EB X a f) : EX X (.UnaryOp .USub a pos) (d1 negD f) :=
  mkX (pe_un un_neg ha.pe) fun σ H Q ρ F d e h k => by
    simp only [d1, Option.bind_eq_some_iff] at h
    obtain ⟨x, h1, h2⟩ := h
    refine ⟨ρ, F, x, e, h1, fun u F1 H1 x1 r1 => ?_⟩
    cases x <;> simp only [negD, reduceCtorEq, Option.some.injEq] at h2
    subst h2
    exact ⟨_, r1.int, k _ F1 H1 x1 (.int _)⟩
end

/-! ### what reads as data -/
mutual
theorem Rp.dp {K : PySem.W.Frag} {F H : Hp} (s : Le F H) : ∀ (d : D) (v : V), d.plain = true → Rp K F d v → Dp K H v d
  | .none, _, _, h => by cases h; exact .non
  | .bool b, _, _, h => by cases h; exact .bl b
  | .int i, _, _, h => by cases h; exact .int i
  | .str x, _, _, h => by cases h; exact .str x
  | .list ds, _, p, h => by
    cases h with
    | lst h1 h2 => exact .lst (.inl (.inl (s.n h1 (fun _ z => nomatch z)))) (RpL.dp s ds _ (by simpa [PyData.plain] using p) h2)
  | .tuple ds, _, p, h => by
    cases h with
    | tup h1 h2 => exact .tup (.inl (.inl (s.n h1 (fun _ z => nomatch z)))) (RpL.dp s ds _ (by simpa [PyData.plain] using p) h2)
  | .dict _, _, p, _ => by simp [PyData.plain] at p
theorem RpL.dp {K : PySem.W.Frag} {F H : Hp} (s : Le F H) : ∀ (ds : List D) (vs : List V), PyData.plainAll ds = true → RpL K F ds vs → DpAll K H vs ds
  | [], _, _, h => by cases h; exact .nil
  | d :: ds, _, p, h => by
    cases h with
    | cons h1 h2 =>
      rw [PyData.plainAll, Bool.and_eq_true] at p
      exact .cons (Rp.dp s d _ p.1 h1) (RpL.dp s ds _ p.2 h2)
end
theorem RpB.dp {K : PySem.W.Frag} {F H : Hp} (s : Le F H) {d : D} {v : V} (p : d.plain = true) (h : RpB K F H d v) : Dp K H v d := by
  rcases h with h | ⟨a, o, rfl, _, h1, h2⟩
  · exact h.dp s d v p
  · cases h2 with
    | lst h2 => exact .lst (.inl (.inl h1)) (RpL.dp s _ _ (by simpa [PyData.plain] using p) h2)
    | dK _ => simp [PyData.plain] at p
    | dT _ => simp [PyData.plain] at p
theorem plain_of_shaped {d : D} (h : SeqAt.shaped d = true) : d.plain = true := by
  unfold SeqAt.shaped at h
  rw [Bool.and_eq_true] at h
  exact PyData.plain_of_canLay0 d h.1
end Zx
/-! Zx3: comparisons, tests, and | or | not, conditional expressions. -/
namespace Zx
variable [Marked]
open PySem PySem.Spec L2
abbrev DenB := Env → Option Bool
def b2 (op : D → D → Option Bool) (f g : Den) : DenB := fun ρ => (f ρ).bind fun x => (g ρ).bind fun y => op x y
def bV (f : DenB) : Den := fun ρ => (f ρ).bind fun b => some (.bool b)
def eqD (x y : D) : Option Bool := if SeqAt.shaped x && SeqAt.shaped y then some (PyData.eqv x y) else none
def neD (x y : D) : Option Bool := if SeqAt.shaped x && SeqAt.shaped y then some (!PyData.eqv x y) else none
def ordOk (x y : D) : Bool := SeqAt.shaped x && SeqAt.shaped y && PySem.W.alike x y && (match x with | .none => false | _ => true)
def ltD (x y : D) : Option Bool := if ordOk x y then some (PySem.W.dataLt x y) else none
def gtD (x y : D) : Option Bool := if ordOk x y then some (PySem.W.dataLt y x) else none
def leD (x y : D) : Option Bool := if ordOk x y then some (!PySem.W.dataLt y x) else none
def geD (x y : D) : Option Bool := if ordOk x y then some (!PySem.W.dataLt x y) else none
/-- ints -/
def ltI : D → D → Option Bool | .int a, .int b => some (decide (a < b)) | _, _ => none
def leI : D → D → Option Bool | .int a, .int b => some (decide (a ≤ b)) | _, _ => none
def gtI : D → D → Option Bool | .int a, .int b => some (decide (b < a)) | _, _ => none
def geI : D → D → Option Bool | .int a, .int b => some (decide (b ≤ a)) | _, _ => none
def inD (x : D) : D → Option Bool
  | .list ys => if SeqAt.shaped x && SeqAt.shaped (.list ys) then some (ys.any fun z => PyData.eqv z x) else none
  | .tuple ys => if SeqAt.shaped x && SeqAt.shaped (.tuple ys) then some (ys.any fun z => PyData.eqv z x) else none
  | _ => none
def ninD (x y : D) : Option Bool := (inD x y).map (!·)
def isN : D → Option Bool | .none => some true | _ => some false
def notN : D → Option Bool | .none => some false | _ => some true
def b1 (op : D → Option Bool) (f : Den) : DenB := fun ρ => (f ρ).bind op
def bAnd (f g : DenB) : DenB := fun ρ => (f ρ).bind fun b => if b then g ρ else some false
def bOr (f g : DenB) : DenB := fun ρ => (f ρ).bind fun b => if b then some true else g ρ
def bNot (f : DenB) : DenB := fun ρ => (f ρ).bind fun b => some (!b)
def bCh (op op' : D → D → Option Bool) (f g h : Den) : DenB := fun ρ => (f ρ).bind fun x => (g ρ).bind fun y => (op x y).bind fun b => if b then (h ρ).bind fun z => op' y z else some false
def dIf (c : DenB) (f g : Den) : Den := fun ρ => (c ρ).bind fun b => if b then f ρ else g ρ
def truD : D → Option Bool
  | .none => some false
  | .bool b => some b
  | .int i => some (i != 0)
  | .list xs => some (!xs.isEmpty)
  | .tuple xs => some (!xs.isEmpty)
  | _ => none

section
variable {X : Cx} {a b c : Expr} {f g : Den} {fb gb : DenB} {pos : Pos}
def tBl (K : PySem.W.Frag) (f : DenB) : TE := fun σ H Q => ∃ ρ F b, EnvOk K ρ σ F H ∧ f ρ = some b ∧ ∀ F' H', Ext F H F' H' → Q (.bl b) H'
structure EC (X : Cx) (op : CmpOp) (a b : Expr) (f : DenB) : Prop where
  pc : PC X op a b (tBl X.K f)
theorem PC.imp {op : CmpOp} {t t' : TE} (h : PC X op a b t) (i : ∀ σ H Q, t' σ H Q → t σ H Q) : PC X op a b t' := ⟨fun pins s σ H Q I hw => h.run pins s σ H Q I (i σ H Q hw)⟩
theorem pc_op {op : CmpOp} {r : R2} {ta tb : TE} (ho : OpR X (compareOp op) r) (ha : PE X a ta) (hb : PE X b tb) : PC X op a b (tOp r ta tb) :=
  ⟨fun pins s σ H Q I h => binT ha hb I h fun v u s2 x y H2 I2 rx ry q => ho pins s2 σ H2 x y v u Q I2 rx ry q⟩
theorem mkC {op : CmpOp} {o : D → D → Option Bool} {r : R2} (ho : OpR X (compareOp op) r) (ha : EB X a f) (hb : EB X b g)
    (hr : ∀ x y u v d F H Q, o x y = some d → Le F H → RpB X.K F H x u → RpB X.K F H y v → Q (.bl d) H → r u v H Q) : EC X op a b (b2 o f g) :=
  ⟨PC.imp (pc_op ho ha.pe hb.pe) fun σ H Q ⟨ρ, F, d, e, h, k⟩ => by
    simp only [b2, Option.bind_eq_some_iff] at h
    obtain ⟨x, h1, y, h2, h3⟩ := h
    exact ⟨ρ, F, x, e, h1, fun u F1 H1 x1 r1 => ⟨ρ, F1, y, e.ext x1, h2, fun v F2 H2 x2 r2 => hr x y u v d F2 H2 Q h3 x2.le (r1.ext x2) r2 (k F2 H2 (x1.trans x2))⟩⟩⟩
theorem ec_eq (hu : X.A.units + 64 < cLine) (ha : EB X a f) (hb : EB X b g) : EC X .Eq a b (b2 eqD f g) :=
  mkC (op_eqD hu) ha hb fun x y u v d F H Q e s ru rv k => by
    unfold eqD at e
    split at e
    · rename_i h
      cases e
      rw [Bool.and_eq_true] at h
      exact ⟨x, y, ru.dp s (plain_of_shaped h.1), rv.dp s (plain_of_shaped h.2), h.1, h.2, k⟩
    · cases e
theorem ec_ne (hu : X.A.units + 64 < cLine) (ha : EB X a f) (hb : EB X b g) : EC X .NotEq a b (b2 neD f g) :=
  mkC (op_neD hu) ha hb fun x y u v d F H Q e s ru rv k => by
    unfold neD at e
    split at e
    · rename_i h
      cases e
      rw [Bool.and_eq_true] at h
      exact ⟨x, y, ru.dp s (plain_of_shaped h.1), rv.dp s (plain_of_shaped h.2), h.1, h.2, k⟩
    · cases e
def rOrdD (K : PySem.W.Frag) (z : D → D → Bool) : R2 := fun x y H Q => ∃ d e, Dp K H x d ∧ Dp K H y e ∧ ordOk d e = true ∧ Q (.bl (z d e)) H
theorem ord_parts {d e : D} (h : ordOk d e = true) : SeqAt.shaped d = true ∧ SeqAt.shaped e = true ∧ PySem.W.alike d e = true ∧ d ≠ .none := by
  unfold ordOk at h
  rw [Bool.and_eq_true, Bool.and_eq_true, Bool.and_eq_true] at h
  refine ⟨h.1.1.1, h.1.1.2, h.1.2, ?_⟩
  rintro rfl
  exact Bool.noConfusion h.2
theorem depth64 {d : D} (h : SeqAt.shaped d = true) : d.depth ≤ 64 := by
  unfold SeqAt.shaped at h
  rw [Bool.and_eq_true] at h
  exact of_decide_eq_true h.2
theorem op_ordD {op : CmpOp} {z : D → D → Bool} (hu : X.A.units + 64 < cLine)
    (rule : ∀ {da db : D} {s : Shared} {a b : Value} {as bs : List Addr} {Q : Value → Shared → Prop}, Reads s.heap a da as → Reads s.heap b db bs → PySem.W.alike da db = true → da ≠ .none → X.A.units + min da.depth db.depth < cLine → Q (.bool (z da db)) s → wpAny (model X.prog X.w) X.A (compareOp op a b) Q X.xe s) :
    OpR X (compareOp op) (rOrdD X.K z) := by
  intro pins s σ H x y v u Q I rx ry h
  obtain ⟨d, e, hd, he, ho, q⟩ := h
  obtain ⟨as, r1⟩ := Dp.reads I d x v hd rx
  obtain ⟨bs, r2⟩ := Dp.reads I e y u he ry
  obtain ⟨s1, s2, s3, s4⟩ := ord_parts ho
  have h1 := depth64 s1
  exact rule r1 r2 s3 s4 (by have : min d.depth e.depth ≤ d.depth := Nat.min_le_left _ _; omega) ⟨.bl _, H, I, rfl, q⟩
theorem ec_ord {op : CmpOp} {z : D → D → Bool} (ho : OpR X (compareOp op) (rOrdD X.K z)) (ha : EB X a f) (hb : EB X b g) : EC X op a b (b2 (fun x y => if ordOk x y then some (z x y) else none) f g) :=
  mkC ho ha hb fun x y u v d F H Q e s ru rv k => by
    split at e
    · rename_i h
      cases e
      obtain ⟨s1, s2, _, _⟩ := ord_parts h
      exact ⟨x, y, ru.dp s (plain_of_shaped s1), rv.dp s (plain_of_shaped s2), h, k⟩
    · cases e
theorem ec_lt (hu : X.A.units + 64 < cLine) (ha : EB X a f) (hb : EB X b g) : EC X .Lt a b (b2 ltD f g) := ec_ord (op_ordD hu fun r1 r2 h1 h2 h3 h4 => PySem.W.lt_data r1 r2 h1 h2 h3 h4) ha hb
theorem ec_gt (hu : X.A.units + 64 < cLine) (ha : EB X a f) (hb : EB X b g) : EC X .Gt a b (b2 gtD f g) := ec_ord (op_ordD hu fun r1 r2 h1 h2 h3 h4 => PySem.W.gt_data r1 r2 h1 h2 h3 h4) ha hb
theorem ec_le (hu : X.A.units + 64 < cLine) (ha : EB X a f) (hb : EB X b g) : EC X .LtE a b (b2 leD f g) := ec_ord (op_ordD hu fun r1 r2 h1 h2 h3 h4 => PySem.W.le_data r1 r2 h1 h2 h3 h4) ha hb
theorem ec_ge (hu : X.A.units + 64 < cLine) (ha : EB X a f) (hb : EB X b g) : EC X .GtE a b (b2 geD f g) := ec_ord (op_ordD hu fun r1 r2 h1 h2 h3 h4 => PySem.W.ge_data r1 r2 h1 h2 h3 h4) ha hb
theorem ec_int {op : CmpOp} {o : D → D → Option Bool} {z : Int → Int → Bool} (ho : OpR X (compareOp op) (rI0 fun i j => .bl (z i j))) (h : ∀ x y d, o x y = some d → ∃ i j, x = .int i ∧ y = .int j ∧ d = z i j) (ha : EB X a f) (hb : EB X b g) : EC X op a b (b2 o f g) :=
  mkC ho ha hb fun x y u v d F H Q e s ru rv k => by
    obtain ⟨i, j, rfl, rfl, rfl⟩ := h x y d e
    exact ⟨i, j, ru.int, rv.int, k⟩
theorem ltI_i (x y : D) (d : Bool) (e : ltI x y = some d) : ∃ i j, x = .int i ∧ y = .int j ∧ d = decide (i < j) := by
  cases x <;> cases y <;> simp only [ltI, reduceCtorEq, Option.some.injEq] at e
  exact ⟨_, _, rfl, rfl, e.symm⟩
theorem leI_i (x y : D) (d : Bool) (e : leI x y = some d) : ∃ i j, x = .int i ∧ y = .int j ∧ d = decide (i ≤ j) := by
  cases x <;> cases y <;> simp only [leI, reduceCtorEq, Option.some.injEq] at e
  exact ⟨_, _, rfl, rfl, e.symm⟩
theorem gtI_i (x y : D) (d : Bool) (e : gtI x y = some d) : ∃ i j, x = .int i ∧ y = .int j ∧ d = decide (j < i) := by
  cases x <;> cases y <;> simp only [gtI, reduceCtorEq, Option.some.injEq] at e
  exact ⟨_, _, rfl, rfl, e.symm⟩
theorem geI_i (x y : D) (d : Bool) (e : geI x y = some d) : ∃ i j, x = .int i ∧ y = .int j ∧ d = decide (j ≤ i) := by
  cases x <;> cases y <;> simp only [geI, reduceCtorEq, Option.some.injEq] at e
  exact ⟨_, _, rfl, rfl, e.symm⟩
theorem ec_ltI (ha : EB X a f) (hb : EB X b g) : EC X .Lt a b (b2 ltI f g) := ec_int op_lt ltI_i ha hb
theorem ec_leI (ha : EB X a f) (hb : EB X b g) : EC X .LtE a b (b2 leI f g) := ec_int op_le leI_i ha hb
theorem ec_gtI (ha : EB X a f) (hb : EB X b g) : EC X .Gt a b (b2 gtI f g) := ec_int op_gt gtI_i ha hb
theorem ec_geI (ha : EB X a f) (hb : EB X b g) : EC X .GtE a b (b2 geI f g) := ec_int op_ge geI_i ha hb
theorem ec_isN {j pos'} (ha : EB X a f) : EC X .Is a (.Constant .none j pos') (b1 isN f) :=
  ⟨PC.imp (pc_isN ha.pe) fun σ H Q ⟨ρ, F, d, e, h, k⟩ => by
    simp only [b1, Option.bind_eq_some_iff] at h
    obtain ⟨x, h1, h3⟩ := h
    refine ⟨ρ, F, x, e, h1, fun u F1 H1 x1 r1 => ?_⟩
    have z := k F1 H1 x1
    show Q (.bl (decide (u = .non))) H1
    rw [r1.isN]
    cases x <;> simp only [isN, Option.some.injEq] at h3 <;> subst h3 <;> exact z⟩
theorem ec_notN {j pos'} (ha : EB X a f) : EC X .IsNot a (.Constant .none j pos') (b1 notN f) :=
  ⟨PC.imp (pc_notN ha.pe) fun σ H Q ⟨ρ, F, d, e, h, k⟩ => by
    simp only [b1, Option.bind_eq_some_iff] at h
    obtain ⟨x, h1, h3⟩ := h
    refine ⟨ρ, F, x, e, h1, fun u F1 H1 x1 r1 => ?_⟩
    have z := k F1 H1 x1
    show Q (.bl (!decide (u = .non))) H1
    rw [r1.isN]
    cases x <;> simp only [notN, Option.some.injEq] at h3 <;> subst h3 <;> exact z⟩
/-! ### a comparison as a value, as a test -/
theorem ex_cmp {op : CmpOp} (h : EC X op a b fb) (hm : behindInMarks op b = false) : EX X (.Compare a [op] [b] pos) (bV fb) :=
  mkX (pe_cmp h.pc hm) fun σ H Q ρ F d e h k => by
    simp only [bV, Option.bind_eq_some_iff, Option.some.injEq] at h
    obtain ⟨x, h1, rfl⟩ := h
    exact ⟨ρ, F, x, e, h1, fun F1 H1 x1 => k _ F1 H1 x1 (.bl _)⟩
theorem et_cmp {op : CmpOp} (h : EC X op a b fb) (hm : behindInMarks op b = false) : ET X (.Compare a [op] [b] pos) fb :=
  mkTs (pt_cmp h.pc hm) fun σ H Q ρ F d e h k => ⟨ρ, F, d, e, h, fun F1 H1 x1 => ⟨d, rfl, k F1 H1 x1⟩⟩
/-! ### chains of ints -/
theorem chain_t {h : Den} {o o' : D → D → Option Bool} {z z' : Int → Int → Bool} (ho : ∀ x y d, o x y = some d → ∃ i j, x = .int i ∧ y = .int j ∧ d = z i j) (ho' : ∀ x y d, o' x y = some d → ∃ i j, x = .int i ∧ y = .int j ∧ d = z' i j)
    {σ : L2.St} {H : Hp} {Q : VK} {ρ : Env} {F : Hp} {d : Bool} (e : EnvOk X.K ρ σ F H) (hd : bCh o o' f g h ρ = some d) (k : ∀ F' H', Ext F H F' H' → Q (.bl d) H') :
    tChain (rI0 fun i j => .bl (z i j)) (rI0 fun i j => .bl (z' i j)) (tB' X.K f) (tB' X.K g) (tB' X.K h) σ H Q := by
  simp only [bCh, Option.bind_eq_some_iff] at hd
  obtain ⟨x, h1, y, h2, b0, h3, h4⟩ := hd
  obtain ⟨i, j, rfl, rfl, rfl⟩ := ho x y b0 h3
  refine ⟨ρ, F, _, e, h1, fun u F1 H1 x1 r1 => ⟨ρ, F1, _, e.ext x1, h2, fun v F2 H2 x2 r2 => ⟨i, j, (r1.ext x2).int, r2.int, _, rfl, ?_⟩⟩⟩
  split
  · rename_i hb
    rw [if_pos hb] at h4
    simp only [Option.bind_eq_some_iff] at h4
    obtain ⟨w, h5, h6⟩ := h4
    obtain ⟨i', j', ei, rfl, rfl⟩ := ho' _ w d h6
    cases ei
    exact ⟨ρ, F2, _, (e.ext x1).ext x2, h5, fun v3 F3 H3 x3 r3 => ⟨j, j', (r2.ext x3).int, r3.int, k F3 H3 ((x1.trans x2).trans x3)⟩⟩
  · rename_i hb
    rw [if_neg hb] at h4
    cases h4
    exact k F2 H2 (x1.trans x2)
theorem ex_chain {h : Den} {op op' : CmpOp} {o o' : D → D → Option Bool} {z z' : Int → Int → Bool} (hop : OpR X (compareOp op) (rI0 fun i j => .bl (z i j))) (hop' : OpR X (compareOp op') (rI0 fun i j => .bl (z' i j)))
    (ho : ∀ x y d, o x y = some d → ∃ i j, x = .int i ∧ y = .int j ∧ d = z i j) (ho' : ∀ x y d, o' x y = some d → ∃ i j, x = .int i ∧ y = .int j ∧ d = z' i j) (ha : EB X a f) (hb : EB X b g) (hc : EB X c h)
    (hm : lastMarks [op, op'] [b, c] = false) : EX X (.Compare a [op, op'] [b, c] pos) (bV (bCh o o' f g h)) :=
  mkX (pe_chain hop hop' ha.pe hb.pe hc.pe hm) fun σ H Q ρ F d e h k => by
    simp only [bV, Option.bind_eq_some_iff, Option.some.injEq] at h
    obtain ⟨x, h1, rfl⟩ := h
    exact chain_t ho ho' e h1 fun F' H' x' => k _ F' H' x' (.bl _)
theorem et_chain {h : Den} {op op' : CmpOp} {o o' : D → D → Option Bool} {z z' : Int → Int → Bool} (hop : OpR X (compareOp op) (rI0 fun i j => .bl (z i j))) (hop' : OpR X (compareOp op') (rI0 fun i j => .bl (z' i j)))
    (ho : ∀ x y d, o x y = some d → ∃ i j, x = .int i ∧ y = .int j ∧ d = z i j) (ho' : ∀ x y d, o' x y = some d → ∃ i j, x = .int i ∧ y = .int j ∧ d = z' i j) (ha : EB X a f) (hb : EB X b g) (hc : EB X c h)
    (hm : lastMarks [op, op'] [b, c] = false) : ET X (.Compare a [op, op'] [b, c] pos) (bCh o o' f g h) :=
  mkTs (pt_chain hop hop' ha.pe hb.pe hc.pe hm) fun σ H Q ρ F d e h k => chain_t (Q := fun x H' => ∃ k, x = .bl k ∧ Q k H') ho ho' e h fun F' H' x' => ⟨d, rfl, k F' H' x'⟩
theorem et_leLe {h : Den} (ha : EB X a f) (hb : EB X b g) (hc : EB X c h) (hm : lastMarks [.LtE, .LtE] [b, c] = false) : ET X (.Compare a [.LtE, .LtE] [b, c] pos) (bCh leI leI f g h) := et_chain op_le op_le leI_i leI_i ha hb hc hm
theorem et_leLt {h : Den} (ha : EB X a f) (hb : EB X b g) (hc : EB X c h) (hm : lastMarks [.LtE, .Lt] [b, c] = false) : ET X (.Compare a [.LtE, .Lt] [b, c] pos) (bCh leI ltI f g h) := et_chain op_le op_lt leI_i ltI_i ha hb hc hm
theorem et_ltLe {h : Den} (ha : EB X a f) (hb : EB X b g) (hc : EB X c h) (hm : lastMarks [.Lt, .LtE] [b, c] = false) : ET X (.Compare a [.Lt, .LtE] [b, c] pos) (bCh ltI leI f g h) := et_chain op_lt op_le ltI_i leI_i ha hb hc hm
theorem et_ltLt {h : Den} (ha : EB X a f) (hb : EB X b g) (hc : EB X c h) (hm : lastMarks [.Lt, .Lt] [b, c] = false) : ET X (.Compare a [.Lt, .Lt] [b, c] pos) (bCh ltI ltI f g h) := et_chain op_lt op_lt ltI_i ltI_i ha hb hc hm
theorem ex_leLe {h : Den} (ha : EB X a f) (hb : EB X b g) (hc : EB X c h) (hm : lastMarks [.LtE, .LtE] [b, c] = false) : EX X (.Compare a [.LtE, .LtE] [b, c] pos) (bV (bCh leI leI f g h)) := ex_chain op_le op_le leI_i leI_i ha hb hc hm
theorem ex_leLt {h : Den} (ha : EB X a f) (hb : EB X b g) (hc : EB X c h) (hm : lastMarks [.LtE, .Lt] [b, c] = false) : EX X (.Compare a [.LtE, .Lt] [b, c] pos) (bV (bCh leI ltI f g h)) := ex_chain op_le op_lt leI_i ltI_i ha hb hc hm
theorem ex_ltLt {h : Den} (ha : EB X a f) (hb : EB X b g) (hc : EB X c h) (hm : lastMarks [.Lt, .Lt] [b, c] = false) : EX X (.Compare a [.Lt, .Lt] [b, c] pos) (bV (bCh ltI ltI f g h)) := ex_chain op_lt op_lt ltI_i ltI_i ha hb hc hm
/-! ### in, not in: a list or a tuple -/
def rInZ (K : PySem.W.Frag) (neg : Bool) : R2 := fun x y H Q => ∃ d ds, Dp K H x d ∧ (Dp K H y (.list ds) ∨ Dp K H y (.tuple ds)) ∧ SeqAt.shaped d = true ∧ SeqAt.shaped (.list ds) = true ∧ Q (.bl (if neg then !ds.any (fun z => PyData.eqv z d) else ds.any fun z => PyData.eqv z d)) H
theorem shaped_lt {ds : List D} : SeqAt.shaped (.list ds) = SeqAt.shaped (.tuple ds) := rfl
theorem inz_room {A : Around} {d : D} {n : Nat} (h : SeqAt.shaped d = true) (hu : A.units + 65 < cLine) : A.units + 1 + min n d.depth < cLine := by
  have h1 := depth64 h
  have : min n d.depth ≤ d.depth := Nat.min_le_right _ _
  omega
theorem plainAll_of {ds : List D} (h : SeqAt.shaped (.list ds) = true) : PyData.plainAll ds = true := by
  have := plain_of_shaped h
  simpa [PyData.plain] using this
theorem op_inZ (hu : X.A.units + 65 < cLine) : OpR X (compareOp .In) (rInZ X.K false) := by
  intro pins s σ H x y v u Q I rx ry h
  obtain ⟨d, ds, hd, he, sd, se, q⟩ := h
  obtain ⟨as, r1⟩ := Dp.reads I d x v hd rx
  rcases he with he | he
  · obtain ⟨bs, r2⟩ := Dp.reads I (.list ds) y u he ry
    exact SeqAt.in_list_data r2 r1 (plainAll_of se) (plain_of_shaped sd) (inz_room sd hu) ⟨.bl _, H, I, rfl, q⟩
  · obtain ⟨bs, r2⟩ := Dp.reads I (.tuple ds) y u he ry
    exact SeqAt.in_tuple_data r2 r1 (plainAll_of se) (plain_of_shaped sd) (inz_room sd hu) ⟨.bl _, H, I, rfl, q⟩
theorem op_ninZ (hu : X.A.units + 65 < cLine) : OpR X (compareOp .NotIn) (rInZ X.K true) := by
  intro pins s σ H x y v u Q I rx ry h
  obtain ⟨d, ds, hd, he, sd, se, q⟩ := h
  obtain ⟨as, r1⟩ := Dp.reads I d x v hd rx
  rcases he with he | he
  · obtain ⟨bs, r2⟩ := Dp.reads I (.list ds) y u he ry
    exact SeqAt.notIn_list_data r2 r1 (plainAll_of se) (plain_of_shaped sd) (inz_room sd hu) ⟨.bl _, H, I, rfl, q⟩
  · obtain ⟨bs, r2⟩ := Dp.reads I (.tuple ds) y u he ry
    exact SeqAt.notIn_tuple_data r2 r1 (plainAll_of se) (plain_of_shaped sd) (inz_room sd hu) ⟨.bl _, H, I, rfl, q⟩
theorem inD_parts {x y : D} {b : Bool} (e : inD x y = some b) : ∃ ds, (y = .list ds ∨ y = .tuple ds) ∧ SeqAt.shaped x = true ∧ SeqAt.shaped (.list ds) = true ∧ b = ds.any fun z => PyData.eqv z x := by
  cases y <;> simp only [inD, reduceCtorEq] at e <;> split at e
  · rename_i h
    rw [Bool.and_eq_true] at h
    cases e
    exact ⟨_, .inl rfl, h.1, h.2, rfl⟩
  · cases e
  · rename_i h
    rw [Bool.and_eq_true] at h
    cases e
    exact ⟨_, .inr rfl, h.1, h.2, rfl⟩
  · cases e
theorem dp_seq {K : PySem.W.Frag} {F H : Hp} {y : D} {ds : List D} {v : V} (s : Le F H) (hy : y = .list ds ∨ y = .tuple ds) (h : SeqAt.shaped (.list ds) = true) (r : RpB K F H y v) : Dp K H v (.list ds) ∨ Dp K H v (.tuple ds) := by
  rcases hy with rfl | rfl
  · exact .inl (r.dp s (plain_of_shaped h))
  · exact .inr (r.dp s (plain_of_shaped (shaped_lt ▸ h)))
theorem ec_in (hu : X.A.units + 65 < cLine) (ha : EB X a f) (hb : EB X b g) : EC X .In a b (b2 inD f g) :=
  mkC (op_inZ hu) ha hb fun x y u v d F H Q e s ru rv k => by
    obtain ⟨ds, hy, sx, sy, rfl⟩ := inD_parts e
    exact ⟨x, ds, ru.dp s (plain_of_shaped sx), dp_seq s hy sy rv, sx, sy, k⟩
theorem ec_nin (hu : X.A.units + 65 < cLine) (ha : EB X a f) (hb : EB X b g) : EC X .NotIn a b (b2 ninD f g) :=
  mkC (op_ninZ hu) ha hb fun x y u v d F H Q e s ru rv k => by
    simp only [ninD, Option.map_eq_some_iff] at e
    obtain ⟨b0, e, rfl⟩ := e
    obtain ⟨ds, hy, sx, sy, rfl⟩ := inD_parts e
    exact ⟨x, ds, ru.dp s (plain_of_shaped sx), dp_seq s hy sy rv, sx, sy, k⟩
/-! ### tests -/
/-- a test whatever its whole is -/
structure EW (X : Cx) (e : Expr) (f : DenB) : Prop where
  pw : PW X e (tTst X.K f)
theorem EW.t {e : Expr} (h : EW X e fb) : ET X e fb := ⟨h.pw.pt⟩
theorem PW.imp {e : Expr} {t t' : TT} (h : PW X e t) (i : ∀ σ H Q, t' σ H Q → t σ H Q) : PW X e t' := ⟨fun wh pins s σ H Q I hw => h.run wh pins s σ H Q I (i σ H Q hw)⟩
variable {rest : List Expr}
theorem ew_and1 (ha : ET X a fb) : EW X (.BoolOp .And [a] pos) fb := ⟨pw_and1 ha.pt⟩
theorem ew_or1 (ha : ET X a fb) : EW X (.BoolOp .Or [a] pos) fb := ⟨pw_or1 ha.pt⟩
theorem ew_and (ha : ET X a fb) (hb : EW X (.BoolOp .And (b :: rest) pos) gb) : EW X (.BoolOp .And (a :: b :: rest) pos) (bAnd fb gb) :=
  ⟨PW.imp (pw_and ha.pt hb.pw) fun σ H Q ⟨ρ, F, d, e, h, k⟩ => by
    simp only [bAnd, Option.bind_eq_some_iff] at h
    obtain ⟨x, h1, h2⟩ := h
    refine ⟨ρ, F, x, e, h1, fun F1 H1 x1 => ?_⟩
    cases x with
    | true => exact ⟨ρ, F1, d, e.ext x1, h2, fun F2 H2 x2 => k F2 H2 (x1.trans x2)⟩
    | false =>
      cases h2
      exact k F1 H1 x1⟩
theorem ew_or (ha : ET X a fb) (hb : EW X (.BoolOp .Or (b :: rest) pos) gb) : EW X (.BoolOp .Or (a :: b :: rest) pos) (bOr fb gb) :=
  ⟨PW.imp (pw_or ha.pt hb.pw) fun σ H Q ⟨ρ, F, d, e, h, k⟩ => by
    simp only [bOr, Option.bind_eq_some_iff] at h
    obtain ⟨x, h1, h2⟩ := h
    refine ⟨ρ, F, x, e, h1, fun F1 H1 x1 => ?_⟩
    cases x with
    | true =>
      cases h2
      exact k F1 H1 x1
    | false => exact ⟨ρ, F1, d, e.ext x1, h2, fun F2 H2 x2 => k F2 H2 (x1.trans x2)⟩⟩
theorem et_not (ha : ET X a fb) : ET X (.UnaryOp .Not a pos) (bNot fb) :=
  mkTs (pt_not ha.pt) fun σ H Q ρ F d e h k => by
    simp only [bNot, Option.bind_eq_some_iff, Option.some.injEq] at h
    obtain ⟨x, h1, rfl⟩ := h
    exact ⟨ρ, F, x, e, h1, fun F1 H1 x1 => k F1 H1 x1⟩
theorem truD_ok {K : PySem.W.Frag} {F H : Hp} {x : D} {v : V} {k : Bool} (s : Le F H) (r : RpB K F H x v) (h : truD x = some k) : TruV K v H k := by
  cases x <;> simp only [truD, Option.some.injEq, reduceCtorEq] at h
  · rw [r.none']; exact h.symm
  · rw [r.bool]; exact h.symm
  · rw [r.int]; exact h.symm
  · obtain ⟨a, xs, rfl, h1, h2⟩ := r.list s
    refine .inl ⟨xs, .inl (.inl h1), ?_⟩
    rw [← h]
    cases h2 <;> rfl
  · obtain ⟨a, xs, rfl, h1, h2⟩ := r.tuple s
    refine .inr (.inl ⟨xs, .inl (.inl h1), ?_⟩)
    rw [← h]
    cases h2 <;> rfl
/-- a value's truth -/
theorem et_val (ha : EB X a f) (he : ∀ whole, isTrue a X.env whole = (do let v ← whole; standAt a.pos; holding [v] (truthy v))) : ET X a (b1 truD f) :=
  mkTs (pt_truth ha.pe he) fun σ H Q ρ F d e h k => by
    simp only [b1, Option.bind_eq_some_iff] at h
    obtain ⟨x, h1, h2⟩ := h
    exact ⟨ρ, F, x, e, h1, fun v F1 H1 x1 r1 => ⟨d, truD_ok x1.le r1 h2, k F1 H1 x1⟩⟩
/-! ### and, or, not as values of bools -/
def dAnd (f g : Den) : Den := fun ρ => (f ρ).bind fun x => match x with | .bool true => g ρ | .bool false => some (.bool false) | _ => none
def dOr (f g : Den) : Den := fun ρ => (f ρ).bind fun x => match x with | .bool true => some (.bool true) | .bool false => g ρ | _ => none
theorem ex_one {op} (h : EX X a f) : EX X (.BoolOp op [a] pos) f := ⟨pe_one h.pe⟩
theorem ex_and (ha : EX X a f) (hb : EX X (.BoolOp .And (b :: rest) pos) g) : EX X (.BoolOp .And (a :: b :: rest) pos) (dAnd f g) :=
  mkX (pe_and ha.pe hb.pe) fun σ H Q ρ F d e h k => by
    simp only [dAnd, Option.bind_eq_some_iff] at h
    obtain ⟨x, h1, h2⟩ := h
    refine ⟨ρ, F, x, e, h1, fun v F1 H1 x1 r1 => ?_⟩
    split at h2
    · cases r1
      refine ⟨true, rfl, ?_⟩
      exact ⟨ρ, F1, d, e.ext x1, h2, fun w F2 H2 x2 r2 => k w F2 H2 (x1.trans x2) r2⟩
    · cases r1
      cases h2
      exact ⟨false, rfl, k _ F1 H1 x1 (.bl _)⟩
    · cases h2
theorem ex_or (ha : EX X a f) (hb : EX X (.BoolOp .Or (b :: rest) pos) g) : EX X (.BoolOp .Or (a :: b :: rest) pos) (dOr f g) :=
  mkX (pe_or ha.pe hb.pe) fun σ H Q ρ F d e h k => by
    simp only [dOr, Option.bind_eq_some_iff] at h
    obtain ⟨x, h1, h2⟩ := h
    refine ⟨ρ, F, x, e, h1, fun v F1 H1 x1 r1 => ?_⟩
    split at h2
    · cases r1
      cases h2
      exact ⟨true, rfl, k _ F1 H1 x1 (.bl _)⟩
    · cases r1
      refine ⟨false, rfl, ?_⟩
      exact ⟨ρ, F1, d, e.ext x1, h2, fun w F2 H2 x2 r2 => k w F2 H2 (x1.trans x2) r2⟩
    · cases h2
def notD : D → Option D | .bool b => some (.bool (!b)) | _ => none
theorem ex_not (ha : EX X a f) : EX X (.UnaryOp .Not a pos) (d1 notD f) :=
  mkX (pe_not ha.pe) fun σ H Q ρ F d e h k => by
    simp only [d1, Option.bind_eq_some_iff] at h
    obtain ⟨x, h1, h2⟩ := h
    refine ⟨ρ, F, x, e, h1, fun v F1 H1 x1 r1 => ?_⟩
    cases x <;> simp only [notD, reduceCtorEq, Option.some.injEq] at h2
    subst h2
    cases r1
    exact ⟨_, rfl, k _ F1 H1 x1 (.bl _)⟩
/-! ### a if c else b -/
theorem ex_if (hc : ET X c fb) (ha : EX X a f) (hb : EX X b g) : EX X (.IfExp c a b pos) (dIf fb f g) :=
  mkX (pe_ifExp hc.pt ha.pe hb.pe) fun σ H Q ρ F d e h k => by
    simp only [dIf, Option.bind_eq_some_iff] at h
    obtain ⟨x, h1, h2⟩ := h
    refine ⟨ρ, F, x, e, h1, fun F1 H1 x1 => ?_⟩
    cases x with
    | true => exact ⟨ρ, F1, d, e.ext x1, h2, fun w F2 H2 x2 r2 => k w F2 H2 (x1.trans x2) r2⟩
    | false => exact ⟨ρ, F1, d, e.ext x1, h2, fun w F2 H2 x2 r2 => k w F2 H2 (x1.trans x2) r2⟩
end
end Zx
/-! Zx4: subscripts, slices, built-in functions, what is walked. -/
namespace Zx
variable [Marked]
open PySem PySem.Spec L2
/-! ### denotations -/
def ixD : D → D → Option D
  | .list xs, .int i => atI xs i
  | .tuple xs, .int i => atI xs i
  | .dict [(.none, .list xs)], .int i => atI xs i
  | _, _ => none
abbrev DenO := Env → Option (Option Int)
def oNone : DenO := fun _ => some none
def oSome (f : Den) : DenO := fun ρ => (f ρ).bind fun x => match x with | .int i => some (some i) | _ => none
def cutL {α : Type} (xs : List α) (lo hi : Option Int) : List α := (xs.drop (HT.sIx xs.length 0 lo)).take (HT.sIx xs.length xs.length hi - HT.sIx xs.length 0 lo)
def cutD (lo hi : Option Int) : D → Option D
  | .list xs => some (.list (cutL xs lo hi))
  | .tuple xs => some (.tuple (cutL xs lo hi))
  | _ => none
def dSl (f : Den) (l h : DenO) : Den := fun ρ => (f ρ).bind fun x => (l ρ).bind fun lo => (h ρ).bind fun hi => cutD lo hi x
def lenD : D → Option D
  | .list xs => some (.int xs.length)
  | .tuple xs => some (.int xs.length)
  | .dict [(.none, .list xs)] => some (.int xs.length)
  | _ => none
def absD : D → Option D | .int i => some (.int (if i < 0 then -i else i)) | _ => none
def minD2 : D → D → Option D | .int i, .int j => some (.int (if j < i then j else i)) | _, _ => none
def maxD2 : D → D → Option D | .int i, .int j => some (.int (if j > i then j else i)) | _, _ => none
def intD : D → Option D | .int i => some (.int i) | .bool k => some (.int (if k then 1 else 0)) | _ => none
def intsOf : List D → Option (List Int)
  | [] => some []
  | .int i :: r => (intsOf r).bind fun is => some (i :: is)
  | _ => none
def bools : List D → Option (List Bool)
  | [] => some []
  | .bool i :: r => (bools r).bind fun is => some (i :: is)
  | _ => none
def sumD : D → Option D | .list xs => (intsOf xs).bind fun is => some (.int is.sum) | _ => none
def anyD : D → Option D | .list xs => (bools xs).bind fun is => some (.bool (is.any id)) | _ => none
def allD : D → Option D | .list xs => (bools xs).bind fun is => some (.bool (is.all id)) | _ => none
def tupD : D → Option D | .list xs => some (.tuple xs) | .tuple xs => some (.tuple xs) | _ => none
def gcdD : D → D → Option D | .int a, .int b => some (.int (Nat.gcd a.natAbs b.natAbs : Nat)) | _, _ => none
def rgL (lo : Int) (n : Nat) : List D := (List.range n).map fun i => .int (lo + (i : Nat))
def rg1 : D → Option (List D) | .int j => if j.natAbs ≤ 1000000 then some (rgL 0 j.toNat) else none | _ => none
def rg2 : D → D → Option (List D) | .int i, .int j => if j.natAbs ≤ 1000000 ∧ i.natAbs ≤ 1000000 then some (rgL i (j - i).toNat) else none | _, _ => none
abbrev DenI := Env → Option (List D)
def iSeq (f : Den) : DenI := fun ρ => (f ρ).bind seqOf
def iR1 (f : Den) : DenI := fun ρ => (f ρ).bind rg1
def iR2 (f g : Den) : DenI := fun ρ => (f ρ).bind fun x => (g ρ).bind fun y => rg2 x y
def enumL (xs : List D) : List D := (List.range xs.length).zipWith (fun i x => .tuple [.int (i : Nat), x]) xs
def zipL (xs ys : List D) : List D := xs.zipWith (fun x y => .tuple [x, y]) ys
def iEn (f : Den) : DenI := fun ρ => (f ρ).bind fun x => match x with | .list xs => some (enumL xs) | _ => none
def iZp (f g : Den) : DenI := fun ρ => (f ρ).bind fun x => (g ρ).bind fun y => match x, y with | .list xs, .list ys => some (zipL xs ys) | _, _ => none

theorem RpK.nn {K : PySem.W.Frag} {F : Hp} {l : List (D × D)} {kvs : List (Key × V)} (h : RpK K F l kvs) {d : D} {r : List (D × D)} (e : l = (.none, d) :: r) : False := by
  cases h with
  | nil => cases e
  | @cons k _ _ _ _ _ _ =>
    injection e with e1 _
    injection e1 with e2 _
    cases k <;> cases e2
theorem RpB.scr {K : PySem.W.Frag} {F H : Hp} {xs : List D} {v : V} (s : Le F H) (h : RpB K F H (.dict [(.none, .list xs)]) v) : ∃ (a : Addr) (ns : List Int), v = .ref a ∧ xs = ns.map .int ∧ SqL K H a (ns.map V.int) := by
  rcases h with h | ⟨_, o, _, _, _, h⟩
  · generalize hz : PyData.dict [(.none, .list xs)] = z at h
    cases h with
    | non => cases hz
    | bl => cases hz
    | int => cases hz
    | str => cases hz
    | lst => cases hz
    | tup => cases hz
    | dK h1 h2 =>
      injection hz with hz
      exact (h2.nn hz.symm).elim
    | dT h1 h2 =>
      injection hz with hz
      injection hz with hz _
      injection hz with hz _
      cases hz
    | @scr a ns h =>
      unfold scrD at hz
      injection hz with hz
      injection hz with hz _
      injection hz with _ hz
      injection hz with hz
      subst hz
      refine ⟨a, ns, rfl, rfl, ?_⟩
      rcases h with h | h
      · exact .inl (s.rd h (fun _ z => nomatch z))
      · exact .inr h
  · generalize hz : PyData.dict [(.none, .list xs)] = z at h
    cases h with
    | lst => cases hz
    | dK h2 =>
      injection hz with hz
      exact (h2.nn hz.symm).elim
    | dT h2 =>
      injection hz with hz
      injection hz with hz _
      injection hz with hz _
      cases hz
theorem ixN_len {α β : Type} {xs : List α} {ys : List β} (h : xs.length = ys.length) (i : Int) : ixN xs.length i = ixN ys.length i := by rw [h]
section
variable {X : Cx} {a b c : Expr} {f g : Den} {fl : DenL} {pos : Pos} {K : PySem.W.Frag} {F H : Hp}
theorem RpL.atI {ds : List D} {vs : List V} {i : Int} {d : D} (r : RpL K F ds vs) (h : L2.atI ds i = some d) : ∃ v, L2.atI vs i = some v ∧ Rp K F d v := by
  unfold L2.atI at h ⊢
  rw [Option.bind_eq_some_iff] at h
  obtain ⟨j, h1, h2⟩ := h
  obtain ⟨v, h3, h4⟩ := r.get h2
  exact ⟨v, by rw [ixN_len r.length, h1]; exact h3, h4⟩
theorem ex_ix (ha : EB X a f) (hb : EB X b g) (hs : PlainIx b) : EX X (.Subscript a b pos) (d2 ixD f g) := by
  refine ex_op2 (ta := tC .non) (tb := tC .non) (pe_ix (ix_list.or ix_tup) ha.pe hb.pe hs) fun x y u v d F H Q e s ru rv k => ?_
  unfold ixD at e
  split at e
  · obtain ⟨p, xs, rfl, hp, rp⟩ := ru.list s
    obtain ⟨w, h1, h2⟩ := rp.atI e
    exact .inl ⟨p, xs, _, w, rfl, rv.int, .inl (.inl hp), h1, k w F H (.refl s) h2⟩
  · obtain ⟨p, xs, rfl, hp, rp⟩ := ru.tuple s
    obtain ⟨w, h1, h2⟩ := rp.atI e
    exact .inr ⟨p, xs, _, w, rfl, rv.int, .inl (.inl hp), h1, k w F H (.refl s) h2⟩
  · obtain ⟨p, ns, rfl, rfl, hp⟩ := ru.scr s
    obtain ⟨w, h1, h2⟩ := (RpL.ints (K := X.K) (F := F) ns).atI e
    exact .inl ⟨p, _, _, w, rfl, rv.int, hp, h1, k w F H (.refl s) h2⟩
  · cases e
/-! ### slices -/
def tO (K : PySem.W.Frag) (f : DenO) : TO := fun σ H Q => ∃ ρ F o, EnvOk K ρ σ F H ∧ f ρ = some o ∧ ∀ F' H', Ext F H F' H' → Q o H'
structure EO (X : Cx) (e : Option Expr) (f : DenO) : Prop where
  po : PO X e (tO X.K f)
theorem PO.imp {e : Option Expr} {t t' : TO} (h : PO X e t) (i : ∀ σ H Q, t' σ H Q → t σ H Q) : PO X e t' := ⟨fun pins s σ H Q I hw => h.run pins s σ H Q I (i σ H Q hw)⟩
theorem eo_none : EO X none oNone := ⟨PO.imp po_none fun σ H Q ⟨ρ, F, o, e, h, k⟩ => by
  cases h
  exact k F H (.refl e.sub)⟩
theorem eo_some (ha : EB X a f) : EO X (some a) (oSome f) := ⟨PO.imp (po_some ha.pe) fun σ H Q ⟨ρ, F, o, e, h, k⟩ => by
  simp only [oSome, Option.bind_eq_some_iff] at h
  obtain ⟨x, h1, h2⟩ := h
  refine ⟨ρ, F, x, e, h1, fun v F1 H1 x1 r1 => ?_⟩
  cases x <;> simp only [reduceCtorEq, Option.some.injEq] at h2
  subst h2
  exact ⟨_, r1.int, k F1 H1 x1⟩⟩
theorem cut_rp {ds : List D} {vs : List V} (r : RpL K F ds vs) (lo hi : Option Int) : RpL K F (cutL ds lo hi) (cutV vs lo hi) := by
  unfold cutL cutV
  rw [r.length]
  exact (r.drop _).take _
theorem sl_t {lo hi : Option Expr} {fl fh : DenO} {p2 : Pos} {r} {σ : L2.St} {H : Hp} {Q : VK} {ρ : Env} {F : Hp} {d : D} (e : EnvOk X.K ρ σ F H) (h : dSl f fl fh ρ = some d)
    (k : ∀ x lo hi v F' H', Ext F H F' H' → RpB X.K F' H' x v → cutD lo hi x = some d → r v lo hi H' Q) : tSl r (tB' X.K f) (tO X.K fl) (tO X.K fh) σ H Q := by
  simp only [dSl, Option.bind_eq_some_iff] at h
  obtain ⟨x, h1, lo, h2, hi, h3, h4⟩ := h
  exact ⟨ρ, F, x, e, h1, fun v F1 H1 x1 r1 => ⟨ρ, F1, lo, e.ext x1, h2, fun F2 H2 x2 => ⟨ρ, F2, hi, (e.ext x1).ext x2, h3, fun F3 H3 x3 => k x lo hi v F3 H3 ((x1.trans x2).trans x3) ((r1.ext x2).ext x3) h4⟩⟩⟩
theorem ex_sl {lo hi : Option Expr} {fl fh : DenO} {p2 : Pos} (ha : EB X a f) (hl : EO X lo fl) (hh : EO X hi fh) : EX X (.Subscript a (.Slice lo hi none p2) pos) (dSl f fl fh) :=
  mkX (pe_slice (sl_list.or sl_tupA) ha.pe hl.po hh.po) fun σ H Q ρ F d e h k => sl_t (p2 := p2) (lo := lo) (hi := hi) e h fun x lo hi v F' H' x' r' hd => by
    unfold cutD at hd
    split at hd
    · cases hd
      obtain ⟨p, xs, rfl, hp, rp⟩ := r'.list x'.le
      exact .inl ⟨p, xs, rfl, .inl (.inl hp), fun q hq => k _ _ _ (x'.trans (.add x'.le hq)) (.lst upd_same ((cut_rp rp lo hi).mono (Sub.new (x'.le.free hq))))⟩
    · cases hd
      obtain ⟨p, xs, rfl, hp, rp⟩ := r'.tuple x'.le
      refine .inr ⟨p, xs, rfl, .inl (.inl hp), fun hw => ?_, fun hw q hq => ?_⟩
      · refine k _ F' H' x' ?_
        rename_i ds
        have e1 : cutL ds lo hi = ds := by
          unfold cutL
          rw [← rp.length, hw.1, hw.2, List.drop_zero, Nat.sub_zero, rp.length, List.take_length]
        rw [e1]
        exact r'.elim id fun ⟨_, _, _, _, _, z⟩ => nomatch z
      · exact k _ _ _ (x'.trans (.add x'.le hq)) (.tup upd_same ((cut_rp rp lo hi).mono (Sub.new (x'.le.free hq))))
    · cases hd
/-- a slice of a list, the new list one's own -/
theorem en_sl {lo hi : Option Expr} {fl fh : DenO} {p2 : Pos} (ha : EB X a (fun ρ => (f ρ).bind fun x => match x with | .list xs => some (.list xs) | _ => none)) (hl : EO X lo fl) (hh : EO X hi fh) : EN X (.Subscript a (.Slice lo hi none p2) pos) (dSl (fun ρ => (f ρ).bind fun x => match x with | .list xs => some (.list xs) | _ => none) fl fh) :=
  mkN (pe_slice sl_list ha.pe hl.po hh.po) fun σ H Q ρ F d e h k => by
    have hx : ∃ xs, (f ρ) = some (.list xs) := by
      simp only [dSl, Option.bind_eq_some_iff] at h
      obtain ⟨x, ⟨y, h1, h2⟩, _⟩ := h
      cases y <;> simp only [reduceCtorEq] at h2
      exact ⟨_, h1⟩
    obtain ⟨ys, hys⟩ := hx
    simp only [dSl, Option.bind_eq_some_iff] at h
    obtain ⟨x, ⟨y, h1, h1'⟩, lo, h2, hi, h3, h4⟩ := h
    rw [hys] at h1
    cases h1
    simp only [Option.some.injEq] at h1'
    subst h1'
    simp only [cutD, Option.some.injEq] at h4
    subst h4
    refine ⟨ρ, F, .list ys, e, by show (f ρ).bind _ = _; rw [hys]; rfl, fun v F1 H1 x1 r1 => ⟨ρ, F1, lo, e.ext x1, h2, fun F2 H2 x2 => ⟨ρ, F2, hi, (e.ext x1).ext x2, h3, fun F3 H3 x3 => ?_⟩⟩⟩
    obtain ⟨p, xs, rfl, hp, rp⟩ := ((r1.ext x2).ext x3).list x3.le
    have x' := (x1.trans x2).trans x3
    exact ⟨p, xs, rfl, .inl (.inl hp), fun q hq => k q _ F3 _ (x'.trans (.own x'.le hq)) (x'.le.free hq) (x'.h.free hq) upd_same (.lst (cut_rp rp lo hi))⟩

/-! ### built-in functions of one or two values -/
theorem ex_c1 {op : D → Option D} {e : Expr} {r : List V → Hp → VK → Prop} (h : PE X e (tCB r (tCons (tB' X.K f) tNil)))
    (hr : ∀ x u d F H Q, op x = some d → Le F H → RpB X.K F H x u → (∀ w F' H', Ext F H F' H' → Rp X.K F' d w → Q w H') → r [u] H Q) : EX X e (d1 op f) :=
  mkX h fun σ H Q ρ F d e h k => by
    simp only [d1, Option.bind_eq_some_iff] at h
    obtain ⟨x, h1, h2⟩ := h
    exact ⟨ρ, F, x, e, h1, fun u F1 H1 x1 r1 => hr x u d F1 H1 Q h2 x1.le r1 fun w F' H' x2 rw => k w F' H' (x1.trans x2) rw⟩
theorem en_c1 {op : D → Option D} {e : Expr} {r : List V → Hp → VK → Prop} (h : PE X e (tCB r (tCons (tB' X.K f) tNil)))
    (hr : ∀ x u d F H Q, op x = some d → Le F H → RpB X.K F H x u → (∀ p o, H p = none → OwnRep X.K F d o → Q (.ref p) (upd H p o)) → r [u] H Q) : EN X e (d1 op f) :=
  mkN h fun σ H Q ρ F d e h k => by
    simp only [d1, Option.bind_eq_some_iff] at h
    obtain ⟨x, h1, h2⟩ := h
    exact ⟨ρ, F, x, e, h1, fun u F1 H1 x1 r1 => hr x u d F1 H1 Q h2 x1.le r1 fun p o hp ho => k p o F1 _ (x1.trans (.own x1.le hp)) (x1.le.free hp) (x1.h.free hp) upd_same ho⟩
theorem ex_c2 {op : D → D → Option D} {e : Expr} {r : List V → Hp → VK → Prop} (h : PE X e (tCB r (tCons (tB' X.K f) (tCons (tB' X.K g) tNil))))
    (hr : ∀ x y u v d F H Q, op x y = some d → Le F H → RpB X.K F H x u → RpB X.K F H y v → (∀ w F' H', Ext F H F' H' → Rp X.K F' d w → Q w H') → r [u, v] H Q) : EX X e (d2 op f g) :=
  mkX h fun σ H Q ρ F d e h k => by
    simp only [d2, Option.bind_eq_some_iff] at h
    obtain ⟨x, h1, y, h2, h3⟩ := h
    exact ⟨ρ, F, x, e, h1, fun u F1 H1 x1 r1 => ⟨ρ, F1, y, e.ext x1, h2, fun v F2 H2 x2 r2 => hr x y u v d F2 H2 Q h3 x2.le (r1.ext x2) r2 fun w F' H' x3 rw => k w F' H' ((x1.trans x2).trans x3) rw⟩⟩
variable {p : Pos}
abbrev N1 (X : Cx) (a : Expr) : Prop := starEach [a] X.env = (false, eval a X.env) :: starEach [] X.env
abbrev N2 (X : Cx) (a b : Expr) : Prop := starEach [a, b] X.env = (false, eval a X.env) :: starEach [b] X.env
theorem ex_len (hg : Gl X "len") (hm : X.mg "len" = none) (ha : EB X a f) (hs : N1 X a) : EX X (.Call (.Name "len" p) [a] [] pos) (d1 lenD f) :=
  ex_c1 (pe_callB call_len hg hm boot_len (pa_cons ha.pe pa_nil hs) (by decide) (by decide) hs rfl) fun x u d F H Q e s ru k => by
    unfold lenD at e
    split at e
    · cases e
      obtain ⟨q, xs, rfl, hq, rq⟩ := ru.list s
      rw [← rq.length] at k
      exact ⟨_, _, rfl, .inl ⟨xs, .inl (.inl hq), rfl⟩, k _ F H (.refl s) (.int _)⟩
    · cases e
      obtain ⟨q, xs, rfl, hq, rq⟩ := ru.tuple s
      rw [← rq.length] at k
      exact ⟨_, _, rfl, .inr ⟨xs, .inl (.inl hq), rfl⟩, k _ F H (.refl s) (.int _)⟩
    · cases e
      obtain ⟨q, ns, rfl, rfl, hq⟩ := ru.scr s
      rw [List.length_map] at k
      refine ⟨_, (ns.map V.int).length, rfl, .inl ⟨ns.map V.int, hq, rfl⟩, ?_⟩
      rw [List.length_map]
      exact k _ F H (.refl s) (.int _)
    · cases e
theorem ex_abs (hg : Gl X "abs") (hm : X.mg "abs" = none) (ha : EB X a f) (hs : N1 X a) : EX X (.Call (.Name "abs" p) [a] [] pos) (d1 absD f) :=
  ex_c1 (pe_callB call_abs hg hm rfl (pa_cons ha.pe pa_nil hs) (by decide) (by decide) hs rfl) fun x u d F H Q e s ru k => by
    cases x <;> simp only [absD, reduceCtorEq, Option.some.injEq] at e
    subst e
    exact ⟨_, congrArg (fun z => [z]) ru.int, k _ F H (.refl s) (.int _)⟩
theorem ex_int1 (hg : Gl X "int") (hm : X.mg "int" = none) (ha : EB X a f) (hs : N1 X a) : EX X (.Call (.Name "int" p) [a] [] pos) (d1 intD f) :=
  ex_c1 (pe_callTy call_int1 hg hm rfl (pa_cons ha.pe pa_nil hs) (by decide) (by decide) hs rfl) fun x u d F H Q e s ru k => by
    cases x <;> simp only [intD, reduceCtorEq, Option.some.injEq] at e
    · subst e
      exact .inr ⟨_, congrArg (fun z => [z]) ru.bool, k _ F H (.refl s) (.int _)⟩
    · subst e
      exact .inl ⟨_, congrArg (fun z => [z]) ru.int, k _ F H (.refl s) (.int _)⟩
theorem ex_min2 (hc : X.calm = true) (hg : Gl X "min") (hm : X.mg "min" = none) (ha : EB X a f) (hb : EB X b g) (hs : N2 X a b) (hs1 : N1 X b) : EX X (.Call (.Name "min" p) [a, b] [] pos) (d2 minD2 f g) :=
  ex_c2 (pe_callB (call_min2 hc) hg hm rfl (pa_cons ha.pe (pa_cons hb.pe pa_nil hs1) hs) (by decide) (by decide) hs (by rw [hs1]; rfl)) fun x y u v d F H Q e s ru rv k => by
    cases x <;> cases y <;> simp only [minD2, reduceCtorEq, Option.some.injEq] at e
    subst e
    exact ⟨_, _, by rw [ru.int, rv.int], k _ F H (.refl s) (.int _)⟩
theorem ex_max2 (hc : X.calm = true) (hg : Gl X "max") (hm : X.mg "max" = none) (ha : EB X a f) (hb : EB X b g) (hs : N2 X a b) (hs1 : N1 X b) : EX X (.Call (.Name "max" p) [a, b] [] pos) (d2 maxD2 f g) :=
  ex_c2 (pe_callB (call_max2 hc) hg hm rfl (pa_cons ha.pe (pa_cons hb.pe pa_nil hs1) hs) (by decide) (by decide) hs (by rw [hs1]; rfl)) fun x y u v d F H Q e s ru rv k => by
    cases x <;> cases y <;> simp only [maxD2, reduceCtorEq, Option.some.injEq] at e
    subst e
    exact ⟨_, _, by rw [ru.int, rv.int], k _ F H (.refl s) (.int _)⟩
theorem intsOf_eq : ∀ {xs : List D} {is : List Int}, intsOf xs = some is → xs = is.map .int
  | [], is, h => by cases h; rfl
  | .int i :: r, is, h => by
    simp only [intsOf, Option.bind_eq_some_iff, Option.some.injEq] at h
    obtain ⟨js, h1, rfl⟩ := h
    rw [intsOf_eq h1, List.map_cons]
  | .none :: r, is, h => by simp [intsOf] at h
  | .bool _ :: r, is, h => by simp [intsOf] at h
  | .str _ :: r, is, h => by simp [intsOf] at h
  | .list _ :: r, is, h => by simp [intsOf] at h
  | .tuple _ :: r, is, h => by simp [intsOf] at h
  | .dict _ :: r, is, h => by simp [intsOf] at h
theorem bools_eq : ∀ {xs : List D} {is : List Bool}, bools xs = some is → xs = is.map .bool
  | [], is, h => by cases h; rfl
  | .bool i :: r, is, h => by
    simp only [bools, Option.bind_eq_some_iff, Option.some.injEq] at h
    obtain ⟨js, h1, rfl⟩ := h
    rw [bools_eq h1, List.map_cons]
  | .none :: r, is, h => by simp [bools] at h
  | .int _ :: r, is, h => by simp [bools] at h
  | .str _ :: r, is, h => by simp [bools] at h
  | .list _ :: r, is, h => by simp [bools] at h
  | .tuple _ :: r, is, h => by simp [bools] at h
  | .dict _ :: r, is, h => by simp [bools] at h
theorem RpL.bls : ∀ {bs : List Bool} {vs : List V}, RpL K F (bs.map .bool) vs → vs = bs.map V.bl
  | [], _, .nil => rfl
  | n :: ns, _, .cons h t => by
    cases h
    rw [RpL.bls t, List.map_cons]
theorem ex_sum (hc : X.calm = true) (hg : Gl X "sum") (hm : X.mg "sum" = none) (ha : EB X a f) (hs : N1 X a) : EX X (.Call (.Name "sum" p) [a] [] pos) (d1 sumD f) :=
  ex_c1 (pe_callB (cr_sum hc) hg hm rfl (pa_cons ha.pe pa_nil hs) (by decide) (by decide) hs rfl) fun x u d F H Q e s ru k => by
    cases x <;> simp only [sumD, reduceCtorEq, Option.bind_eq_some_iff, Option.some.injEq] at e
    obtain ⟨is, h1, rfl⟩ := e
    have h2 := intsOf_eq h1
    subst h2
    obtain ⟨q, xs, rfl, hq, rq⟩ := ru.list s
    rw [rq.ints_inv] at hq
    exact ⟨q, is, rfl, .inl (.inl hq), k _ F H (.refl s) (.int _)⟩
theorem ex_any (hc : X.calm = true) (hg : Gl X "any") (hm : X.mg "any" = none) (ha : EB X a f) (hs : N1 X a) : EX X (.Call (.Name "any" p) [a] [] pos) (d1 anyD f) :=
  ex_c1 (pe_callB (cr_any hc) hg hm rfl (pa_cons ha.pe pa_nil hs) (by decide) (by decide) hs rfl) fun x u d F H Q e s ru k => by
    cases x <;> simp only [anyD, reduceCtorEq, Option.bind_eq_some_iff, Option.some.injEq] at e
    obtain ⟨is, h1, rfl⟩ := e
    have h2 := bools_eq h1
    subst h2
    obtain ⟨q, xs, rfl, hq, rq⟩ := ru.list s
    rw [rq.bls] at hq
    exact ⟨q, is, rfl, .inl (.inl hq), k _ F H (.refl s) (.bl _)⟩
theorem ex_all (hc : X.calm = true) (hg : Gl X "all") (hm : X.mg "all" = none) (ha : EB X a f) (hs : N1 X a) : EX X (.Call (.Name "all" p) [a] [] pos) (d1 allD f) :=
  ex_c1 (pe_callB (cr_all hc) hg hm rfl (pa_cons ha.pe pa_nil hs) (by decide) (by decide) hs rfl) fun x u d F H Q e s ru k => by
    cases x <;> simp only [allD, reduceCtorEq, Option.bind_eq_some_iff, Option.some.injEq] at e
    obtain ⟨is, h1, rfl⟩ := e
    have h2 := bools_eq h1
    subst h2
    obtain ⟨q, xs, rfl, hq, rq⟩ := ru.list s
    rw [rq.bls] at hq
    exact ⟨q, is, rfl, .inl (.inl hq), k _ F H (.refl s) (.bl _)⟩
theorem ex_gcd (hg : Gl X "gcd") (hm : X.mg "gcd" = some (.builtin "math.gcd")) (ha : EB X a f) (hb : EB X b g) (hs : N2 X a b) (hs1 : N1 X b) : EX X (.Call (.Name "gcd" p) [a, b] [] pos) (d2 gcdD f g) :=
  ex_c2 (pe_callBfun cr_gcd hg hm (pa_cons ha.pe (pa_cons hb.pe pa_nil hs1) hs) (by decide) hs (by rw [hs1]; rfl)) fun x y u v d F H Q e s ru rv k => by
    cases x <;> cases y <;> simp only [gcdD, reduceCtorEq, Option.some.injEq] at e
    subst e
    exact ⟨_, _, by rw [ru.int, rv.int], k _ F H (.refl s) (.int _)⟩
theorem ex_tuple (hg : Gl X "tuple") (hm : X.mg "tuple" = none) (ha : EB X a f) (hs : N1 X a) : EX X (.Call (.Name "tuple" p) [a] [] pos) (d1 tupD f) :=
  mkX (pe_tupleOf hg hm ha.pe hs) fun σ H Q ρ F d e h k => by
    simp only [d1, Option.bind_eq_some_iff] at h
    obtain ⟨x, h1, h2⟩ := h
    refine ⟨ρ, F, x, e, h1, fun u F1 H1 x1 r1 => ?_⟩
    unfold tupD at h2
    split at h2
    · cases h2
      obtain ⟨q, xs, rfl, hq, rq⟩ := r1.list x1.le
      exact .inl ⟨q, xs, rfl, .inl (.inl hq), fun t ht => k _ _ _ (x1.trans (.add x1.le ht)) (.tup upd_same (rq.mono (Sub.new (x1.le.free ht))))⟩
    · cases h2
      obtain ⟨q, xs, rfl, hq, rq⟩ := r1.tuple x1.le
      exact .inr ⟨q, xs, rfl, .inl (.inl hq), k _ F1 H1 x1 (r1.elim id fun ⟨_, _, _, _, _, z⟩ => nomatch z)⟩
    · cases h2

/-! ### what is walked -/
def Walks (K : PySem.W.Frag) (J : It) (F0 : Hp) (ds : List D) : Prop := ∀ (i : Nat) F H, Sub F0 F → Le F H →
  (∀ d, ds[i]? = some d → J.go i H ∧ ∀ x H', J.yld i H x H' → ∃ F', Ext F H F' H' ∧ Rp K F' d x) ∧ (ds.length ≤ i → J.stop i H)
def tI (K : PySem.W.Frag) (f : DenI) : TI := fun σ H R => ∃ ρ F ds, EnvOk K ρ σ F H ∧ f ρ = some ds ∧ ∀ J F' H', Ext F H F' H' → Walks K J F' ds → R J H'
structure EI (X : Cx) (tg e : Expr) (f : DenI) : Prop where
  pi : PI X tg e (tI X.K f)
variable {tg : Expr} {fi : DenI}
theorem mkI {e : Expr} {t : TI} (h : PI X tg e t) (i : ∀ σ H R ρ F d, EnvOk X.K ρ σ F H → fi ρ = some d → (∀ J F' H', Ext F H F' H' → Walks X.K J F' d → R J H') → t σ H R) : EI X tg e fi :=
  ⟨PI.imp h fun σ H Q ⟨ρ, F, d, e1, e2, k⟩ => i σ H Q ρ F d e1 e2 k⟩
theorem walks_list {q : Addr} {xs : List V} {ds : List D} (h : F q = some (.lst xs)) (r : RpL K F ds xs) : Walks K (Itl K q) F ds := fun i F1 H1 s1 s2 => by
  have hq : SqL K H1 q xs := .inl (.inl (Le.n s2 (s1 _ _ h) (fun _ z => nomatch z)))
  refine ⟨fun d hd => ?_, fun hi => ⟨xs, hq, by rw [r.length]; exact hi⟩⟩
  obtain ⟨v, hv, rv⟩ := r.get hd
  refine ⟨⟨xs, v, hq, hv⟩, fun x H' hy => ?_⟩
  obtain ⟨e, hy⟩ := hy
  subst e
  have := hy xs hq
  rw [hv] at this
  cases this
  exact ⟨F1, .refl s2, rv.mono s1⟩
theorem walks_tup {q : Addr} {xs : List V} {ds : List D} (h : F q = some (.tup xs)) (r : RpL K F ds xs) : Walks K (Itt K q) F ds := fun i F1 H1 s1 s2 => by
  have hq : SqT K H1 q xs := .inl (.inl (Le.n s2 (s1 _ _ h) (fun _ z => nomatch z)))
  refine ⟨fun d hd => ?_, fun hi => ⟨xs, hq, by rw [r.length]; exact hi⟩⟩
  obtain ⟨v, hv, rv⟩ := r.get hd
  refine ⟨⟨xs, v, hq, hv⟩, fun x H' hy => ?_⟩
  obtain ⟨e, hy⟩ := hy
  subst e
  have := hy xs hq
  rw [hv] at this
  cases this
  exact ⟨F1, .refl s2, rv.mono s1⟩
theorem rgL_get {lo : Int} {n i : Nat} {d : D} (h : (rgL lo n)[i]? = some d) : i < n ∧ d = .int (lo + (i : Nat)) := by
  unfold rgL at h
  rw [List.getElem?_map, Option.map_eq_some_iff] at h
  obtain ⟨j, h1, rfl⟩ := h
  rw [List.getElem?_eq_some_iff] at h1
  obtain ⟨h2, h3⟩ := h1
  rw [List.getElem_range] at h3
  subst h3
  exact ⟨by simpa using h2, rfl⟩
theorem rgL_length (lo : Int) (n : Nat) : (rgL lo n).length = n := by unfold rgL; rw [List.length_map, List.length_range]
theorem walks_range (lo : Int) (n : Nat) : Walks K (Itr lo n) F (rgL lo n) := fun i F1 H1 s1 s2 => by
  refine ⟨fun d hd => ?_, fun hi => by rw [rgL_length] at hi; exact hi⟩
  obtain ⟨h1, rfl⟩ := rgL_get hd
  refine ⟨h1, fun x H' hy => ?_⟩
  obtain ⟨e, rfl⟩ := hy
  subst e
  exact ⟨F1, .refl s2, .int _⟩
/-- over a list -/
theorem ei_list (ha : EX X a f) : EI X tg a (fun ρ => (f ρ).bind fun x => match x with | .list xs => some xs | _ => none) :=
  mkI (pi_list ha.pe) fun σ H R ρ F d e h k => by
    simp only [Option.bind_eq_some_iff] at h
    obtain ⟨x, h1, h2⟩ := h
    refine ⟨ρ, F, x, e, h1, fun u F1 H1 x1 r1 => ?_⟩
    cases x <;> simp only [reduceCtorEq, Option.some.injEq] at h2
    subst h2
    cases r1 with
    | lst hq rq => exact ⟨_, rfl, ⟨_, .inl (.inl (x1.le.n hq (fun _ z => nomatch z)))⟩, k _ F1 H1 x1 (walks_list hq rq)⟩
/-- over a tuple -/
theorem ei_tup (ha : EX X a f) : EI X tg a (fun ρ => (f ρ).bind fun x => match x with | .tuple xs => some xs | _ => none) :=
  mkI (pi_tup ha.pe) fun σ H R ρ F d e h k => by
    simp only [Option.bind_eq_some_iff] at h
    obtain ⟨x, h1, h2⟩ := h
    refine ⟨ρ, F, x, e, h1, fun u F1 H1 x1 r1 => ?_⟩
    cases x <;> simp only [reduceCtorEq, Option.some.injEq] at h2
    subst h2
    cases r1 with
    | tup hq rq => exact ⟨_, rfl, ⟨_, .inl (.inl (x1.le.n hq (fun _ z => nomatch z)))⟩, k _ F1 H1 x1 (walks_tup hq rq)⟩
theorem ei_r1 (hg : Gl X "range") (hm : X.mg "range" = none) (ha : EX X a f) (hs : N1 X a) : EI X tg (.Call (.Name "range" p) [a] [] pos) (iR1 f) :=
  mkI (pi_range1 hg hm (pa_cons ha.pe pa_nil hs) (by rw [hs]; rfl)) fun σ H R ρ F d e h k => by
    simp only [iR1, Option.bind_eq_some_iff] at h
    obtain ⟨x, h1, h2⟩ := h
    refine ⟨ρ, F, x, e, h1, fun u F1 H1 x1 r1 => ?_⟩
    cases x <;> simp only [rg1, reduceCtorEq] at h2
    split at h2
    · rename_i hz
      cases h2
      cases r1
      exact ⟨_, rfl, by omega, by omega, k _ F1 H1 x1 (walks_range 0 _)⟩
    · cases h2
theorem ei_r2 (hg : Gl X "range") (hm : X.mg "range" = none) (ha : EX X a f) (hb : EX X b g) (hs : N2 X a b) (hs1 : N1 X b) : EI X tg (.Call (.Name "range" p) [a, b] [] pos) (iR2 f g) :=
  mkI (pi_range2 hg hm (pa_cons ha.pe (pa_cons hb.pe pa_nil hs1) hs) (by rw [hs, hs1]; rfl) (by rw [hs1]; rfl)) fun σ H R ρ F d e h k => by
    simp only [iR2, Option.bind_eq_some_iff] at h
    obtain ⟨x, h1, y, h2, h3⟩ := h
    refine ⟨ρ, F, x, e, h1, fun u F1 H1 x1 r1 => ⟨ρ, F1, y, e.ext x1, h2, fun v F2 H2 x2 r2 => ?_⟩⟩
    cases x <;> cases y <;> simp only [rg2, reduceCtorEq] at h3
    split at h3
    · rename_i hz
      cases h3
      cases r1
      cases r2
      exact ⟨_, _, rfl, ⟨by omega, by omega, by omega, by omega⟩, k _ F2 H2 (x1.trans x2) (walks_range _ _)⟩
    · cases h3
theorem enumL_get {xs : List D} {i : Nat} {d : D} (h : (enumL xs)[i]? = some d) : ∃ x, xs[i]? = some x ∧ d = .tuple [.int (i : Nat), x] := by
  unfold enumL at h
  rw [List.getElem?_zipWith] at h
  split at h
  · rename_i j x h1 h2
    cases h
    rw [List.getElem?_eq_some_iff] at h1
    obtain ⟨_, h3⟩ := h1
    rw [List.getElem_range] at h3
    subst h3
    exact ⟨x, h2, rfl⟩
  · cases h
theorem enumL_length (xs : List D) : (enumL xs).length = xs.length := by
  unfold enumL
  rw [List.length_zipWith, List.length_range, Nat.min_self]
theorem zipL_get {xs ys : List D} {i : Nat} {d : D} (h : (zipL xs ys)[i]? = some d) : ∃ x y, xs[i]? = some x ∧ ys[i]? = some y ∧ d = .tuple [x, y] := by
  unfold zipL at h
  rw [List.getElem?_zipWith] at h
  split at h
  · rename_i x y h1 h2
    cases h
    exact ⟨x, y, h1, h2, rfl⟩
  · cases h
theorem zipL_length (xs ys : List D) : (zipL xs ys).length = min xs.length ys.length := by
  unfold zipL
  rw [List.length_zipWith]
theorem walks_enum {q : Addr} {xs : List V} {ds : List D} (h : F q = some (.lst xs)) (r : RpL K F ds xs) : Walks K (Ite K q) F (enumL ds) := fun i F1 H1 s1 s2 => by
  have hq : SqL K H1 q xs := .inl (.inl (Le.n s2 (s1 _ _ h) (fun _ z => nomatch z)))
  refine ⟨fun d hd => ?_, fun hi => ⟨xs, hq, by rw [r.length]; rw [enumL_length] at hi; exact hi⟩⟩
  obtain ⟨x, hx, rfl⟩ := enumL_get hd
  obtain ⟨v, hv, rv⟩ := r.get hx
  refine ⟨⟨xs, v, hq, hv⟩, fun y H' hy => ?_⟩
  obtain ⟨T, z, rfl, hT, rfl, hz⟩ := hy
  have := hz xs hq
  rw [hv] at this
  cases this
  exact ⟨_, .add s2 hT, .tup upd_same (.cons (.int _) (.cons (rv.mono (s1.trans (Sub.new (s2.free hT)))) .nil))⟩
theorem walks_zip {q q' : Addr} {xs ys : List V} {ds es : List D} (h : F q = some (.lst xs)) (r : RpL K F ds xs) (h' : F q' = some (.lst ys)) (r' : RpL K F es ys) : Walks K (Itz K q q') F (zipL ds es) := fun i F1 H1 s1 s2 => by
  have hq : SqL K H1 q xs := .inl (.inl (Le.n s2 (s1 _ _ h) (fun _ z => nomatch z)))
  have hq' : SqL K H1 q' ys := .inl (.inl (Le.n s2 (s1 _ _ h') (fun _ z => nomatch z)))
  refine ⟨fun d hd => ?_, fun hi => ⟨xs, ys, hq, hq', by rw [r.length, r'.length]; rw [zipL_length] at hi; omega⟩⟩
  obtain ⟨x, y, hx, hy, rfl⟩ := zipL_get hd
  obtain ⟨v, hv, rv⟩ := r.get hx
  obtain ⟨w, hw, rw'⟩ := r'.get hy
  refine ⟨⟨xs, ys, v, w, hq, hq', hv, hw⟩, fun y H' hy => ?_⟩
  obtain ⟨T, z1, z2, rfl, hT, rfl, hz1, hz2⟩ := hy
  have e1 := hz1 xs hq
  rw [hv] at e1
  cases e1
  have e2 := hz2 ys hq'
  rw [hw] at e2
  cases e2
  have s3 := s1.trans (Sub.new (H := F1) (o := .tup [v, w]) (s2.free hT))
  exact ⟨_, .add s2 hT, .tup upd_same (.cons (rv.mono s3) (.cons (rw'.mono s3) .nil))⟩
variable {elts : List Expr} {kk : Nat} {tpos : Pos}
theorem ei_enum (hg : Gl X "enumerate") (hm : X.mg "enumerate" = none) (ha : EX X a f) (hs : N1 X a) : EI X (.Tuple elts kk tpos) (.Call (.Name "enumerate" p) [a] [] pos) (iEn f) :=
  mkI (pi_enum hg hm (pa_cons ha.pe pa_nil hs) (by rw [hs]; rfl)) fun σ H R ρ F d e h k => by
    simp only [iEn, Option.bind_eq_some_iff] at h
    obtain ⟨x, h1, h2⟩ := h
    refine ⟨ρ, F, x, e, h1, fun u F1 H1 x1 r1 => ?_⟩
    cases x <;> simp only [reduceCtorEq, Option.some.injEq] at h2
    subst h2
    cases r1 with
    | lst hq rq => exact ⟨_, _, rfl, .inl (.inl (x1.le.n hq (fun _ z => nomatch z))), k _ F1 H1 x1 (walks_enum hq rq)⟩
theorem ei_zip (hg : Gl X "zip") (hm : X.mg "zip" = none) (ha : EX X a f) (hb : EX X b g) (hs : N2 X a b) (hs1 : N1 X b) : EI X (.Tuple elts kk tpos) (.Call (.Name "zip" p) [a, b] [] pos) (iZp f g) :=
  mkI (pi_zip hg hm (pa_cons ha.pe (pa_cons hb.pe pa_nil hs1) hs) hs (by rw [hs1]; rfl)) fun σ H R ρ F d e h k => by
    simp only [iZp, Option.bind_eq_some_iff] at h
    obtain ⟨x, h1, y, h2, h3⟩ := h
    refine ⟨ρ, F, x, e, h1, fun u F1 H1 x1 r1 => ⟨ρ, F1, y, e.ext x1, h2, fun v F2 H2 x2 r2 => ?_⟩⟩
    cases x <;> cases y <;> simp only [reduceCtorEq, Option.some.injEq] at h3
    subst h3
    cases r1 with
    | lst hq rq =>
      cases r2 with
      | lst hq' rq' => exact ⟨_, _, _, _, rfl, .inl (.inl (x2.le.n (x2.f _ _ hq) (fun _ z => nomatch z))), .inl (.inl (x2.le.n hq' (fun _ z => nomatch z))), k _ F2 H2 (x1.trans x2) (walks_zip (x2.f _ _ hq) (rq.mono x2.f) hq' rq')⟩
end
end Zx
/-! Zx5: targets, statements, loops. -/
namespace Zx
variable [Marked]
open PySem PySem.Spec L2
/-! ### targets that store names alone -/
abbrev DenG := D → Env → Option Env
structure SameBut (ws : List Nat) (σ σ' : L2.St) : Prop where
  len : σ'.length = σ.length
  at_ : ∀ j, j ∉ ws → σ'[j]? = σ[j]?
theorem SameBut.trans {ws vs : List Nat} {σ σ' σ'' : L2.St} (a : SameBut ws σ σ') (b : SameBut vs σ' σ'') : SameBut (ws ++ vs) σ σ'' :=
  ⟨b.len.trans a.len, fun j hj => by
    rw [List.mem_append, not_or] at hj
    rw [b.at_ j hj.2, a.at_ j hj.1]⟩
/-- what is one's own was so before -/
def OwK (ρ : Env) (σ : L2.St) (ρ' : Env) (σ' : L2.St) : Prop := ∀ (j : Nat) d, ρ'[j]? = some (.ow d) → ρ[j]? = some (.ow d) ∧ σ'[j]? = σ[j]?
theorem OwK.trans {ρ ρ' ρ'' : Env} {σ σ' σ'' : L2.St} (a : OwK ρ σ ρ' σ') (b : OwK ρ' σ' ρ'' σ'') : OwK ρ σ ρ'' σ'' := fun j d h => by
  obtain ⟨h1, h2⟩ := b j d h
  obtain ⟨h3, h4⟩ := a j d h1
  exact ⟨h3, h2.trans h4⟩
theorem OwK.set {ρ : Env} {σ : L2.St} {i : Nat} {d : D} {v : Option V} : OwK ρ σ (ρ.set i (.fz d)) (σ.set i v) := fun j d' h => by
  by_cases hj : i = j
  · subst hj
    by_cases hl : i < ρ.length
    · rw [List.getElem?_set_self hl] at h
      cases h
    · rw [List.getElem?_eq_none (by rw [List.length_set]; omega)] at h
      cases h
  · rw [List.getElem?_set_ne hj] at h
    exact ⟨h, List.getElem?_set_ne hj⟩
def tGt (K : PySem.W.Frag) (ws : List Nat) (g : DenG) : TG := fun v σ H Q => ∃ ρ F d ρ', EnvOk K ρ σ F H ∧ Rp K F d v ∧ g d ρ = some ρ' ∧ ∀ σ', EnvOk K ρ' σ' F H → SameBut ws σ σ' → OwK ρ σ ρ' σ' → Q σ' H
structure EG (X : Cx) (tg : Expr) (ws : List Nat) (g : DenG) : Prop where
  pg : PG X tg (tGt X.K ws g)
abbrev DenGs := List D → Env → Option Env
def tGts (K : PySem.W.Frag) (ws : List Nat) (g : DenGs) : TGs := fun vs σ H Q => ∃ ρ F ds ρ', EnvOk K ρ σ F H ∧ RpL K F ds vs ∧ g ds ρ = some ρ' ∧ ∀ σ', EnvOk K ρ' σ' F H → SameBut ws σ σ' → OwK ρ σ ρ' σ' → Q σ' H
structure EGs (X : Cx) (tg : List Expr) (ws : List Nat) (g : DenGs) : Prop where
  pg : PGs X tg (tGts X.K ws g)
theorem PG.imp {X : Cx} {e : Expr} {t t' : TG} (h : PG X e t) (i : ∀ v σ H Q, t' v σ H Q → t v σ H Q) : PG X e t' := ⟨fun pins s σ H v u Q I r hw => h.run pins s σ H v u Q I r (i v σ H Q hw)⟩
theorem PGs.imp {X : Cx} {e : List Expr} {t t' : TGs} (h : PGs X e t) (i : ∀ v σ H Q, t' v σ H Q → t v σ H Q) : PGs X e t' := ⟨fun pins s σ H v u Q I r hw => h.run pins s σ H v u Q I r (i v σ H Q hw)⟩
def gN (i : Nat) : DenG := fun d ρ => some (ρ.set i (.fz d))
def gsNil : DenGs := fun ds ρ => match ds with | [] => some ρ | _ => none
def gsCons (g : DenG) (gs : DenGs) : DenGs := fun ds ρ => match ds with | d :: r => (g d ρ).bind fun ρ' => gs r ρ' | _ => none
def gT (gs : DenGs) (n : Nat) : DenG := fun d ρ => match d with | .tuple ds => if ds.length = n then gs ds ρ else none | _ => none
def gLs (gs : DenGs) (n : Nat) : DenG := fun d ρ => match d with | .list ds => if ds.length = n then gs ds ρ else none | _ => none
theorem EnvOk.set {K : PySem.W.Frag} {ρ : Env} {σ : L2.St} {F H : Hp} {i : Nat} {d : D} {v : V} (e : EnvOk K ρ σ F H) (r : Rp K F d v) : EnvOk K (ρ.set i (.fz d)) (σ.set i (some v)) F H where
  sub := e.sub
  len := by rw [List.length_set, List.length_set]; exact e.len
  at_ := fun j s hs => by
    by_cases hj : i = j
    · subst hj
      by_cases hl : i < ρ.length
      · rw [List.getElem?_set_self hl] at hs
        cases hs
        exact ⟨some v, List.getElem?_set_self (by rw [← e.len]; exact hl), v, rfl, r⟩
      · rw [List.getElem?_eq_none (by rw [List.length_set]; omega)] at hs
        cases hs
    · rw [List.getElem?_set_ne hj] at hs
      rw [List.getElem?_set_ne hj]
      exact e.at_ j s hs
  dist := fun j k d1 d2 a h1 h2 h3 h4 => by
    have z : ∀ {j : Nat} {d1 : D}, (ρ.set i (.fz d))[j]? = some (.ow d1) → i ≠ j ∧ ρ[j]? = some (.ow d1) := fun {j d1} h => by
      by_cases hj : i = j
      · subst hj
        by_cases hl : i < ρ.length
        · rw [List.getElem?_set_self hl] at h
          cases h
        · rw [List.getElem?_eq_none (by rw [List.length_set]; omega)] at h
          cases h
      · rw [List.getElem?_set_ne hj] at h
        exact ⟨hj, h⟩
    obtain ⟨n1, g1⟩ := z h1
    obtain ⟨n2, g2⟩ := z h2
    rw [List.getElem?_set_ne n1] at h3
    rw [List.getElem?_set_ne n2] at h4
    exact e.dist j k d1 d2 a g1 g2 h3 h4
theorem SameBut.set {i : Nat} {σ : L2.St} {v : Option V} : SameBut [i] σ (σ.set i v) := ⟨List.length_set, fun j hj => List.getElem?_set_ne fun e => hj (by rw [e]; exact List.mem_singleton_self _)⟩
section
variable {X : Cx} {pos : Pos} {K : PySem.W.Frag}
def locB (sc : Scope) (x : Str) : Bool := match sc.names.lookup x with | some .local => true | some .cell => true | _ => false
theorem loc_of {sc : Scope} {x : Str} (h : locB sc x = true) : L2.Loc sc x := by
  unfold locB at h
  unfold L2.Loc
  split at h
  · rename_i e; exact .inl e
  · rename_i e; exact .inr e
  · cases h
def fnB (X : Cx) (x : Str) : Bool := X.fn x || (match X.env.scope.names.lookup x with | some .local => true | _ => false)
theorem fn_or {x : Str} (h : fnB X x = true) : X.fn x = true ∨ X.env.scope.names.lookup x = some .local := by
  unfold fnB at h
  rw [Bool.or_eq_true] at h
  rcases h with h | h
  · exact .inl h
  · right
    split at h
    · assumption
    · cases h
theorem eg_name (i : Nat) {x : Str} (hN : X.N.Nodup) (hi : X.N[i]? = some x) (hx : locB X.env.scope x = true) (hf : fnB X x = true) : EG X (.Name x pos) [i] (gN i) :=
  ⟨PG.imp (pg_name hN hi (loc_of hx) (fn_or hf)) fun v σ H Q ⟨ρ, F, d, ρ', e, r, h, k⟩ => by
    cases h
    exact k _ (e.set r) .set .set⟩
theorem egs_nil : EGs X [] [] gsNil :=
  ⟨PGs.imp pgs_nil fun vs σ H Q ⟨ρ, F, ds, ρ', e, r, h, k⟩ => by
    cases r with
    | nil =>
      cases h
      exact ⟨rfl, k σ e ⟨rfl, fun _ _ => rfl⟩ fun _ _ z => ⟨z, rfl⟩⟩
    | cons _ _ => cases h⟩
theorem egs_cons {a : Expr} {es : List Expr} {ws vs : List Nat} {g : DenG} {gs : DenGs} (h1 : EG X a ws g) (h2 : EGs X es vs gs) (hs : (assignEach (a :: es) X.env).map (·.2) = assign a X.env :: (assignEach es X.env).map (·.2)) : EGs X (a :: es) (ws ++ vs) (gsCons g gs) :=
  ⟨PGs.imp (pgs_cons h1.pg h2.pg hs) fun us σ H Q ⟨ρ, F, ds, ρ', e, r, h, k⟩ => by
    cases r with
    | nil => cases h
    | cons r t =>
      simp only [gsCons, Option.bind_eq_some_iff] at h
      obtain ⟨ρ1, g1, g2⟩ := h
      exact ⟨_, _, rfl, ρ, F, _, ρ1, e, r, g1, fun σ1 e1 s1 o1 => ⟨ρ1, F, _, ρ', e1, t, g2, fun σ2 e2 s2 o2 => k σ2 e2 (s1.trans s2) (o1.trans o2)⟩⟩⟩
theorem eg_tup {es : List Expr} {kk : Nat} {ws : List Nat} {gs : DenGs} {n : Nat} (hc : X.calm = true) (h : EGs X es ws gs) (hn : (assignEach es X.env).length = n) (hst : (assignEach es X.env).findIdx? (·.1) = none) : EG X (.Tuple es kk pos) ws (gT gs n) :=
  ⟨PG.imp (pg_tup hc h.pg hn hst) fun v σ H Q ⟨ρ, F, d, ρ', e, r, hg, k⟩ => by
    unfold gT at hg
    split at hg
    · split at hg
      · rename_i hl
        cases r with
        | tup ha hr => exact ⟨_, _, rfl, .inl (.inl (e.sub.n ha (fun _ z => nomatch z))), by rw [hr.length]; exact hl, ρ, F, _, ρ', e, hr, hg, k⟩
      · cases hg
    · cases hg⟩
theorem eg_lst {es : List Expr} {kk : Nat} {ws : List Nat} {gs : DenGs} {n : Nat} (hc : X.calm = true) (h : EGs X es ws gs) (hn : (assignEach es X.env).length = n) (hst : (assignEach es X.env).findIdx? (·.1) = none) : EG X (.Tuple es kk pos) ws (gLs gs n) :=
  ⟨PG.imp (pg_unl hc h.pg hn hst) fun v σ H Q ⟨ρ, F, d, ρ', e, r, hg, k⟩ => by
    unfold gLs at hg
    split at hg
    · split at hg
      · rename_i hl
        cases r with
        | lst ha hr => exact ⟨_, _, rfl, .inl (.inl (e.sub.n ha (fun _ z => nomatch z))), by rw [hr.length]; exact hl, ρ, F, _, ρ', e, hr, hg, k⟩
      · cases hg
    · cases hg⟩
end

/-! ### statements -/
inductive Out where
  | nx (ρ : Env) | rt (d : D) | rn (d : D) | bk (ρ : Env) | ct (ρ : Env)
abbrev DenS := Env → Option Out
structure EnvS (K : PySem.W.Frag) (F0 H0 : Hp) (ρ : Env) (σ : L2.St) (F H : Hp) : Prop where
  env : EnvOk K ρ σ F H
  ext : Ext F0 H0 F H
  own : ∀ (i : Nat) d a, ρ[i]? = some (.ow d) → σ[i]? = some (some (.ref a)) → H0 a = none
def Post (K : PySem.W.Frag) (F0 H0 : Hp) (D : Ends) : Out → Prop
  | .nx ρ' => ∀ σ' F' H', EnvS K F0 H0 ρ' σ' F' H' → D.nx σ' H'
  | .bk ρ' => ∀ σ' F' H', EnvS K F0 H0 ρ' σ' F' H' → D.bk σ' H'
  | .ct ρ' => ∀ σ' F' H', EnvS K F0 H0 ρ' σ' F' H' → D.ct σ' H'
  | .rt d => ∀ v F' H', Ext F0 H0 F' H' → Rp K F' d v → D.rt v H'
  | .rn d => ∀ a o F' H', Ext F0 H0 F' H' → F' a = none → H0 a = none → H' a = some o → OwnRep K F' d o → D.rt (.ref a) H'
def tSt (K : PySem.W.Frag) (f : DenS) : TS := fun D σ H => ∃ F0 H0 ρ F o, EnvS K F0 H0 ρ σ F H ∧ f ρ = some o ∧ Post K F0 H0 D o
structure SX (X : Cx) (st : Stmt) (f : DenS) : Prop where
  ps : PS X st (tSt X.K f)
structure SXs (X : Cx) (sts : List Stmt) (f : DenS) : Prop where
  pss : PSs X sts (tSt X.K f)
theorem EnvS.to {K : PySem.W.Frag} {F0 H0 : Hp} {ρ : Env} {σ : L2.St} {F H F' H' : Hp} (e : EnvS K F0 H0 ρ σ F H) (x : Ext F H F' H') : EnvS K F0 H0 ρ σ F' H' := ⟨e.env.ext x, e.ext.trans x, e.own⟩
def sNx : DenS := fun ρ => some (.nx ρ)
def sSeq (f g : DenS) : DenS := fun ρ => (f ρ).bind fun o => match o with | .nx ρ' => g ρ' | o => some o
section
variable {X : Cx} {st : Stmt} {sts : List Stmt} {f g : DenS} {fd : Den} {fb : DenB} {a : Expr} {pos : Pos}
theorem sx_mk {t : TS} (h : PS X st t) (i : ∀ D σ H F0 H0 ρ F o, EnvS X.K F0 H0 ρ σ F H → f ρ = some o → Post X.K F0 H0 D o → t D σ H) : SX X st f := ⟨PS.imp h fun D σ H ⟨F0, H0, ρ, F, o, e, h, k⟩ => i D σ H F0 H0 ρ F o e h k⟩
theorem sxs_nil : SXs X [] sNx := ⟨PSs.imp pss_nil fun D σ H ⟨F0, H0, ρ, F, o, e, h, k⟩ => by
  cases h
  exact k σ F H e⟩
theorem sxs_cons (h1 : SX X st f) (h2 : SXs X sts g) : SXs X (st :: sts) (sSeq f g) :=
  ⟨PSs.imp (pss_cons h1.ps h2.pss) fun D σ H ⟨F0, H0, ρ, F, o, e, h, k⟩ => by
    simp only [sSeq, Option.bind_eq_some_iff] at h
    obtain ⟨o1, h1, h2⟩ := h
    refine ⟨F0, H0, ρ, F, o1, e, h1, ?_⟩
    cases o1 with
    | nx ρ' => exact fun σ' F' H' e' => ⟨F0, H0, ρ', F', o, e', h2, k⟩
    | rt d =>
      cases h2
      exact k
    | rn d =>
      cases h2
      exact k
    | bk ρ' =>
      cases h2
      exact k
    | ct ρ' =>
      cases h2
      exact k⟩
theorem sxs_one (h1 : SX X st f) : SXs X [st] f := ⟨pss_one h1.ps⟩
/-- what the proof never comes to -/
def sNo : DenS := fun _ => none
theorem sx_no : SX X st sNo := ⟨PS.imp ps_never fun D σ H ⟨F0, H0, ρ, F, o, e, h, k⟩ => nomatch h⟩
theorem sx_pass : SX X (.Pass pos) sNx := sx_mk ps_pass fun D σ H F0 H0 ρ F o e h k => by
  cases h
  exact k σ F H e
def sBk : DenS := fun ρ => some (.bk ρ)
def sCt : DenS := fun ρ => some (.ct ρ)
theorem sx_break : SX X (.Break pos) sBk := sx_mk ps_break fun D σ H F0 H0 ρ F o e h k => by
  cases h
  exact k σ F H e
theorem sx_cont : SX X (.Continue pos) sCt := sx_mk ps_continue fun D σ H F0 H0 ρ F o e h k => by
  cases h
  exact k σ F H e
def sDrop (f : Den) : DenS := fun ρ => (f ρ).bind fun _ => some (.nx ρ)
theorem sx_expr (h : EX X a fd) (hs : swapsWith a none pos.line X.env = pure false) : SX X (.Expr a pos) (sDrop fd) := sx_mk (ps_expr h.pe hs) fun D σ H F0 H0 ρ F o e h k => by
  simp only [sDrop, Option.bind_eq_some_iff, Option.some.injEq] at h
  obtain ⟨d, h1, rfl⟩ := h
  exact ⟨ρ, F, d, e.env, h1, fun v F' H' x r => k σ F' H' (e.to x)⟩
def sRet (f : Den) : DenS := fun ρ => (f ρ).bind fun d => some (.rt d)
theorem sx_ret (h : EX X a fd) : SX X (.Return (some a) pos) (sRet fd) := sx_mk (ps_ret h.pe) fun D σ H F0 H0 ρ F o e h k => by
  simp only [sRet, Option.bind_eq_some_iff, Option.some.injEq] at h
  obtain ⟨d, h1, rfl⟩ := h
  exact ⟨ρ, F, d, e.env, h1, fun v F' H' x r => k v F' H' (e.ext.trans x) r⟩
def sRetNew (f : Den) : DenS := fun ρ => (f ρ).bind fun d => some (.rn d)
theorem sx_retNew (h : EN X a fd) : SX X (.Return (some a) pos) (sRetNew fd) := sx_mk (ps_ret h.pe) fun D σ H F0 H0 ρ F o e h k => by
  simp only [sRetNew, Option.bind_eq_some_iff, Option.some.injEq] at h
  obtain ⟨d, h1, rfl⟩ := h
  exact ⟨ρ, F, d, e.env, h1, fun a o F' H' x h1 h2 h3 h4 => k a o F' H' (e.ext.trans x) h1 (e.ext.h.free h2) h3 h4⟩
/-- return x, x one's own list: it is the caller's -/
def sRetOwn (i : Nat) : DenS := fun ρ => match ρ[i]? with | some (.ow d) => some (.rn d) | _ => none
theorem sx_retOwn (i : Nat) {x : Str} {p : Pos} (hN : X.N[i]? = some x) (hv : visB X.env.scope x = true) (hd : (x == ("__debug__" : Str)) = false) (hcd : (x == ("__classdict__" : Str)) = false) : SX X (.Return (some (.Name x p)) pos) (sRetOwn i) :=
  sx_mk (ps_ret (pe_var hN (vis_of hv) hd hcd)) fun D σ H F0 H0 ρ F o e h k => by
    unfold sRetOwn at h
    split at h
    · rename_i d hs
      cases h
      obtain ⟨ov, h1, a, o, h2, h3, h4, h5⟩ := e.env.at_ i _ hs
      subst h2
      exact ⟨_, h1, k a o F H e.ext h3 (e.own i d a hs h1) h4 h5⟩
    · cases h
def sRetN : DenS := fun _ => some (.rt .none)
theorem sx_retN : SX X (.Return none pos) sRetN := sx_mk ps_retN fun D σ H F0 H0 ρ F o e h k => by
  cases h
  exact k _ F H e.ext .non
def sIf (c : DenB) (f g : DenS) : DenS := fun ρ => (c ρ).bind fun b => if b then f ρ else g ρ
theorem sx_if {c : Expr} {s1 s2 : List Stmt} (hc : ET X c fb) (h1 : SXs X s1 f) (h2 : SXs X s2 g) : SX X (.If c s1 s2 pos) (sIf fb f g) := sx_mk (ps_if hc.pt h1.pss h2.pss) fun D σ H F0 H0 ρ F o e h k => by
  simp only [sIf, Option.bind_eq_some_iff] at h
  obtain ⟨b, h1, h2⟩ := h
  refine ⟨ρ, F, b, e.env, h1, fun F' H' x => ?_⟩
  cases b with
  | true => exact ⟨F0, H0, ρ, F', o, e.to x, h2, k⟩
  | false => exact ⟨F0, H0, ρ, F', o, e.to x, h2, k⟩
/-! ### assignments -/
def sSet (i : Nat) (f : Den) : DenS := fun ρ => (f ρ).bind fun d => some (.nx (ρ.set i (.fz d)))
theorem EnvS.set {K : PySem.W.Frag} {F0 H0 : Hp} {ρ : Env} {σ : L2.St} {F H : Hp} {i : Nat} {d : D} {v : V} (e : EnvS K F0 H0 ρ σ F H) (r : Rp K F d v) : EnvS K F0 H0 (ρ.set i (.fz d)) (σ.set i (some v)) F H :=
  ⟨e.env.set r, e.ext, fun j d' a h1 h2 => by
    by_cases hj : i = j
    · subst hj
      by_cases hl : i < ρ.length
      · rw [List.getElem?_set_self hl] at h1
        cases h1
      · rw [List.getElem?_eq_none (by rw [List.length_set]; omega)] at h1
        cases h1
    · rw [List.getElem?_set_ne hj] at h1 h2
      exact e.own j d' a h1 h2⟩
theorem sx_set (i : Nat) {x : Str} {pos' : Pos} (hN : X.N.Nodup) (hi : X.N[i]? = some x) (hx : locB X.env.scope x = true) (hf : fnB X x = true) (ha : EX X a fd) (hs : swapsWith a (some (.Name x pos')) pos.line X.env = pure false) :
    SX X (.Assign [.Name x pos'] a pos) (sSet i fd) := sx_mk (ps_set hN hi (loc_of hx) ha.pe hs (fn_or hf)) fun D σ H F0 H0 ρ F o e h k => by
  simp only [sSet, Option.bind_eq_some_iff, Option.some.injEq] at h
  obtain ⟨d, h1, rfl⟩ := h
  exact ⟨ρ, F, d, e.env, h1, fun v F' H' x r => k _ F' H' ((e.to x).set r)⟩
/-- x = a new list or dict, x one's own -/
def sOwn (i : Nat) (f : Den) : DenS := fun ρ => (f ρ).bind fun d => some (.nx (ρ.set i (.ow d)))
theorem EnvS.setOwn {K : PySem.W.Frag} {F0 H0 : Hp} {ρ : Env} {σ : L2.St} {F H F1 H1 : Hp} {i : Nat} {d : D} {p : Addr} {ob : HO} (e : EnvS K F0 H0 ρ σ F1 H1) (x : Ext F1 H1 F H) (hp : H1 p = none) (hF : F p = none) (hH : H p = some ob) (r : OwnRep K F d ob) :
    EnvS K F0 H0 (ρ.set i (.ow d)) (σ.set i (some (.ref p))) F H := by
  have e' := e.to x
  have z : ∀ {j : Nat} {d1 : D} {b : Addr}, (ρ.set i (.ow d))[j]? = some (.ow d1) → (σ.set i (some (.ref p)))[j]? = some (some (.ref b)) → (j = i ∧ b = p) ∨ (j ≠ i ∧ ρ[j]? = some (.ow d1) ∧ σ[j]? = some (some (.ref b)) ∧ b ≠ p) := fun {j d1 b} h1 h2 => by
    by_cases hj : i = j
    · subst hj
      by_cases hl : i < σ.length
      · rw [List.getElem?_set_self hl] at h2
        cases h2
        exact .inl ⟨rfl, rfl⟩
      · rw [List.getElem?_eq_none (by rw [List.length_set]; omega)] at h2
        cases h2
    · rw [List.getElem?_set_ne hj] at h1 h2
      refine .inr ⟨Ne.symm hj, h1, h2, ?_⟩
      rintro rfl
      obtain ⟨ov, g1, a, o, g2, g3, g4, g5⟩ := e.env.at_ j _ h1
      rw [h2] at g1
      cases g1
      cases g2
      rw [hp] at g4
      cases g4
  refine ⟨⟨e'.env.sub, by rw [List.length_set, List.length_set]; exact e'.env.len, fun j s hs => ?_, fun j k d1 d2 b h1 h2 h3 h4 => ?_⟩, e'.ext, fun j d1 b h1 h2 => ?_⟩
  · by_cases hj : i = j
    · subst hj
      by_cases hl : i < ρ.length
      · rw [List.getElem?_set_self hl] at hs
        cases hs
        exact ⟨_, List.getElem?_set_self (by rw [← e.env.len]; exact hl), p, ob, rfl, hF, hH, r⟩
      · rw [List.getElem?_eq_none (by rw [List.length_set]; omega)] at hs
        cases hs
    · rw [List.getElem?_set_ne hj] at hs
      rw [List.getElem?_set_ne hj]
      exact e'.env.at_ j s hs
  · rcases z h1 h3 with ⟨rfl, rfl⟩ | ⟨n1, g1, g3, nb⟩
    · rcases z h2 h4 with ⟨rfl, _⟩ | ⟨n2, g2, g4, nb⟩
      · rfl
      · exact absurd rfl nb
    · rcases z h2 h4 with ⟨_, rfl⟩ | ⟨n2, g2, g4, _⟩
      · exact absurd rfl nb
      · exact e.env.dist j k d1 d2 b g1 g2 g3 g4
  · rcases z h1 h2 with ⟨_, rfl⟩ | ⟨n1, g1, g3, nb⟩
    · exact e.ext.h.free hp
    · exact e.own j d1 b g1 g3
theorem sx_own (i : Nat) {x : Str} {pos' : Pos} (hN : X.N.Nodup) (hi : X.N[i]? = some x) (hx : locB X.env.scope x = true) (hf : fnB X x = true) (ha : EN X a fd) (hs : swapsWith a (some (.Name x pos')) pos.line X.env = pure false) :
    SX X (.Assign [.Name x pos'] a pos) (sOwn i fd) := sx_mk (ps_set hN hi (loc_of hx) ha.pe hs (fn_or hf)) fun D σ H F0 H0 ρ F o e h k => by
  simp only [sOwn, Option.bind_eq_some_iff, Option.some.injEq] at h
  obtain ⟨d, h1, rfl⟩ := h
  exact ⟨ρ, F, d, e.env, h1, fun p o F' H' x hF hp hH r => k _ F' H' (e.setOwn x hp hF hH r)⟩
/-- targets of names: a, b = e -/
def sAsg (g : DenG) (f : Den) : DenS := fun ρ => (f ρ).bind fun d => (g d ρ).bind fun ρ' => some (.nx ρ')
/-- ahead of a statement one's own list is given away: from here it is read only -/
def frz (i : Nat) (ρ : Env) : Env := match ρ[i]? with | some (.ow d) => ρ.set i (.fz d) | _ => ρ
def sFrz (i : Nat) (f : DenS) : DenS := fun ρ => f (frz i ρ)
theorem EnvS.frz {K : PySem.W.Frag} {F0 H0 : Hp} {ρ : Env} {σ : L2.St} {F H : Hp} (i : Nat) (e : EnvS K F0 H0 ρ σ F H) : ∃ F', EnvS K F0 H0 (frz i ρ) σ F' H := by
  unfold Zx.frz
  split
  · rename_i d hs
    obtain ⟨ov, h1, a, o, h2, h3, h4, h5⟩ := e.env.at_ i _ hs
    subst h2
    have sF : Sub F (upd F a o) := Sub.new h3
    have hl : i < ρ.length := (List.getElem?_eq_some_iff.mp hs).1
    have z : ∀ {j : Nat} {d1 : D}, (ρ.set i (.fz d))[j]? = some (.ow d1) → j ≠ i ∧ ρ[j]? = some (.ow d1) := fun {j d1} h => by
      by_cases hj : i = j
      · subst hj
        rw [List.getElem?_set_self hl] at h
        cases h
      · rw [List.getElem?_set_ne hj] at h
        exact ⟨Ne.symm hj, h⟩
    refine ⟨upd F a o, ⟨⟨e.env.sub.put h4 h5.nt, by rw [List.length_set]; exact e.env.len, fun j s hj => ?_, fun j k d1 d2 b g1 g2 g3 g4 => e.env.dist j k d1 d2 b (z g1).2 (z g2).2 g3 g4⟩, ⟨e.ext.f.trans sF, e.ext.h, e.env.sub.put h4 h5.nt, fun b n1 n2 => ?_⟩, fun j d1 b g1 g2 => e.own j d1 b (z g1).2 g2⟩⟩
    · by_cases hij : i = j
      · subst hij
        rw [List.getElem?_set_self hl] at hj
        cases hj
        refine ⟨_, h1, _, rfl, ?_⟩
        cases h5 with
        | lst t => exact .lst upd_same (t.mono sF)
        | dK t => exact .dK (.inl upd_same) (t.mono sF)
        | dT t => exact .dT (.inl upd_same) (t.mono sF)
      · rw [List.getElem?_set_ne hij] at hj
        obtain ⟨ov, g1, g2⟩ := e.env.at_ j s hj
        refine ⟨ov, g1, ?_⟩
        cases s with
        | no => trivial
        | fz d' =>
          obtain ⟨v, g3, g4⟩ := g2
          exact ⟨v, g3, g4.mono sF⟩
        | ow d' =>
          obtain ⟨b, u, g3, g4, g5, g6⟩ := g2
          refine ⟨b, u, g3, ?_, g5, g6.mono sF⟩
          rw [upd_ne]
          · exact g4
          · rintro rfl
            subst g3
            exact hij (e.env.dist i j d d' b hs hj h1 g1)
    · rw [upd_ne]
      · exact e.ext.new b n1 n2
      · rintro rfl
        exact n1 (e.own i d b hs h1)
  · exact ⟨F, e⟩
theorem sx_frz (i : Nat) (h : SX X st f) : SX X st (sFrz i f) := sx_mk h.ps fun D σ H F0 H0 ρ F o e h k => by
  obtain ⟨F', e'⟩ := e.frz i
  exact ⟨F0, H0, _, F', o, e', h, k⟩
theorem sxs_frz (i : Nat) (h : SXs X sts f) : SXs X sts (sFrz i f) := ⟨PSs.imp h.pss fun D σ H ⟨F0, H0, ρ, F, o, e, h, k⟩ => by
  obtain ⟨F', e'⟩ := e.frz i
  exact ⟨F0, H0, _, F', o, e', h, k⟩⟩
end
end Zx
/-! Zx6: targets stored, one's own lists and dicts changed, loops. -/
namespace Zx
variable [Marked]
open PySem PySem.Spec L2
/-! ### dicts, as lists of pairs -/
def dGet (kds : List (D × D)) (k : D) : Option D := (kds.find? fun p => PyData.eqv p.1 k).map (·.2)
def dHas (kds : List (D × D)) (k : D) : Bool := kds.any fun p => PyData.eqv p.1 k
def dPut (kds : List (D × D)) (k v : D) : List (D × D) := if dHas kds k then kds.map (fun p => if PyData.eqv p.1 k then (p.1, v) else p) else kds ++ [(k, v)]
def keyOf : D → Option Key
  | .int i => some (.inl i)
  | .str x => some (.inr x)
  | _ => none
def keysOf : List D → Option (List Key)
  | [] => some []
  | d :: r => (keyOf d).bind fun k => (keysOf r).bind fun ks => some (k :: ks)
theorem keyOf_eq {d : D} {k : Key} (h : keyOf d = some k) : d = keyD k := by
  cases d <;> simp only [keyOf, reduceCtorEq, Option.some.injEq] at h <;> subst h <;> rfl
theorem keysOf_eq : ∀ {ds : List D} {ks : List Key}, keysOf ds = some ks → ds = ks.map keyD
  | [], ks, h => by cases h; rfl
  | d :: r, ks, h => by
    simp only [keysOf, Option.bind_eq_some_iff, Option.some.injEq] at h
    obtain ⟨k, h1, js, h2, rfl⟩ := h
    rw [keyOf_eq h1, keysOf_eq h2, List.map_cons]
theorem eqv_key (a b : Key) : PyData.eqv (keyD a) (keyD b) = decide (a = b) := by
  cases a with
  | inl i =>
    cases b with
    | inl j => rw [key_ll]; rfl
    | inr y => rw [key_lr]; rfl
  | inr x =>
    cases b with
    | inl j => rw [key_rl]; rfl
    | inr y =>
      rw [key_rr]
      show (x == y) = decide (x = y)
      by_cases h : x = y
      · subst h; simp
      · rw [decide_eq_false h]; exact beq_eq_false_iff_ne.mpr h
theorem eqv_keys : ∀ (a b : List Key), PyData.eqvAll (a.map keyD) (b.map keyD) = decide (a = b)
  | [], [] => rfl
  | [], _ :: _ => rfl
  | _ :: _, [] => rfl
  | x :: a, y :: b => by
    have h1 := eqv_key x y
    have h2 := eqv_keys a b
    rw [List.map_cons, List.map_cons]
    show (PyData.eqv (keyD x) (keyD y) && PyData.eqvAll (a.map keyD) (b.map keyD)) = _
    rw [h1, h2]
    by_cases hx : x = y <;> by_cases hy : a = b <;> simp [hx, hy]
theorem eqv_tkeys (a b : List Key) : PyData.eqv (.tuple (a.map keyD)) (.tuple (b.map keyD)) = decide (a = b) := eqv_keys a b
section
variable {K : PySem.W.Frag} {F H : Hp}
theorem RpK.get (k : Key) : ∀ {kds : List (D × D)} {kvs : List (Key × V)}, RpK K F kds kvs → (valV kvs k = none ∧ dGet kds (keyD k) = none) ∨ ∃ v d, valV kvs k = some v ∧ dGet kds (keyD k) = some d ∧ Rp K F d v
  | _, _, .nil => .inl ⟨rfl, rfl⟩
  | _, _, .cons (k := j) (d := d) (v := v) r t => by
    by_cases h : j = k
    · subst h
      refine .inr ⟨v, d, valV_pos rfl, ?_, r⟩
      unfold dGet
      rw [List.find?_cons_of_pos (by rw [eqv_key]; simp)]
      rfl
    · rcases RpK.get k t with ⟨h1, h2⟩ | ⟨v', d', h1, h2, h3⟩
      · refine .inl ⟨by rw [valV_neg h]; exact h1, ?_⟩
        unfold dGet at h2 ⊢
        rw [List.find?_cons_of_neg (by rw [eqv_key]; simpa using h)]
        exact h2
      · refine .inr ⟨v', d', by rw [valV_neg h]; exact h1, ?_, h3⟩
        unfold dGet at h2 ⊢
        rw [List.find?_cons_of_neg (by rw [eqv_key]; simpa using h)]
        exact h2
theorem RpT.get (k : List Key) : ∀ {kds : List (D × D)} {kvs : List (List Key × V)}, RpT K F kds kvs → (valV kvs k = none ∧ dGet kds (.tuple (k.map keyD)) = none) ∨ ∃ v d, valV kvs k = some v ∧ dGet kds (.tuple (k.map keyD)) = some d ∧ Rp K F d v
  | _, _, .nil => .inl ⟨rfl, rfl⟩
  | _, _, .cons (k := j) (d := d) (v := v) r t => by
    by_cases h : j = k
    · subst h
      refine .inr ⟨v, d, valV_pos rfl, ?_, r⟩
      unfold dGet
      rw [List.find?_cons_of_pos (by rw [eqv_tkeys]; simp)]
      rfl
    · rcases RpT.get k t with ⟨h1, h2⟩ | ⟨v', d', h1, h2, h3⟩
      · refine .inl ⟨by rw [valV_neg h]; exact h1, ?_⟩
        unfold dGet at h2 ⊢
        rw [List.find?_cons_of_neg (by rw [eqv_tkeys]; simpa using h)]
        exact h2
      · refine .inr ⟨v', d', by rw [valV_neg h]; exact h1, ?_, h3⟩
        unfold dGet at h2 ⊢
        rw [List.find?_cons_of_neg (by rw [eqv_tkeys]; simpa using h)]
        exact h2
theorem dHas_iff (kds : List (D × D)) (k : D) : dHas kds k = (dGet kds k).isSome := by
  unfold dHas dGet
  rw [Option.isSome_map]
  induction kds with
  | nil => rfl
  | cons p r ih =>
    rw [List.any_cons, List.find?_cons]
    cases PyData.eqv p.1 k with
    | true => rfl
    | false => rw [Bool.false_or]; exact ih
theorem RpK.has (k : Key) {kds : List (D × D)} {kvs : List (Key × V)} (h : RpK K F kds kvs) : dHas kds (keyD k) = kvs.any fun kv => decide (kv.1 = k) := by
  rw [dHas_iff, valV_any]
  rcases h.get k with ⟨h1, h2⟩ | ⟨v, d, h1, h2, _⟩ <;> rw [h1, h2] <;> rfl
theorem RpT.has (k : List Key) {kds : List (D × D)} {kvs : List (List Key × V)} (h : RpT K F kds kvs) : dHas kds (.tuple (k.map keyD)) = kvs.any fun kv => decide (kv.1 = k) := by
  rw [dHas_iff, valV_any]
  rcases h.get k with ⟨h1, h2⟩ | ⟨v, d, h1, h2, _⟩ <;> rw [h1, h2] <;> rfl
theorem RpK.snoc (k : Key) {d : D} {v : V} (r : Rp K F d v) : ∀ {kds : List (D × D)} {kvs : List (Key × V)}, RpK K F kds kvs → RpK K F (kds ++ [(keyD k, d)]) (kvs ++ [(k, v)])
  | _, _, .nil => .cons r .nil
  | _, _, .cons h t => .cons h (RpK.snoc k r t)
theorem RpT.snoc (k : List Key) {d : D} {v : V} (r : Rp K F d v) : ∀ {kds : List (D × D)} {kvs : List (List Key × V)}, RpT K F kds kvs → RpT K F (kds ++ [(.tuple (k.map keyD), d)]) (kvs ++ [(k, v)])
  | _, _, .nil => .cons r .nil
  | _, _, .cons h t => .cons h (RpT.snoc k r t)
theorem RpK.repl (k : Key) {d : D} {v : V} (r : Rp K F d v) : ∀ {kds : List (D × D)} {kvs : List (Key × V)}, RpK K F kds kvs → RpK K F (kds.map fun p => if PyData.eqv p.1 (keyD k) then (p.1, d) else p) (kvs.map fun kv => if kv.1 = k then (kv.1, v) else kv)
  | _, _, .nil => .nil
  | _, _, .cons (k := j) h t => by
    rw [List.map_cons, List.map_cons]
    show RpK K F ((if PyData.eqv (keyD j) (keyD k) = true then (keyD j, d) else (keyD j, _)) :: _) _
    rw [eqv_key]
    by_cases hj : j = k
    · rw [if_pos (by simpa using hj), if_pos hj]
      exact .cons r (RpK.repl k r t)
    · rw [if_neg (by simpa using hj), if_neg hj]
      exact .cons h (RpK.repl k r t)
theorem RpT.repl (k : List Key) {d : D} {v : V} (r : Rp K F d v) : ∀ {kds : List (D × D)} {kvs : List (List Key × V)}, RpT K F kds kvs → RpT K F (kds.map fun p => if PyData.eqv p.1 (.tuple (k.map keyD)) then (p.1, d) else p) (kvs.map fun kv => if kv.1 = k then (kv.1, v) else kv)
  | _, _, .nil => .nil
  | _, _, .cons (k := j) h t => by
    rw [List.map_cons, List.map_cons]
    show RpT K F ((if PyData.eqv (.tuple (j.map keyD)) (.tuple (k.map keyD)) = true then (.tuple (j.map keyD), d) else (.tuple (j.map keyD), _)) :: _) _
    rw [eqv_tkeys]
    by_cases hj : j = k
    · rw [if_pos (by simpa using hj), if_pos hj]
      exact .cons r (RpT.repl k r t)
    · rw [if_neg (by simpa using hj), if_neg hj]
      exact .cons h (RpT.repl k r t)
theorem RpK.put (k : Key) {d : D} {v : V} (r : Rp K F d v) {kds : List (D × D)} {kvs : List (Key × V)} (h : RpK K F kds kvs) : RpK K F (dPut kds (keyD k) d) (putK kvs k v) := by
  unfold dPut putK
  rw [h.has k]
  split
  · exact h.repl k r
  · exact h.snoc k r
theorem RpT.put (k : List Key) {d : D} {v : V} (r : Rp K F d v) {kds : List (D × D)} {kvs : List (List Key × V)} (h : RpT K F kds kvs) : RpT K F (dPut kds (.tuple (k.map keyD)) d) (putK kvs k v) := by
  unfold dPut putK
  rw [h.has k]
  split
  · exact h.repl k r
  · exact h.snoc k r
theorem RpK.length : ∀ {kds : List (D × D)} {kvs : List (Key × V)}, RpK K F kds kvs → kvs.length = kds.length
  | _, _, .nil => rfl
  | _, _, .cons _ t => by rw [List.length_cons, List.length_cons, RpK.length t]
theorem RpT.length : ∀ {kds : List (D × D)} {kvs : List (List Key × V)}, RpT K F kds kvs → kvs.length = kds.length
  | _, _, .nil => rfl
  | _, _, .cons _ t => by rw [List.length_cons, List.length_cons, RpT.length t]
theorem keysL_vs : ∀ {ks : List Key} {vs : List V}, RpL K F (ks.map keyD) vs → vs = ks.map kV
  | [], _, h => by cases h; rfl
  | k :: ks, _, h => by
    rw [List.map_cons] at h
    cases h with
    | cons h1 h2 =>
      rw [keysL_vs h2, List.map_cons]
      cases k with
      | inl i => cases h1; rfl
      | inr x => cases h1; rfl
/-- the first key is no mark -/
def notMk : List (D × D) → Bool
  | (.none, _) :: _ => false
  | (.bool _, _) :: _ => false
  | _ => true
/-- a dict that is read -/
theorem RpB.dictK' (s : Gr F H) {kds : List (D × D)} {v : V} (h : RpB K F H (.dict kds) v) (hn : notMk kds = true) : ∃ a kvs, v = .ref a ∧ Rd H a (.dK kvs) ∧ RpK K F kds kvs := by
  rcases h with h | ⟨a, o, rfl, _, h1, h2⟩
  · generalize hz : PyData.dict kds = z at h
    cases h with
    | non => cases hz
    | bl => cases hz
    | int => cases hz
    | str => cases hz
    | lst => cases hz
    | tup => cases hz
    | dK h1 h2 =>
      injection hz with hz
      subst hz
      exact ⟨_, _, rfl, s.rd h1 (fun _ z => nomatch z), h2⟩
    | dT h1 h2 =>
      injection hz with hz
      subst hz
      cases hn
    | scr h =>
      unfold scrD at hz
      injection hz with hz
      subst hz
      cases hn
  · generalize hz : PyData.dict kds = z at h2
    cases h2 with
    | lst => cases hz
    | dK h2 =>
      injection hz with hz
      subst hz
      exact ⟨a, _, rfl, .inl h1, h2⟩
    | dT h2 =>
      injection hz with hz
      subst hz
      cases hn
theorem RpK.nb {l : List (D × D)} {kvs : List (Key × V)} (h : RpK K F l kvs) {b : Bool} {d : D} {r : List (D × D)} (e : l = (.bool b, d) :: r) : False := by
  cases h with
  | nil => cases e
  | @cons k _ _ _ _ _ _ =>
    injection e with e1 _
    injection e1 with e2 _
    cases k <;> cases e2
theorem RpB.dictK (s : Le F H) {kds : List (D × D)} {v : V} (h : RpB K F H (.dict kds) v) (hn : notMk kds = true) : ∃ a kvs, v = .ref a ∧ Rd H a (.dK kvs) ∧ RpK K F kds kvs := RpB.dictK' s.g h hn
theorem RpB.dictT' (s : Gr F H) {kds : List (D × D)} {v : V} (h : RpB K F H (.dict ((.bool true, .none) :: kds)) v) : ∃ a kvs, v = .ref a ∧ Rd H a (.dT kvs) ∧ RpT K F kds kvs := by
  rcases h with h | ⟨a, o, rfl, _, h1, h2⟩
  · generalize hz : PyData.dict ((.bool true, .none) :: kds) = z at h
    cases h with
    | non => cases hz
    | bl => cases hz
    | int => cases hz
    | str => cases hz
    | lst => cases hz
    | tup => cases hz
    | dK h1 h2 =>
      injection hz with hz
      exact (h2.nb hz.symm).elim
    | dT h1 h2 =>
      injection hz with hz
      injection hz with _ hz
      subst hz
      exact ⟨_, _, rfl, s.rd h1 (fun _ z => nomatch z), h2⟩
    | scr h =>
      unfold scrD at hz
      injection hz with hz
      injection hz with hz _
      injection hz with hz _
      cases hz
  · generalize hz : PyData.dict ((.bool true, .none) :: kds) = z at h2
    cases h2 with
    | lst => cases hz
    | dK h2 =>
      injection hz with hz
      exact (h2.nb hz.symm).elim
    | dT h2 =>
      injection hz with hz
      injection hz with _ hz
      subst hz
      exact ⟨a, _, rfl, .inl h1, h2⟩
theorem RpB.dictT (s : Le F H) {kds : List (D × D)} {v : V} (h : RpB K F H (.dict ((.bool true, .none) :: kds)) v) : ∃ a kvs, v = .ref a ∧ Rd H a (.dT kvs) ∧ RpT K F kds kvs := RpB.dictT' s.g h
end
/-! ### d[k], k in d, d.get(k, x) -/
/-- the dict's pairs, if k may be one of its keys -/
def dkOf : D → D → Option (List (D × D))
  | .dict kds, k => match kds, k with
    | (.bool true, .none) :: r, .tuple ds => if (keysOf ds).isSome then some r else none
    | kds, k => if notMk kds && (keyOf k).isSome then some kds else none
  | _, _ => none
section
variable {K : PySem.W.Frag} {F H : Hp}
theorem dget_of (s : Le F H) {d : D} {k : D} {kds : List (D × D)} {x y : V} (hx : RpB K F H d x) (hk : dkOf d k = some kds) (hy : RpB K F H k y) :
    ∃ a, x = .ref a ∧ ((dGet kds k = none ∧ DGet H a y none) ∨ ∃ v d, dGet kds k = some d ∧ DGet H a y (some v) ∧ Rp K F d v) := by
  unfold dkOf at hk
  split at hk
  · split at hk
    · rename_i r ds
      split at hk
      · rename_i h
        cases hk
        rw [Option.isSome_iff_exists] at h
        obtain ⟨ks, hks⟩ := h
        have := keysOf_eq hks
        subst this
        obtain ⟨b, us, rfl, hb, rb⟩ := hy.tuple s
        rw [keysL_vs rb] at hb
        obtain ⟨a, kvs, rfl, h1, h2⟩ := hx.dictT s
        refine ⟨a, rfl, ?_⟩
        rcases h2.get ks with ⟨g1, g2⟩ | ⟨v, d, g1, g2, g3⟩
        · exact .inl ⟨g2, .inr ⟨kvs, ks, b, h1, rfl, hb, g1.symm⟩⟩
        · exact .inr ⟨v, d, g2, .inr ⟨kvs, ks, b, h1, rfl, hb, g1.symm⟩, g3⟩
      · cases hk
    · split at hk
      · rename_i h
        cases hk
        rw [Bool.and_eq_true] at h
        obtain ⟨h1, h2⟩ := h
        rw [Option.isSome_iff_exists] at h2
        obtain ⟨j, hj⟩ := h2
        have := keyOf_eq hj
        subst this
        have ey : y = kV j := by
          cases j with
          | inl i => exact hy.int
          | inr x => exact hy.str
        subst ey
        obtain ⟨a, kvs, rfl, h1, h2⟩ := hx.dictK s h1
        refine ⟨a, rfl, ?_⟩
        rcases h2.get j with ⟨g1, g2⟩ | ⟨v, d, g1, g2, g3⟩
        · exact .inl ⟨g2, .inl ⟨kvs, j, h1, rfl, g1.symm⟩⟩
        · exact .inr ⟨v, d, g2, .inl ⟨kvs, j, h1, rfl, g1.symm⟩, g3⟩
      · cases hk
  · cases hk
end
theorem dk_isD {K : PySem.W.Frag} {F H : Hp} (s : Le F H) {d : D} {k : D} {kds : List (D × D)} {x : V} (hx : RpB K F H d x) (hk : dkOf d k = some kds) : ∃ p, x = .ref p ∧ IsD H p := by
  unfold dkOf at hk
  split at hk
  · split at hk
    · obtain ⟨p, kvs, e, g, _⟩ := hx.dictT s
      exact ⟨p, e, .inr ⟨_, g⟩⟩
    · split at hk
      · rename_i hn
        rw [Bool.and_eq_true] at hn
        obtain ⟨p, kvs, e, g, _⟩ := hx.dictK s hn.1
        exact ⟨p, e, .inl ⟨_, g⟩⟩
      · cases hk
  · cases hk
section
variable {X : Cx} {a b c : Expr} {f g h : Den} {pos : Pos}
def dgetD (d k : D) : Option D := (dkOf d k).bind fun kds => dGet kds k
def dgetD3 (d k x : D) : Option D := (dkOf d k).bind fun kds => some ((dGet kds k).getD x)
def inK (k d : D) : Option Bool := (dkOf d k).bind fun kds => some (dHas kds k)
def ninK (k d : D) : Option Bool := (dkOf d k).bind fun kds => some (!dHas kds k)
def d3 (op : D → D → D → Option D) (f g h : Den) : Den := fun ρ => (f ρ).bind fun x => (g ρ).bind fun y => (h ρ).bind fun z => op x y z
theorem ex_dget (hu : X.A.units + 1 < cLine) (ha : EB X a f) (hb : EB X b g) (hs : NoSl b) : EX X (.Subscript a b pos) (d2 dgetD f g) :=
  mkX (pe_dget hu ha.pe hb.pe hs) fun σ H Q ρ F d e h k => by
    simp only [d2, dgetD, Option.bind_eq_some_iff] at h
    obtain ⟨x, h1, y, h2, kds, h3, h4⟩ := h
    refine ⟨ρ, F, x, e, h1, fun u F1 H1 x1 r1 => ⟨ρ, F1, y, e.ext x1, h2, fun v F2 H2 x2 r2 => ?_⟩⟩
    obtain ⟨p, rfl, g⟩ := dget_of x2.le (r1.ext x2) h3 r2
    rcases g with ⟨g1, _⟩ | ⟨w, d', g1, g2, g3⟩
    · rw [h4] at g1; cases g1
    · rw [h4] at g1
      cases g1
      exact ⟨p, w, rfl, g2, k w F2 H2 (x1.trans x2) g3⟩
theorem ec_inK (hu : X.A.units + 1 < cLine) (ha : EB X a f) (hb : EB X b g) : EC X .In a b (b2 inK f g) :=
  ⟨PC.imp (pc_din hu ha.pe hb.pe) fun σ H Q ⟨ρ, F, d, e, h, k⟩ => by
    simp only [b2, inK, Option.bind_eq_some_iff, Option.some.injEq] at h
    obtain ⟨x, h1, y, h2, kds, h3, rfl⟩ := h
    refine ⟨ρ, F, x, e, h1, fun u F1 H1 x1 r1 => ⟨ρ, F1, y, e.ext x1, h2, fun v F2 H2 x2 r2 => ?_⟩⟩
    obtain ⟨p, rfl, g⟩ := dget_of x2.le r2 h3 (r1.ext x2)
    rw [dHas_iff] at k
    rcases g with ⟨g1, g2⟩ | ⟨w, d', g1, g2, g3⟩
    · rw [g1] at k
      exact ⟨p, _, rfl, g2, k F2 H2 (x1.trans x2)⟩
    · rw [g1] at k
      exact ⟨p, _, rfl, g2, k F2 H2 (x1.trans x2)⟩⟩
theorem ec_ninK (hu : X.A.units + 1 < cLine) (ha : EB X a f) (hb : EB X b g) : EC X .NotIn a b (b2 ninK f g) :=
  ⟨PC.imp (pc_dnotin hu ha.pe hb.pe) fun σ H Q ⟨ρ, F, d, e, h, k⟩ => by
    simp only [b2, ninK, Option.bind_eq_some_iff, Option.some.injEq] at h
    obtain ⟨x, h1, y, h2, kds, h3, rfl⟩ := h
    refine ⟨ρ, F, x, e, h1, fun u F1 H1 x1 r1 => ⟨ρ, F1, y, e.ext x1, h2, fun v F2 H2 x2 r2 => ?_⟩⟩
    obtain ⟨p, rfl, g⟩ := dget_of x2.le r2 h3 (r1.ext x2)
    rw [dHas_iff] at k
    rcases g with ⟨g1, g2⟩ | ⟨w, d', g1, g2, g3⟩
    · rw [g1] at k
      exact ⟨p, _, rfl, g2, k F2 H2 (x1.trans x2)⟩
    · rw [g1] at k
      exact ⟨p, _, rfl, g2, k F2 H2 (x1.trans x2)⟩⟩
theorem ex_dget3 {apos cpos : Pos} (hu : X.A.units + 1 < cLine) (ha : EB X a f) (hb : EB X b g) (hc : EX X c h) (m : M2 X a "get" apos b c cpos) : EX X (.Call (.Attribute a "get" apos) [b, c] [] cpos) (d3 dgetD3 f g h) :=
  mkX (pe_dget2 hu ha.pe hb.pe hc.pe m) fun σ H Q ρ F d e h k => by
    simp only [d3, dgetD3, Option.bind_eq_some_iff, Option.some.injEq] at h
    obtain ⟨x, h1, y, h2, z, h3, kds, h4, rfl⟩ := h
    refine ⟨ρ, F, x, e, h1, fun u F1 H1 x1 r1 => ?_⟩
    obtain ⟨p, rfl, hd⟩ := dk_isD x1.le r1 h4
    refine ⟨p, rfl, hd, ρ, F1, y, e.ext x1, h2, fun v F2 H2 x2 r2 => ⟨ρ, F2, z, (e.ext x1).ext x2, h3, fun w F3 H3 x3 r3 => ?_⟩⟩
    obtain ⟨q, eq, g⟩ := dget_of x3.le ((r1.ext x2).ext x3) h4 (r2.ext x3)
    cases eq
    rcases g with ⟨g1, g2⟩ | ⟨v', d', g1, g2, g3⟩
    · rw [g1] at k
      exact ⟨_, g2, k _ F3 H3 ((x1.trans x2).trans x3) r3⟩
    · rw [g1] at k
      exact ⟨_, g2, k _ F3 H3 ((x1.trans x2).trans x3) g3⟩
theorem en_dK : EN X (.Dict [] [] pos) (kD (.dict [])) :=
  mkN pe_dnewK fun σ H Q ρ F d e h k => by
    cases h
    exact fun p hp => k p _ F _ (.own e.sub hp) (e.sub.free hp) hp upd_same (.dK .nil)
theorem en_dT : EN X (.Dict [] [] pos) (kD (.dict [(.bool true, .none)])) :=
  mkN pe_dnewT fun σ H Q ρ F d e h k => by
    cases h
    exact fun p hp => k p _ F _ (.own e.sub hp) (e.sub.free hp) hp upd_same (.dT .nil)
end
end Zx
/-! Zx7: stores, changes of one's own lists and dicts, loops. -/
namespace Zx
variable [Marked]
open PySem PySem.Spec L2
section
variable {X : Cx} {st : Stmt} {sts : List Stmt} {f g : DenS} {fd fe : Den} {fl : DenL} {fb : DenB} {a b : Expr} {pos : Pos} {K : PySem.W.Frag} {F0 H0 F H F1 H1 : Hp} {ρ : Env} {σ : L2.St}
theorem EnvS.tgt {ρ' : Env} {σ' : L2.St} (e : EnvS K F0 H0 ρ σ F H) (e' : EnvOk K ρ' σ' F H) (o : OwK ρ σ ρ' σ') : EnvS K F0 H0 ρ' σ' F H :=
  ⟨e', e.ext, fun j d a h1 h2 => by
    obtain ⟨g1, g2⟩ := o j d h1
    exact e.own j d a g1 (g2 ▸ h2)⟩
theorem sx_asg {tg : Expr} {ws : List Nat} {g : DenG} (ha : EX X a fd) (hg : EG X tg ws g) (hs : swapsWithSole [tg] a pos.line X.env = pure false) (hw : swappedStores [tg] a X.env = pure none)
    (h1 : (assignEach [tg] X.env).map (·.2) = [assign tg X.env]) : SX X (.Assign [tg] a pos) (sAsg g fd) := sx_mk (ps_asg ha.pe hg.pg hs hw h1) fun D σ H F0 H0 ρ F o e h k => by
  simp only [sAsg, Option.bind_eq_some_iff, Option.some.injEq] at h
  obtain ⟨d, h1, ρ', h2, rfl⟩ := h
  exact ⟨ρ, F, d, e.env, h1, fun v F' H' x r => ⟨ρ, F', d, ρ', e.env.ext x, r, h2, fun σ' e' _ o' => k σ' F' H' ((e.to x).tgt e' o')⟩⟩
def sPar (i j : Nat) (f : DenL) : DenS := fun ρ => (f ρ).bind fun ds => match ds with | [d, e] => some (.nx ((ρ.set i (.fz d)).set j (.fz e))) | _ => none
theorem sx_par (i j : Nat) {x y : Str} {px py pt : Pos} {kt k2 pt2} (hc : X.calm = true) (hN : X.N.Nodup) (hi : X.N[i]? = some x) (hj : X.N[j]? = some y) (hij : i ≠ j)
    (hx : X.env.scope.names.lookup x = some .local) (hy : X.env.scope.names.lookup y = some .local) (ha : EA X [a, b] fl)
    (hw : swappedStores [.Tuple [.Name x px, .Name y py] kt pt] (.Tuple [a, b] k2 pt2) X.env = pure (some [x, y]))
    (hs : swapsWithSole [.Tuple [.Name x px, .Name y py] kt pt] (.Tuple [a, b] k2 pt2) pos.line X.env = pure false) :
    SX X (.Assign [.Tuple [.Name x px, .Name y py] kt pt] (.Tuple [a, b] k2 pt2) pos) (sPar i j fl) := sx_mk (ps_par hc hN hi hj hij hx hy ha.pa hw hs) fun D σ H F0 H0 ρ F o e h k => by
  simp only [sPar, Option.bind_eq_some_iff] at h
  obtain ⟨ds, h1, h2⟩ := h
  refine ⟨ρ, F, ds, e.env, h1, fun vs F' H' x r => ?_⟩
  split at h2
  · cases h2
    cases r with
    | cons r1 r =>
      cases r with
      | cons r2 r =>
        cases r
        exact ⟨_, _, rfl, k _ F' H' (((e.to x).set r1).set r2)⟩
  · cases h2
def sPar3 (i j l : Nat) (f : DenL) : DenS := fun ρ => (f ρ).bind fun ds => match ds with | [d, e, c] => some (.nx (((ρ.set i (.fz d)).set j (.fz e)).set l (.fz c))) | _ => none
/-! ### one's own list or dict changed -/
theorem EnvS.put {i : Nat} {d d' : D} {p : Addr} {o : HO} (e : EnvS K F0 H0 ρ σ F H) (hs : ρ[i]? = some (.ow d)) (hv : σ[i]? = some (some (.ref p))) (r : OwnRep K F d' o) : EnvS K F0 H0 (ρ.set i (.ow d')) σ F (upd H p o) := by
  obtain ⟨ov, h1, q, o1, h2, h3, h4, h5⟩ := e.env.at_ i _ hs
  rw [hv] at h1
  cases h1
  cases h2
  have hl : i < ρ.length := (List.getElem?_eq_some_iff.mp hs).1
  have hH0 : H0 p = none := e.own i d p hs hv
  have sub : Le F (upd H p o) := e.env.sub.set h3 (.own h4 h5)
  have z : ∀ {j : Nat} {d1 : D}, (ρ.set i (.ow d'))[j]? = some (.ow d1) → ∃ d2, ρ[j]? = some (.ow d2) := fun {j d1} h => by
    by_cases hj : i = j
    · subst hj
      exact ⟨d, hs⟩
    · rw [List.getElem?_set_ne hj] at h
      exact ⟨d1, h⟩
  refine ⟨⟨sub, by rw [List.length_set]; exact e.env.len, fun j s hj => ?_, fun j k d1 d2 b g1 g2 g3 g4 => ?_⟩, ⟨e.ext.f, e.ext.h.set hH0, sub, e.ext.new⟩, fun j d1 b g1 g2 => ?_⟩
  · by_cases hij : i = j
    · subst hij
      rw [List.getElem?_set_self hl] at hj
      cases hj
      exact ⟨_, hv, p, o, rfl, h3, upd_same, r⟩
    · rw [List.getElem?_set_ne hij] at hj
      obtain ⟨ov, g1, g2⟩ := e.env.at_ j s hj
      refine ⟨ov, g1, ?_⟩
      cases s with
      | no => trivial
      | fz d' => exact g2
      | ow d' =>
        obtain ⟨b, u, g3, g4, g5, g6⟩ := g2
        refine ⟨b, u, g3, g4, ?_, g6⟩
        rw [upd_ne]
        · exact g5
        · rintro rfl
          subst g3
          exact hij (e.env.dist i j d d' b hs hj hv g1)
  · obtain ⟨d3, g5⟩ := z g1
    obtain ⟨d4, g6⟩ := z g2
    exact e.env.dist j k d3 d4 b g5 g6 g3 g4
  · obtain ⟨d3, g5⟩ := z g1
    exact e.own j d3 b g5 g2
/-- the slot's own list -/
def owL (ρ : Env) (i : Nat) : Option (List D) := match ρ[i]? with | some (.ow (.list xs)) => some xs | _ => none
theorem owL_at {i : Nat} {xs : List D} (e : EnvS K F0 H0 ρ σ F H) (h : owL ρ i = some xs) : ρ[i]? = some (.ow (.list xs)) ∧ ∃ p vs, σ[i]? = some (some (.ref p)) ∧ F p = none ∧ H p = some (.lst vs) ∧ RpL K F xs vs := by
  unfold owL at h
  split at h
  · rename_i hs
    cases h
    obtain ⟨ov, h1, q, o1, h2, h3, h4, h5⟩ := e.env.at_ i _ hs
    subst h2
    cases h5 with
    | lst h5 => exact ⟨hs, q, _, h1, h3, h4, h5⟩
  · cases h
def sApp (i : Nat) (f : Den) : DenS := fun ρ => (f ρ).bind fun d => (owL ρ i).bind fun xs => if xs.length < 1000000 then some (.nx (ρ.set i (.ow (.list (xs ++ [d]))))) else none
theorem sx_append (i : Nat) {x : Str} {p apos cpos : Pos} (hN : X.N[i]? = some x) (hv : visB X.env.scope x = true) (hd : (x == ("__debug__" : Str)) = false) (hcd : (x == ("__classdict__" : Str)) = false) (ha : EX X a fd) (hs : N1 X a)
    (hline : (apos.endLine == cpos.line) = true) :
    SX X (.Expr (.Call (.Attribute (.Name x p) "append" apos) [a] [] cpos) pos) (sApp i fd) :=
  sx_mk (ps_expr (pe_bm PySem.F.plainAttrs_list PySem.F.slot_list_append PySem.F.type_list_append mt_append (pe_var hN (vis_of hv) hd hcd) (pa_cons ha.pe pa_nil hs) rfl (by rw [hs]; rfl) hline hs rfl)) fun D σ H F0 H0 ρ F o e h k => by
    simp only [sApp, Option.bind_eq_some_iff] at h
    obtain ⟨d, h1, xs, h2, h3⟩ := h
    split at h3
    · rename_i hl
      cases h3
      obtain ⟨g1, q, vs, g2, g3, g4, g5⟩ := owL_at e h2
      refine ⟨_, g2, .inl ⟨rfl, vs, .inl (.inl g4)⟩, ρ, F, d, e.env, h1, fun w F' H' x r => ?_⟩
      have e' := e.to x
      refine ⟨q, vs, w, rfl, rfl, x.h.n _ _ g4 (fun _ z => nomatch z), by rw [g5.length]; exact line_lt hl, ?_⟩
      exact k _ F' _ (e'.put g1 g2 (.lst ((g5.mono x.f).append (.one r))))
    · cases h3
def listOf : D → Option (List D) | .list xs => some xs | _ => none
def sExt (i : Nat) (f : Den) : DenS := fun ρ => (f ρ).bind fun d => (listOf d).bind fun ys => (owL ρ i).bind fun xs => if xs.length + ys.length ≤ 1000000 then some (.nx (ρ.set i (.ow (.list (xs ++ ys))))) else none
theorem sx_extend (i : Nat) {x : Str} {p apos cpos : Pos} (hN : X.N[i]? = some x) (hv : visB X.env.scope x = true) (hd : (x == ("__debug__" : Str)) = false) (hcd : (x == ("__classdict__" : Str)) = false) (ha : EX X a fd) (hs : N1 X a)
    (hline : (apos.endLine == cpos.line) = true) :
    SX X (.Expr (.Call (.Attribute (.Name x p) "extend" apos) [a] [] cpos) pos) (sExt i fd) :=
  sx_mk (ps_expr (pe_bm PySem.F.plainAttrs_list PySem.F.slot_list_extend PySem.F.type_list_extend mt_extend (pe_var hN (vis_of hv) hd hcd) (pa_cons ha.pe pa_nil hs) rfl (by rw [hs]; rfl) hline hs rfl)) fun D σ H F0 H0 ρ F o e h k => by
    simp only [sExt, Option.bind_eq_some_iff] at h
    obtain ⟨d, h1, ys, h0, xs, h2, h3⟩ := h
    split at h3
    · rename_i hl
      cases h3
      obtain ⟨g1, q, vs, g2, g3, g4, g5⟩ := owL_at e h2
      refine ⟨_, g2, .inl ⟨rfl, vs, .inl (.inl g4)⟩, ρ, F, d, e.env, h1, fun w F' H' x r => ?_⟩
      have e' := e.to x
      cases d <;> simp only [listOf, reduceCtorEq, Option.some.injEq] at h0
      subst h0
      cases r with
      | lst r1 r2 =>
        refine ⟨q, _, vs, _, rfl, rfl, x.h.n _ _ g4 (fun _ z => nomatch z), x.le.n r1 (fun _ z => nomatch z), by rw [g5.length, r2.length]; exact line_of hl, ?_⟩
        exact k _ F' _ (e'.put g1 g2 (.lst ((g5.mono x.f).append r2)))
    · cases h3
/-- x[j] = e -/
def sStL (i : Nat) (fj f : Den) : DenS := fun ρ => (f ρ).bind fun d => (fj ρ).bind fun j => (owL ρ i).bind fun xs => match j with
  | .int j => (ixN xs.length j).bind fun n => some (.nx (ρ.set i (.ow (.list (xs.set n d)))))
  | _ => none
theorem sx_setL (i : Nat) {x : Str} {p tpos : Pos} {fj : Den} (hN : X.N[i]? = some x) (hv : visB X.env.scope x = true) (hd : (x == ("__debug__" : Str)) = false) (hcd : (x == ("__classdict__" : Str)) = false) (ha : EX X a fd) (hb : EB X b fj)
    (has : ∀ v, assign (.Subscript (.Name x p) b tpos) X.env v = (do
      let ov ← holding [v] (eval (.Name x p) X.env)
      let iv ← holding [v, ov] (eval b X.env)
      standAt tpos
      holding [v, ov, iv] (setItem ov iv v)
      release [v, ov, iv] []))
    (hs : swapsWithSole [.Subscript (.Name x p) b tpos] a pos.line X.env = pure false) (hw : swappedStores [.Subscript (.Name x p) b tpos] a X.env = pure none)
    (h1 : (assignEach [.Subscript (.Name x p) b tpos] X.env).map (·.2) = [assign (.Subscript (.Name x p) b tpos) X.env]) : SX X (.Assign [.Subscript (.Name x p) b tpos] a pos) (sStL i fj fd) :=
  sx_mk (ps_asg ha.pe (pg_sub (pe_var hN (vis_of hv) hd hcd) hb.pe set_list has) hs hw h1) fun D σ H F0 H0 ρ F o e h k => by
    simp only [sStL, Option.bind_eq_some_iff] at h
    obtain ⟨d, h1, j, h2, xs, h3, h4⟩ := h
    cases j <;> simp only [reduceCtorEq, Option.bind_eq_some_iff, Option.some.injEq] at h4
    obtain ⟨n, h4, rfl⟩ := h4
    refine ⟨ρ, F, d, e.env, h1, fun w F1 H1 x1 r1 => ?_⟩
    have e1 := e.to x1
    obtain ⟨g1, q, vs, g2, g3, g4, g5⟩ := owL_at e1 h3
    refine ⟨_, g2, ρ, F1, _, e1.env, h2, fun u F2 H2 x2 r2 => ?_⟩
    have e2 := e1.to x2
    refine ⟨q, vs, _, n, rfl, r2.int, x2.h.n _ _ g4 (fun _ z => nomatch z), by rw [g5.length]; exact h4, ?_⟩
    exact k _ F2 _ (e2.put g1 g2 (.lst ((g5.mono x2.f).set (r1.mono x2.f) n)))
/-- the slot's own dict -/
def owD (ρ : Env) (i : Nat) : Option (List (D × D)) := match ρ[i]? with | some (.ow (.dict xs)) => some xs | _ => none
/-- d[k] = v, the pairs behind it -/
def putD (kds : List (D × D)) (k v : D) : Option (List (D × D)) := match kds, k with
    | (.bool true, .none) :: r, .tuple ds => if (keysOf ds).isSome && decide (r.length < 1000000) then some ((.bool true, .none) :: dPut r (.tuple ds) v) else none
    | kds, k => if notMk kds && (keyOf k).isSome && decide (kds.length < 1000000) then some (dPut kds k v) else none
def sStD (i : Nat) (fk f : Den) : DenS := fun ρ => (f ρ).bind fun d => (fk ρ).bind fun j => (owD ρ i).bind fun xs => (putD xs j d).bind fun ys => some (.nx (ρ.set i (.ow (.dict ys))))
theorem owD_at {i : Nat} {xs : List (D × D)} (e : EnvS K F0 H0 ρ σ F H) (h : owD ρ i = some xs) : ρ[i]? = some (.ow (.dict xs)) ∧ ∃ p o, σ[i]? = some (some (.ref p)) ∧ F p = none ∧ H p = some o ∧ OwnRep K F (.dict xs) o := by
  unfold owD at h
  split at h
  · rename_i hs
    cases h
    obtain ⟨ov, h1, q, o1, h2, h3, h4, h5⟩ := e.env.at_ i _ hs
    subst h2
    exact ⟨hs, q, o1, h1, h3, h4, h5⟩
  · cases h
theorem OwnRep.dK_of {kds : List (D × D)} {o : HO} (h : OwnRep K F (.dict kds) o) (hn : notMk kds = true) : ∃ kvs, o = .dK kvs ∧ RpK K F kds kvs := by
  generalize hz : PyData.dict kds = z at h
  cases h with
  | lst => cases hz
  | dK h2 =>
    injection hz with hz
    subst hz
    exact ⟨_, rfl, h2⟩
  | dT h2 =>
    injection hz with hz
    subst hz
    cases hn
theorem OwnRep.dT_of {kds : List (D × D)} {o : HO} (h : OwnRep K F (.dict ((.bool true, .none) :: kds)) o) : ∃ kvs, o = .dT kvs ∧ RpT K F kds kvs := by
  generalize hz : PyData.dict ((.bool true, .none) :: kds) = z at h
  cases h with
  | lst => cases hz
  | dK h2 =>
    injection hz with hz
    exact (h2.nb hz.symm).elim
  | dT h2 =>
    injection hz with hz
    injection hz with _ hz
    subst hz
    exact ⟨_, rfl, h2⟩
theorem put_of {kds kds' : List (D × D)} {k d : D} {o : HO} {p : Addr} {y v : V} (s : Le F H) (ho : H p = some o) (h : OwnRep K F (.dict kds) o) (hk : putD kds k d = some kds') (hy : RpB K F H k y) (hv : Rp K F d v) :
    ∃ o', DPut H p y v (upd H p o') ∧ OwnRep K F (.dict kds') o' := by
  unfold putD at hk
  split at hk
  · rename_i r ds
    split at hk
    · rename_i h1
      cases hk
      rw [Bool.and_eq_true] at h1
      obtain ⟨h1, hl⟩ := h1
      have hl := of_decide_eq_true hl
      rw [Option.isSome_iff_exists] at h1
      obtain ⟨ks, hks⟩ := h1
      have := keysOf_eq hks
      subst this
      obtain ⟨b, us, rfl, hb, rb⟩ := hy.tuple s
      rw [keysL_vs rb] at hb
      obtain ⟨kvs, rfl, h2⟩ := h.dT_of
      exact ⟨_, .t ho hb (by rw [h2.length]; exact line_lt hl), .dT (h2.put ks hv)⟩
    · cases hk
  · split at hk
    · rename_i h1
      cases hk
      rw [Bool.and_eq_true, Bool.and_eq_true] at h1
      obtain ⟨⟨h1, h2⟩, hl⟩ := h1
      have hl := of_decide_eq_true hl
      rw [Option.isSome_iff_exists] at h2
      obtain ⟨j, hj⟩ := h2
      have := keyOf_eq hj
      subst this
      have ey : y = kV j := by
        cases j with
        | inl i => exact hy.int
        | inr x => exact hy.str
      subst ey
      obtain ⟨kvs, rfl, h2⟩ := h.dK_of h1
      exact ⟨_, .k ho (by rw [h2.length]; exact line_lt hl), .dK (h2.put j hv)⟩
    · cases hk
theorem sx_setD (i : Nat) {x : Str} {p tpos : Pos} {fj : Den} (hu : X.A.units + 1 < cLine) (hN : X.N[i]? = some x) (hv : visB X.env.scope x = true) (hd : (x == ("__debug__" : Str)) = false) (hcd : (x == ("__classdict__" : Str)) = false) (ha : EX X a fd) (hb : EX X b fj)
    (hs : swapsWith a (some (.Subscript (.Name x p) b tpos)) pos.line X.env = pure false) : SX X (.Assign [.Subscript (.Name x p) b tpos] a pos) (sStD i fj fd) :=
  sx_mk (ps_dput hu (pe_var hN (vis_of hv) hd hcd) hb.pe ha.pe hs) fun D σ H F0 H0 ρ F o e h k => by
    simp only [sStD, Option.bind_eq_some_iff, Option.some.injEq] at h
    obtain ⟨d, h1, j, h2, xs, h3, ys, h4, rfl⟩ := h
    refine ⟨ρ, F, d, e.env, h1, fun w F1 H1 x1 r1 => ?_⟩
    have e1 := e.to x1
    obtain ⟨g1, q, ob, g2, g3, g4, g5⟩ := owD_at e1 h3
    refine ⟨_, g2, ρ, F1, _, e1.env, h2, fun u F2 H2 x2 r2 => ?_⟩
    have e2 := e1.to x2
    obtain ⟨o', p1, p2⟩ := put_of x2.le (x2.h.n _ _ g4 g5.nt) (g5.mono x2.f) h4 (.inl r2) (r1.mono x2.f)
    exact ⟨q, _, rfl, p1, k _ F2 _ (e2.put g1 g2 p2)⟩
/-! ### loops -/
def forL (g : DenG) (fb : DenS) : List D → DenS
  | [], ρ => some (.nx ρ)
  | d :: ds, ρ => (g d ρ).bind fun ρ1 => (fb ρ1).bind fun o => match o with
    | .nx ρ' => forL g fb ds ρ'
    | .ct ρ' => forL g fb ds ρ'
    | .bk ρ' => some (.nx ρ')
    | o => some o
def sFor (fi : DenI) (g : DenG) (fb : DenS) : DenS := fun ρ => (fi ρ).bind fun ds => forL g fb ds ρ
/-- the same from a later base -/
theorem EnvS.rebase (e : EnvS K F0 H0 ρ σ F1 H1) : ∃ Hx, Ext F0 H0 F1 Hx ∧ EnvS K F1 Hx ρ σ F1 H1 := by
  classical
  obtain ⟨Hx, hx⟩ : ∃ Hx : Hp, ∀ a, Hx a = if H0 a = none ∧ F1 a = none ∧ ¬ ∃ u, H1 a = some u ∧ ((∃ φ, u = .ext φ) ∨ ∃ ps, u = .tbl ps) then none else H1 a := ⟨_, fun _ => rfl⟩
  have keep : ∀ {a}, ¬ (H0 a = none ∧ F1 a = none ∧ ¬ ∃ u, H1 a = some u ∧ ((∃ φ, u = .ext φ) ∨ ∃ ps, u = .tbl ps)) → Hx a = H1 a := fun {a} h => by rw [hx, if_neg h]
  have le : Le F1 Hx := by
    refine ⟨⟨fun a o h n => ?_, fun a h => ?_⟩, fun P q h => ?_⟩
    · rw [keep fun z => by rw [z.2.1] at h; cases h]
      exact e.env.sub.n h n
    · by_cases c : H0 a = none ∧ F1 a = none ∧ ¬ ∃ u, H1 a = some u ∧ ((∃ φ, u = .ext φ) ∨ ∃ ps, u = .tbl ps)
      · exact c.2.1
      · rw [keep c] at h
        exact e.env.sub.free h
    · obtain ⟨ps, h1, h2, h3⟩ := e.env.sub.m P q h
      refine ⟨ps, ?_, h2, fun pos cv hc => ?_⟩
      · rw [keep fun z => z.2.2 ⟨_, h1, .inr ⟨_, rfl⟩⟩]
        exact h1
      · obtain ⟨c, e1, e2⟩ := h3 pos cv hc
        refine ⟨c, e1, ?_⟩
        rw [keep fun z => z.2.2 ⟨_, e2, .inl ⟨_, rfl⟩⟩]
        exact e2
  refine ⟨Hx, ⟨e.ext.f, ⟨fun a o h n => ?_, fun a h => ?_⟩, le, e.ext.new⟩, ⟨e.env, ⟨.refl _, ⟨fun a o h _ => ?_, fun a h => ?_⟩, e.env.sub, fun _ _ h => h⟩, fun i d a h1 h2 => ?_⟩⟩
  · rw [keep fun z => by rw [z.1] at h; cases h]
    exact e.ext.h.n a o h n
  · by_cases c : H0 a = none ∧ F1 a = none ∧ ¬ ∃ u, H1 a = some u ∧ ((∃ φ, u = .ext φ) ∨ ∃ ps, u = .tbl ps)
    · exact c.1
    · rw [keep c] at h
      exact e.ext.h.k a h
  · rw [hx] at h
    split at h
    · cases h
    · exact h
  · rw [hx]
    split
    · rfl
    · exact h
  · obtain ⟨ov, g1, b, o, g2, g3, g4, g5⟩ := e.env.at_ i _ h1
    rw [h2] at g1
    cases g1
    cases g2
    rw [hx, if_pos ⟨e.own i d a h1 h2, g3, fun ⟨u, z, y⟩ => by
      rw [g4] at z
      cases z
      rcases y with ⟨φ, y⟩ | ⟨ps, y⟩
      · exact g5.nx _ y
      · exact g5.nt _ y⟩]
theorem EnvS.unbase {Fx Hx : Hp} (x : Ext F0 H0 Fx Hx) (e : EnvS K Fx Hx ρ σ F H) : EnvS K F0 H0 ρ σ F H := ⟨e.env, x.trans e.ext, fun i d a h1 h2 => x.h.free (e.own i d a h1 h2)⟩
theorem Post.base {D : Ends} {o : Out} {Fx Hx : Hp} (x : Ext F0 H0 Fx Hx) (h : Post K F0 H0 D o) : Post K Fx Hx D o := by
  cases o with
  | nx ρ => exact fun σ' F' H' e => h σ' F' H' (e.unbase x)
  | bk ρ => exact fun σ' F' H' e => h σ' F' H' (e.unbase x)
  | ct ρ => exact fun σ' F' H' e => h σ' F' H' (e.unbase x)
  | rt d => exact fun v F' H' e r => h v F' H' (x.trans e) r
  | rn d => exact fun a o F' H' e h1 h2 h3 h4 => h a o F' H' (x.trans e) h1 (x.h.free h2) h3 h4
theorem for_t {wi : TI} {g : DenG} {fbd : DenS} {ws : List Nat} {fi : DenI} {o : Out} {D : Ends} (hwi : ∀ ds R, fi ρ = some ds → (∀ J F2 H2, Ext F H F2 H2 → Walks K J F2 ds → R J H2) → wi σ H R) (e : EnvS K F0 H0 ρ σ F H) (h : sFor fi g fbd ρ = some o) (k : Post K F0 H0 D o) :
    tFor wi (tGt K ws g) (tSt K fbd) D σ H := by
  simp only [sFor, Option.bind_eq_some_iff] at h
  obtain ⟨ds, h1, h2⟩ := h
  refine hwi ds _ h1 fun J F1 H1 x1 w => ?_
  obtain ⟨Hx, xb, eb⟩ := (e.to x1).rebase
  have kb := k.base xb
  refine ⟨fun i m σ' H' => i ≤ ds.length ∧ m = ds.length - i ∧ ∃ ρ' F', EnvS K F1 Hx ρ' σ' F' H' ∧ forL g fbd (ds.drop i) ρ' = some o, ⟨_, Nat.zero_le _, rfl, ρ, F1, eb, by rw [List.drop_zero]; exact h2⟩, ?_⟩
  rintro i m σ' H' ⟨hle, rfl, ρ', F', e', hl⟩
  obtain ⟨w1, w2⟩ := w i F' H' e'.ext.f e'.env.sub
  by_cases hi : i < ds.length
  · have hd : ds.drop i = ds[i] :: ds.drop (i + 1) := List.drop_eq_getElem_cons hi
    rw [hd] at hl
    simp only [forL, Option.bind_eq_some_iff] at hl
    obtain ⟨ρ1, g1, o1, g2, g3⟩ := hl
    obtain ⟨w3, w4⟩ := w1 ds[i] (List.getElem?_eq_getElem hi)
    refine .inr ⟨w3, fun σ2 H2 => ∃ ρ2 F2, EnvS K F1 Hx ρ2 σ2 F2 H2 ∧ forL g fbd (ds.drop (i + 1)) ρ2 = some o, fun σ2 H2 hN => ⟨_, by omega, hi, rfl, hN⟩, fun x H2 hy => ?_⟩
    obtain ⟨F2, x2, r2⟩ := w4 x H2 hy
    have e2 := e'.to x2
    refine ⟨ρ', F2, ds[i], ρ1, e2.env, r2, g1, fun σ3 e3 _ o3 => ?_⟩
    refine ⟨F1, Hx, ρ1, F2, o1, e2.tgt e3 o3, g2, ?_⟩
    cases o1 with
    | nx ρ2 => exact fun σ4 F4 H4 e4 => ⟨ρ2, F4, e4, g3⟩
    | ct ρ2 => exact fun σ4 F4 H4 e4 => ⟨ρ2, F4, e4, g3⟩
    | bk ρ2 =>
      cases g3
      exact kb
    | rt d =>
      cases g3
      exact kb
    | rn d =>
      cases g3
      exact kb
  · have hd : ds.drop i = [] := List.drop_eq_nil_of_le (by omega)
    rw [hd] at hl
    cases hl
    exact .inl ⟨w2 (by omega), kb σ' F' H' e'⟩
theorem sx_for {X : Cx} {pos : Pos} {tg iter : Expr} {body : List Stmt} {ws : List Nat} {fi : DenI} {g : DenG} {fbd : DenS} (hp : PassesOwn (model X.prog X.w) X.A X.env X.xe) (hc : X.calm = true) (hi : EI X tg iter fi) (hg : EG X tg ws g) (hb : SXs X body fbd)
    (hs : ∀ x, foldedSetIterable iter X.env x = pure x) : SX X (.For tg iter body [] pos) (sFor fi g fbd) :=
  sx_mk (ps_for hp hc hi.pi hg.pg hb.pss hs) fun D σ H F0 H0 ρ F o e h k => for_t (fun ds R h1 w => ⟨ρ, F, ds, e.env, h1, w⟩) e h k
/-! ### while -/
def whL (c : DenB) (fb : DenS) : Nat → DenS
  | 0, _ => none
  | n + 1, ρ => (c ρ).bind fun b => if b then (fb ρ).bind fun o => match o with
      | .nx ρ' => whL c fb n ρ'
      | .ct ρ' => whL c fb n ρ'
      | .bk ρ' => some (.nx ρ')
      | o => some o
    else some (.nx ρ)
open Classical in
noncomputable def sWh (c : DenB) (fb : DenS) : DenS := fun ρ => if h : ∃ n o, whL c fb n ρ = some o then some (Classical.choose (Classical.choose_spec h)) else none
theorem sWh_ex {c : DenB} {fb : DenS} {ρ : Env} {o : Out} (h : sWh c fb ρ = some o) : ∃ n, whL c fb n ρ = some o := by
  unfold sWh at h
  split at h
  · rename_i hh
    cases h
    exact ⟨_, Classical.choose_spec (Classical.choose_spec hh)⟩
  · cases h
theorem whL_mono {c : DenB} {fb : DenS} : ∀ {n m : Nat} {ρ : Env} {o : Out}, n ≤ m → whL c fb n ρ = some o → whL c fb m ρ = some o
  | 0, _, _, _, _, h => by cases h
  | n + 1, 0, _, _, h, _ => by omega
  | n + 1, m + 1, ρ, o, hl, h => by
    simp only [whL, Option.bind_eq_some_iff] at h ⊢
    obtain ⟨b, h1, h2⟩ := h
    refine ⟨b, h1, ?_⟩
    cases b with
    | false => exact h2
    | true =>
      simp only [if_true, Option.bind_eq_some_iff] at h2 ⊢
      obtain ⟨o1, h3, h4⟩ := h2
      refine ⟨o1, h3, ?_⟩
      cases o1 with
      | nx ρ' => exact whL_mono (by omega) h4
      | ct ρ' => exact whL_mono (by omega) h4
      | bk ρ' => exact h4
      | rt d => exact h4
      | rn d => exact h4
theorem sWh_of {c : DenB} {fb : DenS} {ρ : Env} {o : Out} {n : Nat} (h : whL c fb n ρ = some o) : sWh c fb ρ = some o := by
  have hh : ∃ n o, whL c fb n ρ = some o := ⟨n, o, h⟩
  unfold sWh
  rw [dif_pos hh]
  have h2 := Classical.choose_spec (Classical.choose_spec hh)
  have a := whL_mono (Nat.le_max_left n (Classical.choose hh)) h
  have b := whL_mono (Nat.le_max_right n (Classical.choose hh)) h2
  rw [a] at b
  exact b.symm
theorem sx_while {c : Expr} {body : List Stmt} {fc : DenB} {fbd : DenS} (hp : PassesOwn (model X.prog X.w) X.A X.env X.xe) (hc : ET X c fc) (hb : SXs X body fbd) : SX X (.While c body [] pos) (sWh fc fbd) :=
  sx_mk (ps_while hp hc.pt hb.pss) fun D σ H F0 H0 ρ F o e h k => by
    obtain ⟨n, h⟩ := sWh_ex h
    refine ⟨fun m σ' H' => ∃ ρ' F', EnvS X.K F0 H0 ρ' σ' F' H' ∧ whL fc fbd m ρ' = some o, ⟨n, ρ, F, e, h⟩, ?_⟩
    rintro m σ' H' ⟨ρ', F', e', hl⟩
    cases m with
    | zero => cases hl
    | succ m =>
      simp only [whL, Option.bind_eq_some_iff] at hl
      obtain ⟨b, h1, h2⟩ := hl
      refine ⟨ρ', F', b, e'.env, h1, fun F1 H1 x1 => ?_⟩
      cases b with
      | false =>
        cases h2
        exact k σ' F1 H1 (e'.to x1)
      | true =>
        simp only [if_true, Option.bind_eq_some_iff] at h2
        obtain ⟨o1, h3, h4⟩ := h2
        refine ⟨fun σ2 H2 => ∃ ρ2 F2, EnvS X.K F0 H0 ρ2 σ2 F2 H2 ∧ whL fc fbd m ρ2 = some o, fun σ2 H2 hN => ⟨m, by omega, hN⟩, F0, H0, ρ', F1, o1, e'.to x1, h3, ?_⟩
        cases o1 with
        | nx ρ2 => exact fun σ4 F4 H4 e4 => ⟨ρ2, F4, e4, h4⟩
        | ct ρ2 => exact fun σ4 F4 H4 e4 => ⟨ρ2, F4, e4, h4⟩
        | bk ρ2 =>
          cases h4
          exact k
        | rt d =>
          cases h4
          exact k
        | rn d =>
          cases h4
          exact k
end
end Zx
/-! Zx8: comprehensions, calls, defs. -/
namespace Zx
variable [Marked]
open PySem PySem.Spec L2
/-! ### comprehensions -/
def wipeE (ρ : Env) : List Nat → Env
  | [] => ρ
  | v :: vs => (wipeE ρ vs).set v .no
def lcL (g : DenG) (ft : DenB) (fe : Den) (ρ : Env) : List D → Option (List D)
  | [] => some []
  | d :: ds => (g d ρ).bind fun ρ1 => (ft ρ1).bind fun b => if b then (fe ρ1).bind fun x => (lcL g ft fe ρ ds).bind fun xs => some (x :: xs) else lcL g ft fe ρ ds
def dLc (fi : DenI) (g : DenG) (ft : DenB) (fe : Den) (vs : List Nat) : Den := fun ρ => (fi ρ).bind fun ds => (lcL g ft fe (wipeE ρ vs) ds).bind fun out => if out.length ≤ 1000000 then some (.list out) else none
def bYes : DenB := fun _ => some true
section
variable {X : Cx} {K : PySem.W.Frag} {F0 H0 F H F1 H1 F' H' : Hp} {ρ : Env} {σ : L2.St}
theorem EnvOk.no {i : Nat} (e : EnvOk K ρ σ F H) : EnvOk K (ρ.set i .no) (σ.set i none) F H where
  sub := e.sub
  len := by rw [List.length_set, List.length_set]; exact e.len
  at_ := fun j s hs => by
    by_cases hj : i = j
    · subst hj
      by_cases hl : i < ρ.length
      · rw [List.getElem?_set_self hl] at hs
        cases hs
        exact ⟨none, List.getElem?_set_self (by rw [← e.len]; exact hl), trivial⟩
      · rw [List.getElem?_eq_none (by rw [List.length_set]; omega)] at hs
        cases hs
    · rw [List.getElem?_set_ne hj] at hs
      rw [List.getElem?_set_ne hj]
      exact e.at_ j s hs
  dist := fun j k d1 d2 a h1 h2 h3 h4 => by
    have z : ∀ {j : Nat} {d1 : D}, (ρ.set i .no)[j]? = some (.ow d1) → i ≠ j ∧ ρ[j]? = some (.ow d1) := fun {j d1} h => by
      by_cases hj : i = j
      · subst hj
        by_cases hl : i < ρ.length
        · rw [List.getElem?_set_self hl] at h
          cases h
        · rw [List.getElem?_eq_none (by rw [List.length_set]; omega)] at h
          cases h
      · rw [List.getElem?_set_ne hj] at h
        exact ⟨hj, h⟩
    obtain ⟨n1, g1⟩ := z h1
    obtain ⟨n2, g2⟩ := z h2
    rw [List.getElem?_set_ne n1] at h3
    rw [List.getElem?_set_ne n2] at h4
    exact e.dist j k d1 d2 a g1 g2 h3 h4
theorem EnvOk.wipe (e : EnvOk K ρ σ F H) : ∀ vs : List Nat, EnvOk K (wipeE ρ vs) (wipe σ vs) F H
  | [] => e
  | v :: vs => (EnvOk.wipe e vs).no
/-- a new object that no slot owns is written -/
theorem EnvOk.upd {q : Addr} {o : HO} (e : EnvOk K ρ σ F H) (hF : F q = none) (hn : ∀ (i : Nat) d a, ρ[i]? = some (.ow d) → σ[i]? = some (some (.ref a)) → a ≠ q) (w : Wr H q := by first | exact Wr.no (by assumption) | exact Wr.lst (by assumption) | exact Wr.dK (by assumption)) : EnvOk K ρ σ F (upd H q o) where
  sub := e.sub.set hF w
  len := e.len
  dist := e.dist
  at_ := fun i s hs => by
    obtain ⟨ov, g1, g2⟩ := e.at_ i s hs
    refine ⟨ov, g1, ?_⟩
    cases s with
    | no => trivial
    | fz d => exact g2
    | ow d =>
      obtain ⟨b, u, g3, g4, g5, g6⟩ := g2
      subst g3
      refine ⟨b, u, rfl, g4, ?_, g6⟩
      rw [upd_ne (hn i d b hs g1)]
      exact g5
theorem Ext.mut {q : Addr} {o : HO} (x : Ext F1 H1 F H) (h1 : H1 q = none) (hF : F q = none) (w : Wr H q := by first | exact Wr.no (by assumption) | exact Wr.lst (by assumption) | exact Wr.dK (by assumption)) : Ext F1 H1 F (upd H q o) :=
  ⟨x.f, x.h.set h1, x.le.set hF w, x.new⟩
theorem EnvOk.ne_new {q : Addr} (e : EnvOk K ρ σ F H) (hq : H q = none) : ∀ (i : Nat) d a, ρ[i]? = some (.ow d) → σ[i]? = some (some (.ref a)) → a ≠ q := fun i d a h1 h2 z => by
  subst z
  obtain ⟨ov, g1, b, o, g2, g3, g4, _⟩ := e.at_ i _ h1
  rw [h2] at g1
  cases g1
  cases g2
  rw [hq] at g4
  cases g4
/-- the tests of a clause -/
structure ETs (X : Cx) (ifs : List Expr) (f : DenB) : Prop where
  pts : PTs X ifs (tTst X.K f)
theorem PTs.imp {ifs : List Expr} {t t' : TT} (h : PTs X ifs t) (i : ∀ σ H Q, t' σ H Q → t σ H Q) : PTs X ifs t' := ⟨fun pins s σ H Q I hw => h.run pins s σ H Q I (i σ H Q hw)⟩
theorem ets_nil : ETs X [] bYes := ⟨PTs.imp pts_nil fun σ H Q ⟨ρ, F, b, e, h, k⟩ => by
  cases h
  exact k F H (.refl e.sub)⟩
theorem ets_one {c : Expr} {f : DenB} (h : ET X c f) : ETs X [c] f := ⟨pts_one h.pt⟩
theorem wipe_twice (σ σ2 : L2.St) : ∀ vs : List Nat, σ2.length = σ.length → (∀ j, j ∉ vs → σ2[j]? = (wipe σ vs)[j]?) → wipe σ2 vs = wipe σ vs := fun vs hl h => by
  have hw : ∀ (τ : L2.St) (vs : List Nat) (j : Nat), (wipe τ vs)[j]? = if j ∈ vs ∧ j < τ.length then some none else τ[j]? := fun τ vs => by
    induction vs with
    | nil => intro j; simp [L2.wipe]
    | cons v vs ih =>
      intro j
      unfold L2.wipe
      by_cases hj : v = j
      · subst hj
        by_cases hl : v < τ.length
        · rw [List.getElem?_set_self (by rw [wipe_length]; exact hl), if_pos ⟨List.mem_cons_self, hl⟩]
        · rw [List.getElem?_eq_none (by rw [List.length_set, wipe_length]; omega), if_neg (fun z => hl z.2), List.getElem?_eq_none (by omega)]
      · rw [List.getElem?_set_ne hj, ih]
        by_cases hm : j ∈ vs ∧ j < τ.length
        · rw [if_pos hm, if_pos ⟨List.mem_cons_of_mem _ hm.1, hm.2⟩]
        · rw [if_neg hm, if_neg (fun z => hm ⟨(List.mem_cons.mp z.1).resolve_left (Ne.symm hj), z.2⟩)]
  refine List.ext_getElem? fun j => ?_
  rw [hw σ2, hw σ, hl]
  by_cases hj : j ∈ vs
  · by_cases hl2 : j < σ.length
    · rw [if_pos ⟨hj, hl2⟩, if_pos ⟨hj, hl2⟩]
    · rw [if_neg (fun z => hl2 z.2), if_neg (fun z => hl2 z.2), List.getElem?_eq_none (by omega), List.getElem?_eq_none (by omega)]
  · rw [if_neg (fun z => hj z.1), if_neg (fun z => hj z.1), h j hj, wipe_out hj]
section
variable {wi wi1 : TI} {g : DenG} {ft ft1 : DenB} {fe : Den} {fi fi1 : DenI} {ws ws1 vs vs1 : List Nat} {Q : VK} {d : D} {g1 : DenG}
/-- a thing that is walked, told of the state -/
def WiOk (K : PySem.W.Frag) (wi : TI) (fi : DenI) (ρ : Env) (σ : L2.St) (F H : Hp) : Prop := ∀ ds R, fi ρ = some ds → (∀ J F1 H1, Ext F H F1 H1 → Walks K J F1 ds → R J H1) → wi σ H R
theorem EnvOk.wiOk (e : EnvOk K ρ σ F H) : WiOk K (tI K fi) fi ρ σ F H := fun ds R h k => ⟨ρ, F, ds, e, h, k⟩
theorem lc_t (hwi : WiOk K wi fi ρ σ F H) (hw : ∀ j ∈ ws, j ∈ vs) (e : EnvOk K ρ σ F H) (h : dLc fi g ft fe vs ρ = some d) (k : ∀ a o F' H', Ext F H F' H' → F' a = none → H a = none → H' a = some o → OwnRep K F' d o → Q (.ref a) H') :
    tLc wi (tGt K ws g) (tTst K ft) (tX K fe) vs σ H Q := by
  simp only [dLc, Option.bind_eq_some_iff] at h
  obtain ⟨ds, h1, out, h2, h3⟩ := h
  split at h3
  · rename_i hsz
    cases h3
    refine hwi ds _ h1 fun J F1 H1 x1 w q hq => ?_
    have e1 := (e.ext x1).wipe vs
    have hF1 : F1 q = none := x1.le.free hq
    have hne := e1.ne_new hq
    refine ⟨fun i m H' => i ≤ ds.length ∧ m = ds.length - i ∧ ∃ F' acc accD rest, EnvOk K (wipeE ρ vs) (wipe σ vs) F' H' ∧ Ext F1 H1 F' H' ∧ F' q = none ∧ H' q = some (.lst acc) ∧ RpL K F' accD acc ∧
      lcL g ft fe (wipeE ρ vs) (ds.drop i) = some rest ∧ accD ++ rest = out,
      ⟨_, Nat.zero_le _, rfl, F1, [], [], out, e1.upd hF1 hne, .mut (.refl x1.le) hq hF1, hF1, upd_same, .nil, by rw [List.drop_zero]; exact h2, rfl⟩, ?_⟩
    rintro i m H' ⟨hle, rfl, F', acc, accD, rest, e', x', hF', hq', rl, hr, ho⟩
    obtain ⟨w1, w2⟩ := w i F' H' x'.f x'.le
    by_cases hi : i < ds.length
    · have hd : ds.drop i = ds[i] :: ds.drop (i + 1) := List.drop_eq_getElem_cons hi
      rw [hd] at hr
      simp only [lcL, Option.bind_eq_some_iff] at hr
      obtain ⟨ρ1, g1, b, g2, g3⟩ := hr
      obtain ⟨w3, w4⟩ := w1 ds[i] (List.getElem?_eq_getElem hi)
      refine .inr ⟨w3, fun H' => ∃ F' acc accD rest, EnvOk K (wipeE ρ vs) (wipe σ vs) F' H' ∧ Ext F1 H1 F' H' ∧ F' q = none ∧ H' q = some (.lst acc) ∧ RpL K F' accD acc ∧
        lcL g ft fe (wipeE ρ vs) (ds.drop (i + 1)) = some rest ∧ accD ++ rest = out, fun H2 hN => ⟨_, by omega, hi, rfl, hN⟩, fun x H2 hy => ?_⟩
      obtain ⟨F2, x2, r2⟩ := w4 x H2 hy
      refine ⟨_, F2, ds[i], ρ1, e'.ext x2, r2, g1, fun σ3 e3 sb o3 => ⟨?_, ?_⟩⟩
      · refine wipe_twice σ σ3 _ (by rw [sb.len, wipe_length]) fun j hj => sb.at_ j fun z => hj (hw j z)
      refine ⟨ρ1, F2, b, e3, g2, fun F3 H3 x3 => ?_⟩
      have x23 := x2.trans x3
      cases b with
      | false =>
        refine ⟨F3, acc, accD, rest, e'.ext x23, x'.trans x23, x23.new q (by rw [hq']; exact fun z => nomatch z) hF', x23.h.n _ _ hq' (fun _ z => nomatch z), rl.mono x23.f, g3, ho⟩
      | true =>
        simp only [if_true, Option.bind_eq_some_iff, Option.some.injEq] at g3
        obtain ⟨y, g4, rest', g5, rfl⟩ := g3
        refine ⟨ρ1, F3, y, e3.ext x3, g4, fun v F4 H4 x4 r4 => ?_⟩
        have x24 := x23.trans x4
        have hF4 : F4 q = none := x24.new q (by rw [hq']; exact fun z => nomatch z) hF'
        have hH4 : H4 q = some (.lst acc) := x24.h.n _ _ hq' (fun _ z => nomatch z)
        refine ⟨acc, hH4, ?_, F4, acc ++ [v], accD ++ [y], rest', (e'.ext x24).upd hF4 hne, .mut (x'.trans x24) hq hF4, hF4, upd_same, (rl.mono x24.f).append (.one r4), g5, by rw [List.append_assoc]; exact ho⟩
        rw [rl.length]
        refine line_lt ?_
        have := congrArg List.length ho
        rw [List.length_append, List.length_cons] at this
        omega
    · have hd : ds.drop i = [] := List.drop_eq_nil_of_le (by omega)
      rw [hd] at hr
      cases hr
      rw [List.append_nil] at ho
      subst ho
      exact .inl ⟨w2 (by omega), k q _ F' H' (x1.trans x') hF' (x1.h.free hq) hq' (.lst rl)⟩
  · cases h3
/-! two clauses -/
def lc2L (g : DenG) (ft : DenB) (fi1 : DenI) (g1 : DenG) (ft1 : DenB) (fe : Den) (vs1 : List Nat) (ρ : Env) : List D → Option (List D)
  | [] => some []
  | d :: ds => (g d ρ).bind fun ρ1 => (ft ρ1).bind fun b => if b then (fi1 ρ1).bind fun es => (lcL g1 ft1 fe (wipeE ρ1 vs1) es).bind fun xs => (lc2L g ft fi1 g1 ft1 fe vs1 ρ ds).bind fun ys => some (xs ++ ys) else lc2L g ft fi1 g1 ft1 fe vs1 ρ ds
def dLc2 (fi : DenI) (g : DenG) (ft : DenB) (fi1 : DenI) (g1 : DenG) (ft1 : DenB) (fe : Den) (vs vs1 : List Nat) : Den := fun ρ => (fi ρ).bind fun ds => (lc2L g ft fi1 g1 ft1 fe vs1 (wipeE ρ vs) ds).bind fun out => if out.length ≤ 1000000 then some (.list out) else none
theorem wipe_wipe (hv : ∀ j ∈ vs1, j ∈ vs) (τ : L2.St) (h : wipe τ vs = wipe σ vs) (σ3 : L2.St) (hl : σ3.length = τ.length) (h3 : ∀ j, j ∉ vs1 → σ3[j]? = (wipe τ vs1)[j]?) : wipe σ3 vs1 = wipe τ vs1 := wipe_twice τ σ3 vs1 hl h3
theorem lc2_t (hwi : WiOk K wi fi ρ σ F H) (hw : ∀ j ∈ ws, j ∈ vs) (hw1 : ∀ j ∈ ws1, j ∈ vs1) (e : EnvOk K ρ σ F H) (h : dLc2 fi g ft fi1 g1 ft1 fe vs vs1 ρ = some d)
    (k : ∀ a o F' H', Ext F H F' H' → F' a = none → H a = none → H' a = some o → OwnRep K F' d o → Q (.ref a) H') :
    tLc2 wi (tGt K ws g) (tTst K ft) (tI K fi1) (tGt K ws1 g1) (tTst K ft1) (tX K fe) vs vs1 σ H Q := by
  simp only [dLc2, Option.bind_eq_some_iff] at h
  obtain ⟨ds, h1, out, h2, h3⟩ := h
  split at h3
  · rename_i hsz
    cases h3
    refine hwi ds _ h1 fun J F1 H1 x1 w q hq => ?_
    have e1 := (e.ext x1).wipe vs
    have hF1 : F1 q = none := x1.le.free hq
    have hne := e1.ne_new hq
    refine ⟨fun i m H' => i ≤ ds.length ∧ m = ds.length - i ∧ ∃ F' acc accD rest, EnvOk K (wipeE ρ vs) (wipe σ vs) F' H' ∧ Ext F1 H1 F' H' ∧ F' q = none ∧ H' q = some (.lst acc) ∧ RpL K F' accD acc ∧
      lc2L g ft fi1 g1 ft1 fe vs1 (wipeE ρ vs) (ds.drop i) = some rest ∧ accD ++ rest = out,
      ⟨_, Nat.zero_le _, rfl, F1, [], [], out, e1.upd hF1 hne, .mut (.refl x1.le) hq hF1, hF1, upd_same, .nil, by rw [List.drop_zero]; exact h2, rfl⟩, ?_⟩
    rintro i m H' ⟨hle, rfl, F', acc, accD, rest, e', x', hF', hq', rl, hr, ho⟩
    obtain ⟨w1, w2⟩ := w i F' H' x'.f x'.le
    by_cases hi : i < ds.length
    · have hd : ds.drop i = ds[i] :: ds.drop (i + 1) := List.drop_eq_getElem_cons hi
      rw [hd] at hr
      simp only [lc2L, Option.bind_eq_some_iff] at hr
      obtain ⟨ρ1, j1, b, j2, j3⟩ := hr
      obtain ⟨w3, w4⟩ := w1 ds[i] (List.getElem?_eq_getElem hi)
      refine .inr ⟨w3, fun H' => ∃ F' acc accD rest, EnvOk K (wipeE ρ vs) (wipe σ vs) F' H' ∧ Ext F1 H1 F' H' ∧ F' q = none ∧ H' q = some (.lst acc) ∧ RpL K F' accD acc ∧
        lc2L g ft fi1 g1 ft1 fe vs1 (wipeE ρ vs) (ds.drop (i + 1)) = some rest ∧ accD ++ rest = out, fun H2 hN => ⟨_, by omega, hi, rfl, hN⟩, fun x H2 hy => ?_⟩
      obtain ⟨F2, x2, r2⟩ := w4 x H2 hy
      refine ⟨_, F2, ds[i], ρ1, e'.ext x2, r2, j1, fun σ3 e3 sb o3 => ⟨?_, ?_⟩⟩
      · refine wipe_twice σ σ3 _ (by rw [sb.len, wipe_length]) fun j hj => sb.at_ j fun z => hj (hw j z)
      refine ⟨ρ1, F2, b, e3, j2, fun F3 H3 x3 => ?_⟩
      have x23 := x2.trans x3
      have hq3 : H3 q = some (.lst acc) := x23.h.n _ _ hq' (fun _ z => nomatch z)
      have hF3 : F3 q = none := x23.new q (by rw [hq']; exact fun z => nomatch z) hF'
      cases b with
      | false =>
        exact ⟨F3, acc, accD, rest, e'.ext x23, x'.trans x23, hF3, hq3, rl.mono x23.f, j3, ho⟩
      | true =>
        simp only [if_true, Option.bind_eq_some_iff, Option.some.injEq] at j3
        obtain ⟨es, j4, xs, j5, ys, j6, rfl⟩ := j3
        have e33 := e3.ext x3
        refine ⟨ρ1, F3, es, e33, j4, fun J1 F4 H4 x4 u => ?_⟩
        have x24 := x23.trans x4
        have hne3 : ∀ (i : Nat) d a, (wipeE ρ1 vs1)[i]? = some (.ow d) → (wipe σ3 vs1)[i]? = some (some (.ref a)) → a ≠ q := fun i d a g1 g2 => by
          have e4 := (e3.wipe vs1)
          rintro rfl
          obtain ⟨ov, z1, b, o, z2, z3, z4, z5⟩ := e4.at_ i _ g1
          rw [g2] at z1
          cases z1
          cases z2
          have hw' : (wipeE ρ1 vs1)[i]? = some (.ow d) := g1
          rcases o3 i d (by
            have zz : ∀ (vs : List Nat) (τ : Env), (wipeE τ vs)[i]? = some (.ow d) → τ[i]? = some (.ow d) := fun vs => by
              induction vs with
              | nil => exact fun τ h => h
              | cons v vs ih =>
                intro τ h
                unfold wipeE at h
                by_cases hv : v = i
                · subst hv
                  by_cases hl : v < (wipeE τ vs).length
                  · rw [List.getElem?_set_self hl] at h
                    cases h
                  · rw [List.getElem?_eq_none (by rw [List.length_set]; omega)] at h
                    cases h
                · rw [List.getElem?_set_ne hv] at h
                  exact ih τ h
            exact zz vs1 ρ1 hw') with ⟨y1, y2⟩
          have y3 : σ3[i]? = some (some (.ref a)) := by
            have zz : ∀ (vs : List Nat) (τ : L2.St), (wipe τ vs)[i]? = some (some (.ref a)) → τ[i]? = some (some (.ref a)) := fun vs => by
              induction vs with
              | nil => exact fun τ h => h
              | cons v vs ih =>
                intro τ h
                unfold L2.wipe at h
                by_cases hv : v = i
                · subst hv
                  by_cases hl : v < (wipe τ vs).length
                  · rw [List.getElem?_set_self hl] at h
                    cases h
                  · rw [List.getElem?_eq_none (by rw [List.length_set]; omega)] at h
                    cases h
                · rw [List.getElem?_set_ne hv] at h
                  exact ih τ h
            exact zz vs1 σ3 g2
          rw [y2] at y3
          exact hne i d a y1 y3 rfl
        refine ⟨fun j m H' => j ≤ es.length ∧ m = es.length - j ∧ ∃ F' acc' accD' rest', EnvOk K (wipeE ρ1 vs1) (wipe σ3 vs1) F' H' ∧ EnvOk K (wipeE ρ vs) (wipe σ vs) F' H' ∧ Ext F1 H1 F' H' ∧ Sub F4 F' ∧ F' q = none ∧ H' q = some (.lst acc') ∧ RpL K F' accD' acc' ∧
          lcL g1 ft1 fe (wipeE ρ1 vs1) (es.drop j) = some rest' ∧ accD' ++ (rest' ++ ys) = out,
          ⟨_, Nat.zero_le _, rfl, F4, acc, accD, xs, (e33.ext x4).wipe vs1, (e'.ext x24), x'.trans x24, Sub.refl _, x4.new q (by rw [hq3]; exact fun z => nomatch z) hF3, x4.h.n _ _ hq3 (fun _ z => nomatch z), rl.mono x24.f, by rw [List.drop_zero]; exact j5, ho⟩, ?_⟩
        rintro j m H5 ⟨hle1, rfl, F5, acc5, accD5, rest5, e5, e5', x5, sF5, hF5, hq5, rl5, hr5, ho5⟩
        obtain ⟨u1, u2⟩ := u j F5 H5 sF5 x5.le
        by_cases hj : j < es.length
        · have hd5 : es.drop j = es[j] :: es.drop (j + 1) := List.drop_eq_getElem_cons hj
          rw [hd5] at hr5
          simp only [lcL, Option.bind_eq_some_iff] at hr5
          obtain ⟨ρ2, k1, b, k2, k3⟩ := hr5
          obtain ⟨u3, u4⟩ := u1 es[j] (List.getElem?_eq_getElem hj)
          refine .inr ⟨u3, fun H' => ∃ F' acc' accD' rest', EnvOk K (wipeE ρ1 vs1) (wipe σ3 vs1) F' H' ∧ EnvOk K (wipeE ρ vs) (wipe σ vs) F' H' ∧ Ext F1 H1 F' H' ∧ Sub F4 F' ∧ F' q = none ∧ H' q = some (.lst acc') ∧ RpL K F' accD' acc' ∧
            lcL g1 ft1 fe (wipeE ρ1 vs1) (es.drop (j + 1)) = some rest' ∧ accD' ++ (rest' ++ ys) = out, fun H2 hN => ⟨_, by omega, hj, rfl, hN⟩, fun x H6 hy => ?_⟩
          obtain ⟨F6, x6, r6⟩ := u4 x H6 hy
          refine ⟨_, F6, es[j], ρ2, e5.ext x6, r6, k1, fun σ7 e7 sb7 o7 => ⟨?_, ?_⟩⟩
          · refine wipe_twice σ3 σ7 _ (by rw [sb7.len, wipe_length]) fun j hj => sb7.at_ j fun z => hj (hw1 j z)
          refine ⟨ρ2, F6, b, e7, k2, fun F7 H7 x7 => ?_⟩
          have x67 := x6.trans x7
          cases b with
          | false =>
            exact ⟨F7, acc5, accD5, rest5, e5.ext x67, e5'.ext x67, x5.trans x67, sF5.trans x67.f, x67.new q (by rw [hq5]; exact fun z => nomatch z) hF5, x67.h.n _ _ hq5 (fun _ z => nomatch z), rl5.mono x67.f, k3, ho5⟩
          | true =>
            simp only [if_true, Option.bind_eq_some_iff, Option.some.injEq] at k3
            obtain ⟨y, k4, rest', k5, rfl⟩ := k3
            refine ⟨ρ2, F7, y, e7.ext x7, k4, fun v F8 H8 x8 r8 => ?_⟩
            have x68 := x67.trans x8
            have hF8 : F8 q = none := x68.new q (by rw [hq5]; exact fun z => nomatch z) hF5
            have hH8 : H8 q = some (.lst acc5) := x68.h.n _ _ hq5 (fun _ z => nomatch z)
            refine ⟨acc5, hH8, ?_, F8, acc5 ++ [v], accD5 ++ [y], rest', (e5.ext x68).upd hF8 hne3, (e5'.ext x68).upd hF8 hne, .mut (x5.trans x68) hq hF8, sF5.trans x68.f, hF8, upd_same, (rl5.mono x68.f).append (.one r8), k5, by rw [List.append_assoc]; exact ho5⟩
            rw [rl5.length]
            refine line_lt ?_
            have := congrArg List.length ho5
            rw [List.length_append, List.length_append, List.length_cons] at this
            omega
        · have hd5 : es.drop j = [] := List.drop_eq_nil_of_le (by omega)
          rw [hd5] at hr5
          cases hr5
          exact .inl ⟨u2 (by omega), F5, acc5, accD5, ys, e5', x5, hF5, hq5, rl5, j6, by simpa using ho5⟩
    · have hd : ds.drop i = [] := List.drop_eq_nil_of_le (by omega)
      rw [hd] at hr
      cases hr
      rw [List.append_nil] at ho
      subst ho
      exact .inl ⟨w2 (by omega), k q _ F' H' (x1.trans x') hF' (x1.h.free hq) hq' (.lst rl)⟩
  · cases h3
end
/-- a block's judgements -/
abbrev InBlk (X : Cx) (scope : Scope) (P : Cx → Prop) : Prop := ∀ (s : Shared) (H : Hp) (C : Addr) (cl : List (Str × Addr)) (fp : List Addr), P (X.blk s H scope (compEnvC scope cl C X.env) fp)
section
variable {elt tg iter tg1 iter1 : Expr} {ifs ifs1 : List Expr} {scope : Scope} {own : List (Str × Nat)} {pos spos : Pos} {ws ws1 vs1 : List Nat} {fi fi1 : DenI} {g g1 : DenG} {ft ft1 : DenB} {fe : Den}
theorem en_lc (hc : X.calm = true) (hN : X.N.Nodup) (hi : EI X tg iter fi) (ok : BlkOk X.N X.env.scope scope own)
    (hg : InBlk X scope fun Y => EG Y tg ws g) (ht : InBlk X scope fun Y => ETs Y ifs ft)
    (he : InBlk X scope fun Y => EX Y elt fe) (hs : ∀ x, foldedSetIterable iter X.env x = pure x) (hw : ∀ j ∈ ws, j ∈ own.map (·.2)) :
    EN X (.ListComp elt [⟨tg, iter, ifs, 0⟩] scope pos) (dLc fi g ft fe (own.map (·.2))) :=
  mkN (pe_lc (te := tX X.K fe) (tt := tTst X.K ft) (g := tGt X.K ws g) hc hN hi.pi ok (fun s H C cl fp => (hg s H C cl fp).pg) (fun s H C cl fp => (ht s H C cl fp).pts) (fun s H C cl fp => (he s H C cl fp).pe) hs) fun σ H Q ρ F d e h k => lc_t e.wiOk hw e h k
theorem en_lc2 (hc : X.calm = true) (hN : X.N.Nodup) (hi : EI X tg iter fi) (ok : BlkOk X.N X.env.scope scope own) (hv : ∀ i ∈ vs1, i ∈ own.map (·.2))
    (hg : InBlk X scope fun Y => EG Y tg ws g) (ht : InBlk X scope fun Y => ETs Y ifs ft) (hi1 : InBlk X scope fun Y => EI Y tg1 iter1 fi1) (hg1 : InBlk X scope fun Y => EG Y tg1 ws1 g1) (ht1 : InBlk X scope fun Y => ETs Y ifs1 ft1)
    (he : InBlk X scope fun Y => EX Y elt fe) (hs : ∀ x, foldedSetIterable iter X.env x = pure x) (hs1 : ∀ env x, foldedSetIterable iter1 env x = pure x) (hw : ∀ j ∈ ws, j ∈ own.map (·.2)) (hw1 : ∀ j ∈ ws1, j ∈ vs1) :
    EN X (.ListComp elt [⟨tg, iter, ifs, 0⟩, ⟨tg1, iter1, ifs1, 0⟩] scope pos) (dLc2 fi g ft fi1 g1 ft1 fe (own.map (·.2)) vs1) :=
  mkN (pe_lc2 (te := tX X.K fe) (tt := tTst X.K ft) (g := tGt X.K ws g) (wi1 := tI X.K fi1) (tt1 := tTst X.K ft1) (g1 := tGt X.K ws1 g1) hc hN hi.pi ok hv (fun s H C cl fp => (hg s H C cl fp).pg) (fun s H C cl fp => (ht s H C cl fp).pts)
    (fun s H C cl fp => (hi1 s H C cl fp).pi) (fun s H C cl fp => (hg1 s H C cl fp).pg) (fun s H C cl fp => (ht1 s H C cl fp).pts) (fun s H C cl fp => (he s H C cl fp).pe) hs hs1) fun σ H Q ρ F d e h k => lc2_t e.wiOk hw hw1 e h k
/-- y = [e for ..] on one line -/
def setNew (i : Nat) (b : Bool) (d : D) (ρ : Env) : Env := ρ.set i (if b then .ow d else .fz d)
def sLcSet (i : Nat) (own : Bool) (f : Den) : DenS := fun ρ => (f ρ).bind fun d => some (.nx (setNew i own d ρ))
theorem frzNew {a : Addr} {o : HO} {d : D} (x : Ext F H F' H') (ha : F' a = none) (hn : H a = none) (ho : H' a = some o) (r : OwnRep K F' d o) : ∃ F2, Ext F H F2 H' ∧ Rp K F2 d (.ref a) := by
  have x' : Ext F H (upd F' a o) H' := x.put ha hn ho r.nt
  have s : Sub F' (upd F' a o) := Sub.new ha
  refine ⟨_, x', ?_⟩
  cases r with
  | lst t => exact .lst upd_same (t.mono s)
  | dK t => exact .dK (.inl upd_same) (t.mono s)
  | dT t => exact .dT (.inl upd_same) (t.mono s)
theorem sx_setLc (i : Nat) (b : Bool) {y : Str} {py : Pos} (hc : X.calm = true) (hN : X.N.Nodup) (hy : X.N[i]? = some y) (hyl : X.env.scope.names.lookup y = some .local)
    (hsw : swapsWith (.ListComp elt [⟨tg, iter, ifs, 0⟩] scope pos) (some (.Name y py)) spos.line X.env = pure true) (hi : EI X tg iter fi) (ok : BlkOk X.N X.env.scope scope own)
    (hg : InBlk X scope fun Y => EG Y tg ws g) (ht : InBlk X scope fun Y => ETs Y ifs ft) (he : InBlk X scope fun Y => EX Y elt fe) (hs : ∀ x, foldedSetIterable iter X.env x = pure x) (hw : ∀ j ∈ ws, j ∈ own.map (·.2)) :
    SX X (.Assign [.Name y py] (.ListComp elt [⟨tg, iter, ifs, 0⟩] scope pos) spos) (sLcSet i b (dLc fi g ft fe (own.map (·.2)))) :=
  sx_mk (ps_setLc (te := tX X.K fe) (tt := tTst X.K ft) (g := tGt X.K ws g) hc hN hy hyl hsw hi.pi ok (fun s H C cl fp => (hg s H C cl fp).pg) (fun s H C cl fp => (ht s H C cl fp).pts) (fun s H C cl fp => (he s H C cl fp).pe) hs) fun D σ H F0 H0 ρ F o e h k => by
    simp only [sLcSet, Option.bind_eq_some_iff, Option.some.injEq] at h
    obtain ⟨d, h1, rfl⟩ := h
    refine lc_t (Q := fun x H1 => gName i x σ H1 D.nx) e.env.wiOk hw e.env h1 fun a ob F' H' x h2 h3 h4 h5 => ?_
    cases b with
    | true => exact k _ F' H' (e.setOwn x h3 h2 h4 h5)
    | false =>
      obtain ⟨F2, x2, r2⟩ := frzNew x h2 h3 h4 h5
      exact k _ F2 H' ((e.to x2).set r2)
theorem sx_setLc2 (i : Nat) (b : Bool) {y : Str} {py : Pos} (hc : X.calm = true) (hN : X.N.Nodup) (hy : X.N[i]? = some y) (hyl : X.env.scope.names.lookup y = some .local)
    (hsw : swapsWith (.ListComp elt [⟨tg, iter, ifs, 0⟩, ⟨tg1, iter1, ifs1, 0⟩] scope pos) (some (.Name y py)) spos.line X.env = pure true) (hi : EI X tg iter fi) (ok : BlkOk X.N X.env.scope scope own) (hv : ∀ i ∈ vs1, i ∈ own.map (·.2))
    (hg : InBlk X scope fun Y => EG Y tg ws g) (ht : InBlk X scope fun Y => ETs Y ifs ft) (hi1 : InBlk X scope fun Y => EI Y tg1 iter1 fi1) (hg1 : InBlk X scope fun Y => EG Y tg1 ws1 g1) (ht1 : InBlk X scope fun Y => ETs Y ifs1 ft1)
    (he : InBlk X scope fun Y => EX Y elt fe) (hs : ∀ x, foldedSetIterable iter X.env x = pure x) (hs1 : ∀ env x, foldedSetIterable iter1 env x = pure x) (hw : ∀ j ∈ ws, j ∈ own.map (·.2)) (hw1 : ∀ j ∈ ws1, j ∈ vs1) :
    SX X (.Assign [.Name y py] (.ListComp elt [⟨tg, iter, ifs, 0⟩, ⟨tg1, iter1, ifs1, 0⟩] scope pos) spos) (sLcSet i b (dLc2 fi g ft fi1 g1 ft1 fe (own.map (·.2)) vs1)) :=
  sx_mk (ps_setLc2 (te := tX X.K fe) (tt := tTst X.K ft) (g := tGt X.K ws g) (wi1 := tI X.K fi1) (tt1 := tTst X.K ft1) (g1 := tGt X.K ws1 g1) hc hN hy hyl hsw hi.pi ok hv (fun s H C cl fp => (hg s H C cl fp).pg) (fun s H C cl fp => (ht s H C cl fp).pts)
    (fun s H C cl fp => (hi1 s H C cl fp).pi) (fun s H C cl fp => (hg1 s H C cl fp).pg) (fun s H C cl fp => (ht1 s H C cl fp).pts) (fun s H C cl fp => (he s H C cl fp).pe) hs hs1) fun D σ H F0 H0 ρ F o e h k => by
    simp only [sLcSet, Option.bind_eq_some_iff, Option.some.injEq] at h
    obtain ⟨d, h1, rfl⟩ := h
    refine lc2_t (Q := fun x H1 => gName i x σ H1 D.nx) e.env.wiOk hw hw1 e.env h1 fun a ob F' H' x h2 h3 h4 h5 => ?_
    cases b with
    | true => exact k _ F' H' (e.setOwn x h3 h2 h4 h5)
    | false =>
      obtain ⟨F2, x2, r2⟩ := frzNew x h2 h3 h4 h5
      exact k _ F2 H' ((e.to x2).set r2)
end
end
end Zx
/-! Zx9: calls, defs. -/
namespace Zx
variable [Marked]
open PySem PySem.Spec L2
def spX (K : PySem.W.Frag) (n : Nat) (fn : List D → Option D) : Sp := fun vs H Q _ => ∃ F ds d, Le F H ∧ RpL K F ds vs ∧ ds.length = n ∧ fn ds = some d ∧ ∀ v F' H', Ext F H F' H' → Rp K F' d v → Q v H'
def spN (K : PySem.W.Frag) (n : Nat) (fn : List D → Option D) : Sp := fun vs H Q _ => ∃ F ds d, Le F H ∧ RpL K F ds vs ∧ ds.length = n ∧ fn ds = some d ∧ ∀ a o F' H', Ext F H F' H' → F' a = none → H a = none → H' a = some o → OwnRep K F' d o → Q (.ref a) H'
/-- the def of the module's name x, n parameters, hands back what fn says -/
structure FX (P : Program) (w : World) (K : PySem.W.Frag) (mg : Str → Option Value) (base : Heap) (k : Nat) (x : Str) (n : Nat) (fn : List D → Option D) : Prop where
  ex : ∃ (f : Addr) (fd : FuncData) (ps : List Str), FnOk P w K mg base CX0 k f fd ps (spX K n fn) ∧ mg x = some (.ref f) ∧ PySem.W.keepIn K (.ref f) = true ∧ Binds K fd ps []
/-- .. a new list or dict -/
structure FN (P : Program) (w : World) (K : PySem.W.Frag) (mg : Str → Option Value) (base : Heap) (k : Nat) (x : Str) (n : Nat) (fn : List D → Option D) : Prop where
  ex : ∃ (f : Addr) (fd : FuncData) (ps : List Str), FnOk P w K mg base CX0 k f fd ps (spN K n fn) ∧ mg x = some (.ref f) ∧ PySem.W.keepIn K (.ref f) = true ∧ Binds K fd ps []
section
variable {X : Cx} {a : Expr} {es : List Expr} {fl : DenL} {pos p : Pos} {x : Str} {k n : Nat} {fn : List D → Option D}
theorem ex_call (F : FX X.prog X.w X.K X.mg X.base k x n fn) (hr : Room k X.A) (hg : Gl X x) (hdb : (x == ("__debug__" : Str)) = false) (ha : EA X (a :: es) fl) (hn : (a :: es).length = n)
    (he : starEach (a :: es) X.env = (false, eval a X.env) :: starEach es X.env) (hpl : (backTo pos (starEach es X.env)).any (·.1) = false) (hl : ∀ ρ ds, fl ρ = some ds → ds.length = n) : EX X (.Call (.Name x p) (a :: es) [] pos) (fun ρ => (fl ρ).bind fn) := by
  obtain ⟨f, fd, ps, hF, hm, hk, hb⟩ := F.ex
  exact mkX (pe_call hF hr hg hm hk hb .nil pass0 ha.pa hdb he hpl) fun σ H Q ρ F d e h k => by
    simp only [Option.bind_eq_some_iff] at h
    obtain ⟨ds, h1, h2⟩ := h
    refine ⟨ρ, F, ds, e, h1, fun vs F1 H1 x1 r1 => ?_⟩
    show spX X.K n fn (vs ++ []) H1 Q E0
    rw [List.append_nil]
    exact ⟨F1, ds, d, x1.le, r1, hl ρ ds h1, h2, fun v F' H' x' r' => k v F' H' (x1.trans x') r'⟩
theorem en_call (F : FN X.prog X.w X.K X.mg X.base k x n fn) (hr : Room k X.A) (hg : Gl X x) (hdb : (x == ("__debug__" : Str)) = false) (ha : EA X (a :: es) fl) (hn : (a :: es).length = n)
    (he : starEach (a :: es) X.env = (false, eval a X.env) :: starEach es X.env) (hpl : (backTo pos (starEach es X.env)).any (·.1) = false) (hl : ∀ ρ ds, fl ρ = some ds → ds.length = n) : EN X (.Call (.Name x p) (a :: es) [] pos) (fun ρ => (fl ρ).bind fn) := by
  obtain ⟨f, fd, ps, hF, hm, hk, hb⟩ := F.ex
  exact mkN (pe_call hF hr hg hm hk hb .nil pass0 ha.pa hdb he hpl) fun σ H Q ρ F d e h k => by
    simp only [Option.bind_eq_some_iff] at h
    obtain ⟨ds, h1, h2⟩ := h
    refine ⟨ρ, F, ds, e, h1, fun vs F1 H1 x1 r1 => ?_⟩
    show spN X.K n fn (vs ++ []) H1 Q E0
    rw [List.append_nil]
    exact ⟨F1, ds, d, x1.le, r1, hl ρ ds h1, h2, fun a o F' H' x' g1 g2 g3 g4 => k a o F' H' (x1.trans x') g1 (x1.h.free g2) g3 g4⟩
end
/-! ### defs -/
def env0 (n : Nat) (ds : List D) : Env := ds.map .fz ++ List.replicate (n - ds.length) .no
def runX (fb : DenS) (n : Nat) (ds : List D) : Option D := match fb (env0 n ds) with
  | some (.rt d) => some d
  | some (.rn d) => some d
  | some (.nx _) => some .none
  | _ => none
def runN (fb : DenS) (n : Nat) (ds : List D) : Option D := match fb (env0 n ds) with
  | some (.rn d) => some d
  | _ => none
theorem env0_ok {K : PySem.W.Frag} {F H : Hp} {N : List Str} {ds : List D} {vs : List V} (s : Le F H) (r : RpL K F ds vs) : EnvOk K (env0 N.length ds) (L2.start N vs) F H := by
  have hl : vs.length = ds.length := r.length
  have ow : ∀ {i : Nat} {d : D}, (env0 N.length ds)[i]? = some (.ow d) → False := fun {i d} h => by
    unfold env0 at h
    rw [List.getElem?_append] at h
    split at h
    · rw [List.getElem?_map, Option.map_eq_some_iff] at h
      obtain ⟨_, _, h⟩ := h
      cases h
    · rw [List.getElem?_replicate] at h
      split at h <;> cases h
  refine ⟨s, by unfold env0 L2.start; simp [hl], fun i sl h => ?_, fun i j d e a h1 => (ow h1).elim⟩
  unfold env0 at h
  rw [List.getElem?_append] at h
  unfold L2.start
  split at h
  · rename_i hi
    rw [List.length_map] at hi
    rw [List.getElem?_map, Option.map_eq_some_iff] at h
    obtain ⟨d, hd, rfl⟩ := h
    obtain ⟨v, hv, rv⟩ := r.get hd
    refine ⟨some v, ?_, v, rfl, rv⟩
    rw [List.getElem?_append_left (by rw [List.length_map]; omega), List.getElem?_map, hv]
    rfl
  · rename_i hi
    rw [List.length_map] at hi h
    rw [List.getElem?_replicate] at h
    split at h
    · rename_i hj
      cases h
      refine ⟨none, ?_, trivial⟩
      rw [List.getElem?_append_right (by rw [List.length_map]; omega), List.length_map, List.getElem?_replicate, if_pos (by omega)]
    · cases h
theorem env0_ow {n : Nat} {ds : List D} {i : Nat} {d : D} (h : (env0 n ds)[i]? = some (.ow d)) : False := by
  unfold env0 at h
  rw [List.getElem?_append] at h
  split at h
  · rw [List.getElem?_map, Option.map_eq_some_iff] at h
    obtain ⟨_, _, h⟩ := h
    cases h
  · rw [List.getElem?_replicate] at h
    split at h <;> cases h
/-- a def's body read -/
structure Bd (P : Program) (w : World) (K : PySem.W.Frag) (mg : Str → Option Value) (base : Heap) (k : Nat) (N : List Str) (x : Str) (body : List Stmt) (scope : Scope) (f : Addr) (fb : DenS) : Prop where
  h : ∀ (cdv : Value) (A : Around) (outer : List PySem.Env) (s : Shared) (H : Hp) (E : XK), Room k (A.deeper (PyProof.Rows.envOfC x scope s.heap.objs.size f cdv)) → SXs (cxOf CX0 P w K mg base N x scope f cdv A outer s H E).nox body fb
section
variable {P : Program} {w : World} {K : PySem.W.Frag} {mg : Str → Option Value} {base : Heap} {k : Nat} {N ps : List Str} {x : Str} {params : Arguments} {body : List Stmt} {scope : Scope} {f : Addr} {fd : FuncData} {fb : DenS} {n : Nat}
theorem fo_of (F : FunD K x x params body scope [] [] f fd) (S : FnScope N ps scope) 
    (hb : ∀ (kV doc pm : Value) (an : Option Addr) (cdv ct : Value) (us : List Value), us.length = ps.length → bindArgs (PySem.W.fnOf x x params body scope .none kV doc pm an cdv ct) ⟨us, []⟩ = pure (ps.zip us))
    (hn : ps.length = n) (B : Bd P w K mg base k N x body scope f fb) : FnOk P w K mg base CX0 (k + 1) f fd ps (spX K n (runX fb N.length)) := by
  refine FunD.ok F S (fun vs H Q E h => ?_) fun cdv A outer s H vs Q E hr h => ⟨tSt K fb, (B.h cdv A outer s H E hr).pss.nox, ?_⟩
  · obtain ⟨F1, ds, d, _, r, hl, _⟩ := h
    rw [r.length, hl, hn]
  · obtain ⟨F1, ds, d, s1, r, hl, hd, k⟩ := h
    unfold runX at hd
    refine ⟨F1, H, env0 N.length ds, F1, ?_⟩
    have e : EnvS K F1 H (env0 N.length ds) (L2.start N vs) F1 H := ⟨env0_ok s1 r, .refl s1, fun i d a h1 => (env0_ow h1).elim⟩
    split at hd
    · rename_i d' hf
      cases hd
      exact ⟨_, e, hf, fun v F' H' x' r' => k v F' H' x' r'⟩
    · rename_i d' hf
      cases hd
      refine ⟨_, e, hf, fun a o F' H' x' g1 g2 g3 g4 => ?_⟩
      refine k (.ref a) (upd F' a o) H' (x'.put g1 g2 g3 g4.nt) ?_
      · have sF : Sub F' (upd F' a o) := Sub.new g1
        cases g4 with
        | lst t => exact .lst upd_same (t.mono sF)
        | dK t => exact .dK (.inl upd_same) (t.mono sF)
        | dT t => exact .dT (.inl upd_same) (t.mono sF)
    · rename_i ρ' hf
      cases hd
      exact ⟨_, e, hf, fun σ' F' H' e' => k .non F' H' e'.ext .non⟩
    · cases hd
theorem fx_of (F : FunD K x x params body scope [] [] f fd) (S : FnScope N ps scope) (hm : mg x = some (.ref f))
    (hb : ∀ (kV doc pm : Value) (an : Option Addr) (cdv ct : Value) (us : List Value), us.length = ps.length → bindArgs (PySem.W.fnOf x x params body scope .none kV doc pm an cdv ct) ⟨us, []⟩ = pure (ps.zip us))
    (hn : ps.length = n) (B : Bd P w K mg base k N x body scope f fb) : FX P w K mg base (k + 1) x n (runX fb N.length) := ⟨f, fd, ps, fo_of F S hb hn B, hm, F.kp, F.bindsN hb⟩
theorem fn_of' (F : FunD K x x params body scope [] [] f fd) (S : FnScope N ps scope) (hm : mg x = some (.ref f))
    (hb : ∀ (kV doc pm : Value) (an : Option Addr) (cdv ct : Value) (us : List Value), us.length = ps.length → bindArgs (PySem.W.fnOf x x params body scope .none kV doc pm an cdv ct) ⟨us, []⟩ = pure (ps.zip us))
    (hn : ps.length = n) (B : Bd P w K mg base k N x body scope f fb) : FN P w K mg base (k + 1) x n (runN fb N.length) := by
  refine ⟨f, fd, ps, FunD.ok F S (fun vs H Q E h => ?_) fun cdv A outer s H vs Q E hr h => ⟨tSt K fb, (B.h cdv A outer s H E hr).pss.nox, ?_⟩, hm, F.kp, F.bindsN hb⟩
  · obtain ⟨F1, ds, d, _, r, hl, _⟩ := h
    rw [r.length, hl, hn]
  · obtain ⟨F1, ds, d, s1, r, hl, hd, k⟩ := h
    unfold runN at hd
    refine ⟨F1, H, env0 N.length ds, F1, ?_⟩
    have e : EnvS K F1 H (env0 N.length ds) (L2.start N vs) F1 H := ⟨env0_ok s1 r, .refl s1, fun i d a h1 => (env0_ow h1).elim⟩
    split at hd
    · rename_i d' hf
      cases hd
      exact ⟨_, e, hf, fun a o F' H' x' g1 g2 g3 g4 => k a o F' H' x' g1 g2 g3 g4⟩
    · cases hd
end
theorem len1 {f1 : Den} : ∀ ρ ds, lCons f1 lNil ρ = some ds → ds.length = 1 := fun ρ ds h => by
  simp only [lCons, lNil, Option.bind_eq_some_iff, Option.some.injEq] at h
  obtain ⟨_, _, _, rfl, rfl⟩ := h
  rfl
theorem lenS {f1 : Den} {g : DenL} {n : Nat} (hg : ∀ ρ ds, g ρ = some ds → ds.length = n) : ∀ ρ ds, lCons f1 g ρ = some ds → ds.length = n + 1 := fun ρ ds h => by
  simp only [lCons, Option.bind_eq_some_iff, Option.some.injEq] at h
  obtain ⟨_, _, xs, h2, rfl⟩ := h
  rw [List.length_cons, hg ρ xs h2]
theorem len0 : ∀ ρ ds, lNil ρ = some ds → ds.length = 0 := fun ρ ds h => by
  cases h
  rfl
theorem FX.mono {P : Program} {w : World} {K : PySem.W.Frag} {mg : Str → Option Value} {base : Heap} {j k n : Nat} {x : Str} {fn : List D → Option D} (F : FX P w K mg base j x n fn) (h : j ≤ k) : FX P w K mg base k x n fn := by
  obtain ⟨f, fd, ps, a, b⟩ := F.ex
  exact ⟨f, fd, ps, a.mono h, b⟩
theorem FN.mono {P : Program} {w : World} {K : PySem.W.Frag} {mg : Str → Option Value} {base : Heap} {j k n : Nat} {x : Str} {fn : List D → Option D} (F : FN P w K mg base j x n fn) (h : j ≤ k) : FN P w K mg base k x n fn := by
  obtain ⟨f, fd, ps, a, b⟩ := F.ex
  exact ⟨f, fd, ps, a.mono h, b⟩
/-- what is known of a def's value at the arguments one needs -/
theorem FX.imp {P : Program} {w : World} {K : PySem.W.Frag} {mg : Str → Option Value} {base : Heap} {k n : Nat} {x : Str} {fn fn' : List D → Option D} (F : FX P w K mg base k x n fn) (h : ∀ ds d, fn' ds = some d → fn ds = some d) : FX P w K mg base k x n fn' := by
  obtain ⟨f, fd, ps, a, b⟩ := F.ex
  exact ⟨f, fd, ps, a.imp fun vs H Q E ⟨F1, ds, d, s, r, hl, hd, k⟩ => ⟨F1, ds, d, s, r, hl, h ds d hd, k⟩, b⟩
theorem Room.u1 {k : Nat} {A : Around} (r : Room k A) : A.units + 1 < cLine := by have := r.un; omega
theorem Room.u64 {k : Nat} {A : Around} (r : Room k A) : A.units + 64 < cLine := by have := r.un; omega
theorem Room.u65 {k : Nat} {A : Around} (r : Room k A) : A.units + 65 < cLine := by have := r.un; omega
end Zx
/-! Zx10: sorted, min, max of lists; list.index. -/
namespace Zx
variable [Marked]
open PySem PySem.Spec L2 PySem.W
/-- the sort's order -/
def leS (a b : D) : Bool := !dataLt b a
def isTup1 : D → Bool
  | .tuple (_ :: _) => true
  | _ => false
def noTup : D → Bool
  | .tuple _ => false
  | .none => false
  | _ => true
def srtOk (ds : List D) : Bool := (ds.all fun x => ds.all fun y => alike x y) && (ds.all isTup1 || ds.all noTup) && ds.all SeqAt.shaped && decide (ds.length ≤ 1000000)
theorem srt_parts {ds : List D} (h : srtOk ds = true) : AllAlike ds ∧ Sortable ds ∧ (∀ d ∈ ds, SeqAt.shaped d = true) ∧ ds.length ≤ 1000000 := by
  unfold srtOk at h
  rw [Bool.and_eq_true, Bool.and_eq_true, Bool.and_eq_true, Bool.or_eq_true] at h
  obtain ⟨⟨⟨h1, h2⟩, h3⟩, h4⟩ := h
  refine ⟨fun d hd d' hd' => ?_, ?_, fun d hd => List.all_eq_true.mp h3 d hd, of_decide_eq_true h4⟩
  · exact List.all_eq_true.mp (List.all_eq_true.mp h1 d hd) d' hd'
  · rcases h2 with h2 | h2
    · refine .inl fun d hd => ?_
      have := List.all_eq_true.mp h2 d hd
      unfold isTup1 at this
      split at this
      · exact ⟨_, _, rfl⟩
      · cases this
    · refine .inr fun d hd => ?_
      have := List.all_eq_true.mp h2 d hd
      refine ⟨?_, fun xs => ?_⟩ <;> rintro rfl <;> cases this
/-- data, its value in the layer, its value -/
abbrev Tri := D × V × Value
inductive Tris (K : PySem.W.Frag) (F : Hp) : List Tri → List D → List V → List Value → Prop
  | nil : Tris K F [] [] [] []
  | cons {d : D} {x : V} {u : Value} {ts : List Tri} {ds : List D} {xs : List V} {us : List Value} : Rp K F d x → RelV x u → Tris K F ts ds xs us → Tris K F ((d, x, u) :: ts) (d :: ds) (x :: xs) (u :: us)
theorem tris_of {K : PySem.W.Frag} {F : Hp} : ∀ {ds : List D} {xs : List V} {us : List Value}, RpL K F ds xs → Vals xs us → ∃ ts, Tris K F ts ds xs us
  | _, _, _, .nil, .nil => ⟨_, .nil⟩
  | _, _, _, .cons a b, .cons c e => by
    obtain ⟨ts, h⟩ := tris_of b e
    exact ⟨_, .cons a c h⟩
theorem Tris.maps {K : PySem.W.Frag} {F : Hp} : ∀ {ts : List Tri} {ds : List D} {xs : List V} {us : List Value}, Tris K F ts ds xs us → ts.map (·.1) = ds ∧ ts.map (·.2.1) = xs ∧ ts.map (·.2.2) = us ∧ ∀ t ∈ ts, Rp K F t.1 t.2.1 ∧ RelV t.2.1 t.2.2
  | _, _, _, _, .nil => ⟨rfl, rfl, rfl, fun _ h => by cases h⟩
  | _, _, _, _, .cons a b c => by
    obtain ⟨h1, h2, h3, h4⟩ := c.maps
    refine ⟨by rw [List.map_cons, h1], by rw [List.map_cons, h2], by rw [List.map_cons, h3], fun t ht => ?_⟩
    rcases List.mem_cons.mp ht with rfl | ht
    · exact ⟨a, b⟩
    · exact h4 t ht
theorem rpl_map {K : PySem.W.Frag} {F : Hp} : ∀ {ts : List Tri}, (∀ t ∈ ts, Rp K F t.1 t.2.1 ∧ RelV t.2.1 t.2.2) → RpL K F (ts.map (·.1)) (ts.map (·.2.1)) ∧ Vals (ts.map (·.2.1)) (ts.map (·.2.2))
  | [], _ => ⟨.nil, .nil⟩
  | t :: ts, h => by
    obtain ⟨a, b⟩ := rpl_map (ts := ts) fun t ht => h t (List.mem_cons_of_mem _ ht)
    obtain ⟨c, d⟩ := h t List.mem_cons_self
    exact ⟨.cons c a, .cons d b⟩
theorem each_fn {α β : Type} {f : β → α} : ∀ {as : List α} {bs : List β}, EachIs (fun a b => a = f b) as bs → as = bs.map f
  | _, _, .nil => rfl
  | _, _, .cons r t => by rw [List.map_cons, ← r, ← each_fn t]
theorem fn_each {α β : Type} {f : β → α} : ∀ {bs : List β}, EachIs (fun a b => a = f b) (bs.map f) bs
  | [] => .nil
  | b :: bs => .cons rfl fn_each
theorem each_mapR {α β : Type} {R : α → β → Prop} {f : β → α} : ∀ {bs : List β}, (∀ b ∈ bs, R (f b) b) → EachIs R (bs.map f) bs
  | [], _ => .nil
  | b :: bs, h => .cons (h b List.mem_cons_self) (each_mapR fun b hb => h b (List.mem_cons_of_mem _ hb))
theorem tri_sort (ts : List Tri) : (ts.mergeSort (dataLe false fun t : Tri => t.1)).map (·.1) = (ts.map (·.1)).mergeSort leS :=
  List.map_mergeSort fun a _ b _ => by
    rw [dataLe_eq]
    rfl
def rSortedD (K : PySem.W.Frag) : List V → Hp → VK → Prop := fun vs H Q => ∃ (a : Addr) (F : Hp) (ds : List D) (xs : List V), vs = [V.ref a] ∧ H a = some (.lst xs) ∧ RpL K F ds xs ∧ Le F H ∧ srtOk ds = true ∧
  ∀ p ys, H p = none → RpL K F (ds.mergeSort leS) ys → Q (.ref p) (upd H p (.lst ys))
section
variable {X : Cx} {a b : Expr} {f g : Den} {p pos : Pos}
theorem cr_sortedD (hu : X.A.units + 68 < cLine) : CallR X (.builtin "sorted") (rSortedD X.K) := by
  intro pins s σ H vs us Q I r h
  obtain ⟨l, F, ds, xs, rfl, hs, rp, sb, ok, q⟩ := h
  obtain ⟨its, rv, hl, hz⟩ := I.list (.inl (.inl hs))
  rw [Vals.ref1 r]
  obtain ⟨h1, h2, h3, h4⟩ := srt_parts ok
  obtain ⟨ts, ht⟩ := tris_of rp rv
  obtain ⟨m1, m2, m3, m4⟩ := ht.maps
  subst m3
  have hreads : ∀ t ∈ ts, ∃ as, Reads s.heap t.2.2 t.1 as := fun t ht => by
    have hd : t.1 ∈ ds := by rw [← m1]; exact List.mem_map_of_mem ht
    exact Dp.reads I t.1 t.2.1 t.2.2 ((m4 t ht).1.dp sb t.1 t.2.1 (plain_of_shaped (h3 t.1 hd))) (m4 t ht).2
  refine sorted_data (β := Tri) (enc := fun t => t.1) (R := fun v t => v = t.2.2) (bs := ts) hl.isList fn_each (each_mapR hreads) (by rw [m1]; exact h1) (by rw [m1]; exact h2) ?_ (fun t ht => ?_) fun out hlo he => ?_
  · have : ts.length = ds.length := by rw [← m1, List.length_map]
    have := line_of (n := ts.length) (by omega)
    exact this
  · have hd : t.1 ∈ ds := by rw [← m1]; exact List.mem_map_of_mem ht
    have := SeqAt.depth_of_shaped (h3 _ hd)
    omega
  · obtain ⟨ep, he'⟩ := PyProof.Rows.sortedAll_at s.heap (ts.map (·.2.2)) out.toArray
    have e2 := each_fn he
    have hm : ∀ t ∈ ts.mergeSort (dataLe false fun t : Tri => t.1), Rp X.K F t.1 t.2.1 ∧ RelV t.2.1 t.2.2 := fun t ht => m4 t ((List.mergeSort_perm ts _).mem_iff.mp ht)
    obtain ⟨r1, r2⟩ := rpl_map hm
    rw [tri_sort, m1] at r1
    rw [← e2] at r2
    refine ⟨.ref _, upd H (s.heap.objs.size + 1) (.lst ((ts.mergeSort (dataLe false fun t : Tri => t.1)).map (·.2.1))), I.laid (t' := s.toks) (fun _ _ => PyProof.Rows.sortedAll_old) (Nat.le_succ _) ⟨?_, out, ep, r2, he'⟩, rfl, q _ _ (I.hok.fresh (Nat.le_succ _)) r1⟩
    rw [List.length_map, List.length_mergeSort]
    have : ts.length = ds.length := by rw [← m1, List.length_map]
    exact line_of (by omega)
def sortD : D → Option D | .list ds => if srtOk ds then some (.list (ds.mergeSort leS)) else none | _ => none
theorem en_sorted (hu : X.A.units + 68 < cLine) (hg : Gl X "sorted") (hm : X.mg "sorted" = none) (ha : EB X a f) (hs : N1 X a) : EN X (.Call (.Name "sorted" p) [a] [] pos) (d1 sortD f) :=
  en_c1 (pe_callB (cr_sortedD hu) hg hm rfl (pa_cons ha.pe pa_nil hs) (by decide) (by decide) hs rfl) fun x u d F H Q e s ru k => by
    unfold sortD at e
    split at e
    · split at e
      · rename_i ds ok
        cases e
        obtain ⟨q, xs, rfl, hq, rq⟩ := ru.list s
        exact ⟨q, F, ds, xs, rfl, hq, rq, s, ok, fun p' ys hp r' => k p' _ hp (.lst r')⟩
      · cases e
    · cases e
/-! ### min, max of a list of ints -/
def minL : List Int → Option Int
  | [] => none
  | i :: is => some (is.foldl min i)
def maxL : List Int → Option Int
  | [] => none
  | i :: is => some (is.foldl max i)
theorem foldl_min : ∀ (l : List Int) (i m : Int), (m = i ∨ m ∈ l) → m ≤ i → (∀ x ∈ l, m ≤ x) → l.foldl min i = m
  | [], i, m, h, _, _ => by
    rcases h with h | h
    · exact h.symm
    · cases h
  | x :: l, i, m, h, h1, h2 => by
    rw [List.foldl_cons]
    have hx := h2 x List.mem_cons_self
    refine foldl_min l _ m ?_ (by omega) fun y hy => h2 y (List.mem_cons_of_mem _ hy)
    rcases h with h | h
    · left; omega
    · rcases List.mem_cons.mp h with h | h
      · left; omega
      · exact .inr h
theorem foldl_max : ∀ (l : List Int) (i m : Int), (m = i ∨ m ∈ l) → i ≤ m → (∀ x ∈ l, x ≤ m) → l.foldl max i = m
  | [], i, m, h, _, _ => by
    rcases h with h | h
    · exact h.symm
    · cases h
  | x :: l, i, m, h, h1, h2 => by
    rw [List.foldl_cons]
    have hx := h2 x List.mem_cons_self
    refine foldl_max l _ m ?_ (by omega) fun y hy => h2 y (List.mem_cons_of_mem _ hy)
    rcases h with h | h
    · left; omega
    · rcases List.mem_cons.mp h with h | h
      · left; omega
      · exact .inr h
def minLD : D → Option D | .list xs => (intsOf xs).bind fun is => (minL is).bind fun m => some (.int m) | _ => none
def maxLD : D → Option D | .list xs => (intsOf xs).bind fun is => (maxL is).bind fun m => some (.int m) | _ => none
theorem ex_minL (hc : X.calm = true) (hg : Gl X "min") (hm : X.mg "min" = none) (ha : EB X a f) (hs : N1 X a) : EX X (.Call (.Name "min" p) [a] [] pos) (d1 minLD f) :=
  ex_c1 (pe_callB (cr_min hc) hg hm rfl (pa_cons ha.pe pa_nil hs) (by decide) (by decide) hs rfl) fun x u d F H Q e s ru k => by
    unfold minLD at e
    split at e
    · rename_i ds
      simp only [Option.bind_eq_some_iff, Option.some.injEq] at e
      obtain ⟨is, h1, m, h2, rfl⟩ := e
      obtain ⟨q, xs, rfl, hq, rq⟩ := ru.list s
      have e1 := intsOf_eq h1
      subst e1
      have e2 := rq.ints_inv
      subst e2
      cases is with
      | nil => cases h2
      | cons i is =>
        cases h2
        refine ⟨q, i :: is, rfl, .inl (.inl hq), Nat.succ_pos _, fun m h1 h2 => ?_⟩
        rw [foldl_min is i m (List.mem_cons.mp h1) (h2 i List.mem_cons_self) fun x hx => h2 x (List.mem_cons_of_mem _ hx)] at k
        exact k _ F H (.refl s) (.int _)
    · cases e
theorem ex_maxL (hc : X.calm = true) (hg : Gl X "max") (hm : X.mg "max" = none) (ha : EB X a f) (hs : N1 X a) : EX X (.Call (.Name "max" p) [a] [] pos) (d1 maxLD f) :=
  ex_c1 (pe_callB (cr_max hc) hg hm rfl (pa_cons ha.pe pa_nil hs) (by decide) (by decide) hs rfl) fun x u d F H Q e s ru k => by
    unfold maxLD at e
    split at e
    · rename_i ds
      simp only [Option.bind_eq_some_iff, Option.some.injEq] at e
      obtain ⟨is, h1, m, h2, rfl⟩ := e
      obtain ⟨q, xs, rfl, hq, rq⟩ := ru.list s
      have e1 := intsOf_eq h1
      subst e1
      have e2 := rq.ints_inv
      subst e2
      cases is with
      | nil => cases h2
      | cons i is =>
        cases h2
        refine ⟨q, i :: is, rfl, .inl (.inl hq), Nat.succ_pos _, fun m h1 h2 => ?_⟩
        rw [foldl_max is i m (List.mem_cons.mp h1) (h2 i List.mem_cons_self) fun x hx => h2 x (List.mem_cons_of_mem _ hx)] at k
        exact k _ F H (.refl s) (.int _)
    · cases e
/-! ### index -/
def indexL (d : D) : List D → Option Nat
  | [] => none
  | x :: xs => if PyData.eqv x d then some 0 else (indexL d xs).map (· + 1)
def indexD : D → D → Option D
  | .list xs, d => if SeqAt.shaped (.list xs) && SeqAt.shaped d then (indexL d xs).bind fun i => some (.int (i : Nat)) else none
  | _, _ => none
theorem indexL_at : ∀ {xs : List D} {d : D} {i : Nat}, indexL d xs = some i → ∃ z, xs[i]? = some z ∧ PyData.eqv z d = true ∧ ∀ m z', m < i → xs[m]? = some z' → PyData.eqv z' d = false
  | [], _, _, h => by cases h
  | x :: xs, d, i, h => by
    unfold indexL at h
    split at h
    · rename_i hx
      cases h
      exact ⟨x, rfl, hx, fun m z' hm => absurd hm (Nat.not_lt_zero _)⟩
    · rename_i hx
      rw [Option.map_eq_some_iff] at h
      obtain ⟨j, h1, rfl⟩ := h
      obtain ⟨z, h2, h3, h4⟩ := indexL_at h1
      refine ⟨z, by simpa using h2, h3, fun m z' hm hz => ?_⟩
      cases m with
      | zero =>
        simp at hz
        subst hz
        simpa using hx
      | succ m => exact h4 m z' (by omega) (by simpa using hz)
theorem ex_index {apos cpos : Pos} (hu : X.A.units + 65 < cLine) (ha : EB X a f) (hb : EX X b g) (hs : N1 X b) (hbase : attributeBase a "index" X.env (eval a X.env) = eval a X.env) (hline : (apos.endLine == cpos.line) = true) :
    EX X (.Call (.Attribute a "index" apos) [b] [] cpos) (d2 indexD f g) :=
  mkX (pe_bm PySem.F.plainAttrs_list PySem.F.slot_list_index PySem.F.type_list_index (mt_indexD hu) ha.pe (pa_cons hb.b.pe pa_nil hs) hbase (by rw [hs]; rfl) hline hs rfl) fun σ H Q ρ F d e h k => by
    simp only [d2, Option.bind_eq_some_iff] at h
    obtain ⟨x, h1, y, h2, h3⟩ := h
    unfold indexD at h3
    split at h3
    · rename_i ds
      split at h3
      · rename_i hsh
        rw [Bool.and_eq_true] at hsh
        obtain ⟨s1, s2⟩ := hsh
        simp only [Option.bind_eq_some_iff, Option.some.injEq] at h3
        obtain ⟨j, h4, rfl⟩ := h3
        obtain ⟨z, z1, z2, z3⟩ := indexL_at h4
        refine ⟨ρ, F, .list ds, e, h1, fun u F1 H1 x1 r1 => ?_⟩
        obtain ⟨q, xs, rfl, hq, rq⟩ := r1.list x1.le
        refine ⟨.inl ⟨rfl, xs, .inl (.inl hq)⟩, ρ, F1, y, e.ext x1, h2, fun w F2 H2 x2 r2 => ?_⟩
        exact ⟨q, w, y, ds, j, z, rfl, rfl, (r1.ext x2).dp x2.le (plain_of_shaped s1), r2.dp x2.le (plain_of_shaped s2), s1, s2, z1, z2, z3, k _ F2 H2 (x1.trans x2) (.int _)⟩
      · cases h3
    · cases h3
end
end Zx
/-! Zx11: set(list of ints), sorted(set(..)). -/
namespace Zx
variable [Marked]
open PySem PySem.Spec L2 PyProof.Rows
section
variable {P : Program} {w : World} {A : Around} {E : Value → Shared → Prop} {s : Shared}
abbrev obS (w : World) : Obj := { cls := .type "set", dict := none, data := .set #[] 0 (.fresh 0 0 (!w.params.followText "set-order")) }
theorem setR_list {la : Addr} {its : Array Value} (ks : List Int) {Q : Value → Shared → Prop} (hA : A.handled = none) (hL : s.heap.IsList la its) (hI : IntsAre its.toList ks) (hz : ks.length + 1 < scanBound)
    (fin : ∀ (g : Heap) (tk c : Nat), SetR w g s.heap.objs.size (fun j => decide (j ∈ ks)) c → c ≤ ks.length → (∀ b o, s.heap.get? b = some o → g.get? b = some o) → Q (.ref s.heap.objs.size) { s with heap := g, toks := tk }) :
    wpAny (model P w) A (call (.type "set") [.ref la]) Q E s := by
  have hsz : its.size = ks.length := by have z := IntsAre.length hI; rw [Array.length_toList] at z; exact z
  obtain ⟨c0, t0, hmro⟩ := F.called_set.mro
  have q1 := F.called_set.made; have q2 := F.called_set.sub
  refine wpAny_call (codeAny_of_tree ?_); show wpAny _ _ (callAny (.type "set") _) _ _ _
  refine wpAny_pure ⟨PySem.Code.quiet_builtin _ (by decide +kernel), codeAny_builtin F.entry_type_call ?_⟩
  rw [Around.under_plain (weight_type_call_type "set" [.ref la] []) rfl]
  have q3 := F.called_set.notType; have q4 := F.called_set.canCreate; have q5 := F.typeCall_set_1 (.ref la)
  repeat (any_goals (first | assumption | wp_step))

  refine codeAny_mono (code_set_led1 (.ref la) (E := E) (Q₁ := fun ob s1 => ob = .ref s.heap.objs.size ∧ s1 = { s with heap := s.heap.push (obS w) }) ⟨rfl, rfl⟩) fun rr s1 hrr => ?_
  cases rr with
  | error e => exact hrr
  | ok fl =>
    cases fl with
    | ret ob =>
      obtain ⟨rfl, rfl⟩ := hrr
      have g0 : (s.heap.push (obS w)).get? s.heap.objs.size = some (obS w) := Heap.get?_push_size _ rfl
      have g1 : Shared.TypeIs { s with heap := s.heap.push (obS w) } (.ref s.heap.objs.size) "set" := ⟨_, g0, rfl⟩
      have q6 := F.called_set.init.lookup; have q7 := F.called_set.init.bind (.ref s.heap.objs.size)
      repeat (any_goals (first | assumption | wp_step))

      refine codeAny_mono (codeAny_call_builtin (R := wants (fun r s₂ => r = .none ∧ ∃ g tk c, s₂ = { s with heap := g, toks := tk } ∧ SetR w g s.heap.objs.size (fun j => decide (j ∈ ks)) c ∧ c ≤ ks.length ∧
          ∀ b o, s.heap.get? b = some o → g.get? b = some o) E) F.called_set.init.plain F.entry_set_init (check_set_init_1 g1 ?_)) fun r2 s2 hr2 => ?_
      · obtain ⟨⟨oc, od, oda, osl⟩, hol, hcl, nl, hdl⟩ := hL
        simp only at hcl hdl
        subst hcl; subst hdl
        have g2 : (s.heap.push (obS w)).get? la = some { cls := .type "list", dict := od, data := .seq its nl, slots := osl } := Heap.get?_push_of_some _ hol
        have q8 := F.sub_list_set; have q9 := F.sub_list_frozenset
        have q10 : (Value.type "list" == Value.type "dict") = false := by decide
        have hl1 : (s.heap.push (obS w)).IsList la its := ⟨_, g2, rfl, nl, rfl⟩
        unfold Builtin.«set.__init__» noKeywords Builtin.Frozenset.updateFrom
        generalize hPI : pyIter = PI; wp_walk; subst hPI
        refine wpAny_pyIter_list hl1 ?_; refine wpAny_bind (wpAny_runValue ?_)
        have la_lt : la < s.heap.objs.size := Heap.lt_size hol
        have hz1 : (s.heap.push (obS w)).objs.size = s.heap.objs.size + 1 := Heap.size_push ..
        have hneI : la ≠ (s.heap.push (obS w)).objs.size := by
          rw [hz1]; exact fun z => Nat.lt_irrefl _ (Nat.lt_of_lt_of_le la_lt (Nat.le_trans (Nat.le_succ _) (Nat.le_of_eq z.symm)))
        have hSf : s.heap.objs.size ∉ [(s.heap.push (obS w)).objs.size, la] := by
          rw [hz1]
          intro hm
          rcases List.mem_cons.mp hm with z | z
          · exact absurd z (Nat.ne_of_lt (Nat.lt_succ_self _))
          · exact absurd (List.mem_singleton.mp z).symm (Nat.ne_of_lt la_lt)
        have hv : ∀ (i : Nat) (v : Value), its[i]? = some v → ∃ k t, ks[i]? = some k ∧ v = .int k t := fun i v hv => by
          have hi : i < ks.length := by rw [← hsz]; exact (Array.getElem?_eq_some_iff.mp hv).1
          obtain ⟨t, e⟩ := IntsAre.int_at hI i v (by rw [Array.getElem?_toList]; exact hv)
          refine ⟨ks[i], t, List.getElem?_eq_getElem hi, ?_⟩
          rw [e, List.getD_eq_getElem?_getD, List.getElem?_eq_getElem hi]; rfl
        have hA3 : A.in1.in1.in1.handled = none := by simp [hA]
        refine set_update_ints ((Walks.list hA3 _ la hneI its).toS) _ hSf ks hsz hz hv (its.size - 0) 0 _ (by omega) (Nat.zero_le _) ⟨⟨_, Heap.get?_push_size _ rfl, rfl, rfl⟩, (hl1.push _)⟩ ?hS0 ?hR
        case hS0 => exact ⟨0, Nat.le_refl 0, setR_new_at (Heap.get?_push_of_some _ g0)⟩
        case hR =>
          intro s' c' hm hc' hS'
          obtain ⟨h3, g3, d3, tk3, os3⟩ := s'
          have e1 : g3 = s.gens := hm.gens
          have e2 : d3 = s.drawn := hm.drawn
          have e3 : os3 = s.os := hm.os
          subst e1 e2 e3
          show wpAny _ _ _ _ _ _
          refine wpAny_pure ?_
          show wpAny _ _ (ret Value.none) _ _ _
          refine wpAny_pure ⟨rfl, h3, tk3, c', rfl, hS', by omega, fun b o e => ?_⟩
          have b0 : b < s.heap.objs.size := Heap.lt_size e
          refine hm.heap b o ?_ (Heap.get?_push_of_some _ (Heap.get?_push_of_some _ e))
          rw [hz1]
          intro hm
          rcases List.mem_cons.mp hm with z | hm
          · exact absurd z (Nat.ne_of_lt b0)
          · exact absurd (List.mem_singleton.mp hm) (Nat.ne_of_lt (Nat.lt_succ_of_lt b0))
      · cases r2 with
        | error e => exact hr2
        | ok fl =>
          cases fl with
          | ret v =>
            obtain ⟨rfl, g, tk, c, rfl, k1, k2, k3⟩ := hr2
            repeat (any_goals (first | assumption | wp_step))
            exact fin _ _ _ k1 k2 k3
          | _ => exact hr2.elim
    | _ => exact hrr.elim
end
/-! ### strictly rising lists of ints -/
def sIns (k : Int) : List Int → List Int
  | [] => [k]
  | x :: xs => if k < x then k :: x :: xs else if k = x then x :: xs else x :: sIns k xs
def setSort : List Int → List Int
  | [] => []
  | k :: ks => sIns k (setSort ks)
theorem sIns_mem {k j : Int} : ∀ {xs : List Int}, j ∈ sIns k xs ↔ j = k ∨ j ∈ xs
  | [] => by simp [sIns]
  | x :: xs => by
    unfold sIns
    split
    · simp
    · split
      · rename_i h
        subst h
        simp
      · rw [List.mem_cons, sIns_mem (xs := xs), List.mem_cons]
        constructor
        · rintro (h | h | h)
          · exact .inr (.inl h)
          · exact .inl h
          · exact .inr (.inr h)
        · rintro (h | h | h)
          · exact .inr (.inl h)
          · exact .inl h
          · exact .inr (.inr h)
theorem sIns_lt {k : Int} : ∀ {xs : List Int}, xs.Pairwise (· < ·) → (sIns k xs).Pairwise (· < ·)
  | [], _ => by simp [sIns]
  | x :: xs, h => by
    obtain ⟨h1, h2⟩ := List.pairwise_cons.mp h
    unfold sIns
    split
    · rename_i hk
      refine List.pairwise_cons.mpr ⟨fun y hy => ?_, h⟩
      rcases List.mem_cons.mp hy with rfl | hy
      · exact hk
      · have := h1 y hy; omega
    · split
      · exact h
      · rename_i hk hk2
        refine List.pairwise_cons.mpr ⟨fun y hy => ?_, sIns_lt h2⟩
        rcases sIns_mem.mp hy with rfl | hy
        · omega
        · exact h1 y hy
theorem setSort_lt : ∀ (ks : List Int), (setSort ks).Pairwise (· < ·)
  | [] => .nil
  | _ :: ks => sIns_lt (setSort_lt ks)
theorem setSort_mem {j : Int} : ∀ {ks : List Int}, j ∈ setSort ks ↔ j ∈ ks
  | [] => Iff.rfl
  | k :: ks => by
    show j ∈ sIns k (setSort ks) ↔ _
    rw [sIns_mem, setSort_mem, List.mem_cons]
theorem rising_ext : ∀ {as bs : List Int}, as.Pairwise (· < ·) → bs.Pairwise (· < ·) → (∀ k, k ∈ as ↔ k ∈ bs) → as = bs
  | [], [], _, _, _ => rfl
  | [], b :: bs, _, _, h => by have := (h b).mpr List.mem_cons_self; cases this
  | a :: as, [], _, _, h => by have := (h a).mp List.mem_cons_self; cases this
  | a :: as, b :: bs, ha, hb, h => by
    obtain ⟨a1, a2⟩ := List.pairwise_cons.mp ha
    obtain ⟨b1, b2⟩ := List.pairwise_cons.mp hb
    have e : a = b := by
      rcases List.mem_cons.mp ((h a).mp List.mem_cons_self) with e | e
      · exact e
      · rcases List.mem_cons.mp ((h b).mpr List.mem_cons_self) with e' | e'
        · exact e'.symm
        · have := a1 b e'; have := b1 a e; omega
    subst e
    rw [rising_ext a2 b2 fun k => ?_]
    have := h k
    constructor
    · intro hk
      rcases List.mem_cons.mp (this.mp (List.mem_cons_of_mem _ hk)) with rfl | h'
      · have := a1 k hk; omega
      · exact h'
    · intro hk
      rcases List.mem_cons.mp (this.mpr (List.mem_cons_of_mem _ hk)) with rfl | h'
      · have := b1 k hk; omega
      · exact h'
/-! ### the rules -/
section
variable {X : Cx} {a : Expr} {f : Den} {p p2 pos pos2 : Pos}
def rSetLI (K : PySem.W.Frag) (w : World) : List V → Hp → VK → Prop := fun vs H Q => ∃ (q : Addr) (ks : List Int), vs = [V.ref q] ∧ SqL K H q (ks.map V.int) ∧ ks.length < 64 ∧
  ∀ r S n, (∀ k, S k = true ↔ k ∈ ks) → n ≤ ks.length → H r = none → Q (.ref r) (upd H r (SetO w r S n))
theorem cr_setLI (hc : X.calm = true) : CallR X (.type "set") (rSetLI X.K X.w) := by
  intro pins s σ H vs us Q I r h
  obtain ⟨q, ks, rfl, hs, hl, k⟩ := h
  obtain ⟨its, rv, hL, hz⟩ := I.list hs
  rw [Vals.ref1 r]
  refine setR_list ks (I.ok.hd hc) hL.isList (by simpa using rv.ints) (by unfold scanBound; omega) fun g tk c R hcn up => ?_
  exact ⟨.ref _, upd H s.heap.objs.size (SetO X.w s.heap.objs.size (fun j => decide (j ∈ ks)) c), I.laid (t' := tk) up (Nat.le_refl _) (setO_new R), rfl, k _ _ _ (fun j => by simp) hcn (I.hok.fresh (Nat.le_refl _))⟩
def ssD : D → Option D | .list xs => (intsOf xs).bind fun is => if is.length < 64 then some (.list ((setSort is).map .int)) else none | _ => none
theorem en_sortedSet (hc : X.calm = true) (hg : Gl X "sorted") (hm : X.mg "sorted" = none) (hg2 : Gl X "set") (hm2 : X.mg "set" = none) (ha : EB X a f) (hs : N1 X a) (hs2 : N1 X (.Call (.Name "set" p2) [a] [] pos2)) :
    EN X (.Call (.Name "sorted" p) [.Call (.Name "set" p2) [a] [] pos2] [] pos) (d1 ssD f) :=
  mkN (pe_callB (cr_sortedSet hc) hg hm rfl (pa_cons (pe_callTy (cr_setLI hc) hg2 hm2 rfl (pa_cons ha.pe pa_nil hs) (by decide) (by decide) hs rfl) pa_nil hs2) (by decide) (by decide) hs2 rfl) fun σ H Q ρ F d e h k => by
    simp only [d1, Option.bind_eq_some_iff] at h
    obtain ⟨x, h1, h2⟩ := h
    unfold ssD at h2
    split at h2
    · rename_i ds
      simp only [Option.bind_eq_some_iff] at h2
      obtain ⟨is, h2, h3⟩ := h2
      split at h3
      · rename_i hl
        cases h3
        have e1 := intsOf_eq h2
        subst e1
        refine ⟨ρ, F, .list (is.map .int), e, h1, fun u F1 H1 x1 r1 => ?_⟩
        obtain ⟨q, xs, rfl, hq, rq⟩ := r1.list x1.le
        have e2 := rq.ints_inv
        subst e2
        refine ⟨q, is, rfl, .inl (.inl hq), hl, fun r S n hS hn hr => ?_⟩
        refine ⟨r, S, n, rfl, upd_same, by omega, fun ns p' h1 h2 h3 hp => ?_⟩
        have e3 : ns = setSort is := rising_ext h1 (setSort_lt is) fun k => by rw [h2, hS, setSort_mem]
        subst e3
        have x2 : Ext F H F1 (upd H1 r (SetO X.w r S n)) := x1.trans (.own x1.le hr)
        have x3 := x2.trans (.own (o := .lst ((setSort is).map V.int)) x2.le hp)
        exact k p' _ F1 _ x3 (x2.le.free hp) (x2.h.free hp) upd_same (.lst (.ints _))
      · cases h3
    · cases h2
end
end Zx
/-! Zx12: sorted(d.items()). -/
namespace Zx
variable [Marked]
open PySem PySem.Spec L2 PyProof.Rows
section
variable {X : Cx} {pins : List (Addr × Obj)} {σ : L2.St} {H : Hp} {s : Shared}
/-- many new objects laid at once -/
theorem lay_many (I : Inv X pins σ H s) {H2 : Hp} {h2 : Heap} {tk : Nat} (hk : ∀ b o, s.heap.get? b = some o → h2.get? b = some o) (kp : ∀ b u, H b = some u → H2 b = some u)
    (nw : ∀ b u, H2 b = some u → H b = none → s.heap.objs.size ≤ b ∧ ObjOk X.prog X.w H2 h2 b u) : Inv X pins σ H2 { s with heap := h2, toks := tk } := by
  have un : Un (frs X.stack) [] H H2 s.heap h2 := {
    keep := fun b o q _ _ _ => hk b o q
    slot := fun b o q _ _ _ => ⟨o.slots, hk b o q⟩
    free := fun b o q n _ => by
      cases e : H2 b with
      | none => rfl
      | some u => exact absurd (Heap.lt_size q) (Nat.not_lt.mpr (nw b u e n).1)
    there := fun b o q _ => ⟨o, hk b o q⟩
    tups := fun b xs q => kp b _ q
    frzs := fun b o u q => kp b _ q
    tbls := fun b ps q => ⟨#[], by rw [kp b _ q]; simp⟩ }
  refine I.call' (ch := []) rfl un (fun b u q => ?_) I.bare fun b z => by simp at z
  cases e : H b with
  | none => exact (nw b u q e).2
  | some u' =>
    rw [kp b u' e] at q
    cases q
    exact (I.hok b u e).stay (fun d v _ y => hk d v y) (fun d y => kp d _ y) fun d xs y => kp d _ y
theorem dk_obj (I : Inv X pins σ H s) {d : Addr} {kvs : List (Key × V)} (h : Rd H d (.dK kvs)) : kvs.length ≤ sizeLine ∧ (d == sysModules) = false ∧ ∃ vs, KV kvs vs ∧ s.heap.DictOf (mixKind X.prog X.w) d vs := by
  rcases h with h | ⟨o, h⟩
  · exact I.hok d _ h
  · exact (I.hok d _ h).2
end
/-- the pairs of a dict -/
def itL (kds : List (D × D)) : List D := kds.map fun p => .tuple [p.1, p.2]
/-- the pairs laid as tuples -/
def putP : Hp → List Addr → List (Key × V) → Hp
  | H, a :: as, p :: kvs => upd (putP H as kvs) a (.tup [kV p.1, p.2])
  | H, _, _ => H
theorem putP_off {b : Addr} : ∀ (as : List Addr) (kvs : List (Key × V)) (H : Hp), b ∉ as → putP H as kvs b = H b
  | [], _, _, _ => rfl
  | _ :: _, [], _, _ => rfl
  | a :: as, p :: kvs, H, h => by
    show upd (putP H as kvs) a _ b = H b
    rw [upd_ne (fun z => h (by rw [z]; exact List.mem_cons_self)), putP_off as kvs H fun z => h (List.mem_cons_of_mem _ z)]
theorem putP_in {b : Addr} {u : HO} : ∀ (as : List Addr) (kvs : List (Key × V)) (H : Hp), putP H as kvs b = some u → H b = none → b ∈ as
  | [], _, H, h, hn => by
    have h : H b = some u := h
    rw [hn] at h
    cases h
  | _ :: _, [], H, h, hn => by
    have h : H b = some u := h
    rw [hn] at h
    cases h
  | a :: as, p :: kvs, H, h, hn => by
    by_cases hb : b = a
    · rw [hb]; exact List.mem_cons_self
    · have h : upd (putP H as kvs) a (.tup [kV p.1, p.2]) b = some u := h
      rw [upd_ne hb] at h
      exact List.mem_cons_of_mem _ (putP_in as kvs H h hn)
theorem putP_at : ∀ (as : List Addr) (kvs : List (Key × V)) (H : Hp) (j : Nat) (a : Addr) (p : Key × V), as.Nodup → as[j]? = some a → kvs[j]? = some p → putP H as kvs a = some (.tup [kV p.1, p.2])
  | [], _, _, _, _, _, _, h, _ => by simp at h
  | _ :: _, [], _, _, _, _, _, _, h => by simp at h
  | b :: as, q :: kvs, H, 0, a, p, hn, h1, h2 => by
    simp at h1 h2
    subst h1 h2
    exact upd_same
  | b :: as, q :: kvs, H, j + 1, a, p, hn, h1, h2 => by
    obtain ⟨n1, n2⟩ := List.nodup_cons.mp hn
    have h1' : as[j]? = some a := by simpa using h1
    have hne : a ≠ b := fun z => n1 (by rw [← z]; exact List.mem_of_getElem? h1')
    show upd (putP H as kvs) b _ a = _
    rw [upd_ne hne]
    exact putP_at as kvs H j a p n2 h1' (by simpa using h2)
theorem keyD_rp {K : PySem.W.Frag} {F : Hp} (k : Key) : Rp K F (keyD k) (kV k) := by
  cases k with
  | inl i => exact .int i
  | inr x => exact .str x
theorem RpK.at_ {K : PySem.W.Frag} {F : Hp} : ∀ {kds : List (D × D)} {kvs : List (Key × V)} {j : Nat} {p : D × D}, RpK K F kds kvs → kds[j]? = some p → ∃ q, kvs[j]? = some q ∧ p.1 = keyD q.1 ∧ Rp K F p.2 q.2
  | _, _, _, _, .nil, h => by simp at h
  | _, _, 0, _, .cons r t, h => by
    simp at h
    subst h
    exact ⟨_, rfl, rfl, r⟩
  | _, _, j + 1, p, .cons r t, h => by
    obtain ⟨q, h1, h2⟩ := RpK.at_ (j := j) (p := p) t (by simpa using h)
    exact ⟨q, by simpa using h1, h2⟩
theorem rpl_ix {K : PySem.W.Frag} {F : Hp} : ∀ {ds : List D} {vs : List V}, ds.length = vs.length → (∀ (i : Nat) d v, ds[i]? = some d → vs[i]? = some v → Rp K F d v) → RpL K F ds vs
  | [], [], _, _ => .nil
  | [], _ :: _, h, _ => by cases h
  | _ :: _, [], h, _ => by cases h
  | d :: ds, v :: vs, h, hr => .cons (hr 0 d v rfl rfl) (rpl_ix (Nat.succ.inj h) fun i a b h1 h2 => hr (i + 1) a b h1 h2)
section
variable {X : Cx} {e : Expr} {f : Den} {p apos cpos pos : Pos}
def tSI (K : PySem.W.Frag) (te : TE) : TE := fun σ H Q => te σ H fun x H1 => ∃ d kvs F kds, x = V.ref d ∧ Rd H1 d (.dK kvs) ∧ RpK K F kds kvs ∧ Le F H1 ∧ srtOk (itL kds) = true ∧
  ∀ H2 F2 q ys, Ext F H1 F2 H2 → F2 q = none → H1 q = none → H2 q = some (.lst ys) → RpL K F2 ((itL kds).mergeSort leS) ys → Q (.ref q) H2
theorem pe_sortItems {te : TE} (hc : X.calm = true) (hu : X.A.units + 68 < cLine) (he : PE X e te) (hg : Gl X "sorted") (hm : X.mg "sorted" = none) (hbase : attributeBase e "items" X.env (eval e X.env) = eval e X.env) (hline : (apos.endLine == cpos.line) = true)
    (hs : N1 X (.Call (.Attribute e "items" apos) [] [] cpos)) : PE X (.Call (.Name "sorted" p) [.Call (.Attribute e "items" apos) [] [] cpos] [] pos) (tSI X.K te) := by
  refine ⟨fun pins s σ H Q I hq => ?_⟩
  refine wpAny_Call_Name_kw (ld_blt I hg hm rfl ?_ (by decide) (by decide))
  refine PyProof.Rows.callWith_builtin1 ?_ hs rfl
  have hs' : starEach [.Call (.Attribute e "items" apos) [] [] cpos] X.env = [(false, eval (.Call (.Attribute e "items" apos) [] [] cpos) X.env)] := hs
  rw [hs']
  show wpAny _ _ (spliced [(false, eval (.Call (.Attribute e "items" apos) [] [] cpos) X.env)]) _ _ s
  refine Calls.spliced_cons ?_
  refine wpAny_Call_method (T := "dict") (id := "dict.items") hbase rfl hline F.plainAttrs_dict F.slot_dict_items F.type_dict_items (thn (he.run pins s σ H _ I hq) fun u s1 ⟨x, H1, I1, rx, d, kvs, F0, kds, ex, hd, rk, sb, ok, q⟩ => ?_)
  subst ex
  obtain rfl : u = Value.ref d := rx
  obtain ⟨hz, hs0, vs, kv, hdo⟩ := dk_obj I1 hd
  obtain ⟨ep, hat⟩ := hdo.dictAt
  have lk : kvs.length = vs.length := Paired.length kv
  have I2 : Inv X pins σ H1 { s1 with heap := s1.heap.push { cls := .type "dict_items", data := .fields #[.ref d] } } := I1.kept (t' := s1.toks) fun b ob q => Heap.get?_push_of_some _ q
  refine ⟨hdo.typeIs, hdo.mapOf.noDict, ?_⟩
  show wpAny _ _ (callWith cpos (.builtin "dict.items") [.ref d] [] []) _ X.xe s1
  refine method_meetsIn F.slot_dict_items F.entry_dict_items rfl (PySem.evalArgs_none ⟨rfl, hdo.typeIs, F.args_dict_items_1 _, _, meets_dict_items (mixKind X.prog X.w) d hs0, ⟨vs, hdo⟩, ?_⟩)
  refine Calls.spliced_nil ?_
  have hh : X.A.handled = none := I1.ok.hd hc
  generalize hw2 : s1.heap.push { cls := .type "dict_items", data := .fields #[.ref d] } = g2 at I2
  have view : g2.IsItemsView s1.heap.objs.size d := by rw [← hw2]; exact ⟨_, Heap.get?_push_size _ rfl, rfl, rfl⟩
  have hat2 : g2.DictAt (mixKind X.prog X.w) d vs ep := by rw [← hw2]; exact hat.push _
  refine Calls.call_function_entry kind_sorted plain_sorted entry_sorted (args_sorted1 _) ?_
  unfold Builtin.«sorted»
  refine wpAny_bind (m := checkCount "sorted" 1 1 _) (wpAny_pure ?_)
  refine wpAny_bind (PySem.W.kdx_collect (knd := mixKind X.prog X.w) (A := X.A.in1) (kvs := vs) (ep := ep) (by simpa using hh) view hat2 (by omega) fun h3 tk as hk hl hG => ?_)
  refine wpAny_bind (wpAny_newList ?_ (by rw [List.length_map, hl]; omega))
  obtain ⟨o1, o2, o3, o4⟩ := srt_parts ok
  have nd : as.Nodup := List.Pairwise.imp (fun {a b} (h : a < b) => Nat.ne_of_lt h) hG.rise
  have new : ∀ t ∈ as, H1 t = none := fun t ht => I2.hok.fresh (Nat.le_of_lt (hG.above t ht))
  have hkl : kds.length = kvs.length := rk.length.symm
  -- data, address
  let L : List (D × V × Value) := (itL kds).zip ((as.map V.ref).zip (as.map Value.ref))
  have hLl : L.length = as.length := by simp [L, itL]; omega
  have hLat : ∀ (j : Nat) t, L[j]? = some t → ∃ b pd qv, as[j]? = some b ∧ kds[j]? = some pd ∧ kvs[j]? = some qv ∧ t = (.tuple [pd.1, pd.2], .ref b, .ref b) ∧ pd.1 = keyD qv.1 ∧ Rp X.K F0 pd.2 qv.2 := fun j t ht => by
    have hj : j < as.length := by
      rw [← hLl]
      exact (List.getElem?_eq_some_iff.mp ht).1
    have hj2 : j < kds.length := by omega
    obtain ⟨qv, z1, z2, z3⟩ := rk.at_ (List.getElem?_eq_getElem hj2)
    refine ⟨as[j], kds[j], qv, List.getElem?_eq_getElem hj, List.getElem?_eq_getElem hj2, z1, ?_, z2, z3⟩
    have : L[j]? = some ((itL kds)[j]'(by simp [itL]; omega), (as.map V.ref)[j]'(by simpa using hj), (as.map Value.ref)[j]'(by simpa using hj)) := by
      simp only [L]
      rw [List.getElem?_eq_getElem (by simp [itL]; omega)]
      simp
    rw [this] at ht
    cases ht
    simp [itL]
  have m1 : L.map (·.1) = itL kds := by
    simp only [L]
    rw [List.map_fst_zip (by simp [itL]; omega)]
  have m3 : L.map (·.2.2) = as.map Value.ref := by
    simp only [L]
    rw [show (fun t : D × V × Value => t.2.2) = Prod.snd ∘ Prod.snd from rfl, ← List.map_map, List.map_snd_zip (by simp [itL]; omega), List.map_snd_zip (by simp)]
  -- the values read
  have hread : ∀ (j : Nat) t, L[j]? = some t → ∃ bs, Reads h3 t.2.2 t.1 bs ∧ (∀ b ∈ bs, ∃ o, h3.get? b = some o) := fun j t ht => by
    obtain ⟨b, pd, qv, e1, e2, e3, rfl, e5, e6⟩ := hLat j t ht
    obtain ⟨key, k, x, f1, f2, f3⟩ := hG.pairs j b e1
    obtain ⟨qv', g1, g2, g3⟩ := LiI.paired_get kv e3
    rw [f1] at g1
    cases g1
    have hmem : (.tuple [pd.1, pd.2] : D) ∈ itL kds := List.mem_map.mpr ⟨pd, List.mem_of_getElem? e2, rfl⟩
    have hsh := o3 _ hmem
    have hpl : pd.2.plain = true := by
      have := plain_of_shaped hsh
      simp [PyData.plain, PyData.plainAll] at this
      exact this.2
    obtain ⟨bs, r1⟩ := Dp.reads I2 pd.2 qv.2 x (e6.dp sb pd.2 qv.2 hpl) g3
    have r2 : Reads h3 x pd.2 bs := Reads.keeps hk r1
    have r0 : Reads h3 key pd.1 [] := by
      rw [e5, g2]
      have rk1 : RelV (kV k) key := relV_key (show keyIs k key = true from f2)
      cases k with
      | inl i =>
        obtain ⟨t, rfl⟩ := rk1
        exact .int _ _
      | inr z =>
        obtain ⟨t, rfl⟩ := rk1
        exact .str _ _
    have r3 : ReadsAll h3 [key, x] [pd.1, pd.2] ([] ++ (bs ++ [])) := .cons r0 (.cons r2 .nil)
    rw [List.nil_append, List.append_nil] at r3
    exact ⟨bs, .tuple f3 rfl rfl r3, fun b hb => PyProof.On.reads_mem_get r2 b hb⟩
  have hrp : ∀ (j : Nat) t, L[j]? = some t → Rp X.K (putP F0 as kvs) t.1 t.2.1 := fun j t ht => by
    obtain ⟨b, pd, qv, e1, e2, e3, rfl, e5, e6⟩ := hLat j t ht
    have sF : Sub F0 (putP F0 as kvs) := fun c u hc => by
      rw [putP_off as kvs F0 fun z => by rw [sb.free (new c z)] at hc; cases hc]
      exact hc
    exact .tup (putP_at as kvs F0 j b qv nd e1 e3) (.cons (by rw [e5]; exact keyD_rp _) (.cons (e6.mono sF) .nil))
  have hrv : ∀ (j : Nat) t, L[j]? = some t → RelV t.2.1 t.2.2 := fun j t ht => by
    obtain ⟨b, pd, qv, e1, e2, e3, rfl, e5, e6⟩ := hLat j t ht
    rfl
  have na : h3.get? h3.objs.size = none := Heap.get?_none_of_le (Nat.le_refl _)
  have gsz : g2.objs.size ≤ h3.objs.size := by
    have e1 : g2.get? s1.heap.objs.size = some { cls := .type "dict_items", data := .fields #[.ref d] } := by rw [← hw2]; exact Heap.get?_push_size _ rfl
    have e2 := Heap.lt_size (hk _ _ e1)
    have e3 : g2.objs.size = s1.heap.objs.size + 1 := by rw [← hw2]; exact Heap.size_push ..
    rw [e3]
    exact e2
  have kp3 : ∀ b o, g2.get? b = some o → (h3.push { cls := .type "list", data := .seq (as.map Value.ref).toArray }).get? b = some o := fun b o q => Heap.get?_push_of_some _ (hk b o q)
  refine wpAny_bind (wpAny_holding (PySem.W.list_sort_data (β := Tri) (enc := fun t => t.1) (R := fun v t => v = t.2.2) (bs := L) (vs := as.map Value.ref) (n := 0) (Heap.get?_push_size _ rfl) (by rw [← m3]; exact fn_each) (by
      rw [← m3]
      refine each_mapR fun t ht => ?_
      obtain ⟨j, hj⟩ := List.mem_iff_getElem?.mp ht
      obtain ⟨bs, r1, r2⟩ := hread j t hj
      refine ⟨bs, Reads.keeps (fun b o q => Heap.get?_push_of_some _ q) r1, fun z => ?_⟩
      obtain ⟨o, ho⟩ := r2 _ z
      rw [na] at ho
      cases ho) (by rw [m1]; exact o1) (by rw [m1]; exact o2) (by rw [hLl]; omega) (fun t ht => ?_) fun out hlo he => ?_))
  · have hd : t.1 ∈ itL kds := by rw [← m1]; exact List.mem_map_of_mem ht
    have := SeqAt.depth_of_shaped (o3 _ hd)
    show X.A.units + 1 + 1 + t.1.depth < cLine
    omega
  refine wpAny_pure ?_
  have eo := each_fn he
  have hal : h3.objs.size ∉ as := fun z => Nat.lt_irrefl _ (hG.there z)
  have hH1a : H1 h3.objs.size = none := I2.hok.fresh (by exact gsz)
  have hinj : ∀ b, b ∈ as → b ≠ h3.objs.size := fun b hb => Nat.ne_of_lt (hG.there hb)
  have kpH : ∀ b u, H1 b = some u → upd (putP H1 as kvs) h3.objs.size (.lst ((L.mergeSort (PySem.W.dataLe false fun t : Tri => t.1)).map (·.2.1))) b = some u := fun b u hb => by
    rw [upd_ne (fun z => by rw [z, hH1a] at hb; cases hb), putP_off as kvs H1 fun z => by have := new b z; rw [hb] at this; cases this]
    exact hb
  have hmm : ∀ t ∈ L.mergeSort (PySem.W.dataLe false fun t : Tri => t.1), ∃ j, L[j]? = some t := fun t ht => List.mem_iff_getElem?.mp ((List.mergeSort_perm L _).mem_iff.mp ht)
  obtain ⟨z1, z2⟩ := rpl_map (K := X.K) (F := putP F0 as kvs) (ts := L.mergeSort (PySem.W.dataLe false fun t : Tri => t.1)) fun t ht => by
    obtain ⟨j, hj⟩ := hmm t ht
    exact ⟨hrp j t hj, hrv j t hj⟩
  rw [tri_sort, m1] at z1
  rw [← eo] at z2
  obtain ⟨ep2, hat3⟩ := PyProof.Rows.sortedHeap_at (a := h3.objs.size) (h := h3.push { cls := .type "list", data := .seq (as.map Value.ref).toArray }) (vs := as.map Value.ref) (out := out.toArray) (Heap.get?_push_size _ rfl)
  have kp4 : ∀ b o, b ≠ h3.objs.size → h3.get? b = some o → (sortedHeap (h3.push { cls := .type "list", data := .seq (as.map Value.ref).toArray }) h3.objs.size (as.map Value.ref) out.toArray).get? b = some o := fun b o hb q => by
    rw [PyProof.Rows.sortedHeap_old hb (Heap.lt_size (Heap.get?_push_of_some _ q))]
    exact Heap.get?_push_of_some _ q
  have J := lay_many (tk := tk) I2 (H2 := upd (putP H1 as kvs) h3.objs.size (.lst ((L.mergeSort (PySem.W.dataLe false fun t : Tri => t.1)).map (·.2.1))))
    (h2 := sortedHeap (h3.push { cls := .type "list", data := .seq (as.map Value.ref).toArray }) h3.objs.size (as.map Value.ref) out.toArray)
    (fun b o q => kp4 b o (Nat.ne_of_lt (Nat.lt_of_lt_of_le (Heap.lt_size q) gsz)) (hk b o q)) kpH (fun b u hb hn => by
      by_cases hba : b = h3.objs.size
      · subst hba
        rw [upd_same] at hb
        cases hb
        refine ⟨gsz, ?_, out, ep2, z2, hat3⟩
        rw [List.length_map, List.length_mergeSort, hLl, hl, ← lk]
        exact hz
      · rw [upd_ne hba] at hb
        have hm := putP_in as kvs H1 hb hn
        obtain ⟨j, hj⟩ := List.mem_iff_getElem?.mp hm
        obtain ⟨key, k, x, f1, f2, f3⟩ := hG.pairs j b hj
        have hj2 : j < kvs.length := by
          have := (List.getElem?_eq_some_iff.mp hj).1
          omega
        obtain ⟨qv, g1, g2', g3⟩ := LiI.paired_get kv (List.getElem?_eq_getElem hj2)
        rw [f1] at g1
        cases g1
        rw [putP_at as kvs H1 j b _ nd hj (List.getElem?_eq_getElem hj2)] at hb
        cases hb
        have rk1 : RelV (kV (kvs[j]).1) key := by
          rw [g2']
          exact relV_key (show keyIs k key = true from f2)
        exact ⟨Nat.le_of_lt (hG.above b hm), by show 2 ≤ sizeLine; decide, [key, x], .cons rk1 (.cons g3 .nil), ⟨_, kp4 b _ hba f3, rfl, _, rfl⟩⟩)
  refine ⟨_, rfl, .ref h3.objs.size, _, J, rfl, q _ (putP F0 as kvs) h3.objs.size _ ⟨fun b u hb => ?_, .of kpH, ⟨⟨fun b u hb nu => ?_, fun b hb => ?_⟩, fun P q h => (sb.m P q h).ext kpH⟩, fun b h1 h2 => ?_⟩ ?_ hH1a upd_same z1⟩
  · rw [putP_off as kvs F0 fun z => by rw [sb.free (new b z)] at hb; cases hb]
    exact hb
  · by_cases hm : b ∈ as
    · rw [upd_ne (hinj b hm)]
      obtain ⟨j, hj⟩ := List.mem_iff_getElem?.mp hm
      have hj2 : j < kvs.length := by
        have := (List.getElem?_eq_some_iff.mp hj).1
        omega
      rw [putP_at as kvs F0 j b _ nd hj (List.getElem?_eq_getElem hj2)] at hb
      rw [putP_at as kvs H1 j b _ nd hj (List.getElem?_eq_getElem hj2)]
      exact hb
    · rw [putP_off as kvs F0 hm] at hb
      exact kpH b u (sb.n hb nu)
  · have hba : b ≠ h3.objs.size := fun z => by rw [z, upd_same] at hb; cases hb
    rw [upd_ne hba] at hb
    by_cases hm : b ∈ as
    · obtain ⟨j, hj⟩ := List.mem_iff_getElem?.mp hm
      have hj2 : j < kvs.length := by
        have := (List.getElem?_eq_some_iff.mp hj).1
        omega
      rw [putP_at as kvs H1 j b _ nd hj (List.getElem?_eq_getElem hj2)] at hb
      cases hb
    · rw [putP_off as kvs H1 hm] at hb
      rw [putP_off as kvs F0 hm]
      exact sb.free hb
  · rw [putP_off as kvs F0 fun z => h1 (new b z)]
    exact h2
  · rw [putP_off as kvs F0 hal]
    exact sb.free hH1a
def sortItD : D → Option D
  | .dict kds => if notMk kds && srtOk (itL kds) then some (.list ((itL kds).mergeSort leS)) else none
  | _ => none
theorem en_sortItems (hc : X.calm = true) (hu : X.A.units + 68 < cLine) (he : EB X e f) (hg : Gl X "sorted") (hm : X.mg "sorted" = none) (hbase : attributeBase e "items" X.env (eval e X.env) = eval e X.env) (hline : (apos.endLine == cpos.line) = true)
    (hs : N1 X (.Call (.Attribute e "items" apos) [] [] cpos)) : EN X (.Call (.Name "sorted" p) [.Call (.Attribute e "items" apos) [] [] cpos] [] pos) (d1 sortItD f) :=
  mkN (pe_sortItems hc hu he.pe hg hm hbase hline hs) fun σ H Q ρ F d e h k => by
    simp only [d1, Option.bind_eq_some_iff] at h
    obtain ⟨x, h1, h2⟩ := h
    unfold sortItD at h2
    split at h2
    · split at h2
      · rename_i kds ok
        cases h2
        rw [Bool.and_eq_true] at ok
        refine ⟨ρ, F, .dict kds, e, h1, fun u F1 H1 x1 r1 => ?_⟩
        obtain ⟨a, kvs, rfl, ra, rk⟩ := r1.dictK x1.le ok.1
        exact ⟨a, kvs, F1, kds, rfl, ra, rk, x1.le, ok.2, fun H2 F2 q ys x2 g1 g2 g3 g4 => k q _ F2 H2 (x1.trans x2) g1 (x1.h.free g2) g3 (.lst g4)⟩
      · cases h2
    · cases h2
end
end Zx
/-! Zx13: dicts walked under a lock, dict comprehensions, a display of one pair. -/
namespace Zx
variable [Marked]
open PySem PySem.Spec L2
def isDk : HO → Prop
  | .dK _ => True
  | .dT _ => True
  | _ => False
/-- the same dict, locked or not -/
def DkLike (u w : HO) : Prop := ∃ o v, isDk v ∧ ((u = v ∧ w = .frz o v) ∨ (u = .frz o v ∧ w = v))
theorem DkLike.symm {u w : HO} (h : DkLike u w) : DkLike w u := by
  obtain ⟨o, v, h1, h2 | h2⟩ := h
  · exact ⟨o, v, h1, .inr ⟨h2.2, h2.1⟩⟩
  · exact ⟨o, v, h1, .inl ⟨h2.2, h2.1⟩⟩
section
variable {K : PySem.W.Frag} {F H F' H' F0 H0 : Hp} {p : Addr} {u w : HO} {ρ : Env} {σ : L2.St}
theorem DkLike.nl (h : DkLike u w) (xs : List V) : u ≠ .lst xs ∧ u ≠ .tup xs ∧ ∀ o, u ≠ .frz o (.lst xs) := by
  obtain ⟨o, v, h1, h2 | h2⟩ := h
  · rw [h2.1]
    refine ⟨?_, ?_, fun o => ?_⟩ <;> rintro rfl <;> exact h1
  · rw [h2.1]
    refine ⟨fun z => (nomatch z), fun z => (nomatch z), fun o z => ?_⟩
    injection z with _ z
    subst z
    exact h1
theorem Rd.sw (hp : F p = some u) (d : DkLike u w) {a : Addr} {v : HO} (h : Rd F a v) (hv : isDk v) : Rd (upd F p w) a v := by
  by_cases ha : a = p
  · subst ha
    obtain ⟨o, v', h1, h2 | h2⟩ := d
    · rw [h2.1] at hp
      refine .inr ⟨o, ?_⟩
      rw [upd_same, h2.2]
      rcases h with h | ⟨o', h⟩
      · rw [hp] at h; cases h; rfl
      · rw [hp] at h; cases h; exact h1.elim
    · rw [h2.1] at hp
      refine .inl ?_
      rw [upd_same, h2.2]
      rcases h with h | ⟨o', h⟩
      · rw [hp] at h; cases h; exact hv.elim
      · rw [hp] at h; cases h; rfl
  · rcases h with h | ⟨o', h⟩
    · exact .inl (by rw [upd_ne ha]; exact h)
    · exact .inr ⟨o', by rw [upd_ne ha]; exact h⟩
theorem neDk (hp : F p = some u) (d : DkLike u w) {a : Addr} {o : HO} (h : F a = some o) (ho : o ≠ u) : a ≠ p := fun z => by
  subst z
  rw [hp] at h
  cases h
  exact ho rfl
mutual
theorem Rp.sw (hp : F p = some u) (d : DkLike u w) : ∀ {x : D} {y : V}, Rp K F x y → Rp K (upd F p w) x y
  | _, _, .non => .non
  | _, _, .bl b => .bl b
  | _, _, .int i => .int i
  | _, _, .str x => .str x
  | _, _, .lst (xs := xs) h t => .lst (by rw [upd_ne (neDk hp d h fun z => (d.nl xs).1 z.symm)]; exact h) (RpL.sw hp d t)
  | _, _, .tup (xs := xs) h t => .tup (by rw [upd_ne (neDk hp d h fun z => (d.nl xs).2.1 z.symm)]; exact h) (RpL.sw hp d t)
  | _, _, .dK h t => .dK (Rd.sw hp d h trivial) (RpK.sw hp d t)
  | _, _, .dT h t => .dT (Rd.sw hp d h trivial) (RpT.sw hp d t)
  | _, _, .scr (ns := ns) h => .scr (by
      rcases h with h | h
      · refine .inl ?_
        rcases h with h | ⟨o, h⟩
        · exact .inl (by rw [upd_ne (neDk hp d h fun z => (d.nl (ns.map V.int)).1 z.symm)]; exact h)
        · exact .inr ⟨o, by rw [upd_ne (neDk hp d h fun z => (d.nl (ns.map V.int)).2.2 o z.symm)]; exact h⟩
      · exact .inr h)
theorem RpL.sw (hp : F p = some u) (d : DkLike u w) : ∀ {ds : List D} {vs : List V}, RpL K F ds vs → RpL K (upd F p w) ds vs
  | _, _, .nil => .nil
  | _, _, .cons h t => .cons (Rp.sw hp d h) (RpL.sw hp d t)
theorem RpK.sw (hp : F p = some u) (d : DkLike u w) : ∀ {ds : List (D × D)} {vs : List (Key × V)}, RpK K F ds vs → RpK K (upd F p w) ds vs
  | _, _, .nil => .nil
  | _, _, .cons h t => .cons (Rp.sw hp d h) (RpK.sw hp d t)
theorem RpT.sw (hp : F p = some u) (d : DkLike u w) : ∀ {ds : List (D × D)} {vs : List (List Key × V)}, RpT K F ds vs → RpT K (upd F p w) ds vs
  | _, _, .nil => .nil
  | _, _, .cons h t => .cons (Rp.sw hp d h) (RpT.sw hp d t)
end
theorem OwnRep.sw (hp : F p = some u) (d : DkLike u w) {x : D} {o : HO} (h : OwnRep K F x o) : OwnRep K (upd F p w) x o := by
  cases h with
  | lst t => exact .lst (t.sw hp d)
  | dK t => exact .dK (t.sw hp d)
  | dT t => exact .dT (t.sw hp d)
theorem upd_upd {H : Hp} {p : Addr} {a b : HO} : upd (upd H p a) p b = upd H p b := by
  funext x
  by_cases h : x = p
  · rw [h, upd_same, upd_same]
  · rw [upd_ne h, upd_ne h, upd_ne h]
theorem upd_self {H : Hp} {p : Addr} {a : HO} (h : H p = some a) : upd H p a = H := by
  funext x
  by_cases hx : x = p
  · rw [hx, upd_same, h]
  · rw [upd_ne hx]
theorem DkLike.nt (h : DkLike u w) : Nt u := by
  obtain ⟨o, v, h1, h2 | h2⟩ := h
  · rw [h2.1]
    rintro ps rfl
    exact h1
  · rw [h2.1]
    exact fun _ z => nomatch z
theorem DkLike.nx (h : DkLike u w) (φ) : u ≠ .ext φ := by
  obtain ⟨o, v, h1, h2 | h2⟩ := h
  · rw [h2.1]
    rintro rfl
    exact h1
  · rw [h2.1]
    exact fun z => nomatch z
theorem DkLike.wr (d : DkLike u w) (h : H p = some u) : Wr H p := fun o e => by
  rw [h] at e
  cases e
  exact ⟨d.nt, d.nx⟩
theorem Gr.sw {G H : Hp} (s : Gr G H) : Gr (upd G p w) (upd H p w) := ⟨fun a o h n => by
  by_cases ha : a = p
  · subst ha; rw [upd_same] at h ⊢; exact h
  · rw [upd_ne ha] at h ⊢; exact s.n a o h n, fun a e => by
  have h : a ≠ p := fun z => by rw [z, upd_same] at e; cases e
  rw [upd_ne h] at e ⊢
  exact s.k a e⟩
theorem EnvOk.sw (e : EnvOk K ρ σ F H) (hp : F p = some u) (d : DkLike u w) : EnvOk K ρ σ (L2.upd F p w) (L2.upd H p w) where
  sub := e.sub.sw (d.wr (e.sub.n hp d.nt)) d.symm.nt
  len := e.len
  dist := e.dist
  at_ := fun i s hs => by
    obtain ⟨ov, h1, h2⟩ := e.at_ i s hs
    refine ⟨ov, h1, ?_⟩
    cases s with
    | no => trivial
    | fz d' =>
      obtain ⟨v, h3, h4⟩ := h2
      exact ⟨v, h3, h4.sw hp d⟩
    | ow d' =>
      obtain ⟨a, o, h3, h4, h5, h6⟩ := h2
      have ha : a ≠ p := fun z => by rw [z, hp] at h4; cases h4
      exact ⟨a, o, h3, by rw [upd_ne ha]; exact h4, by rw [upd_ne ha]; exact h5, h6.sw hp d⟩
/-- what went on while it was locked -/
theorem Ext.sw (d : DkLike u w) (hF : F p = some u) (hH : H p = some u) (x : Ext (upd F p w) (upd H p w) F' H') : Ext F H (upd F' p u) (upd H' p u) := by
  refine ⟨fun a o h => ?_, ⟨fun a o h n => ?_, fun a e => ?_⟩, x.le.sw (d.symm.wr (x.h.n _ _ upd_same d.symm.nt)) d.nt, fun a h1 h2 => ?_⟩
  · by_cases ha : a = p
    · subst ha; rw [upd_same]; rw [hF] at h; exact h
    · rw [upd_ne ha]
      exact x.f a o (by rw [upd_ne ha]; exact h)
  · by_cases ha : a = p
    · subst ha; rw [upd_same]; rw [hH] at h; exact h
    · rw [upd_ne ha]
      exact x.h.n a o (by rw [upd_ne ha]; exact h) n
  · have ha : a ≠ p := fun z => by rw [z, upd_same] at e; cases e
    rw [upd_ne ha] at e
    have := x.h.k a e
    rwa [upd_ne ha] at this
  · have ha : a ≠ p := fun z => by rw [z, hF] at h2; cases h2
    rw [upd_ne ha]
    exact x.new a (by rw [upd_ne ha]; exact h1) (by rw [upd_ne ha]; exact h2)
/-- slot j's dict is locked -/
def Lk (j : Nat) (σ : L2.St) (F : Hp) : Prop := ∃ p o v, σ[j]? = some (some (.ref p)) ∧ F p = some (.frz o v) ∧ isDk v
/-- slot j holds a dict with plain keys (b: with tuple keys) -/
def dkSlot (j : Nat) (b : Bool) (ρ : Env) : Option (List (D × D)) := match ρ[j]? with
  | some (.fz (.dict kds)) => if b then (match kds with | (.bool true, .none) :: r => some r | _ => none) else if notMk kds then some kds else none
  | _ => none
theorem dk_slot {j : Nat} {b : Bool} {kds : List (D × D)} (e : EnvOk K ρ σ F H) (h : dkSlot j b ρ = some kds) : ∃ p v, σ[j]? = some (some (.ref p)) ∧ Rd F p v ∧ isDk v ∧ Rp K F (.dict (if b then (.bool true, .none) :: kds else kds)) (.ref p) := by
  unfold dkSlot at h
  split at h
  · rename_i kds' hs
    obtain ⟨ov, h1, y, h2, h3⟩ := e.at_ j _ hs
    subst h2
    cases b with
    | true =>
      simp only [if_true] at h
      split at h
      · cases h
        obtain ⟨a, kvs, rfl, h4, h5⟩ := (RpB.of (H := F) h3).dictT' (Gr.refl F)
        exact ⟨a, .dT kvs, h1, h4, trivial, h3⟩
      · cases h
    | false =>
      simp only [Bool.false_eq_true, if_false] at h
      split at h
      · rename_i hn
        cases h
        obtain ⟨a, kvs, rfl, h4, h5⟩ := (RpB.of (H := F) h3).dictK' (Gr.refl F) hn
        exact ⟨a, .dK kvs, h1, h4, trivial, h3⟩
      · cases h
  · cases h
end
/-! ### what is walked under a lock -/
def tIL (K : PySem.W.Frag) (j : Nat) (f : DenI) : TI := fun σ H R => ∃ ρ F ds, EnvOk K ρ σ F H ∧ Lk j σ F ∧ f ρ = some ds ∧ ∀ J F' H', Ext F H F' H' → Walks K J F' ds → R J H'
structure EIL (X : Cx) (tg e : Expr) (j : Nat) (f : DenI) : Prop where
  pi : PI X tg e (tIL X.K j f)
def tNL (K : PySem.W.Frag) (j : Nat) (f : Den) : TE := fun σ H Q => ∃ ρ F d, EnvOk K ρ σ F H ∧ Lk j σ F ∧ f ρ = some d ∧ ∀ a o F' H', Ext F H F' H' → F' a = none → H a = none → H' a = some o → OwnRep K F' d o → Q (.ref a) H'
structure ENL (X : Cx) (e : Expr) (j : Nat) (f : Den) : Prop where
  pe : PE X e (tNL X.K j f)
def tStL (K : PySem.W.Frag) (j : Nat) (f : DenS) : TS := fun D σ H => ∃ F0 H0 ρ F o, EnvS K F0 H0 ρ σ F H ∧ Lk j σ F ∧ f ρ = some o ∧ Post K F0 H0 D o
structure SXL (X : Cx) (st : Stmt) (j : Nat) (f : DenS) : Prop where
  ps : PS X st (tStL X.K j f)
/-- a reading needs a dict in slot j -/
def Needs {α : Type} (j : Nat) (f : Env → Option α) : Prop := ∀ ρ d, f ρ = some d → ∃ b kds, dkSlot j b ρ = some kds
theorem EnvOk.wiL {K : PySem.W.Frag} {ρ : Env} {σ : L2.St} {F H : Hp} {fi : DenI} {j : Nat} (e : EnvOk K ρ σ F H) (l : Lk j σ F) : WiOk K (tIL K j fi) fi ρ σ F H := fun ds R h k => ⟨ρ, F, ds, e, l, h, k⟩
section
variable {X : Cx} {e : Expr} {f : Den} {st : Stmt} {fs : DenS} {j : Nat}
theorem en_lock (h : ENL X e j f) (n : Needs j f) : EN X e f := by
  refine ⟨⟨fun pins s σ H Q I hw => ?_⟩⟩
  obtain ⟨ρ, F, d, e1, hf, k⟩ := hw
  obtain ⟨b, kds, hd⟩ := n ρ d hf
  obtain ⟨p, v, h1, h2, h3, h4⟩ := dk_slot e1 hd
  rcases h2 with h2 | ⟨o, h2⟩
  · refine (pe_lock h.pe).run pins s σ H Q I ?_
    refine ⟨p, v, e1.sub.n h2 (by cases v <;> first | exact h3.elim | exact fun _ z => nomatch z), by cases v <;> first | exact h3.elim | trivial, fun od => ?_⟩
    have dk : DkLike v (.frz od v) := ⟨od, v, h3, .inl ⟨rfl, rfl⟩⟩
    refine ⟨ρ, _, d, e1.sw h2 dk, ⟨p, od, v, h1, upd_same, h3⟩, hf, fun a o F' H' x g1 g2 g3 g4 => ?_⟩
    have hF' : F' p = some (.frz od v) := x.f _ _ upd_same
    have hH' : H' p = some (.frz od v) := x.h.n _ _ upd_same (fun _ z => nomatch z)
    have ha : a ≠ p := fun z => by rw [z, hF'] at g1; cases g1
    refine ⟨hH', k a o (upd F' p v) (upd H' p v) (Ext.sw dk h2 (e1.sub.n h2 dk.nt) x) (by rw [upd_ne ha]; exact g1) ?_ (by rw [upd_ne ha]; exact g3) (g4.sw hF' dk.symm)⟩
    rw [upd_ne ha] at g2
    exact g2
  · exact h.pe.run pins s σ H Q I ⟨ρ, F, d, e1, ⟨p, o, v, h1, h2, h3⟩, hf, k⟩
theorem sx_lock (h : SXL X st j fs) (n : Needs j fs) : SX X st fs := by
  refine ⟨⟨fun pins s σ H D I hw => ?_⟩⟩
  obtain ⟨F0, H0, ρ, F, o, e1, hf, k⟩ := hw
  obtain ⟨b, kds, hd⟩ := n ρ o hf
  obtain ⟨p, v, h1, h2, h3, h4⟩ := dk_slot e1.env hd
  rcases h2 with h2 | ⟨ob, h2⟩
  · refine (ps_lock h.ps).run pins s σ H D I ?_
    have hHp := e1.env.sub.n h2 (by cases v <;> first | exact h3.elim | exact fun _ z => nomatch z)
    refine ⟨p, v, hHp, by cases v <;> first | exact h3.elim | trivial, fun od => ?_⟩
    have dk : DkLike v (.frz od v) := ⟨od, v, h3, .inl ⟨rfl, rfl⟩⟩
    obtain ⟨Hx, xb, eb⟩ := e1.rebase
    have kb := k.base xb
    have hHx : Hx p = some v := xb.le.n h2 dk.nt
    have e2 : EnvS X.K (upd F p (.frz od v)) (upd Hx p (.frz od v)) ρ σ (upd F p (.frz od v)) (upd H p (.frz od v)) :=
      ⟨eb.env.sw h2 dk, ⟨Sub.refl _, eb.ext.h.sw, eb.env.sub.sw (dk.wr hHp) dk.symm.nt, fun a _ h => h⟩, fun i d a g1 g2 => by
        have := eb.own i d a g1 g2
        rw [upd_ne (fun z => by rw [z, hHx] at this; cases this)]
        exact this⟩
    have un : ∀ {ρ' : Env} {σ' : L2.St} {F' H' : Hp}, EnvS X.K (upd F p (.frz od v)) (upd Hx p (.frz od v)) ρ' σ' F' H' → H' p = some (.frz od v) ∧ EnvS X.K F Hx ρ' σ' (upd F' p v) (upd H' p v) := fun {ρ' σ' F' H'} z => by
      have hF' : F' p = some (.frz od v) := z.ext.f _ _ upd_same
      refine ⟨z.ext.h.n _ _ upd_same (fun _ z => nomatch z), z.env.sw hF' dk.symm, Ext.sw dk h2 hHx z.ext, fun i d a g1 g2 => ?_⟩
      have := z.own i d a g1 g2
      have ha : a ≠ p := fun y => by rw [y, upd_same] at this; cases this
      rw [upd_ne ha] at this
      exact this
    refine ⟨_, _, ρ, _, o, e2, ⟨p, od, v, h1, upd_same, h3⟩, hf, ?_⟩
    cases o with
    | nx ρ' => exact fun σ' F' H' z => ⟨(un z).1, kb σ' _ _ (un z).2⟩
    | bk ρ' => exact fun σ' F' H' z => ⟨(un z).1, kb σ' _ _ (un z).2⟩
    | ct ρ' => exact fun σ' F' H' z => ⟨(un z).1, kb σ' _ _ (un z).2⟩
    | rt d =>
      intro y F' H' x r
      have hF' : F' p = some (.frz od v) := x.f _ _ upd_same
      exact ⟨x.h.n _ _ upd_same (fun _ z => nomatch z), kb y _ _ (Ext.sw dk h2 hHx x) (r.sw hF' dk.symm)⟩
    | rn d =>
      intro a ob F' H' x g1 g2 g3 g4
      have hF' : F' p = some (.frz od v) := x.f _ _ upd_same
      have ha : a ≠ p := fun z => by rw [z, hF'] at g1; cases g1
      refine ⟨x.h.n _ _ upd_same (fun _ z => nomatch z), kb a ob _ _ (Ext.sw dk h2 hHx x) (by rw [upd_ne ha]; exact g1) ?_ (by rw [upd_ne ha]; exact g3) (g4.sw hF' dk.symm)⟩
      rw [upd_ne ha] at g2
      exact g2
  · exact h.ps.run pins s σ H D I ⟨F0, H0, ρ, F, o, e1, ⟨p, ob, v, h1, h2, h3⟩, hf, k⟩
end
/-! ### keys, values, items of the dict in slot j -/
def iKeysJ (j : Nat) : DenI := fun ρ => (dkSlot j false ρ).map fun kds => kds.map (·.1)
def iKeysT (j : Nat) : DenI := fun ρ => (dkSlot j true ρ).map fun kds => kds.map (·.1)
def iValsJ (j : Nat) : DenI := fun ρ => (dkSlot j false ρ).map fun kds => kds.map (·.2)
def iItemsJ (j : Nat) : DenI := fun ρ => (dkSlot j false ρ).map itL
theorem needs_I {j : Nat} {b : Bool} {h : List (D × D) → List D} : Needs j (fun ρ => (dkSlot j b ρ).map h) := fun ρ d e => by
  rw [Option.map_eq_some_iff] at e
  obtain ⟨kds, h1, _⟩ := e
  exact ⟨b, kds, h1⟩
theorem needs_lc {j : Nat} {fi : DenI} {g : DenG} {ft : DenB} {fe : Den} {vs : List Nat} (n : Needs j fi) : Needs j (dLc fi g ft fe vs) := fun ρ d e => by
  simp only [dLc, Option.bind_eq_some_iff] at e
  obtain ⟨ds, h1, _⟩ := e
  exact n ρ ds h1
theorem needs_for {j : Nat} {fi : DenI} {g : DenG} {fb : DenS} (n : Needs j fi) : Needs j (sFor fi g fb) := fun ρ d e => by
  simp only [sFor, Option.bind_eq_some_iff] at e
  obtain ⟨ds, h1, _⟩ := e
  exact n ρ ds h1
theorem needs_bind {j : Nat} {α β : Type} {f : Env → Option α} {h : Env → α → Option β} (n : Needs j f) : Needs j (fun ρ => (f ρ).bind (h ρ)) := fun ρ d e => by
  simp only [Option.bind_eq_some_iff] at e
  obtain ⟨x, h1, _⟩ := e
  exact n ρ x h1
theorem lk_at {K : PySem.W.Frag} {ρ : Env} {σ : L2.St} {F H : Hp} {j : Nat} {kds : List (D × D)} (e : EnvOk K ρ σ F H) (l : Lk j σ F) (h : dkSlot j false ρ = some kds) : ∃ p o kvs, σ[j]? = some (some (.ref p)) ∧ F p = some (.frz o (.dK kvs)) ∧ RpK K F kds kvs := by
  obtain ⟨p, v, h1, h2, h3, h4⟩ := dk_slot e h
  obtain ⟨p', o, v', g1, g2, g3⟩ := l
  rw [h1] at g1
  cases g1
  have hn : notMk kds = true := by
    unfold dkSlot at h
    split at h
    · simp only [Bool.false_eq_true, if_false] at h
      split at h
      · cases h; assumption
      · cases h
    · cases h
  obtain ⟨a, kvs, ea, h5, h6⟩ := (RpB.of (H := F) h4).dictK' (Gr.refl F) hn
  cases ea
  have : Rd F p (.dK kvs) := h5
  rcases h5 with h5 | ⟨o', h5⟩
  · rw [g2] at h5; cases h5
  · rw [g2] at h5
    cases h5
    exact ⟨p, _, kvs, h1, g2, h6⟩
theorem RpK.keys {K : PySem.W.Frag} {F : Hp} : ∀ {kds : List (D × D)} {kvs : List (Key × V)}, RpK K F kds kvs → ∀ (i : Nat) d, (kds.map (·.1))[i]? = some d → ∃ k v, kvs[i]? = some (k, v) ∧ d = keyD k
  | _, _, h, i, d, e => by
    rw [List.getElem?_map, Option.map_eq_some_iff] at e
    obtain ⟨q, h1, rfl⟩ := e
    obtain ⟨y, h2, h3, _⟩ := h.at_ h1
    exact ⟨y.1, y.2, h2, h3⟩
section
variable {X : Cx} {tg : Expr} {p apos cpos : Pos} {x : Str} {j : Nat}
theorem mkLk {e : Expr} {fi : DenI} {t : TI} (h : PI X tg e t) (i : ∀ σ H R ρ F d, EnvOk X.K ρ σ F H → Lk j σ F → fi ρ = some d → (∀ J F' H', Ext F H F' H' → Walks X.K J F' d → R J H') → t σ H R) : EIL X tg e j fi :=
  ⟨PI.imp h fun σ H Q ⟨ρ, F, d, e1, l, e2, k⟩ => i σ H Q ρ F d e1 l e2 k⟩
theorem eil_keys (hN : X.N[j]? = some x) (hv : visB X.env.scope x = true) (hd : (x == ("__debug__" : Str)) = false) (hcd : (x == ("__classdict__" : Str)) = false) : EIL X tg (.Name x p) j (iKeysJ j) :=
  mkLk (pi_keys (pe_var hN (vis_of hv) hd hcd)) fun σ H R ρ F ds e l h k => by
    unfold iKeysJ at h
    rw [Option.map_eq_some_iff] at h
    obtain ⟨kds, h1, rfl⟩ := h
    obtain ⟨q, o, kvs, h2, h3, h4⟩ := lk_at e l h1
    refine ⟨.ref q, h2, q, o, rfl, .inl ⟨kvs, e.sub.n h3 (fun _ z => nomatch z), k _ F H (.refl e.sub) fun i F1 H1 s1 s2 => ?_⟩⟩
    have hq : H1 q = some (.frz o (.dK kvs)) := Le.n s2 (s1 _ _ h3) (fun _ z => nomatch z)
    refine ⟨fun d hd => ?_, fun hi => ⟨hq, by rw [h4.length]; simpa using hi⟩⟩
    obtain ⟨kk, v, h5, rfl⟩ := h4.keys i d hd
    refine ⟨⟨hq, (List.getElem?_eq_some_iff.mp h5).1⟩, fun x H' hy => ?_⟩
    obtain ⟨rfl, k', v', h6, rfl⟩ := hy
    rw [h5] at h6
    cases h6
    exact ⟨F1, .refl s2, keyD_rp _⟩
theorem eil_vals (hN : X.N[j]? = some x) (hv : visB X.env.scope x = true) (hd : (x == ("__debug__" : Str)) = false) (hcd : (x == ("__classdict__" : Str)) = false) (hbase : attributeBase (.Name x p) "values" X.env (eval (.Name x p) X.env) = eval (.Name x p) X.env) (hline : (apos.endLine == cpos.line) = true) :
    EIL X tg (.Call (.Attribute (.Name x p) "values" apos) [] [] cpos) j (iValsJ j) :=
  mkLk (pi_values (pe_var hN (vis_of hv) hd hcd) hbase hline) fun σ H R ρ F ds e l h k => by
    unfold iValsJ at h
    rw [Option.map_eq_some_iff] at h
    obtain ⟨kds, h1, rfl⟩ := h
    obtain ⟨q, o, kvs, h2, h3, h4⟩ := lk_at e l h1
    refine ⟨.ref q, h2, q, o, kvs, rfl, e.sub.n h3 (fun _ z => nomatch z), k _ F H (.refl e.sub) fun i F1 H1 s1 s2 => ?_⟩
    have hq : H1 q = some (.frz o (.dK kvs)) := Le.n s2 (s1 _ _ h3) (fun _ z => nomatch z)
    refine ⟨fun d hd => ?_, fun hi => ⟨hq, by rw [h4.length]; simpa using hi⟩⟩
    rw [List.getElem?_map, Option.map_eq_some_iff] at hd
    obtain ⟨y, h5, rfl⟩ := hd
    obtain ⟨z, h6, h7, h8⟩ := h4.at_ h5
    refine ⟨⟨hq, (List.getElem?_eq_some_iff.mp h6).1⟩, fun x H' hy => ?_⟩
    obtain ⟨rfl, k', h9⟩ := hy
    rw [h6] at h9
    cases h9
    exact ⟨F1, .refl s2, h8.mono s1⟩
theorem eil_items {elts : List Expr} {kk : Nat} {tpos : Pos} (hN : X.N[j]? = some x) (hv : visB X.env.scope x = true) (hd : (x == ("__debug__" : Str)) = false) (hcd : (x == ("__classdict__" : Str)) = false) (hbase : attributeBase (.Name x p) "items" X.env (eval (.Name x p) X.env) = eval (.Name x p) X.env) (hline : (apos.endLine == cpos.line) = true) :
    EIL X (.Tuple elts kk tpos) (.Call (.Attribute (.Name x p) "items" apos) [] [] cpos) j (iItemsJ j) :=
  mkLk (pi_items (pe_var hN (vis_of hv) hd hcd) hbase hline) fun σ H R ρ F ds e l h k => by
    unfold iItemsJ at h
    rw [Option.map_eq_some_iff] at h
    obtain ⟨kds, h1, rfl⟩ := h
    obtain ⟨q, o, kvs, h2, h3, h4⟩ := lk_at e l h1
    refine ⟨.ref q, h2, q, o, kvs, rfl, e.sub.n h3 (fun _ z => nomatch z), k _ F H (.refl e.sub) fun i F1 H1 s1 s2 => ?_⟩
    have hq : H1 q = some (.frz o (.dK kvs)) := Le.n s2 (s1 _ _ h3) (fun _ z => nomatch z)
    refine ⟨fun d hd => ?_, fun hi => ⟨hq, by rw [h4.length]; simpa [itL] using hi⟩⟩
    unfold itL at hd
    rw [List.getElem?_map, Option.map_eq_some_iff] at hd
    obtain ⟨y, h5, rfl⟩ := hd
    obtain ⟨z, h6, h7, h8⟩ := h4.at_ h5
    refine ⟨⟨hq, (List.getElem?_eq_some_iff.mp h6).1⟩, fun x H' hy => ?_⟩
    obtain ⟨T, k', v', h9, rfl, hT, rfl⟩ := hy
    rw [h6] at h9
    cases h9
    have sN : Sub F1 (upd F1 T (.tup [kV k', v'])) := Sub.new (s2.free hT)
    exact ⟨_, .add s2 hT, .tup upd_same (.cons (by rw [h7]; exact keyD_rp _) (.cons ((h8.mono s1).mono sN) .nil))⟩
end
/-! ### statements and comprehensions over them -/
section
variable {X : Cx} {elt tg iter kx vx : Expr} {ifs : List Expr} {scope : Scope} {own : List (Str × Nat)} {pos spos : Pos} {ws : List Nat} {fi : DenI} {g : DenG} {ft : DenB} {fe fk fv : Den} {j : Nat} {fb : DenS} {body : List Stmt}
theorem sxl_for (hp : PassesOwn (model X.prog X.w) X.A X.env X.xe) (hc : X.calm = true) (hi : EIL X tg iter j fi) (hg : EG X tg ws g) (hb : SXs X body fb) (hs : ∀ x, foldedSetIterable iter X.env x = pure x) : SXL X (.For tg iter body [] pos) j (sFor fi g fb) :=
  ⟨PS.imp (ps_for hp hc hi.pi hg.pg hb.pss hs) fun D σ H ⟨F0, H0, ρ, F, o, e, l, h, k⟩ => for_t (e.env.wiL l) e h k⟩
theorem enl_lc (hc : X.calm = true) (hN : X.N.Nodup) (hi : EIL X tg iter j fi) (ok : BlkOk X.N X.env.scope scope own)
    (hg : InBlk X scope fun Y => EG Y tg ws g) (ht : InBlk X scope fun Y => ETs Y ifs ft) (he : InBlk X scope fun Y => EX Y elt fe) (hs : ∀ x, foldedSetIterable iter X.env x = pure x) (hw : ∀ j ∈ ws, j ∈ own.map (·.2)) :
    ENL X (.ListComp elt [⟨tg, iter, ifs, 0⟩] scope pos) j (dLc fi g ft fe (own.map (·.2))) :=
  ⟨PE.imp (pe_lc (te := tX X.K fe) (tt := tTst X.K ft) (g := tGt X.K ws g) hc hN hi.pi ok (fun s H C cl fp => (hg s H C cl fp).pg) (fun s H C cl fp => (ht s H C cl fp).pts) (fun s H C cl fp => (he s H C cl fp).pe) hs) fun σ H Q ⟨ρ, F, d, e, l, h, k⟩ => lc_t (e.wiL l) hw e h k⟩
theorem sxl_setLc (i : Nat) (b : Bool) {y : Str} {py : Pos} (hc : X.calm = true) (hN : X.N.Nodup) (hy : X.N[i]? = some y) (hyl : X.env.scope.names.lookup y = some .local)
    (hsw : swapsWith (.ListComp elt [⟨tg, iter, ifs, 0⟩] scope pos) (some (.Name y py)) spos.line X.env = pure true) (hi : EIL X tg iter j fi) (ok : BlkOk X.N X.env.scope scope own)
    (hg : InBlk X scope fun Y => EG Y tg ws g) (ht : InBlk X scope fun Y => ETs Y ifs ft) (he : InBlk X scope fun Y => EX Y elt fe) (hs : ∀ x, foldedSetIterable iter X.env x = pure x) (hw : ∀ j ∈ ws, j ∈ own.map (·.2)) :
    SXL X (.Assign [.Name y py] (.ListComp elt [⟨tg, iter, ifs, 0⟩] scope pos) spos) j (sLcSet i b (dLc fi g ft fe (own.map (·.2)))) :=
  ⟨PS.imp (ps_setLc (te := tX X.K fe) (tt := tTst X.K ft) (g := tGt X.K ws g) hc hN hy hyl hsw hi.pi ok (fun s H C cl fp => (hg s H C cl fp).pg) (fun s H C cl fp => (ht s H C cl fp).pts) (fun s H C cl fp => (he s H C cl fp).pe) hs) fun D σ H ⟨F0, H0, ρ, F, o, e, l, h, k⟩ => by
    simp only [sLcSet, Option.bind_eq_some_iff, Option.some.injEq] at h
    obtain ⟨d, h1, rfl⟩ := h
    refine lc_t (Q := fun x H1 => gName i x σ H1 D.nx) (e.env.wiL l) hw e.env h1 fun a ob F' H' x h2 h3 h4 h5 => ?_
    cases b with
    | true => exact k _ F' H' (e.setOwn x h3 h2 h4 h5)
    | false =>
      obtain ⟨F2, x2, r2⟩ := frzNew x h2 h3 h4 h5
      exact k _ F2 H' ((e.to x2).set r2)⟩
/-! ### dict comprehensions -/
def dcL (g : DenG) (ft : DenB) (fk fv : Den) (ρ : Env) : List D → List (D × D) → Option (List (D × D))
  | [], acc => some acc
  | d :: ds, acc => (g d ρ).bind fun ρ1 => (ft ρ1).bind fun b => if b then (fk ρ1).bind fun x => (keyOf x).bind fun _ => (fv ρ1).bind fun y => dcL g ft fk fv ρ ds (dPut acc x y) else dcL g ft fk fv ρ ds acc
def dDc (fi : DenI) (g : DenG) (ft : DenB) (fk fv : Den) (vs : List Nat) : Den := fun ρ => (fi ρ).bind fun ds => if ds.length ≤ 1000000 then (dcL g ft fk fv (wipeE ρ vs) ds []).bind fun out => some (.dict out) else none
theorem dPut_len (kds : List (D × D)) (k v : D) : (dPut kds k v).length ≤ kds.length + 1 := by
  unfold dPut
  split
  · rw [List.length_map]; omega
  · rw [List.length_append]; exact Nat.le_refl _
theorem dc_t {K : PySem.W.Frag} {wi : TI} {vs : List Nat} {Q : VK} {d : D} {ρ : Env} {σ : L2.St} {F H : Hp} (hwi : WiOk K wi fi ρ σ F H) (hw : ∀ j ∈ ws, j ∈ vs) (e : EnvOk K ρ σ F H) (h : dDc fi g ft fk fv vs ρ = some d)
    (k : ∀ a o F' H', Ext F H F' H' → F' a = none → H a = none → H' a = some o → OwnRep K F' d o → Q (.ref a) H') :
    tDc wi (tGt K ws g) (tTst K ft) (tX K fk) (tX K fv) vs σ H Q := by
  simp only [dDc, Option.bind_eq_some_iff] at h
  obtain ⟨ds, h1, h2⟩ := h
  split at h2
  · rename_i hsz
    rw [Option.bind_eq_some_iff] at h2
    obtain ⟨out, h2, h3⟩ := h2
    cases h3
    refine hwi ds _ h1 fun J F1 H1 x1 w q hq => ?_
    have e1 := (e.ext x1).wipe vs
    have hF1 : F1 q = none := x1.le.free hq
    have hne := e1.ne_new hq
    refine ⟨fun i m H' => i ≤ ds.length ∧ m = ds.length - i ∧ ∃ F' acc accD, EnvOk K (wipeE ρ vs) (wipe σ vs) F' H' ∧ Ext F1 H1 F' H' ∧ F' q = none ∧ H' q = some (.dK acc) ∧ RpK K F' accD acc ∧ acc.length ≤ i ∧
      dcL g ft fk fv (wipeE ρ vs) (ds.drop i) accD = some out,
      ⟨_, Nat.zero_le _, rfl, F1, [], [], e1.upd hF1 hne, .mut (.refl x1.le) hq hF1, hF1, upd_same, .nil, Nat.zero_le _, by rw [List.drop_zero]; exact h2⟩, ?_⟩
    rintro i m H' ⟨hle, rfl, F', acc, accD, e', x', hF', hq', rl, hla, hr⟩
    obtain ⟨w1, w2⟩ := w i F' H' x'.f x'.le
    by_cases hi : i < ds.length
    · have hd : ds.drop i = ds[i] :: ds.drop (i + 1) := List.drop_eq_getElem_cons hi
      rw [hd] at hr
      simp only [dcL, Option.bind_eq_some_iff] at hr
      obtain ⟨ρ1, g1, b, g2, g3⟩ := hr
      obtain ⟨w3, w4⟩ := w1 ds[i] (List.getElem?_eq_getElem hi)
      refine .inr ⟨w3, fun H' => ∃ F' acc accD, EnvOk K (wipeE ρ vs) (wipe σ vs) F' H' ∧ Ext F1 H1 F' H' ∧ F' q = none ∧ H' q = some (.dK acc) ∧ RpK K F' accD acc ∧ acc.length ≤ i + 1 ∧
        dcL g ft fk fv (wipeE ρ vs) (ds.drop (i + 1)) accD = some out, fun H2 hN => ⟨_, by omega, hi, rfl, hN⟩, fun x H2 hy => ?_⟩
      obtain ⟨F2, x2, r2⟩ := w4 x H2 hy
      refine ⟨_, F2, ds[i], ρ1, e'.ext x2, r2, g1, fun σ3 e3 sb o3 => ⟨?_, ?_⟩⟩
      · refine wipe_twice σ σ3 _ (by rw [sb.len, wipe_length]) fun j hj => sb.at_ j fun z => hj (hw j z)
      refine ⟨ρ1, F2, b, e3, g2, fun F3 H3 x3 => ?_⟩
      have x23 := x2.trans x3
      cases b with
      | false =>
        exact ⟨F3, acc, accD, e'.ext x23, x'.trans x23, x23.new q (by rw [hq']; exact fun z => nomatch z) hF', x23.h.n _ _ hq' (fun _ z => nomatch z), rl.mono x23.f, by omega, g3⟩
      | true =>
        simp only [if_true, Option.bind_eq_some_iff] at g3
        obtain ⟨y, g4, kk, g5, z, g6, g7⟩ := g3
        have ey := keyOf_eq g5
        subst ey
        refine ⟨ρ1, F3, _, e3.ext x3, g4, fun vk F4 H4 x4 r4 => ?_⟩
        have ek : vk = kV kk := by
          cases kk with
          | inl i => cases r4; rfl
          | inr i => cases r4; rfl
        subst ek
        refine ⟨ρ1, F4, z, (e3.ext x3).ext x4, g6, fun v F5 H5 x5 r5 => ?_⟩
        have x25 := (x23.trans x4).trans x5
        have hF5 : F5 q = none := x25.new q (by rw [hq']; exact fun z => nomatch z) hF'
        have hH5 : H5 q = some (.dK acc) := x25.h.n _ _ hq' (fun _ z => nomatch z)
        refine ⟨acc, kk, rfl, hH5, line_lt (by omega), F5, putK acc kk v, dPut accD (keyD kk) z, (e'.ext x25).upd hF5 hne, .mut (x'.trans x25) hq hF5, hF5, upd_same, (rl.mono x25.f).put kk r5, ?_, g7⟩
        have h1 := dPut_len accD (keyD kk) z
        have h2 := ((rl.mono x25.f).put kk r5).length
        have h3 := rl.length
        omega
    · have hd : ds.drop i = [] := List.drop_eq_nil_of_le (by omega)
      rw [hd] at hr
      cases hr
      exact .inl ⟨w2 (by omega), k q _ F' H' (x1.trans x') hF' (x1.h.free hq) hq' (.dK rl)⟩
  · cases h2
theorem needs_dc {vs : List Nat} (n : Needs j fi) : Needs j (dDc fi g ft fk fv vs) := fun ρ d e => by
  simp only [dDc, Option.bind_eq_some_iff] at e
  obtain ⟨ds, h1, _⟩ := e
  exact n ρ ds h1
/-- y = {k: v for ..} on one line -/
theorem ps_setDc' {i : Nat} {y : Str} {py : Pos} {wi : TI} {g : TG} {tt : TT} {tk tv : TE} (hc : X.calm = true) (hN : X.N.Nodup) (hy : X.N[i]? = some y) (hyl : X.env.scope.names.lookup y = some .local)
    (hsw : swapsWith (.DictComp kx vx [⟨tg, iter, ifs, 0⟩] scope pos) (some (.Name y py)) spos.line X.env = pure true) (hi : PI X tg iter wi) (ok : BlkOk X.N X.env.scope scope own)
    (hg : InBlk X scope fun Y => PG Y tg g) (ht : InBlk X scope fun Y => PTs Y ifs tt) (hk : InBlk X scope fun Y => PE Y kx tk) (he : InBlk X scope fun Y => PE Y vx tv) (hs : ∀ x, foldedSetIterable iter X.env x = pure x) :
    PS X (.Assign [.Name y py] (.DictComp kx vx [⟨tg, iter, ifs, 0⟩] scope pos) spos) (tAsg (tDc wi g tt tk tv (own.map (·.2))) (gName i)) := by
  refine ⟨fun pins s σ H D I hD => ?_⟩
  rw [exec_Assign_Name_used _ _ _ _ hsw]
  refine wpAny_bind (wpAny_standAt (wpAny_bind ?_))
  show wpAny _ X.A (do let _ ← comprehension (.DictComp kx vx [⟨tg, iter, ifs, 0⟩] scope pos) scope X.env (firstIterPos [⟨tg, iter, ifs, 0⟩] pos) newDict false (eval iter X.env) (some (assign (.Name y py) X.env))) _ _ s
  have hD' : tDc wi g tt tk tv (own.map (·.2)) σ H (fun x H1 => gName i x σ H1 D.nx) := hD
  refine wpAny_bind (thn (dc_core (Qf := fun _ s' => SP X pins D .next s') hc hN I hi ok hg ht hk he hs hD' fun dd C s' m H' I' q hn fo => ?_) fun _ s' hq => wpAny_pure (wpAny_pure hq))
  show wpAny _ _ (assign (.Name y py) X.env (.ref dd)) _ _ _
  refine wpAny_assign_Name (store_ok2 (v := V.ref dd) I' hN hy (.inl hyl) rfl (fun s2 I2 ⟨a, sb, ha⟩ => ?_) (.inr hyl))
  obtain ⟨z0, z1, z2, z3, z4, z5⟩ := fo
  have hne : C ≠ a := ha.elim (fun z => by rw [z]; exact z1) fun z e => z4 y a z e.symm
  exact ⟨m, hn.sameBut sb hne, fun h3 sb3 => ⟨_, H', I2.turned (t' := s2.toks) (fun b o hb e => (sb3.2 b hb).trans e) z0 z1 z3 z4 z5, q⟩⟩
section
variable {hcx : X.calm = true}
theorem en_dc (hc : X.calm = true) (hN : X.N.Nodup) (hi : EI X tg iter fi) (ok : BlkOk X.N X.env.scope scope own)
    (hg : InBlk X scope fun Y => EG Y tg ws g) (ht : InBlk X scope fun Y => ETs Y ifs ft) (hk : InBlk X scope fun Y => EX Y kx fk) (he : InBlk X scope fun Y => EX Y vx fe) (hs : ∀ x, foldedSetIterable iter X.env x = pure x) (hw : ∀ j ∈ ws, j ∈ own.map (·.2)) :
    EN X (.DictComp kx vx [⟨tg, iter, ifs, 0⟩] scope pos) (dDc fi g ft fk fe (own.map (·.2))) :=
  mkN (pe_dc (tk := tX X.K fk) (tv := tX X.K fe) (tt := tTst X.K ft) (g := tGt X.K ws g) hc hN hi.pi ok (fun s H C cl fp => (hg s H C cl fp).pg) (fun s H C cl fp => (ht s H C cl fp).pts) (fun s H C cl fp => (hk s H C cl fp).pe) (fun s H C cl fp => (he s H C cl fp).pe) hs) fun σ H Q ρ F d e h k => dc_t e.wiOk hw e h k
theorem enl_dc (hc : X.calm = true) (hN : X.N.Nodup) (hi : EIL X tg iter j fi) (ok : BlkOk X.N X.env.scope scope own)
    (hg : InBlk X scope fun Y => EG Y tg ws g) (ht : InBlk X scope fun Y => ETs Y ifs ft) (hk : InBlk X scope fun Y => EX Y kx fk) (he : InBlk X scope fun Y => EX Y vx fe) (hs : ∀ x, foldedSetIterable iter X.env x = pure x) (hw : ∀ j ∈ ws, j ∈ own.map (·.2)) :
    ENL X (.DictComp kx vx [⟨tg, iter, ifs, 0⟩] scope pos) j (dDc fi g ft fk fe (own.map (·.2))) :=
  ⟨PE.imp (pe_dc (tk := tX X.K fk) (tv := tX X.K fe) (tt := tTst X.K ft) (g := tGt X.K ws g) hc hN hi.pi ok (fun s H C cl fp => (hg s H C cl fp).pg) (fun s H C cl fp => (ht s H C cl fp).pts) (fun s H C cl fp => (hk s H C cl fp).pe) (fun s H C cl fp => (he s H C cl fp).pe) hs) fun σ H Q ⟨ρ, F, d, e, l, h, k⟩ => dc_t (e.wiL l) hw e h k⟩
theorem setDc_end {K : PySem.W.Frag} {i : Nat} {b : Bool} {DD : Ends} {σ : L2.St} {H F0 H0 F : Hp} {ρ : Env} {d : D} (e : EnvS K F0 H0 ρ σ F H) (k : Post K F0 H0 DD (.nx (setNew i b d ρ))) {a : Addr} {ob : HO} {F' H' : Hp} (x : Ext F H F' H') (h2 : F' a = none) (h3 : H a = none) (h4 : H' a = some ob) (h5 : OwnRep K F' d ob) : gName i (.ref a) σ H' DD.nx := by
  cases b with
  | true => exact k _ F' H' (e.setOwn x h3 h2 h4 h5)
  | false =>
    obtain ⟨F2, x2, r2⟩ := frzNew x h2 h3 h4 h5
    exact k _ F2 H' ((e.to x2).set r2)
theorem sx_setDc (i : Nat) (b : Bool) {y : Str} {py : Pos} (hc : X.calm = true) (hN : X.N.Nodup) (hy : X.N[i]? = some y) (hyl : X.env.scope.names.lookup y = some .local)
    (hsw : swapsWith (.DictComp kx vx [⟨tg, iter, ifs, 0⟩] scope pos) (some (.Name y py)) spos.line X.env = pure true) (hi : EI X tg iter fi) (ok : BlkOk X.N X.env.scope scope own)
    (hg : InBlk X scope fun Y => EG Y tg ws g) (ht : InBlk X scope fun Y => ETs Y ifs ft) (hk : InBlk X scope fun Y => EX Y kx fk) (he : InBlk X scope fun Y => EX Y vx fe) (hs : ∀ x, foldedSetIterable iter X.env x = pure x) (hw : ∀ j ∈ ws, j ∈ own.map (·.2)) :
    SX X (.Assign [.Name y py] (.DictComp kx vx [⟨tg, iter, ifs, 0⟩] scope pos) spos) (sLcSet i b (dDc fi g ft fk fe (own.map (·.2)))) :=
  sx_mk (ps_setDc' (tk := tX X.K fk) (tv := tX X.K fe) (tt := tTst X.K ft) (g := tGt X.K ws g) hc hN hy hyl hsw hi.pi ok (fun s H C cl fp => (hg s H C cl fp).pg) (fun s H C cl fp => (ht s H C cl fp).pts) (fun s H C cl fp => (hk s H C cl fp).pe) (fun s H C cl fp => (he s H C cl fp).pe) hs) fun D σ H F0 H0 ρ F o e h k => by
    simp only [sLcSet, Option.bind_eq_some_iff, Option.some.injEq] at h
    obtain ⟨d, h1, rfl⟩ := h
    exact dc_t (Q := fun x H1 => gName i x σ H1 D.nx) e.env.wiOk hw e.env h1 fun a ob F' H' x h2 h3 h4 h5 => setDc_end e k x h2 h3 h4 h5
theorem sxl_setDc (i : Nat) (b : Bool) {y : Str} {py : Pos} (hc : X.calm = true) (hN : X.N.Nodup) (hy : X.N[i]? = some y) (hyl : X.env.scope.names.lookup y = some .local)
    (hsw : swapsWith (.DictComp kx vx [⟨tg, iter, ifs, 0⟩] scope pos) (some (.Name y py)) spos.line X.env = pure true) (hi : EIL X tg iter j fi) (ok : BlkOk X.N X.env.scope scope own)
    (hg : InBlk X scope fun Y => EG Y tg ws g) (ht : InBlk X scope fun Y => ETs Y ifs ft) (hk : InBlk X scope fun Y => EX Y kx fk) (he : InBlk X scope fun Y => EX Y vx fe) (hs : ∀ x, foldedSetIterable iter X.env x = pure x) (hw : ∀ j ∈ ws, j ∈ own.map (·.2)) :
    SXL X (.Assign [.Name y py] (.DictComp kx vx [⟨tg, iter, ifs, 0⟩] scope pos) spos) j (sLcSet i b (dDc fi g ft fk fe (own.map (·.2)))) :=
  ⟨PS.imp (ps_setDc' (tk := tX X.K fk) (tv := tX X.K fe) (tt := tTst X.K ft) (g := tGt X.K ws g) hc hN hy hyl hsw hi.pi ok (fun s H C cl fp => (hg s H C cl fp).pg) (fun s H C cl fp => (ht s H C cl fp).pts) (fun s H C cl fp => (hk s H C cl fp).pe) (fun s H C cl fp => (he s H C cl fp).pe) hs) fun D σ H ⟨F0, H0, ρ, F, o, e, l, h, k⟩ => by
    simp only [sLcSet, Option.bind_eq_some_iff, Option.some.injEq] at h
    obtain ⟨d, h1, rfl⟩ := h
    exact dc_t (Q := fun x H1 => gName i x σ H1 D.nx) (e.env.wiL l) hw e.env h1 fun a ob F' H' x h2 h3 h4 h5 => setDc_end e k x h2 h3 h4 h5⟩
theorem needs_set {i : Nat} {b : Bool} {f : Den} (n : Needs j f) : Needs j (sLcSet i b f) := fun ρ d e => by
  simp only [sLcSet, Option.bind_eq_some_iff] at e
  obtain ⟨x, h1, _⟩ := e
  exact n ρ x h1
end
/-- {k: v} -/
def dDisp1 (f g : Den) : Den := fun ρ => (f ρ).bind fun k => (keyOf k).bind fun _ => (g ρ).bind fun v => some (.dict [(k, v)])
theorem en_disp1 (hk : EX X kx fk) (hv : EX X vx fe) : EN X (.Dict [some kx] [vx] pos) (dDisp1 fk fe) :=
  mkN (pe_disp (pps_cons hk.pe hv.pe pps_nil) rfl rfl (fun z => nomatch z) (by simp)) fun σ H Q ρ F d e h k => by
    simp only [dDisp1, Option.bind_eq_some_iff, Option.some.injEq] at h
    obtain ⟨x, h1, kk, h2, y, h3, rfl⟩ := h
    have ey := keyOf_eq h2
    subst ey
    intro p hp
    have e1 := e.ext (.own (o := .dK []) e.sub hp)
    refine ⟨ρ, F, _, e1, h1, fun u F1 H1 x1 r1 => ⟨ρ, F1, y, e1.ext x1, h3, fun w F2 H2 x2 r2 => ?_⟩⟩
    have x12 := x1.trans x2
    have hFp : F p = none := e.sub.free hp
    have hH2 : H2 p = some (.dK []) := x12.h.n _ _ upd_same (fun _ z => nomatch z)
    have hF2 : F2 p = none := x12.new p (by rw [upd_same]; exact fun z => nomatch z) hFp
    have ek : u = kV kk := by
      cases kk with
      | inl i => cases r1; rfl
      | inr i => cases r1; rfl
    subst ek
    refine ⟨hH2, [(kk, w)], rfl, by simp, k p _ F2 _ ?_ hF2 hp upd_same (.dK (.cons r2 .nil))⟩
    have x0 : Ext F H F2 H2 := (Ext.own (o := .dK []) e.sub hp).trans x12
    exact .mut x0 hp hF2
end
end Zx
/-! Zx14: what the printed derivations use beside the rules. -/
namespace Zx
variable [Marked]
open PySem PySem.Spec L2
def vOk (sc : Scope) (x : Str) : Bool := visB sc x && (!(x == ("__debug__" : Str)) && !(x == ("__classdict__" : Str)))
theorem vOk_parts {sc : Scope} {x : Str} (h : vOk sc x = true) : visB sc x = true ∧ (x == ("__debug__" : Str)) = false ∧ (x == ("__classdict__" : Str)) = false := by
  unfold vOk at h
  simp only [Bool.and_eq_true, Bool.not_eq_true'] at h
  exact ⟨h.1, h.2.1, h.2.2⟩
theorem PE.or {X : Cx} {e : Expr} {t t' : TE} (h : PE X e t) (h' : PE X e t') : PE X e (fun σ H Q => t σ H Q ∨ t' σ H Q) := ⟨fun pins s σ H Q I hw => hw.elim (h.run pins s σ H Q I) (h'.run pins s σ H Q I)⟩
theorem PI.or {X : Cx} {tg e : Expr} {t t' : TI} (h : PI X tg e t) (h' : PI X tg e t') : PI X tg e (fun σ H Q => t σ H Q ∨ t' σ H Q) := ⟨fun pins s σ H Q I hw => hw.elim (h.run pins s σ H Q I) (h'.run pins s σ H Q I)⟩
def dCall (fl : DenL) (fn : List D → Option D) : Den := fun ρ => (fl ρ).bind fn
section
variable {X : Cx} {a b c e : Expr} {f g h : Den} {pos p : Pos} {fl : DenL} {x : Str} {es : List Expr} {k n : Nat} {fn : List D → Option D}
theorem vX (i : Nat) (hN : X.N[i]? = some x) (h : vOk X.env.scope x = true) : EX X (.Name x pos) (vR i) := let ⟨h2, h3, h4⟩ := vOk_parts h; ex_var i hN h2 h3 h4
theorem vE (i : Nat) (hN : X.N[i]? = some x) (h : vOk X.env.scope x = true) : EB X (.Name x pos) (vB i) := let ⟨h2, h3, h4⟩ := vOk_parts h; eb_var i hN h2 h3 h4
theorem cX (F : FX X.prog X.w X.K X.mg X.base k x n fn) (hr : Room k X.A) (hg : Gl X x) (hdb : (x == ("__debug__" : Str)) = false) (ha : EA X (a :: es) fl) (hn : (a :: es).length = n)
    (he : starEach (a :: es) X.env = (false, eval a X.env) :: starEach es X.env) (hpl : (backTo pos (starEach es X.env)).any (·.1) = false) (hl : ∀ ρ ds, fl ρ = some ds → ds.length = n) : EX X (.Call (.Name x p) (a :: es) [] pos) (dCall fl fn) := ex_call F hr hg hdb ha hn he hpl hl
/-- any list or tuple is walked -/
theorem ei_seq {tg : Expr} (ha : EX X a f) : EI X tg a (iSeq f) :=
  ⟨PI.imp (PI.or (ei_list (tg := tg) ha).pi (ei_tup (tg := tg) ha).pi) fun σ H R ⟨ρ, F, ds, e, h1, k⟩ => by
    unfold iSeq at h1
    rw [Option.bind_eq_some_iff] at h1
    obtain ⟨x, h2, h3⟩ := h1
    unfold seqOf at h3
    split at h3
    · cases h3
      exact .inl ⟨ρ, F, ds, e, by simp only [h2, Option.bind_some], k⟩
    · cases h3
      exact .inr ⟨ρ, F, ds, e, by simp only [h2, Option.bind_some], k⟩
    · cases h3⟩
/-- a test for which one's own list is frozen, but not longer -/
def bTmp (i : Nat) (fb : DenB) : DenB := fun ρ => fb (frz i ρ)
theorem et_tmp (i : Nat) {fb : DenB} (ht : ET X c fb) : ET X c (bTmp i fb) :=
  ⟨PT.imp ht.pt fun σ H Q ⟨ρ, F, b, e, h1, k⟩ => by
    have e0 : EnvS X.K F F ρ σ F H := ⟨e, ⟨.refl _, e.sub.g, e.sub, fun a h1 h2 => absurd h2 h1⟩, fun i d a g1 g2 => by
      obtain ⟨ov, h1, q, o, h2, h3, h4, h5⟩ := e.at_ i _ g1
      rw [g2] at h1
      cases h1
      cases h2
      exact h3⟩
    obtain ⟨F', e'⟩ := e0.frz i
    exact ⟨_, F', b, e'.env, h1, fun F2 H2 x => k F H2 ⟨.refl _, x.h, .mono (e'.ext.f.trans x.f) x.le, fun _ _ h => h⟩⟩⟩
end
def mulI : D → D → Option D | .int i, .int j => mulD (.int i) (.int j) | _, _ => none
def repD : D → D → Option D | .list xs, .int j => mulD (.list xs) (.int j) | _, _ => none
def catL : D → D → Option D | .list xs, .list ys => addD (.list xs) (.list ys) | _, _ => none
section
variable {X : Cx} {a b : Expr} {f g : Den} {pos : Pos}
theorem ex_mulI (ha : EB X a f) (hb : EB X b g) : EX X (.BinOp a .Mult b pos) (d2 mulI f g) := ex_mul ha hb
theorem en_repD (ha : EB X a f) (hb : EB X b g) : EN X (.BinOp a .Mult b pos) (d2 repD f g) := en_rep ha hb
theorem en_catL (ha : EB X a f) (hb : EB X b g) : EN X (.BinOp a .Add b pos) (d2 catL f g) := en_cat ha hb
end
theorem Room.u68 {k : Nat} {A : Around} (r : Room k A) : A.units + 68 < cLine := by have := r.un; omega
theorem gl_of {X : Cx} {x : Str} (h : X.env.kindOf x = some .globalImplicit) : Gl X x := h
/-- the i-th top statement -/
abbrev topOf (P : Program) (i : Nat) : Stmt := P.main.body.getD i (.Pass ⟨0, 0, 0, 0⟩)
end Zx
/-! Zx15: [::-1], sum(d.values()), dicts compared, dict([..]). -/
namespace Zx
variable [Marked]
open PySem PySem.Spec L2
section
variable {X : Cx} {a b e : Expr} {f g : Den} {p apos cpos pos : Pos}
theorem Room.u0 {k : Nat} {A : Around} (r : Room k A) : A.units < cLine := by have := r.un; omega
def revD : D → Option D | .list xs => some (.list xs.reverse) | _ => none
theorem en_rev {k : Nat} {p1 p2 p3 : Pos} (ha : EB X a f) : EN X (.Subscript a (.Slice none none (some (.UnaryOp .USub (.Constant (.int 1) k p1) p2)) p3) pos) (d1 revD f) :=
  mkN (pe_revL ha.pe) fun σ H Q ρ F d e h k => by
    simp only [d1, Option.bind_eq_some_iff] at h
    obtain ⟨x, h1, h2⟩ := h
    unfold revD at h2
    split at h2
    · cases h2
      refine ⟨ρ, F, _, e, h1, fun v F1 H1 x1 r1 => ?_⟩
      obtain ⟨q, xs, rfl, hq, rq⟩ := r1.list x1.le
      exact ⟨q, xs, rfl, .inl (.inl hq), fun w hw => k w _ F1 _ (x1.trans (.own x1.le hw)) (x1.le.free hw) (x1.h.free hw) upd_same (.lst rq.reverse)⟩
    · cases h2
/-! ### sum(d.values()) -/
theorem preSum_eq (is : List Int) : preSum (fun i => is.getD i 0) is.length = is.sum := by
  have h : ∀ (is : List Int) n, n ≤ is.length → preSum (fun i => is.getD i 0) n = (is.take n).sum := fun is n => by
    induction n with
    | zero => intro _; rfl
    | succ n ih =>
      intro hn
      have hlt : n < is.length := hn
      show preSum _ n + is.getD n 0 = _
      rw [ih (by omega), List.take_add_one, List.getElem?_eq_getElem hlt, List.sum_append, List.getD_eq_getElem?_getD, List.getElem?_eq_getElem hlt]
      simp
  rw [h is is.length (Nat.le_refl _), List.take_length]
def tSV (K : PySem.W.Frag) (te : TE) : TE := fun σ H Q => te σ H fun x H1 => ∃ (d : Addr) (kvs : List (Key × V)) (is : List Int), x = .ref d ∧ Rd H1 d (.dK kvs) ∧ kvs.map (·.2) = is.map V.int ∧ Q (.int is.sum) H1
theorem pe_sumVals {te : TE} (hc : X.calm = true) (he : PE X e te) (hg : Gl X "sum") (hm : X.mg "sum" = none) (hbase : attributeBase e "values" X.env (eval e X.env) = eval e X.env) (hline : (apos.endLine == cpos.line) = true)
    (hs : N1 X (.Call (.Attribute e "values" apos) [] [] cpos)) : PE X (.Call (.Name "sum" p) [.Call (.Attribute e "values" apos) [] [] cpos] [] pos) (tSV X.K te) := by
  refine ⟨fun pins s σ H Q I hq => ?_⟩
  refine wpAny_Call_Name_kw (ld_blt I hg hm rfl ?_ (by decide) (by decide))
  refine PyProof.Rows.callWith_builtin1 ?_ hs rfl
  have hs' : starEach [.Call (.Attribute e "values" apos) [] [] cpos] X.env = [(false, eval (.Call (.Attribute e "values" apos) [] [] cpos) X.env)] := hs
  rw [hs']
  show wpAny _ _ (spliced [(false, eval (.Call (.Attribute e "values" apos) [] [] cpos) X.env)]) _ _ s
  refine Calls.spliced_cons ?_
  refine wpAny_Call_method (T := "dict") (id := "dict.values") hbase rfl hline F.plainAttrs_dict F.slot_dict_values F.type_dict_values (thn (he.run pins s σ H _ I hq) fun u s1 ⟨x, H1, I1, rx, d, kvs, is, ex, hd, hi, q⟩ => ?_)
  subst ex
  obtain rfl : u = Value.ref d := rx
  obtain ⟨hz, hs0, vs, kv, hdo⟩ := dk_obj I1 hd
  obtain ⟨ep, hat⟩ := hdo.dictAt
  have lk : kvs.length = vs.length := Paired.length kv
  refine ⟨hdo.typeIs, hdo.mapOf.noDict, ?_⟩
  show wpAny _ _ (callWith cpos (.builtin "dict.values") [.ref d] [] []) _ X.xe s1
  refine method_meetsIn F.slot_dict_values F.entry_dict_values rfl (PySem.evalArgs_none ⟨rfl, hdo.typeIs, F.args_dict_values_1 _, _, meets_dict_values (mixKind X.prog X.w) d hs0, ⟨vs, hdo⟩, ?_⟩)
  refine Calls.spliced_nil ?_
  have hh : X.A.handled = none := I1.ok.hd hc
  have I2 : Inv X pins σ H1 { s1 with heap := s1.heap.push { cls := .type "dict_values", data := .fields #[.ref d] } } := I1.kept (t' := s1.toks) fun b ob q => Heap.get?_push_of_some _ q
  generalize hw2 : s1.heap.push { cls := .type "dict_values", data := .fields #[.ref d] } = g2 at I2
  have view : g2.IsValuesView s1.heap.objs.size d := by rw [← hw2]; exact ⟨_, Heap.get?_push_size _ rfl, rfl, rfl⟩
  have hat2 : g2.DictAt (mixKind X.prog X.w) d vs ep := by rw [← hw2]; exact hat.push _
  refine call_sum_walkAnyS ?_
  have KK := PySem.W.kdl_values (prog := X.prog) (w := X.w) (knd := mixKind X.prog X.w) (r := s1.heap.objs.size) (d := d) (kvs := vs) (ep := ep)
  obtain ⟨oI, St, hit, W, st⟩ := KK.iter X.A.in1 { s1 with heap := g2 } (by simpa using hh) ⟨view, hat2⟩
  refine hit _ _ ⟨g2.objs.size, _, _, _, vs.length, _, _, fun i => is.getD i 0, rfl, W.toS, st, fun b hb => ?_, fun i v hv => ?_, fun s' t' hm' => ?_⟩
  · rw [Heap.size_push]
    rcases List.mem_cons.mp hb with e1 | hb
    · rw [e1]; exact Nat.lt_succ_self _
    · rw [List.mem_singleton.mp hb]; exact Nat.lt_succ_of_lt hat2.lt_size
  · obtain ⟨k, hk⟩ := hv
    have hlt : i < vs.length := (List.getElem?_eq_some_iff.mp hk).1
    obtain ⟨qv, g1, g2', g3⟩ := LiI.paired_get kv (List.getElem?_eq_getElem (show i < kvs.length by omega))
    rw [hk] at g1
    cases g1
    have e3 : (kvs.map (·.2))[i]? = some (kvs[i]).2 := by rw [List.getElem?_map, List.getElem?_eq_getElem (show i < kvs.length by omega)]; rfl
    rw [hi, List.getElem?_map, Option.map_eq_some_iff] at e3
    obtain ⟨z, z1, z2⟩ := e3
    rw [← z2] at g3
    obtain ⟨t, rfl⟩ := g3
    exact ⟨t, by show Value.int z t = Value.int (is.getD i 0) t; rw [List.getD_eq_getElem?_getD, z1]; rfl⟩
  · have hk : ∀ b o, g2.get? b = some o → s'.heap.get? b = some o := fun b o e1 =>
      hm'.heap b o (fun hI => absurd (Heap.lt_size e1) (by rw [List.mem_singleton.mp hI]; exact Nat.lt_irrefl _)) (Heap.get?_push_of_some _ e1)
    have hl : vs.length = is.length := by
      have := congrArg List.length hi
      simp at this
      omega
    rw [Moved.eq_with hm', hl, preSum_eq]
    exact ⟨.int is.sum, H1, I2.kept (t' := s'.toks) hk, ⟨_, rfl⟩, q⟩
/-- the values of a dict, all ints -/
def sumVD : D → Option D
  | .dict kds => if notMk kds then (intsOf (kds.map (·.2))).bind fun is => some (.int is.sum) else none
  | _ => none
theorem RpK.vals {K : PySem.W.Frag} {F : Hp} : ∀ {kds : List (D × D)} {kvs : List (Key × V)}, RpK K F kds kvs → RpL K F (kds.map (·.2)) (kvs.map (·.2))
  | _, _, .nil => .nil
  | _, _, .cons r t => .cons r t.vals
theorem ex_sumVals (hc : X.calm = true) (he : EB X e f) (hg : Gl X "sum") (hm : X.mg "sum" = none) (hbase : attributeBase e "values" X.env (eval e X.env) = eval e X.env) (hline : (apos.endLine == cpos.line) = true)
    (hs : N1 X (.Call (.Attribute e "values" apos) [] [] cpos)) : EX X (.Call (.Name "sum" p) [.Call (.Attribute e "values" apos) [] [] cpos] [] pos) (d1 sumVD f) :=
  mkX (pe_sumVals hc he.pe hg hm hbase hline hs) fun σ H Q ρ F d e h k => by
    simp only [d1, Option.bind_eq_some_iff] at h
    obtain ⟨x, h1, h2⟩ := h
    unfold sumVD at h2
    split at h2
    · split at h2
      · rename_i kds hn
        simp only [Option.bind_eq_some_iff, Option.some.injEq] at h2
        obtain ⟨is, h2, rfl⟩ := h2
        refine ⟨ρ, F, _, e, h1, fun u F1 H1 x1 r1 => ?_⟩
        obtain ⟨q, kvs, rfl, rq, rk⟩ := r1.dictK x1.le hn
        have e1 := intsOf_eq h2
        have e2 := rk.vals
        rw [e1] at e2
        exact ⟨q, kvs, is, rfl, rq, e2.ints_inv, k _ F1 H1 x1 (.int _)⟩
      · cases h2
    · cases h2
/-! ### dicts of ints compared, where they are equal -/
def dsame (kds lds : List (D × D)) : Bool := decide (kds.length = lds.length) && kds.all fun p => match p.2, dGet lds p.1 with | .int i, some (.int j) => decide (i = j) | _, _ => false
def eqDD : D → D → Option Bool
  | .dict kds, .dict lds => if notMk kds && (notMk lds && dsame kds lds) then some true else none
  | _, _ => none
def neDD : D → D → Option Bool
  | .dict kds, .dict lds => if notMk kds && (notMk lds && dsame kds lds) then some false else none
  | _, _ => none
theorem dsame_ok {K : PySem.W.Frag} {F : Hp} {lds : List (D × D)} {ls : List (Key × V)} (rl : RpK K F lds ls) : ∀ {kds : List (D × D)} {ks : List (Key × V)}, RpK K F kds ks → (∀ p ∈ kds, (match p.2, dGet lds p.1 with | .int i, some (.int j) => decide (i = j) | _, _ => false) = true) → ∀ p ∈ ks, valV ls p.1 = some p.2 ∧ flatB p.2 = true
  | _, _, .nil, _, p, h => by cases h
  | _, _, .cons (k := k) (d := d) (v := v) r t, h, p, hp => by
    rcases List.mem_cons.mp hp with rfl | hp
    · have h1 := h _ List.mem_cons_self
      rcases rl.get k with ⟨g1, g2⟩ | ⟨w, d', g1, g2, g3⟩
      · simp only [g2] at h1
        cases h1
      · simp only [g2] at h1
        split at h1
        · rename_i i j e1 e2
          cases e2
          have := of_decide_eq_true h1
          subst this
          cases r
          cases g3
          exact ⟨g1, rfl⟩
        · cases h1
    · exact dsame_ok rl t (fun q hq => h q (List.mem_cons_of_mem _ hq)) p hp
theorem op_dictRd {op : CmpOp} {k : Bool} (hop : (op = .Eq ∧ k = true) ∨ (op = .NotEq ∧ k = false)) (hu : X.A.units < cLine) : OpR X (compareOp op) (fun x y H Q => ∃ (a b : Addr) (ks ls : List (Key × V)), x = .ref a ∧ y = .ref b ∧ Rd H a (.dK ks) ∧ Rd H b (.dK ls) ∧ ks.length = ls.length ∧ (∀ p ∈ ks, valV ls p.1 = some p.2 ∧ flatB p.2 = true) ∧ Q (.bl k) H) := by
  intro pins s σ H x y v u Q I rx ry hh
  obtain ⟨a, b, ks, ls, rfl, rfl, ea, eb, hlen, hp, q⟩ := hh
  cases rx
  cases ry
  obtain ⟨z1, ya, va, ra, da⟩ := dk_obj I ea
  obtain ⟨z2, yb, vb, rb, db⟩ := dk_obj I eb
  have hl : va.length = vb.length := ra.length.symm.trans (hlen.trans rb.length)
  rcases hop with ⟨rfl, rfl⟩ | ⟨rfl, rfl⟩
  · exact PySem.W.keq_eq (knd := mixKind X.prog X.w) (r := true) ya yb da db hu (fun _ => hits_all rb ra hp) (fin_bl I q (by rw [hl]; simp))
  · exact PySem.W.keq_ne (knd := mixKind X.prog X.w) (r := true) ya yb da db hu (fun _ => hits_all rb ra hp) (fin_bl I q (by rw [hl]; simp))
theorem dd_parts {x y : D} {k : Bool} {b : Bool} {o : D → D → Option Bool} (ho : o = eqDD ∧ k = true ∨ o = neDD ∧ k = false) (h : o x y = some b) : b = k ∧ ∃ kds lds, x = .dict kds ∧ y = .dict lds ∧ notMk kds = true ∧ notMk lds = true ∧ dsame kds lds = true := by
  rcases ho with ⟨rfl, rfl⟩ | ⟨rfl, rfl⟩
  · unfold eqDD at h
    split at h
    · split at h
      · rename_i kds lds hc
        cases h
        simp only [Bool.and_eq_true] at hc
        exact ⟨rfl, kds, lds, rfl, rfl, hc.1, hc.2.1, hc.2.2⟩
      · cases h
    · cases h
  · unfold neDD at h
    split at h
    · split at h
      · rename_i kds lds hc
        cases h
        simp only [Bool.and_eq_true] at hc
        exact ⟨rfl, kds, lds, rfl, rfl, hc.1, hc.2.1, hc.2.2⟩
      · cases h
    · cases h
theorem ec_dict {op : CmpOp} {k : Bool} {o : D → D → Option Bool} (hop : (op = .Eq ∧ k = true) ∨ (op = .NotEq ∧ k = false)) (ho : o = eqDD ∧ k = true ∨ o = neDD ∧ k = false) (hu : X.A.units < cLine) (ha : EB X a f) (hb : EB X b g) : EC X op a b (b2 o f g) :=
  ⟨PC.imp (pc_op (op_dictRd hop hu) ha.pe hb.pe) fun σ H Q ⟨ρ, F, c, e, h, k'⟩ => by
    simp only [b2, Option.bind_eq_some_iff] at h
    obtain ⟨x, h1, y, h2, h3⟩ := h
    refine ⟨ρ, F, x, e, h1, fun u F1 H1 x1 r1 => ⟨ρ, F1, y, e.ext x1, h2, fun w F2 H2 x2 r2 => ?_⟩⟩
    obtain ⟨rfl, kds, lds, rfl, rfl, n1, n2, hs⟩ := dd_parts ho h3
    obtain ⟨p1, ks, rfl, q1, rk⟩ := (r1.ext x2).dictK x2.le n1
    obtain ⟨p2, ls, rfl, q2, rl⟩ := r2.dictK x2.le n2
    unfold dsame at hs
    rw [Bool.and_eq_true, List.all_eq_true] at hs
    exact ⟨p1, p2, ks, ls, rfl, rfl, q1, q2, by rw [rk.length, rl.length]; exact of_decide_eq_true hs.1, dsame_ok rl rk hs.2, k' F2 H2 (x1.trans x2)⟩⟩
theorem ec_eqDD (hu : X.A.units < cLine) (ha : EB X a f) (hb : EB X b g) : EC X .Eq a b (b2 eqDD f g) := ec_dict (.inl ⟨rfl, rfl⟩) (.inl ⟨rfl, rfl⟩) hu ha hb
theorem ec_neDD (hu : X.A.units < cLine) (ha : EB X a f) (hb : EB X b g) : EC X .NotEq a b (b2 neDD f g) := ec_dict (.inr ⟨rfl, rfl⟩) (.inr ⟨rfl, rfl⟩) hu ha hb
/-! ### dict([(k, v), ..]) -/
def dOf : List D → List (D × D) → Option (List (D × D))
  | [], acc => some acc
  | .tuple [k, v] :: r, acc => (keyOf k).bind fun _ => dOf r (dPut acc k v)
  | _, _ => none
def dictD : D → Option D | .list ds => (dOf ds []).bind fun kds => some (.dict kds) | _ => none
theorem dOf_ok {K : PySem.W.Frag} {F : Hp} : ∀ {ds : List D} {vs : List V} {acc out : List (D × D)} {kvs : List (Key × V)}, RpL K F ds vs → RpK K F acc kvs → dOf ds acc = some out →
    ∃ (ps : List Addr) (more : List (Key × V)), vs = ps.map V.ref ∧ Paired (fun (p : Addr) (kv : Key × V) => F p = some (.tup [kV kv.1, kv.2])) ps more ∧ RpK K F out (mergeK kvs more)
  | _, _, acc, out, kvs, .nil, ra, h => by
    cases h
    exact ⟨[], [], rfl, .nil, ra⟩
  | _, _, acc, out, kvs, .cons (d := d) (ds := ds) (v := v) r t, ra, h => by
    unfold dOf at h
    split at h
    · rename_i hx; cases hx
    · rename_i k w r' hx
      cases hx
      rw [Option.bind_eq_some_iff] at h
      obtain ⟨kk, h1, h2⟩ := h
      have ey := keyOf_eq h1
      subst ey
      cases r with
      | tup ha hr =>
        cases hr with
        | cons r1 hr =>
          cases hr with
          | cons r2 hr =>
            cases hr
            rename_i a v1 v2
            have ek : v1 = kV kk := by
              cases kk with
              | inl i => cases r1; rfl
              | inr i => cases r1; rfl
            subst ek
            obtain ⟨ps, more, e1, e2, e3⟩ := dOf_ok t (ra.put kk r2) h2
            exact ⟨a :: ps, (kk, v2) :: more, by rw [e1]; rfl, .cons ha e2, e3⟩
    · cases h
theorem paired_mono {α β : Type} {P Q : α → β → Prop} (h : ∀ a b, P a b → Q a b) : ∀ {as : List α} {bs : List β}, Paired P as bs → Paired Q as bs
  | _, _, .nil => .nil
  | _, _, .cons r t => .cons (h _ _ r) (paired_mono h t)
theorem en_dictP (hc : X.calm = true) (hg : Gl X "dict") (hm : X.mg "dict" = none) (ha : EB X a f) (hs : N1 X a) : EN X (.Call (.Name "dict" p) [a] [] pos) (d1 dictD f) :=
  en_c1 (pe_callTy (call_dictP hc) hg hm rfl (pa_cons ha.pe pa_nil hs) (by decide) (by decide) hs rfl) fun x u d F H Q e s ru k => by
    unfold dictD at e
    split at e
    · rw [Option.bind_eq_some_iff] at e
      obtain ⟨kds, h1, h2⟩ := e
      cases h2
      obtain ⟨q, xs, rfl, hq, rq⟩ := ru.list s
      obtain ⟨ps, more, rfl, e2, e3⟩ := dOf_ok rq .nil h1
      exact ⟨q, ps, more, rfl, .inl (.inl hq), paired_mono (fun p kv hp => .inl (.inl (s.n hp (fun _ z => nomatch z)))) e2, fun p' hp => k p' _ hp (.dK e3)⟩
    · cases e
end
end Zx
/-! Zx16: xs[i] = v, list(x), list(range(n)). -/
namespace Zx
variable [Marked]
open PySem PySem.Spec L2
section
variable {X : Cx} {a b e : Expr} {f g fd : Den} {p apos cpos pos : Pos} {K : PySem.W.Frag} {F H : Hp}
/-! ### list(x) -/
def listD : D → Option D | .list xs => some (.list xs) | .tuple xs => some (.list xs) | _ => none
theorem en_listOf (hg : Gl X "list") (hm : X.mg "list" = none) (ha : EB X a f) (hs : N1 X a) : EN X (.Call (.Name "list" p) [a] [] pos) (d1 listD f) :=
  en_c1 (pe_callTy call_list_of hg hm rfl (pa_cons ha.pe pa_nil hs) (by decide) (by decide) hs rfl) fun x u d F H Q e s ru k => by
    unfold listD at e
    split at e
    · cases e
      obtain ⟨q, xs, rfl, hq, rq⟩ := ru.list s
      exact ⟨q, xs, rfl, .inl (.inl (.inl hq)), fun l hl => k l _ hl (.lst rq)⟩
    · cases e
      obtain ⟨q, xs, rfl, hq, rq⟩ := ru.tuple s
      exact ⟨q, xs, rfl, .inr (.inl (.inl hq)), fun l hl => k l _ hl (.lst rq)⟩
    · cases e
/-! ### list(range(n)) -/
def lrD : D → Option D | .int n => if -1000000 ≤ n ∧ n ≤ 1000000 then some (.list (rgL 0 n.toNat)) else none | _ => none
theorem rgL_rel (n : Nat) : RpL K F (rgL 0 n) ((List.range n).map fun i => V.int (0 + (i : Nat))) := by
  unfold rgL
  generalize List.range n = ns
  induction ns with
  | nil => exact .nil
  | cons i ns ih => exact .cons (.int _) ih
theorem en_listR1 {p2 pos2 : Pos} (hc : X.calm = true) (hg : Gl X "list") (hm : X.mg "list" = none) (hgr : Gl X "range") (hmr : X.mg "range" = none) (ha : EX X a f) (na : N1 X a)
    (nr : N1 X (.Call (.Name "range" p2) [a] [] pos2)) : EN X (.Call (.Name "list" p) [.Call (.Name "range" p2) [a] [] pos2] [] pos) (d1 lrD f) :=
  mkN (pe_listRg hc hg hm (prg_1 hgr hmr ha.pe na) nr) fun σ H Q ρ F d e h k => by
    simp only [d1, Option.bind_eq_some_iff] at h
    obtain ⟨x, h1, h2⟩ := h
    unfold lrD at h2
    split at h2
    · split at h2
      · rename_i n hn
        cases h2
        refine ⟨ρ, F, _, e, h1, fun v F1 H1 x1 r1 => ?_⟩
        have ey : v = V.int n := by cases r1; rfl
        refine ⟨n, ey, ⟨by omega, by omega, by omega, by omega, by omega⟩, fun w hw => ?_⟩
        refine k w _ F1 _ (x1.trans (.own x1.le hw)) (x1.le.free hw) (x1.h.free hw) upd_same (.lst ?_)
        have : rgV 0 n = (List.range n.toNat).map fun i => V.int (0 + (i : Nat)) := by
          unfold rgV
          rw [Int.sub_zero]
        rw [this]
        exact rgL_rel _
      · cases h2
    · cases h2
end
end Zx
/-! Zx17: zip of a tuple and a list (any two of both). -/
namespace Zx
variable [Marked]
open PySem PySem.Spec PyProof.Rows L2
/-- an iterator at `it` over the items xs kept at l; S k h: it stands at k in the heap h -/
structure Itr (P : Program) (w : World) (it l : Addr) (xs : Array Value) (S : Nat → Heap → Prop) : Prop where
  item : ∀ {A : Around} {E : Value → Shared → Prop} {s : Shared} {k : Nat} {x : Value} {Q : Value → Shared → Prop}, S k s.heap → xs[k]? = some x →
    (∀ h', S (k + 1) h' → Heap.SameBut it s.heap h' → Q x { s with heap := h' }) → wpAny (model P w) A (Builtin.SmallTypes.nextOf (.ref it)) Q E s
  stop : ∀ {A : Around} {E : Value → Shared → Prop} {s : Shared} {k : Nat} {Q : Value → Shared → Prop}, A.handled = none → S k s.heap → xs[k]? = none →
    (∀ h' e, Heap.ExtBut it s.heap h' → (∃ o, h'.get? e = some o ∧ o.cls = .type "StopIteration") → E (.ref e) { s with heap := h' }) → wpAny (model P w) A (Builtin.SmallTypes.nextOf (.ref it)) Q E s
  ext : ∀ {k : Nat} {h h' : Heap} {c : Addr}, S k h → Heap.ExtBut c h h' → it ≠ c → l ≠ c → S k h'
theorem itr_list {P : Program} {w : World} {it l : Addr} {xs : Array Value} (hne : l ≠ it) : Itr P w it l xs fun k h => h.IsListIter it l k ∧ h.IsList l xs where
  item := fun st hx hQ => PySem.wpAny_nextOf_list_item st.1 st.2 hx fun h' h1 hs => hQ h' ⟨h1, st.2.extBut hs.extBut hne⟩ hs
  stop := fun hh st hx hE => PySem.wpAny_nextOf_list_end hh st.1 st.2 hx hE
  ext := fun st hs h1 h2 => ⟨st.1.extBut hs h1, st.2.extBut hs h2⟩
theorem itr_tup {P : Program} {w : World} {it l : Addr} {xs : Array Value} (hne : l ≠ it) : Itr P w it l xs fun k h => h.IsTupleIter it l k ∧ h.IsTuple l xs where
  item := fun st hx hQ => RZ.nextOf_tuple_item st.1 st.2 hx fun h' h1 hs => hQ h' ⟨h1, st.2.extBut hs.extBut hne⟩ hs
  stop := fun hh st hx hE => RZ.nextOf_tuple_end hh st.1 st.2 hx hE
  ext := fun st hs h1 h2 => ⟨st.1.extBut hs h1, st.2.extBut hs h2⟩
section
variable {prog : Program} {w : World} {A : Around} {E : Value → Shared → Prop} {s : Shared} {z TI TO i1 i2 l1 l2 : Addr} {k : Nat} {xs ys : Array Value} {a b : Value} {S1 S2 : Nat → Heap → Prop}
theorem zipG_item {x y : Value} {Q : Value → Shared → Prop} (D : ZipApart z TI TO i1 i2 l1 l2) (J1 : Itr prog w i1 l1 xs S1) (J2 : Itr prog w i2 l2 ys S2)
    (hz : IsZip s.heap z TI TO .none) (hTI : IsPair s.heap TI (.ref i1) (.ref i2)) (hTO : IsPair s.heap TO a b) (h1 : S1 k s.heap) (h2 : S2 k s.heap) (hx : xs[k]? = some x) (hy : ys[k]? = some y)
    (hl1 : l1 < s.heap.objs.size) (hl2 : l2 < s.heap.objs.size) (hi1 : i1 < s.heap.objs.size) (hi2 : i2 < s.heap.objs.size)
    (hQ : ∀ h', IsZip h' z TI TO (rawInt s.heap.objs.size) → IsPair h' TO x y → S1 (k + 1) h' → S2 (k + 1) h' → IsPair h' s.heap.objs.size x y → h'.objs.size = s.heap.objs.size + 1 →
      (∀ c o, c ≠ z → c ≠ TO → c ≠ i1 → c ≠ i2 → s.heap.get? c = some o → h'.get? c = some o) → Q (.ref s.heap.objs.size) { s with heap := h' }) :
    wpAny (model prog w) A (Builtin.«zip.__next__» ⟨[.ref z], []⟩) (fun fin s' => ∃ v, fin = .done (.ret v) ∧ Q v s') E s := by
  have hzs : z < s.heap.objs.size := Heap.lt_size hz
  have hTOs : TO < s.heap.objs.size := Heap.lt_size hTO
  show wpAny _ _ (field (.ref z) 2 >>= _) _ _ _
  refine wpAny_bind (wpAny_field hz rfl (x := .bool false) rfl ?_)
  show wpAny _ _ (field (.ref z) 3 >>= _) _ _ _
  refine wpAny_bind (wpAny_field hz rfl (x := .ref TI) rfl (wpAny_bind (wpAny_seqItems hTI rfl ?_)))
  show wpAny _ _ (Builtin.SmallTypes.ownedTupleIsFree (.ref z) >>= _) _ _ _
  refine wpAny_bind ?_
  unfold Builtin.SmallTypes.ownedTupleIsFree
  refine wpAny_bind (wpAny_field hz rfl (x := .none) rfl (wpAny_pure ?_))
  simp only [if_true]
  refine wpAny_bind (wpAny_rule (wpAny_bind (wpAny_field hz rfl (x := .ref TO) rfl ?_)))
  refine wpAny_bind (wpAny_setField_rec hz (by simp) fun g1 z1 s1 => ?_)
  replace z1 : IsZip g1 z TI TO .ellipsis := z1
  refine wpAny_bind ?_
  simp only [List.zipIdx_cons, List.zipIdx_nil, List.forIn_cons, List.forIn_nil]
  refine wpAny_bind (wpAny_bind (wpAny_onRaise ?_))
  show wpAny _ _ (Builtin.SmallTypes.nextOf (.ref i1) >>= _) _ _ _
  refine wpAny_bind (J1.item (J1.ext h1 s1.extBut D.i1z D.l1z) hx fun g2 a2 s2 => wpAny_pure ?_)
  have t2 : IsPair g2 TO a b := s2.extBut _ _ D.TOi1 (s1.extBut _ _ D.TOz hTO)
  refine wpAny_bind (wpAny_seqItems t2 rfl (wpAny_bind (wpAny_updateSeq_pair t2 fun g3 t3 s3 => ?_)))
  replace t3 : IsPair g3 TO x b := t3
  refine wpAny_bind (wpAny_letGo (wpAny_pure ?_))
  refine wpAny_bind (wpAny_bind (wpAny_onRaise ?_))
  show wpAny _ _ (Builtin.SmallTypes.nextOf (.ref i2) >>= _) _ _ _
  refine wpAny_bind (J2.item (J2.ext (J2.ext (J2.ext h2 s1.extBut D.i2z D.l2z) s2.extBut D.i12.symm D.l2i1) s3.extBut D.TOi2.symm D.l2TO) hy fun g4 a4 s4 => wpAny_pure ?_)
  have t4 : IsPair g4 TO x b := s4.extBut _ _ D.TOi2 t3
  refine wpAny_bind (wpAny_seqItems t4 rfl (wpAny_bind (wpAny_updateSeq_pair t4 fun g5 t5 s5 => ?_)))
  replace t5 : IsPair g5 TO x y := t5
  refine wpAny_bind (wpAny_letGo (wpAny_pure (wpAny_pure ?_)))
  refine wpAny_bind (wpAny_seqItems t5 rfl (wpAny_bind (wpAny_newTuple ?_)))
  have sz : g5.objs.size = s.heap.objs.size := by rw [s5.1, s4.1, s3.1, s2.1, s1.1]
  have z5 : IsZip g5 z TI TO .ellipsis := s5.extBut _ _ D.TOz.symm (s4.extBut _ _ D.i2z.symm (s3.extBut _ _ D.TOz.symm (s2.extBut _ _ D.i1z.symm z1)))
  have k5 : ∀ c o, c ≠ z → c ≠ TO → c ≠ i1 → c ≠ i2 → s.heap.get? c = some o → g5.get? c = some o := fun c o c1 c2 c3 c4 e =>
    s5.extBut _ _ c2 (s4.extBut _ _ c4 (s3.extBut _ _ c2 (s2.extBut _ _ c3 (s1.extBut _ _ c1 e))))
  have a5 : S1 (k + 1) g5 := J1.ext (J1.ext (J1.ext a2 s3.extBut D.TOi1.symm D.l1TO) s4.extBut D.i12 D.l1i2) s5.extBut D.TOi1.symm D.l1TO
  have b5 : S2 (k + 1) g5 := J2.ext a4 s5.extBut D.TOi2.symm D.l2TO
  show wpAny _ _ (Builtin.SmallTypes.ownedTupleHandOut (.ref z) (.ref g5.objs.size) >>= _) _ _ _
  refine wpAny_bind ?_
  unfold Builtin.SmallTypes.ownedTupleHandOut
  have z6 : IsZip (g5.push { cls := .type "tuple", data := .seq #[x, y] }) z TI TO .ellipsis := Heap.get?_push_of_some _ z5
  refine wpAny_bind (wpAny_setField_rec z6 (by simp) fun g7 z7 s7 => ?_)
  replace z7 : IsZip g7 z TI TO (rawInt g5.objs.size) := z7
  refine wpAny_setField_rec z7 (by simp) fun g8 z8 s8 => ?_
  replace z8 : IsZip g8 z TI TO (rawInt g5.objs.size) := z8
  have e6 : ∀ c : Addr, Heap.ExtBut c g5 (g5.push { cls := .type "tuple", data := .seq #[x, y] }) := fun c d o _ q => Heap.get?_push_of_some _ q
  have up : ∀ c o, c ≠ z → g5.get? c = some o → g8.get? c = some o := fun c o c1 q => s8.extBut _ _ c1 (s7.extBut _ _ c1 (Heap.get?_push_of_some _ q))
  have t8 : IsPair g8 g5.objs.size x y := s8.extBut _ _ (by rw [sz]; exact Nat.ne_of_gt hzs) (s7.extBut _ _ (by rw [sz]; exact Nat.ne_of_gt hzs) (Heap.get?_push_size _ rfl))
  have z8s : g8.objs.size = g5.objs.size + 1 := by rw [s8.1, s7.1, Heap.size_push]
  have a8 : S1 (k + 1) g8 := J1.ext (J1.ext (J1.ext a5 (e6 z) D.i1z D.l1z) s7.extBut D.i1z D.l1z) s8.extBut D.i1z D.l1z
  have b8 : S2 (k + 1) g8 := J2.ext (J2.ext (J2.ext b5 (e6 z) D.i2z D.l2z) s7.extBut D.i2z D.l2z) s8.extBut D.i2z D.l2z
  rw [sz] at z8 t8 z8s
  refine wpAny_pure ⟨_, rfl, ?_⟩
  show Q (.ref g5.objs.size) _
  rw [sz]
  exact hQ g8 z8 (up _ _ D.TOz t5) a8 b8 t8 z8s fun c o c1 c2 c3 c4 q => up c o c1 (k5 c o c1 c2 c3 c4 q)
theorem zipG_stop {Q : PySem.Fin → Shared → Prop} (hh : A.handled = none) (D : ZipApart z TI TO i1 i2 l1 l2) (J1 : Itr prog w i1 l1 xs S1) (J2 : Itr prog w i2 l2 ys S2)
    (hz : IsZip s.heap z TI TO .none) (hTI : IsPair s.heap TI (.ref i1) (.ref i2)) (hTO : IsPair s.heap TO a b) (h1 : S1 k s.heap) (h2 : S2 k s.heap) (hend : xs[k]? = none ∨ ys[k]? = none)
    (hE : ∀ h' e, (∀ c o, c ≠ z → c ≠ TO → c ≠ i1 → c ≠ i2 → s.heap.get? c = some o → h'.get? c = some o) → (∃ o, h'.get? e = some o ∧ o.cls = .type "StopIteration") → E (.ref e) { s with heap := h' }) :
    wpAny (model prog w) A (Builtin.«zip.__next__» ⟨[.ref z], []⟩) Q E s := by
  show wpAny _ _ (field (.ref z) 2 >>= _) _ _ _
  refine wpAny_bind (wpAny_field hz rfl (x := .bool false) rfl ?_)
  show wpAny _ _ (field (.ref z) 3 >>= _) _ _ _
  refine wpAny_bind (wpAny_field hz rfl (x := .ref TI) rfl (wpAny_bind (wpAny_seqItems hTI rfl ?_)))
  show wpAny _ _ (Builtin.SmallTypes.ownedTupleIsFree (.ref z) >>= _) _ _ _
  refine wpAny_bind ?_
  unfold Builtin.SmallTypes.ownedTupleIsFree
  refine wpAny_bind (wpAny_field hz rfl (x := .none) rfl (wpAny_pure ?_))
  simp only [if_true]
  refine wpAny_bind (wpAny_rule (wpAny_bind (wpAny_field hz rfl (x := .ref TO) rfl ?_)))
  refine wpAny_bind (wpAny_setField_rec hz (by simp) fun g1 z1 s1 => ?_)
  replace z1 : IsZip g1 z TI TO .ellipsis := z1
  refine wpAny_bind ?_
  simp only [List.zipIdx_cons, List.zipIdx_nil, List.forIn_cons, List.forIn_nil]
  refine wpAny_bind (wpAny_bind (wpAny_onRaise ?_))
  show wpAny _ _ (Builtin.SmallTypes.nextOf (.ref i1) >>= _) _ _ _
  cases hx : xs[k]? with
  | none =>
    refine wpAny_bind (J1.stop hh (J1.ext h1 s1.extBut D.i1z D.l1z) hx fun g2 e s2 he => ?_)
    obtain ⟨oe, hoe, hce⟩ := he
    have z2 : IsZip g2 z TI TO .ellipsis := s2 _ _ D.i1z.symm z1
    have hez : e ≠ z := fun q => by subst q; rw [z2] at hoe; cases hoe; simp at hce
    refine wpAny_setField_rec z2 (by simp) fun g3 _ s3 => hE g3 e (fun c o c1 _ c3 _ q => s3.extBut _ _ c1 (s2 _ _ c3 (s1.extBut _ _ c1 q))) ⟨oe, s3.extBut _ _ hez hoe, hce⟩
  | some x =>
    have hy : ys[k]? = none := by
      rcases hend with q | q
      · rw [hx] at q; cases q
      · exact q
    refine wpAny_bind (J1.item (J1.ext h1 s1.extBut D.i1z D.l1z) hx fun g2 a2 s2 => wpAny_pure ?_)
    have t2 : IsPair g2 TO a b := s2.extBut _ _ D.TOi1 (s1.extBut _ _ D.TOz hTO)
    refine wpAny_bind (wpAny_seqItems t2 rfl (wpAny_bind (wpAny_updateSeq_pair t2 fun g3 t3 s3 => ?_)))
    refine wpAny_bind (wpAny_letGo (wpAny_pure ?_))
    refine wpAny_bind (wpAny_bind (wpAny_onRaise ?_))
    show wpAny _ _ (Builtin.SmallTypes.nextOf (.ref i2) >>= _) _ _ _
    refine wpAny_bind (J2.stop hh (J2.ext (J2.ext (J2.ext h2 s1.extBut D.i2z D.l2z) s2.extBut D.i12.symm D.l2i1) s3.extBut D.TOi2.symm D.l2TO) hy fun g4 e s4 he => ?_)
    obtain ⟨oe, hoe, hce⟩ := he
    have z4 : IsZip g4 z TI TO .ellipsis := s4 _ _ D.i2z.symm (s3.extBut _ _ D.TOz.symm (s2.extBut _ _ D.i1z.symm z1))
    have hez : e ≠ z := fun q => by subst q; rw [z4] at hoe; cases hoe; simp at hce
    refine wpAny_setField_rec z4 (by simp) fun g5 _ s5 => hE g5 e (fun c o c1 c2 c3 c4 q => s5.extBut _ _ c1 (s4 _ _ c4 (s3.extBut _ _ c2 (s2.extBut _ _ c3 (s1.extBut _ _ c1 q))))) ⟨oe, s5.extBut _ _ hez hoe, hce⟩
end
end Zx
/-! Zx18: zip(t, l), t a tuple, l a list: the call, the walk, the rule. -/
namespace Zx
variable [Marked]
open PySem PySem.Spec PyProof.Rows L2
section
variable {prog : Program} {w : World} {A : Around} {E : Value → Shared → Prop} {s : Shared} {z TI TO i1 i2 l1 l2 : Addr} {k : Nat} {xs ys : Array Value} {a b : Value} {S1 S2 : Nat → Heap → Prop}
theorem pyNextG_item {x y : Value} {Q : Option Value → Shared → Prop} (D : ZipApart z TI TO i1 i2 l1 l2) (J1 : Itr prog w i1 l1 xs S1) (J2 : Itr prog w i2 l2 ys S2)
    (hz : IsZip s.heap z TI TO .none) (hTI : IsPair s.heap TI (.ref i1) (.ref i2)) (hTO : IsPair s.heap TO a b) (h1 : S1 k s.heap) (h2 : S2 k s.heap) (hx : xs[k]? = some x) (hy : ys[k]? = some y)
    (hl1 : l1 < s.heap.objs.size) (hl2 : l2 < s.heap.objs.size) (hi1 : i1 < s.heap.objs.size) (hi2 : i2 < s.heap.objs.size)
    (hQ : ∀ h', IsZip h' z TI TO (rawInt s.heap.objs.size) → IsPair h' TO x y → S1 (k + 1) h' → S2 (k + 1) h' → IsPair h' s.heap.objs.size x y → h'.objs.size = s.heap.objs.size + 1 →
      (∀ c o, c ≠ z → c ≠ TO → c ≠ i1 → c ≠ i2 → s.heap.get? c = some o → h'.get? c = some o) → Q (some (.ref s.heap.objs.size)) { s with heap := h' }) :
    wpAny (model prog w) A (pyNext (.ref z)) Q E s := by
  have hT : s.TypeIs (.ref z) "zip" := ⟨_, hz, rfl⟩
  unfold pyNext
  exact wpAny_bind (wpAny_attempt (wpAny_callSpecial?_slot (name := Str.ofString "__next__") hT PySem.F.slot_zip_next
    (wpAny_call_entry PySem.F.slot_zip_next hT PySem.F.entry_zip_next
      (zipG_item D J1 J2 hz hTI hTO h1 h2 hx hy hl1 hl2 hi1 hi2 fun h' a1 a2 a3 a4 a5 a6 a7 => wpAny_pure (hQ h' a1 a2 a3 a4 a5 a6 a7)) (PySem.F.args_zip_next_1 _))))
theorem pyNextG_stop {Q : Option Value → Shared → Prop} (hh : A.handled = none) (D : ZipApart z TI TO i1 i2 l1 l2) (J1 : Itr prog w i1 l1 xs S1) (J2 : Itr prog w i2 l2 ys S2)
    (hz : IsZip s.heap z TI TO .none) (hTI : IsPair s.heap TI (.ref i1) (.ref i2)) (hTO : IsPair s.heap TO a b) (h1 : S1 k s.heap) (h2 : S2 k s.heap) (hend : xs[k]? = none ∨ ys[k]? = none)
    (hQ : ∀ h', (∀ c o, c ≠ z → c ≠ TO → c ≠ i1 → c ≠ i2 → s.heap.get? c = some o → h'.get? c = some o) → Q none { s with heap := h' }) : wpAny (model prog w) A (pyNext (.ref z)) Q E s := by
  have hT : s.TypeIs (.ref z) "zip" := ⟨_, hz, rfl⟩
  unfold pyNext
  refine wpAny_bind (wpAny_attempt (wpAny_callSpecial?_slot (name := Str.ofString "__next__") hT PySem.F.slot_zip_next
    (wpAny_call_entry PySem.F.slot_zip_next hT PySem.F.entry_zip_next (zipG_stop hh D J1 J2 hz hTI hTO h1 h2 hend fun h' e hk he => ?_) (PySem.F.args_zip_next_1 _))))
  obtain ⟨o, ho, hc⟩ := he
  refine wpAny_bind (wpAny_isInstance (T := "StopIteration") (b := true) ⟨o, ho, hc⟩ isSubtype_stop ?_)
  exact wpAny_pure (hQ _ hk)
end
/-- the tuple at a and the list at b as they stand at each turn, the items in new pairs -/
def ItzM (K : PySem.W.Frag) (a b : Addr) : It :=
  ⟨fun i H => ∃ (xs ys : List V) (x y : V), SqT K H a xs ∧ SqL K H b ys ∧ xs[i]? = some x ∧ ys[i]? = some y,
    fun i H v H' => ∃ T x y, v = .ref T ∧ H T = none ∧ H' = upd H T (.tup [x, y]) ∧ (∀ xs, SqT K H a xs → xs[i]? = some x) ∧ ∀ ys, SqL K H b ys → ys[i]? = some y,
    fun i H => ∃ xs ys : List V, SqT K H a xs ∧ SqL K H b ys ∧ (xs.length ≤ i ∨ ys.length ≤ i)⟩
theorem among5 {c z TI TO i1 i2 : Addr} (h : c ∈ [z, TI, TO, i1, i2]) : c = z ∨ c = TI ∨ c = TO ∨ c = i1 ∨ c = i2 := by simpa using h
theorem turn_zipM {P : Program} {w : World} {K : PySem.W.Frag} {elts : List Expr} {kk : Nat} {tpos : Pos} {a b z TI TO i1 i2 : Addr} (D : ZipApart z TI TO i1 i2 a b) :
    Turn P w K (.Tuple elts kk tpos) (ItzM K a b) [z, TI, TO, i1, i2] z (fun i h => IsZip h z TI TO .none ∧ IsPair h TI (.ref i1) (.ref i2) ∧ (∃ x y, IsPair h TO x y) ∧ h.IsTupleIter i1 a i ∧ h.IsListIter i2 b i) where
  mem := by simp
  obj := fun i h st c hc => by
    obtain ⟨hz, hTI, ⟨x, y, hTO⟩, ⟨o1, e1, _, d1⟩, ⟨o2, e2, _, d2⟩⟩ := st
    rcases among5 hc with rfl | rfl | rfl | rfl | rfl
    · exact ⟨_, hz, fun v q => nomatch q⟩
    · exact ⟨_, hTI, fun v q => nomatch q⟩
    · exact ⟨_, hTO, fun v q => nomatch q⟩
    · exact ⟨o1, e1, fun v q => by rw [d1] at q; cases q⟩
    · exact ⟨o2, e2, fun v q => by rw [d2] at q; cases q⟩
  keep := fun i h h' st k => by
    obtain ⟨hz, hTI, ⟨x, y, hTO⟩, h1, h2⟩ := st
    exact ⟨k z (by simp) _ hz, k TI (by simp) _ hTI, ⟨x, y, k TO (by simp) _ hTO⟩, h1.at fun o q => k i1 (by simp) o q, h2.at fun o q => k i2 (by simp) o q⟩
  item := by
    intro X hP hw hK hc i pins s σ H E I hf st hg
    subst hP hw hK
    obtain ⟨hz, hTI, ⟨x0, y0, hTO⟩, h1, h2⟩ := st
    obtain ⟨xs, ys, x, y, hqx, hqy, hx, hy⟩ := hg
    obtain ⟨its, rv, p, _⟩ := I.tuple hqx
    obtain ⟨its2, rv2, p2, _⟩ := I.list hqy
    obtain ⟨u, hu, ru⟩ := rv.get hx
    obtain ⟨u2, hu2, ru2⟩ := rv2.get hy
    have hzl : z < s.heap.objs.size := Heap.lt_size hz
    have hl1 : a < s.heap.objs.size := by obtain ⟨o, ho, _⟩ := id p; exact Heap.lt_size ho
    have hi1 : i1 < s.heap.objs.size := by obtain ⟨o, ho, _⟩ := id h1; exact Heap.lt_size ho
    have hi2 : i2 < s.heap.objs.size := by obtain ⟨o, ho, _⟩ := id h2; exact Heap.lt_size ho
    refine pyNextG_item (x := u) (y := u2) D (itr_tup (xs := its.toArray) D.l1i1) (itr_list (xs := its2.toArray) D.l2i2) hz hTI hTO ⟨h1, p⟩ ⟨h2, p2.isList⟩ (by simpa using hu) (by simpa using hu2) hl1 p2.lt hi1 hi2 fun h' z' TO' h1' h2' hT hsz hk => ?_
    refine ⟨_, rfl, wpAny_letOwnedTupleGo_zip (s := { s with heap := h' }) z' fun h'' z'' sb => ?_⟩
    have hT2 : h''.get? s.heap.objs.size = some { cls := .type "tuple", data := .seq #[u, u2] } := (sb.2 _ (Nat.ne_of_gt hzl)).trans hT
    have new : ObjOk X.prog X.w (upd H s.heap.objs.size (.tup [x, y])) h'' s.heap.objs.size (.tup [x, y]) :=
      ⟨by show 2 ≤ sizeLine; decide, [u, u2], .cons ru (.cons ru2 .nil), ⟨_, hT2, rfl, _, rfl⟩⟩
    have I1 : Inv X pins σ (upd H s.heap.objs.size (.tup [x, y])) { s with heap := h'' } :=
      I.turnedNew (t' := s.toks) (ch := [z, TI, TO, i1, i2]) (fun c o hb q => (sb.2 c (fun q' => hb (by simp [q']))).trans (hk c o (fun q' => hb (by simp [q'])) (fun q' => hb (by simp [q'])) (fun q' => hb (by simp [q'])) (fun q' => hb (by simp [q'])) q)) hf (Nat.le_refl _) new
    refine ⟨.ref s.heap.objs.size, _, I1, rfl, ⟨_, x, y, rfl, I.hok.fresh (Nat.le_refl _), rfl, fun l hl => by rw [I.tuple_inj hl hqx]; exact hx, fun l hl => by rw [I.list_inj hl hqy]; exact hy⟩, ⟨z'', ?_, ⟨u, u2, ?_⟩, ?_, ?_⟩, fun c hcm => ?_⟩
    · exact (sb.2 _ D.TIz).trans (hk _ _ D.TIz D.TITO D.TIi1 D.TIi2 hTI)
    · exact (sb.2 _ D.TOz).trans TO'
    · exact h1'.1.at fun o q => (sb.2 _ D.i1z).trans q
    · exact h2'.1.at fun o q => (sb.2 _ D.i2z).trans q
    · have hlt : c < s.heap.objs.size := by
        rcases among5 hcm with rfl | rfl | rfl | rfl | rfl
        · exact hzl
        · exact Heap.lt_size hTI
        · exact Heap.lt_size hTO
        · exact hi1
        · exact hi2
      rw [upd_ne (Nat.ne_of_lt hlt)]
      exact (hf c hcm).1
  done := by
    intro X hP hw hK hc i pins s σ H E I hf st hg
    subst hP hw hK
    obtain ⟨hz, hTI, ⟨x0, y0, hTO⟩, h1, h2⟩ := st
    obtain ⟨xs, ys, hqx, hqy, hend⟩ := hg
    obtain ⟨its, rv, p, _⟩ := I.tuple hqx
    obtain ⟨its2, rv2, p2, _⟩ := I.list hqy
    have l1 := rv.length
    have l2 := rv2.length
    have he : its.toArray[i]? = none ∨ its2.toArray[i]? = none := by
      rcases hend with q | q
      · exact .inl (by simp; omega)
      · exact .inr (by simp; omega)
    exact pyNextG_stop (I.ok.hd hc) D (itr_tup (xs := its.toArray) D.l1i1) (itr_list (xs := its2.toArray) D.l2i2) hz hTI hTO ⟨h1, p⟩ ⟨h2, p2.isList⟩ he fun h' hk => ⟨rfl, I.turnedL (t' := s.toks) (ch := [z, TI, TO, i1, i2]) (fun c o hb q =>
      hk c o (fun q' => hb (by simp [q'])) (fun q' => hb (by simp [q'])) (fun q' => hb (by simp [q'])) (fun q' => hb (by simp [q'])) q) hf⟩
  self := fun A i s Q E st h => wpAny_pyIter_zip st.1 h
/-! ### the call -/
abbrev zmA (h : Heap) (l1 : Addr) : Heap := h.push { cls := .type "tuple_iterator", data := .fields #[.ref l1, .int 0 0] }
abbrev zmB (h : Heap) (l1 l2 : Addr) : Heap := (zmA h l1).push { cls := .type "list_iterator", data := .fields #[.ref l2, .int 0 0] }
abbrev zmC (h : Heap) (l1 l2 : Addr) : Heap := (zmB h l1 l2).push { cls := .type "tuple", data := .seq #[.ref h.objs.size, .ref (zmA h l1).objs.size] }
abbrev zmD (h : Heap) (l1 l2 : Addr) : Heap := (zmC h l1 l2).push { cls := .type "tuple", data := .seq #[.none, .none] }
abbrev zmE (h : Heap) (l1 l2 : Addr) : Heap := (zmD h l1 l2).push { cls := .type "zip", data := .fields #[.none, .bool false, .bool false, .ref (zmB h l1 l2).objs.size, .ref (zmC h l1 l2).objs.size] }
theorem meets_zipM (l1 l2 : Addr) (xs ys : Array Value) :
    Meets (Builtin.«zip.__new__» ⟨[.type "zip", .ref l1, .ref l2], []⟩) (fun _ R s => s.heap.IsTuple l1 xs ∧ s.heap.IsList l2 ys ∧
      R (.ok (.ret (.ref (zmD s.heap l1 l2).objs.size))) { s with heap := zmE s.heap l1 l2 }) :=
  .of_wp fun prog w A R s h => by
    obtain ⟨hp, g, d, tk, os⟩ := s; obtain ⟨hl1, hl2, h⟩ := h
    have hsub := PySem.sub_zip
    have hL1 : Heap.IsTuple (Shared.heap ⟨hp, g, d, tk, os⟩) l1 xs := hl1
    have hL2 : Heap.IsList (Shared.heap ⟨hp.push { cls := .type "tuple_iterator", data := .fields #[.ref l1, .int 0 0] }, g, d, tk, os⟩) l2 ys := Heap.IsList.push hl2 _
    wp_walk using wpAny_pyIter_tuple hL1, wpAny_pyIter_list hL2
    exact ⟨_, rfl, h⟩
theorem call_zipM {prog : Program} {w : World} {A : Around} {E : Value → Shared → Prop} {s : Shared} {l1 l2 : Addr} {xs ys : Array Value} {Q : Value → Shared → Prop} (hl1 : s.heap.IsTuple l1 xs) (hl2 : s.heap.IsList l2 ys)
    (h : ∀ h', IsZip h' (s.heap.objs.size + 4) (s.heap.objs.size + 2) (s.heap.objs.size + 3) .none → IsPair h' (s.heap.objs.size + 2) (.ref s.heap.objs.size) (.ref (s.heap.objs.size + 1)) →
      IsPair h' (s.heap.objs.size + 3) .none .none → h'.IsTupleIter s.heap.objs.size l1 0 → h'.IsListIter (s.heap.objs.size + 1) l2 0 → h'.objs.size = s.heap.objs.size + 5 →
      (∀ c o, s.heap.get? c = some o → h'.get? c = some o) → Q (.ref (s.heap.objs.size + 4)) { s with heap := h' }) :
    wpAny (model prog w) A (call (.type "zip") [.ref l1, .ref l2]) Q E s := by
  refine callType_new PySem.F.called_zip (by decide) (PySem.F.typeCall_zip_2 _ _) (PySem.F.newCall_zip_2 _ _) (fun obj => PySem.F.args_object_init_3 obj _ _) PySem.F.entry_zip_new
    (meets_zipM l1 l2 xs ys) ⟨hl1, hl2, ?_⟩
  have y1 : (zmA s.heap l1).objs.size = s.heap.objs.size + 1 := Heap.size_push ..
  have y2 : (zmB s.heap l1 l2).objs.size = s.heap.objs.size + 2 := by rw [Heap.size_push, y1]
  have y3 : (zmC s.heap l1 l2).objs.size = s.heap.objs.size + 3 := by rw [Heap.size_push, y2]
  have y4 : (zmD s.heap l1 l2).objs.size = s.heap.objs.size + 4 := by rw [Heap.size_push, y3]
  have y5 : (zmE s.heap l1 l2).objs.size = s.heap.objs.size + 5 := by rw [Heap.size_push, y4]
  have g5 : (zmE s.heap l1 l2).get? (zmD s.heap l1 l2).objs.size = some _ := Heap.get?_push_size _ rfl
  have g4 : (zmE s.heap l1 l2).get? (zmC s.heap l1 l2).objs.size = some _ := Heap.get?_push_of_some _ (Heap.get?_push_size _ rfl)
  have g3 : (zmE s.heap l1 l2).get? (zmB s.heap l1 l2).objs.size = some _ := Heap.get?_push_of_some _ (Heap.get?_push_of_some _ (Heap.get?_push_size _ rfl))
  have g2 : (zmE s.heap l1 l2).get? (zmA s.heap l1).objs.size = some _ := Heap.get?_push_of_some _ (Heap.get?_push_of_some _ (Heap.get?_push_of_some _ (Heap.get?_push_size _ rfl)))
  have g1 : (zmE s.heap l1 l2).get? s.heap.objs.size = some _ := Heap.get?_push_of_some _ (Heap.get?_push_of_some _ (Heap.get?_push_of_some _ (Heap.get?_push_of_some _ (Heap.get?_push_size _ rfl))))
  show _ ∧ _
  rw [y2, y3, y4] at g5
  rw [y1, y2] at g3
  rw [y3] at g4
  rw [y1] at g2
  rw [y4]
  exact ⟨⟨_, g5, rfl⟩, h _ g5 g3 g4 ⟨_, g1, rfl, rfl⟩ ⟨_, g2, rfl, rfl⟩ y5 fun c o x =>
    Heap.get?_push_of_some _ (Heap.get?_push_of_some _ (Heap.get?_push_of_some _ (Heap.get?_push_of_some _ (Heap.get?_push_of_some _ x))))⟩
def iZipX (K : PySem.W.Frag) (ta : TA) : TI := fun σ H R => ta σ H fun vs H1 => ∃ a b xs ys, vs = [.ref a, .ref b] ∧ ((SqL K H1 a xs ∧ SqL K H1 b ys ∧ R (Itz K a b) H1) ∨ (SqT K H1 a xs ∧ SqL K H1 b ys ∧ R (ItzM K a b) H1))
theorem pi_zipX {X : Cx} {e e2 : Expr} {ta : TA} {p pos tpos : Pos} {elts : List Expr} {kk : Nat} (hg : Gl X "zip") (hm : X.mg "zip" = none) (ha : PA X [e, e2] ta)
    (hs : starEach [e, e2] X.env = (false, eval e X.env) :: starEach [e2] X.env := by rfl) (hpl : (backTo pos (starEach [e2] X.env)).any (·.1) = false := by rfl) :
    PI X (.Tuple elts kk tpos) (.Call (.Name "zip" p) [e, e2] [] pos) (iZipX X.K ta) := by
  refine ⟨fun pins s σ H R I h => ?_⟩
  refine Call_ (ld_blt I hg hm PyProof.Rows.boot_zip (PyProof.Rows.callWith_type1 (thn (ha.run pos pins s σ H _ I h) fun us s1 ⟨vs, H1, I1, r1, q1⟩ => ?_) hs hpl))
  obtain ⟨a, b, xs, ys, ex, q1⟩ := q1
  subst ex
  cases r1 with
  | cons r rr =>
    cases rr with
    | cons r' rr =>
      cases rr
      cases r
      cases r'
      have fresh5 : ∀ c, c ∈ [s1.heap.objs.size + 4, s1.heap.objs.size + 2, s1.heap.objs.size + 3, s1.heap.objs.size, s1.heap.objs.size + 1] → FpOk X pins H1 c := fun c hcm => by
        have hle : s1.heap.objs.size ≤ c := by
          rcases among5 hcm with z | z | z | z | z <;> rw [z]
          · exact Nat.le_add_right _ _
          · exact Nat.le_add_right _ _
          · exact Nat.le_add_right _ _
          · exact Nat.le_refl _
          · exact Nat.le_add_right _ _
        exact I1.fpOk hle (I1.hok.fresh hle)
      rcases q1 with ⟨hqx, hqy, q⟩ | ⟨hqx, hqy, q⟩
      · obtain ⟨its, rv, p1, _⟩ := I1.list hqx
        obtain ⟨its2, rv2, p2, _⟩ := I1.list hqy
        refine call_zip_2 p1.isList p2.isList fun h' hz hTI hTO h1 h2 hsz hk => wpAny_pyIter_zip hz ?_
        have I2 : Inv X pins σ H1 { s1 with heap := h' } := I1.kept (t' := s1.toks) hk
        exact ⟨s1.heap.objs.size + 4, [s1.heap.objs.size + 4, s1.heap.objs.size + 2, s1.heap.objs.size + 3, s1.heap.objs.size, s1.heap.objs.size + 1], _, _, H1, rfl, I2, turn_zip (PySem.W.ktu_apart s1.heap.objs.size a b p1.lt p2.lt), ⟨hz, hTI, ⟨_, _, hTO⟩, h1, h2⟩, fresh5, q⟩
      · obtain ⟨its, rv, p1, _⟩ := I1.tuple hqx
        obtain ⟨its2, rv2, p2, _⟩ := I1.list hqy
        obtain ⟨o1, ho1, _⟩ := id p1
        refine call_zipM (show s1.heap.IsTuple a its.toArray from p1) p2.isList fun h' hz hTI hTO h1 h2 hsz hk => wpAny_pyIter_zip hz ?_
        have I2 : Inv X pins σ H1 { s1 with heap := h' } := I1.kept (t' := s1.toks) hk
        exact ⟨s1.heap.objs.size + 4, [s1.heap.objs.size + 4, s1.heap.objs.size + 2, s1.heap.objs.size + 3, s1.heap.objs.size, s1.heap.objs.size + 1], _, _, H1, rfl, I2, turn_zipM (PySem.W.ktu_apart s1.heap.objs.size a b (Heap.lt_size ho1) p2.lt), ⟨hz, hTI, ⟨_, _, hTO⟩, h1, h2⟩, fresh5, q⟩
/-! ### the rule -/
section
variable {X : Cx} {K : PySem.W.Frag} {F : Hp} {a b : Expr} {f g : Den} {p pos : Pos} {elts : List Expr} {kk : Nat} {tpos : Pos}
theorem walks_zipM {q q' : Addr} {xs ys : List V} {ds es : List D} (h : F q = some (.tup xs)) (r : RpL K F ds xs) (h' : F q' = some (.lst ys)) (r' : RpL K F es ys) : Walks K (ItzM K q q') F (zipL ds es) := fun i F1 H1 s1 s2 => by
  have hq : SqT K H1 q xs := .inl (.inl (Le.n s2 (s1 _ _ h) (fun _ z => nomatch z)))
  have hq' : SqL K H1 q' ys := .inl (.inl (Le.n s2 (s1 _ _ h') (fun _ z => nomatch z)))
  refine ⟨fun d hd => ?_, fun hi => ⟨xs, ys, hq, hq', by rw [r.length, r'.length]; rw [zipL_length] at hi; omega⟩⟩
  obtain ⟨x, y, hx, hy, rfl⟩ := zipL_get hd
  obtain ⟨v, hv, rv⟩ := r.get hx
  obtain ⟨w, hw, rw'⟩ := r'.get hy
  refine ⟨⟨xs, ys, v, w, hq, hq', hv, hw⟩, fun y H' hy => ?_⟩
  obtain ⟨T, z1, z2, rfl, hT, rfl, hz1, hz2⟩ := hy
  have e1 := hz1 xs hq
  rw [hv] at e1
  cases e1
  have e2 := hz2 ys hq'
  rw [hw] at e2
  cases e2
  have s3 := s1.trans (Sub.new (H := F1) (o := .tup [v, w]) (s2.free hT))
  exact ⟨_, .add s2 hT, .tup upd_same (.cons (rv.mono s3) (.cons (rw'.mono s3) .nil))⟩
def iZpX (f g : Den) : DenI := fun ρ => (f ρ).bind fun x => (g ρ).bind fun y => match x, y with | .tuple xs, .list ys => some (zipL xs ys) | .list xs, .list ys => some (zipL xs ys) | _, _ => none
theorem ei_zipX (hg : Gl X "zip") (hm : X.mg "zip" = none) (ha : EX X a f) (hb : EX X b g) (hs : N2 X a b) (hs1 : N1 X b) : EI X (.Tuple elts kk tpos) (.Call (.Name "zip" p) [a, b] [] pos) (iZpX f g) :=
  mkI (pi_zipX hg hm (pa_cons ha.pe (pa_cons hb.pe pa_nil hs1) hs) hs (by rw [hs1]; rfl)) fun σ H R ρ F d e h k => by
    simp only [iZpX, Option.bind_eq_some_iff] at h
    obtain ⟨x, h1, y, h2, h3⟩ := h
    refine ⟨ρ, F, x, e, h1, fun u F1 H1 x1 r1 => ⟨ρ, F1, y, e.ext x1, h2, fun v F2 H2 x2 r2 => ?_⟩⟩
    cases x <;> cases y <;> simp only [reduceCtorEq, Option.some.injEq] at h3
    · subst h3
      cases r1 with
      | lst hq rq =>
        cases r2 with
        | lst hq' rq' => exact ⟨_, _, _, _, rfl, .inl ⟨.inl (.inl (x2.le.n (x2.f _ _ hq) (fun _ z => nomatch z))), .inl (.inl (x2.le.n hq' (fun _ z => nomatch z))), k _ F2 H2 (x1.trans x2) (walks_zip (x2.f _ _ hq) (rq.mono x2.f) hq' rq')⟩⟩
    · subst h3
      cases r1 with
      | tup hq rq =>
        cases r2 with
        | lst hq' rq' => exact ⟨_, _, _, _, rfl, .inr ⟨.inl (.inl (x2.le.n (x2.f _ _ hq) (fun _ z => nomatch z))), .inl (.inl (x2.le.n hq' (fun _ z => nomatch z))), k _ F2 H2 (x1.trans x2) (walks_zipM (x2.f _ _ hq) (rq.mono x2.f) hq' rq')⟩⟩
end
end Zx
/-! Zx19: a call that gives a new list; simp lemmas for Zx16..Zx18. -/
namespace Zx
variable [Marked]
open PySem PySem.Spec L2
section
variable {X : Cx} {a : Expr} {es : List Expr} {fl : DenL} {pos p : Pos} {x : Str} {k n : Nat} {fn : List D → Option D}
theorem nX (F : FN X.prog X.w X.K X.mg X.base k x n fn) (hr : Room k X.A) (hg : Gl X x) (hdb : (x == ("__debug__" : Str)) = false) (ha : EA X (a :: es) fl) (hn : (a :: es).length = n)
    (he : starEach (a :: es) X.env = (false, eval a X.env) :: starEach es X.env) (hpl : (backTo pos (starEach es X.env)).any (·.1) = false) (hl : ∀ ρ ds, fl ρ = some ds → ds.length = n) : EN X (.Call (.Name x p) (a :: es) [] pos) (dCall fl fn) := en_call F hr hg hdb ha hn he hpl hl
end
end Zx
/-! Zx20: repr of data where no guard stands, comparing its texts; a law whose def is read at the claim's own caller. -/
namespace Zx
variable [Marked]
open PySem PySem.Spec L2 PyProof.Rows
mutual
def nodes : D → Nat
  | .list xs => nodesL xs + 1
  | .tuple xs => nodesL xs + 1
  | _ => 1
def nodesL : List D → Nat
  | [] => 0
  | x :: xs => nodes x + nodesL xs
end
mutual
def repIn : D → Bool
  | .none => true
  | .bool _ => true
  | .int i => decide (i.natAbs < 2 ^ 1900)
  | .list xs => repInL xs
  | .tuple xs => repInL xs
  | _ => false
def repInL : List D → Bool
  | [] => true
  | x :: xs => repIn x && repInL xs
end
theorem nodes_pos : ∀ d : D, 1 ≤ nodes d
  | .list xs => by rw [nodes]; omega
  | .tuple xs => by rw [nodes]; omega
  | .none => Nat.le_refl 1
  | .bool _ => Nat.le_refl 1
  | .int _ => Nat.le_refl 1
  | .str _ => Nat.le_refl 1
  | .dict _ => Nat.le_refl 1
theorem pow2_10 {n : Nat} (h : n < 2 ^ 1900) : n < 10 ^ 640 := by
  have h1 : (2 : Nat) ^ 1900 ≤ 2 ^ (3 * 640) := Nat.pow_le_pow_right (by decide) (by decide)
  have h2 : (2 : Nat) ^ (3 * 640) = 8 ^ 640 := by rw [Nat.pow_mul]
  have h3 : (8 : Nat) ^ 640 ≤ 10 ^ 640 := Nat.pow_le_pow_left (by decide) 640
  omega
mutual
theorem shown_room : ∀ d : D, repIn d = true → d.shown.length + 2 ≤ 700 * nodes d ∧ d.showable = true ∧ d.hasDict = false
  | .none, _ => ⟨by
    rw [PyData.shown_none]
    show 4 + 2 ≤ 700 * 1
    decide, rfl, rfl⟩
  | .bool true, _ => ⟨by
    rw [PyData.shown_bool]
    show 4 + 2 ≤ 700 * 1
    decide, rfl, rfl⟩
  | .bool false, _ => ⟨by
    rw [PyData.shown_bool]
    show 5 + 2 ≤ 700 * 1
    decide, rfl, rfl⟩
  | .int i, h => by
    have hi : i.natAbs < 2 ^ 1900 := by
      rw [repIn] at h
      exact of_decide_eq_true h
    refine ⟨?_, ?_, rfl⟩
    · have e := int_text_length_le10 (k := 640) (by decide) (pow2_10 hi)
      have e2 : (PyData.int i).shown.length ≤ 641 := by
        show (Str.ofString (toString i)).length ≤ 641
        rw [PySem.ofString_length]
        exact e
      show (PyData.int i).shown.length + 2 ≤ 700 * 1
      omega
    · show decide _ = true
      refine decide_eq_true ?_
      by_cases hz : i.natAbs = 0
      · rw [hz]
        decide
      · exact Nat.lt_trans ((Nat.log2_lt hz).mpr hi) (by decide)
  | .list xs, h => by
    obtain ⟨h1, h2, h3⟩ := shown_roomL xs h
    refine ⟨?_, h2, h3⟩
    have h4 := listText_len_le (PyData.shownAll xs)
    have h5 : (PyData.list xs).shown = listText (PyData.shownAll xs) := by simp only [PyData.shown]
    rw [h5, nodes]
    omega
  | .tuple xs, h => by
    obtain ⟨h1, h2, h3⟩ := shown_roomL xs h
    refine ⟨?_, h2, h3⟩
    have h4 := tupleText_len_le (PyData.shownAll xs)
    have h5 : (PyData.tuple xs).shown = tupleText (PyData.shownAll xs) := by simp only [PyData.shown]
    rw [h5, nodes]
    omega
  | .str _, h => by cases h
  | .dict _, h => by cases h
theorem shown_roomL : ∀ xs : List D, repInL xs = true → ((PyData.shownAll xs).map (·.length)).sum + 2 * (PyData.shownAll xs).length ≤ 700 * nodesL xs ∧ PyData.showableAll xs = true ∧ PyData.hasDictAll xs = false
  | [], _ => ⟨Nat.le_refl 0, rfl, rfl⟩
  | x :: xs, h => by
    rw [repInL, Bool.and_eq_true] at h
    obtain ⟨a1, a2, a3⟩ := shown_room x h.1
    obtain ⟨b1, b2, b3⟩ := shown_roomL xs h.2
    refine ⟨?_, ?_, ?_⟩
    · rw [PyData.shownAll_cons, List.map_cons, List.sum_cons, List.length_cons, nodesL]
      omega
    · rw [PyData.showableAll, a2, b2]
      rfl
    · rw [PyData.hasDictAll, a3, b3]
      rfl
end
/-- what repr writes -/
def reprD (d : D) : Option D := if SeqAt.shaped d && repIn d && decide (nodes d ≤ 20000) then some (.str d.shown) else none
theorem reprD_of {d e : D} (h : reprD d = some e) : SeqAt.shaped d = true ∧ repIn d = true ∧ nodes d ≤ 20000 ∧ e = .str d.shown := by
  unfold reprD at h
  split at h
  · rename_i hc
    rw [Bool.and_eq_true, Bool.and_eq_true] at hc
    cases h
    exact ⟨hc.1.1, hc.1.2, of_decide_eq_true hc.2, rfl⟩
  · cases h
/-- texts that differ -/
def neS : D → D → Option Bool
  | .str a, .str b => some (!decide (a = b))
  | _, _ => none
def rReprD (K : PySem.W.Frag) : List V → Hp → VK → Prop := fun vs H Q => ∃ v d, vs = [v] ∧ Dp K H v d ∧ SeqAt.shaped d = true ∧ repIn d = true ∧ nodes d ≤ 20000 ∧ Q (.str d.shown) H
section
variable {X : Cx} {a b : Expr} {f g : Den} {p pos : Pos}
theorem cr_reprD (hG : X.A.guards = some []) (hu : X.A.units + 68 < cLine) : CallR X (.builtin "repr") (rReprD X.K) := by
  intro pins s σ H vs us Q I r h
  obtain ⟨v, d, rfl, hd, hsh, hri, hno, q⟩ := h
  cases r with
  | cons r1 r2 =>
    cases r2
    rename_i u
    obtain ⟨as, hrd⟩ := Dp.reads I d v u hd r1
    obtain ⟨k1, k2, k3⟩ := shown_room d hri
    have hdep := SeqAt.depth_of_shaped hsh
    have hlen : d.shown.length ≤ sizeLine := by
      have : sizeLine = 16777216 := by decide
      omega
    have big : ∀ (l : Addr), u = .ref l → wpAny (model X.prog X.w) X.A (call (.builtin "repr") [u]) (EP X pins σ Q) X.xe s := fun l hl => by
      subst hl
      refine repr_of_reads' hrd k2 (fun z => by rw [k3] at z; cases z) hG (by omega) (fun _ _ z => z) (fun h' u' tk hk => ⟨.str d.shown, H, I.kept hk, ⟨_, rfl⟩, q⟩) hlen
    cases hrd with
    | none => exact PySem.P.repr_of_none ⟨.str _, H, I.tok _, ⟨_, rfl⟩, by rw [PyData.shown_none] at q; exact q⟩
    | bool c => exact PySem.P.repr_of_bool ⟨.str _, H, I.tok _, ⟨_, rfl⟩, by rw [PyData.shown_bool] at q; exact q⟩
    | int i t =>
      have hs : i.natAbs.log2 < 1920 := of_decide_eq_true k2
      exact PySem.P.repr_of_int hs ⟨.str _, H, I.tok _, ⟨_, rfl⟩, by rw [PyData.shown_int] at q; exact q⟩
    | str x t => cases hri
    | list h1 h2 h3 h4 => exact big _ rfl
    | tuple h1 h2 h3 h4 => exact big _ rfl
    | dict h1 h2 h3 h4 h5 => cases hri
theorem ex_repr (hG : X.A.guards = some []) (hu : X.A.units + 68 < cLine) (hg : Gl X "repr") (hm : X.mg "repr" = none) (ha : EB X a f) (hs : N1 X a) : EX X (.Call (.Name "repr" p) [a] [] pos) (d1 reprD f) :=
  ex_c1 (pe_callB (cr_reprD hG hu) hg hm rfl (pa_cons ha.pe pa_nil hs) (by decide) (by decide) hs rfl) fun x u d F H Q e s ru k => by
    obtain ⟨e1, e2, e3, rfl⟩ := reprD_of e
    exact ⟨u, x, rfl, ru.dp s (plain_of_shaped e1), e1, e2, e3, k _ F H (.refl s) (.str _)⟩
theorem ec_neS (ha : EB X a f) (hb : EB X b g) : EC X .NotEq a b (b2 neS f g) :=
  mkC op_ne ha hb fun x y u v d F H Q e s ru rv k => by
    unfold neS at e
    split at e
    · cases e
      rw [ru.str, rv.str]
      refine ⟨rfl, ?_⟩
      rename_i s1 s2
      have : decide (V.str s1 = V.str s2) = decide (s1 = s2) := by
        by_cases h : s1 = s2
        · rw [decide_eq_true h, decide_eq_true (by rw [h])]
        · rw [decide_eq_false h, decide_eq_false (fun z => h (by cases z; rfl))]
      rw [this]
      exact k
    · cases e
end
/-! ### a law's def at the claim's own caller -/
structure BdG (P : Program) (w : World) (K : PySem.W.Frag) (mg : Str → Option Value) (base : Heap) (k : Nat) (N : List Str) (x : Str) (body : List Stmt) (scope : Scope) (f : Addr) (fb : DenS) : Prop where
  h : ∀ (cdv : Value) (A : Around) (outer : List PySem.Env) (s : Shared) (H : Hp) (E : XK), A.guards = some [] → Room k (A.deeper (PyProof.Rows.envOfC x scope s.heap.objs.size f cdv)) → SXs (cxOf CX0 P w K mg base N x scope f cdv A outer s H E).nox body fb
/-- a def read at the claim's own caller -/
def AtCaller (P : Program) (w : World) (K : PySem.W.Frag) (mg : Str → Option Value) (base : Heap) (f : Addr) (fd : FuncData) (ps : List Str) (sp : Sp) : Prop :=
  ∀ (s : Shared) (H : Hp) (us : List Value) (vs : List V) (Q : VK) (E : XK), Env0 P w K mg base callerA [] s H → BindsTo s fd ⟨us, []⟩ (ps.zip us) → Vals vs us → sp vs H Q E →
    codeAny (model P w) callerA (.call (.ref f) ⟨us, []⟩) (CR CX0 [] P w H s Q E) s
section
variable {P : Program} {w : World} {K : PySem.W.Frag} {mg : Str → Option Value} {base : Heap} {k : Nat} {N ps : List Str} {x : Str} {params : Arguments} {body : List Stmt} {scope : Scope} {f : Addr} {fd : FuncData} {fb : DenS} {n : Nat}
theorem at_caller (F : FunD K x x params body scope [] [] f fd) (S : FnScope N ps scope) (hr : Room (k + 1) callerA)
    (hn : ps.length = n) (B : BdG P w K mg base k N x body scope f fb) : AtCaller P w K mg base f fd ps (spX K n (runX fb N.length)) := by
  intro s H us vs Q E env bnd rel sp
  obtain ⟨oc, od, dV, kV, doc, pm, an, cdv, ct, osl, rfl, known, coded, -, -⟩ := F.ex
  have lens : vs.length = ps.length := by
    obtain ⟨F1, ds, d, _, r, hl, _⟩ := sp
    rw [r.length, hl, hn]
  have hold : ∀ b o, base.get? b = some o → s.heap.get? b = some o := fun b o z => (env.bs b o z).1
  have inHeap : K.In s.heap := env.mod.kin.keeps hold
  refine codeAny_call_function hr.depth (inHeap _ _ known) rfl S.co S.gen rfl (PySem.W.codeRec_of inHeap coded) (bnd _ _ _ _ ?_)
  refine wpAny_newFunctionEnv_cells S.kind (fun y hy => ?_) fun frame hframe s1 made => ?_
  · obtain ⟨yn, yv⟩ := y
    have hyp : yn ∈ ps := (List.of_mem_zip hy).1
    cases S.par yn hyp with
    | inl z => exact Or.inl z
    | inr z => exact Or.inr ⟨z, PySem.W.cellsFrom_some _ _ _ (Or.inl z)⟩
  · subst hframe
    refine ⟨(env.mod.nolimit.keeps hold).keeps made.toInCall.keep, codeAny_func ?_⟩
    have start0 : Inv (cxOf CX0 P w K mg base N x scope f cdv callerA [] s H E) [] (L2.start N vs) H s1 := inv_start S hr.hd env lens rel made
    have body0 : PSs (cxOf CX0 P w K mg base N x scope f cdv callerA [] s H E) body (tSt K fb) := (B.h cdv callerA [] s H E rfl (hr.deeper _)).pss.nox
    have wish : tSt K fb { nx := fun _ H' => Q .non H', rt := Q } (L2.start N vs) H := by
      obtain ⟨F1, ds, d, s1, r, hl, hd, kk⟩ := sp
      unfold runX at hd
      refine ⟨F1, H, env0 N.length ds, F1, ?_⟩
      have e : EnvS K F1 H (env0 N.length ds) (L2.start N vs) F1 H := ⟨env0_ok s1 r, .refl s1, fun i d a h1 => (env0_ow h1).elim⟩
      split at hd
      · rename_i d' hf
        cases hd
        exact ⟨_, e, hf, fun v F' H' x' r' => kk v F' H' x' r'⟩
      · rename_i d' hf
        cases hd
        refine ⟨_, e, hf, fun a o F' H' x' g1 g2 g3 g4 => ?_⟩
        refine kk (.ref a) (upd F' a o) H' (x'.put g1 g2 g3 g4.nt) ?_
        · have sF : Sub F' (upd F' a o) := Sub.new g1
          cases g4 with
          | lst t => exact .lst upd_same (t.mono sF)
          | dK t => exact .dK (.inl upd_same) (t.mono sF)
          | dT t => exact .dT (.inl upd_same) (t.mono sF)
      · rename_i ρ' hf
        cases hd
        exact ⟨_, e, hf, fun σ' F' H' e' => kk .non F' H' e'.ext .non⟩
      · cases hd
    refine wpAny_mono (body0.run [] s1 (L2.start N vs) H _ start0 wish) (fun flow s2 post => ?_) fun _ _ z => z
    cases flow with
    | next =>
      obtain ⟨_, H2, J, z⟩ := post
      exact ⟨V.non, H2, J.os, J.bare, J.base, J.hok, rfl, z⟩
    | ret u =>
      obtain ⟨v, _, H2, J, ru, z⟩ := post
      exact ⟨v, H2, J.os, J.bare, J.base, J.hok, ru, z⟩
    | brk =>
      obtain ⟨_, _, _, z⟩ := post
      exact z.elim
    | cont =>
      obtain ⟨_, _, _, z⟩ := post
      exact z.elim
end
/-- the law's end, for a def that is read at the claim's own caller -/
theorem end_caller {P : Program} {w : World} {K : PySem.W.Frag} {mg mb : Str → Option Value} {fa a : Addr} {fd : FuncData} {x : Str} {sp : Sp} {s₁ : Shared} {vs : List Value} {ns : List Int}
    (kin : K.In s₁.heap) (nsm : s₁.heap.Ns mainGlobals mg) (nsb : s₁.heap.Ns builtinsNs mb) (boot : ∀ x : Str, x ≠ "__name__" → mb x = bootBuiltins x) (nolim : s₁.heap.NoLimit) (nogen : s₁.gens = #[])
    (obj : s₁.heap.get? a = some { cls := .type "list", data := .seq vs.toArray }) (hints : IntsAre vs ns) (small : ns.length ≤ sizeLine)
    (F : ∀ base : Heap, K.In base → base.Ns mainGlobals mg → AtCaller P w K mg base fa fd [x] sp) (bnd : ∀ (s : Shared) (u : Value), BindsTo s fd ⟨[u], []⟩ [(x, u)])
    (wish : ∀ H : Hp, Only H → SqL K H a (ns.map V.int) → sp [.ref a] H (fun v _ => v = .bl true) fun _ _ _ => False) :
    codeAny (model P w) callerA (.call (.ref fa) ⟨[.ref a], []⟩) (fun r s' => r = .ok (.ret (.bool true)) ∧ OldK s₁.heap s'.heap ∧ s'.os = s₁.os ∧ AllBare s'.gens) s₁ := by
  have rel := vals_ints hints
  have len := hints.length
  -- the script is tracked just where the written part does not hold it
  have any : ∃ H : Hp, Only H ∧ SqL K H a (ns.map V.int) ∧ HOk P w H s₁.heap ∧ ∀ b, H b ≠ none → b = a ∧ K.lookup a = none := by
    cases look : K.lookup a with
    | some o =>
      have same := kin a o look
      rw [obj] at same
      injection same with same
      subst same
      refine ⟨fun _ => none, fun _ => Or.inl rfl, Or.inr ⟨_, vs.toArray, _, look, rfl, rfl, rfl, ?_, ?_⟩, fun b u z => ?_, fun b z => (z rfl).elim⟩
      · rw [List.size_toArray, len]
        exact small
      · simpa using rel
      · exact nomatch z
    | none =>
      refine ⟨fun b => if b = a then some (.frz { cls := .type "list", data := .seq vs.toArray } (.lst (ns.map V.int))) else none, fun b => ?_, Or.inl (Or.inr ⟨{ cls := .type "list", data := .seq vs.toArray }, if_pos rfl⟩), fun b u z => ?_, fun b z => ⟨?_, rfl⟩⟩
      · by_cases hb : b = a
        · exact Or.inr ⟨_, _, if_pos hb⟩
        · exact Or.inl (if_neg hb)
      · by_cases hb : b = a
        · have z' := (if_pos hb).symm.trans z
          injection z' with z'
          subst z' hb
          exact ⟨obj, by rw [List.length_map]; exact small, vs, _, rel, obj⟩
        · exact nomatch (if_neg hb).symm.trans z
      · refine Decidable.byContradiction fun hb => z ?_
        exact if_neg hb
  obtain ⟨H, only, seq, hok, just⟩ := any
  have stays : ∀ {b : Addr} {o : Obj}, s₁.heap.get? b = some o → H b = none → (hidT s₁.heap H).get? b = some o := fun z1 z2 => hidT_get z1 z2
  have notD : ∀ {b : Addr} {o : Obj} {es : Array DictEntry} {ep : Nat}, s₁.heap.get? b = some o → o.data = .dict es ep → H b = none := fun {b o es ep} z1 z2 => by
    refine Classical.byContradiction fun z3 => ?_
    obtain ⟨rfl, _⟩ := just b z3
    rw [obj] at z1
    injection z1 with z1
    subst z1
    cases z2
  have spaces : ∀ {b : Addr} {m : Str → Option Value}, s₁.heap.Ns b m → (hidT s₁.heap H).Ns b m := fun {b m} ⟨o, es, ep, z1, z2, z3⟩ => ⟨o, es, ep, stays z1 (notD z1 z2), z2, z3⟩
  have kin' : K.In (hidT s₁.heap H) := fun b o z => stays (kin b o z) (Classical.byContradiction fun z3 => by
    obtain ⟨rfl, z4⟩ := just b z3
    rw [z4] at z
    cases z)
  obtain ⟨mc, l1, l2⟩ := nolim
  have module : Mod K mg (hidT s₁.heap H) := ⟨kin', spaces nsm, ⟨mb, spaces nsb, boot⟩, ⟨mc, spaces l1, l2⟩⟩
  have ahead : Env0 P w K mg (hidT s₁.heap H) callerA [] s₁ H := ⟨rfl, module, fun b o z => of_hidT z, Nat.le_of_eq (hidT_size _ _), trivial, fun b z => by simp [frs] at z, hok, .of_eq nogen⟩
  refine codeAny_mono (F _ kin' (spaces nsm) s₁ H [.ref a] [.ref a] _ _ ahead (bnd s₁ (.ref a)) (.cons rfl .nil) (wish H only seq)) fun r s' post => ?_
  match r, post with
  | .error e, z => exact (z : CX0 [] H s₁ (fun _ _ _ => False) e s').elim
  | .ok (.ret u), ⟨v, H', os, bare, un, hok', ru, q⟩ =>
    have q' : v = .bl true := q
    subst q'
    have hu : u = Value.bool true := ru
    subst hu
    refine ⟨rfl, OldK.of_keep fun b o z => ?_, os, bare⟩
    rcases only b with h0 | ⟨ob, xs, h0⟩
    · exact un.keep b o z h0 (fun z2 => by simp [frs] at z2) (fun z2 => by cases z2)
    · have h2 := un.frzs b ob _ h0
      have g1 := (hok b _ h0).1
      have g2 := (hok' b _ h2).1
      rw [z] at g1
      injection g1 with g1
      subst g1
      exact g2
/-- the goal that the head leaves, from the law's def at the claim's own caller -/
theorem walk_ofG {l : PySem.W.OpenLaw} {n : Nat} {q : Program} {loose : List Str} {XP : (Str → Option Value) → Heap → Prop} {YP : World → Heap → Prop} {d : DefRec} {x : Str}
    (hn : l.most = some n) (hn2 : n ≤ sizeLine) (hdf : d.params.defaults = [])
    (F : ∀ (w : World) (mg : Str → Option Value) (fa : Addr) (h : Heap), YP w h → h.Ns mainGlobals mg → mg d.name = some (.ref fa) →
      ∃ (K : PySem.W.Frag) (fd : FuncData) (sp : Sp), K.In h ∧ (∀ (s : Shared) (u : Value), BindsTo s fd ⟨[u], []⟩ [(x, u)]) ∧
        (∀ (H : Hp) (a : Addr) (ns : List Int), ns.length ≤ n → Only H → SqL K H a (ns.map V.int) → sp [.ref a] H (fun v _ => v = .bl true) fun _ _ _ => False) ∧
        ∀ base : Heap, K.In base → base.Ns mainGlobals mg → AtCaller l.prog w K mg base fa fd [x] sp) :
    PySem.W.WalkO q loose XP YP l.row.toRowW d [] (fun f vs => PySem.call f vs) := by
  refine Att.attach_call hn hdf ?_
  intro w _ s₁ mg mb fa _ _ _ _ a vs ns G Y _ _ _ hmg hobj hints hlen hg
  obtain ⟨K, fd, sp, kin, hb, hsp, hF⟩ := F w mg fa _ Y G.T.g hmg
  exact end_caller kin G.T.g G.T.b G.T.builtins G.T.nolimit hg hobj hints (Nat.le_trans hlen hn2) hF hb fun H o S => hsp H a ns hlen o S
end Zx
/-! Zx21: is True, is not True. -/
namespace Zx
variable [Marked]
open PySem PySem.Spec L2
def isT : D → D → Option Bool
  | .bool a, .bool b => some (decide (a = b))
  | _, _ => none
def notT : D → D → Option Bool
  | .bool a, .bool b => some (!decide (a = b))
  | _, _ => none
section
variable {X : Cx} {a b : Expr} {f g : Den}
theorem ec_isT (ha : EB X a f) (hb : EB X b g) : EC X .Is a b (b2 isT f g) :=
  mkC op_is_bl ha hb fun x y u v d F H Q e s ru rv k => by
    unfold isT at e
    split at e
    · cases e
      exact ⟨_, _, ru.bool, rv.bool, k⟩
    · cases e
theorem ec_notT (ha : EB X a f) (hb : EB X b g) : EC X .IsNot a b (b2 notT f g) :=
  mkC op_isnot_bl ha hb fun x y u v d F H Q e s ru rv k => by
    unfold notT at e
    split at e
    · cases e
      exact ⟨_, _, ru.bool, rv.bool, k⟩
    · cases e
end
end Zx
/-! Zx22: two names at once, the first one's own; x or y; a tuple times a number. -/
namespace Zx
variable [Marked]
open PySem PySem.Spec L2 PyProof.Rows
section
variable {X : Cx} {a b : Expr} {f g : Den} {pos : Pos} {rest : List Expr}
/-- x, y = a new list, a value -/
def sParO (i j : Nat) (f g : Den) : DenS := fun ρ => (f ρ).bind fun d => (g ρ).bind fun e => some (.nx ((ρ.set i (.ow d)).set j (.fz e)))
theorem sx_parO (i j : Nat) {x y : Str} {px py pt : Pos} {kt k2 pt2} (hc : X.calm = true) (hN : X.N.Nodup) (hi : X.N[i]? = some x) (hj : X.N[j]? = some y) (hij : i ≠ j)
    (hx : X.env.scope.names.lookup x = some .local) (hy : X.env.scope.names.lookup y = some .local) (ha : EN X a f) (hb : EX X b g) (hsa : starEach [a, b] X.env = (false, eval a X.env) :: starEach [b] X.env) (hsb : starEach [b] X.env = (false, eval b X.env) :: starEach [] X.env)
    (hw : swappedStores [.Tuple [.Name x px, .Name y py] kt pt] (.Tuple [a, b] k2 pt2) X.env = pure (some [x, y]))
    (hs : swapsWithSole [.Tuple [.Name x px, .Name y py] kt pt] (.Tuple [a, b] k2 pt2) pos.line X.env = pure false) :
    SX X (.Assign [.Tuple [.Name x px, .Name y py] kt pt] (.Tuple [a, b] k2 pt2) pos) (sParO i j f g) := sx_mk (ps_par hc hN hi hj hij hx hy (pa_cons ha.pe (pa_cons hb.pe pa_nil hsb) hsa) hw hs) fun D σ H F0 H0 ρ F o e h k => by
  simp only [sParO, Option.bind_eq_some_iff, Option.some.injEq] at h
  obtain ⟨d, h1, d2, h2, rfl⟩ := h
  refine ⟨ρ, F, d, e.env, h1, fun p ob F1 H1 x1 hF hp hH r1 => ?_⟩
  refine ⟨ρ, F1, d2, e.env.ext x1, h2, fun v F2 H2 x2 r2 => ?_⟩
  exact ⟨_, _, rfl, k _ F2 H2 ((e.setOwn (x1.trans x2) hp (x2.new p (by rw [hH]; exact fun z => nomatch z) hF) (x2.h.n _ _ hH r1.nt) (r1.mono x2.f)).set r2)⟩
/-- x or y, by truth -/
def dOrT (f g : Den) : Den := fun ρ => (f ρ).bind fun x => (truD x).bind fun c => if c then some x else g ρ
theorem ex_orT (ha : EX X a f) (hb : EX X (.BoolOp .Or (b :: rest) pos) g) : EX X (.BoolOp .Or (a :: b :: rest) pos) (dOrT f g) :=
  mkX (pe_orT ha.pe hb.pe) fun σ H Q ρ F d e h k => by
    simp only [dOrT, Option.bind_eq_some_iff] at h
    obtain ⟨x, h1, c, h2, h3⟩ := h
    refine ⟨ρ, F, x, e, h1, fun v F1 H1 x1 r1 => ⟨c, truD_ok x1.le (.inl r1) h2, ?_⟩⟩
    cases c with
    | true =>
      rw [if_pos rfl] at h3
      cases h3
      rw [if_pos rfl]
      exact k _ F1 H1 x1 r1
    | false =>
      rw [if_neg (by decide)] at h3
      rw [if_neg (by decide)]
      exact ⟨ρ, F1, d, e.ext x1, h3, fun w F2 H2 x2 r2 => k w F2 H2 (x1.trans x2) r2⟩
/-! ### a tuple times a number -/
theorem tuple_mul1 (l : Addr) (items : Array Value) (n : Nat) (sl : Array (Option Value)) (dd : Option Addr) (u : Tok) :
    Meets (Builtin.«tuple.__mul__» ⟨[.ref l, .int 1 u], []⟩) (fun _ R s => s.heap.get? l = some { cls := .type "tuple", dict := dd, data := .seq items n, slots := sl } ∧ R (.ok (.ret (Value.ref l))) s) :=
  .of_wp fun prog w A R s h => by
    obtain ⟨hp, g, d, tk, os⟩ := s
    obtain ⟨hl, h⟩ := h
    have f1 := AutoSeq1.idx_int
    wp_walk using wpAny_loadPart' hl
    exact ⟨_, rfl, h⟩
def rRepZ (K : PySem.W.Frag) : R2 := fun x y H Q => (∃ l xs, x = .ref l ∧ y = .int 1 ∧ SqT K H l xs ∧ Q (.ref l) H) ∨ rRepT K x y H Q
theorem op_repZ : OpR X (binaryOp .Mult) (rRepZ X.K) := by
  intro pins s σ H x y v u Q I rx ry h
  rcases h with h | h
  · obtain ⟨l, xs, rfl, rfl, hT, q⟩ := h
    cases rx
    obtain ⟨t, rfl⟩ := ry
    obtain ⟨its, r, ⟨⟨kind, dict, dat, slt⟩, at_, kd, num, sq⟩, small⟩ := I.tuple hT
    simp only at kd sq
    subst kd sq
    refine wpAny_binaryOp_repeat_ref (T := "tuple") (U := "int") (by decide) ⟨_, at_, rfl⟩ (fun s2 => typeIs_int s2 1 t) L2.noFill_tuple_mul F.fills_int_mul
      F.slot_int_rmul L2.repeat_tuple F.slot_int_index.lookup ?_
    refine call_meets F.slot_int_rmul (typeIs_int s 1 t) F.entry_int_rmul (F.args_int_rmul_2 _ _) (L2.int_rmul_tuple 1 t l its.toArray num dict slt) ⟨at_, rfl, ⟨_, at_, rfl⟩, ?_⟩
    refine call_meets F.slot_tuple_mul ⟨_, at_, rfl⟩ F.entry_tuple_mul (F.args_tuple_mul_2 _ _) (tuple_mul1 l its.toArray num slt dict t) ⟨at_, ?_⟩
    exact ⟨.ref l, H, I, rfl, q⟩
  · exact op_repT pins s σ H x y v u Q I rx ry h
def repT : D → D → Option D
  | .tuple xs, .int k => if k = 1 then some (.tuple xs) else if 2 ≤ k ∧ k ≤ 1000 ∧ xs.length ≤ 1000 ∧ xs ≠ [] then some (.tuple (List.replicate k.toNat xs).flatten) else none
  | _, _ => none
theorem ex_repT (ha : EB X a f) (hb : EB X b g) : EX X (.BinOp a .Mult b pos) (d2 repT f g) :=
  ex_op2 (ta := tC .non) (tb := tC .non) (pe_op op_repZ ha.pe hb.pe) fun x y u v d F H Q e s ru rv k => by
    unfold repT at e
    split at e
    · rename_i xs i
      obtain ⟨p, vs, rfl, hp, rp⟩ := ru.tuple s
      have hv := rv.int
      subst hv
      split at e
      · rename_i h1
        cases e
        subst h1
        refine .inl ⟨p, vs, rfl, rfl, .inl (.inl hp), k _ F H (.refl s) ?_⟩
        rcases ru with h | ⟨q, o, _, _, _, h2⟩
        · exact h
        · cases h2
      · split at e
        · rename_i h1 h2
          cases e
          refine .inr ⟨p, i, vs, rfl, rfl, .inl (.inl hp), ?_, h2.1, h2.2.1, by rw [rp.length]; exact h2.2.2.1, fun t ht => ?_⟩
          · intro z
            subst z
            cases rp
            exact h2.2.2.2 rfl
          · have sF : Sub F (upd F t (.tup (List.replicate i.toNat vs).flatten)) := Sub.new (s.free ht)
            exact k _ _ _ (.add s ht) (.tup upd_same ((repL rp _).mono sF))
        · cases e
    · cases e
end
/-! ### a def that calls itself: nothing is promised where the fuel is used up -/
theorem fx_none {P : Program} {w : World} {K : PySem.W.Frag} {mg : Str → Option Value} {base : Heap} {k : Nat} {ps : List Str} {x : Str} {params : Arguments} {body : List Stmt} {scope : Scope} {f : Addr} {fd : FuncData} {n : Nat}
    (F : FunD K x x params body scope [] [] f fd) (hm : mg x = some (.ref f))
    (hb : ∀ (kV doc pm : Value) (an : Option Addr) (cdv ct : Value) (us : List Value), us.length = ps.length → bindArgs (PySem.W.fnOf x x params body scope .none kV doc pm an cdv ct) ⟨us, []⟩ = pure (ps.zip us)) : FX P w K mg base k x n fun _ => none :=
  ⟨f, fd, ps, ⟨fun vs H Q E ⟨_, _, _, _, _, _, h, _⟩ => (nomatch h), fun A outer s H args us vs Q E hr e0 hb2 rv ⟨_, _, _, _, _, _, h, _⟩ => (nomatch h)⟩, hm, F.kp, F.bindsN hb⟩
end Zx
/-! Zx23: a def under another name of the module. -/
namespace Zx
variable [Marked]
open PySem PySem.Spec L2
theorem fx_ofA {P : Program} {w : World} {K : PySem.W.Frag} {mg : Str → Option Value} {base : Heap} {k : Nat} {N ps : List Str} {x y : Str} {params : Arguments} {body : List Stmt} {scope : Scope} {f : Addr} {fd : FuncData} {n : Nat} {fb : DenS}
    (F : FunD K y y params body scope [] [] f fd) (S : FnScope N ps scope) (hm : mg x = some (.ref f))
    (hb : ∀ (kV doc pm : Value) (an : Option Addr) (cdv ct : Value) (us : List Value), us.length = ps.length → bindArgs (PySem.W.fnOf y y params body scope .none kV doc pm an cdv ct) ⟨us, []⟩ = pure (ps.zip us))
    (hn : ps.length = n) (B : Bd P w K mg base k N y body scope f fb) : FX P w K mg base (k + 1) x n (runX fb N.length) := ⟨f, fd, ps, fo_of F S hb hn B, hm, F.kp, F.bindsN hb⟩
end Zx
/-! Zx24: a def whose code object is known; the start with a table of code objects. -/
namespace Zx
variable [Marked]
open PySem PySem.Spec L2
/-- a def's body read, its code object at c, the table at C -/
structure BdC (c C : Addr) (P : Program) (w : World) (K : PySem.W.Frag) (mg : Str → Option Value) (base : Heap) (k : Nat) (N : List Str) (x : Str) (body : List Stmt) (scope : Scope) (f : Addr) (fb : DenS) : Prop where
  h : ∀ (A : Around) (outer : List PySem.Env) (s : Shared) (H : Hp) (E : XK), Room k (A.deeper (PyProof.Rows.envOfC x scope s.heap.objs.size f (.ref c))) → SXs (cxOf CX0 P w K mg base N x scope f (.ref c) A outer s H E).nox body fb
section
variable {c C : Addr} {P : Program} {w : World} {K : PySem.W.Frag} {mg : Str → Option Value} {base : Heap} {k : Nat} {N ps : List Str} {x : Str} {params : Arguments} {body : List Stmt} {scope : Scope} {f : Addr} {fd : FuncData} {fb : DenS} {n : Nat}
theorem fo_ofC (F : FunD K x x params body scope [] [] f fd) (hc : fd.code = .ref c) (S : FnScope N ps scope)
    (hn : ps.length = n) (B : BdC c C P w K mg base k N x body scope f fb) : FnOk P w K mg base CX0 (k + 1) f fd ps (spX K n (runX fb N.length)) := by
  obtain ⟨oc, od, dV, kV, doc, pm, an, cdv, ct, osl, rfl, lk, hcd, _, _⟩ := F.ex
  have hc' : cdv = .ref c := hc
  subst hc'
  refine fn_of lk hcd S (fun vs H Q E h => ?_) fun A outer s H vs Q E hr h => ⟨tSt K fb, (B.h A outer s H E hr).pss.nox, ?_⟩
  · obtain ⟨F1, ds, d, _, r, hl, _⟩ := h
    rw [r.length, hl, hn]
  · obtain ⟨F1, ds, d, s1, r, hl, hd, k⟩ := h
    unfold runX at hd
    refine ⟨F1, H, env0 N.length ds, F1, ?_⟩
    have e : EnvS K F1 H (env0 N.length ds) (L2.start N vs) F1 H := ⟨env0_ok s1 r, .refl s1, fun i d a h1 => (env0_ow h1).elim⟩
    split at hd
    · rename_i d' hf
      cases hd
      exact ⟨_, e, hf, fun v F' H' x' r' => k v F' H' x' r'⟩
    · rename_i d' hf
      cases hd
      refine ⟨_, e, hf, fun a o F' H' x' g1 g2 g3 g4 => ?_⟩
      refine k (.ref a) (upd F' a o) H' (x'.put g1 g2 g3 g4.nt) ?_
      · have sF : Sub F' (upd F' a o) := Sub.new g1
        cases g4 with
        | lst t => exact .lst upd_same (t.mono sF)
        | dK t => exact .dK (.inl upd_same) (t.mono sF)
        | dT t => exact .dT (.inl upd_same) (t.mono sF)
    · rename_i ρ' hf
      cases hd
      exact ⟨_, e, hf, fun σ' F' H' e' => k .non F' H' e'.ext .non⟩
    · cases hd
theorem fx_ofC (F : FunD K x x params body scope [] [] f fd) (hc : fd.code = .ref c) (S : FnScope N ps scope) (hm : mg x = some (.ref f))
    (hb : ∀ (kV doc pm : Value) (an : Option Addr) (cdv ct : Value) (us : List Value), us.length = ps.length → bindArgs (PySem.W.fnOf x x params body scope .none kV doc pm an cdv ct) ⟨us, []⟩ = pure (ps.zip us))
    (hn : ps.length = n) (B : BdC c C P w K mg base k N x body scope f fb) : FX P w K mg base (k + 1) x n (runX fb N.length) := ⟨f, fd, ps, fo_ofC F hc S hn B, hm, F.kp, F.bindsN hb⟩
end
/-! ### the start -/
/-- the frozen part at the start: all but the tables -/
def F0 (H : Hp) : Hp := fun a => match H a with
  | some (.tbl _) => none
  | o => o
theorem f0_at {H : Hp} {a : Addr} {o : HO} (h : F0 H a = some o) : H a = some o ∧ Nt o := by
  unfold F0 at h
  split at h
  · cases h
  · rename_i nn
    exact ⟨h, fun ps z => nn ps (by rw [h, z])⟩
theorem f0_of {H : Hp} {a : Addr} {o : HO} (h : H a = some o) (n : Nt o) : F0 H a = some o := by
  unfold F0
  split
  · rename_i ps e
    rw [h] at e
    exact absurd (Option.some.inj e) (n _)
  · exact h
theorem le_start {H : Hp} (hC : ∀ P q, Mk P q → H P = some (.tbl #[])) : Le (F0 H) H := by
  refine ⟨⟨fun a o h n => (f0_at h).1, fun a h => ?_⟩, fun P q h => .nil (hC P q h)⟩
  unfold F0
  rw [h]
end Zx
/-! Zx25: a lambda is made: all but its maker's table stays. -/
namespace Zx
variable [Marked]
open PySem PySem.Spec PyProof.Rows L2 LamX
section
variable {X : Cx} {pins : List (Addr × Obj)} {σ : L2.St} {F H H1 : Hp} {s : Shared}
theorem lam_make3 {c P : Addr} {params : Arguments} {body : Expr} {scope : Scope} {pos : Pos} {E Q : Value → Shared → Prop} (I : Inv X pins σ H s) (TB : TabB X.base X.mg c P) (hcode : X.env.code = .ref c)
    (hT : TabS H P (X.env.qual ++ "<lambda>")) (hdef : defaultsOf params X.env = ([], [])) (hfree : ∀ y ∈ scope.names, y.2 = .free → ∃ c, X.env.cells.lookup y.1 = some c)
    (h : ∀ (f c' : Addr) (pm ctv : Value) (H1 : Hp) (s' : Shared), Inv X pins σ H1 s' → (∀ b o, b ≠ P → H b = some o → H1 b = some o) → TabS H1 P (X.env.qual ++ "<lambda>") →
      s'.heap.get? f = some (PySem.W.kla_obj "<lambda>" (X.env.qual ++ "<lambda>") params body scope (cloFrom X.env.cells scope.names []) pm c' ctv) → H1 f = none → f ∉ frs X.stack → H1 c' = some (CodeO c' (X.env.qual ++ "<lambda>")) → Q (.ref f) s') :
    wpAny (model X.prog X.w) X.A (eval (.Lambda params body scope pos) X.env) Q E s := by
  obtain ⟨ps, hP, tr, names⟩ := hT
  have bP := TB.bm.keeps I.bk
  have objP : s.heap.get? P = some { cls := .none, data := .fields ps } := I.hok P _ hP
  have away : ∀ f, s.heap.objs.size ≤ f → f ∉ frs X.stack := fun f hf z => by
    rcases List.mem_cons.mp (I.stkSub _ z) with e | e
    · exact absurd (e ▸ I.lt) (Nat.not_lt.mpr hf)
    · exact I.nofs hf e
  refine PySem.W.kla_eval hdef ?_
  rcases hc : codeAmong pos ps.toList with _ | cv
  · refine PySem.W.kla_makeFunction (mg := X.mg) (c := c) (P := P) (ps := ps) (closure_ok hfree) I.ok.glob (I.mod.glob.keeps I.bk) hcode (TB.code.keeps I.bk) objP tr hc TB.gP bP fun c' ctv h' tk ext hge hlt hrec htab => ?_
    obtain ⟨c2, oc, vs, t, e2, hoc, hd, hv⟩ := hrec
    cases e2
    have newC : H c' = none := I.hok.fresh hge
    have PC : P ≠ c' := fun z => by rw [← z, hP] at newC; cases newC
    have szP : P < s.heap.objs.size := Heap.lt_size objP
    refine h h'.objs.size c' ((X.mg "__name__").getD .none) ctv (upd (upd H P (.tbl (ps ++ #[rawInt pos.line, rawInt pos.col, .ref c']))) c' (CodeO c' (X.env.qual ++ "<lambda>"))) _
      (inv_table (t' := tk) (more := #[rawInt pos.line, rawInt pos.col, .ref c']) (h' := h'.push (PySem.W.kla_obj "<lambda>" (X.env.qual ++ "<lambda>") params body scope (cloFrom X.env.cells scope.names []) ((X.mg "__name__").getD .none) c' ctv)) I hP
        (fun b o hb e => Heap.get?_push_of_some _ (ext b o hb e)) (Heap.get?_push_of_some _ htab) hge ⟨oc, vs, t, Heap.get?_push_of_some _ hoc, hd, hv⟩)
      (fun b o hb e => by rw [upd_ne (ne_of_none e newC), upd_ne hb]; exact e) ⟨_, by rw [upd_ne PC, upd_same], ?_, fun p' cv hcv => ?_⟩ (Heap.get?_push_size _ rfl) ?_ (away _ (Nat.le_trans hge (Nat.le_of_lt hlt))) upd_same
    · rw [show (ps ++ #[rawInt pos.line, rawInt pos.col, .ref c']).toList = ps.toList ++ [rawInt pos.line, rawInt pos.col, .ref c'] by simp]
      exact PySem.TriplesOk_snoc _ _ _ _ tr
    · rw [show (ps ++ #[rawInt pos.line, rawInt pos.col, .ref c']).toList = ps.toList ++ [rawInt pos.line, rawInt pos.col, .ref c'] by simp] at hcv
      rcases among_app _ tr hcv with z | z
      · obtain ⟨c0, e1, e2⟩ := names p' cv z
        refine ⟨c0, e1, ?_⟩
        rw [upd_ne (ne_of_none e2 newC), upd_ne (fun z => by rw [z, hP] at e2; exact codeO_ne ps (Option.some.inj e2).symm)]
        exact e2
      · exact ⟨c', z, upd_same⟩
    · rw [upd_ne (Nat.ne_of_gt hlt), upd_ne (Nat.ne_of_gt (Nat.lt_of_lt_of_le szP (Nat.le_trans hge (Nat.le_of_lt hlt))))]
      exact I.hok.fresh (Nat.le_trans hge (Nat.le_of_lt hlt))
  · obtain ⟨c', rfl, code⟩ := names pos cv hc
    refine PySem.W.kla_makeFunctionHit (mg := X.mg) (c := c) (P := P) (ps := ps) (closure_ok hfree) I.ok.glob (I.mod.glob.keeps I.bk) hcode (TB.code.keeps I.bk) objP tr hc bP fun ctv h' tk ext hsz => ?_
    exact h h'.objs.size c' ((X.mg "__name__").getD .none) ctv H _ (I.kept (t' := tk) fun b o e => Heap.get?_push_of_some _ (ext b o e)) (fun b o _ e => e) ⟨ps, hP, tr, names⟩ (Heap.get?_push_size _ rfl) (I.hok.fresh hsz) (away _ hsz) code
/-- what is frozen stays so when the marked table is written -/
theorem Ext.lam {P : Addr} {q : Str} (s : Le F H) (m : Mk P q) (k : ∀ b o, b ≠ P → H b = some o → H1 b = some o) (t : TabS H1 P q) : Ext F H F H1 := by
  have hP1 : H1 P ≠ none := by
    obtain ⟨ps, h1, _⟩ := t
    rw [h1]
    exact fun z => nomatch z
  have g : Gr H H1 := ⟨fun a o h n => k a o (fun z => by
    obtain ⟨ps, h1, _⟩ := s.m P q m
    rw [z, h1] at h
    exact n ps (Option.some.inj h).symm) h, fun a h => by
    cases e : H a with
    | none => rfl
    | some o =>
      by_cases z : a = P
      · rw [z] at h; exact absurd h hP1
      · rw [k a o z e] at h; cases h⟩
  refine ⟨.refl _, g, ⟨s.g.trans g, fun P' q' h => ?_⟩, fun _ _ h => h⟩
  have e := h.symm.trans m
  injection e with e
  injection e with e1 e2
  rw [e1, e2]
  exact t
end
end Zx
/-! Zx26: sorted by keys that hold old lists. -/
namespace Zx
variable [Marked]
open PySem PySem.Calls PyProof.Rows PySem.W
section
variable {prog : Program} {w : World} {A : Around} {E : Value → Shared → Prop} {s : Shared} {a kS : Addr} {b : Bool} {vs : List Value} {e1 : Nat} {P : PySem.Fin → Shared → Prop} {kz : List PyData}
/-- a call that keeps all and gives the key k; its lists are old ones (of the heap old) -/
def KeyOld (old : Heap) (k : PyData) (s₁ : Shared) (v : Value) (s₂ : Shared) : Prop := ∃ as, (s₂.os = s₁.os ∧ AllBare s₂.gens) ∧ (∀ b o, s₁.heap.get? b = some o → s₂.heap.get? b = some o) ∧ Reads s₂.heap v k as ∧ ∀ x ∈ as, ∃ o, old.get? x = some o
theorem keyO_rest {f : Value} {h₁ : Heap} (kp : KeepsBut a h₁ s.heap) (hkS : h₁.get? kS = none) (nk : s.heap.get? kS = some (seqObj "list" #[] 0)) (na : s.heap.get? a = some (seqObj "list" #[] e1)) (hka : kS ≠ a)
    (hlen : kz.length = vs.length) (hZ : vs.length ≤ sizeLine) (hal : AllAlike kz) (hsk : Sortable kz) (hu : ∀ d, d ∈ kz → A.units + d.depth < cLine)
    (turn : ∀ (i : Nat) (v : Value) (k : PyData), vs[i]? = some v → kz[i]? = some k → ∀ (s' : Shared), (s'.os = s.os ∧ AllBare s'.gens) → KeepsBut a h₁ s'.heap →
      wpAny (model prog w) A (call f [v]) (KeyOld h₁ k s') (fun _ _ => False) s')
    (hg0 : AllBare s.gens) (h : ∀ (s' : Shared) out c, (s'.os = s.os ∧ AllBare s'.gens) → KeepsBut a h₁ s'.heap → s'.heap.get? a = some (seqObj "list" (List.toArray out) c) → KeyedOut b kz vs out → P (.done (.ret .none)) s') :
    wpAny (model prog w) A (ksk_rest a f b vs.toArray e1 (.ref kS)) P E s := by
  unfold ksk_rest
  refine wpAny_bind (wpAny_rule ?_)
  first
    | rw [List.forIn_toArray]
    | (rw [← Array.forIn_toList]; simp only [List.toList_toArray])
    | rw [← Array.forIn_toList]
  refine wpAny_bind (ksk_fold (fun i s' => ∃ kA e, (s'.os = s.os ∧ AllBare s'.gens) ∧ KeepsBut a h₁ s'.heap ∧ s'.heap.get? kS = some (seqObj "list" kA e) ∧ s'.heap.get? a = some (seqObj "list" #[] e1) ∧ EachIs (fun v k => (∃ as, Reads s'.heap v k as ∧ kS ∉ as) ∧ alike k k = true) kA.toList (kz.take i)) vs 0 s
    ⟨#[], 0, ⟨rfl, hg0⟩, kp, nk, na, by rw [List.take_zero]; exact EachIs.nil⟩ ?step ?done)
  case step =>
    rintro j x s' hx ⟨kA, e, st, kp', nk', na', hk⟩
    simp only [Nat.zero_add] at hk ⊢
    have hj : j < vs.length := (List.getElem?_eq_some_iff.mp hx).1
    obtain ⟨k, hkj⟩ : ∃ k, kz[j]? = some k := ⟨_, List.getElem?_eq_getElem (by omega)⟩
    have hkk : alike k k = true := hal k (List.mem_of_getElem? hkj) k (List.mem_of_getElem? hkj)
    have hz : kA.size ≤ vs.length := by
      have h1 := hk.length
      rw [Array.length_toList, List.length_take] at h1
      omega
    refine wpAny_bind (wpAny_attempt (wpAny_mono (turn j x k hx hkj s' st kp') (fun v s'' he => ?_) fun _ _ hF => hF.elim))
    obtain ⟨as, st2, hg, hr, hold⟩ := he
    generalize hgg : s''.heap = g at *
    have hnS : kS ∉ as := fun z => by
      obtain ⟨o, ho⟩ := hold _ z
      rw [hkS] at ho
      cases ho
    try dsimp only
    have nk2' : s''.heap.get? kS = some (seqObj "list" kA e) := by rw [hgg]; exact hg _ _ nk'
    have nk2 : g.get? kS = some (seqObj "list" kA e) := hg _ _ nk'
    have na2 : g.get? a = some (seqObj "list" #[] e1) := hg _ _ na'
    have s1 := Heap.SameBut.update g kS (Obj.mapSeq (·.push v))
    obtain ⟨c2, hc2⟩ : ∃ c2, (g.update kS (Obj.mapSeq (·.push v))).get? kS = some (seqObj "list" (kA.push v) c2) := ⟨_, get?_update_seq nk2 (·.push v)⟩
    have ek : kz.take (j + 1) = kz.take j ++ [k] := by rw [List.take_add_one, hkj]; simp
    have ea : (kA.push v).toList = kA.toList ++ [v] := by simp
    refine wpAny_bind (listUpdate_at nk2' rfl ?_ (Nat.le_trans hz hZ) (Nat.le_trans (Nat.le_of_eq (Array.size_push ..)) (Nat.succ_le_succ (Nat.le_trans hz hZ))))
    have keepS : ∀ (u : Value) (d : PyData), (∃ as, Reads g u d as ∧ kS ∉ as) ∧ alike d d = true → (∃ as, Reads (g.update kS (Obj.mapSeq (·.push v))) u d as ∧ kS ∉ as) ∧ alike d d = true := fun u d ⟨⟨as, q1, q2⟩, q3⟩ =>
      ⟨⟨as, Reads.keepBut (a := kS) (fun b o hb e => (s1.2 b hb).trans e) (fun o e => by rw [nk2] at e; rw [← Option.some.inj e]) d u as q3 q1 q2, q2⟩, q3⟩
    refine wpAny_pure ⟨rfl, kA.push v, c2, ⟨st2.1.trans st.1, st2.2⟩, ?_⟩
    show KeepsBut a h₁ (s''.heap.update kS (Obj.mapSeq (·.push v))) ∧ (s''.heap.update kS (Obj.mapSeq (·.push v))).get? kS = _ ∧ (s''.heap.update kS (Obj.mapSeq (·.push v))).get? a = _ ∧ EachIs (fun v' k => (∃ as, Reads (s''.heap.update kS (Obj.mapSeq (·.push v))) v' k as ∧ kS ∉ as) ∧ alike k k = true) _ _
    rw [hgg]
    refine ⟨(kp'.trans_all hg).same s1 (.inr hkS), hc2, (s1.2 a hka.symm).trans na2, ?_⟩
    rw [ea, ek]
    refine each_snoc (R := fun (u : Value) (d : PyData) => (∃ as, Reads (g.update kS (Obj.mapSeq (·.push v))) u d as ∧ kS ∉ as) ∧ alike d d = true) (keepS v k ⟨⟨as, hr, hnS⟩, hkk⟩) ?_
    exact hk.mono fun u d ⟨⟨bs, q1, q2⟩, q3⟩ => keepS u d ⟨⟨bs, PyProof.Rows.Reads.keeps hg q1, q2⟩, q3⟩
  case done =>
    rintro s' ⟨kA, e, st, kp', nk', na', hk⟩
    have hk' : EachIs (fun v k => ∃ as, Reads s'.heap v k as) kA.toList kz := by
      have e3 : kz.take (0 + vs.length) = kz := List.take_of_length_le (by omega)
      rw [e3] at hk
      exact hk.mono fun v k ⟨⟨as, q, _⟩, _⟩ => ⟨as, q⟩
    have hsz : kA.size = vs.length := by
      have h1 := hk'.length
      rw [Array.length_toList] at h1
      omega
    try dsimp only
    refine wpAny_bind (listItems_at nk' rfl ?_)
    exact keyH_end (κ := dataKind s'.heap kz) (h₁ := h₁) kp' hkS nk' na' hka (SortsAt.data (s := s') hk' hal hsk hu) hsz hZ fun h3 tk3 c k3 n3 => h { s' with heap := h3, toks := tk3 } _ c st k3 n3 ⟨s'.heap, kA.toList, hal, rfl, hk'⟩
theorem keyO_tree {f : Value} {n : Nat} {old : Heap} (ho : s.heap.get? a = some (seqObj "list" vs.toArray n)) (hlen : kz.length = vs.length) (hZ : vs.length ≤ sizeLine) (hal : AllAlike kz) (hsk : Sortable kz) (hu : ∀ d, d ∈ kz → A.units + d.depth < cLine)
    (turn : ∀ (i : Nat) (v : Value) (k : PyData), vs[i]? = some v → kz[i]? = some k → ∀ (s' : Shared), (s'.os = s.os ∧ AllBare s'.gens) → KeepsBut a s.heap s'.heap →
      wpAny (model prog w) A (call f [v]) (KeyOld s.heap k s') (fun _ _ => False) s')
    (hg0 : AllBare s.gens) (h : ∀ (s' : Shared) out c, (s'.os = s.os ∧ AllBare s'.gens) → KeepsBut a s.heap s'.heap → s'.heap.get? a = some (seqObj "list" (List.toArray out) c) → KeyedOut b kz vs out → P (.done (.ret .none)) s') :
    wpAny (model prog w) A (ksk_tree a f b) P E s := by
  have ha : a < s.heap.objs.size := Heap.lt_size ho
  obtain ⟨e1, ho1⟩ : ∃ e1, (s.heap.update a (Obj.mapSeq fun _ => (#[] : Array Value))).get? a = some (seqObj "list" #[] e1) := ⟨_, get?_update_seq ho fun _ => #[]⟩
  have hkS : ((s.heap.update a (Obj.mapSeq fun _ => (#[] : Array Value))).push (seqObj "tuple" vs.toArray 0)).objs.size = s.heap.objs.size + 1 := by rw [size_push', Heap.size_update]
  unfold ksk_tree
  refine wpAny_bind (listItems_at ho rfl ?_)
  refine wpAny_bind (listUpdate_at ho rfl ?_ (by rw [List.size_toArray]; exact hZ) (Nat.zero_le _))
  refine wpAny_bind (seqEpoch_at ho1 rfl ?_)
  refine wpAny_bind (wpAny_newTuple ?_ (by show vs.length ≤ _; exact hZ))
  refine wpAny_bind (wpAny_newList ?_ (Nat.zero_le _))
  refine wpAny_holding ?_
  have kp : KeepsBut a s.heap (sortingHeap s.heap a vs) := fun b o hb q => sortingHeap_old hb q
  refine keyO_rest (kz := kz) (h₁ := s.heap) (s := { s with heap := ((s.heap.update a (Obj.mapSeq fun _ => (#[] : Array Value))).push (seqObj "tuple" vs.toArray 0)).push (seqObj "list" #[] 0) }) (kS := ((s.heap.update a (Obj.mapSeq fun _ => (#[] : Array Value))).push (seqObj "tuple" vs.toArray 0)).objs.size)
    kp (Heap.get?_none_of_le (by rw [hkS]; exact Nat.le_succ _)) (Heap.get?_push_size _ rfl) (Heap.get?_push_of_some _ (Heap.get?_push_of_some _ ho1)) (by rw [hkS]; exact Nat.ne_of_gt (Nat.lt_succ_of_lt ha)) hlen hZ hal hsk hu turn hg0 h
end
section
variable {prog : Program} {w : World} {A : Around} {E : Value → Shared → Prop} {s : Shared} {β : Type} {vs : List Value} {bs : List β} {R : Value → β → Prop}
/-- sorted(xs, key=f), the keys holding old lists; the calls of f may draw generators -/
theorem sorted_keyO {l : Addr} {f : Value} {kw : List (Str × Value)} {b : Bool} {Q : Value → Shared → Prop} (k : β → PyData) (hl : s.heap.IsList l vs.toArray) (e : EachIs R vs bs) (hal : AllAlike (bs.map k)) (hk : Sortable (bs.map k)) (hL : bs.length ≤ sizeLine)
    (hu : ∀ x, x ∈ bs → A.units + 2 + (k x).depth < cLine) (ha1 : argsOk "sorted" ⟨[.ref l], kw⟩) (ha2 : ∀ x, argsOk "list.sort" ⟨[.ref x], kw⟩) (ht : ∀ x, Builtin.«list.sort» ⟨[.ref x], kw⟩ = ksk_tree x f b) (hg0 : AllBare s.gens)
    (turn : ∀ (v : Value) (x : β), R v x → x ∈ bs → ∀ (s' : Shared), (s'.os = s.os ∧ AllBare s'.gens) → (∀ b o, s.heap.get? b = some o → s'.heap.get? b = some o) →
      wpAny (model prog w) A.in1.in1 (call f [v]) (KeyOld s.heap (k x) s') (fun _ _ => False) s')
    (h : ∀ out c (s' : Shared), (s'.os = s.os ∧ AllBare s'.gens) → (∀ b o, s.heap.get? b = some o → s'.heap.get? b = some o) → s.heap.get? (s.heap.objs.size + 1) = none → s'.heap.get? (s.heap.objs.size + 1) = some (seqObj "list" (List.toArray out) c) → out.length = bs.length →
      EachIs R out (bs.mergeSort (dataLe b k)) → Q (.ref (s.heap.objs.size + 1)) s') :
    wpAny (model prog w) A (call (.builtin "sorted") [.ref l] kw) Q E s := by
  have fresh : s.heap.get? (s.heap.objs.size + 1) = none := Heap.get?_none_of_le (Nat.le_succ _)
  have up : ∀ {g : Heap}, KeepsBut (s.heap.objs.size + 1) (copyHeap s.heap vs) g → ∀ b o, s.heap.get? b = some o → g.get? b = some o := fun {g} kp b o q =>
    kp b o (Nat.ne_of_lt (Nat.lt_succ_of_lt (Heap.lt_size q))) (copyHeap_old q)
  refine sorted_of_sort hl (by rw [e.length]; exact hL) ha1 ha2 fun E' => ?_
  rw [ht]
  refine keyO_tree (old := s.heap) (kz := bs.map k) (s := { s with heap := copyHeap s.heap vs }) (copyHeap_at s.heap vs) (by rw [List.length_map]; exact e.length.symm) (by rw [e.length]; exact hL) hal hk (bound_map (A := A.in1.in1) hu)
    (fun i v d hv hd s' st kp => ?_) hg0 fun s' out c st kp hD ko => ⟨rfl, ?_⟩
  · rw [List.getElem?_map] at hd
    cases q : bs[i]? with
    | none => rw [q] at hd; simp at hd
    | some x =>
      rw [q] at hd
      have hd' : some (k x) = some d := hd
      rw [← Option.some.inj hd']
      have hz : (v, x) ∈ vs.zip bs := List.mem_of_getElem? (i := i) (by rw [List.getElem?_zip_eq_some]; exact ⟨hv, q⟩)
      exact wpAny_mono (turn v x (e.zip _ hz) (List.mem_of_getElem? q) s' st (up kp)) (fun v' s2 ⟨as, e1, e2, e3, e4⟩ => ⟨as, e1, e2, e3, fun y hy => by
        obtain ⟨o, ho⟩ := e4 y hy
        exact ⟨o, copyHeap_old ho⟩⟩) fun _ _ z => z
  · exact h out c s' st (up kp) fresh hD ((ko.length (by rw [List.length_map]; exact e.length.symm)).trans e.length) (keyedOut_each k ko e)
end
end Zx
/-! Zx27: sorted(xs, key=..), the key `(len(x), x)` of lists: of a lambda, of a def. -/
namespace Zx
variable [Marked]
open PySem PySem.Spec PySem.W PyProof.Rows L2 LamX
def isLst : D → Bool
  | .list _ => true
  | _ => false
/-- the key -/
def kOf : D → D
  | .list xs => .tuple [.int xs.length, .list xs]
  | d => d
def leK (a b : D) : Bool := leS (kOf a) (kOf b)
def srtKOk (ds : List D) : Bool := ds.all isLst && srtOk (ds.map kOf)
def sortKD : D → Option D
  | .list ds => if srtKOk ds then some (.list (ds.mergeSort leK)) else none
  | _ => none
section
variable {prog : Program} {w : World} {A : Around} {E : Value → Shared → Prop} {s : Shared} {env : PySem.Env}
theorem key_eval {x : Str} {l : Addr} {items : Array Value} {m mg mb : Str → Option Value} {p1 p2 p3 p4 p5 : Pos} {x1 : Nat} {Q : Value → Shared → Prop} (hk : env.scope.kind = .function) (hx : env.kindOf x = some .local) (hlen : env.kindOf "len" = some .globalImplicit)
    (hN : s.heap.Ns env.locals m) (hm : m x = some (.ref l)) (hl : s.heap.IsList l items) (hz : items.size ≤ sizeLine) (hg : s.heap.Ns env.globals mg) (hmg : mg "len" = none) (hb : s.heap.Ns env.builtins mb) (hmb : mb "len" = some (.builtin "len"))
    (hd : (x == ("__debug__" : Str)) = false) (h : Q (.ref s.heap.objs.size) { s with heap := s.heap.push { cls := .type "tuple", data := .seq #[.int items.size (s.toks + 1), .ref l] }, toks := s.toks + 1 + 1 }) :
    wpAny (model prog w) A (eval (.Tuple [.Call (.Name "len" p1) [.Name x p2] [] p3, .Name x p4] x1 p5) env) Q E s := by
  refine wpAny_Tuple_spliced (args_cons (wpAny_Call_Name_kw (Calls.Name_function_global hk hlen (Calls.loadGlobal_builtin hg hmg hb hmb ?_))) rfl)
  refine PyProof.Rows.callWith_builtin1 (PyProof.Rows.args_cons (wpAny_Name (wpAny_loadName_local hk hx hN hm (PyProof.Rows.args_nil ?_)) hd) rfl) rfl rfl
  refine Calls.call_len_list hl (by rw [sizeLine_eq] at hz; omega) ?_
  exact args_cons (wpAny_Name (wpAny_loadName_local hk hx hN hm (args_nil ⟨by rw [sizeLine_eq]; simp, h⟩)) hd) rfl
/-- the key read -/
theorem key_old {old : Heap} {l : Addr} {zs : List D} {as : List Addr} {items : Array Value} {s1 : Shared} {t tk : Nat} (hs : s1.os = s.os ∧ AllBare s1.gens) (kp : ∀ b o, s.heap.get? b = some o → s1.heap.get? b = some o) (hr : Reads s.heap (.ref l) (.list zs) as) (e : items.size = zs.length)
    (ho : ∀ x ∈ as, ∃ o, old.get? x = some o) :
    KeyOld old (kOf (.list zs)) s (.ref s1.heap.objs.size) { s1 with heap := s1.heap.push { cls := .type "tuple", data := .seq #[.int items.size t, .ref l] }, toks := tk } := by
  refine ⟨as, hs, fun b o q => Heap.get?_push_of_some _ (kp b o q), ?_, ho⟩
  have r1 : Reads (s1.heap.push { cls := .type "tuple", data := .seq #[.int items.size t, .ref l] }) (.ref l) (.list zs) as := PyProof.Rows.Reads.keeps (fun b o q => Heap.get?_push_of_some _ (kp b o q)) hr
  have r2 : ReadsAll (s1.heap.push { cls := .type "tuple", data := .seq #[.int items.size t, .ref l] }) [.int items.size t, .ref l] [.int zs.length, .list zs] ([] ++ (as ++ [])) := .cons (by rw [e]; exact .int _ _) (.cons r1 .nil)
  rw [List.nil_append, List.append_nil] at r2
  exact .tuple (Heap.get?_push_size _ rfl) rfl rfl r2
end
theorem tri_sortK (ts : List Tri) : (ts.mergeSort (dataLe false fun t : Tri => kOf t.1)).map (·.1) = (ts.map (·.1)).mergeSort leK :=
  List.map_mergeSort fun a _ b _ => by
    rw [dataLe_eq]
    rfl
section
variable {X : Cx} {pins : List (Addr × Obj)} {σ : L2.St} {H F : Hp} {s : Shared}
/-- the sorting, the key's calls told -/
theorem sortK_core {f a : Addr} {ds : List D} {xs : List V} {Q : VK} (I : Inv X pins σ H s) (hu : X.A.units + 68 < cLine) (ha : H a = some (.lst xs)) (rp : RpL X.K F ds xs) (sb : Le F H) (ok : srtKOk ds = true)
    (turn : ∀ (l : Addr) (zs : List D) (as : List Addr) (s' : Shared), (s'.os = s.os ∧ AllBare s'.gens) → (∀ b o, s.heap.get? b = some o → s'.heap.get? b = some o) → Reads s'.heap (.ref l) (.list zs) as → zs.length ≤ sizeLine → (∀ x ∈ as, ∃ o, s.heap.get? x = some o) →
      wpAny (model X.prog X.w) X.A.in1.in1 (call (.ref f) [.ref l]) (KeyOld s.heap (kOf (.list zs)) s') (fun _ _ => False) s')
    (q : ∀ p ys, H p = none → RpL X.K F (ds.mergeSort leK) ys → Q (.ref p) (upd H p (.lst ys))) :
    wpAny (model X.prog X.w) X.A (call (.builtin "sorted") [.ref a] [(Str.ofString "key", .ref f)]) (EP X pins σ Q) X.xe s := by
  obtain ⟨its, rv, hl, hz⟩ := I.list (.inl (.inl ha))
  unfold srtKOk at ok
  rw [Bool.and_eq_true] at ok
  obtain ⟨ok1, ok2⟩ := ok
  obtain ⟨h1, h2, h3, h4⟩ := srt_parts ok2
  rw [List.length_map] at h4
  obtain ⟨ts, ht⟩ := tris_of rp rv
  obtain ⟨m1, m2, m3, m4⟩ := ht.maps
  subst m3
  have mem : ∀ t ∈ ts, t.1 ∈ ds := fun t ht => by rw [← m1]; exact List.mem_map_of_mem ht
  have e1 : ts.map (fun t => kOf t.1) = ds.map kOf := by rw [← m1, List.map_map]; rfl
  have len : ts.length = ds.length := by rw [← m1, List.length_map]
  refine sorted_keyO (β := Tri) (b := false) (R := fun v t => v = t.2.2) (bs := ts) (fun t => kOf t.1) hl.isList fn_each (by rw [e1]; exact h1) (by rw [e1]; exact h2) (line_of (n := ts.length) (by omega)) (fun t ht => ?_) (ksk_s1 _ _) (fun _ => ksk_l1 _ _) (fun _ => ksk_t1 _ _) I.bare
    (fun v t hv ht s' st kp => ?_) fun out c s' st kp _ hD _ eo => ?_
  · have := SeqAt.depth_of_shaped (h3 _ (List.mem_map_of_mem (mem t ht)))
    omega
  · have hv : v = t.2.2 := hv
    subst hv
    have i1 := List.all_eq_true.mp ok1 _ (mem t ht)
    have i2 := h3 _ (List.mem_map_of_mem (mem t ht))
    obtain ⟨d, x, u⟩ := t
    obtain ⟨m5, m6⟩ := m4 _ ht
    dsimp only at i1 i2 m5 m6 ⊢
    cases d with
    | list zs =>
      have hp : (PyData.list zs).plain = true := by
        have := plain_of_shaped i2
        simp [kOf, PyData.plain, PyData.plainAll] at this
        simpa [PyData.plain] using this
      obtain ⟨as, rd⟩ := Dp.reads I _ x u (m5.dp sb _ _ hp) m6
      have hlz : zs.length ≤ sizeLine := by
        cases m5 with
        | lst g1 g2 =>
          have := I.hok _ _ (sb.n g1 .lst)
          have := this.1
          rw [g2.length] at this
          exact this
      have old : ∀ b ∈ as, ∃ o, s.heap.get? b = some o := fun b hb => PyProof.On.reads_mem_get rd b hb
      have rd' := PyProof.Rows.Reads.keeps kp rd
      cases rd with
      | list g1 g2 g3 g4 => exact turn _ zs _ s' st kp rd' hlz old
    | _ => cases i1
  · have e2 := each_fn eo
    have hm : ∀ t ∈ ts.mergeSort (dataLe false fun t : Tri => kOf t.1), Rp X.K F t.1 t.2.1 ∧ RelV t.2.1 t.2.2 := fun t ht => m4 t ((List.mergeSort_perm ts _).mem_iff.mp ht)
    obtain ⟨r1, r2⟩ := rpl_map hm
    rw [tri_sortK, m1] at r1
    rw [← e2] at r2
    refine ⟨.ref _, upd H (s.heap.objs.size + 1) (.lst ((ts.mergeSort (dataLe false fun t : Tri => kOf t.1)).map (·.2.1))), I.call' (ch := []) st.1 (Un.laid kp (Nat.le_succ _) (I.hok.fresh (Nat.le_succ _))) (I.hok.laid kp (Nat.le_succ _) ⟨?_, out, c, r2, hD⟩) st.2 (fun b hb => by simp at hb), rfl, q _ _ (I.hok.fresh (Nat.le_succ _)) r1⟩
    rw [List.length_map, List.length_mergeSort]
    exact line_of (by omega)
end
/-- a key function's names: x, len -/
structure KeyS (x : Str) (scope : Scope) : Prop where
  kind : scope.kind = .function
  co : scope.isCoroutine = false
  gen : scope.isGenerator = false
  par : scope.names.lookup x = some .local
  len : scope.names.lookup ("len" : Str) = some .globalImplicit
  own : ∀ y ∈ scope.names, y.2 ≠ .cell ∧ y.2 ≠ .free
  nd : (x == ("__debug__" : Str)) = false
def keySB (x : Str) (scope : Scope) : Bool := decide (scope.kind = .function) && !scope.isCoroutine && !scope.isGenerator && decide (scope.names.lookup x = some .local) && decide (scope.names.lookup ("len" : Str) = some .globalImplicit) && (scope.names.all fun y => !decide (y.2 = .cell) && !decide (y.2 = .free)) && !(x == ("__debug__" : Str))
theorem keyS_by {x : Str} {scope : Scope} (h : keySB x scope = true) : KeyS x scope := by
  unfold keySB at h
  simp only [Bool.and_eq_true, Bool.not_eq_true', decide_eq_true_eq, decide_eq_false_iff_not, List.all_eq_true] at h
  obtain ⟨⟨⟨⟨⟨⟨h1, h2⟩, h3⟩, h4⟩, h5⟩, h6⟩, h7⟩ := h
  exact ⟨h1, h2, h3, h4, h5, fun y hy => h6 y hy, h7⟩
abbrev keyB (x : Str) (p1 p2 p3 p4 p5 : Pos) (x1 : Nat) : Expr := .Tuple [.Call (.Name "len" p1) [.Name x p2] [] p3, .Name x p4] x1 p5
section
variable {X : Cx} {pins : List (Addr × Obj)} {σ : L2.St} {H F : Hp} {s : Shared} {a : Expr} {f : Den} {p pos lpos kp : Pos}
/-- sorted(a, key=lambda x: (len(x), x)) -/
theorem en_sortLam {c P : Addr} {x : Str} {scope : Scope} {params : Arguments} {p1 p2 p3 p4 p5 : Pos} {x1 : Nat} (hu : X.A.units + 68 < cLine) (hg : Gl X "sorted") (hm : X.mg "sorted" = none) (ha : EB X a f)
    (hs : starEach [a] X.env = (false, eval a X.env) :: starEach [] X.env) (hr : X.A.depth < recursionLimit)
    (TB : TabB X.base X.mg c P) (hcode : X.env.code = .ref c) (hM : Mk P (X.env.qual ++ "<lambda>")) (hdef : defaultsOf params X.env = ([], [])) (S : KeyS x scope) (hml : X.mg "len" = none)
    (hbind : ∀ (q : Str) (cl : List (Str × Addr)) (pm cv ctv v : Value), bindArgs (PySem.W.kla_fn "<lambda>" q params (keyB x p1 p2 p3 p4 p5 x1) scope cl pm cv ctv) ⟨[v], []⟩ = pure [(x, v)]) :
    EN X (.Call (.Name "sorted" p) [a] [⟨some "key", .Lambda params (keyB x p1 p2 p3 p4 p5 x1) scope lpos, kp⟩] pos) (d1 sortKD f) := by
  refine ⟨⟨fun pins s σ H Q I h => ?_⟩⟩
  obtain ⟨ρ, F, d, e, hd, k⟩ := h
  simp only [d1, Option.bind_eq_some_iff] at hd
  obtain ⟨dx, hd1, hd2⟩ := hd
  refine wpAny_Call_Name_kw (ld_blt I hg hm rfl ?_ (by decide) (by decide))
  refine callWith_kw (kws := [⟨some "key", .Lambda params (keyB x p1 p2 p3 p4 p5 x1) scope lpos, kp⟩]) ?_ (by rw [hs]; rfl) (by rw [hs]; rfl)
  refine args_cons (thn (ha.pe.run pins s σ H (fun v H1 => ∃ F1, Ext F H F1 H1 ∧ RpB X.K F1 H1 dx v) I ⟨ρ, F, dx, e, hd1, fun v F' H' x' r' => ⟨F', x', r'⟩⟩) fun u s1 ⟨v, H1, I1, rv, F1, x1', r1⟩ => args_nil ?_) hs
  unfold sortKD at hd2
  split at hd2
  case h_2 => cases hd2
  rename_i ds
  split at hd2
  case isFalse => cases hd2
  rename_i ok
  cases hd2
  obtain ⟨l, xs, rfl, hl, rl⟩ := r1.list x1'.le
  obtain rfl : u = Value.ref l := rv
  refine kws_cons (lam_make3 I1 TB hcode (x1'.le.m _ _ hM) hdef (fun y hy z => absurd z (S.own y hy).2) fun g c' pm ctv H2 s2 I2 kp2 tb hf hfn hfr hco => kws_nil ?_)
  have hl2 : H2 l = some (.lst xs) := kp2 _ _ (fun z => by
    obtain ⟨ps, e1, _⟩ := x1'.le.m _ _ hM
    rw [z, e1] at hl
    cases hl) hl
  have x2 : Ext F1 H1 F1 H2 := Ext.lam x1'.le hM kp2 tb
  show wpAny _ _ (call (.builtin "sorted") [.ref l] [(Str.ofString "key", .ref g)]) _ _ _
  refine sortK_core I2 hu hl2 rl x2.le ok (fun l' zs as s' st kp' rd hlz old => ?_) fun p' ys hp r' => k p' _ F1 _ ((x1'.trans x2).trans (.own x2.le hp)) (x2.le.free hp) (x1'.h.free (x2.h.free hp)) upd_same (.lst r')
  obtain ⟨⟨oc, vs, t, hoc, hdc, hvc⟩, _, _⟩ := I2.hok c' _ hco
  refine wpAny_call (PySem.W.kla_callFunE hr (kp' _ _ hf) rfl S.co S.gen rfl ⟨c', oc, vs, t, rfl, kp' _ _ hoc, hdc, hvc⟩ ?_)
  show wpAny _ _ (bindArgs (PySem.W.kla_fn "<lambda>" _ params (keyB x p1 p2 p3 p4 p5 x1) scope _ pm (.ref c') ctv) ⟨[.ref l'], []⟩) _ _ _
  rw [hbind]
  have lim : s'.heap.NoLimit := I2.nolimit.keeps kp'
  refine wpAny_pure (wpAny_newFunctionEnv (fun y hy => (S.own y hy).1) (fun y hy => by
    simp only [List.mem_singleton] at hy
    rw [hy]
    exact S.par) (fun h₁ hns hsb => ⟨lim.fresh _ hsb, ?_⟩) S.kind)
  have kp3 : ∀ b o, s'.heap.get? b = some o → h₁.get? b = some o := fun b o e => hsb.extBut b o (Nat.ne_of_lt (Heap.lt_size e)) (Heap.get?_push_of_some _ e)
  have rd3 := PyProof.Rows.Reads.keeps kp3 rd
  have hil : ∃ items : Array Value, h₁.IsList l' items ∧ items.size = zs.length := by
    cases rd3 with
    | list g1 g2 g3 g4 => exact ⟨_, ⟨_, g1, g2, _, g3⟩, by simpa using SeqAt.ReadsAll.length _ _ _ g4⟩
  obtain ⟨items, hil, hisz⟩ := hil
  obtain ⟨mb, b1, b2⟩ := I2.mod.blt
  have kpb : ∀ b o, X.base.get? b = some o → h₁.get? b = some o := fun b o q => kp3 _ _ (kp' _ _ (I2.bk b o q))
  refine PySem.W.kla_codeExpr (key_eval (s := { s' with heap := h₁, toks := s'.toks + ([(x, Value.ref l')] : List (Str × Value)).length }) (items := items) (mg := X.mg) (mb := mb) S.kind S.par S.len hns ?_ hil (by rw [hisz]; exact hlz) (I2.mod.glob.keeps kpb) hml (b1.keeps kpb) (by rw [b2 _ (by decide)]; rfl) S.nd ?_)
  · simp
  · exact key_old (s := s') (s1 := { s' with heap := h₁, toks := s'.toks + ([(x, Value.ref l')] : List (Str × Value)).length }) ⟨rfl, st.2⟩ kp3 rd hisz old
end
end Zx
/-! Zx28: the end of a law with one table of code objects. -/
namespace Zx
open PySem PySem.Spec PyProof.Rows L2 LamX
/-- the code object of a def, by its name -/
theorem fund_code {K : PySem.W.Frag} {x : Str} {params : Arguments} {body : List Stmt} {scope : Scope} {p : He.Defn} {fd : FuncData} (F : FunD K x x params body scope [] [] (He.fAd K p) fd) : fd.code = .ref (He.cT K p).1 := by
  obtain ⟨oc, od, dV, kV, doc, pm, an, cdv, ct, osl, rfl, lk, hcd, _, _⟩ := F.ex
  obtain ⟨c, rfl⟩ := He.codeIn_ref hcd
  show Value.ref c = Value.ref (He.codeOf K p)
  rw [He.codeOf_eq lk rfl]
/-- no table is tracked -/
theorem le_only {H : Hp} (_ : Only H) : Le H H := ⟨.refl H, fun P q h => by
  have h : none = some (P, q) := h
  cases h⟩
/-- the end: the script lies in the frozen part, the table is empty -/
theorem law_at {l : PySem.W.OpenLaw} {w : World} {K : PySem.W.Frag} {k n : Nat} {x : Str} {mg : Str → Option Value} {fa : Addr} {h : Heap} {fds : List He.Fa} {fn : List He.DefD} {ts : List He.Tab} {p : He.Defn} {ex : PySem.W.Frag → Bool} {q : Str} {f : List D → Option D} (KX : K.In h)
    (c : He.SaysX fds fn ts [p] ex w h K) (hf : ∀ ns : List Int, ns.length ≤ n → f [scrD ns] = some (.bool true))
    (F : ∀ [Marked], Mk (He.cT K p).2 q → ∃ fd : FuncData, (∀ (s : Shared) (v : Value), BindsTo s fd ⟨[v], []⟩ [(x, v)]) ∧ ∀ base : Heap, K.In base → base.Ns mainGlobals mg → TabB base mg (He.cT K p).1 (He.cT K p).2 → FnOk l.prog w K mg base CX0 k fa fd [x] (spX K 1 f)) :
    LawAtS l w K CX0 k n x mg fa h := by
  letI : Marked := ⟨some ((He.cT K p).2, q)⟩
  obtain ⟨fd, hb, hF⟩ := F rfl
  have one : ∀ {y : Addr × Addr}, y ∈ [He.cT K p] → y = He.cT K p := fun h => List.mem_singleton.mp h
  refine ⟨fd, [He.cT K p], spX K 1 f, fun y hy => ?_, fun y hy => ?_, fun y hy => ?_, hb, fun H a ns hl _ hH hS => ?_, fun base h1 h2 h3 => hF base h1 h2 (h3 _ List.mem_cons_self)⟩
  · rw [one hy]; exact c.empty p List.mem_cons_self
  · rw [one hy]; exact c.out p List.mem_cons_self
  · rw [one hy]; exact PySem.W.codeHd_of_K KX (c.hd p List.mem_cons_self)
  · have S : SqL K (F0 H) a (ns.map V.int) := by
      rcases hS with (h | ⟨o, h⟩) | h
      · exact .inl (.inl (f0_of h .lst))
      · exact .inl (.inr ⟨o, f0_of h fun _ z => nomatch z⟩)
      · exact .inr h
    refine ⟨F0 H, [scrD ns], .bool true, le_start fun P' q' hm => ?_, .cons (.scr S) .nil, rfl, hf ns hl, fun v F' H' x r => by cases r; rfl⟩
    have e : some ((He.cT K p).2, q) = some (P', q') := hm
    injection e with e
    injection e with e1 e2
    rw [← e1]
    exact hH _ List.mem_cons_self
end Zx
/-! Zx29: a list of new lists that are appended to: found = [[] for _ in ..]; for x in ..: found[i].append(y); return found. -/
namespace Zx
variable [Marked]
open PySem PySem.Spec L2
section
variable {K : PySem.W.Frag} {ρ : Env} {σ : L2.St} {F H F0 H0 F1 H1 : Hp} {ws vs : List Nat} {fi : DenI} {g : DenG} {wi : TI}
/-- a new list q of new lists as -/
structure Nw (F H0 H : Hp) (q : Addr) (as : List Addr) : Prop where
  qF : F q = none
  qN : H0 q = none
  qH : H q = some (.lst (as.map V.ref))
  nd : (q :: as).Nodup
  aF : ∀ a ∈ as, F a = none ∧ H0 a = none
theorem nest_t {Q : VK} {ds : List D} (hwi : WiOk K wi fi ρ σ F H) (hw : ∀ j ∈ ws, j ∈ vs) (e : EnvOk K ρ σ F H) (h1 : fi ρ = some ds) (hg : ∀ d ∈ ds, ∃ ρ1, g d (wipeE ρ vs) = some ρ1) (hsz : ds.length ≤ 1000000)
    (k : ∀ q as F' H', Ext F H F' H' → Nw F' H H' q as → as.length = ds.length → (∀ a ∈ as, H' a = some (.lst [])) → Q (.ref q) H') :
    tLc wi (tGt K ws g) (tTst K bYes) (tN K (mkL lNil)) vs σ H Q := by
  refine hwi ds _ h1 fun J F1 H1 x1 w q hq => ?_
  have e1 := (e.ext x1).wipe vs
  have hF1 : F1 q = none := x1.le.free hq
  have hne := e1.ne_new hq
  refine ⟨fun i m H' => i ≤ ds.length ∧ m = ds.length - i ∧ ∃ F' as, EnvOk K (wipeE ρ vs) (wipe σ vs) F' H' ∧ Ext F1 H1 F' H' ∧ Nw F' H1 H' q as ∧ as.length = i ∧ ∀ a ∈ as, H' a = some (.lst []),
    ⟨_, Nat.zero_le _, rfl, F1, [], e1.upd hF1 hne, .mut (.refl x1.le) hq hF1, ⟨hF1, hq, upd_same, by simp, fun a ha => by cases ha⟩, rfl, fun a ha => by cases ha⟩, ?_⟩
  rintro i m H' ⟨hle, rfl, F', as, e', x', nw, hl, ha⟩
  obtain ⟨w1, w2⟩ := w i F' H' x'.f x'.le
  by_cases hi : i < ds.length
  · obtain ⟨w3, w4⟩ := w1 ds[i] (List.getElem?_eq_getElem hi)
    obtain ⟨ρ1, g1⟩ := hg ds[i] (List.getElem_mem hi)
    refine .inr ⟨w3, fun H' => ∃ F' as, EnvOk K (wipeE ρ vs) (wipe σ vs) F' H' ∧ Ext F1 H1 F' H' ∧ Nw F' H1 H' q as ∧ as.length = i + 1 ∧ ∀ a ∈ as, H' a = some (.lst []), fun H2 hN => ⟨_, by omega, hi, rfl, hN⟩, fun x H2 hy => ?_⟩
    obtain ⟨F2, x2, r2⟩ := w4 x H2 hy
    refine ⟨_, F2, ds[i], ρ1, e'.ext x2, r2, g1, fun σ3 e3 sb o3 => ⟨?_, ?_⟩⟩
    · refine wipe_twice σ σ3 _ (by rw [sb.len, wipe_length]) fun j hj => sb.at_ j fun z => hj (hw j z)
    refine ⟨ρ1, F2, true, e3, rfl, fun F3 H3 x3 => ?_⟩
    have x23 := x2.trans x3
    dsimp only
    rw [if_pos rfl]
    refine ⟨ρ1, F3, .list [], e3.ext x3, rfl, fun a o F4 H4 x4 hF4 hH3 hH4 r4 => ?_⟩
    cases r4 with
    | lst t =>
      cases t
      have x24 := x23.trans x4
      have qF4 : F4 q = none := x24.new q (by rw [nw.qH]; exact fun z => nomatch z) nw.qF
      have qH4 : H4 q = some (.lst (as.map V.ref)) := x24.h.n _ _ nw.qH (fun _ z => nomatch z)
      have aq : a ≠ q := fun z => by
        have := x23.h.n _ _ nw.qH (fun _ z => nomatch z)
        rw [z, this] at hH3
        cases hH3
      have an : a ∉ as := fun z => by
        have := x23.h.n _ _ (ha a z) (fun _ z => nomatch z)
        rw [this] at hH3
        cases hH3
      refine ⟨as.map V.ref, qH4, by rw [List.length_map]; exact line_lt (by omega), F4, as ++ [a], (e'.ext x24).upd qF4 hne, .mut (x'.trans x24) hq qF4, ⟨qF4, hq, ?_, ?_, fun b hb => ?_⟩, by rw [List.length_append, hl]; rfl, fun b hb => ?_⟩
      · rw [upd_same, List.map_append]
        rfl
      · obtain ⟨n1, n2⟩ := List.nodup_cons.mp nw.nd
        refine List.nodup_cons.mpr ⟨fun z => ?_, List.nodup_append.mpr ⟨n2, by simp, fun b hb c hc e => ?_⟩⟩
        · rcases List.mem_append.mp z with z | z
          · exact n1 z
          · exact aq (List.mem_singleton.mp z).symm
        · rw [List.mem_singleton.mp hc] at e
          exact an (e ▸ hb)
      · rcases List.mem_append.mp hb with hb | hb
        · exact ⟨x24.new b (by rw [ha b hb]; exact fun z => nomatch z) (nw.aF b hb).1, (nw.aF b hb).2⟩
        · rw [List.mem_singleton.mp hb]
          exact ⟨hF4, (x'.trans x23).h.free hH3⟩
      · rcases List.mem_append.mp hb with hb | hb
        · rw [upd_ne (fun z => (List.nodup_cons.mp nw.nd).1 (by rw [← z]; exact hb))]
          exact x24.h.n _ _ (ha b hb) (fun _ z => nomatch z)
        · rw [List.mem_singleton.mp hb, upd_ne aq]
          exact hH4
  · have hn : as.length = ds.length := by omega
    exact .inl ⟨w2 (by omega), k q as F' H' (x1.trans x') ⟨nw.qF, x1.h.free hq, nw.qH, nw.nd, fun a hm => ⟨(nw.aF a hm).1, x1.h.free (nw.aF a hm).2⟩⟩ hn ha⟩
/-- the inner lists hold dss -/
def Hold (K : PySem.W.Frag) (F H : Hp) (as : List Addr) (dss : List (List D)) : Prop := as.length = dss.length ∧ ∀ (j : Nat) a, as[j]? = some a → ∃ xs dj, H a = some (.lst xs) ∧ dss[j]? = some dj ∧ RpL K F dj xs
theorem Hold.ext {as : List Addr} {dss : List (List D)} (h : Hold K F H as dss) (x : Ext F H F1 H1) : Hold K F1 H1 as dss := ⟨h.1, fun j a ha => by
  obtain ⟨xs, dj, h1, h2, h3⟩ := h.2 j a ha
  exact ⟨xs, dj, x.h.n _ _ h1 (fun _ z => nomatch z), h2, h3.mono x.f⟩⟩
theorem Nw.ext {q : Addr} {as : List Addr} {dss : List (List D)} (n : Nw F H0 H q as) (h : Hold K F H as dss) (x : Ext F H F1 H1) : Nw F1 H0 H1 q as := ⟨x.new q (by rw [n.qH]; exact fun z => nomatch z) n.qF, n.qN, x.h.n _ _ n.qH (fun _ z => nomatch z), n.nd, fun a ha => by
  obtain ⟨j, hj⟩ := List.mem_iff_getElem?.mp ha
  obtain ⟨xs, dj, h1, _⟩ := h.2 j a hj
  exact ⟨x.new a (by rw [h1]; exact fun z => nomatch z) (n.aF a ha).1, (n.aF a ha).2⟩⟩
/-- all frozen -/
theorem hold_freeze : ∀ (as : List Addr) (dss : List (List D)) (F : Hp), Ext F0 H0 F H → as.Nodup → (∀ a ∈ as, F a = none ∧ H0 a = none) → Hold K F H as dss → ∃ F', Ext F0 H0 F' H ∧ Sub F F' ∧ (∀ b, b ∉ as → F' b = F b) ∧ RpL K F' (dss.map .list) (as.map V.ref)
  | [], [], F, x, _, _, _ => ⟨F, x, .refl F, fun _ _ => rfl, .nil⟩
  | [], _ :: _, F, _, _, _, h => by have := h.1; simp at this
  | _ :: _, [], F, _, _, _, h => by have := h.1; simp at this
  | a :: as, dj :: dss, F, x, nd, hF, h => by
    obtain ⟨n1, n2⟩ := List.nodup_cons.mp nd
    obtain ⟨xs, dj', h1, h2, h3⟩ := h.2 0 a rfl
    cases h2
    obtain ⟨f1, f2⟩ := hF a List.mem_cons_self
    have s : Sub F (upd F a (.lst xs)) := Sub.new f1
    obtain ⟨F', g1, g2, g3, g4⟩ := hold_freeze as dss (upd F a (.lst xs)) (x.put f1 f2 h1 .lst) n2 (fun b hb => by
      have := hF b (List.mem_cons_of_mem _ hb)
      rw [upd_ne (fun z => n1 (by rw [← z]; exact hb))]
      exact this) ⟨by have := h.1; simpa using this, fun j b hb => by
      obtain ⟨ys, ej, k1, k2, k3⟩ := h.2 (j + 1) b hb
      exact ⟨ys, ej, k1, k2, k3.mono s⟩⟩
    refine ⟨F', g1, s.trans g2, fun b hb => ?_, .cons (.lst (g2 _ _ upd_same) (h3.mono (s.trans g2))) g4⟩
    rw [List.mem_cons, not_or] at hb
    rw [g3 b hb.2, upd_ne hb.1]
end
/-! ### the loop -/
def isNo : Option Slot → Bool
  | some .no => true
  | _ => false
def noOw (ρ : Env) : Bool := ρ.all fun s => match s with
  | .ow _ => false
  | _ => true
theorem noOw_ok {ρ : Env} (h : noOw ρ = true) {i : Nat} {d : D} (z : ρ[i]? = some (.ow d)) : False := by
  have := List.all_eq_true.mp h _ (List.mem_of_getElem? z)
  cases this
def nestL (iy : Nat) (g : DenG) (ix arg : Den) : List D → Env → List (List D) → Option (List (List D))
  | [], _, dss => some dss
  | d :: ds, ρ, dss => (g d ρ).bind fun ρ1 => if isNo ρ1[iy]? && noOw ρ1 then (ix ρ1).bind fun j => match j with
    | .int j => (ixN dss.length j).bind fun n => (arg ρ1).bind fun v => (dss[n]?).bind fun dj => if dj.length < 1000000 then nestL iy g ix arg ds ρ1 (dss.set n (dj ++ [v])) else none
    | _ => none
  else none
/-- the three statements -/
def sNest (iy iu : Nat) (fi1 fi2 : DenI) (g : DenG) (ix arg : Den) : DenS := fun ρ => if isNo ρ[iy]? && noOw ρ then (fi1 ρ).bind fun ds1 => if ds1.length ≤ 1000000 then (fi2 ρ).bind fun ds => (nestL iy g ix arg ds ρ (List.replicate ds1.length [])).bind fun dss => some (.rt (.list (dss.map .list))) else none else none
theorem EnvOk.noSet {K : PySem.W.Frag} {ρ : Env} {σ : L2.St} {F H : Hp} {i : Nat} {v : Option V} (e : EnvOk K ρ σ F H) (h : isNo ρ[i]? = true) : EnvOk K ρ (σ.set i v) F H where
  sub := e.sub
  len := by rw [List.length_set]; exact e.len
  at_ := fun j s hs => by
    obtain ⟨ov, h1, h2⟩ := e.at_ j s hs
    by_cases hj : i = j
    · subst hj
      rw [hs] at h
      cases s with
      | no => exact ⟨v, by rw [List.getElem?_set_self (by rw [← e.len]; exact (List.getElem?_eq_some_iff.mp hs).1)], trivial⟩
      | fz d => cases h
      | ow d => cases h
    · exact ⟨ov, by rw [List.getElem?_set_ne hj]; exact h1, h2⟩
  dist := fun j k d d' a h1 h2 h3 h4 => by
    have nj : ∀ {j : Nat} {d : D}, ρ[j]? = some (.ow d) → i ≠ j := fun {j d} z y => by
      subst y
      rw [z] at h
      cases h
    rw [List.getElem?_set_ne (nj h1)] at h3
    rw [List.getElem?_set_ne (nj h2)] at h4
    exact e.dist j k d d' a h1 h2 h3 h4
theorem ixN_set {n j : Nat} {i : Int} (h : ixN n i = some j) : j < n := (L2.ixN_seq h).2.1
section
variable {X : Cx} {iter1 iter2 tg ix arg : Expr} {y u : Str} {scope : Scope} {own : List (Str × Nat)} {ws : List Nat} {fi1 fi2 : DenI} {g : DenG} {fix farg : Den} {py lp pu pos1 spos1 p1 p2 p3 apos cpos epos fpos rpos : Pos}
theorem Hold.set {K : PySem.W.Frag} {F H : Hp} {as : List Addr} {dss : List (List D)} {q a : Addr} {n : Nat} {xs : List V} {dj : List D} {v : V} {d : D} (h : Hold K F H as dss) (nd : (q :: as).Nodup) (ha : as[n]? = some a) (hx : H a = some (.lst xs)) (hd : dss[n]? = some dj) (hr : RpL K F dj xs) (r : Rp K F d v) :
    Hold K F (upd H a (.lst (xs ++ [v]))) as (dss.set n (dj ++ [d])) := by
  have hn : n < as.length := (List.getElem?_eq_some_iff.mp ha).1
  refine ⟨by rw [List.length_set]; exact h.1, fun j b hb => ?_⟩
  by_cases hj : n = j
  · subst hj
    rw [ha] at hb
    cases hb
    exact ⟨_, _, upd_same, by rw [List.getElem?_set_self (by rw [← h.1]; exact hn)], hr.append (.one r)⟩
  · obtain ⟨ys, ej, k1, k2, k3⟩ := h.2 j b hb
    have hne : b ≠ a := fun z => by
      subst z
      have n2 := (List.nodup_cons.mp nd).2
      obtain ⟨i1, e1⟩ := List.getElem?_eq_some_iff.mp ha
      obtain ⟨i2, e2⟩ := List.getElem?_eq_some_iff.mp hb
      have pw := List.pairwise_iff_getElem.mp (List.nodup_iff_pairwise_ne.mp n2)
      rcases Nat.lt_trichotomy n j with z | z | z
      · exact pw n j i1 i2 z (e1.trans e2.symm)
      · exact hj z
      · exact pw j n i2 i1 z (e2.trans e1.symm)
    exact ⟨ys, ej, by rw [upd_ne hne]; exact k1, by rw [List.getElem?_set_ne hj]; exact k2, k3⟩
theorem Nw.set {F H0 H : Hp} {q a : Addr} {as : List Addr} {o : HO} (n : Nw F H0 H q as) (ha : a ∈ as) : Nw F H0 (upd H a o) q as :=
  ⟨n.qF, n.qN, by rw [upd_ne (fun z => (List.nodup_cons.mp n.nd).1 (by rw [z]; exact ha))]; exact n.qH, n.nd, n.aF⟩
theorem sxs_nest (iy iu : Nat) (hp : PassesOwn (model X.prog X.w) X.A X.env X.xe) (hc : X.calm = true) (hN : X.N.Nodup) (hy : X.N[iy]? = some y) (hyl : X.env.scope.names.lookup y = some .local) (hyv : visB X.env.scope y = true) (hyd : (y == ("__debug__" : Str)) = false) (hycd : (y == ("__classdict__" : Str)) = false)
    (hsw : swapsWith (.ListComp (.List [] lp) [⟨.Name u pu, iter1, [], 0⟩] scope pos1) (some (.Name y py)) spos1.line X.env = pure true) (hi1 : EI X (.Name u pu) iter1 fi1) (ok : BlkOk X.N X.env.scope scope own)
    (hg1 : InBlk X scope fun Y => EG Y (.Name u pu) [iu] (gN iu)) (hs1 : ∀ x, foldedSetIterable iter1 X.env x = pure x) (hw : ∀ j ∈ [iu], j ∈ own.map (·.2))
    (hi2 : EI X tg iter2 fi2) (hg : EG X tg ws g) (hwy : iy ∉ ws) (hix : EX X ix fix) (harg : EX X arg farg) (hs2 : ∀ x, foldedSetIterable iter2 X.env x = pure x) (hpl : PlainIx ix) (hN1 : N1 X arg) (hline : (apos.endLine == cpos.line) = true)
    (hbase : attributeBase (.Subscript (.Name y p1) ix p2) "append" X.env (eval (.Subscript (.Name y p1) ix p2) X.env) = eval (.Subscript (.Name y p1) ix p2) X.env) (hse : swapsWith (.Call (.Attribute (.Subscript (.Name y p1) ix p2) "append" apos) [arg] [] cpos) none epos.line X.env = pure false) :
    SXs X [.Assign [.Name y py] (.ListComp (.List [] lp) [⟨.Name u pu, iter1, [], 0⟩] scope pos1) spos1,
      .For tg iter2 [.Expr (.Call (.Attribute (.Subscript (.Name y p1) ix p2) "append" apos) [arg] [] cpos) epos] [] fpos, .Return (some (.Name y p3)) rpos] (sNest iy iu fi1 fi2 g fix farg) := by
  have P1 := ps_setLc (py := py) (spos := spos1) (pos := pos1) (te := tN X.K (mkL lNil)) (tt := tTst X.K bYes) (g := tGt X.K [iu] (gN iu)) hc hN hy hyl hsw hi1.pi ok (fun s H C cl fp => (hg1 s H C cl fp).pg) (fun s H C cl fp => (ets_nil (X := X.blk s H scope (compEnvC scope cl C X.env) fp)).pts) (fun s H C cl fp => (en_lst (pos := lp) (X := X.blk s H scope (compEnvC scope cl C X.env) fp) ea_nil).pe) hs1
  have P2 := ps_for (pos := fpos) hp hc hi2.pi hg.pg (pss_one (ps_expr (pos := epos) (pe_bm (apos := apos) (cpos := cpos) PySem.F.plainAttrs_list PySem.F.slot_list_append PySem.F.type_list_append mt_append (pe_ix (pos := p2) ix_list (pe_var (pos := p1) hy (vis_of hyv) hyd hycd) hix.pe hpl) (pa_cons harg.pe pa_nil hN1) hbase (by rw [hN1]; rfl) hline hN1 rfl) hse)) hs2
  have P3 := pss_one (ps_ret (pos := rpos) (pe_var (pos := p3) hy (vis_of hyv) hyd hycd))
  refine ⟨PSs.imp (pss_cons P1 (pss_cons P2 P3)) fun D σ H ⟨F0, H0, ρ, F, o, e, h, k⟩ => ?_⟩
  unfold sNest at h
  split at h
  case isFalse => cases h
  rename_i hno
  rw [Bool.and_eq_true] at hno
  obtain ⟨hno1, hno2⟩ := hno
  simp only [Option.bind_eq_some_iff] at h
  obtain ⟨ds1, h1, h⟩ := h
  split at h
  case isFalse => cases h
  rename_i hsz
  simp only [Option.bind_eq_some_iff] at h
  obtain ⟨ds, h2, out, h3, h4⟩ := h
  cases h4
  -- the comprehension
  unfold tSeq tAsg
  refine nest_t (ws := [iu]) (g := gN iu) e.env.wiOk hw e.env h1 (fun d _ => ⟨_, rfl⟩) hsz fun q as F1 H1 x1 nw hl ha => ?_
  have nw0 : Nw F1 H0 H1 q as := ⟨nw.qF, e.ext.h.free nw.qN, nw.qH, nw.nd, fun a hm => ⟨(nw.aF a hm).1, e.ext.h.free (nw.aF a hm).2⟩⟩
  have hold0 : Hold X.K F1 H1 as (List.replicate ds1.length []) := ⟨by rw [hl, List.length_replicate], fun j a hj => ⟨[], [], ha a (List.mem_of_getElem? hj), by
    rw [List.getElem?_replicate, if_pos (by have := (List.getElem?_eq_some_iff.mp hj).1; omega)], .nil⟩⟩
  have e1 : EnvOk X.K ρ (σ.set iy (some (.ref q))) F1 H1 := (e.env.ext x1).noSet hno1
  have iyl : iy < σ.length := by
    rw [← e.env.len]
    unfold isNo at hno1
    split at hno1
    · rename_i z; exact (List.getElem?_eq_some_iff.mp z).1
    · cases hno1
  unfold gName
  dsimp only
  have q1 : (σ.set iy (some (.ref q)))[iy]? = some (some (.ref q)) := List.getElem?_set_self iyl
  generalize σ.set iy (some (.ref q)) = σ1 at e1 q1
  have x01 := e.ext.trans x1
  clear e
  -- the loop
  refine ⟨ρ, F1, ds, e1, h2, fun J F2 H2 x2 w => ?_⟩
  refine ⟨fun i m σ' H' => i ≤ ds.length ∧ m = ds.length - i ∧ ∃ ρ' F' dss, EnvOk X.K ρ' σ' F' H' ∧ Ext F0 H0 F' H' ∧ Sub F2 F' ∧ isNo ρ'[iy]? = true ∧ noOw ρ' = true ∧ σ'[iy]? = some (some (.ref q)) ∧ Nw F' H0 H' q as ∧ Hold X.K F' H' as dss ∧ nestL iy g fix farg (ds.drop i) ρ' dss = some out,
    ⟨_, Nat.zero_le _, rfl, ρ, F2, _, e1.ext x2, x01.trans x2, .refl _, hno1, hno2, q1, nw0.ext hold0 x2, hold0.ext x2, by rw [List.drop_zero]; exact h3⟩, ?_⟩
  rintro i m σ' H' ⟨hle, rfl, ρ', F', dss, e', x', sF, n1, n2, n3, nw', ho', hl'⟩
  obtain ⟨w1, w2⟩ := w i F' H' sF e'.sub
  by_cases hi : i < ds.length
  · have hd : ds.drop i = ds[i] :: ds.drop (i + 1) := List.drop_eq_getElem_cons hi
    rw [hd] at hl'
    simp only [nestL, Option.bind_eq_some_iff] at hl'
    obtain ⟨ρ1, g1, g2⟩ := hl'
    split at g2
    case isFalse => cases g2
    rename_i hn
    rw [Bool.and_eq_true] at hn
    simp only [Option.bind_eq_some_iff] at g2
    obtain ⟨jd, g3, g4⟩ := g2
    split at g4
    case h_2 => cases g4
    rename_i j
    simp only [Option.bind_eq_some_iff] at g4
    obtain ⟨n, g5, d, g6, dj, g7, g8⟩ := g4
    split at g8
    case isFalse => cases g8
    rename_i hlen
    obtain ⟨w3, w4⟩ := w1 ds[i] (List.getElem?_eq_getElem hi)
    refine .inr ⟨w3, fun σ2 H2 => ∃ ρ' F' dss, EnvOk X.K ρ' σ2 F' H2 ∧ Ext F0 H0 F' H2 ∧ Sub F2 F' ∧ isNo ρ'[iy]? = true ∧ noOw ρ' = true ∧ σ2[iy]? = some (some (.ref q)) ∧ Nw F' H0 H2 q as ∧ Hold X.K F' H2 as dss ∧ nestL iy g fix farg (ds.drop (i + 1)) ρ' dss = some out,
      fun σ2 H2 hN => ⟨_, by omega, hi, rfl, hN⟩, fun x H3 hy3 => ?_⟩
    obtain ⟨F3, x3, r3⟩ := w4 x H3 hy3
    refine ⟨ρ', F3, ds[i], ρ1, e'.ext x3, r3, g1, fun σ3 e3 sb o3 => ?_⟩
    have q3 : σ3[iy]? = some (some (.ref q)) := by rw [sb.at_ iy hwy]; exact n3
    -- found[ix]
    refine ⟨_, q3, ρ1, F3, .int j, e3, g3, fun v F4 H4 x4 r4 => ?_⟩
    cases r4
    have x34 := x3.trans x4
    have nw4 := nw'.ext ho' x34
    have ho4 := ho'.ext x34
    have hn4 : n < as.length := by rw [ho4.1]; exact ixN_set g5
    have ha4 : as[n]? = some as[n] := List.getElem?_eq_getElem hn4
    obtain ⟨xs, dj', k1, k2, k3⟩ := ho4.2 n _ ha4
    rw [g7] at k2
    cases k2
    refine ⟨q, as.map V.ref, j, .ref as[n], rfl, rfl, .inl (.inl nw4.qH), ?_, .inl ⟨rfl, xs, .inl (.inl k1)⟩, ρ1, F4, d, e3.ext x4, g6, fun v F5 H5 x5 r5 => ?_⟩
    · show (ixN (as.map V.ref).length j).bind (fun i => (as.map V.ref)[i]?) = _
      rw [List.length_map, ho4.1, g5]
      show (as.map V.ref)[n]? = _
      rw [List.getElem?_map, ha4]
      rfl
    have x35 := x34.trans x5
    have nw5 := nw4.ext ho4 x5
    have ho5 := ho4.ext x5
    have h5 : H5 as[n] = some (.lst xs) := x5.h.n _ _ k1 (fun _ z => nomatch z)
    have am : as[n] ∈ as := List.getElem_mem hn4
    have e5 := (e3.ext x4).ext x5
    refine ⟨as[n], xs, v, rfl, rfl, h5, by rw [k3.length]; exact line_lt hlen, ρ1, F5, _, e5.upd (nw5.aF _ am).1 (fun i d a z _ => (noOw_ok hn.2 z).elim) (.lst h5), (x'.trans x35).mut (nw5.aF _ am).2 (nw5.aF _ am).1 (.lst h5), sF.trans x35.f, hn.1, hn.2, q3, nw5.set am, ho5.set nw5.nd ha4 h5 g7 (k3.mono x5.f) r5, g8⟩
  · have hd : ds.drop i = [] := List.drop_eq_nil_of_le (by omega)
    rw [hd] at hl'
    cases hl'
    refine .inl ⟨w2 (by omega), _, n3, ?_⟩
    -- all is frozen
    obtain ⟨Fz, z1, z2, z3, z4⟩ := hold_freeze as out F' x' (List.nodup_cons.mp nw'.nd).2 nw'.aF ho'
    have zq : Fz q = none := by rw [z3 q (List.nodup_cons.mp nw'.nd).1]; exact nw'.qF
    exact k (.ref q) (upd Fz q (.lst (as.map V.ref))) H' (z1.put zq nw'.qN nw'.qH .lst) (.lst upd_same (z4.mono (Sub.new zq)))
end
end Zx
/-! Zx30: sorted(xs, key=f), f a def that returns `(len(x), x)`. -/
namespace Zx
variable [Marked]
open PySem PySem.Spec PySem.W PyProof.Rows L2 LamX
/-- such a def -/
structure KeyDef (K : Frag) (mg : Str → Option Value) (x : Str) : Prop where
  ex : ∃ (f : Addr) (fd : FuncData) (a : Str) (params : Arguments) (scope : Scope) (p1 p2 p3 p4 p5 rp : Pos) (x1 : Nat), FunD K x x params [.Return (some (keyB a p1 p2 p3 p4 p5 x1)) rp] scope [] [] f fd ∧ mg x = some (.ref f) ∧ KeyS a scope ∧
    ∀ (kV doc pm : Value) (an : Option Addr) (cdv ct v : Value), bindArgs (PySem.W.fnOf x x params [.Return (some (keyB a p1 p2 p3 p4 p5 x1)) rp] scope .none kV doc pm an cdv ct) ⟨[v], []⟩ = pure [(a, v)]
section
variable {X : Cx} {pins : List (Addr × Obj)} {σ : L2.St} {H F : Hp} {s : Shared} {a : Expr} {f : Den} {p pos kpos kp : Pos} {x : Str}
theorem en_sortDef (hu : X.A.units + 68 < cLine) (hg : Gl X "sorted") (hm : X.mg "sorted" = none) (ha : EB X a f)
    (hs : starEach [a] X.env = (false, eval a X.env) :: starEach [] X.env) (hr : X.A.depth < recursionLimit) (hgx : Gl X x) (hdb : (x == ("__debug__" : Str)) = false) (kd : KeyDef X.K X.mg x) (hml : X.mg "len" = none) :
    EN X (.Call (.Name "sorted" p) [a] [⟨some "key", .Name x kpos, kp⟩] pos) (d1 sortKD f) := by
  obtain ⟨g, fd, z, params, scope, p1, p2, p3, p4, p5, rp, x1, FD, hmx, S, hbind⟩ := kd.ex
  obtain ⟨oc, od, dV, kV, doc, pm, an, cdv, ct, osl, rfl, lk, hcd, hdV, _⟩ := FD.ex
  have edV : dV = .none := by
    rcases hdV with ⟨_, h⟩ | ⟨T, _, _, h⟩
    · exact h
    · simp_all
  subst edV
  refine ⟨⟨fun pins s σ H Q I h => ?_⟩⟩
  obtain ⟨ρ, F, d, e, hd, k⟩ := h
  simp only [d1, Option.bind_eq_some_iff] at hd
  obtain ⟨dx, hd1, hd2⟩ := hd
  refine wpAny_Call_Name_kw (ld_blt I hg hm rfl ?_ (by decide) (by decide))
  refine callWith_kw (kws := [⟨some "key", .Name x kpos, kp⟩]) ?_ (by rw [hs]; rfl) (by rw [hs]; rfl)
  refine args_cons (thn (ha.pe.run pins s σ H (fun v H1 => ∃ F1, Ext F H F1 H1 ∧ RpB X.K F1 H1 dx v) I ⟨ρ, F, dx, e, hd1, fun v F' H' x' r' => ⟨F', x', r'⟩⟩) fun u s1 ⟨v, H1, I1, rv, F1, x1', r1⟩ => args_nil ?_) hs
  unfold sortKD at hd2
  split at hd2
  case h_2 => cases hd2
  rename_i ds
  split at hd2
  case isFalse => cases hd2
  rename_i ok
  cases hd2
  obtain ⟨l, xs, rfl, hl, rl⟩ := r1.list x1'.le
  obtain rfl : u = Value.ref l := rv
  refine kws_cons (ld_glob I1 hgx hmx (kws_nil ?_) hdb)
  show wpAny _ _ (call (.builtin "sorted") [.ref l] [(Str.ofString "key", .ref g)]) _ _ _
  refine sortK_core I1 hu hl rl x1'.le ok (fun l' zs as s' st kp' rd hlz old => ?_) fun p' ys hp r' => k p' _ F1 _ (x1'.trans (.own x1'.le hp)) (x1'.le.free hp) (x1'.h.free hp) upd_same (.lst r')
  have KX : X.K.In s'.heap := I1.kIn.keeps kp'
  have lim : s'.heap.NoLimit := I1.nolimit.keeps kp'
  refine wpAny_call (codeAny_call_function hr (KX _ _ lk) rfl S.co S.gen rfl (PySem.W.codeRec_of KX hcd) ?_)
  rw [hbind]
  refine wpAny_pure (wpAny_newFunctionEnv (fun y hy => (S.own y hy).1) (fun y hy => by
    simp only [List.mem_singleton] at hy
    rw [hy]
    exact S.par) (fun h₁ hns hsb => ⟨lim.fresh _ hsb, codeAny_func ?_⟩) S.kind)
  have kp3 : ∀ b o, s'.heap.get? b = some o → h₁.get? b = some o := fun b o e => hsb.extBut b o (Nat.ne_of_lt (Heap.lt_size e)) (Heap.get?_push_of_some _ e)
  have rd3 := PyProof.Rows.Reads.keeps kp3 rd
  have hil : ∃ items : Array Value, h₁.IsList l' items ∧ items.size = zs.length := by
    cases rd3 with
    | list g1 g2 g3 g4 => exact ⟨_, ⟨_, g1, g2, _, g3⟩, by simpa using SeqAt.ReadsAll.length _ _ _ g4⟩
  obtain ⟨items, hil, hisz⟩ := hil
  obtain ⟨mb, b1, b2⟩ := I1.mod.blt
  have kpb : ∀ b o, X.base.get? b = some o → h₁.get? b = some o := fun b o q => kp3 _ _ (kp' _ _ (I1.bk b o q))
  refine wpAny_execs_cons (wpAny_Return_some (key_eval (s := { s' with heap := h₁, toks := s'.toks + ([(z, Value.ref l')] : List (Str × Value)).length }) (items := items) (mg := X.mg) (mb := mb) S.kind S.par S.len hns (by simp) hil (by rw [hisz]; exact hlz) (I1.mod.glob.keeps kpb) hml (b1.keeps kpb) (by rw [b2 _ (by decide)]; rfl) S.nd ?_))
  exact key_old (s := s') (s1 := { s' with heap := h₁, toks := s'.toks + ([(z, Value.ref l')] : List (Str × Value)).length }) ⟨rfl, st.2⟩ kp3 rd hisz old
end
end Zx
/-! Y1: reading denotations: loops, the draws, fractions. -/
namespace Zx
open PySem PySem.Spec L2
/-! ### loops -/
theorem forL_ok {g : DenG} {fb : DenS} (P : Nat → Env → Prop) : ∀ (ds : List D) (i : Nat) (ρ : Env), P i ρ →
    (∀ j d ρ, ds[j]? = some d → P (i + j) ρ → ∃ ρ1 o, g d ρ = some ρ1 ∧ fb ρ1 = some o ∧ ((∃ ρ2, (o = .nx ρ2 ∨ o = .ct ρ2) ∧ P (i + j + 1) ρ2))) → ∃ ρ', forL g fb ds ρ = some (.nx ρ') ∧ P (i + ds.length) ρ'
  | [], i, ρ, h, _ => ⟨ρ, rfl, h⟩
  | d :: ds, i, ρ, h, hs => by
    obtain ⟨ρ1, o, h1, h2, ρ2, h3, h4⟩ := hs 0 d ρ rfl h
    obtain ⟨ρ', h5, h6⟩ := forL_ok P ds (i + 1) ρ2 h4 fun j e τ hj hp => by
      have := hs (j + 1) e τ (by simpa using hj) (by rw [show i + (j + 1) = i + 1 + j by omega]; exact hp)
      rw [show i + (j + 1) + 1 = i + 1 + j + 1 by omega] at this
      exact this
    refine ⟨ρ', ?_, by rw [List.length_cons, show i + (ds.length + 1) = i + 1 + ds.length by omega]; exact h6⟩
    rcases h3 with rfl | rfl
    · simp only [forL, h1, h2, Option.bind_some]; exact h5
    · simp only [forL, h1, h2, Option.bind_some]; exact h5
/-- a loop whose turns all go on -/
theorem sFor_ok {fi : DenI} {g : DenG} {fb : DenS} {ρ : Env} {ds : List D} (P : Nat → Env → Prop) (hi : fi ρ = some ds) (h0 : P 0 ρ)
    (hs : ∀ j d ρ, ds[j]? = some d → P j ρ → ∃ ρ1 o, g d ρ = some ρ1 ∧ fb ρ1 = some o ∧ ∃ ρ2, (o = .nx ρ2 ∨ o = .ct ρ2) ∧ P (j + 1) ρ2) : ∃ ρ', sFor fi g fb ρ = some (.nx ρ') ∧ P ds.length ρ' := by
  obtain ⟨ρ', h1, h2⟩ := forL_ok P ds 0 ρ h0 fun j d τ hj hp => by
    rw [Nat.zero_add] at hp ⊢
    exact hs j d τ hj hp
  rw [Nat.zero_add] at h2
  exact ⟨ρ', by unfold sFor; rw [hi]; exact h1, h2⟩
theorem sSeq_nx {f g : DenS} {ρ ρ' : Env} (h : f ρ = some (.nx ρ')) : sSeq f g ρ = g ρ' := by
  unfold sSeq
  rw [h]
  rfl
theorem sSeq_rt {f g : DenS} {ρ : Env} {d : D} (h : f ρ = some (.rt d)) : sSeq f g ρ = some (.rt d) := by
  unfold sSeq
  rw [h]
  rfl
theorem sIf_t {c : DenB} {f g : DenS} {ρ : Env} (h : c ρ = some true) : sIf c f g ρ = f ρ := by
  unfold sIf
  rw [h]
  rfl
theorem sIf_f {c : DenB} {f g : DenS} {ρ : Env} (h : c ρ = some false) : sIf c f g ρ = g ρ := by
  unfold sIf
  rw [h]
  rfl
/-- small numbers may be multiplied -/
def Sm (n : Nat) (a : Int) : Prop := a.natAbs < 2 ^ n
theorem log2_lt {a n : Nat} (h : a < 2 ^ n) (hn : 0 < n) : a.log2 < n := by
  rcases Nat.eq_zero_or_pos a with rfl | ha
  · simpa using hn
  · exact (Nat.log2_lt (by omega)).mpr h
theorem mulOk_of {a b : Int} (ha : a.natAbs < 2 ^ 10000) (hb : b.natAbs < 2 ^ 10000) : mulOk a b = true := by
  unfold mulOk
  have := log2_lt ha (by decide)
  have := log2_lt hb (by decide)
  exact decide_eq_true (by omega)
section
@[simp] theorem vR_s (i : Nat) {ρ : Env} : vR i ρ = (match ρ[i]? with | some (.fz d) => some d | _ => none) := (rfl)
@[simp] theorem vB_s (i : Nat) {ρ : Env} : vB i ρ = (match ρ[i]? with | some (.fz d) => some d | some (.ow d) => some d | _ => none) := (rfl)
@[simp] theorem kD_s (d : D) {ρ : Env} : kD d ρ = (some d) := (rfl)
@[simp] theorem d1_s (op : D → Option D) (f : Den) {ρ : Env} : d1 op f ρ = ((f ρ).bind op) := (rfl)
@[simp] theorem d2_s (op : D → D → Option D) (f g : Den) {ρ : Env} : d2 op f g ρ = ((f ρ).bind fun x => (g ρ).bind fun y => op x y) := (rfl)
@[simp] theorem d3_s (op : D → D → D → Option D) (f g h : Den) {ρ : Env} : d3 op f g h ρ = ((f ρ).bind fun x => (g ρ).bind fun y => (h ρ).bind fun z => op x y z) := (rfl)
@[simp] theorem b1_s (op : D → Option Bool) (f : Den) {ρ : Env} : b1 op f ρ = ((f ρ).bind op) := (rfl)
@[simp] theorem b2_s (op : D → D → Option Bool) (f g : Den) {ρ : Env} : b2 op f g ρ = ((f ρ).bind fun x => (g ρ).bind fun y => op x y) := (rfl)
@[simp] theorem bV_s (f : DenB) {ρ : Env} : bV f ρ = ((f ρ).bind fun b => some (.bool b)) := (rfl)
@[simp] theorem bCh_s (op op' : D → D → Option Bool) (f g h : Den) {ρ : Env} : bCh op op' f g h ρ = ((f ρ).bind fun x => (g ρ).bind fun y => (op x y).bind fun b => if b then (h ρ).bind fun z => op' y z else some false) := (rfl)
@[simp] theorem bNot_s (f : DenB) {ρ : Env} : bNot f ρ = ((f ρ).bind fun b => some (!b)) := (rfl)
@[simp] theorem bAnd_s (f g : DenB) {ρ : Env} : bAnd f g ρ = ((f ρ).bind fun b => if b then g ρ else some false) := (rfl)
@[simp] theorem bOr_s (f g : DenB) {ρ : Env} : bOr f g ρ = ((f ρ).bind fun b => if b then some true else g ρ) := (rfl)
@[simp] theorem bYes_s {ρ : Env} : bYes  ρ = (some true) := (rfl)
@[simp] theorem bTmp_s (i : Nat) (fb : DenB) {ρ : Env} : bTmp i fb ρ = (fb (frz i ρ)) := (rfl)
@[simp] theorem dIf_s (c : DenB) (f g : Den) {ρ : Env} : dIf c f g ρ = ((c ρ).bind fun b => if b then f ρ else g ρ) := (rfl)
@[simp] theorem dAnd_s (f g : Den) {ρ : Env} : dAnd f g ρ = ((f ρ).bind fun x => match x with | .bool true => g ρ | .bool false => some (.bool false) | _ => none) := (rfl)
@[simp] theorem dOr_s (f g : Den) {ρ : Env} : dOr f g ρ = ((f ρ).bind fun x => match x with | .bool true => some (.bool true) | .bool false => g ρ | _ => none) := (rfl)
@[simp] theorem lNil_s {ρ : Env} : lNil  ρ = (some []) := (rfl)
@[simp] theorem lCons_s (f : Den) (g : DenL) {ρ : Env} : lCons f g ρ = ((f ρ).bind fun x => (g ρ).bind fun xs => some (x :: xs)) := (rfl)
@[simp] theorem lStar_s (f : Den) (g : DenL) {ρ : Env} : lStar f g ρ = ((f ρ).bind fun x => (seqOf x).bind fun ys => (g ρ).bind fun xs => some (ys ++ xs)) := (rfl)
@[simp] theorem mkT_s (g : DenL) {ρ : Env} : mkT g ρ = ((g ρ).bind fun xs => if xs.length ≤ 1000000 then some (.tuple xs) else none) := (rfl)
@[simp] theorem mkL_s (g : DenL) {ρ : Env} : mkL g ρ = ((g ρ).bind fun xs => if xs.length ≤ 1000000 then some (.list xs) else none) := (rfl)
@[simp] theorem dCall_s (fl : DenL) (fn : List D → Option D) {ρ : Env} : dCall fl fn ρ = ((fl ρ).bind fn) := (rfl)
@[simp] theorem sSeq_s (f g : DenS) {ρ : Env} : sSeq f g ρ = ((f ρ).bind fun o => match o with | .nx ρ' => g ρ' | o => some o) := (rfl)
@[simp] theorem sSet_s (i : Nat) (f : Den) {ρ : Env} : sSet i f ρ = ((f ρ).bind fun d => some (.nx (ρ.set i (.fz d)))) := (rfl)
@[simp] theorem sOwn_s (i : Nat) (f : Den) {ρ : Env} : sOwn i f ρ = ((f ρ).bind fun d => some (.nx (ρ.set i (.ow d)))) := (rfl)
@[simp] theorem sIf_s (c : DenB) (f g : DenS) {ρ : Env} : sIf c f g ρ = ((c ρ).bind fun b => if b then f ρ else g ρ) := (rfl)
@[simp] theorem sRet_s (f : Den) {ρ : Env} : sRet f ρ = ((f ρ).bind fun d => some (.rt d)) := (rfl)
@[simp] theorem sAsg_s (g : DenG) (f : Den) {ρ : Env} : sAsg g f ρ = ((f ρ).bind fun d => (g d ρ).bind fun ρ' => some (.nx ρ')) := (rfl)
@[simp] theorem sDrop_s (f : Den) {ρ : Env} : sDrop f ρ = ((f ρ).bind fun _ => some (.nx ρ)) := (rfl)
@[simp] theorem sPar_s (i j : Nat) (f : DenL) {ρ : Env} : sPar i j f ρ = ((f ρ).bind fun ds => match ds with | [d, e] => some (.nx ((ρ.set i (.fz d)).set j (.fz e))) | _ => none) := (rfl)
@[simp] theorem sNo_s {ρ : Env} : sNo  ρ = (none) := (rfl)
@[simp] theorem sNx_s {ρ : Env} : sNx  ρ = (some (.nx ρ)) := (rfl)
@[simp] theorem sRetN_s {ρ : Env} : sRetN  ρ = (some (.rt .none)) := (rfl)
@[simp] theorem sBk_s {ρ : Env} : sBk  ρ = (some (.bk ρ)) := (rfl)
@[simp] theorem sCt_s {ρ : Env} : sCt  ρ = (some (.ct ρ)) := (rfl)
@[simp] theorem sFrz_s (i : Nat) (f : DenS) {ρ : Env} : sFrz i f ρ = (f (frz i ρ)) := (rfl)
@[simp] theorem sApp_s (i : Nat) (f : Den) {ρ : Env} : sApp i f ρ = ((f ρ).bind fun d => (owL ρ i).bind fun xs => if xs.length < 1000000 then some (.nx (ρ.set i (.ow (.list (xs ++ [d]))))) else none) := (rfl)
@[simp] theorem sExt_s (i : Nat) (f : Den) {ρ : Env} : sExt i f ρ = ((f ρ).bind fun d => (listOf d).bind fun ys => (owL ρ i).bind fun xs => if xs.length + ys.length ≤ 1000000 then some (.nx (ρ.set i (.ow (.list (xs ++ ys))))) else none) := (rfl)
@[simp] theorem sStD_s (i : Nat) (fk f : Den) {ρ : Env} : sStD i fk f ρ = ((f ρ).bind fun d => (fk ρ).bind fun j => (owD ρ i).bind fun xs => (putD xs j d).bind fun ys => some (.nx (ρ.set i (.ow (.dict ys))))) := (rfl)
@[simp] theorem sLcSet_s (i : Nat) (own : Bool) (f : Den) {ρ : Env} : sLcSet i own f ρ = ((f ρ).bind fun d => some (.nx (setNew i own d ρ))) := (rfl)
@[simp] theorem gN_s (i : Nat) {d : D} {ρ : Env} : gN i d ρ = (some (ρ.set i (.fz d))) := (rfl)
@[simp] theorem gT_s (gs : DenGs) (n : Nat) {d : D} {ρ : Env} : gT gs n d ρ = (match d with | .tuple ds => if ds.length = n then gs ds ρ else none | _ => none) := (rfl)
@[simp] theorem gLs_s (gs : DenGs) (n : Nat) {d : D} {ρ : Env} : gLs gs n d ρ = (match d with | .list ds => if ds.length = n then gs ds ρ else none | _ => none) := (rfl)
@[simp] theorem oNone_s {ρ : Env} : oNone  ρ = (some none) := (rfl)
@[simp] theorem oSome_s (f : Den) {ρ : Env} : oSome f ρ = ((f ρ).bind fun x => match x with | .int i => some (some i) | _ => none) := (rfl)
@[simp] theorem dSl_s (f : Den) (l h : DenO) {ρ : Env} : dSl f l h ρ = ((f ρ).bind fun x => (l ρ).bind fun lo => (h ρ).bind fun hi => cutD lo hi x) := (rfl)
@[simp] theorem iSeq_s (f : Den) {ρ : Env} : iSeq f ρ = ((f ρ).bind seqOf) := (rfl)
@[simp] theorem iR1_s (f : Den) {ρ : Env} : iR1 f ρ = ((f ρ).bind rg1) := (rfl)
@[simp] theorem iR2_s (f g : Den) {ρ : Env} : iR2 f g ρ = ((f ρ).bind fun x => (g ρ).bind fun y => rg2 x y) := (rfl)
@[simp] theorem iEn_s (f : Den) {ρ : Env} : iEn f ρ = ((f ρ).bind fun x => match x with | .list xs => some (enumL xs) | _ => none) := (rfl)
@[simp] theorem iZp_s (f g : Den) {ρ : Env} : iZp f g ρ = ((f ρ).bind fun x => (g ρ).bind fun y => match x, y with | .list xs, .list ys => some (zipL xs ys) | _, _ => none) := (rfl)
@[simp] theorem dDisp1_s (f g : Den) {ρ : Env} : dDisp1 f g ρ = ((f ρ).bind fun k => (keyOf k).bind fun _ => (g ρ).bind fun v => some (.dict [(k, v)])) := (rfl)
@[simp] theorem runX_s (fb : DenS) (n : Nat) (ds : List D) : runX fb n ds = (match fb (env0 n ds) with | some (.rt d) => some d | some (.rn d) => some d | some (.nx _) => some .none | _ => none) := (rfl)
@[simp] theorem env0_s (n : Nat) (ds : List D) : env0 n ds = ds.map .fz ++ List.replicate (n - ds.length) .no := (rfl)
@[simp] theorem frz_s (i : Nat) (ρ : Env) : frz i ρ = (match ρ[i]? with | some (.ow d) => ρ.set i (.fz d) | _ => ρ) := (rfl)
@[simp] theorem owL_s (i : Nat) (ρ : Env) : owL ρ i = (match ρ[i]? with | some (.ow (.list xs)) => some xs | _ => none) := (rfl)
@[simp] theorem gsNil_s (ρ : Env) : gsNil [] ρ = some ρ := (rfl)
@[simp] theorem gsCons_s (g : DenG) (gs : DenGs) (d : D) (r : List D) (ρ : Env) : gsCons g gs (d :: r) ρ = (g d ρ).bind fun ρ' => gs r ρ' := (rfl)
@[simp] theorem ltI_s (a b : Int) : ltI (.int a) (.int b) = some (decide (a < b)) := (rfl)
@[simp] theorem leI_s (a b : Int) : leI (.int a) (.int b) = some (decide (a ≤ b)) := (rfl)
@[simp] theorem gtI_s (a b : Int) : gtI (.int a) (.int b) = some (decide (b < a)) := (rfl)
@[simp] theorem geI_s (a b : Int) : geI (.int a) (.int b) = some (decide (b ≤ a)) := (rfl)
@[simp] theorem addD_i (a b : Int) : addD (.int a) (.int b) = some (.int (a + b)) := (rfl)
@[simp] theorem addD_l (a b : List D) : addD (.list a) (.list b) = if a.length + b.length ≤ 1000000 then some (.list (a ++ b)) else none := (rfl)
@[simp] theorem addD_t (a b : List D) : addD (.tuple a) (.tuple b) = if a.length + b.length ≤ 1000000 then some (.tuple (a ++ b)) else none := (rfl)
@[simp] theorem subD_i (a b : Int) : subD (.int a) (.int b) = some (.int (a - b)) := (rfl)
@[simp] theorem mulI_i (a b : Int) : mulI (.int a) (.int b) = if mulOk a b then some (.int (a * b)) else none := (rfl)
@[simp] theorem negD_i (a : Int) : negD (.int a) = some (.int (-a)) := (rfl)
@[simp] theorem lenD_l (a : List D) : lenD (.list a) = some (.int a.length) := (rfl)
@[simp] theorem lenD_t (a : List D) : lenD (.tuple a) = some (.int a.length) := (rfl)
@[simp] theorem intD_i (a : Int) : intD (.int a) = some (.int a) := (rfl)
@[simp] theorem intD_b (a : Bool) : intD (.bool a) = some (.int (if a then 1 else 0)) := (rfl)
@[simp] theorem absD_i (i : Int) : absD (.int i) = some (.int (if i < 0 then -i else i)) := (rfl)
@[simp] theorem minD2_i (i j : Int) : minD2 (.int i) (.int j) = some (.int (if j < i then j else i)) := (rfl)
@[simp] theorem maxD2_i (i j : Int) : maxD2 (.int i) (.int j) = some (.int (if j > i then j else i)) := (rfl)
@[simp] theorem ixD_l (xs : List D) (i : Int) : ixD (.list xs) (.int i) = atI xs i := (rfl)
@[simp] theorem ixD_t (xs : List D) (i : Int) : ixD (.tuple xs) (.int i) = atI xs i := (rfl)
@[simp] theorem seqOf_l (xs : List D) : seqOf (.list xs) = some xs := (rfl)
@[simp] theorem seqOf_t (xs : List D) : seqOf (.tuple xs) = some xs := (rfl)
@[simp] theorem modD_i (a b : Int) : modD (.int a) (.int b) = if 0 < b then some (.int (a % b)) else none := (rfl)
@[simp] theorem fdivD_i (a b : Int) : fdivD (.int a) (.int b) = if 0 < b ∧ b.natAbs.log2 < 9000 then some (.int (a / b)) else none := (rfl)
@[simp] theorem gcdD_i (a b : Int) : gcdD (.int a) (.int b) = some (.int (Nat.gcd a.natAbs b.natAbs : Nat)) := (rfl)
theorem atI_nat (xs : List D) (i : Nat) (h : i < xs.length) : atI xs (i : Int) = xs[i]? := by
  unfold atI ixN
  simp [h]
@[simp] theorem atI_0 (x : D) (xs : List D) : atI (x :: xs) 0 = some x := atI_nat _ 0 (by simp)
@[simp] theorem atI_1 (x y : D) (xs : List D) : atI (x :: y :: xs) 1 = some y := atI_nat _ 1 (by simp)
@[simp] theorem atI_2 (x y z : D) (xs : List D) : atI (x :: y :: z :: xs) 2 = some z := atI_nat _ 2 (by simp)
end
namespace Cm
noncomputable def D__law_draws : DenS :=
  (sSeq (sOwn 1 (mkL lNil))
  (sSeq (sFor (iR1 (d2 minD2 (kD (.int 63)) (d1 lenD (vR 0)))) (gN 2) (sSeq (sSet 3 (d1 absD (d2 ixD (vR 0) (vR 2))))
   (sIf (b2 geI (vR 3) (d2 powD (kD (.int 10)) (kD (.int 18)))) (sFor (iR1 (kD (.int 60))) (gN 4) (sIf (b2 gtI (vR 3) (kD (.int 0))) (sSeq (sApp 1 (d2 modD (d1 intD (vR 3)) (kD (.int 65536))))
      (sSet 3 (d2 fdivD (vR 3) (kD (.int 65536))))) sNx)) (sSeq (sSet 5 (d2 modD (d1 intD (d2 addD (d2 mulI (vR 3) (kD (.int 48271))) (d2 mulI (d2 addD (vR 2) (kD (.int 1))) (kD (.int 69621))))) (kD (.int 2147483647))))
    (sSeq (sSet 5 (d2 modD (d1 intD (d2 addD (d2 addD (d2 mulI (vR 5) (kD (.int 16807))) (d2 mulI (kD (.int 11)) (vR 2))) (kD (.int 5)))) (kD (.int 2147483629))))
    (sSeq (sApp 1 (d2 modD (d1 intD (vR 5)) (kD (.int 65536))))
    (sApp 1 (d2 modD (d1 intD (d2 fdivD (vR 5) (kD (.int 65536)))) (kD (.int 32768))))))))))
  (sFrz 1 (sRet (vR 1)))))
noncomputable def f__law_draws : List D → Option D := runX D__law_draws 6
noncomputable def D__law_mix : DenS :=
  (sSeq (sSet 3 (kD (.int 0)))
  (sSeq (sIf (b2 gtI (d1 lenD (vR 0)) (kD (.int 0))) (sSet 3 (d2 ixD (vR 0) (d2 modD (d1 intD (vR 1)) (d1 lenD (vR 0))))) sNx)
  (sSeq (sIf (b2 ltI (vR 1) (d1 lenD (vR 0))) (sRet (d2 modD (d1 intD (vR 3)) (vR 2))) sNx)
  (sRet (d2 modD (d1 intD (d2 fdivD (d1 intD (d2 addD (d2 mulI (vR 3) (kD (.int 7919))) (d2 mulI (vR 1) (kD (.int 104729))))) (kD (.int 3)))) (vR 2))))))
noncomputable def f__law_mix : List D → Option D := runX D__law_mix 4
noncomputable def D_fraction : DenS :=
  (sSeq (sIf (b2 ltI (vR 1) (kD (.int 0))) (sPar 0 1 (lCons (d1 negD (vR 0)) (lCons (d1 negD (vR 1)) lNil))) sNx)
  (sSeq (sSet 2 (d2 gcdD (vR 0) (vR 1)))
  (sRet (mkT (lCons (d2 fdivD (vR 0) (vR 2)) (lCons (d2 fdivD (vR 1) (vR 2)) lNil))))))
noncomputable def f_fraction : List D → Option D := runX D_fraction 3
noncomputable def D_plus : DenS :=
  (sRet (dCall (lCons (d2 addD (d2 mulI (d2 ixD (vR 0) (kD (.int 0))) (d2 ixD (vR 1) (kD (.int 1)))) (d2 mulI (d2 ixD (vR 1) (kD (.int 0))) (d2 ixD (vR 0) (kD (.int 1))))) (lCons (d2 mulI (d2 ixD (vR 0) (kD (.int 1))) (d2 ixD (vR 1) (kD (.int 1)))) lNil)) f_fraction))
noncomputable def f_plus : List D → Option D := runX D_plus 2
noncomputable def D_times : DenS :=
  (sRet (dCall (lCons (d2 mulI (d2 ixD (vR 0) (kD (.int 0))) (d2 ixD (vR 1) (kD (.int 0)))) (lCons (d2 mulI (d2 ixD (vR 0) (kD (.int 1))) (d2 ixD (vR 1) (kD (.int 1)))) lNil)) f_fraction))
noncomputable def f_times : List D → Option D := runX D_times 2
noncomputable def D_total : DenS :=
  (sSeq (sSet 1 (mkT (lCons (kD (.int 0)) (lCons (kD (.int 1)) lNil))))
  (sSeq (sFor (iSeq (vR 0)) (gN 2) (sSet 1 (dCall (lCons (vR 1) (lCons (vR 2) lNil)) f_plus)))
  (sRet (vR 1))))
noncomputable def f_total : List D → Option D := runX D_total 3
end Cm
/-! ### fractions -/
def frD (q : Rat) : D := .tuple [.int q.num, .int q.den]
theorem fraction_eq (a b : Int) (hb : b ≠ 0) (h1 : b.natAbs < 2 ^ 9000) : Cm.f_fraction [.int a, .int b] = some (frD ((a : Rat) / b)) := by
  have hg : 0 < Nat.gcd a.natAbs b.natAbs := Nat.gcd_pos_of_pos_right _ (by omega)
  have hl : (Nat.gcd a.natAbs b.natAbs).log2 < 9000 := log2_lt (Nat.lt_of_le_of_lt (Nat.gcd_le_right _ (by omega)) h1) (by decide)
  have key : ∀ (a b : Int), 0 < b → frD ((a : Rat) / b) = .tuple [.int (a / (Nat.gcd a.natAbs b.natAbs : Nat)), .int (b / (Nat.gcd a.natAbs b.natAbs : Nat))] := fun a b hb => by
    unfold frD
    rw [← Rat.divInt_eq_div, Rat.num_divInt, Rat.den_divInt, if_neg (by omega)]
    have e1 : b.sign = 1 := Int.sign_eq_one_of_pos hb
    have e2 : b.gcd a = Nat.gcd a.natAbs b.natAbs := by rw [Int.gcd_comm]; rfl
    have e3 : ((b.natAbs : Nat) : Int) = b := by omega
    rw [e1, e2, Int.one_mul, Int.natCast_ediv, e3]
  unfold Cm.f_fraction Cm.D_fraction
  by_cases h : b < 0
  · have := key (-a) (-b) (by omega)
    rw [show (((-a : Int) : Rat) / ((-b : Int) : Rat)) = (a : Rat) / b by
      rw [Rat.intCast_neg, Rat.intCast_neg]; grind] at this
    rw [this]
    simp [h, hl, hb]
  · rw [key a b (by omega)]
    simp [h, hl, hb]
/-- a fraction of small parts -/
def Sq (q : Rat) : Prop := q.num.natAbs < 2 ^ 4000 ∧ q.den < 2 ^ 4000
theorem pow_mul_lt {a b m n : Nat} (ha : a < 2 ^ m) (hb : b < 2 ^ n) : a * b < 2 ^ (m + n) := by
  rw [Nat.pow_add]
  exact Nat.mul_lt_mul'' ha hb
theorem plus_eq (p q : Rat) (hp : Sq p) (hq : Sq q) : Cm.f_plus [frD p, frD q] = some (frD (p + q)) := by
  have hw : ∀ a b : Nat, a < 2 ^ 4000 → b < 2 ^ 4000 → a * b < 2 ^ 9000 := fun a b ha hb => Nat.lt_of_lt_of_le (pow_mul_lt ha hb) (Nat.pow_le_pow_right (by decide) (by decide))
  have h1 : ∀ a b : Int, a.natAbs < 2 ^ 4000 → b.natAbs < 2 ^ 4000 → mulOk a b = true := fun a b ha hb => mulOk_of (Nat.lt_of_lt_of_le ha (Nat.pow_le_pow_right (by decide) (by decide))) (Nat.lt_of_lt_of_le hb (Nat.pow_le_pow_right (by decide) (by decide)))
  have e1 := h1 p.num q.den hp.1 (by simpa using hq.2)
  have e2 := h1 q.num p.den hq.1 (by simpa using hp.2)
  have e3 := h1 p.den q.den (by simpa using hp.2) (by simpa using hq.2)
  have hd : ((p.den : Int) * (q.den : Int)) ≠ 0 := by
    have := p.den_nz; have := q.den_nz
    exact Int.mul_ne_zero (by omega) (by omega)
  have key := fraction_eq (p.num * q.den + q.num * p.den) (p.den * q.den) hd (by rw [Int.natAbs_mul]; exact hw _ _ (by simpa using hp.2) (by simpa using hq.2))
  have e4 : ((p.num * q.den + q.num * p.den : Int) : Rat) / ((p.den * q.den : Int) : Rat) = p + q := by
    rw [← Rat.divInt_eq_div, ← Int.natCast_mul, Rat.divInt_ofNat, Rat.add_def']
  rw [e4] at key
  unfold Cm.f_plus Cm.D_plus
  simp [frD, e1, e2, e3] at key ⊢
  rw [key]
  rfl
theorem times_eq (p q : Rat) (hp : Sq p) (hq : Sq q) : Cm.f_times [frD p, frD q] = some (frD (p * q)) := by
  have hw : ∀ a b : Nat, a < 2 ^ 4000 → b < 2 ^ 4000 → a * b < 2 ^ 9000 := fun a b ha hb => Nat.lt_of_lt_of_le (pow_mul_lt ha hb) (Nat.pow_le_pow_right (by decide) (by decide))
  have h1 : ∀ a b : Int, a.natAbs < 2 ^ 4000 → b.natAbs < 2 ^ 4000 → mulOk a b = true := fun a b ha hb => mulOk_of (Nat.lt_of_lt_of_le ha (Nat.pow_le_pow_right (by decide) (by decide))) (Nat.lt_of_lt_of_le hb (Nat.pow_le_pow_right (by decide) (by decide)))
  have e1 := h1 p.num q.num hp.1 hq.1
  have e3 := h1 p.den q.den (by simpa using hp.2) (by simpa using hq.2)
  have hd : ((p.den : Int) * (q.den : Int)) ≠ 0 := by
    have := p.den_nz; have := q.den_nz
    exact Int.mul_ne_zero (by omega) (by omega)
  have key := fraction_eq (p.num * q.num) (p.den * q.den) hd (by rw [Int.natAbs_mul]; exact hw _ _ (by simpa using hp.2) (by simpa using hq.2))
  have e4 : ((p.num * q.num : Int) : Rat) / ((p.den * q.den : Int) : Rat) = p * q := by
    rw [← Rat.divInt_eq_div, ← Int.natCast_mul, Rat.divInt_ofNat, Rat.mul_def']
  rw [e4] at key
  unfold Cm.f_times Cm.D_times
  simp [frD, e1, e3] at key ⊢
  rw [key]
  rfl
theorem run_seq {A B : DenS} {n : Nat} {ds : List D} {ρ' : Env} {r : Option D} (h : A (env0 n ds) = some (.nx ρ')) (h2 : (match B ρ' with | some (.rt d) => some d | some (.rn d) => some d | some (.nx _) => some .none | _ => none) = r) : runX (sSeq A B) n ds = r := by
  rw [runX_s, sSeq_nx h]
  exact h2
theorem sum_take_succ {qs : List Rat} {j : Nat} {q : Rat} (h : qs[j]? = some q) : (qs.take (j + 1)).sum = (qs.take j).sum + q := by
  rw [List.take_add_one, h, List.sum_append]
  simp [Rat.add_zero]
/-- total of fractions whose partial sums are small -/
theorem total_eq (qs : List Rat) (hs : ∀ n, Sq ((qs.take n).sum)) (hq : ∀ q ∈ qs, Sq q) : Cm.f_total [.list (qs.map frD)] = some (frD qs.sum) := by
  unfold Cm.f_total Cm.D_total
  refine run_seq (ρ' := [.fz (.list (qs.map frD)), .fz (frD 0), .no]) (by simp [frD]) ?_
  obtain ⟨ρ', h1, h2⟩ := sFor_ok (fi := iSeq (vR 0)) (g := gN 2) (fb := sSet 1 (dCall (lCons (vR 1) (lCons (vR 2) lNil)) Cm.f_plus)) (ρ := [.fz (.list (qs.map frD)), .fz (frD 0), .no]) (ds := qs.map frD)
    (fun n ρ => ∃ s, ρ = [.fz (.list (qs.map frD)), .fz (frD ((qs.take n).sum)), s]) (by simp) ⟨.no, by simp⟩ (fun j d ρ hd ⟨s, hp⟩ => by
      rw [List.getElem?_map, Option.map_eq_some_iff] at hd
      obtain ⟨q, hq1, rfl⟩ := hd
      subst hp
      refine ⟨_, _, rfl, by simp [plus_eq _ _ (hs j) (hq q (List.mem_of_getElem? hq1))]; rfl, _, .inl rfl, .fz (frD q), ?_⟩
      simp [sum_take_succ hq1])
  obtain ⟨s, rfl⟩ := h2
  rw [sSeq_nx h1]
  simp
end Zx
/-! Y2: the draws. -/
namespace Zx
open PySem PySem.Spec L2
@[simp] theorem ixD_s (ns : List Int) (i : Int) : ixD (scrD ns) (.int i) = atI (ns.map .int) i := (rfl)
@[simp] theorem lenD_s (ns : List Int) : lenD (scrD ns) = some (.int ns.length) := by simp [scrD, lenD]
@[simp] theorem pow18 : powD (.int 10) (.int 18) = some (.int 1000000000000000000) := (rfl)
theorem rgL_at {lo : Int} {n j : Nat} {d : D} (h : (rgL lo n)[j]? = some d) : j < n ∧ d = .int (lo + j) := by
  unfold rgL at h
  rw [List.getElem?_map, Option.map_eq_some_iff] at h
  obtain ⟨i, h1, rfl⟩ := h
  obtain ⟨h2, h3⟩ := List.getElem?_eq_some_iff.mp h1
  rw [List.length_range] at h2
  rw [List.getElem_range] at h3
  subst h3
  exact ⟨h2, rfl⟩
@[simp] theorem rgL_len (lo : Int) (n : Nat) : (rgL lo n).length = n := by simp [rgL]
theorem rg1_ok {n : Int} (h0 : 0 ≤ n) (h : n ≤ 1000000) : rg1 (.int n) = some (rgL 0 n.toNat) := by
  unfold rg1
  simp only
  rw [if_pos (by omega)]
theorem rg2_ok {m n : Int} (hm : -1000 ≤ m) (hm' : m ≤ 1000000) (h0 : -1000 ≤ n) (h : n ≤ 1000000) : rg2 (.int m) (.int n) = some (rgL m (n - m).toNat) := by
  unfold rg2
  simp only
  rw [if_pos ⟨by omega, by omega⟩]
/-- numbers below 65536 -/
def Dr (m : Nat) (dr : List Int) : Prop := (∀ d ∈ dr, 0 ≤ d ∧ d < 65536) ∧ dr.length ≤ m
theorem Dr.add {m : Nat} {dr : List Int} {d : Int} (h : Dr m dr) (h0 : 0 ≤ d) (h1 : d < 65536) : Dr (m + 1) (dr ++ [d]) := by
  refine ⟨fun x hx => ?_, by rw [List.length_append]; have := h.2; simpa using this⟩
  rcases List.mem_append.mp hx with hx | hx
  · exact h.1 x hx
  · rw [List.mem_singleton] at hx
    subst hx
    exact ⟨h0, h1⟩
theorem Dr.le {m n : Nat} {dr : List Int} (h : Dr m dr) (hl : m ≤ n) : Dr n dr := ⟨h.1, Nat.le_trans h.2 hl⟩
theorem mulOk_i {a b : Int} {m n : Nat} (ha : a.natAbs < 2 ^ m) (hb : b.natAbs < 2 ^ n) (hm : 2 ^ m ≤ 2 ^ 10000) (hn : 2 ^ n ≤ 2 ^ 10000) : mulOk a b = true := mulOk_of (Nat.lt_of_lt_of_le ha hm) (Nat.lt_of_lt_of_le hb hn)
theorem mulOk64 {a b : Int} (ha : a.natAbs < 2 ^ 64) (hb : b.natAbs < 2 ^ 64) : mulOk a b = true := by
  unfold mulOk
  have := log2_lt ha (by decide)
  have := log2_lt hb (by decide)
  exact decide_eq_true (by omega)
theorem draws_ok (ns : List Int) (hn : ns.length ≤ 63) : ∃ dr : List Int, Cm.f__law_draws [scrD ns] = some (.list (dr.map .int)) ∧ Dr 3780 dr := by
  unfold Cm.f__law_draws Cm.D__law_draws
  obtain ⟨ρ', h1, h2⟩ := sFor_ok (fi := iR1 (d2 minD2 (kD (.int 63)) (d1 lenD (vR 0)))) (g := gN 2)
    (fb := sSeq (sSet 3 (d1 absD (d2 ixD (vR 0) (vR 2)))) (sIf (b2 geI (vR 3) (d2 powD (kD (.int 10)) (kD (.int 18)))) (sFor (iR1 (kD (.int 60))) (gN 4) (sIf (b2 gtI (vR 3) (kD (.int 0))) (sSeq (sApp 1 (d2 modD (d1 intD (vR 3)) (kD (.int 65536)))) (sSet 3 (d2 fdivD (vR 3) (kD (.int 65536))))) sNx))
      (sSeq (sSet 5 (d2 modD (d1 intD (d2 addD (d2 mulI (vR 3) (kD (.int 48271))) (d2 mulI (d2 addD (vR 2) (kD (.int 1))) (kD (.int 69621))))) (kD (.int 2147483647))))
        (sSeq (sSet 5 (d2 modD (d1 intD (d2 addD (d2 addD (d2 mulI (vR 5) (kD (.int 16807))) (d2 mulI (kD (.int 11)) (vR 2))) (kD (.int 5)))) (kD (.int 2147483629))))
          (sSeq (sApp 1 (d2 modD (d1 intD (vR 5)) (kD (.int 65536)))) (sApp 1 (d2 modD (d1 intD (d2 fdivD (vR 5) (kD (.int 65536)))) (kD (.int 32768)))))))))
    (ρ := [.fz (scrD ns), .ow (.list []), .no, .no, .no, .no]) (ds := rgL 0 ns.length)
    (fun n ρ => ∃ dr s2 s3 s4 s5, ρ = [.fz (scrD ns), .ow (.list (dr.map .int)), s2, s3, s4, s5] ∧ Dr (60 * n) dr)
    (by
      have : (if (ns.length : Int) < 63 then (ns.length : Int) else 63) = ns.length := by split <;> omega
      simp [this]
      rw [rg1_ok (by omega) (by omega)]
      simp) ⟨[], .no, .no, .no, .no, by simp, by simp [Dr]⟩ (fun j d ρ hd ⟨dr, s2, s3, s4, s5, hp, hdr⟩ => by
      obtain ⟨hj, rfl⟩ := rgL_at hd
      subst hp
      have ha : atI (ns.map PyData.int) (0 + (j : Int)) = some (.int ns[j]) := by
        rw [Int.zero_add, atI_nat _ j (by simpa using hj)]
        simp [hj]
      refine ⟨[.fz (scrD ns), .ow (.list (dr.map .int)), .fz (.int (0 + j)), s3, s4, s5], ?_⟩
      generalize hr : (if ns[j] < 0 then -ns[j] else ns[j]) = rest
      have hr0 : 0 ≤ rest := by subst hr; split <;> omega
      have hq : 0 + (j : Int) < 63 := by omega
      generalize hk : (0 : Int) + (j : Int) = k at ha hq
      have hk0 : 0 ≤ k := by omega
      have e1 : sSet 3 (d1 absD (d2 ixD (vR 0) (vR 2))) [.fz (scrD ns), .ow (.list (dr.map .int)), .fz (.int k), s3, s4, s5] = some (.nx [.fz (scrD ns), .ow (.list (dr.map .int)), .fz (.int k), .fz (.int rest), s4, s5]) := by
        simp [ha, hr]
      rw [sSeq_nx e1]
      by_cases hb : 1000000000000000000 ≤ rest
      · obtain ⟨ρ2, g1, g2⟩ := sFor_ok (fi := iR1 (kD (.int 60))) (g := gN 4) (fb := sIf (b2 gtI (vR 3) (kD (.int 0))) (sSeq (sApp 1 (d2 modD (d1 intD (vR 3)) (kD (.int 65536)))) (sSet 3 (d2 fdivD (vR 3) (kD (.int 65536))))) sNx)
          (ρ := [.fz (scrD ns), .ow (.list (dr.map .int)), .fz (.int k), .fz (.int rest), s4, s5]) (ds := rgL 0 60)
          (fun n ρ => ∃ dr r t4, ρ = [.fz (scrD ns), .ow (.list (dr.map .int)), .fz (.int k), .fz (.int r), t4, s5] ∧ Dr (60 * j + n) dr) (by simp [rg1]) ⟨dr, rest, s4, rfl, hdr⟩
          (fun i e τ he ⟨dr', r, t4, hp', hd'⟩ => by
            subst hp'
            obtain ⟨hi, rfl⟩ := rgL_at he
            by_cases h0 : 0 < r
            · have hm1 := Int.emod_nonneg r (b := 65536) (by omega)
              have hm2 := Int.emod_lt_of_pos r (b := 65536) (by omega)
              have hl := hd'.2
              refine ⟨_, _, rfl, by
                have hlt : dr'.length < 1000000 := by omega
                simp [h0, hlt]; rfl, _, .inl rfl, dr' ++ [r % 65536], r / 65536, .fz (.int (0 + i)), by simp, ?_⟩
              exact (hd'.add hm1 hm2)
            · exact ⟨_, _, rfl, by simp [h0]; rfl, _, .inl rfl, dr', r, .fz (.int (0 + i)), by simp, hd'.le (by omega)⟩)
        obtain ⟨dr', r, t4, rfl, hd'⟩ := g2
        refine ⟨_, rfl, ?_, _, .inl rfl, dr', .fz (.int k), .fz (.int r), t4, s5, rfl, hd'.le (by simp; omega)⟩
        rw [sIf_t (by simp [hb])]
        exact g1
      · have hlt : rest < 1000000000000000000 := by omega
        have m1 : mulOk rest 48271 = true := mulOk64 (by omega) (by decide)
        have m2 : mulOk (k + 1) 69621 = true := mulOk64 (by omega) (by decide)
        generalize hx : (rest * 48271 + (k + 1) * 69621) % 2147483647 = x
        have hx1 : 0 ≤ x := by rw [← hx]; exact Int.emod_nonneg _ (by omega)
        have hx2 : x < 2147483647 := by rw [← hx]; exact Int.emod_lt_of_pos _ (by omega)
        have m3 : mulOk x 16807 = true := mulOk64 (by omega) (by decide)
        have m4 : mulOk 11 k = true := mulOk64 (by decide) (by omega)
        generalize hy : (x * 16807 + 11 * k + 5) % 2147483629 = y
        have hl := hdr.2
        have l1 : dr.length < 1000000 := by omega
        have l2 : dr.length + 1 < 1000000 := by omega
        refine ⟨_, rfl, by
          rw [sIf_f (by simp; omega)]
          simp [m1, m2, m3, m4, hx, hy, l1, l2]; rfl, _, .inl rfl, dr ++ [y % 65536, y / 65536 % 32768], .fz (.int k), .fz (.int rest), s4, .fz (.int y), by simp, ?_⟩
        have a1 := Int.emod_nonneg y (b := 65536) (by omega)
        have a2 := Int.emod_lt_of_pos y (b := 65536) (by omega)
        have a3 := Int.emod_nonneg (y / 65536) (b := 32768) (by omega)
        have a4 := Int.emod_lt_of_pos (y / 65536) (b := 32768) (by omega)
        have := (hdr.add a1 a2).add a3 (by omega)
        rw [List.append_assoc] at this
        exact this.le (by omega))
  obtain ⟨dr, s2, s3, s4, s5, rfl, hdr⟩ := h2
  refine ⟨dr, run_seq (ρ' := [.fz (scrD ns), .ow (.list []), .no, .no, .no, .no]) (by simp) ?_, hdr.le (by simp; omega)⟩
  rw [sSeq_nx h1]
  simp
theorem atI_int (xs : List D) (i : Int) (h0 : 0 ≤ i) (h : i < xs.length) : atI xs i = xs[i.toNat]? := by
  have := atI_nat xs i.toNat (by omega)
  rw [show ((i.toNat : Nat) : Int) = i by omega] at this
  exact this
theorem mix_ok {m : Nat} {dr : List Int} (hd : Dr m dr) (hm : m ≤ 100000) (k many : Int) (hk : 0 ≤ k) (hk2 : k < 1000000) (h0 : 0 < many) : ∃ x, Cm.f__law_mix [.list (dr.map .int), .int k, .int many] = some (.int x) ∧ 0 ≤ x ∧ x < many := by
  unfold Cm.f__law_mix Cm.D__law_mix
  have hl := hd.2
  have cell : ∃ c : Int, sIf (b2 gtI (d1 lenD (vR 0)) (kD (.int 0))) (sSet 3 (d2 ixD (vR 0) (d2 modD (d1 intD (vR 1)) (d1 lenD (vR 0))))) sNx [.fz (.list (dr.map .int)), .fz (.int k), .fz (.int many), .fz (.int 0)] =
      some (.nx [.fz (.list (dr.map .int)), .fz (.int k), .fz (.int many), .fz (.int c)]) ∧ 0 ≤ c ∧ c < 65536 := by
    by_cases hz : 0 < dr.length
    · have hz' : (0 : Int) < dr.length := by omega
      have a1 := Int.emod_nonneg k (b := dr.length) (by omega)
      have a2 := Int.emod_lt_of_pos k hz'
      have ha : atI (dr.map PyData.int) (k % (dr.length : Int)) = some (.int (dr[(k % (dr.length : Int)).toNat]'(by omega))) := by
        have hlt : (k % (dr.length : Int)).toNat < dr.length := by omega
        rw [atI_int _ _ a1 (by simpa using a2), List.getElem?_map, List.getElem?_eq_getElem hlt]
        rfl
      refine ⟨dr[(k % (dr.length : Int)).toNat]'(by omega), ?_, hd.1 _ (List.getElem_mem _)⟩
      simp [hz, ha]
    · refine ⟨0, ?_, by omega, by omega⟩
      simp [hz]
  obtain ⟨c, hc, hc0, hc1⟩ := cell
  have m1 : mulOk c 7919 = true := mulOk64 (by omega) (by decide)
  have m2 : mulOk k 104729 = true := mulOk64 (by omega) (by decide)
  by_cases hkl : k < dr.length
  · refine ⟨c % many, run_seq (ρ' := [.fz (.list (dr.map .int)), .fz (.int k), .fz (.int many), .fz (.int 0)]) (by simp) ?_, Int.emod_nonneg _ (by omega), Int.emod_lt_of_pos _ h0⟩
    rw [sSeq_nx hc]
    simp [hkl, h0]
  · refine ⟨((c * 7919 + k * 104729) / 3) % many, run_seq (ρ' := [.fz (.list (dr.map .int)), .fz (.int k), .fz (.int many), .fz (.int 0)]) (by simp) ?_, Int.emod_nonneg _ (by omega), Int.emod_lt_of_pos _ h0⟩
    rw [sSeq_nx hc]
    have l3 : Nat.log2 3 < 9000 := by decide
    simp [hkl, h0, m1, m2, l3]
end Zx
/-! Y3: dicts with int keys as lists; sizes of fractions. -/
namespace Zx
open PySem PySem.Spec L2
/-! ### dicts with int keys -/
section
variable {β : Type}
def kdE (enc : β → D) (l : List (Int × β)) : List (D × D) := l.map fun p => (.int p.1, enc p.2)
def adE (enc : β → D) (l : List (Int × β)) : D := .dict (kdE enc l)
def getE (l : List (Int × β)) (k : Int) : Option β := (l.find? fun p => p.1 == k).map (·.2)
def putE (l : List (Int × β)) (k : Int) (v : β) : List (Int × β) := if l.any (fun p => p.1 == k) then l.map (fun p => if p.1 == k then (p.1, v) else p) else l ++ [(k, v)]
def NDk (l : List (Int × β)) : Prop := (l.map (·.1)).Nodup
theorem eqv_intI (a b : Int) : PyData.eqv (.int a) (.int b) = (a == b) := by
  have e : PyData.eqv (.int a) (.int b) = decide (a = b) := rfl
  rw [e]
  by_cases h : a = b
  · subst h; simp
  · simp [h]
theorem notMkE (enc : β → D) (l : List (Int × β)) : notMk (kdE enc l) = true := by
  cases l with
  | nil => rfl
  | cons p l => rfl
theorem keyOfI (i : Int) : keyOf (.int i) = some (.inl i) := rfl
theorem dkOfE (enc : β → D) (l : List (Int × β)) (k : Int) : dkOf (adE enc l) (.int k) = some (kdE enc l) := by
  cases l with
  | nil => rfl
  | cons p l => rfl
theorem dGetE (enc : β → D) (l : List (Int × β)) (k : Int) : dGet (kdE enc l) (.int k) = (getE l k).map enc := by
  unfold dGet kdE getE
  induction l with
  | nil => rfl
  | cons p l ih =>
    rw [List.map_cons, List.find?_cons, List.find?_cons]
    simp only [eqv_intI]
    by_cases h : p.1 == k
    · simp [h]
    · simp only [h]
      exact ih
theorem dget3E (enc : β → D) (l : List (Int × β)) (k : Int) (x : D) : dgetD3 (adE enc l) (.int k) x = some (((getE l k).map enc).getD x) := by
  unfold dgetD3
  rw [dkOfE, Option.bind_some, dGetE]
theorem dgetE (enc : β → D) (l : List (Int × β)) (k : Int) : dgetD (adE enc l) (.int k) = (getE l k).map enc := by
  unfold dgetD
  rw [dkOfE, Option.bind_some, dGetE]
theorem dHasE (enc : β → D) (l : List (Int × β)) (k : Int) : dHas (kdE enc l) (.int k) = l.any fun p => p.1 == k := by
  unfold dHas kdE
  rw [List.any_map]
  congr 1
theorem dPutE (enc : β → D) (l : List (Int × β)) (k : Int) (v : β) : dPut (kdE enc l) (.int k) (enc v) = kdE enc (putE l k v) := by
  unfold dPut putE
  rw [dHasE]
  split
  · unfold kdE
    rw [List.map_map, List.map_map]
    refine List.map_congr_left fun p _ => ?_
    simp only [Function.comp, eqv_intI]
    split <;> rfl
  · unfold kdE
    rw [List.map_append]
    rfl
theorem kdE_len (enc : β → D) (l : List (Int × β)) : (kdE enc l).length = l.length := by simp [kdE]
theorem putDE (enc : β → D) (l : List (Int × β)) (k : Int) (v : β) (h : l.length < 1000000) : putD (kdE enc l) (.int k) (enc v) = some (kdE enc (putE l k v)) := by
  rw [← dPutE]
  have h2 : (kdE enc l).length < 1000000 := by rw [kdE_len]; exact h
  have h3 := notMkE enc l
  unfold putD
  split
  · rename_i r ds e1 e2
    cases e2
  · simp [h3, keyOfI, h2]
theorem putE_len (l : List (Int × β)) (k : Int) (v : β) : (putE l k v).length ≤ l.length + 1 := by
  unfold putE
  split <;> simp
theorem putE_keys (l : List (Int × β)) (k : Int) (v : β) : ∀ p ∈ putE l k v, p.1 = k ∨ ∃ q ∈ l, q.1 = p.1 := fun p hp => by
  unfold putE at hp
  split at hp
  · obtain ⟨q, h1, h2⟩ := List.mem_map.mp hp
    refine .inr ⟨q, h1, ?_⟩
    subst h2
    split <;> rfl
  · rcases List.mem_append.mp hp with h | h
    · exact .inr ⟨p, h, rfl⟩
    · rw [List.mem_singleton] at h
      subst h
      exact .inl rfl
theorem putE_nd (l : List (Int × β)) (k : Int) (v : β) (h : NDk l) : NDk (putE l k v) := by
  unfold NDk putE at *
  split
  · have e : ((l.map fun p => if p.1 == k then (p.1, v) else p).map (·.1)) = l.map (·.1) := by
      rw [List.map_map]
      refine List.map_congr_left fun p _ => ?_
      simp only [Function.comp]
      split <;> rfl
    rw [e]
    exact h
  · rename_i hn
    rw [List.map_append, List.nodup_append]
    refine ⟨h, by simp, fun x hx y hy => ?_⟩
    simp at hy
    subst hy
    rintro rfl
    obtain ⟨q, h1, h2⟩ := List.mem_map.mp hx
    exact hn (List.any_eq_true.mpr ⟨q, h1, by simpa using h2⟩)
theorem getE_mem {l : List (Int × β)} {k : Int} {v : β} (h : getE l k = some v) : (k, v) ∈ l := by
  unfold getE at h
  rw [Option.map_eq_some_iff] at h
  obtain ⟨p, h1, h2⟩ := h
  have h3 := List.mem_of_find?_eq_some h1
  have h4 := List.find?_some h1
  simp at h4
  subst h4 h2
  exact h3
theorem getE_of {l : List (Int × β)} (nd : NDk l) : ∀ {p : Int × β}, p ∈ l → getE l p.1 = some p.2 := by
  induction l with
  | nil => intro p h; cases h
  | cons q l ih =>
    intro p h
    unfold NDk at nd
    rw [List.map_cons, List.nodup_cons] at nd
    unfold getE
    rw [List.find?_cons]
    rcases List.mem_cons.mp h with rfl | h
    · simp
    · have hne : ¬ q.1 = p.1 := fun z => nd.1 (List.mem_map.mpr ⟨p, h, z.symm⟩)
      have := ih nd.2 h
      unfold getE at this
      have e : (q.1 == p.1) = false := by simpa using hne
      rw [e]
      exact this
theorem itLE (enc : β → D) (l : List (Int × β)) : itL (kdE enc l) = l.map fun p => .tuple [.int p.1, enc p.2] := by
  unfold itL kdE
  rw [List.map_map]
  rfl
theorem itemsE (enc : β → D) (ρ : Env) (j : Nat) (l : List (Int × β)) (h : ρ[j]? = some (.fz (adE enc l))) : iItemsJ j ρ = some (l.map fun p => .tuple [.int p.1, enc p.2]) := by
  unfold iItemsJ dkSlot
  rw [h]
  simp only [adE, Bool.false_eq_true, if_false, notMkE, if_true, Option.map_some, itLE]
theorem keysE (enc : β → D) (ρ : Env) (j : Nat) (l : List (Int × β)) (h : ρ[j]? = some (.fz (adE enc l))) : iKeysJ j ρ = some (l.map fun p => .int p.1) := by
  unfold iKeysJ dkSlot
  rw [h]
  simp only [adE, Bool.false_eq_true, if_false, notMkE, if_true, Option.map_some]
  unfold kdE
  rw [List.map_map]
  rfl
end
/-! ### sizes of fractions -/
def Sk (n : Nat) (q : Rat) : Prop := q.num.natAbs < 2 ^ n ∧ q.den < 2 ^ n
theorem Sk.sq {n : Nat} {q : Rat} (h : Sk n q) (hn : n ≤ 4000) : Sq q := by
  have := Nat.pow_le_pow_right (show 0 < 2 by decide) hn
  exact ⟨Nat.lt_of_lt_of_le h.1 this, Nat.lt_of_lt_of_le h.2 this⟩
theorem Sk.le {m n : Nat} {q : Rat} (h : Sk m q) (hn : m ≤ n) : Sk n q := by
  have := Nat.pow_le_pow_right (show 0 < 2 by decide) hn
  exact ⟨Nat.lt_of_lt_of_le h.1 this, Nat.lt_of_lt_of_le h.2 this⟩
theorem Sk_mk {n : Nat} {a : Int} {b : Nat} (ha : a.natAbs < 2 ^ n) (hb : b < 2 ^ n) (h0 : b ≠ 0) : Sk n (mkRat a b) := by
  unfold Sk
  rw [Rat.num_mkRat, Rat.den_mkRat, if_neg h0, if_neg h0]
  constructor
  · have : (a / ((b.gcd a.natAbs : Nat) : Int)).natAbs ≤ a.natAbs := Int.natAbs_ediv_le_natAbs _ _
    omega
  · have := Nat.div_le_self b (b.gcd a.natAbs)
    omega
theorem Sk.add {m n : Nat} {p q : Rat} (hp : Sk m p) (hq : Sk n q) : Sk (m + n + 1) (p + q) := by
  rw [Rat.add_def']
  refine Sk_mk ?_ ?_ (Nat.mul_ne_zero p.den_nz q.den_nz)
  · have h1 := pow_mul_lt hp.1 hq.2
    have h2 := pow_mul_lt hp.2 hq.1
    have e1 : (p.num * q.den).natAbs = p.num.natAbs * q.den := by rw [Int.natAbs_mul]; rfl
    have e2 : (q.num * p.den).natAbs = p.den * q.num.natAbs := by rw [Int.natAbs_mul, Nat.mul_comm]; rfl
    have := Int.natAbs_add_le (p.num * q.den) (q.num * p.den)
    rw [Nat.pow_succ]
    omega
  · have := pow_mul_lt hp.2 hq.2
    rw [Nat.pow_succ]
    omega
theorem Sk.mul {m n : Nat} {p q : Rat} (hp : Sk m p) (hq : Sk n q) : Sk (m + n) (p * q) := by
  rw [Rat.mul_def']
  refine Sk_mk ?_ (pow_mul_lt hp.2 hq.2) (Nat.mul_ne_zero p.den_nz q.den_nz)
  rw [Int.natAbs_mul]
  exact pow_mul_lt hp.1 hq.1
theorem Sk.neg {m : Nat} {p : Rat} (hp : Sk m p) : Sk m (-p) := by
  unfold Sk at *
  rw [Rat.neg_num, Rat.neg_den, Int.natAbs_neg]
  exact hp
theorem Sk_int {n : Nat} {a : Int} (h : a.natAbs < 2 ^ n) (hn : 1 ≤ n) : Sk n (a : Rat) := ⟨by simpa using h, Nat.one_lt_two_pow (by omega)⟩
theorem Sk_div {n : Nat} {a b : Int} (ha : a.natAbs < 2 ^ n) (hb : b.natAbs < 2 ^ n) (h0 : 0 < b) : Sk n ((a : Rat) / b) := by
  obtain ⟨c, rfl⟩ := Int.eq_ofNat_of_zero_le (Int.le_of_lt h0)
  have e : (a : Rat) / ((c : Int) : Rat) = mkRat a c := by rw [Rat.mkRat_eq_div]; rfl
  rw [e]
  exact Sk_mk ha (by simpa using hb) (by omega)
/-- a list of small ones has small sums -/
theorem Sk_sum {n : Nat} : ∀ (qs : List Rat), (∀ q ∈ qs, Sk n q) → Sk ((n + 1) * qs.length + 1) qs.sum
  | [], _ => ⟨Nat.two_pow_pos _, Nat.one_lt_two_pow (by omega)⟩
  | q :: qs, h => by
    rw [List.sum_cons, List.length_cons]
    have h1 := h q List.mem_cons_self
    have h2 := Sk_sum qs fun x hx => h x (List.mem_cons_of_mem _ hx)
    refine (h1.add h2).le ?_
    rw [Nat.mul_add, Nat.mul_one]
    omega
theorem total_sk {n : Nat} (qs : List Rat) (h : ∀ q ∈ qs, Sk n q) (hl : (n + 1) * qs.length + 1 ≤ 4000) (hn : n ≤ 4000) : Cm.f_total [.list (qs.map frD)] = some (frD qs.sum) := by
  refine total_eq qs (fun j => ?_) fun q hq => (h q hq).sq hn
  have h1 := Sk_sum (n := n) (qs.take j) fun q hq => h q (List.mem_of_mem_take hq)
  refine h1.sq ?_
  have h2 : (qs.take j).length ≤ qs.length := by rw [List.length_take]; omega
  have := Nat.mul_le_mul_left (n + 1) h2
  omega
end Zx
/-! Y4: comprehensions, loops that return, comparing fractions, minus, the law's own fractions. -/
namespace Zx
open PySem PySem.Spec L2
/-! ### comprehensions -/
theorem lcL_all {g : DenG} {fe : Den} {ρ : Env} (e : D → D) : ∀ (ds : List D), (∀ d ∈ ds, ∃ ρ1, g d ρ = some ρ1 ∧ fe ρ1 = some (e d)) → lcL g bYes fe ρ ds = some (ds.map e)
  | [], _ => rfl
  | d :: ds, h => by
    obtain ⟨ρ1, h1, h2⟩ := h d List.mem_cons_self
    have ih := lcL_all e ds fun x hx => h x (List.mem_cons_of_mem _ hx)
    simp [lcL, h1, h2, ih]
theorem lcL_if {g : DenG} {ft : DenB} {fe : Den} {ρ : Env} (b : D → Bool) (e : D → D) : ∀ (ds : List D), (∀ d ∈ ds, ∃ ρ1, g d ρ = some ρ1 ∧ ft ρ1 = some (b d) ∧ (b d = true → fe ρ1 = some (e d))) → lcL g ft fe ρ ds = some ((ds.filter b).map e)
  | [], _ => rfl
  | d :: ds, h => by
    obtain ⟨ρ1, h1, h2, h3⟩ := h d List.mem_cons_self
    have ih := lcL_if b e ds fun x hx => h x (List.mem_cons_of_mem _ hx)
    cases hb : b d with
    | true => simp [lcL, h1, h2, hb, h3 hb, ih]
    | false => simp [lcL, h1, h2, hb, ih]
theorem dLc_of {fi : DenI} {g : DenG} {ft : DenB} {fe : Den} {vs : List Nat} {ρ : Env} {ds out : List D} (h1 : fi ρ = some ds) (h2 : lcL g ft fe (wipeE ρ vs) ds = some out) (h3 : out.length ≤ 1000000) : dLc fi g ft fe vs ρ = some (.list out) := by
  unfold dLc
  simp [h1, h2, h3]
theorem intsOf_map : ∀ (is : List Int), intsOf (is.map .int) = some is
  | [] => rfl
  | i :: is => by
    rw [List.map_cons, intsOf, intsOf_map is]
    rfl
theorem bools_map : ∀ (is : List Bool), bools (is.map .bool) = some is
  | [] => rfl
  | i :: is => by
    rw [List.map_cons, bools, bools_map is]
    rfl
theorem frD_eqv (p q : Rat) : PyData.eqv (frD p) (frD q) = decide (p = q) := by
  have e : PyData.eqv (frD p) (frD q) = (decide (p.num = q.num) && (decide ((p.den : Int) = q.den) && true)) := rfl
  rw [e]
  by_cases h : p = q
  · subst h; simp
  · have : ¬ (p.num = q.num ∧ p.den = q.den) := fun ⟨h1, h2⟩ => h (Rat.ext h1 h2)
    simp [h]
    intro h1 h2
    exact absurd ⟨h1, by omega⟩ this
theorem neD_fr (p q : Rat) : neD (frD p) (frD q) = some (decide (p ≠ q)) := by
  have e : neD (frD p) (frD q) = some (!PyData.eqv (frD p) (frD q)) := rfl
  rw [e, frD_eqv]
  simp
theorem eqD_fr (p q : Rat) : eqD (frD p) (frD q) = some (decide (p = q)) := by
  have e : eqD (frD p) (frD q) = some (PyData.eqv (frD p) (frD q)) := rfl
  rw [e, frD_eqv]
theorem forL_ret {g : DenG} {fb : DenS} {r : D} (P : Env → Prop) : ∀ (ds : List D) (i : Nat) (d : D) (ρ : Env), ds[i]? = some d → P ρ →
    (∀ j e ρ, j < i → ds[j]? = some e → P ρ → ∃ ρ1 ρ2, g e ρ = some ρ1 ∧ fb ρ1 = some (.nx ρ2) ∧ P ρ2) → (∀ ρ, P ρ → ∃ ρ1, g d ρ = some ρ1 ∧ fb ρ1 = some (.rt r)) → forL g fb ds ρ = some (.rt r)
  | [], i, d, ρ, h, _, _, _ => by simp at h
  | e :: ds, 0, d, ρ, h, hp, _, hr => by
    simp at h
    subst h
    obtain ⟨ρ1, h1, h2⟩ := hr ρ hp
    simp only [forL, h1, h2, Option.bind_some]
  | e :: ds, i + 1, d, ρ, h, hp, hs, hr => by
    obtain ⟨ρ1, ρ2, h1, h2, h3⟩ := hs 0 e ρ (by omega) rfl hp
    simp only [forL, h1, h2, Option.bind_some]
    exact forL_ret P ds i d ρ2 (by simpa using h) h3 (fun j e' τ hj he ht => hs (j + 1) e' τ (by omega) (by simpa using he) ht) hr
namespace Cm
noncomputable def D_minus : DenS :=
  (sRet (dCall (lCons (d2 subD (d2 mulI (d2 ixD (vR 0) (kD (.int 0))) (d2 ixD (vR 1) (kD (.int 1)))) (d2 mulI (d2 ixD (vR 1) (kD (.int 0))) (d2 ixD (vR 0) (kD (.int 1))))) (lCons (d2 mulI (d2 ixD (vR 0) (kD (.int 1))) (d2 ixD (vR 1) (kD (.int 1)))) lNil)) f_fraction))
noncomputable def f_minus : List D → Option D := runX D_minus 2
noncomputable def D__law_fraction : DenS :=
  (sSeq (sPar 2 3 (lCons (d1 absD (vR 0)) (lCons (d1 absD (vR 1)) lNil)))
  (sSeq (sWh (b2 neD (vR 3) (kD (.int 0))) (sPar 2 3 (lCons (vR 3) (lCons (d2 modD (d1 intD (vR 2)) (vR 3)) lNil))))
  (sSeq (sIf (b2 ltI (vR 1) (kD (.int 0))) (sRet (mkT (lCons (d2 fdivD (d1 negD (vR 0)) (vR 2)) (lCons (d2 fdivD (d1 negD (vR 1)) (vR 2)) lNil)))) sNx)
  (sRet (mkT (lCons (d2 fdivD (vR 0) (vR 2)) (lCons (d2 fdivD (vR 1) (vR 2)) lNil)))))))
noncomputable def f__law_fraction : List D → Option D := runX D__law_fraction 4
noncomputable def D__law_plus : DenS :=
  (sRet (dCall (lCons (d2 addD (d2 mulI (d2 ixD (vR 0) (kD (.int 0))) (d2 ixD (vR 1) (kD (.int 1)))) (d2 mulI (d2 ixD (vR 1) (kD (.int 0))) (d2 ixD (vR 0) (kD (.int 1))))) (lCons (d2 mulI (d2 ixD (vR 0) (kD (.int 1))) (d2 ixD (vR 1) (kD (.int 1)))) lNil)) f__law_fraction))
noncomputable def f__law_plus : List D → Option D := runX D__law_plus 2
noncomputable def D__law_times : DenS :=
  (sRet (dCall (lCons (d2 mulI (d2 ixD (vR 0) (kD (.int 0))) (d2 ixD (vR 1) (kD (.int 0)))) (lCons (d2 mulI (d2 ixD (vR 0) (kD (.int 1))) (d2 ixD (vR 1) (kD (.int 1)))) lNil)) f__law_fraction))
noncomputable def f__law_times : List D → Option D := runX D__law_times 2
end Cm
theorem minus_eq (p q : Rat) (hp : Sq p) (hq : Sq q) : Cm.f_minus [frD p, frD q] = some (frD (p - q)) := by
  have hw : ∀ a b : Nat, a < 2 ^ 4000 → b < 2 ^ 4000 → a * b < 2 ^ 9000 := fun a b ha hb => Nat.lt_of_lt_of_le (pow_mul_lt ha hb) (Nat.pow_le_pow_right (by decide) (by decide))
  have h1 : ∀ a b : Int, a.natAbs < 2 ^ 4000 → b.natAbs < 2 ^ 4000 → mulOk a b = true := fun a b ha hb => mulOk_of (Nat.lt_of_lt_of_le ha (Nat.pow_le_pow_right (by decide) (by decide))) (Nat.lt_of_lt_of_le hb (Nat.pow_le_pow_right (by decide) (by decide)))
  have e1 := h1 p.num q.den hp.1 (by simpa using hq.2)
  have e2 := h1 q.num p.den hq.1 (by simpa using hp.2)
  have e3 := h1 p.den q.den (by simpa using hp.2) (by simpa using hq.2)
  have hd : ((p.den : Int) * (q.den : Int)) ≠ 0 := by
    have := p.den_nz; have := q.den_nz
    exact Int.mul_ne_zero (by omega) (by omega)
  have key := fraction_eq (p.num * q.den - q.num * p.den) (p.den * q.den) hd (by rw [Int.natAbs_mul]; exact hw _ _ (by simpa using hp.2) (by simpa using hq.2))
  have e4 : ((p.num * q.den - q.num * p.den : Int) : Rat) / ((p.den * q.den : Int) : Rat) = p - q := by
    rw [← Rat.divInt_eq_div, ← Int.natCast_mul, Rat.divInt_ofNat, Rat.sub_def']
  rw [e4] at key
  unfold Cm.f_minus Cm.D_minus
  simp [frD, e1, e2, e3] at key ⊢
  rw [key]
  rfl
theorem gcd_loop2 (n d : D) : ∀ (b a : Nat), ∃ m, whL (b2 neD (vR 3) (kD (.int 0))) (sPar 2 3 (lCons (vR 3) (lCons (d2 modD (d1 intD (vR 2)) (vR 3)) lNil))) m [.fz n, .fz d, .fz (.int a), .fz (.int b)] = some (.nx [.fz n, .fz d, .fz (.int (Nat.gcd a b : Nat)), .fz (.int 0)]) := by
  intro b
  induction b using Nat.strongRecOn with
  | ind b ih =>
    intro a
    have hne : neD (.int b) (.int 0) = some (decide (b ≠ 0)) := by
      have e : neD (.int b) (.int 0) = some (!decide ((b : Int) = 0)) := rfl
      rw [e]
      simp
    by_cases hb : b = 0
    · subst hb
      refine ⟨1, ?_⟩
      simp [whL, hne]
      rfl
    · obtain ⟨m, hn⟩ := ih (a % b) (Nat.mod_lt _ (by omega)) b
      refine ⟨m + 1, ?_⟩
      have hpos : 0 < b := by omega
      have e : Nat.gcd a b = Nat.gcd b (a % b) := by rw [Nat.gcd_comm, Nat.gcd_rec, Nat.gcd_comm]
      rw [e, ← hn]
      simp [whL, hne, hb, hpos]
theorem absI (a : Int) : (if a < 0 then -a else a) = (a.natAbs : Int) := by split <;> omega
theorem lfrac_eq (a b : Int) (hb : 0 < b) (h1 : b.natAbs < 2 ^ 9000) : Cm.f__law_fraction [.int a, .int b] = some (frD ((a : Rat) / b)) := by
  have hg : 0 < Nat.gcd a.natAbs b.natAbs := Nat.gcd_pos_of_pos_right _ (by omega)
  have hl : (Nat.gcd a.natAbs b.natAbs).log2 < 9000 := log2_lt (Nat.lt_of_le_of_lt (Nat.gcd_le_right _ (by omega)) h1) (by decide)
  have key : frD ((a : Rat) / b) = .tuple [.int (a / (Nat.gcd a.natAbs b.natAbs : Nat)), .int (b / (Nat.gcd a.natAbs b.natAbs : Nat))] := by
    unfold frD
    rw [← Rat.divInt_eq_div, Rat.num_divInt, Rat.den_divInt, if_neg (by omega)]
    have e1 : b.sign = 1 := Int.sign_eq_one_of_pos hb
    have e2 : b.gcd a = Nat.gcd a.natAbs b.natAbs := by rw [Int.gcd_comm]; rfl
    have e3 : ((b.natAbs : Nat) : Int) = b := by omega
    rw [e1, e2, Int.one_mul, Int.natCast_ediv, e3]
  unfold Cm.f__law_fraction Cm.D__law_fraction
  refine run_seq (ρ' := [.fz (.int a), .fz (.int b), .fz (.int a.natAbs), .fz (.int b.natAbs)]) (by simp [absI]) ?_
  obtain ⟨m, hn⟩ := gcd_loop2 (.int a) (.int b) b.natAbs a.natAbs
  rw [sSeq_nx (sWh_of hn), key]
  have hnb : ¬ b < 0 := by omega
  simp [hnb, hl, hg]
theorem lplus_eq (p q : Rat) (hp : Sq p) (hq : Sq q) : Cm.f__law_plus [frD p, frD q] = some (frD (p + q)) := by
  have hw : ∀ a b : Nat, a < 2 ^ 4000 → b < 2 ^ 4000 → a * b < 2 ^ 9000 := fun a b ha hb => Nat.lt_of_lt_of_le (pow_mul_lt ha hb) (Nat.pow_le_pow_right (by decide) (by decide))
  have h1 : ∀ a b : Int, a.natAbs < 2 ^ 4000 → b.natAbs < 2 ^ 4000 → mulOk a b = true := fun a b ha hb => mulOk_of (Nat.lt_of_lt_of_le ha (Nat.pow_le_pow_right (by decide) (by decide))) (Nat.lt_of_lt_of_le hb (Nat.pow_le_pow_right (by decide) (by decide)))
  have e1 := h1 p.num q.den hp.1 (by simpa using hq.2)
  have e2 := h1 q.num p.den hq.1 (by simpa using hp.2)
  have e3 := h1 p.den q.den (by simpa using hp.2) (by simpa using hq.2)
  have hd : 0 < ((p.den : Int) * (q.den : Int)) := by
    have := p.den_pos; have := q.den_pos
    exact Int.mul_pos (by omega) (by omega)
  have key := lfrac_eq (p.num * q.den + q.num * p.den) (p.den * q.den) hd (by rw [Int.natAbs_mul]; exact hw _ _ (by simpa using hp.2) (by simpa using hq.2))
  have e4 : ((p.num * q.den + q.num * p.den : Int) : Rat) / ((p.den * q.den : Int) : Rat) = p + q := by
    rw [← Rat.divInt_eq_div, ← Int.natCast_mul, Rat.divInt_ofNat, Rat.add_def']
  rw [e4] at key
  unfold Cm.f__law_plus Cm.D__law_plus
  simp [frD, e1, e2, e3] at key ⊢
  rw [key]
  rfl
theorem ltimes_eq (p q : Rat) (hp : Sq p) (hq : Sq q) : Cm.f__law_times [frD p, frD q] = some (frD (p * q)) := by
  have hw : ∀ a b : Nat, a < 2 ^ 4000 → b < 2 ^ 4000 → a * b < 2 ^ 9000 := fun a b ha hb => Nat.lt_of_lt_of_le (pow_mul_lt ha hb) (Nat.pow_le_pow_right (by decide) (by decide))
  have h1 : ∀ a b : Int, a.natAbs < 2 ^ 4000 → b.natAbs < 2 ^ 4000 → mulOk a b = true := fun a b ha hb => mulOk_of (Nat.lt_of_lt_of_le ha (Nat.pow_le_pow_right (by decide) (by decide))) (Nat.lt_of_lt_of_le hb (Nat.pow_le_pow_right (by decide) (by decide)))
  have e1 := h1 p.num q.num hp.1 hq.1
  have e3 := h1 p.den q.den (by simpa using hp.2) (by simpa using hq.2)
  have hd : 0 < ((p.den : Int) * (q.den : Int)) := by
    have := p.den_pos; have := q.den_pos
    exact Int.mul_pos (by omega) (by omega)
  have key := lfrac_eq (p.num * q.num) (p.den * q.den) hd (by rw [Int.natAbs_mul]; exact hw _ _ (by simpa using hp.2) (by simpa using hq.2))
  have e4 : ((p.num * q.num : Int) : Rat) / ((p.den * q.den : Int) : Rat) = p * q := by
    rw [← Rat.divInt_eq_div, ← Int.natCast_mul, Rat.divInt_ofNat, Rat.mul_def']
  rw [e4] at key
  unfold Cm.f__law_times Cm.D__law_times
  simp [frD, e1, e3] at key ⊢
  rw [key]
  rfl
end Zx
/-! Y5: over, is_fraction, is_share; simp lemmas of the later layer. -/
namespace Zx
open PySem PySem.Spec L2
@[simp] theorem sStL_s (i : Nat) (fj fd : Den) {ρ : Env} : sStL i fj fd ρ = ((fd ρ).bind fun d => (fj ρ).bind fun j => (owL ρ i).bind fun xs => match j with | .int j => (ixN xs.length j).bind fun n => some (.nx (ρ.set i (.ow (.list (xs.set n d))))) | _ => none) := (rfl)
@[simp] theorem iZpX_s (f g : Den) {ρ : Env} : iZpX f g ρ = ((f ρ).bind fun x => (g ρ).bind fun y => match x, y with | .tuple xs, .list ys => some (zipL xs ys) | .list xs, .list ys => some (zipL xs ys) | _, _ => none) := (rfl)
@[simp] theorem sRetOwn_s (i : Nat) {ρ : Env} : sRetOwn i ρ = (match ρ[i]? with | some (.ow d) => some (.rn d) | _ => none) := (rfl)
theorem ixN_nat {n k : Nat} (h : k < n) : ixN n (k : Int) = some k := by
  unfold ixN
  simp [h]
theorem eqD_i (a b : Int) : eqD (.int a) (.int b) = some (decide (a = b)) := rfl
theorem neD_i (a b : Int) : neD (.int a) (.int b) = some (decide (a ≠ b)) := by
  have e : neD (.int a) (.int b) = some (!decide (a = b)) := rfl
  rw [e]
  simp
namespace Cm
noncomputable def D_over : DenS :=
  (sRet (dCall (lCons (d2 mulI (d2 ixD (vR 0) (kD (.int 0))) (d2 ixD (vR 1) (kD (.int 1)))) (lCons (d2 mulI (d2 ixD (vR 0) (kD (.int 1))) (d2 ixD (vR 1) (kD (.int 0)))) lNil)) f_fraction))
noncomputable def f_over : List D → Option D := runX D_over 2
noncomputable def D_is_fraction : DenS :=
  (sRet (dAnd (bV (b2 gtI (d2 ixD (vR 0) (kD (.int 1))) (kD (.int 0)))) (bV (b2 eqD (d2 gcdD (d2 ixD (vR 0) (kD (.int 0))) (d2 ixD (vR 0) (kD (.int 1)))) (kD (.int 1))))))
noncomputable def f_is_fraction : List D → Option D := runX D_is_fraction 1
noncomputable def D_is_share : DenS :=
  (sRet (dAnd (dCall (lCons (vR 0) lNil) f_is_fraction) (bV (bCh leI leI (kD (.int 0)) (d2 ixD (vR 0) (kD (.int 0))) (d2 ixD (vR 0) (kD (.int 1)))))))
noncomputable def f_is_share : List D → Option D := runX D_is_share 1
end Cm
theorem over_eq (p q : Rat) (hp : Sq p) (hq : Sq q) (h0 : q ≠ 0) : Cm.f_over [frD p, frD q] = some (frD (p / q)) := by
  have hw : ∀ a b : Nat, a < 2 ^ 4000 → b < 2 ^ 4000 → a * b < 2 ^ 9000 := fun a b ha hb => Nat.lt_of_lt_of_le (pow_mul_lt ha hb) (Nat.pow_le_pow_right (by decide) (by decide))
  have h1 : ∀ a b : Int, a.natAbs < 2 ^ 4000 → b.natAbs < 2 ^ 4000 → mulOk a b = true := fun a b ha hb => mulOk_of (Nat.lt_of_lt_of_le ha (Nat.pow_le_pow_right (by decide) (by decide))) (Nat.lt_of_lt_of_le hb (Nat.pow_le_pow_right (by decide) (by decide)))
  have e1 := h1 p.num q.den hp.1 (by simpa using hq.2)
  have e3 := h1 p.den q.num (by simpa using hp.2) hq.1
  have hn : q.num ≠ 0 := fun z => h0 (Rat.num_eq_zero.mp z)
  have hd : ((p.den : Int) * q.num) ≠ 0 := by
    have := p.den_nz
    exact Int.mul_ne_zero (by omega) hn
  have key := fraction_eq (p.num * q.den) (p.den * q.num) hd (by rw [Int.natAbs_mul]; exact hw _ _ (by simpa using hp.2) hq.1)
  have e4 : ((p.num * q.den : Int) : Rat) / ((p.den * q.num : Int) : Rat) = p / q := by
    have hp' : (p.num : Rat) / ((p.den : Int) : Rat) = p := by rw [← Rat.divInt_eq_div]; exact Rat.num_divInt_den p
    have hq' : (q.num : Rat) / ((q.den : Int) : Rat) = q := by rw [← Rat.divInt_eq_div]; exact Rat.num_divInt_den q
    have n1 : ((p.den : Int) : Rat) ≠ 0 := fun z => p.den_nz (by have := Rat.intCast_eq_zero_iff.mp z; omega)
    have n2 : ((q.den : Int) : Rat) ≠ 0 := fun z => q.den_nz (by have := Rat.intCast_eq_zero_iff.mp z; omega)
    have n3 : ((q.num : Int) : Rat) ≠ 0 := fun z => hn (Rat.intCast_eq_zero_iff.mp z)
    have hp2 : p = (p.num : Rat) / ((p.den : Int) : Rat) := hp'.symm
    have hq2 : q = (q.num : Rat) / ((q.den : Int) : Rat) := hq'.symm
    rw [Rat.intCast_mul, Rat.intCast_mul]
    generalize ((p.num : Int) : Rat) = a at *
    generalize ((p.den : Int) : Rat) = b at *
    generalize ((q.num : Int) : Rat) = c at *
    generalize ((q.den : Int) : Rat) = d at *
    rw [hp2, hq2]
    grind
  rw [e4] at key
  unfold Cm.f_over Cm.D_over
  simp [frD, e1, e3] at key ⊢
  rw [key]
  rfl
theorem is_fraction_eq (q : Rat) : Cm.f_is_fraction [frD q] = some (.bool true) := by
  have h1 : 0 < q.den := q.den_pos
  have h2 : Nat.gcd q.num.natAbs q.den = 1 := q.reduced
  unfold Cm.f_is_fraction Cm.D_is_fraction
  simp [frD, h1, h2, eqD_i, dAnd]
theorem is_share_eq (q : Rat) (h0 : 0 ≤ q) (h1 : q ≤ 1) : Cm.f_is_share [frD q] = some (.bool true) := by
  have n0 : 0 ≤ q.num := Rat.num_nonneg.mpr h0
  have n1 : q.num ≤ q.den := by
    have := (Rat.le_iff q 1).mp h1
    simpa using this
  have hf := is_fraction_eq q
  unfold Cm.f_is_share Cm.D_is_share
  simp [hf, dAnd]
  simp [frD, n0, n1]
end Zx
/-! Y6: the laws' own fractions, with gcd by a loop; both kinds of _law_low. -/
namespace Zx
open PySem PySem.Spec L2
namespace Cm
noncomputable def D_lgcd : DenS :=
  (sSeq (sWh (b2 neD (vR 1) (kD (.int 0))) (sAsg (gLs (gsCons (gN 0) (gsCons (gN 1) gsNil)) 2) (mkL (lCons (vR 1) (lCons (d2 modD (d1 intD (vR 0)) (vR 1)) lNil)))))
  (sRet (d1 absD (vR 0))))
noncomputable def f_lgcd : List D → Option D := runX D_lgcd 2
noncomputable def D_lowA : DenS :=
  (sSeq (sSet 2 (dCall (lCons (vR 0) (lCons (vR 1) lNil)) f_lgcd))
  (sSeq (sIf (b2 ltI (vR 1) (kD (.int 0))) (sSet 2 (d1 negD (vR 2))) sNx)
  (sRet (mkT (lCons (d1 intD (d2 fdivD (vR 0) (vR 2))) (lCons (d1 intD (d2 fdivD (vR 1) (vR 2))) lNil))))))
noncomputable def f_lowA : List D → Option D := runX D_lowA 3
noncomputable def D_lowB : DenS :=
  (sSeq (sSet 2 (dCall (lCons (vR 0) (lCons (vR 1) lNil)) f_lgcd))
  (sRet (mkT (lCons (d1 intD (d2 fdivD (vR 0) (vR 2))) (lCons (d1 intD (d2 fdivD (vR 1) (vR 2))) lNil)))))
noncomputable def f_lowB : List D → Option D := runX D_lowB 3
noncomputable def f_lp (low : List D → Option D) : List D → Option D := runX (sRet (dCall (lCons (d2 addD (d2 mulI (d2 ixD (vR 0) (kD (.int 0))) (d2 ixD (vR 1) (kD (.int 1)))) (d2 mulI (d2 ixD (vR 1) (kD (.int 0))) (d2 ixD (vR 0) (kD (.int 1))))) (lCons (d2 mulI (d2 ixD (vR 0) (kD (.int 1))) (d2 ixD (vR 1) (kD (.int 1)))) lNil)) low)) 2
noncomputable def f_lm (low : List D → Option D) : List D → Option D := runX (sRet (dCall (lCons (d2 subD (d2 mulI (d2 ixD (vR 0) (kD (.int 0))) (d2 ixD (vR 1) (kD (.int 1)))) (d2 mulI (d2 ixD (vR 1) (kD (.int 0))) (d2 ixD (vR 0) (kD (.int 1))))) (lCons (d2 mulI (d2 ixD (vR 0) (kD (.int 1))) (d2 ixD (vR 1) (kD (.int 1)))) lNil)) low)) 2
noncomputable def f_lt (low : List D → Option D) : List D → Option D := runX (sRet (dCall (lCons (d2 mulI (d2 ixD (vR 0) (kD (.int 0))) (d2 ixD (vR 1) (kD (.int 0)))) (lCons (d2 mulI (d2 ixD (vR 0) (kD (.int 1))) (d2 ixD (vR 1) (kD (.int 1)))) lNil)) low)) 2
noncomputable def f_lo (low : List D → Option D) : List D → Option D := runX (sRet (dCall (lCons (d2 mulI (d2 ixD (vR 0) (kD (.int 0))) (d2 ixD (vR 1) (kD (.int 1)))) (lCons (d2 mulI (d2 ixD (vR 0) (kD (.int 1))) (d2 ixD (vR 1) (kD (.int 0)))) lNil)) low)) 2
noncomputable def f_ll : List D → Option D := runX (sRet (bV (b2 ltI (d2 mulI (d2 ixD (vR 0) (kD (.int 0))) (d2 ixD (vR 1) (kD (.int 1)))) (d2 mulI (d2 ixD (vR 1) (kD (.int 0))) (d2 ixD (vR 0) (kD (.int 1))))))) 2
end Cm
theorem lgcd_loop : ∀ (b a : Nat), ∃ n, whL (b2 neD (vR 1) (kD (.int 0))) (sAsg (gLs (gsCons (gN 0) (gsCons (gN 1) gsNil)) 2) (mkL (lCons (vR 1) (lCons (d2 modD (d1 intD (vR 0)) (vR 1)) lNil)))) n [.fz (.int a), .fz (.int b)] = some (.nx [.fz (.int (Nat.gcd a b : Nat)), .fz (.int 0)]) := by
  intro b
  induction b using Nat.strongRecOn with
  | ind b ih =>
    intro a
    have hne : neD (.int b) (.int 0) = some (decide (b ≠ 0)) := by
      have e : neD (.int b) (.int 0) = some (!decide ((b : Int) = 0)) := rfl
      rw [e]
      simp
    by_cases hb : b = 0
    · subst hb
      refine ⟨1, ?_⟩
      simp [whL, hne]
      rfl
    · obtain ⟨n, hn⟩ := ih (a % b) (Nat.mod_lt _ (by omega)) b
      refine ⟨n + 1, ?_⟩
      have hpos : 0 < b := by omega
      have e : Nat.gcd a b = Nat.gcd b (a % b) := by rw [Nat.gcd_comm, Nat.gcd_rec, Nat.gcd_comm]
      rw [e, ← hn]
      simp [whL, hne, hb, hpos]
theorem lgcd_int (a : Int) (b : Nat) (hb : 0 < b) : Cm.f_lgcd [.int a, .int b] = some (.int (Nat.gcd a.natAbs b : Nat)) := by
  have h0 : 0 ≤ a % (b : Int) := Int.emod_nonneg _ (by omega)
  obtain ⟨c, hc⟩ := Int.eq_ofNat_of_zero_le h0
  obtain ⟨n, hn⟩ := lgcd_loop c b
  have hg : Nat.gcd b c = Nat.gcd a.natAbs b := by
    have h1 : Int.gcd a b = Int.gcd (a % b) b := by
      rw [Int.emod_def, Int.gcd_sub_mul_left_left]
    have h2 : Int.gcd a b = Nat.gcd a.natAbs b := rfl
    rw [← h2, h1, hc, Int.gcd_comm]
    rfl
  have hne : neD (.int (b : Nat)) (.int 0) = some true := by
    rw [neD_i]
    simp
    omega
  have hw : whL (b2 neD (vR 1) (kD (.int 0))) (sAsg (gLs (gsCons (gN 0) (gsCons (gN 1) gsNil)) 2) (mkL (lCons (vR 1) (lCons (d2 modD (d1 intD (vR 0)) (vR 1)) lNil)))) (n + 1) [.fz (.int a), .fz (.int b)] = some (.nx [.fz (.int (Nat.gcd a.natAbs b : Nat)), .fz (.int 0)]) := by
    rw [← hg, ← hn]
    have : whL (b2 neD (vR 1) (kD (.int 0))) (sAsg (gLs (gsCons (gN 0) (gsCons (gN 1) gsNil)) 2) (mkL (lCons (vR 1) (lCons (d2 modD (d1 intD (vR 0)) (vR 1)) lNil)))) (n + 1) [.fz (.int a), .fz (.int b)] = whL (b2 neD (vR 1) (kD (.int 0))) (sAsg (gLs (gsCons (gN 0) (gsCons (gN 1) gsNil)) 2) (mkL (lCons (vR 1) (lCons (d2 modD (d1 intD (vR 0)) (vR 1)) lNil)))) n [.fz (.int b), .fz (.int c)] := by
      rw [whL]
      simp [hne, hb, hc]
    exact this
  unfold Cm.f_lgcd Cm.D_lgcd
  refine run_seq (ρ' := [.fz (.int (Nat.gcd a.natAbs b : Nat)), .fz (.int 0)]) (sWh_of hw) ?_
  simp
  intro h
  omega
theorem low_key (a : Int) (b : Nat) (hb : 0 < b) : frD ((a : Rat) / ((b : Int) : Rat)) = .tuple [.int (a / (Nat.gcd a.natAbs b : Nat)), .int ((b : Int) / (Nat.gcd a.natAbs b : Nat))] := by
  unfold frD
  rw [← Rat.divInt_eq_div, Rat.num_divInt, Rat.den_divInt, if_neg (by omega)]
  have e1 : (b : Int).sign = 1 := Int.sign_eq_one_of_pos (by omega)
  have e2 : (b : Int).gcd a = Nat.gcd a.natAbs b := by rw [Int.gcd_comm]; rfl
  rw [e1, e2, Int.one_mul, Int.natCast_ediv]
  rfl
theorem gcd_log (a : Int) (b : Nat) (hb : 0 < b) (h1 : b < 2 ^ 9000) : 0 < Nat.gcd a.natAbs b ∧ (Nat.gcd a.natAbs b).log2 < 9000 := ⟨Nat.gcd_pos_of_pos_right _ hb, log2_lt (Nat.lt_of_le_of_lt (Nat.gcd_le_right _ hb) h1) (by decide)⟩
theorem lowA_eq (a b : Int) (hb : 0 < b) (h1 : b.natAbs < 2 ^ 9000) : Cm.f_lowA [.int a, .int b] = some (frD ((a : Rat) / b)) := by
  obtain ⟨c, rfl⟩ := Int.eq_ofNat_of_zero_le (Int.le_of_lt hb)
  have hc : 0 < c := by omega
  have h2 : c < 2 ^ 9000 := h1
  obtain ⟨g1, g2⟩ := gcd_log a c hc h2
  have hg := lgcd_int a c hc
  have hn : ¬ (c : Int) < 0 := by omega
  unfold Cm.f_lowA Cm.D_lowA
  rw [low_key a c hc]
  simp [hg, hn, g1, g2]
theorem lowB_eq (a b : Int) (hb : 0 < b) (h1 : b.natAbs < 2 ^ 9000) : Cm.f_lowB [.int a, .int b] = some (frD ((a : Rat) / b)) := by
  obtain ⟨c, rfl⟩ := Int.eq_ofNat_of_zero_le (Int.le_of_lt hb)
  have hc : 0 < c := by omega
  have h2 : c < 2 ^ 9000 := h1
  obtain ⟨g1, g2⟩ := gcd_log a c hc h2
  have hg := lgcd_int a c hc
  unfold Cm.f_lowB Cm.D_lowB
  rw [low_key a c hc]
  simp [hg, g1, g2]
section
variable {low : List D → Option D} (hl : ∀ a b : Int, 0 < b → b.natAbs < 2 ^ 9000 → low [.int a, .int b] = some (frD ((a : Rat) / b)))
theorem sq_w : ∀ a b : Nat, a < 2 ^ 4000 → b < 2 ^ 4000 → a * b < 2 ^ 9000 := fun a b ha hb => Nat.lt_of_lt_of_le (pow_mul_lt ha hb) (Nat.pow_le_pow_right (by decide) (by decide))
theorem sq_mul : ∀ a b : Int, a.natAbs < 2 ^ 4000 → b.natAbs < 2 ^ 4000 → mulOk a b = true := fun a b ha hb => mulOk_of (Nat.lt_of_lt_of_le ha (Nat.pow_le_pow_right (by decide) (by decide))) (Nat.lt_of_lt_of_le hb (Nat.pow_le_pow_right (by decide) (by decide)))
include hl
theorem lp_eq (p q : Rat) (hp : Sq p) (hq : Sq q) : Cm.f_lp low [frD p, frD q] = some (frD (p + q)) := by
  have e1 := sq_mul p.num q.den hp.1 (by simpa using hq.2)
  have e2 := sq_mul q.num p.den hq.1 (by simpa using hp.2)
  have e3 := sq_mul p.den q.den (by simpa using hp.2) (by simpa using hq.2)
  have hd : 0 < ((p.den : Int) * (q.den : Int)) := by
    have := p.den_pos; have := q.den_pos
    exact Int.mul_pos (by omega) (by omega)
  have key := hl (p.num * q.den + q.num * p.den) (p.den * q.den) hd (by rw [Int.natAbs_mul]; exact sq_w _ _ (by simpa using hp.2) (by simpa using hq.2))
  have e4 : ((p.num * q.den + q.num * p.den : Int) : Rat) / ((p.den * q.den : Int) : Rat) = p + q := by
    rw [← Rat.divInt_eq_div, ← Int.natCast_mul, Rat.divInt_ofNat, Rat.add_def']
  rw [e4] at key
  unfold Cm.f_lp
  simp [frD, e1, e2, e3] at key ⊢
  rw [key]
  rfl
theorem lm_eq (p q : Rat) (hp : Sq p) (hq : Sq q) : Cm.f_lm low [frD p, frD q] = some (frD (p - q)) := by
  have e1 := sq_mul p.num q.den hp.1 (by simpa using hq.2)
  have e2 := sq_mul q.num p.den hq.1 (by simpa using hp.2)
  have e3 := sq_mul p.den q.den (by simpa using hp.2) (by simpa using hq.2)
  have hd : 0 < ((p.den : Int) * (q.den : Int)) := by
    have := p.den_pos; have := q.den_pos
    exact Int.mul_pos (by omega) (by omega)
  have key := hl (p.num * q.den - q.num * p.den) (p.den * q.den) hd (by rw [Int.natAbs_mul]; exact sq_w _ _ (by simpa using hp.2) (by simpa using hq.2))
  have e4 : ((p.num * q.den - q.num * p.den : Int) : Rat) / ((p.den * q.den : Int) : Rat) = p - q := by
    rw [← Rat.divInt_eq_div, ← Int.natCast_mul, Rat.divInt_ofNat, Rat.sub_def']
  rw [e4] at key
  unfold Cm.f_lm
  simp [frD, e1, e2, e3] at key ⊢
  rw [key]
  rfl
theorem lt_eq (p q : Rat) (hp : Sq p) (hq : Sq q) : Cm.f_lt low [frD p, frD q] = some (frD (p * q)) := by
  have e1 := sq_mul p.num q.num hp.1 hq.1
  have e3 := sq_mul p.den q.den (by simpa using hp.2) (by simpa using hq.2)
  have hd : 0 < ((p.den : Int) * (q.den : Int)) := by
    have := p.den_pos; have := q.den_pos
    exact Int.mul_pos (by omega) (by omega)
  have key := hl (p.num * q.num) (p.den * q.den) hd (by rw [Int.natAbs_mul]; exact sq_w _ _ (by simpa using hp.2) (by simpa using hq.2))
  have e4 : ((p.num * q.num : Int) : Rat) / ((p.den * q.den : Int) : Rat) = p * q := by
    rw [← Rat.divInt_eq_div, ← Int.natCast_mul, Rat.divInt_ofNat, Rat.mul_def']
  rw [e4] at key
  unfold Cm.f_lt
  simp [frD, e1, e3] at key ⊢
  rw [key]
  rfl
theorem lo_eq (p q : Rat) (hp : Sq p) (hq : Sq q) (h0 : 0 < q) : Cm.f_lo low [frD p, frD q] = some (frD (p / q)) := by
  have e1 := sq_mul p.num q.den hp.1 (by simpa using hq.2)
  have e3 := sq_mul p.den q.num (by simpa using hp.2) hq.1
  have hn : 0 < q.num := by
    have h1 : 0 ≤ q.num := Rat.num_nonneg.mpr (by grind)
    have h2 : q.num ≠ 0 := fun z => by
      have := Rat.num_eq_zero.mp z
      grind
    omega
  have hd : 0 < ((p.den : Int) * q.num) := by
    have := p.den_pos
    exact Int.mul_pos (by omega) (by omega)
  have key := hl (p.num * q.den) (p.den * q.num) hd (by rw [Int.natAbs_mul]; exact sq_w _ _ (by simpa using hp.2) hq.1)
  have e4 : ((p.num * q.den : Int) : Rat) / ((p.den * q.num : Int) : Rat) = p / q := by
    have hp' : (p.num : Rat) / ((p.den : Int) : Rat) = p := by rw [← Rat.divInt_eq_div]; exact Rat.num_divInt_den p
    have hq' : (q.num : Rat) / ((q.den : Int) : Rat) = q := by rw [← Rat.divInt_eq_div]; exact Rat.num_divInt_den q
    have n1 : ((p.den : Int) : Rat) ≠ 0 := fun z => p.den_nz (by have := Rat.intCast_eq_zero_iff.mp z; omega)
    have n2 : ((q.den : Int) : Rat) ≠ 0 := fun z => q.den_nz (by have := Rat.intCast_eq_zero_iff.mp z; omega)
    have n3 : ((q.num : Int) : Rat) ≠ 0 := fun z => by have := Rat.intCast_eq_zero_iff.mp z; omega
    have hp2 : p = (p.num : Rat) / ((p.den : Int) : Rat) := hp'.symm
    have hq2 : q = (q.num : Rat) / ((q.den : Int) : Rat) := hq'.symm
    rw [Rat.intCast_mul, Rat.intCast_mul]
    clear key hd e1 e3 hn h0
    generalize ((p.num : Int) : Rat) = a at *
    generalize ((p.den : Int) : Rat) = b at *
    generalize ((q.num : Int) : Rat) = c at *
    generalize ((q.den : Int) : Rat) = d at *
    rw [hp2, hq2]
    grind
  rw [e4] at key
  unfold Cm.f_lo
  simp [frD, e1, e3] at key ⊢
  rw [key]
  rfl
omit hl
theorem ll_eq (p q : Rat) (hp : Sq p) (hq : Sq q) : Cm.f_ll [frD p, frD q] = some (.bool (decide (p < q))) := by
  have e1 := sq_mul p.num q.den hp.1 (by simpa using hq.2)
  have e2 := sq_mul q.num p.den hq.1 (by simpa using hp.2)
  unfold Cm.f_ll
  simp [frD, e1, e2]
  rw [Rat.lt_iff]
end
end Zx
/-! Y7: encodings that may be compared. -/
namespace Zx
open PySem PySem.Spec L2
structure EncOk {α : Type} (enc : α → D) (n : Nat) : Prop where
  can : ∀ a, PyData.canLay0 (enc a) = true
  dep : ∀ a, PyData.depth (enc a) ≤ n
  inj : ∀ a b, PyData.eqv (enc a) (enc b) = true ↔ a = b
section
variable {α β γ : Type} {ea : α → D} {eb : β → D} {ec : γ → D} {m n k : Nat}
theorem EncOk.shaped (h : EncOk ea n) (hn : n ≤ 64) (a : α) : SeqAt.shaped (ea a) = true := by
  unfold SeqAt.shaped
  have := h.dep a
  rw [h.can a, decide_eq_true (show PyData.depth (ea a) ≤ 64 by omega)]
  rfl
theorem EncOk.eqv_of [DecidableEq α] (h : EncOk ea n) (a b : α) : PyData.eqv (ea a) (ea b) = decide (a = b) := by
  by_cases e : a = b
  · rw [decide_eq_true e, (h.inj a b).mpr e]
  · rw [decide_eq_false e]
    cases hb : PyData.eqv (ea a) (ea b) with
    | false => rfl
    | true => exact absurd ((h.inj a b).mp hb) e
theorem EncOk.ne [DecidableEq α] (h : EncOk ea n) (hn : n ≤ 64) (a b : α) : neD (ea a) (ea b) = some (decide (a ≠ b)) := by
  unfold neD
  rw [h.shaped hn a, h.shaped hn b, h.eqv_of]
  simp
theorem EncOk.eq [DecidableEq α] (h : EncOk ea n) (hn : n ≤ 64) (a b : α) : eqD (ea a) (ea b) = some (decide (a = b)) := by
  unfold eqD
  rw [h.shaped hn a, h.shaped hn b, h.eqv_of]
  simp
theorem EncOk.ne_self (h : EncOk ea n) (hn : n ≤ 64) (a : α) : neD (ea a) (ea a) = some false := by
  unfold neD
  rw [h.shaped hn a, (h.inj a a).mpr rfl]
  simp
theorem EncOk.eq_self (h : EncOk ea n) (hn : n ≤ 64) (a : α) : eqD (ea a) (ea a) = some true := by
  unfold eqD
  rw [h.shaped hn a, (h.inj a a).mpr rfl]
  simp
theorem EncOk.le (h : EncOk ea n) (hn : n ≤ m) : EncOk ea m := ⟨h.can, fun a => Nat.le_trans (h.dep a) hn, h.inj⟩
theorem EncOk.comp (h : EncOk ea n) (f : β → α) (hf : ∀ a b, f a = f b → a = b) : EncOk (fun b => ea (f b)) n := ⟨fun b => h.can _, fun b => h.dep _, fun a b => ⟨fun e => hf a b ((h.inj _ _).mp e), fun e => by rw [e]; exact (h.inj _ _).mpr rfl⟩⟩
theorem enc_int : EncOk (fun i : Int => PyData.int i) 0 := ⟨fun _ => rfl, fun _ => Nat.le_refl 0, fun a b => by
  have e : PyData.eqv (.int a) (.int b) = (a == b) := rfl
  rw [e]
  simp⟩
theorem enc_nat : EncOk (fun i : Nat => PyData.int (i : Int)) 0 := enc_int.comp (fun i : Nat => (i : Int)) fun a b h => by omega
theorem enc_bool : EncOk (fun i : Bool => PyData.bool i) 0 := ⟨fun _ => rfl, fun _ => Nat.le_refl 0, fun a b => by
  have e : PyData.eqv (.bool a) (.bool b) = (a == b) := rfl
  rw [e]
  simp⟩
theorem enc_all (h : EncOk ea n) : ∀ xs : List α, PyData.canLayAll0 (xs.map ea) = true ∧ PyData.depthAll (xs.map ea) ≤ n ∧ ∀ ys : List α, PyData.eqvAll (xs.map ea) (ys.map ea) = true ↔ xs = ys
  | [] => ⟨rfl, Nat.zero_le _, fun ys => by
    cases ys with
    | nil => exact ⟨fun _ => rfl, fun _ => rfl⟩
    | cons y ys => exact ⟨(fun z => by cases z), (fun z => by cases z)⟩⟩
  | x :: xs => by
    obtain ⟨h1, h2, h3⟩ := enc_all h xs
    refine ⟨?_, ?_, fun ys => ?_⟩
    · rw [List.map_cons, PyData.canLayAll0, h.can x, h1]
      rfl
    · rw [List.map_cons, PyData.depthAll]
      have := h.dep x
      omega
    · cases ys with
      | nil => exact ⟨(fun z => by cases z), (fun z => by cases z)⟩
      | cons y ys =>
        rw [List.map_cons, List.map_cons, PyData.eqvAll, Bool.and_eq_true_iff, h.inj, h3, List.cons.injEq]
theorem enc_list (h : EncOk ea n) : EncOk (fun xs : List α => PyData.list (xs.map ea)) (n + 1) := ⟨fun xs => (enc_all h xs).1, fun xs => by
  have := (enc_all h xs).2.1
  show PyData.depthAll _ + 1 ≤ n + 1
  omega, fun xs ys => (enc_all h xs).2.2 ys⟩
theorem enc_tup (h : EncOk ea n) : EncOk (fun xs : List α => PyData.tuple (xs.map ea)) (n + 1) := ⟨fun xs => (enc_all h xs).1, fun xs => by
  have := (enc_all h xs).2.1
  show PyData.depthAll _ + 1 ≤ n + 1
  omega, fun xs ys => (enc_all h xs).2.2 ys⟩
theorem enc_pair (ha : EncOk ea m) (hb : EncOk eb n) : EncOk (fun p : α × β => PyData.tuple [ea p.1, eb p.2]) (max m n + 1) := ⟨fun p => by
  show (PyData.canLay0 (ea p.1) && (PyData.canLay0 (eb p.2) && true)) = true
  rw [ha.can, hb.can]
  rfl, fun p => by
  show max (PyData.depth (ea p.1)) (max (PyData.depth (eb p.2)) 0) + 1 ≤ _
  have := ha.dep p.1
  have := hb.dep p.2
  omega, fun p q => by
  show (PyData.eqv (ea p.1) (ea q.1) && (PyData.eqv (eb p.2) (eb q.2) && true)) = true ↔ _
  rw [Bool.and_true, Bool.and_eq_true_iff, ha.inj, hb.inj, Prod.ext_iff]⟩
theorem enc_tri (ha : EncOk ea m) (hb : EncOk eb n) (hc : EncOk ec k) : EncOk (fun p : α × β × γ => PyData.tuple [ea p.1, eb p.2.1, ec p.2.2]) (max (max m n) k + 1) := ⟨fun p => by
  show (PyData.canLay0 (ea p.1) && (PyData.canLay0 (eb p.2.1) && (PyData.canLay0 (ec p.2.2) && true))) = true
  rw [ha.can, hb.can, hc.can]
  rfl, fun p => by
  show max (PyData.depth (ea p.1)) (max (PyData.depth (eb p.2.1)) (max (PyData.depth (ec p.2.2)) 0)) + 1 ≤ _
  have := ha.dep p.1
  have := hb.dep p.2.1
  have := hc.dep p.2.2
  omega, fun p q => by
  show (PyData.eqv (ea p.1) (ea q.1) && (PyData.eqv (eb p.2.1) (eb q.2.1) && (PyData.eqv (ec p.2.2) (ec q.2.2) && true))) = true ↔ _
  rw [Bool.and_true, Bool.and_eq_true_iff, Bool.and_eq_true_iff, ha.inj, hb.inj, hc.inj, Prod.ext_iff, Prod.ext_iff]⟩
/-- an optional value -/
def optE (ea : α → D) : Option α → D
  | none => .none
  | some a => ea a
theorem enc_opt (h : EncOk ea n) (h0 : ∀ a, PyData.eqv (ea a) .none = false ∧ PyData.eqv .none (ea a) = false) : EncOk (optE ea) n := ⟨fun p => by
  cases p with
  | none => rfl
  | some a => exact h.can a, fun p => by
  cases p with
  | none => exact Nat.zero_le _
  | some a => exact h.dep a, fun p q => by
  cases p with
  | none =>
    cases q with
    | none => exact ⟨fun _ => rfl, fun _ => rfl⟩
    | some b =>
      show PyData.eqv .none (ea b) = true ↔ _
      rw [(h0 b).2]
      exact ⟨(fun z => by cases z), (fun z => by cases z)⟩
  | some a =>
    cases q with
    | none =>
      show PyData.eqv (ea a) .none = true ↔ _
      rw [(h0 a).1]
      exact ⟨(fun z => by cases z), (fun z => by cases z)⟩
    | some b =>
      show PyData.eqv (ea a) (ea b) = true ↔ _
      rw [h.inj, Option.some.injEq]⟩
end
theorem enc_fr : EncOk frD 1 := ⟨fun _ => rfl, fun _ => by show max 0 (max 0 0) + 1 ≤ 1; omega, fun p q => by rw [frD_eqv]; simp⟩
end Zx
/-! M1: matrices as functions, row steps, their kernels. -/
namespace Zx
def qs : Nat → (Nat → Rat) → Rat
  | 0, _ => 0
  | n + 1, f => qs n f + f n
theorem qs_congr {f g : Nat → Rat} : ∀ {n : Nat}, (∀ i, i < n → f i = g i) → qs n f = qs n g
  | 0, _ => rfl
  | n + 1, h => by rw [qs, qs, qs_congr fun i hi => h i (by omega), h n (by omega)]
theorem qs_zero {f : Nat → Rat} : ∀ {n : Nat}, (∀ i, i < n → f i = 0) → qs n f = 0
  | 0, _ => rfl
  | n + 1, h => by rw [qs, qs_zero fun i hi => h i (by omega), h n (by omega)]; grind
theorem qs_add (f g : Nat → Rat) : ∀ n, qs n (fun i => f i + g i) = qs n f + qs n g
  | 0 => by rw [qs, qs, qs]; grind
  | n + 1 => by rw [qs, qs, qs, qs_add f g n]; grind
theorem qs_mul (c : Rat) (f : Nat → Rat) : ∀ n, qs n (fun i => c * f i) = c * qs n f
  | 0 => by rw [qs, qs, Rat.mul_zero]
  | n + 1 => by rw [qs, qs, qs_mul c f n]; grind
theorem qs_one {f : Nat → Rat} {k : Nat} : ∀ {n : Nat}, k < n → (∀ i, i < n → i ≠ k → f i = 0) → qs n f = f k
  | 0, h, _ => by omega
  | n + 1, h, hz => by
    by_cases e : n = k
    · subst e
      rw [qs, qs_zero fun i hi => hz i (by omega) (by omega)]
      grind
    · rw [qs, qs_one (n := n) (by omega) fun i hi => hz i (by omega), hz n (by omega) e]
      grind
theorem qs_swap (F : Nat → Nat → Rat) (m : Nat) : ∀ n, qs n (fun i => qs m fun j => F i j) = qs m fun j => qs n fun i => F i j
  | 0 => (qs_zero fun _ _ => rfl).symm
  | n + 1 => by rw [qs, qs_swap F m n, ← qs_add]; rfl
/-- a row times a vector -/
def lin (w : Nat) (r x : Nat → Rat) : Rat := qs w fun j => r j * x j
/-- one round: row h to place k, divided by its pivot in column c; column c cleared elsewhere -/
def rstep (c k h : Nat) (A : Nat → Nat → Rat) : Nat → Nat → Rat := fun i j =>
  if i = k then A h j / A h c else (if i = h then A k j else A i j) - (if i = h then A k c else A i c) * (A h j / A h c)
theorem lin_div (w : Nat) (r x : Nat → Rat) (q : Rat) : lin w (fun j => r j / q) x = lin w r x / q := by
  unfold lin
  have : (fun j => r j / q * x j) = fun j => (1 / q) * (r j * x j) := by
    funext j
    grind
  rw [this, qs_mul]
  grind
theorem lin_sub (w : Nat) (r p x : Nat → Rat) (s : Rat) : lin w (fun j => r j - s * p j) x = lin w r x - s * lin w p x := by
  unfold lin
  have : (fun j => (r j - s * p j) * x j) = fun j => r j * x j + (-s) * (p j * x j) := by
    funext j
    grind
  rw [this, qs_add, qs_mul]
  grind
/-- x is in the kernel of the n rows -/
def Ker (n w : Nat) (A : Nat → Nat → Rat) (x : Nat → Rat) : Prop := ∀ i, i < n → lin w (A i) x = 0
theorem ker_step {n w c k h : Nat} {A : Nat → Nat → Rat} {x : Nat → Rat} (hk : k < n) (hh : h < n) (hp : A h c ≠ 0) : Ker n w (rstep c k h A) x ↔ Ker n w A x := by
  have ek : lin w (rstep c k h A k) x = lin w (A h) x / A h c := by
    rw [← lin_div]
    congr 1
    funext j
    unfold rstep
    rw [if_pos rfl]
  have eo : ∀ i, i ≠ k → lin w (rstep c k h A i) x = lin w (if i = h then A k else A i) x - (if i = h then A k c else A i c) * (lin w (A h) x / A h c) := fun i hi => by
    rw [← lin_div, ← lin_sub]
    congr 1
    funext j
    unfold rstep
    rw [if_neg hi]
    split <;> rfl
  constructor
  · intro H
    have z : lin w (A h) x = 0 := by
      have := H k hk
      rw [ek] at this
      grind
    intro i hi
    by_cases e : i = h
    · rw [e]; exact z
    · by_cases e2 : i = k
      · have := H h hh
        by_cases e3 : h = k
        · rw [e2, ← e3]; exact z
        · rw [eo h e3, if_pos rfl, z] at this
          rw [e2]
          grind
      · have := H i hi
        rw [eo i e2, if_neg e, z] at this
        grind
  · intro H i hi
    by_cases e2 : i = k
    · rw [e2, ek, H h hh]
      grind
    · rw [eo i e2, H h hh]
      have : lin w (if i = h then A k else A i) x = 0 := by
        split
        · exact H k hk
        · exact H i hi
      rw [this]
      grind
/-- the first k columns are unit columns: row r has its pivot in column r -/
def Diag (n k : Nat) (A : Nat → Nat → Rat) : Prop := ∀ c, c < k → ∀ i, i < n → A i c = if i = c then 1 else 0
theorem diag_step {n k h : Nat} {A : Nat → Nat → Rat} (hk : k < n) (hh : k ≤ h) (hn : h < n) (hp : A h k ≠ 0) (D : Diag n k A) : Diag n (k + 1) (rstep k k h A) := by
  intro c hc i hi
  unfold rstep
  by_cases e : c = k
  · subst e
    by_cases e2 : i = c
    · rw [if_pos e2, if_pos e2]
      grind
    · rw [if_neg e2, if_neg e2]
      split <;> grind
  · have hck : c < k := by omega
    have dh := D c hck h hn
    rw [if_neg (by omega)] at dh
    by_cases e2 : i = k
    · rw [if_pos e2, dh, if_neg (by omega)]
      grind
    · rw [if_neg e2, dh]
      by_cases e3 : i = h
      · have dk := D c hck k hk
        rw [if_neg (by omega)] at dk
        rw [if_pos e3, if_pos e3, dk, if_neg (by omega)]
        grind
      · rw [if_neg e3, if_neg e3, D c hck i hi]
        grind
/-- where the kernel is trivial there is a pivot -/
theorem pivot {n w k : Nat} {A : Nat → Nat → Rat} (hk : k < n) (hw : n ≤ w) (D : Diag n k A) (reg : ∀ x, Ker n w A x → (∀ j, n ≤ j → x j = 0) → ∀ j, j < n → x j = 0) : ∃ h, k ≤ h ∧ h < n ∧ A h k ≠ 0 := by
  apply Classical.byContradiction
  intro hn
  have hz : ∀ h, k ≤ h → h < n → A h k = 0 := fun h h1 h2 => Classical.byContradiction fun h3 => hn ⟨h, h1, h2, h3⟩
  have kr : Ker n w A (fun j => if j < k then - A j k else if j = k then 1 else 0) := by
    intro i hi
    unfold lin
    by_cases hik : i < k
    · have e : ∀ j, j < w → A i j * (if j < k then - A j k else if j = k then 1 else 0) = (if j = i then - A i k else 0) + (if j = k then A i k else 0) := fun j _ => by
        by_cases h1 : j < k
        · rw [if_pos h1, D j h1 i hi, if_neg (show j ≠ k by omega)]
          by_cases h2 : j = i
          · rw [if_pos h2.symm, if_pos h2, h2]; grind
          · rw [if_neg (fun z => h2 z.symm), if_neg h2]; grind
        · rw [if_neg h1, if_neg (show j ≠ i by omega)]
          by_cases h2 : j = k
          · rw [if_pos h2, if_pos h2, h2]; grind
          · rw [if_neg h2, if_neg h2]; grind
      rw [qs_congr e, qs_add, qs_one (k := i) (by omega) (fun j _ hj => by rw [if_neg hj]), qs_one (k := k) (by omega) (fun j _ hj => by rw [if_neg hj]), if_pos rfl, if_pos rfl]
      grind
    · refine qs_zero fun j _ => ?_
      dsimp only
      by_cases h1 : j < k
      · rw [D j h1 i hi, if_neg (by omega)]
        grind
      · rw [if_neg h1]
        by_cases h2 : j = k
        · rw [h2, hz i (by omega) hi]
          grind
        · rw [if_neg h2]
          grind
  have := reg _ kr (fun j hj => by rw [if_neg (by omega), if_neg (by omega)]) k hk
  rw [if_neg (by omega), if_pos rfl] at this
  exact absurd this (by decide)
/-- the end: the kernel told by the last columns -/
theorem diag_ker {n w : Nat} {A : Nat → Nat → Rat} (hw : n ≤ w) (D : Diag n n A) {i : Nat} (hi : i < n) (x : Nat → Rat) : lin w (A i) x = x i + qs (w - n) fun j => A i (n + j) * x (n + j) := by
  have split : ∀ m, qs (n + m) (fun j => A i j * x j) = qs n (fun j => A i j * x j) + qs m fun j => A i (n + j) * x (n + j) := by
    intro m
    induction m with
    | zero =>
      rw [Nat.add_zero, qs]
      grind
    | succ m ih =>
      show qs (n + m) _ + _ = _
      rw [ih, qs]
      grind
  unfold lin
  rw [show w = n + (w - n) by omega, split, show n + (w - n) - n = w - n by omega]
  congr 1
  rw [qs_one hi fun j hj hne => by rw [D j hj i hi, if_neg (fun z => hne z.symm)]; grind]
  rw [D i hi i hi, if_pos rfl]
  grind
end Zx
/-! M2: sizes of the fractions of a matrix under row steps; matrices as data. -/
namespace Zx
open PySem PySem.Spec L2
/-- rows of integers over one integer each -/
def Bits (b e n w : Nat) (A : Nat → Nat → Rat) : Prop := ∃ (N : Nat → Nat → Int) (d : Nat → Int), ∀ i, i < n → d i ≠ 0 ∧ (d i).natAbs < 2 ^ e ∧ ∀ j, j < w → (N i j).natAbs < 2 ^ b ∧ A i j = (N i j : Rat) / (d i : Rat)
theorem Sk_div' {n : Nat} {a b : Int} (ha : a.natAbs < 2 ^ n) (hb : b.natAbs < 2 ^ n) (h0 : b ≠ 0) : Sk n ((a : Rat) / b) := by
  by_cases h : 0 < b
  · exact Sk_div ha hb h
  · have e : (a : Rat) / b = ((-a : Int) : Rat) / ((-b : Int) : Rat) := by
      rw [Rat.intCast_neg, Rat.intCast_neg]
      grind
    rw [e]
    exact Sk_div (by rwa [Int.natAbs_neg]) (by rwa [Int.natAbs_neg]) (by omega)
theorem int_nz {a : Int} (h : a ≠ 0) : (a : Rat) ≠ 0 := fun z => h (Rat.intCast_eq_zero_iff.mp z)
theorem Bits.sk {b e n w : Nat} {A : Nat → Nat → Rat} (h : Bits b e n w A) {m : Nat} (hb : b ≤ m) (he : e ≤ m) {i j : Nat} (hi : i < n) (hj : j < w) : Sk m (A i j) := by
  obtain ⟨N, d, hN⟩ := h
  obtain ⟨h1, h2, h3⟩ := hN i hi
  obtain ⟨h4, h5⟩ := h3 j hj
  rw [h5]
  exact Sk_div' (Nat.lt_of_lt_of_le h4 (Nat.pow_le_pow_right (by decide) hb)) (Nat.lt_of_lt_of_le h2 (Nat.pow_le_pow_right (by decide) he)) h1
theorem bits_step {b e n w c k h : Nat} {A : Nat → Nat → Rat} (hk : k < n) (hh : h < n) (hc : c < w) (hp : A h c ≠ 0) (H : Bits b e n w A) : Bits (2 * b + 1) (e + b) n w (rstep c k h A) := by
  obtain ⟨N, d, hN⟩ := H
  obtain ⟨q1, q2, q3⟩ := hN h hh
  obtain ⟨q4, q5⟩ := q3 c hc
  have pz : N h c ≠ 0 := fun z => hp (by rw [q5, z]; have n2 := int_nz q1; simp; grind)
  refine ⟨fun i j => if i = k then N h j else N (if i = h then k else i) j * N h c - N (if i = h then k else i) c * N h j, fun i => if i = k then N h c else d (if i = h then k else i) * N h c, fun i hi => ?_⟩
  by_cases hik : i = k
  · subst hik
    simp only [if_true]
    refine ⟨pz, Nat.lt_of_lt_of_le q4 (Nat.pow_le_pow_right (by decide) (by omega)), fun j hj => ?_⟩
    obtain ⟨q6, q7⟩ := q3 j hj
    refine ⟨Nat.lt_of_lt_of_le q6 (Nat.pow_le_pow_right (by decide) (by omega)), ?_⟩
    unfold rstep
    rw [if_pos rfl, q7, q5]
    have n1 := int_nz pz
    have n2 := int_nz q1
    grind
  · simp only [if_neg hik]
    have hr : (if i = h then k else i) < n := by split <;> assumption
    have er : ∀ j, (if i = h then A k j else A i j) = A (if i = h then k else i) j := fun j => by split <;> rfl
    obtain ⟨p1, p2, p3⟩ := hN _ hr
    obtain ⟨p4, p5⟩ := p3 c hc
    refine ⟨Int.mul_ne_zero p1 pz, by rw [Int.natAbs_mul]; exact pow_mul_lt p2 q4, fun j hj => ?_⟩
    obtain ⟨p6, p7⟩ := p3 j hj
    obtain ⟨q6, q7⟩ := q3 j hj
    constructor
    · have h1 := pow_mul_lt p6 q4
      have h2 := pow_mul_lt p4 q6
      rw [← Int.natAbs_mul] at h1 h2
      have : (2 : Nat) ^ (2 * b + 1) = 2 ^ (b + b) + 2 ^ (b + b) := by rw [Nat.pow_succ, show 2 * b = b + b by omega]; omega
      omega
    · unfold rstep
      rw [if_neg hik, er, er, p7, p5, q7, q5]
      have n1 := int_nz pz
      have n2 := int_nz q1
      have n3 := int_nz p1
      rw [Rat.intCast_sub, Rat.intCast_mul, Rat.intCast_mul, Rat.intCast_mul]
      grind
/-! data -/
def rowD (w : Nat) (r : Nat → Rat) : D := .list ((List.range w).map fun j => frD (r j))
def matD (n w : Nat) (A : Nat → Nat → Rat) : List D := (List.range n).map fun i => rowD w (A i)
theorem range_set {α : Type} (n : Nat) (f : Nat → α) (k : Nat) (x : α) : ((List.range n).map f).set k x = (List.range n).map fun i => if i = k then x else f i := by
  refine List.ext_getElem? fun i => ?_
  rw [List.getElem?_set, List.getElem?_map, List.getElem?_map]
  by_cases hi : i < n
  · rw [List.getElem?_range hi]
    simp only [List.length_map, List.length_range, Option.map_some]
    by_cases e : k = i
    · rw [if_pos e, if_pos (by omega), if_pos e.symm]
    · rw [if_neg e, if_neg (fun z => e z.symm)]
  · rw [List.getElem?_eq_none (by simp; omega)]
    simp only [List.length_map, List.length_range, Option.map_none]
    split
    · rw [if_neg (by omega)]
    · rfl
theorem mat_at {n w : Nat} {A : Nat → Nat → Rat} {i : Nat} (hi : i < n) : atI (matD n w A) (i : Int) = some (rowD w (A i)) := by
  rw [atI_nat _ _ (by simp [matD]; exact hi)]
  unfold matD
  rw [List.getElem?_map, List.getElem?_range hi]
  rfl
theorem row_at {w : Nat} {r : Nat → Rat} {j : Nat} (hj : j < w) : ixD (rowD w r) (.int (j : Nat)) = some (frD (r j)) := by
  unfold rowD
  rw [ixD_l, atI_nat _ _ (by simp; exact hj), List.getElem?_map, List.getElem?_range hj]
  rfl
theorem mat_len (n w : Nat) (A : Nat → Nat → Rat) : (matD n w A).length = n := by simp [matD]
theorem mat_set (n w : Nat) (A : Nat → Nat → Rat) (k : Nat) (r : Nat → Rat) : (matD n w A).set k (rowD w r) = matD n w fun i => if i = k then r else A i := by
  unfold matD
  rw [range_set]
  refine List.map_congr_left fun i _ => ?_
  by_cases e : i = k
  · simp only [if_pos e]
  · simp only [if_neg e]
end Zx
/-! Y8: lists over a range; sums; membership. -/
namespace Zx
open PySem PySem.Spec L2
theorem lcL_enc {α β : Type} (enc : α → D) (enc' : β → D) (b : α → Bool) (e : α → β) {g : DenG} {ft : DenB} {fe : Den} {ρ : Env} : ∀ (xs : List α), (∀ x ∈ xs, ∃ ρ1, g (enc x) ρ = some ρ1 ∧ ft ρ1 = some (b x) ∧ (b x = true → fe ρ1 = some (enc' (e x)))) → lcL g ft fe ρ (xs.map enc) = some (((xs.filter b).map e).map enc')
  | [], _ => rfl
  | x :: xs, h => by
    obtain ⟨ρ1, h1, h2, h3⟩ := h x List.mem_cons_self
    have ih := lcL_enc enc enc' b e xs fun y hy => h y (List.mem_cons_of_mem _ hy)
    rw [List.map_cons, lcL, h1, ih]
    cases hb : b x with
    | true => simp [h2, hb, h3 hb]
    | false => simp [h2, hb]
theorem lcL_map {α : Type} (enc : α → D) (e : α → D) {g : DenG} {fe : Den} {ρ : Env} (xs : List α) (h : ∀ x ∈ xs, ∃ ρ1, g (enc x) ρ = some ρ1 ∧ fe ρ1 = some (e x)) : lcL g bYes fe ρ (xs.map enc) = some (xs.map e) := by
  have := lcL_enc enc e (fun _ => true) (fun c => c) (g := g) (ft := bYes) (fe := fe) (ρ := ρ) xs fun x hx => by
    obtain ⟨ρ1, h1, h2⟩ := h x hx
    exact ⟨ρ1, h1, rfl, fun _ => h2⟩
  rw [this, List.filter_eq_self.mpr (fun _ _ => rfl), List.map_id']
theorem dLc_map {α : Type} (enc : α → D) (e : α → D) {fi : DenI} {g : DenG} {fe : Den} {vs : List Nat} {ρ : Env} (xs : List α) (h1 : fi ρ = some (xs.map enc)) (h : ∀ x ∈ xs, ∃ ρ1, g (enc x) (wipeE ρ vs) = some ρ1 ∧ fe ρ1 = some (e x)) (hl : xs.length ≤ 1000000) : dLc fi g bYes fe vs ρ = some (.list (xs.map e)) :=
  dLc_of h1 (lcL_map enc e xs h) (by rw [List.length_map]; exact hl)
theorem enum_range (c : Nat) (f : Nat → D) : enumL ((List.range c).map f) = (List.range c).map fun i => PyData.tuple [.int (i : Nat), f i] := by
  unfold enumL
  refine List.ext_getElem? fun i => ?_
  rw [List.getElem?_zipWith, List.getElem?_map, List.getElem?_map, List.length_map, List.length_range]
  by_cases hi : i < c
  · rw [List.getElem?_range hi]
    rfl
  · rw [List.getElem?_eq_none (by simp; omega)]
    rfl
theorem zip_range (c : Nat) (f g : Nat → D) : zipL ((List.range c).map f) ((List.range c).map g) = (List.range c).map fun i => PyData.tuple [f i, g i] := by
  unfold zipL
  refine List.ext_getElem? fun i => ?_
  rw [List.getElem?_zipWith, List.getElem?_map, List.getElem?_map, List.getElem?_map]
  by_cases hi : i < c
  · simp [hi]
  · simp [hi]
theorem fr_int (i : Int) : frD (i : Rat) = .tuple [.int i, .int 1] := rfl
theorem in_list {α : Type} [DecidableEq α] {enc : α → D} {n : Nat} (h : EncOk enc n) (hn : n + 1 ≤ 64) (x : α) (xs : List α) : inD (enc x) (.list (xs.map enc)) = some (decide (x ∈ xs)) := by
  have s1 := h.shaped (by omega) x
  have s2 := (enc_list h).shaped hn xs
  have e : inD (enc x) (.list (xs.map enc)) = if SeqAt.shaped (enc x) && SeqAt.shaped (.list (xs.map enc)) then some ((xs.map enc).any fun z => PyData.eqv z (enc x)) else none := rfl
  have s2' : SeqAt.shaped (.list (xs.map enc)) = true := s2
  rw [e, s1, s2', List.any_map]
  simp only [Bool.and_self, if_true, Option.some.injEq]
  have : ((fun z => PyData.eqv z (enc x)) ∘ enc) = fun z => decide (z = x) := by
    funext z
    exact h.eqv_of z x
  rw [this]
  by_cases hx : x ∈ xs
  · rw [decide_eq_true hx]
    exact List.any_eq_true.mpr ⟨x, hx, by simp⟩
  · rw [decide_eq_false hx, Bool.eq_false_iff]
    intro z
    obtain ⟨y, h1, h2⟩ := List.any_eq_true.mp z
    exact hx (by simpa using (of_decide_eq_true h2) ▸ h1)
theorem sum_range (f : Nat → Rat) (n : Nat) : ∀ j, j ≤ n → (((List.range n).map f).take j).sum = qs j f
  | 0, _ => rfl
  | j + 1, h => by
    have hj : ((List.range n).map f)[j]? = some (f j) := by rw [List.getElem?_map, List.getElem?_range (by omega)]; rfl
    rw [sum_take_succ hj, sum_range f n j (by omega)]
    rfl
theorem total_range (f : Nat → Rat) (n : Nat) (h1 : ∀ j, j ≤ n → Sq (qs j f)) (h2 : ∀ i, i < n → Sq (f i)) : Cm.f_total [.list ((List.range n).map fun i => frD (f i))] = some (frD (qs n f)) := by
  have e : ((List.range n).map fun i => frD (f i)) = ((List.range n).map f).map frD := by rw [List.map_map]; rfl
  have hl : ((List.range n).map f).length = n := by simp
  have hf := sum_range f n n (Nat.le_refl n)
  rw [List.take_of_length_le (by omega)] at hf
  rw [e, total_eq ((List.range n).map f) (fun j => ?_) (fun q hq => ?_), hf]
  · by_cases hj : j ≤ n
    · rw [sum_range f n j hj]
      exact h1 j hj
    · rw [List.take_of_length_le (by omega), hf]
      exact h1 n (Nat.le_refl n)
  · obtain ⟨i, hi, rfl⟩ := List.mem_map.mp hq
    exact h2 i (List.mem_range.mp hi)
/-! sizes over one denominator -/
def Fr (d : Int) (B : Nat) (q : Rat) : Prop := ∃ N : Int, N.natAbs ≤ B ∧ q = (N : Rat) / (d : Rat)
theorem Fr.le {d : Int} {B C : Nat} {q : Rat} (h : Fr d B q) (hb : B ≤ C) : Fr d C q := by
  obtain ⟨N, h1, h2⟩ := h
  exact ⟨N, Nat.le_trans h1 hb, h2⟩
theorem Fr.add {d : Int} {B C : Nat} {p q : Rat} (hp : Fr d B p) (hq : Fr d C q) : Fr d (B + C) (p + q) := by
  obtain ⟨N, h1, h2⟩ := hp
  obtain ⟨M, h3, h4⟩ := hq
  refine ⟨N + M, by omega, ?_⟩
  rw [h2, h4, Rat.intCast_add]
  grind
theorem Fr.mul {d e : Int} {B C : Nat} {p q : Rat} (hp : Fr d B p) (hq : Fr e C q) (hd : d ≠ 0) (he : e ≠ 0) : Fr (d * e) (B * C) (p * q) := by
  obtain ⟨N, h1, h2⟩ := hp
  obtain ⟨M, h3, h4⟩ := hq
  refine ⟨N * M, by rw [Int.natAbs_mul]; exact Nat.mul_le_mul h1 h3, ?_⟩
  have n1 := int_nz hd
  have n2 := int_nz he
  rw [h2, h4, Rat.intCast_mul, Rat.intCast_mul]
  grind
theorem Fr.imul {d : Int} {B C : Nat} {i : Int} {q : Rat} (hi : i.natAbs ≤ B) (hq : Fr d C q) : Fr d (B * C) ((i : Rat) * q) := by
  obtain ⟨M, h3, h4⟩ := hq
  refine ⟨i * M, by rw [Int.natAbs_mul]; exact Nat.mul_le_mul hi h3, ?_⟩
  rw [h4, Rat.intCast_mul]
  grind
theorem Fr.zero (d : Int) (B : Nat) : Fr d B 0 := ⟨0, by simp, by
  have : ((0 : Int) : Rat) = 0 := rfl
  rw [this]
  grind⟩
theorem Fr.qs {d : Int} {B : Nat} {f : Nat → Rat} : ∀ {n : Nat}, (∀ i, i < n → Fr d B (f i)) → Fr d (n * B) (qs n f)
  | 0, _ => Fr.zero _ _
  | n + 1, h => by
    rw [Nat.add_mul, Nat.one_mul]
    exact (Fr.qs (n := n) fun i hi => h i (by omega)).add (h n (by omega))
theorem Fr.sk {d : Int} {B k : Nat} {q : Rat} (h : Fr d B q) (hd : d ≠ 0) (h1 : d.natAbs < 2 ^ k) (h2 : B < 2 ^ k) : Sk k q := by
  obtain ⟨N, h3, h4⟩ := h
  rw [h4]
  exact Sk_div' (Nat.lt_of_le_of_lt h3 h2) h1 hd
theorem Fr.sq {d : Int} {B : Nat} {q : Rat} (h : Fr d B q) (hd : d ≠ 0) (h1 : d.natAbs < 2 ^ 4000) (h2 : B < 2 ^ 4000) : Sq q := (h.sk hd h1 h2).sq (Nat.le_refl _)
/-- the product of the first n -/
def pd (d : Nat → Int) : Nat → Int
  | 0 => 1
  | n + 1 => pd d n * d n
theorem pd_nz {d : Nat → Int} : ∀ {n : Nat}, (∀ i, i < n → d i ≠ 0) → pd d n ≠ 0
  | 0, _ => Int.one_ne_zero
  | n + 1, h => Int.mul_ne_zero (pd_nz fun i hi => h i (by omega)) (h n (by omega))
theorem pd_lt {d : Nat → Int} {k : Nat} : ∀ {n : Nat}, (∀ i, i < n → (d i).natAbs ≤ 2 ^ k) → (pd d n).natAbs ≤ 2 ^ (k * n)
  | 0, _ => Nat.le_of_eq rfl
  | n + 1, h => by
    have h1 := pd_lt (n := n) fun i hi => h i (by omega)
    have h2 := h n (by omega)
    show (pd d n * d n).natAbs ≤ _
    rw [Int.natAbs_mul, Nat.mul_succ, Nat.pow_add]
    exact Nat.mul_le_mul h1 h2
theorem pd_div {d : Nat → Int} {k : Nat} : ∀ {n : Nat}, (∀ i, i < n → (d i).natAbs ≤ 2 ^ k) → ∀ i, i < n → ∃ e : Int, pd d n = e * d i ∧ e.natAbs ≤ 2 ^ (k * n)
  | 0, _, i, hi => by omega
  | n + 1, h, i, hi => by
    by_cases e : i = n
    · subst e
      refine ⟨pd d i, rfl, Nat.le_trans (pd_lt fun j hj => h j (by omega)) (Nat.pow_le_pow_right (by decide) (Nat.mul_le_mul_left _ (by omega)))⟩
    · obtain ⟨c, h1, h2⟩ := pd_div (n := n) (fun j hj => h j (by omega)) i (by omega)
      refine ⟨c * d n, ?_, ?_⟩
      · show pd d n * d n = _
        rw [h1, Int.mul_assoc, Int.mul_comm (d i), ← Int.mul_assoc]
      · rw [Int.natAbs_mul, Nat.mul_succ, Nat.pow_add]
        exact Nat.mul_le_mul h2 (h n (by omega))
/-- all entries of a matrix over one denominator -/
theorem Bits.one {b n w : Nat} {A : Nat → Nat → Rat} (B : Bits b b n w A) : ∃ d : Int, d ≠ 0 ∧ d.natAbs ≤ 2 ^ (b * n) ∧ ∀ i, i < n → ∀ j, j < w → Fr d (2 ^ b * 2 ^ (b * n)) (A i j) := by
  obtain ⟨N, d, hN⟩ := B
  have hd : ∀ i, i < n → (d i).natAbs ≤ 2 ^ b := fun i hi => Nat.le_of_lt (hN i hi).2.1
  refine ⟨pd d n, pd_nz fun i hi => (hN i hi).1, pd_lt hd, fun i hi j hj => ?_⟩
  obtain ⟨e, h1, h2⟩ := pd_div hd i hi
  obtain ⟨q1, q2, q3⟩ := hN i hi
  obtain ⟨q4, q5⟩ := q3 j hj
  refine ⟨N i j * e, by rw [Int.natAbs_mul]; exact Nat.mul_le_mul (Nat.le_of_lt q4) h2, ?_⟩
  have n1 := int_nz q1
  have n0 : pd d n ≠ 0 := pd_nz fun i hi => (hN i hi).1
  have n2 : e ≠ 0 := fun z => n0 (by rw [h1, z, Int.zero_mul])
  have n3 := int_nz n2
  rw [q5, h1, Rat.intCast_mul, Rat.intCast_mul]
  grind
end Zx
/-! O1: cuts of lists; _law_order by draws that get fewer. -/
namespace Zx
open PySem PySem.Spec L2
theorem cut_take {α : Type} (xs : List α) (k : Nat) (h : k ≤ xs.length) : cutL xs none (some (k : Int)) = xs.take k := by
  unfold cutL
  rw [HT.sIx_none, HT.sIx_nat, Nat.min_eq_left h]
  simp
theorem cut_drop {α : Type} (xs : List α) (k : Nat) (h : k ≤ xs.length) : cutL xs (some (k : Int)) none = xs.drop k := by
  unfold cutL
  rw [HT.sIx_none, HT.sIx_nat, Nat.min_eq_left h]
  exact List.take_of_length_le (by simp)
theorem cutD_take (xs : List D) (k : Nat) (h : k ≤ xs.length) : cutD none (some (k : Int)) (.list xs) = some (.list (xs.take k)) := by rw [← cut_take xs k h]; rfl
theorem cutD_drop (xs : List D) (k : Nat) (h : k ≤ xs.length) : cutD (some (k : Int)) none (.list xs) = some (.list (xs.drop k)) := by rw [← cut_drop xs k h]; rfl
theorem take_drop_perm {α : Type} (xs : List α) (k : Nat) (x : α) (h : xs[k]? = some x) : (x :: (xs.take k ++ xs.drop (k + 1))).Perm xs := by
  have hk : k < xs.length := (List.getElem?_eq_some_iff.mp h).1
  have e : xs = xs.take k ++ x :: xs.drop (k + 1) := by
    have h1 := List.take_append_drop k xs
    have h2 : xs.drop k = x :: xs.drop (k + 1) := by
      rw [List.drop_eq_getElem_cons hk]
      congr 1
      exact (List.getElem?_eq_some_iff.mp h).2
    rw [h2] at h1
    exact h1.symm
  have p : (xs.take k ++ x :: xs.drop (k + 1)).Perm (x :: (xs.take k ++ xs.drop (k + 1))) := List.perm_middle
  rw [← e] at p
  exact p.symm
abbrev natsD (l : List Nat) : D := .list (l.map fun i => .int ((i : Nat) : Int))
theorem lrD_ok {n : Nat} (h : n ≤ 1000000) : lrD (.int (n : Nat)) = some (natsD (List.range n)) := by
  unfold lrD
  simp only
  rw [if_pos (by omega)]
  unfold rgL natsD
  congr 2
  rw [Int.toNat_natCast]
  refine List.map_congr_left fun i _ => ?_
  rw [show (0 : Int) + (i : Nat) = (i : Int) by omega]
@[simp] theorem lenN (l : List Nat) : lenD (natsD l) = some (.int (l.length : Nat)) := by simp [natsD]
theorem ixN_at {l : List Nat} {k x : Nat} (h : l[k]? = some x) : ixD (natsD l) (.int (k : Nat)) = some (.int (x : Nat)) := by
  have hk : k < l.length := (List.getElem?_eq_some_iff.mp h).1
  unfold natsD
  rw [ixD_l, atI_nat _ _ (by simpa using hk), List.getElem?_map, h]
  rfl
namespace Cm
noncomputable def D__law_order : DenS :=
  (sSeq (sSet 3 (d1 lrD (vR 2)))
  (sSeq (sOwn 4 (mkL lNil))
  (sSeq (sFor (iR1 (vR 2)) (gN 5) (sSeq (sSet 6 (dCall (lCons (vR 0) (lCons (d2 addD (vR 1) (vR 5)) (lCons (d1 lenD (vR 3)) lNil))) f__law_mix))
   (sSeq (sApp 4 (d2 ixD (vR 3) (vR 6)))
   (sSet 3 (d2 addD (dSl (vR 3) oNone (oSome (vR 6))) (dSl (vR 3) (oSome (d2 addD (vR 6) (kD (.int 1)))) oNone))))))
  (sFrz 4 (sRet (vR 4))))))
noncomputable def f__law_order : List D → Option D := runX D__law_order 7
end Cm
theorem order_ok {m : Nat} {dr : List Int} (hd : Dr m dr) (hm : m ≤ 100000) (first : Int) (n : Nat) (h0 : 0 ≤ first) (h1 : first + n < 1000000) : ∃ os : List Nat, os.Perm (List.range n) ∧ Cm.f__law_order [.list (dr.map .int), .int first, .int (n : Nat)] = some (natsD os) := by
  generalize hDR : PyData.list (dr.map .int) = DR
  obtain ⟨ρ', g1, g2⟩ := sFor_ok (fi := iR1 (vR 2)) (g := gN 5) (fb := (sSeq (sSet 6 (dCall (lCons (vR 0) (lCons (d2 addD (vR 1) (vR 5)) (lCons (d1 lenD (vR 3)) lNil))) Cm.f__law_mix))
   (sSeq (sApp 4 (d2 ixD (vR 3) (vR 6)))
   (sSet 3 (d2 addD (dSl (vR 3) oNone (oSome (vR 6))) (dSl (vR 3) (oSome (d2 addD (vR 6) (kD (.int 1)))) oNone))))))
    (ρ := [.fz DR, .fz (.int first), .fz (.int (n : Nat)), .fz (natsD (List.range n)), .ow (.list []), .no, .no]) (ds := rgL 0 n)
    (fun j ρ => ∃ (left found : List Nat) (s5 s6 : Slot), ρ = [.fz DR, .fz (.int first), .fz (.int (n : Nat)), .fz (natsD left), .ow (natsD found), s5, s6] ∧ (left ++ found).Perm (List.range n) ∧ left.length + j = n)
    (by simp only [iR1_s, vR_s, List.getElem?_cons_zero, List.getElem?_cons_succ, Option.bind_some]; rw [rg1_ok (by omega) (by omega)]; rfl)
    ⟨List.range n, [], .no, .no, rfl, by simp, by simp⟩ (fun j d ρ hd' ⟨left, found, s5, s6, hρ, hp, hl⟩ => by
      subst hρ
      obtain ⟨hj, rfl⟩ := rgL_at hd'
      obtain ⟨x, hx, x0, x1⟩ := mix_ok hd hm (first + (0 + (j : Int))) (left.length : Nat) (by omega) (by omega) (by omega)
      rw [hDR] at hx
      obtain ⟨k, rfl⟩ := Int.eq_ofNat_of_zero_le x0
      have hk : k < left.length := by omega
      have hat : left[k]? = some left[k] := List.getElem?_eq_getElem hk
      have hix := ixN_at hat
      have hfl : found.length ≤ n := by
        have := hp.length_eq
        rw [List.length_append, List.length_range] at this
        omega
      have c1 : cutD none (some (k : Int)) (natsD left) = some (natsD (left.take k)) := by
        unfold natsD
        rw [cutD_take _ _ (by simp; omega), List.map_take]
      have c2 : cutD (some ((k : Int) + 1)) none (natsD left) = some (natsD (left.drop (k + 1))) := by
        unfold natsD
        rw [show (k : Int) + 1 = ((k + 1 : Nat) : Int) by omega, cutD_drop _ _ (by simp; omega), List.map_drop]
      have ad : addD (natsD (left.take k)) (natsD (left.drop (k + 1))) = some (natsD (left.take k ++ left.drop (k + 1))) := by
        unfold natsD
        rw [addD_l, if_pos (by simp; omega), List.map_append]
      refine ⟨_, _, rfl, ?_, _, .inl rfl, left.take k ++ left.drop (k + 1), found ++ [left[k]], .fz (.int (0 + (j : Int))), .fz (.int (k : Nat)), rfl, ?_, ?_⟩
      · rw [sSeq_nx (ρ' := [.fz DR, .fz (.int first), .fz (.int (n : Nat)), .fz (natsD left), .ow (natsD found), .fz (.int (0 + (j : Int))), .fz (.int (k : Nat))]) (by
          simp only [sSet_s, dCall_s, lCons_s, lNil_s, d1_s, d2_s, vR_s, gN_s, addD_i, lenN, List.set_cons_zero, List.set_cons_succ, List.getElem?_cons_zero, List.getElem?_cons_succ, Option.bind_some, hx])]
        rw [sSeq_nx (ρ' := [.fz DR, .fz (.int first), .fz (.int (n : Nat)), .fz (natsD left), .ow (natsD (found ++ [left[k]])), .fz (.int (0 + (j : Int))), .fz (.int (k : Nat))]) (by
          have hl2 : (found.map fun i => PyData.int ((i : Nat) : Int)).length < 1000000 := by rw [List.length_map]; omega
          simp only [sApp_s, d2_s, vR_s, List.getElem?_cons_zero, List.getElem?_cons_succ, Option.bind_some, hix, owL_s, natsD, hl2, if_true, List.map_append, List.map_cons, List.map_nil, List.set_cons_zero, List.set_cons_succ])]
        simp only [sSet_s, d2_s, dSl_s, oNone_s, oSome_s, vR_s, kD_s, addD_i, List.getElem?_cons_zero, List.getElem?_cons_succ, Option.bind_some, c1, c2, ad, List.set_cons_zero, List.set_cons_succ]
      · have p1 := take_drop_perm left k _ hat
        have p2 : (left.take k ++ left.drop (k + 1) ++ (found ++ [left[k]])).Perm (left ++ found) := by
          rw [← List.append_assoc]
          refine List.perm_append_comm.trans ?_
          rw [List.singleton_append, ← List.cons_append]
          exact p1.append_right found
        exact p2.trans hp
      · rw [List.length_append, List.length_take, List.length_drop]
        omega)
  obtain ⟨left, found, s5, s6, rfl, hp, hl⟩ := g2
  rw [rgL_len] at hl
  have hn0 : left = [] := List.length_eq_zero_iff.mp (by omega)
  subst hn0
  refine ⟨found, by simpa using hp, ?_⟩
  unfold Cm.f__law_order Cm.D__law_order
  refine run_seq (ρ' := [.fz DR, .fz (.int first), .fz (.int (n : Nat)), .fz (natsD (List.range n)), .no, .no, .no]) (by
    have := lrD_ok (n := n) (by omega)
    simp [this]) ?_
  rw [sSeq_nx (ρ' := [.fz DR, .fz (.int first), .fz (.int (n : Nat)), .fz (natsD (List.range n)), .ow (.list []), .no, .no]) (by simp)]
  rw [sSeq_nx g1]
  simp
end Zx
/-! O2: sums under an order; choosing numbers; repr of fractions. -/
namespace Zx
open PySem PySem.Spec L2
theorem choose_fn {n : Nat} {Q : Nat → Int → Prop} (h : ∀ k, k < n → ∃ x : Int, Q k x) : ∃ P : Nat → Int, ∀ k, k < n → Q k (P k) :=
  ⟨fun k => if hk : k < n then Classical.choose (h k hk) else 0, fun k hk => by
    dsimp only
    rw [dif_pos hk]
    exact Classical.choose_spec (h k hk)⟩
theorem choose_fn2 {n m : Nat} {Q : Nat → Nat → Int → Prop} (h : ∀ i, i < n → ∀ k, k < m → ∃ x : Int, Q i k x) : ∃ P : Nat → Nat → Int, ∀ i, i < n → ∀ k, k < m → Q i k (P i k) :=
  ⟨fun i k => if hk : i < n ∧ k < m then Classical.choose (h i hk.1 k hk.2) else 0, fun i hi k hk => by
    dsimp only
    rw [dif_pos ⟨hi, hk⟩]
    exact Classical.choose_spec (h i hi k hk)⟩
theorem qs_list (f : Nat → Rat) (n : Nat) : qs n f = ((List.range n).map f).sum := by
  have := sum_range f n n (Nat.le_refl n)
  rw [List.take_of_length_le (by simp)] at this
  exact this.symm
theorem rsum_perm {l m : List Rat} (h : l.Perm m) : l.sum = m.sum := by
  induction h with
  | nil => rfl
  | cons p _ ih => rw [List.sum_cons, List.sum_cons, ih]
  | swap p q l =>
    rw [List.sum_cons, List.sum_cons, List.sum_cons, List.sum_cons]
    grind
  | trans _ _ h1 h2 => rw [h1, h2]
theorem map_getD {α : Type} (l : List Nat) (f : Nat → α) : l.map f = (List.range l.length).map fun i => f (l.getD i 0) := by
  refine List.ext_getElem? fun i => ?_
  rw [List.getElem?_map, List.getElem?_map]
  by_cases hi : i < l.length
  · rw [List.getElem?_range hi, List.getElem?_eq_getElem hi]
    simp [List.getD_eq_getElem?_getD, hi]
  · rw [List.getElem?_eq_none (by omega), List.getElem?_eq_none (by simp; omega)]
    rfl
theorem qs_perm {l : List Nat} {n : Nat} (h : l.Perm (List.range n)) (f : Nat → Rat) : (qs n fun i => f (l.getD i 0)) = qs n f := by
  have hl : l.length = n := by rw [h.length_eq, List.length_range]
  rw [qs_list, qs_list]
  have := map_getD l f
  rw [hl] at this
  rw [← this]
  exact rsum_perm (h.map f)
theorem perm_lt {l : List Nat} {n : Nat} (h : l.Perm (List.range n)) {i : Nat} (hi : i < n) : l.getD i 0 < n := by
  have hl : l.length = n := by rw [h.length_eq, List.length_range]
  have : l.getD i 0 ∈ l := by
    rw [List.getD_eq_getElem?_getD, List.getElem?_eq_getElem (by omega)]
    exact List.getElem_mem _
  exact List.mem_range.mp (h.mem_iff.mp this)
theorem perm_onto {l : List Nat} {n : Nat} (h : l.Perm (List.range n)) {k : Nat} (hk : k < n) : ∃ b, b < n ∧ l.getD b 0 = k := by
  have hl : l.length = n := by rw [h.length_eq, List.length_range]
  have : k ∈ l := h.mem_iff.mpr (List.mem_range.mpr hk)
  obtain ⟨b, hb, e⟩ := List.getElem_of_mem this
  refine ⟨b, by omega, ?_⟩
  rw [List.getD_eq_getElem?_getD, List.getElem?_eq_getElem hb, e]
  rfl
theorem perm_inj {l : List Nat} {n : Nat} (h : l.Perm (List.range n)) {a b : Nat} (ha : a < n) (hb : b < n) (e : l.getD a 0 = l.getD b 0) : a = b := by
  have hl : l.length = n := by rw [h.length_eq, List.length_range]
  have nd : l.Nodup := h.nodup_iff.mpr List.nodup_range
  exact (List.getD_inj (by omega) (by omega) nd).mp e
theorem neS_self (x : Str) : neS (.str x) (.str x) = some false := by
  show some (!decide (x = x)) = some false
  simp
theorem repIn_fr {k : Nat} {q : Rat} (h : Sk k q) (hk : k ≤ 1900) : repIn (frD q) = true := by
  have h1 : q.num.natAbs < 2 ^ 1900 := Nat.lt_of_lt_of_le h.1 (Nat.pow_le_pow_right (by decide) hk)
  have h2 : ((q.den : Int)).natAbs < 2 ^ 1900 := Nat.lt_of_lt_of_le (show q.den < 2 ^ k from h.2) (Nat.pow_le_pow_right (by decide) hk)
  show (decide (q.num.natAbs < 2 ^ 1900) && (decide (((q.den : Int)).natAbs < 2 ^ 1900) && true)) = true
  rw [decide_eq_true h1, decide_eq_true h2]
  rfl
theorem repInL_map {α : Type} (enc : α → D) : ∀ (xs : List α), (∀ x ∈ xs, repIn (enc x) = true) → repInL (xs.map enc) = true
  | [], _ => rfl
  | x :: xs, h => by
    rw [List.map_cons, repInL, h x List.mem_cons_self, repInL_map enc xs fun y hy => h y (List.mem_cons_of_mem _ hy)]
    rfl
theorem nodesL_map {α : Type} (enc : α → D) (k : Nat) : ∀ (xs : List α), (∀ x ∈ xs, nodes (enc x) ≤ k) → nodesL (xs.map enc) ≤ k * xs.length
  | [], _ => Nat.zero_le _
  | x :: xs, h => by
    rw [List.map_cons, nodesL, List.length_cons, Nat.mul_succ]
    have h1 := h x List.mem_cons_self
    have h2 := nodesL_map enc k xs fun y hy => h y (List.mem_cons_of_mem _ hy)
    omega
theorem repr_row {n k : Nat} {p : Nat → Rat} (hn : n ≤ 1000) (h : ∀ i, i < n → Sk k (p i)) (hk : k ≤ 1900) : reprD (rowD n p) = some (.str (rowD n p).shown) := by
  have s1 : SeqAt.shaped (rowD n p) = true := by
    have := (enc_list enc_fr).shaped (by decide) ((List.range n).map p)
    rw [List.map_map] at this
    exact this
  have s2 : repIn (rowD n p) = true := by
    show repInL _ = true
    exact repInL_map (fun j => frD (p j)) (List.range n) fun i hi => repIn_fr (h i (List.mem_range.mp hi)) hk
  have s3 : nodes (rowD n p) ≤ 20000 := by
    show nodesL _ + 1 ≤ 20000
    have := nodesL_map (fun j => frD (p j)) 3 (List.range n) fun i _ => Nat.le_refl 3
    rw [List.length_range] at this
    omega
  unfold reprD
  rw [s1, s2, decide_eq_true s3]
  rfl
theorem Fr.scale {d e : Int} {B : Nat} {q : Rat} (h : Fr d B q) (hd : d ≠ 0) (he : e ≠ 0) : Fr (d * e) (B * e.natAbs) q := by
  obtain ⟨N, h1, h2⟩ := h
  refine ⟨N * e, by rw [Int.natAbs_mul]; exact Nat.mul_le_mul_right _ h1, ?_⟩
  have n1 := int_nz hd
  have n2 := int_nz he
  rw [h2, Rat.intCast_mul, Rat.intCast_mul]
  grind
end Zx
/-! Y9: data with a type and an order; sorting them. -/
namespace Zx
open PySem PySem.Spec L2 PySem.W
instance : Datum Nat where
  toD n := .int ((n : Nat) : Int)
  plain _ := rfl
  eqv a b := by
    have e : PyData.eqv (.int ((a : Nat) : Int)) (.int ((b : Nat) : Int)) = (((a : Nat) : Int) == ((b : Nat) : Int)) := rfl
    rw [e, Bool.eq_iff_iff, beq_iff_eq, decide_eq_true_eq]
    omega
  depth := 0
  depth_le _ := Nat.le_refl 0
instance : DatumOrd Nat where
  lt a b := decide (a < b)
  alike a b := by show PySem.W.alike (.int _) (.int _) = true; simp only [PySem.W.alike]
  notNone a := fun e => by cases e
  lt_eq a b := by
    refine (dataLt_int _ _).trans ?_
    rw [Bool.eq_iff_iff, decide_eq_true_eq, decide_eq_true_eq]
    omega
class LinD (α : Type) [DecidableEq α] extends DatumOrd α where
  can : ∀ a, PyData.canLay0 (toD a) = true
instance : LinD Int := ⟨fun _ => rfl⟩
instance : LinD Nat := ⟨fun _ => rfl⟩
section
variable {α β : Type} [DecidableEq α] [LinD α] [DecidableEq β] [LinD β]
theorem canAll_map : ∀ xs : List α, PyData.canLayAll0 (xs.map Datum.toD) = true
  | [] => rfl
  | x :: xs => by
    rw [List.map_cons, PyData.canLayAll0, LinD.can x, canAll_map xs]
    rfl
instance : LinD (List α) := ⟨fun xs => by
  show PyData.canLay0 (.list (xs.map Datum.toD)) = true
  simp only [PyData.canLay0]
  exact canAll_map xs⟩
instance : LinD (Tup α) := ⟨fun t => by
  show PyData.canLay0 (.tuple (t.items.map Datum.toD)) = true
  simp only [PyData.canLay0]
  exact canAll_map t.items⟩
instance : LinD (α × β) := ⟨fun p => by
  show (PyData.canLay0 (Datum.toD p.1) && (PyData.canLay0 (Datum.toD p.2) && true)) = true
  rw [LinD.can, LinD.can]
  rfl⟩
theorem encD : EncOk (fun a : α => Datum.toD a) (Datum.depth α) := ⟨LinD.can, Datum.depth_le, fun a b => by
  rw [Datum.eqv]
  simp⟩
theorem lt_irr (a : α) : DatumOrd.lt a a = false := (DatumOrd.lt_eq a a).symm.trans (dataLt_self _)
theorem lt_tr {a b c : α} (h1 : DatumOrd.lt a b = true) (h2 : DatumOrd.lt b c = true) : DatumOrd.lt a c = true := by
  rw [← DatumOrd.lt_eq] at h1 h2 ⊢
  exact PyProof.Rows.lex_trans _ _ _ h1 h2
theorem lt_tri {a b : α} (h1 : DatumOrd.lt a b = false) (h2 : DatumOrd.lt b a = false) : a = b := by
  rw [← DatumOrd.lt_eq] at h1 h2
  have ht := PyProof.Rows.lex_total _ _ h1 h2
  refine Classical.byContradiction fun hne => ?_
  have he : PyData.eqv (Datum.toD a) (Datum.toD b) = false := by rw [Datum.eqv, decide_eq_false hne]
  have h := (toks_eqv _ _ (DatumOrd.alike a b)).2 he
  have z1 := h [.inl 0] [.inl 1]
  have z2 := h [.inl 1] [.inl 0]
  rw [ht, lex_pre] at z1 z2
  have q1 : PyProof.Rows.lexLt PyProof.Rows.itemOrd [Sum.inl 0] [Sum.inl 1] = true := by rw [PyProof.Rows.lex_diff (O := PyProof.Rows.itemOrd) (by simp)]; rfl
  have q2 : PyProof.Rows.lexLt PyProof.Rows.itemOrd [Sum.inl 1] [Sum.inl 0] = false := by rw [PyProof.Rows.lex_diff (O := PyProof.Rows.itemOrd) (by simp)]; rfl
  rw [q1] at z1
  rw [q2] at z2
  rw [← z2] at z1
  cases z1
def leB (a b : α) : Bool := !DatumOrd.lt b a
theorem leB_tr (a b c : α) (h1 : leB a b = true) (h2 : leB b c = true) : leB a c = true := by
  unfold leB at *
  rw [Bool.not_eq_true'] at *
  cases h : DatumOrd.lt c a with
  | false => rfl
  | true =>
    cases h3 : DatumOrd.lt a b with
    | true => rw [lt_tr h h3] at h2; cases h2
    | false =>
      have := lt_tri h3 h1
      rw [this] at h
      rw [h] at h2
      cases h2
theorem leB_total (a b : α) : (leB a b || leB b a) = true := by
  unfold leB
  cases h : DatumOrd.lt b a with
  | false => rfl
  | true =>
    cases h2 : DatumOrd.lt a b with
    | false => rfl
    | true =>
      have := lt_tr h h2
      rw [lt_irr] at this
      cases this
theorem leB_anti {a b : α} (h1 : leB a b = true) (h2 : leB b a = true) : a = b := by
  unfold leB at *
  rw [Bool.not_eq_true'] at *
  exact lt_tri h2 h1
/-- sorted upwards -/
def Up (xs : List α) : Prop := xs.Pairwise fun a b => leB a b = true
theorem sort_up (xs : List α) : Up (xs.mergeSort leB) := List.pairwise_mergeSort leB_tr leB_total xs
theorem up_uniq {xs ys : List α} (p : xs.Perm ys) (h1 : Up xs) (h2 : Up ys) : xs = ys := List.Perm.eq_of_pairwise (fun a b _ _ h3 h4 => leB_anti h3 h4) h1 h2 p
theorem sort_eq {xs ys : List α} (p : xs.Perm ys) (h : Up ys) : xs.mergeSort leB = ys := up_uniq ((List.mergeSort_perm xs leB).trans p) (sort_up xs) h
theorem up_of_lt {xs : List α} (h : xs.Pairwise fun a b => DatumOrd.lt a b = true) : Up xs := h.imp fun {a b} hab => by
  unfold leB
  cases h2 : DatumOrd.lt b a with
  | false => rfl
  | true =>
    have := lt_tr hab h2
    rw [lt_irr] at this
    cases this
/-- what sorted gives -/
theorem sort_data (xs : List α) (hd : Datum.depth α ≤ 64) (hl : xs.length ≤ 1000000) (hk : (∀ x ∈ xs, isTup1 (Datum.toD x) = true) ∨ ∀ x ∈ xs, noTup (Datum.toD x) = true) : sortD (.list (xs.map Datum.toD)) = some (.list ((xs.mergeSort leB).map Datum.toD)) := by
  have hs : srtOk (xs.map Datum.toD) = true := by
    unfold srtOk
    have h1 : ((xs.map Datum.toD).all fun x => (xs.map Datum.toD).all fun y => PySem.W.alike x y) = true := by
      rw [List.all_eq_true]
      intro x hx
      rw [List.all_eq_true]
      intro y hy
      obtain ⟨p, _, rfl⟩ := List.mem_map.mp hx
      obtain ⟨q, _, rfl⟩ := List.mem_map.mp hy
      exact DatumOrd.alike p q
    have h2 : ((xs.map Datum.toD).all isTup1 || (xs.map Datum.toD).all noTup) = true := by
      rw [Bool.or_eq_true]
      rcases hk with hk | hk
      · left
        rw [List.all_eq_true]
        intro x hx
        obtain ⟨p, hp, rfl⟩ := List.mem_map.mp hx
        exact hk p hp
      · right
        rw [List.all_eq_true]
        intro x hx
        obtain ⟨p, hp, rfl⟩ := List.mem_map.mp hx
        exact hk p hp
    have h3 : (xs.map Datum.toD).all SeqAt.shaped = true := by
      rw [List.all_eq_true]
      intro x hx
      obtain ⟨p, _, rfl⟩ := List.mem_map.mp hx
      exact encD.shaped hd p
    rw [h1, h2, h3]
    simp [hl]
  have e : sortD (.list (xs.map Datum.toD)) = if srtOk (xs.map Datum.toD) then some (.list ((xs.map Datum.toD).mergeSort leS)) else none := rfl
  rw [e, hs, if_pos rfl, List.map_mergeSort (s := leS) fun a _ b _ => by
    show leB a b = leS (Datum.toD a) (Datum.toD b)
    unfold leB leS
    rw [DatumOrd.lt_eq]]
end
end Zx
/-! U1: rows of levels, ascending lists, sights: plain. -/
namespace Zx
open PySem PySem.Spec L2 PySem.W
section
variable {α : Type} [DecidableEq α] [LinD α]
/-- sorted strictly upwards -/
def St (xs : List α) : Prop := xs.Pairwise fun a b => DatumOrd.lt a b = true
theorem St.up {xs : List α} (h : St xs) : Up xs := up_of_lt h
theorem St.nodup {xs : List α} (h : St xs) : xs.Nodup := h.imp fun {a b} hab e => by
  rw [e, lt_irr] at hab
  cases hab
theorem st_of {xs : List α} (h : Up xs) (h2 : xs.Nodup) : St xs := by
  have := List.pairwise_and_iff.mpr ⟨h, h2⟩
  refine List.Pairwise.imp (fun {a b} hab => ?_) this
  obtain ⟨h3, h4⟩ := hab
  cases h5 : DatumOrd.lt a b with
  | true => rfl
  | false =>
    unfold leB at h3
    rw [Bool.not_eq_true'] at h3
    exact absurd (lt_tri h5 h3) h4
theorem st_ext {xs ys : List α} (h1 : St xs) (h2 : St ys) (h : ∀ a, a ∈ xs ↔ a ∈ ys) : xs = ys :=
  up_uniq ((List.perm_ext_iff_of_nodup h1.nodup h2.nodup).mpr h) h1.up h2.up
theorem st_sort {xs : List α} (h : xs.Nodup) : St (xs.mergeSort leB) := st_of (sort_up xs) ((List.mergeSort_perm xs leB).nodup_iff.mpr h)
theorem mem_sort (xs : List α) (a : α) : a ∈ xs.mergeSort leB ↔ a ∈ xs := (List.mergeSort_perm xs leB).mem_iff
theorem St.filter {xs : List α} (h : St xs) (p : α → Bool) : St (xs.filter p) := List.Pairwise.filter p h
end
/-! rows -/
def rows : List Nat → List (List Nat)
  | [] => [[]]
  | s :: ss => (List.range s).flatMap fun x => (rows ss).map (x :: ·)
def RowOk : List Nat → List Nat → Prop
  | [], [] => True
  | s :: ss, x :: r => x < s ∧ RowOk ss r
  | _, _ => False
theorem mem_rows : ∀ {ss r : List Nat}, r ∈ rows ss ↔ RowOk ss r
  | [], [] => by simp [rows, RowOk]
  | [], _ :: _ => by simp [rows, RowOk]
  | s :: ss, [] => by simp [rows, RowOk]
  | s :: ss, x :: r => by
    simp only [rows, RowOk, List.mem_flatMap, List.mem_range, List.mem_map, List.cons.injEq]
    constructor
    · rintro ⟨y, h1, r', h2, rfl, rfl⟩
      exact ⟨h1, mem_rows.mp h2⟩
    · intro ⟨h1, h2⟩
      exact ⟨x, h1, r, mem_rows.mpr h2, rfl, rfl⟩
theorem RowOk.len : ∀ {ss r : List Nat}, RowOk ss r → r.length = ss.length
  | [], [], _ => rfl
  | [], _ :: _, h => h.elim
  | _ :: _, [], h => h.elim
  | s :: ss, x :: r, h => by rw [List.length_cons, List.length_cons, RowOk.len h.2]
theorem rowOk_iff : ∀ {ss r : List Nat}, RowOk ss r ↔ r.length = ss.length ∧ ∀ i, i < ss.length → r.getD i 0 < ss.getD i 0
  | [], [] => by simp [RowOk]
  | [], _ :: _ => by simp [RowOk]
  | _ :: _, [] => by simp [RowOk]
  | s :: ss, x :: r => by
    rw [RowOk, rowOk_iff, List.length_cons, List.length_cons]
    constructor
    · rintro ⟨h1, h2, h3⟩
      refine ⟨by omega, fun i hi => ?_⟩
      cases i with
      | zero => exact h1
      | succ i => simpa using h3 i (by omega)
    · rintro ⟨h1, h2⟩
      exact ⟨h2 0 (by omega), by omega, fun i hi => by simpa using h2 (i + 1) (by omega)⟩
theorem rowOk_zip : ∀ {ss r : List Nat}, RowOk ss r → ∀ p ∈ r.zip ss, p.1 < p.2
  | [], [], _, p, hp => by cases hp
  | [], _ :: _, h, _, _ => h.elim
  | _ :: _, [], h, _, _ => h.elim
  | s :: ss, x :: r, h, p, hp => by
    rw [List.zip_cons_cons, List.mem_cons] at hp
    rcases hp with rfl | hp
    · exact h.1
    · exact rowOk_zip h.2 p hp
theorem rows_len : ∀ ss, (rows ss).length = ss.prod
  | [] => rfl
  | s :: ss => by
    rw [rows, List.length_flatMap, List.prod_cons, ← rows_len ss]
    simp [List.map_const', List.sum_replicate_nat]
def rowT (r : List Nat) : Tup Nat := ⟨r⟩
theorem lt_row (a b : List Nat) : DatumOrd.lt (rowT a) (rowT b) = listLt a b := rfl
theorem listLt_cons (x : Nat) (a b : List Nat) : listLt (x :: a) (x :: b) = listLt a b := by
  rw [listLt, if_pos rfl]
theorem listLt_ne {x y : Nat} (h : x < y) (a b : List Nat) : listLt (x :: a) (y :: b) = true := by
  rw [listLt, if_neg (by omega)]
  exact decide_eq_true h
theorem rows_lt : ∀ ss, (rows ss).Pairwise fun a b => listLt a b = true
  | [] => List.pairwise_singleton _ _
  | s :: ss => by
    rw [rows, List.pairwise_flatMap]
    refine ⟨fun x _ => ?_, ?_⟩
    · rw [List.pairwise_map]
      refine (rows_lt ss).imp fun {a b} h => ?_
      rw [listLt_cons]
      exact h
    · refine List.pairwise_lt_range.imp fun {x y} h a ha b hb => ?_
      obtain ⟨a', _, rfl⟩ := List.mem_map.mp ha
      obtain ⟨b', _, rfl⟩ := List.mem_map.mp hb
      exact listLt_ne h _ _
theorem rows_st (ss : List Nat) : St ((rows ss).map rowT) := by
  unfold St
  rw [List.pairwise_map]
  exact rows_lt ss
theorem rows_nodup (ss : List Nat) : (rows ss).Nodup := (rows_lt ss).imp fun {a b} h e => by
  rw [e, ← lt_row, lt_irr] at h
  cases h
theorem rowT_inj {a b : List Nat} (h : rowT a = rowT b) : a = b := by cases h; rfl
/-- as the loop goes -/
def rowsF (acc : List (List Nat)) : List Nat → List (List Nat)
  | [] => acc
  | s :: ss => rowsF (acc.flatMap fun r => (List.range s).map fun x => r ++ [x]) ss
theorem rowsF_eq : ∀ (ss : List Nat) (acc : List (List Nat)), rowsF acc ss = acc.flatMap fun a => (rows ss).map (a ++ ·)
  | [], acc => by
    simp [rowsF, rows]
  | s :: ss, acc => by
    rw [rowsF, rowsF_eq ss]
    simp [rows, List.flatMap_assoc, List.map_flatMap, List.flatMap_map, Function.comp_def]
theorem rowsF_nil (ss : List Nat) : rowsF [[]] ss = rows ss := by
  rw [rowsF_eq]
  simp
/-! ascending lists -/
def Asc (l : List Nat) : Prop := l.Pairwise (· < ·)
def accS (t : Nat) : Nat → List (List Nat)
  | 0 => [[]]
  | k + 1 => accS t k ++ ((accS t k).filter fun l => decide (l.length < t)).map fun l => l ++ [k]
theorem mem_accS {t : Nat} : ∀ {k : Nat} {l : List Nat}, l ∈ accS t k ↔ Asc l ∧ (∀ x ∈ l, x < k) ∧ l.length ≤ t
  | 0, l => by
    rw [accS, List.mem_singleton]
    constructor
    · rintro rfl
      exact ⟨List.Pairwise.nil, by simp, by simp⟩
    · rintro ⟨_, h, _⟩
      cases l with
      | nil => rfl
      | cons x l => exact absurd (h x List.mem_cons_self) (by omega)
  | k + 1, l => by
    rw [accS, List.mem_append, mem_accS, List.mem_map]
    constructor
    · rintro (⟨h1, h2, h3⟩ | ⟨m, hm, rfl⟩)
      · exact ⟨h1, fun x hx => by have := h2 x hx; omega, h3⟩
      · obtain ⟨hm, hl⟩ := List.mem_filter.mp hm
        obtain ⟨h1, h2, h3⟩ := mem_accS.mp hm
        refine ⟨?_, fun x hx => ?_, ?_⟩
        · unfold Asc
          rw [List.pairwise_append]
          exact ⟨h1, List.pairwise_singleton _ _, fun a ha b hb => by rw [List.mem_singleton.mp hb]; exact h2 a ha⟩
        · rw [List.mem_append, List.mem_singleton] at hx
          rcases hx with hx | rfl
          · have := h2 x hx
            omega
          · omega
        · have := of_decide_eq_true hl
          rw [List.length_append, List.length_singleton]
          omega
    · rintro ⟨h1, h2, h3⟩
      rcases List.eq_nil_or_concat l with rfl | ⟨m, y, rfl⟩
      · exact .inl ⟨h1, by simp, h3⟩
      · rw [List.concat_eq_append] at *
        unfold Asc at h1
        rw [List.pairwise_append] at h1
        obtain ⟨a1, _, a3⟩ := h1
        have hy := h2 y (by simp)
        rw [List.length_append, List.length_singleton] at h3
        by_cases e : y = k
        · subst e
          refine .inr ⟨m, List.mem_filter.mpr ⟨mem_accS.mpr ⟨a1, fun x hx => a3 x hx y (by simp), by omega⟩, decide_eq_true (by omega)⟩, rfl⟩
        · refine .inl ⟨?_, fun x hx => ?_, by simp; omega⟩
          · unfold Asc
            rw [List.pairwise_append]
            exact ⟨a1, List.pairwise_singleton _ _, a3⟩
          · rw [List.mem_append, List.mem_singleton] at hx
            rcases hx with hx | rfl
            · have := a3 x hx y (by simp)
              omega
            · omega
theorem accS_nodup (t : Nat) : ∀ k, (accS t k).Nodup
  | 0 => by simp [accS]
  | k + 1 => by
    rw [accS, List.nodup_append]
    refine ⟨accS_nodup t k, ?_, fun a ha b hb e => ?_⟩
    · refine List.pairwise_map.mpr ?_
      refine ((accS_nodup t k).filter _).imp fun {a b} h e => h ?_
      exact List.append_cancel_right e
    · subst e
      obtain ⟨m, _, rfl⟩ := List.mem_map.mp hb
      have := (mem_accS.mp ha).2.1 k (by simp)
      omega
theorem accS_len (t : Nat) : ∀ k, (accS t k).length ≤ 2 ^ k
  | 0 => by simp [accS]
  | k + 1 => by
    rw [accS, List.length_append, List.length_map, Nat.pow_succ]
    have := accS_len t k
    have := List.length_filter_le (fun l : List Nat => decide (l.length < t)) (accS t k)
    omega
def subs (n t : Nat) : List (List Nat) := ((accS t n).filter fun l => decide (l.length = t)).mergeSort leB
theorem subs_st (n t : Nat) : St (subs n t) := st_sort ((accS_nodup t n).filter _)
theorem mem_subs {n t : Nat} {l : List Nat} : l ∈ subs n t ↔ Asc l ∧ (∀ x ∈ l, x < n) ∧ l.length = t := by
  unfold subs
  rw [mem_sort, List.mem_filter, mem_accS, decide_eq_true_eq]
  constructor
  · rintro ⟨⟨h1, h2, h3⟩, h4⟩
    exact ⟨h1, h2, h4⟩
  · rintro ⟨h1, h2, h3⟩
    exact ⟨⟨h1, h2, by omega⟩, h3⟩
/-! sights, as pairs of a factor and its level -/
def ofS (P : List (Nat × Nat)) : List Nat × Tup Nat := (P.map (·.1), rowT (P.map (·.2)))
theorem zip_fst : ∀ {a b : List Nat}, a.length = b.length → (a.zip b).map (·.1) = a
  | [], [], _ => rfl
  | x :: a, y :: b, h => by rw [List.zip_cons_cons, List.map_cons, zip_fst (by simpa using h)]
theorem zip_snd : ∀ {a b : List Nat}, a.length = b.length → (a.zip b).map (·.2) = b
  | [], [], _ => rfl
  | x :: a, y :: b, h => by rw [List.zip_cons_cons, List.map_cons, zip_snd (by simpa using h)]
theorem zip_maps : ∀ P : List (Nat × Nat), (P.map (·.1)).zip (P.map (·.2)) = P
  | [] => rfl
  | p :: P => by rw [List.map_cons, List.map_cons, List.zip_cons_cons, zip_maps P]
theorem ofS_inj {P Q : List (Nat × Nat)} (h : ofS P = ofS Q) : P = Q := by
  have h1 : P.map (·.1) = Q.map (·.1) := congrArg Prod.fst h
  have h2 : P.map (·.2) = Q.map (·.2) := rowT_inj (congrArg Prod.snd h)
  rw [← zip_maps P, ← zip_maps Q, h1, h2]
def szAt (ss T : List Nat) : List Nat := T.map fun f => ss.getD f 0
def sgs (ss : List Nat) (t : Nat) : List (List (Nat × Nat)) := (subs ss.length t).flatMap fun T => (rows (szAt ss T)).map fun l => T.zip l
structure IsS (ss : List Nat) (t : Nat) (P : List (Nat × Nat)) : Prop where
  asc : P.Pairwise fun p q => p.1 < q.1
  len : P.length = t
  ok : ∀ p ∈ P, p.1 < ss.length ∧ p.2 < ss.getD p.1 0
theorem rowOk_pairs (ss : List Nat) : ∀ P : List (Nat × Nat), RowOk (szAt ss (P.map (·.1))) (P.map (·.2)) ↔ ∀ p ∈ P, p.2 < ss.getD p.1 0
  | [] => by simp [szAt, RowOk]
  | p :: P => by
    have := rowOk_pairs ss P
    unfold szAt at *
    rw [List.map_cons, List.map_cons, List.map_cons, RowOk, this]
    simp
theorem szAt_len (ss T : List Nat) : (szAt ss T).length = T.length := by simp [szAt]
theorem mem_sgs {ss : List Nat} {t : Nat} {P : List (Nat × Nat)} : P ∈ sgs ss t ↔ IsS ss t P := by
  unfold sgs
  rw [List.mem_flatMap]
  constructor
  · rintro ⟨T, hT, hP⟩
    obtain ⟨l, hl, rfl⟩ := List.mem_map.mp hP
    obtain ⟨h1, h2, h3⟩ := mem_subs.mp hT
    have hl' := mem_rows.mp hl
    have hlen : T.length = l.length := by rw [hl'.len, szAt_len]
    have e1 := zip_fst hlen
    have e2 := zip_snd hlen
    have hr : RowOk (szAt ss ((T.zip l).map (·.1))) ((T.zip l).map (·.2)) := by rw [e1, e2]; exact hl'
    refine ⟨?_, by rw [List.length_zip, ← hlen, Nat.min_self]; exact h3, fun p hp => ⟨?_, (rowOk_pairs ss _).mp hr p hp⟩⟩
    · have : (T.zip l).map (·.1) |>.Pairwise (· < ·) := by rw [e1]; exact h1
      exact List.pairwise_map.mp this
    · refine h2 p.1 ?_
      rw [← e1]
      exact List.mem_map_of_mem hp
  · rintro ⟨h1, h2, h3⟩
    refine ⟨P.map (·.1), mem_subs.mpr ⟨List.pairwise_map.mpr h1, fun x hx => ?_, by rw [List.length_map]; exact h2⟩, List.mem_map.mpr ⟨P.map (·.2), mem_rows.mpr ((rowOk_pairs ss P).mpr fun p hp => (h3 p hp).2), zip_maps P⟩⟩
    obtain ⟨p, hp, rfl⟩ := List.mem_map.mp hx
    exact (h3 p hp).1
theorem sgs_st (ss : List Nat) (t : Nat) : St ((sgs ss t).map ofS) := by
  unfold St sgs
  rw [List.pairwise_map, List.pairwise_flatMap]
  have hl : ∀ T l, l ∈ rows (szAt ss T) → ofS (T.zip l) = (T, rowT l) := fun T l h => by
    have hlen : T.length = l.length := by rw [(mem_rows.mp h).len, szAt_len]
    unfold ofS
    rw [zip_fst hlen, zip_snd hlen]
  refine ⟨fun T _ => ?_, ?_⟩
  · rw [List.pairwise_map]
    refine List.Pairwise.imp_of_mem (fun {a b} ha hb h => ?_) (rows_lt (szAt ss T))
    rw [hl T a ha, hl T b hb]
    show (if T = T then DatumOrd.lt (rowT a) (rowT b) else DatumOrd.lt T T) = true
    rw [if_pos rfl]
    exact h
  · refine (subs_st ss.length t).imp fun {T U} h a ha b hb => ?_
    obtain ⟨l, h1, rfl⟩ := List.mem_map.mp ha
    obtain ⟨m, h2, rfl⟩ := List.mem_map.mp hb
    rw [hl T l h1, hl U m h2]
    show (if T = U then DatumOrd.lt (rowT l) (rowT m) else DatumOrd.lt T U) = true
    rw [if_neg fun e => by rw [e, lt_irr] at h; cases h]
    exact h
theorem sgs_nodup (ss : List Nat) (t : Nat) : (sgs ss t).Nodup := (List.pairwise_map.mp (sgs_st ss t).nodup).imp fun {a b} h e => h (by rw [e])
/-! having a sight -/
def hasP (r : List Nat) (P : List (Nat × Nat)) : Bool := P.all fun p => r.getD p.1 0 == p.2
theorem hasP_iff {r : List Nat} {P : List (Nat × Nat)} : hasP r P = true ↔ ∀ p ∈ P, r.getD p.1 0 = p.2 := by
  unfold hasP
  rw [List.all_eq_true]
  simp
theorem hasP_map (r : List Nat) : ∀ P : List (Nat × Nat), hasP r P = decide ((P.map (·.1)).map (fun f => r.getD f 0) = P.map (·.2))
  | [] => by simp [hasP]
  | p :: P => by
    have := hasP_map r P
    unfold hasP at *
    rw [List.all_cons, this, List.map_cons, List.map_cons, List.map_cons, Bool.eq_iff_iff]
    simp
def miss (rs : List (List Nat)) (ss : List Nat) (t : Nat) : List (List (Nat × Nat)) := (sgs ss t).filter fun P => !(rs.any fun r => hasP r P)
theorem mem_miss {rs : List (List Nat)} {ss : List Nat} {t : Nat} {P : List (Nat × Nat)} : P ∈ miss rs ss t ↔ IsS ss t P ∧ ∀ r ∈ rs, hasP r P = false := by
  unfold miss
  rw [List.mem_filter, mem_sgs, Bool.not_eq_true', List.any_eq_false]
  simp
theorem miss_st (rs : List (List Nat)) (ss : List Nat) (t : Nat) : St ((miss rs ss t).map ofS) := by
  have := sgs_st ss t
  unfold St at *
  rw [List.pairwise_map] at *
  exact List.Pairwise.filter _ this
theorem miss_nodup (rs : List (List Nat)) (ss : List Nat) (t : Nat) : (miss rs ss t).Nodup := (sgs_nodup ss t).filter _
def cnt (left : List (List (Nat × Nat))) (r : List Nat) : Nat := (left.filter (hasP r)).length
end Zx
/-! U2: the walks of the sights. -/
namespace Zx
open PySem PySem.Spec L2 PySem.W
namespace Cm
noncomputable def D_check_sizes : DenS :=
  (sSeq (sIf (bNot (bCh leI leI (kD (.int 1)) (d1 lenD (vR 0)) (kD (.int (8))))) sNo sNx)
  (sFor (iEn (vR 0)) (gT (gsCons (gN 1) (gsCons (gN 2) gsNil)) 2) (sIf (bNot (bCh leI leI (kD (.int (2))) (vR 2) (kD (.int (5))))) sNo sNx)))
noncomputable def f_check_sizes : List D → Option D := runX D_check_sizes 3
noncomputable def D_check_some : DenS :=
  (sSeq (sIf (b2 gtI (d1 lenD (vR 0)) (kD (.int (64)))) sNo sNx)
  (sFor (iEn (vR 0)) (gT (gsCons (gN 2) (gsCons (gN 3) gsNil)) 2) (sIf (bOr (b2 neD (d1 lenD (vR 3)) (d1 lenD (vR 1))) (bNot (b1 truD (d1 allD (dLc (iZpX (vR 3) (vR 1)) (gT (gsCons (gN 4) (gsCons (gN 5) gsNil)) 2) bYes (bV (bCh leI ltI (kD (.int 0)) (vR 4) (vR 5))) [4, 5]))))) sNo sNx)))
noncomputable def f_check_some : List D → Option D := runX D_check_some 6
noncomputable def D_product_of : DenS :=
  (sSeq (sSet 1 (kD (.int 1)))
  (sSeq (sFor (iSeq (vR 0)) (gN 2) (sSet 1 (d2 mulI (vR 1) (vR 2))))
  (sRet (vR 1))))
noncomputable def f_product_of : List D → Option D := runX D_product_of 3
noncomputable def D_check_full : DenS :=
  (sSeq (sDrop (dCall (lCons (vR 0) lNil) f_check_sizes))
  (sSeq (sIf (b2 gtI (d1 lenD (vR 0)) (kD (.int (6)))) sNo sNx)
  (sIf (b2 gtI (dCall (lCons (vR 0) lNil) f_product_of) (kD (.int (64)))) sNo sNx)))
noncomputable def f_check_full : List D → Option D := runX D_check_full 1
noncomputable def D_check_number : DenS :=
  (sIf (bOr (bNot (bCh leI leI (kD (.int 1)) (vR 1) (kD (.int (3))))) (b2 gtI (vR 1) (d1 lenD (vR 0)))) sNo sNx)
noncomputable def f_check_number : List D → Option D := runX D_check_number 2
noncomputable def D_check_sights : DenS :=
  (sSeq (sDrop (dCall (lCons (vR 0) lNil) f_check_full))
  (sDrop (dCall (lCons (vR 0) (lCons (vR 1) lNil)) f_check_number)))
noncomputable def f_check_sights : List D → Option D := runX D_check_sights 2
noncomputable def D_check_covering : DenS :=
  (sSeq (sDrop (dCall (lCons (vR 1) lNil) f_check_sizes))
  (sSeq (sDrop (dCall (lCons (vR 0) (lCons (vR 1) lNil)) f_check_some))
  (sDrop (dCall (lCons (vR 1) (lCons (vR 2) lNil)) f_check_sights))))
noncomputable def f_check_covering : List D → Option D := runX D_check_covering 3
noncomputable def D_subsets : DenS :=
  (sSeq (sSet 2 (mkL (lCons (mkL lNil) lNil)))
  (sSeq (sFor (iR1 (vR 0)) (gN 3) (sSet 2 (d2 addD (vR 2) (dLc (iSeq (vR 2)) (gN 4) (b2 ltI (d1 lenD (vR 4)) (vR 1)) (mkL (lStar (vR 4) (lCons (vR 3) lNil))) [4]))))
  (sRet (d1 sortD (dLc (iSeq (vR 2)) (gN 4) (b2 eqD (d1 lenD (vR 4)) (vR 1)) (vR 4) [4])))))
noncomputable def f_subsets : List D → Option D := runX D_subsets 5
noncomputable def D_all_levels : DenS :=
  (sSeq (sSet 1 (mkL (lCons (mkT lNil) lNil)))
  (sSeq (sFor (iSeq (vR 0)) (gN 2) (sLcSet 1 false (dLc2 (iSeq (vR 1)) (gN 3) bYes (iR1 (vR 2)) (gN 4) bYes (mkT (lStar (vR 3) (lCons (vR 4) lNil))) [3, 4] [4])))
  (sRet (vR 1))))
noncomputable def f_all_levels : List D → Option D := runX D_all_levels 5
noncomputable def D_levels_at : DenS :=
  (sRet (d1 tupD (dLc (iSeq (vR 1)) (gN 2) bYes (d2 ixD (vR 0) (vR 2)) [2])))
noncomputable def f_levels_at : List D → Option D := runX D_levels_at 3
noncomputable def D_has : DenS :=
  (sRet (bV (b2 eqD (dCall (lCons (vR 0) (lCons (d2 ixD (vR 1) (kD (.int 0))) lNil)) f_levels_at) (d2 ixD (vR 1) (kD (.int 1))))))
noncomputable def f_has : List D → Option D := runX D_has 2
noncomputable def D_sights_of : DenS :=
  (sSeq (sOwn 2 (mkL lNil))
  (sSeq (sFor (iSeq (dCall (lCons (d1 lenD (vR 0)) (lCons (vR 1) lNil)) f_subsets)) (gN 3) (sExt 2 (dLc (iSeq (dCall (lCons (dLc (iSeq (vR 3)) (gN 5) bYes (d2 ixD (vR 0) (vR 5)) [5]) lNil) f_all_levels)) (gN 4) bYes (mkT (lCons (vR 3) (lCons (vR 4) lNil))) [4])))
  (sFrz 2 (sRet (vR 2)))))
noncomputable def f_sights_of : List D → Option D := runX D_sights_of 6
noncomputable def D_missing_of : DenS :=
  (sRet (dLc (iSeq (dCall (lCons (vR 1) (lCons (vR 2) lNil)) f_sights_of)) (gN 3) (bNot (b1 truD (d1 anyD (dLc (iSeq (vR 0)) (gN 4) bYes (dCall (lCons (vR 4) (lCons (vR 3) lNil)) f_has) [4])))) (vR 3) [3]))
noncomputable def f_missing_of : List D → Option D := runX D_missing_of 5
noncomputable def D_missing : DenS :=
  (sSeq (sDrop (dCall (lCons (vR 0) (lCons (vR 1) (lCons (vR 2) lNil))) f_check_covering))
  (sRet (dCall (lCons (vR 0) (lCons (vR 1) (lCons (vR 2) lNil))) f_missing_of)))
noncomputable def f_missing : List D → Option D := runX D_missing 3
end Cm
@[simp] theorem tupD_l (xs : List D) : tupD (.list xs) = some (.tuple xs) := (rfl)
@[simp] theorem truD_b (b : Bool) : truD (.bool b) = some b := (rfl)
abbrev runD (r : List Nat) : D := .tuple (r.map fun i => .int ((i : Nat) : Int))
abbrev runsD (rs : List (List Nat)) : D := .list (rs.map runD)
abbrev sgD (P : List (Nat × Nat)) : D := .tuple [natsD (P.map (·.1)), runD (P.map (·.2))]
abbrev sgsD (S : List (List (Nat × Nat))) : D := .list (S.map sgD)
theorem enc_run : EncOk runD 1 := enc_tup enc_nat
theorem enc_runs : EncOk runsD 2 := enc_list enc_run
theorem enc_nats : EncOk (fun l => natsD l) 1 := enc_list enc_nat
theorem enc_sg : EncOk sgD 2 := ((enc_pair enc_nats enc_run).comp (fun P : List (Nat × Nat) => (P.map (·.1), P.map (·.2))) fun P Q h => by
  have h1 : P.map (·.1) = Q.map (·.1) := (Prod.ext_iff.mp h).1
  have h2 : P.map (·.2) = Q.map (·.2) := (Prod.ext_iff.mp h).2
  rw [← zip_maps P, ← zip_maps Q, h1, h2])
theorem enc_sgs : EncOk sgsD 3 := enc_list enc_sg
theorem rg1_nat {n : Nat} (h : n ≤ 1000000) : rg1 (.int (n : Nat)) = some ((List.range n).map fun i => PyData.int ((i : Nat) : Int)) := by
  rw [rg1_ok (by omega) (by omega)]
  unfold rgL
  rw [show ((n : Int)).toNat = n by omega]
  congr 1
  refine List.map_congr_left fun i _ => ?_
  rw [show (0 : Int) + (i : Nat) = (i : Int) by omega]
theorem run_at {r : List Nat} {i : Nat} (h : i < r.length) : ixD (runD r) (.int (i : Nat)) = some (.int ((r.getD i 0 : Nat) : Int)) := by
  rw [ixD_t, atI_nat _ _ (by simpa using h), List.getElem?_map, List.getElem?_eq_getElem h]
  simp [h]
theorem nats_at {r : List Nat} {i : Nat} (h : i < r.length) : ixD (natsD r) (.int (i : Nat)) = some (.int ((r.getD i 0 : Nat) : Int)) := by
  rw [ixD_l, atI_nat _ _ (by simpa using h), List.getElem?_map, List.getElem?_eq_getElem h]
  simp [h]
@[simp] theorem len_run (r : List Nat) : lenD (runD r) = some (.int (r.length : Nat)) := by simp [lenD]
theorem forL_chk {g : DenG} {c : DenB} (P : Env → Prop) : ∀ (ds : List D) (ρ : Env), P ρ → (∀ d ∈ ds, ∀ ρ, P ρ → ∃ ρ1, g d ρ = some ρ1 ∧ c ρ1 = some false ∧ P ρ1) → ∃ ρ', forL g (sIf c sNo sNx) ds ρ = some (.nx ρ') ∧ P ρ'
  | [], ρ, h, _ => ⟨ρ, rfl, h⟩
  | d :: ds, ρ, h, hs => by
    obtain ⟨ρ1, h1, h2, h3⟩ := hs d List.mem_cons_self ρ h
    obtain ⟨ρ', h4, h5⟩ := forL_chk P ds ρ1 h3 fun e he => hs e (List.mem_cons_of_mem _ he)
    exact ⟨ρ', by simp only [forL, h1, Option.bind_some, sIf_f h2, sNx_s, h4], h5⟩
theorem sFor_chk {fi : DenI} {g : DenG} {c : DenB} {ρ : Env} {ds : List D} (P : Env → Prop) (hi : fi ρ = some ds) (h0 : P ρ) (hs : ∀ d ∈ ds, ∀ ρ, P ρ → ∃ ρ1, g d ρ = some ρ1 ∧ c ρ1 = some false ∧ P ρ1) : ∃ ρ', sFor fi g (sIf c sNo sNx) ρ = some (.nx ρ') ∧ P ρ' := by
  obtain ⟨ρ', h1, h2⟩ := forL_chk P ds ρ h0 hs
  exact ⟨ρ', by unfold sFor; rw [hi]; exact h1, h2⟩
theorem enum_mem {xs : List D} {d : D} (h : d ∈ enumL xs) : ∃ (k : Nat) (x : D), x ∈ xs ∧ d = .tuple [.int (k : Int), x] := by
  unfold enumL at h
  obtain ⟨i, hi, rfl⟩ := List.mem_iff_getElem.mp h
  rw [List.getElem_zipWith]
  exact ⟨_, _, List.getElem_mem _, rfl⟩
theorem zipL_map {α β : Type} (f : α → D) (g : β → D) : ∀ (xs : List α) (ys : List β), zipL (xs.map f) (ys.map g) = (xs.zip ys).map fun p => .tuple [f p.1, g p.2]
  | [], _ => by simp [zipL]
  | _ :: _, [] => by simp [zipL]
  | x :: xs, y :: ys => by
    have := zipL_map f g xs ys
    unfold zipL at *
    rw [List.map_cons, List.map_cons, List.zipWith_cons_cons, this, List.zip_cons_cons, List.map_cons]
/-- sizes as they are let -/
structure SzOk (ss : List Nat) : Prop where
  l1 : 1 ≤ ss.length
  l6 : ss.length ≤ 6
  lo : ∀ s ∈ ss, 2 ≤ s
  hi : ∀ s ∈ ss, s ≤ 5
  pr : ss.prod ≤ 64
theorem check_sizes_ok {ss : List Nat} (h : SzOk ss) : Cm.f_check_sizes [natsD ss] = some .none := by
  have h1 := h.l1
  have h6 := h.l6
  obtain ⟨ρ', g1, g2⟩ := sFor_chk (fi := iEn (vR 0)) (g := gT (gsCons (gN 1) (gsCons (gN 2) gsNil)) 2) (c := bNot (bCh leI leI (kD (.int (2))) (vR 2) (kD (.int (5))))) (ρ := [.fz (natsD ss), .no, .no]) (ds := enumL (ss.map fun i => .int ((i : Nat) : Int)))
    (fun ρ => ∃ s1 s2, ρ = [.fz (natsD ss), s1, s2]) rfl ⟨_, _, rfl⟩ (fun d hd ρ ⟨s1, s2, e⟩ => by
      subst e
      obtain ⟨k, x, hx, rfl⟩ := enum_mem hd
      obtain ⟨s, hs, rfl⟩ := List.mem_map.mp hx
      have a1 := h.lo s hs
      have a2 := h.hi s hs
      refine ⟨_, rfl, ?_, _, _, rfl⟩
      have b1 : (2 : Int) ≤ s := by omega
      have b2 : (s : Int) ≤ 5 := by omega
      simp [b1, b2])
  obtain ⟨s1, s2, rfl⟩ := g2
  unfold Cm.f_check_sizes Cm.D_check_sizes
  rw [runX_s]
  rw [show env0 3 [natsD ss] = [.fz (natsD ss), .no, .no] from rfl]
  rw [sSeq_nx (ρ' := [.fz (natsD ss), .no, .no]) (by
    rw [sIf_f (by
      have b1 : (1 : Int) ≤ ss.length := by omega
      have b2 : (ss.length : Int) ≤ 8 := by omega
      simp [b1, b2])]
    rfl), g1]
theorem check_some_ok {ss : List Nat} {rs : List (List Nat)} (h : SzOk ss) (hr : ∀ r ∈ rs, RowOk ss r) (hl : rs.length ≤ 64) : Cm.f_check_some [runsD rs, natsD ss] = some .none := by
  have h6 := h.l6
  obtain ⟨ρ', g1, g2⟩ := sFor_chk (fi := iEn (vR 0)) (g := gT (gsCons (gN 2) (gsCons (gN 3) gsNil)) 2) (c := (bOr (b2 neD (d1 lenD (vR 3)) (d1 lenD (vR 1))) (bNot (b1 truD (d1 allD (dLc (iZpX (vR 3) (vR 1)) (gT (gsCons (gN 4) (gsCons (gN 5) gsNil)) 2) bYes (bV (bCh leI ltI (kD (.int 0)) (vR 4) (vR 5))) [4, 5]))))))
    (ρ := [.fz (runsD rs), .fz (natsD ss), .no, .no, .no, .no]) (ds := enumL (rs.map runD))
    (fun ρ => ∃ s2 s3, ρ = [.fz (runsD rs), .fz (natsD ss), s2, s3, .no, .no]) rfl ⟨_, _, rfl⟩ (fun d hd ρ ⟨s2, s3, e⟩ => by
      subst e
      obtain ⟨k, x, hx, rfl⟩ := enum_mem hd
      obtain ⟨r, hrm, rfl⟩ := List.mem_map.mp hx
      have hro := hr r hrm
      have hlen := hro.len
      refine ⟨_, rfl, ?_, _, _, rfl⟩
      have hall : dLc (iZpX (vR 3) (vR 1)) (gT (gsCons (gN 4) (gsCons (gN 5) gsNil)) 2) bYes (bV (bCh leI ltI (kD (.int 0)) (vR 4) (vR 5))) [4, 5] [.fz (runsD rs), .fz (natsD ss), .fz (.int (k : Int)), .fz (runD r), .no, .no] = some (.list ((r.zip ss).map fun _ => .bool true)) := by
        refine dLc_map (fun p : Nat × Nat => PyData.tuple [.int ((p.1 : Nat) : Int), .int ((p.2 : Nat) : Int)]) (fun _ => .bool true) (r.zip ss) (by
          simp only [iZpX_s, vR_s, List.getElem?_cons_zero, List.getElem?_cons_succ, Option.bind_some]
          rw [zipL_map]) (fun p hp => ⟨_, rfl, ?_⟩) (by simp; omega)
        have a := rowOk_zip hro p hp
        have b : ((p.1 : Nat) : Int) < (p.2 : Nat) := by omega
        simp [wipeE, b]
      have hb : allD (.list ((r.zip ss).map fun _ => .bool true)) = some (.bool true) := by
        have : ((r.zip ss).map fun _ => PyData.bool true) = ((r.zip ss).map fun _ => true).map .bool := by rw [List.map_map]; rfl
        rw [this]
        simp only [allD, bools_map, Option.bind_some]
        congr 2
        simp
      simp only [bOr_s, bNot_s, b2_s, b1_s, d1_s, hall, hb, vR_s, List.set_cons_zero, List.set_cons_succ, List.getElem?_cons_zero, List.getElem?_cons_succ, Option.bind_some, len_run, lenN, neD_i, hlen, truD_b]
      simp)
  obtain ⟨s2, s3, rfl⟩ := g2
  unfold Cm.f_check_some Cm.D_check_some
  rw [runX_s]
  rw [show env0 6 [runsD rs, natsD ss] = [.fz (runsD rs), .fz (natsD ss), .no, .no, .no, .no] from rfl]
  rw [sSeq_nx (ρ' := [.fz (runsD rs), .fz (natsD ss), .no, .no, .no, .no]) (by
    rw [sIf_f (by
      have b1 : ¬ (64 : Int) < rs.length := by omega
      simp [b1])]
    rfl), g1]
theorem product_loop (x : Slot) : ∀ (ss : List Nat) (acc : Nat) (s2 : Slot), (∀ s ∈ ss, 1 ≤ s ∧ s ≤ 1000) → acc * ss.prod ≤ 2 ^ 40 → ∃ s2', forL (gN 2) (sSet 1 (d2 mulI (vR 1) (vR 2))) (ss.map fun i => .int ((i : Nat) : Int)) [x, .fz (.int (acc : Int)), s2] = some (.nx [x, .fz (.int ((acc * ss.prod : Nat) : Int)), s2'])
  | [], acc, s2, _, _ => ⟨s2, by simp [forL]⟩
  | s :: ss, acc, s2, h1, h2 => by
    rw [List.prod_cons, ← Nat.mul_assoc] at h2
    have hs := h1 s List.mem_cons_self
    have hs2 := hs.2
    have pp : 1 ≤ ss.prod := by
      clear h2
      have h3 : ∀ z ∈ ss, 1 ≤ z := fun z hz => (h1 z (List.mem_cons_of_mem _ hz)).1
      clear h1
      induction ss with
      | nil => simp
      | cons z zs ih =>
        rw [List.prod_cons]
        exact Nat.mul_le_mul (h3 z List.mem_cons_self) (ih fun w hw => h3 w (List.mem_cons_of_mem _ hw))
    obtain ⟨s2', ih⟩ := product_loop x ss (acc * s) (.fz (.int ((s : Nat) : Int))) (fun z hz => h1 z (List.mem_cons_of_mem _ hz)) h2
    have b1 : acc * s ≤ 2 ^ 40 := Nat.le_trans (Nat.le_mul_of_pos_right _ pp) h2
    have b2 : acc ≤ 2 ^ 40 := Nat.le_trans (Nat.le_mul_of_pos_right _ hs.1) b1
    have m : mulOk (acc : Int) (s : Int) = true := mulOk64 (by omega) (by omega)
    refine ⟨s2', ?_⟩
    rw [List.map_cons, forL]
    simp only [gN_s, sSet_s, d2_s, vR_s, List.set_cons_zero, List.set_cons_succ, List.getElem?_cons_zero, List.getElem?_cons_succ, Option.bind_some, mulI_i, m, if_true]
    rw [← Int.natCast_mul, ih, List.prod_cons, Nat.mul_assoc]
theorem product_ok {ss : List Nat} (h1 : ∀ s ∈ ss, 1 ≤ s ∧ s ≤ 1000) (h2 : ss.prod ≤ 2 ^ 40) : Cm.f_product_of [natsD ss] = some (.int ((ss.prod : Nat) : Int)) := by
  obtain ⟨s2', h⟩ := product_loop (.fz (natsD ss)) ss 1 .no h1 (by omega)
  rw [Nat.one_mul] at h
  unfold Cm.f_product_of Cm.D_product_of
  rw [runX_s]
  rw [show env0 3 [natsD ss] = [.fz (natsD ss), .no, .no] from rfl]
  rw [sSeq_nx (ρ' := [.fz (natsD ss), .fz (.int 1), .no]) (by simp)]
  rw [sSeq_nx (show sFor (iSeq (vR 0)) (gN 2) (sSet 1 (d2 mulI (vR 1) (vR 2))) [.fz (natsD ss), .fz (.int 1), .no] = some (.nx [.fz (natsD ss), .fz (.int ((ss.prod : Nat) : Int)), s2']) from h)]
  simp
theorem check_full_ok {ss : List Nat} (h : SzOk ss) : Cm.f_check_full [natsD ss] = some .none := by
  have h6 := h.l6
  have hp := h.pr
  have c1 := check_sizes_ok h
  have c2 := product_ok (ss := ss) (fun s hs => ⟨by have := h.lo s hs; omega, by have := h.hi s hs; omega⟩) (by omega)
  unfold Cm.f_check_full Cm.D_check_full
  have b1 : ¬ (6 : Int) < ss.length := by omega
  have b2 : ¬ (64 : Int) < ss.prod := by omega
  simp [c1, c2, b1, b2]
theorem check_number_ok {ss : List Nat} {t : Nat} (h1 : 1 ≤ t) (h3 : t ≤ 3) (h : t ≤ ss.length) : Cm.f_check_number [natsD ss, .int (t : Nat)] = some .none := by
  unfold Cm.f_check_number Cm.D_check_number
  have b1 : (1 : Int) ≤ t := by omega
  have b2 : (t : Int) ≤ 3 := by omega
  have b3 : ¬ (ss.length : Int) < t := by omega
  simp [b1, b2, b3]
theorem check_sights_ok {ss : List Nat} {t : Nat} (h : SzOk ss) (h1 : 1 ≤ t) (h3 : t ≤ 3) (hl : t ≤ ss.length) : Cm.f_check_sights [natsD ss, .int (t : Nat)] = some .none := by
  have c1 := check_full_ok h
  have c2 := check_number_ok h1 h3 hl
  unfold Cm.f_check_sights Cm.D_check_sights
  simp [c1, c2]
theorem check_covering_ok {ss : List Nat} {rs : List (List Nat)} {t : Nat} (h : SzOk ss) (hr : ∀ r ∈ rs, RowOk ss r) (hrl : rs.length ≤ 64) (h1 : 1 ≤ t) (h3 : t ≤ 3) (hl : t ≤ ss.length) : Cm.f_check_covering [runsD rs, natsD ss, .int (t : Nat)] = some .none := by
  have c0 := check_sizes_ok h
  have c1 := check_some_ok h hr hrl
  have c2 := check_sights_ok h h1 h3 hl
  unfold Cm.f_check_covering Cm.D_check_covering
  simp [c0, c1, c2]
theorem levels_at_ok {r T : List Nat} (h : ∀ f ∈ T, f < r.length) (hl : T.length ≤ 1000) : Cm.f_levels_at [runD r, natsD T] = some (runD (T.map fun f => r.getD f 0)) := by
  have e : dLc (iSeq (vR 1)) (gN 2) bYes (d2 ixD (vR 0) (vR 2)) [2] [.fz (runD r), .fz (natsD T), .no] = some (.list (T.map fun f => .int ((r.getD f 0 : Nat) : Int))) := by
    refine dLc_map (fun f => .int ((f : Nat) : Int)) (fun f => .int ((r.getD f 0 : Nat) : Int)) T rfl (fun f hf => ⟨_, rfl, ?_⟩) (by omega)
    have := run_at (h f hf)
    simp only [wipeE, d2_s, vR_s, List.set_cons_zero, List.set_cons_succ, List.getElem?_cons_zero, List.getElem?_cons_succ, Option.bind_some, this]
  unfold Cm.f_levels_at Cm.D_levels_at
  rw [runX_s]
  rw [show env0 3 [runD r, natsD T] = [.fz (runD r), .fz (natsD T), .no] from rfl]
  simp only [sRet_s, d1_s, e, Option.bind_some, tupD_l]
  unfold runD
  rw [List.map_map]
  rfl
theorem has_ok {r : List Nat} {P : List (Nat × Nat)} (h : ∀ p ∈ P, p.1 < r.length) (hl : P.length ≤ 1000) : Cm.f_has [runD r, sgD P] = some (.bool (hasP r P)) := by
  have e := levels_at_ok (r := r) (T := P.map (·.1)) (fun f hf => by
    obtain ⟨p, hp, rfl⟩ := List.mem_map.mp hf
    exact h p hp) (by rw [List.length_map]; omega)
  have q := enc_run.eq (by decide) ((P.map (·.1)).map fun f => r.getD f 0) (P.map (·.2))
  unfold Cm.f_has Cm.D_has
  rw [hasP_map]
  simp only [runX_s, env0_s, sRet_s, bV_s, b2_s, dCall_s, lCons_s, lNil_s, d2_s, vR_s, kD_s, List.map_cons, List.map_nil, List.cons_append, List.nil_append, List.getElem?_cons_zero, List.getElem?_cons_succ, Option.bind_some, ixD_t, atI_0, atI_1, e, q]
theorem lc2L_map {α β : Type} (enc : α → D) (e : α → List β) (enc' : β → D) {g : DenG} {fi1 : DenI} {g1 : DenG} {fe : Den} {vs1 : List Nat} {ρ : Env} : ∀ (xs : List α), (∀ x ∈ xs, ∃ ρ1 es, g (enc x) ρ = some ρ1 ∧ fi1 ρ1 = some es ∧ lcL g1 bYes fe (wipeE ρ1 vs1) es = some ((e x).map enc')) → lc2L g bYes fi1 g1 bYes fe vs1 ρ (xs.map enc) = some ((xs.flatMap e).map enc')
  | [], _ => rfl
  | x :: xs, h => by
    obtain ⟨ρ1, es, h1, h2, h3⟩ := h x List.mem_cons_self
    have ih := lc2L_map enc e enc' xs fun y hy => h y (List.mem_cons_of_mem _ hy)
    rw [List.map_cons, lc2L, h1, ih]
    simp only [Option.bind_some, bYes_s, if_true, h2, h3, List.flatMap_cons, List.map_append]
theorem prod_pos : ∀ {ss : List Nat}, (∀ s ∈ ss, 1 ≤ s) → 1 ≤ ss.prod
  | [], _ => by simp
  | s :: ss, h => by
    rw [List.prod_cons]
    exact Nat.mul_le_mul (h s List.mem_cons_self) (prod_pos fun w hw => h w (List.mem_cons_of_mem _ hw))
theorem step_len (acc : List (List Nat)) (s : Nat) : (acc.flatMap fun r => (List.range s).map fun x => r ++ [x]).length = acc.length * s := by
  simp [List.length_flatMap, List.map_const', List.sum_replicate_nat]
theorem all_levels_loop (x : Slot) : ∀ (ss : List Nat) (acc : List (List Nat)) (s2 : Slot), (∀ s ∈ ss, 1 ≤ s ∧ s ≤ 1000) → (∀ r ∈ acc, r.length + ss.length ≤ 1000) → acc.length * ss.prod ≤ 100000 → ∃ s2', forL (gN 2) (sLcSet 1 false (dLc2 (iSeq (vR 1)) (gN 3) bYes (iR1 (vR 2)) (gN 4) bYes (mkT (lStar (vR 3) (lCons (vR 4) lNil))) [3, 4] [4])) (ss.map fun i => .int ((i : Nat) : Int)) [x, .fz (runsD acc), s2, .no, .no] = some (.nx [x, .fz (runsD (rowsF acc ss)), s2', .no, .no])
  | [], acc, s2, _, _, _ => ⟨s2, by simp [forL, rowsF]⟩
  | s :: ss, acc, s2, h1, hl, h2 => by
    have hs := h1 s List.mem_cons_self
    have hs2 := hs.2
    have pp : 1 ≤ ss.prod := prod_pos fun z hz => (h1 z (List.mem_cons_of_mem _ hz)).1
    rw [List.prod_cons, ← Nat.mul_assoc] at h2
    have b1 : acc.length * s ≤ 100000 := Nat.le_trans (Nat.le_mul_of_pos_right _ pp) h2
    have b2 : acc.length ≤ 100000 := Nat.le_trans (Nat.le_mul_of_pos_right _ hs.1) b1
    obtain ⟨s2', ih⟩ := all_levels_loop x ss (acc.flatMap fun r => (List.range s).map fun x => r ++ [x]) (.fz (.int ((s : Nat) : Int))) (fun z hz => h1 z (List.mem_cons_of_mem _ hz)) (fun r hr => by
      obtain ⟨q, hq, hr⟩ := List.mem_flatMap.mp hr
      obtain ⟨y, _, rfl⟩ := List.mem_map.mp hr
      have := hl q hq
      rw [List.length_cons] at this
      rw [List.length_append, List.length_singleton]
      omega) (by rw [step_len]; exact h2)
    refine ⟨s2', ?_⟩
    have r1 := rg1_nat (n := s) (by omega)
    have e : dLc2 (iSeq (vR 1)) (gN 3) bYes (iR1 (vR 2)) (gN 4) bYes (mkT (lStar (vR 3) (lCons (vR 4) lNil))) [3, 4] [4] [x, .fz (runsD acc), .fz (.int ((s : Nat) : Int)), .no, .no] = some (runsD (acc.flatMap fun r => (List.range s).map fun x => r ++ [x])) := by
      unfold dLc2
      have hi : iSeq (vR 1) [x, .fz (runsD acc), .fz (.int ((s : Nat) : Int)), .no, .no] = some (acc.map runD) := rfl
      rw [hi, Option.bind_some]
      rw [lc2L_map runD (fun r => (List.range s).map fun x => r ++ [x]) runD acc fun r hr => ?_]
      · rw [Option.bind_some, List.length_map, step_len, if_pos (by omega)]
      · refine ⟨[x, .fz (runsD acc), .fz (.int ((s : Nat) : Int)), .fz (runD r), .no], (List.range s).map fun i => PyData.int ((i : Nat) : Int), rfl, by simp only [iR1_s, vR_s, List.getElem?_cons_zero, List.getElem?_cons_succ, Option.bind_some, r1], ?_⟩
        have hrl := hl r hr
        rw [List.length_cons] at hrl
        rw [lcL_map (fun i => .int ((i : Nat) : Int)) (fun i => runD (r ++ [i])) (List.range s) fun i hi => ?_]
        · rw [List.map_map]
          rfl
        · refine ⟨_, rfl, ?_⟩
          have hb : (r.map fun i => PyData.int ((i : Nat) : Int)).length + 1 ≤ 1000000 := by rw [List.length_map]; omega
          simp only [wipeE, mkT_s, lStar_s, lCons_s, lNil_s, vR_s, List.set_cons_zero, List.set_cons_succ, List.getElem?_cons_zero, List.getElem?_cons_succ, Option.bind_some, seqOf_t, List.length_append, List.length_cons, List.length_nil, hb, if_true, List.map_append, List.map_cons, List.map_nil, Nat.zero_add, runD]
    rw [List.map_cons, forL]
    simp only [gN_s, sLcSet_s, setNew, e, List.set_cons_zero, List.set_cons_succ, Option.bind_some, Bool.false_eq_true, if_false]
    exact ih
theorem all_levels_ok {ss : List Nat} (h1 : ∀ s ∈ ss, 1 ≤ s ∧ s ≤ 1000) (hl : ss.length ≤ 1000) (h2 : ss.prod ≤ 100000) : Cm.f_all_levels [natsD ss] = some (runsD (rows ss)) := by
  obtain ⟨s2', h⟩ := all_levels_loop (.fz (natsD ss)) ss [[]] .no h1 (by simpa using hl) (by simpa using h2)
  unfold Cm.f_all_levels Cm.D_all_levels
  rw [runX_s]
  rw [show env0 5 [natsD ss] = [.fz (natsD ss), .no, .no, .no, .no] from rfl]
  rw [sSeq_nx (ρ' := [.fz (natsD ss), .fz (runsD [[]]), .no, .no, .no]) (by simp)]
  rw [sSeq_nx (show sFor (iSeq (vR 0)) _ _ [.fz (natsD ss), .fz (runsD [[]]), .no, .no, .no] = _ from h)]
  rw [rowsF_nil]
  simp
theorem subsets_ok {n t : Nat} (hn : n ≤ 10) : Cm.f_subsets [.int (n : Nat), .int (t : Nat)] = some (.list ((subs n t).map fun l => natsD l)) := by
  have r1 := rg1_nat (n := n) (by omega)
  obtain ⟨ρ', g1, g2⟩ := sFor_ok (fi := iR1 (vR 0)) (g := gN 3) (fb := sSet 2 (d2 addD (vR 2) (dLc (iSeq (vR 2)) (gN 4) (b2 ltI (d1 lenD (vR 4)) (vR 1)) (mkL (lStar (vR 4) (lCons (vR 3) lNil))) [4])))
    (ρ := [.fz (.int (n : Nat)), .fz (.int (t : Nat)), .fz (.list ((accS t 0).map fun l => natsD l)), .no, .no]) (ds := (List.range n).map fun i => PyData.int ((i : Nat) : Int))
    (fun k ρ => ∃ s3, ρ = [.fz (.int (n : Nat)), .fz (.int (t : Nat)), .fz (.list ((accS t k).map fun l => natsD l)), s3, .no])
    (by simp only [iR1_s, vR_s, List.getElem?_cons_zero, Option.bind_some, r1]) ⟨_, rfl⟩ (fun j d ρ hd ⟨s3, e⟩ => by
      subst e
      rw [List.getElem?_map, Option.map_eq_some_iff] at hd
      obtain ⟨i, hi, rfl⟩ := hd
      obtain ⟨hj, hji⟩ := List.getElem?_eq_some_iff.mp hi
      rw [List.getElem_range] at hji
      subst hji
      rw [List.length_range] at hj
      have l1 := accS_len t j
      have l2 : 2 ^ j ≤ 2 ^ 10 := Nat.pow_le_pow_right (by decide) (by omega)
      have l3 := List.length_filter_le (fun l : List Nat => decide (l.length < t)) (accS t j)
      refine ⟨[.fz (.int (n : Nat)), .fz (.int (t : Nat)), .fz (.list ((accS t j).map fun l => natsD l)), .fz (.int (j : Nat)), .no], _, rfl, ?_, _, .inl rfl, .fz (.int (j : Nat)), rfl⟩
      have e : dLc (iSeq (vR 2)) (gN 4) (b2 ltI (d1 lenD (vR 4)) (vR 1)) (mkL (lStar (vR 4) (lCons (vR 3) lNil))) [4] [.fz (.int (n : Nat)), .fz (.int (t : Nat)), .fz (.list ((accS t j).map fun l => natsD l)), .fz (.int (j : Nat)), .no] = some (.list ((((accS t j).filter fun l => decide (l.length < t)).map fun l => l ++ [j]).map fun l => natsD l)) := by
        refine dLc_of rfl (lcL_enc (fun l => natsD l) (fun l => natsD l) (fun l => decide (l.length < t)) (fun l => l ++ [j]) (accS t j) fun l hl => ⟨_, rfl, ?_, fun _ => ?_⟩) (by rw [List.length_map, List.length_map]; omega)
        · simp [wipeE]
        · have ⟨h1, h2, h3⟩ := mem_accS.mp hl
          have h4 : l.length ≤ j := by
            have := List.Nodup.length_le_of_subset (l₁ := l) (l₂ := List.range j) (h1.imp fun {a b} h => by omega) fun x hx => List.mem_range.mpr (h2 x hx)
            rwa [List.length_range] at this
          have hb : (l.map fun i => PyData.int ((i : Nat) : Int)).length + 1 ≤ 1000000 := by rw [List.length_map]; omega
          simp only [wipeE, mkL_s, lStar_s, lCons_s, lNil_s, vR_s, List.set_cons_zero, List.set_cons_succ, List.getElem?_cons_zero, List.getElem?_cons_succ, Option.bind_some, seqOf_l, List.length_append, List.length_cons, List.length_nil, hb, if_true, Nat.zero_add, List.map_append, List.map_cons, List.map_nil, natsD]
      have hb : ((accS t j).map fun l => natsD l).length + ((((accS t j).filter fun l => decide (l.length < t)).map fun l => l ++ [j]).map fun l => natsD l).length ≤ 1000000 := by
        rw [List.length_map, List.length_map, List.length_map]
        omega
      rw [sSet_s]
      simp only [d2_s, e, vR_s, List.getElem?_cons_zero, List.getElem?_cons_succ, Option.bind_some, addD_l, hb, if_true, List.set_cons_zero, List.set_cons_succ]
      rw [accS, List.map_append])
  rw [List.length_map, List.length_range] at g2
  obtain ⟨s3, rfl⟩ := g2
  have l1 := accS_len t n
  have l2 : 2 ^ n ≤ 2 ^ 10 := Nat.pow_le_pow_right (by decide) (by omega)
  have l3 := List.length_filter_le (fun l : List Nat => decide (l.length = t)) (accS t n)
  have e : dLc (iSeq (vR 2)) (gN 4) (b2 eqD (d1 lenD (vR 4)) (vR 1)) (vR 4) [4] [.fz (.int (n : Nat)), .fz (.int (t : Nat)), .fz (.list ((accS t n).map fun l => natsD l)), s3, .no] = some (.list (((accS t n).filter fun l => decide (l.length = t)).map fun l => natsD l)) := by
    have := lcL_enc (fun l => natsD l) (fun l => natsD l) (fun l => decide (l.length = t)) (fun l => l) (accS t n) (g := gN 4) (ft := b2 eqD (d1 lenD (vR 4)) (vR 1)) (fe := vR 4) (ρ := wipeE [.fz (.int (n : Nat)), .fz (.int (t : Nat)), .fz (.list ((accS t n).map fun l => natsD l)), s3, .no] [4]) fun l hl => ⟨_, rfl, by
      simp only [wipeE, b2_s, d1_s, vR_s, List.set_cons_zero, List.set_cons_succ, List.getElem?_cons_zero, List.getElem?_cons_succ, Option.bind_some, lenN, eqD_i]
      congr 1
      rw [Bool.eq_iff_iff, decide_eq_true_eq, decide_eq_true_eq]
      omega, fun _ => rfl⟩
    rw [List.map_id'] at this
    exact dLc_of rfl this (by rw [List.length_map]; omega)
  have hs := sort_data ((accS t n).filter fun l => decide (l.length = t)) (by show (0 + 1 : Nat) ≤ 64; decide) (by omega) (.inr fun x _ => rfl)
  unfold Cm.f_subsets Cm.D_subsets
  rw [runX_s]
  rw [show env0 5 [.int (n : Nat), .int (t : Nat)] = [.fz (.int (n : Nat)), .fz (.int (t : Nat)), .no, .no, .no] from rfl]
  rw [sSeq_nx (ρ' := [.fz (.int (n : Nat)), .fz (.int (t : Nat)), .fz (.list ((accS t 0).map fun l => natsD l)), .no, .no]) (by simp [accS])]
  rw [sSeq_nx g1]
  rw [sRet_s, d1_s, e]
  have hs' : sortD (.list (((accS t n).filter fun l => decide (l.length = t)).map fun l => natsD l)) = some (.list ((subs n t).map fun l => natsD l)) := hs
  rw [Option.bind_some, hs']
  rfl
theorem subs_len (n t : Nat) : (subs n t).length ≤ 2 ^ n := by
  unfold subs
  rw [List.length_mergeSort]
  exact Nat.le_trans (List.length_filter_le _ _) (accS_len t n)
theorem pow_bound {T : List Nat} : ∀ {ss : List Nat}, (∀ s ∈ ss, s ≤ 5) → ss.prod ≤ 5 ^ ss.length
  | [], _ => by simp
  | s :: ss, h => by
    rw [List.prod_cons, List.length_cons, Nat.pow_succ, Nat.mul_comm]
    exact Nat.mul_le_mul (pow_bound (T := T) fun z hz => h z (List.mem_cons_of_mem _ hz)) (h s List.mem_cons_self)
theorem szAt_mem {ss T : List Nat} (hT : ∀ f ∈ T, f < ss.length) : ∀ s ∈ szAt ss T, s ∈ ss := fun s hs => by
  obtain ⟨f, hf, rfl⟩ := List.mem_map.mp hs
  rw [List.getD_eq_getElem?_getD, List.getElem?_eq_getElem (hT f hf)]
  exact List.getElem_mem _
theorem flat_len {α β : Type} {e : α → List β} {k : Nat} : ∀ {xs : List α}, (∀ x ∈ xs, (e x).length ≤ k) → (xs.flatMap e).length ≤ xs.length * k
  | [], _ => by simp
  | x :: xs, h => by
    rw [List.flatMap_cons, List.length_append, List.length_cons, Nat.succ_mul]
    have := flat_len (xs := xs) fun y hy => h y (List.mem_cons_of_mem _ hy)
    have := h x List.mem_cons_self
    omega
theorem sgs_len {ss : List Nat} {t : Nat} (h : SzOk ss) (h3 : t ≤ 3) : (sgs ss t).length ≤ 8000 := by
  have h6 := h.l6
  refine Nat.le_trans (flat_len (k := 125) fun T hT => ?_) ?_
  · rw [List.length_map, rows_len]
    obtain ⟨_, h1, h2⟩ := mem_subs.mp hT
    refine Nat.le_trans (pow_bound (T := T) fun s hs => h.hi s (szAt_mem h1 s hs)) ?_
    rw [szAt_len, h2]
    exact Nat.pow_le_pow_right (by decide) h3
  · have := subs_len ss.length t
    have : 2 ^ ss.length ≤ 2 ^ 6 := Nat.pow_le_pow_right (by decide) h6
    omega
theorem zip_sg {T l : List Nat} (h : T.length = l.length) : sgD (T.zip l) = .tuple [natsD T, runD l] := by
  unfold sgD
  rw [zip_fst h, zip_snd h]
theorem sights_loop {ss : List Nat} {t : Nat} (h : SzOk ss) (h3 : t ≤ 3) (x : Slot) : ∀ (Ts : List (List Nat)) (acc : List (List (Nat × Nat))) (s3 : Slot), (∀ T ∈ Ts, (∀ f ∈ T, f < ss.length) ∧ T.length = t) → acc.length + Ts.length * 125 ≤ 100000 →
    ∃ s3', forL (gN 3) (sExt 2 (dLc (iSeq (dCall (lCons (dLc (iSeq (vR 3)) (gN 5) bYes (d2 ixD (vR 0) (vR 5)) [5]) lNil) Cm.f_all_levels)) (gN 4) bYes (mkT (lCons (vR 3) (lCons (vR 4) lNil))) [4])) (Ts.map fun l => natsD l) [.fz (natsD ss), x, .ow (sgsD acc), s3, .no, .no] =
      some (.nx [.fz (natsD ss), x, .ow (sgsD (acc ++ Ts.flatMap fun T => (rows (szAt ss T)).map fun l => T.zip l)), s3', .no, .no])
  | [], acc, s3, _, _ => ⟨s3, by simp [forL]⟩
  | T :: Ts, acc, s3, hT, hl => by
    obtain ⟨t1, t2⟩ := hT T List.mem_cons_self
    have hsz : ∀ s ∈ szAt ss T, s ∈ ss := szAt_mem t1
    have hp : (szAt ss T).prod ≤ 125 := by
      refine Nat.le_trans (pow_bound (T := T) fun s hs => h.hi s (hsz s hs)) ?_
      rw [szAt_len, t2]
      exact Nat.pow_le_pow_right (by decide) h3
    have hal := all_levels_ok (ss := szAt ss T) (fun s hs => ⟨by have := h.lo s (hsz s hs); omega, by have := h.hi s (hsz s hs); omega⟩) (by rw [szAt_len]; omega) (by omega)
    have hrl : (rows (szAt ss T)).length ≤ 125 := by rw [rows_len]; exact hp
    rw [List.length_cons] at hl
    obtain ⟨s3', ih⟩ := sights_loop h h3 x Ts (acc ++ (rows (szAt ss T)).map fun l => T.zip l) (.fz (natsD T)) (fun U hU => hT U (List.mem_cons_of_mem _ hU)) (by rw [List.length_append, List.length_map]; omega)
    refine ⟨s3', ?_⟩
    have e1 : dLc (iSeq (vR 3)) (gN 5) bYes (d2 ixD (vR 0) (vR 5)) [5] [.fz (natsD ss), x, .ow (sgsD acc), .fz (natsD T), .no, .no] = some (natsD (szAt ss T)) := by
      have : natsD (szAt ss T) = .list (T.map fun f => .int ((ss.getD f 0 : Nat) : Int)) := by
        unfold natsD szAt
        rw [List.map_map]
        rfl
      rw [this]
      refine dLc_map (fun f => .int ((f : Nat) : Int)) (fun f => .int ((ss.getD f 0 : Nat) : Int)) T rfl (fun f hf => ⟨_, rfl, ?_⟩) (by omega)
      have := nats_at (t1 f hf)
      simp only [wipeE, d2_s, vR_s, List.set_cons_zero, List.set_cons_succ, List.getElem?_cons_zero, List.getElem?_cons_succ, Option.bind_some, this]
    have e2 : dLc (iSeq (dCall (lCons (dLc (iSeq (vR 3)) (gN 5) bYes (d2 ixD (vR 0) (vR 5)) [5]) lNil) Cm.f_all_levels)) (gN 4) bYes (mkT (lCons (vR 3) (lCons (vR 4) lNil))) [4] [.fz (natsD ss), x, .ow (sgsD acc), .fz (natsD T), .no, .no] = some (sgsD ((rows (szAt ss T)).map fun l => T.zip l)) := by
      have e : sgsD ((rows (szAt ss T)).map fun l => T.zip l) = .list ((rows (szAt ss T)).map fun l => .tuple [natsD T, runD l]) := by
        unfold sgsD
        rw [List.map_map]
        congr 1
        refine List.map_congr_left fun l hl => ?_
        have hlen : T.length = l.length := by rw [(mem_rows.mp hl).len, szAt_len]
        exact zip_sg hlen
      rw [e]
      refine dLc_map runD (fun l => .tuple [natsD T, runD l]) (rows (szAt ss T)) (by
        simp only [iSeq_s, dCall_s, lCons_s, lNil_s, e1, Option.bind_some, hal, seqOf_l]) (fun l hl => ⟨_, rfl, ?_⟩) (by omega)
      simp only [wipeE, mkT_s, lCons_s, lNil_s, vR_s, List.set_cons_zero, List.set_cons_succ, List.getElem?_cons_zero, List.getElem?_cons_succ, Option.bind_some, List.length_cons, List.length_nil]
      rfl
    rw [List.map_cons, forL]
    have hb : (acc.map sgD).length + (((rows (szAt ss T)).map fun l => T.zip l).map sgD).length ≤ 1000000 := by
      rw [List.length_map, List.length_map, List.length_map]
      omega
    simp only [gN_s, sExt_s, List.set_cons_zero, List.set_cons_succ, e2, Option.bind_some, listOf, owL_s, List.getElem?_cons_zero, List.getElem?_cons_succ, hb, if_true]
    rw [← List.map_append, ih, List.flatMap_cons, List.append_assoc]
theorem sights_of_ok {ss : List Nat} {t : Nat} (h : SzOk ss) (h3 : t ≤ 3) : Cm.f_sights_of [natsD ss, .int (t : Nat)] = some (sgsD (sgs ss t)) := by
  have h6 := h.l6
  have hsub := subsets_ok (n := ss.length) (t := t) (by omega)
  have := subs_len ss.length t
  have : 2 ^ ss.length ≤ 2 ^ 6 := Nat.pow_le_pow_right (by decide) h6
  obtain ⟨s3', hl⟩ := sights_loop h h3 (.fz (.int (t : Nat))) (subs ss.length t) [] .no (fun T hT => (mem_subs.mp hT).2) (by simp; omega)
  unfold Cm.f_sights_of Cm.D_sights_of
  rw [runX_s]
  rw [show env0 6 [natsD ss, .int (t : Nat)] = [.fz (natsD ss), .fz (.int (t : Nat)), .no, .no, .no, .no] from rfl]
  rw [sSeq_nx (ρ' := [.fz (natsD ss), .fz (.int (t : Nat)), .ow (sgsD []), .no, .no, .no]) (by simp)]
  rw [sSeq_nx (ρ' := [.fz (natsD ss), .fz (.int (t : Nat)), .ow (sgsD (sgs ss t)), s3', .no, .no]) (by
    unfold sFor
    have hi : iSeq (dCall (lCons (d1 lenD (vR 0)) (lCons (vR 1) lNil)) Cm.f_subsets) [.fz (natsD ss), .fz (.int (t : Nat)), .ow (sgsD []), .no, .no, .no] = some ((subs ss.length t).map fun l => natsD l) := by
      simp only [iSeq_s, dCall_s, lCons_s, lNil_s, d1_s, vR_s, List.getElem?_cons_zero, List.getElem?_cons_succ, Option.bind_some, lenN, hsub, seqOf_l]
    rw [hi, Option.bind_some, hl]
    rfl)]
  simp
theorem any_ok {r : Slot} {ss : List Nat} {rs : List (List Nat)} {P : List (Nat × Nat)} (hr : ∀ r ∈ rs, ∀ p ∈ P, p.1 < r.length) (hl : rs.length ≤ 100000) (hP : P.length ≤ 1000) (s1 s2 : Slot) : b1 truD (d1 anyD (dLc (iSeq (vR 0)) (gN 4) bYes (dCall (lCons (vR 4) (lCons (vR 3) lNil)) Cm.f_has) [4])) [.fz (runsD rs), s1, s2, .fz (sgD P), .no] = some (rs.any fun r => hasP r P) := by
  have e : dLc (iSeq (vR 0)) (gN 4) bYes (dCall (lCons (vR 4) (lCons (vR 3) lNil)) Cm.f_has) [4] [.fz (runsD rs), s1, s2, .fz (sgD P), .no] = some (.list (rs.map fun r => .bool (hasP r P))) := by
    refine dLc_map runD (fun r => .bool (hasP r P)) rs rfl (fun r hrm => ⟨_, rfl, ?_⟩) (by omega)
    have := has_ok (hr r hrm) hP
    simp only [wipeE, dCall_s, lCons_s, lNil_s, vR_s, List.set_cons_zero, List.set_cons_succ, List.getElem?_cons_zero, List.getElem?_cons_succ, Option.bind_some, this]
  have e2 : (rs.map fun r => PyData.bool (hasP r P)) = (rs.map fun r => hasP r P).map .bool := by rw [List.map_map]; rfl
  rw [b1_s, d1_s, e, Option.bind_some, e2]
  simp only [anyD, bools_map, Option.bind_some, truD_b, List.any_map]
  rfl
theorem missing_of_ok {ss : List Nat} {rs : List (List Nat)} {t : Nat} (h : SzOk ss) (hr : ∀ r ∈ rs, RowOk ss r) (hrl : rs.length ≤ 10000) (h3 : t ≤ 3) : Cm.f_missing_of [runsD rs, natsD ss, .int (t : Nat)] = some (sgsD (miss rs ss t)) := by
  have hs := sights_of_ok h h3
  have hl := sgs_len h h3
  have e : dLc (iSeq (dCall (lCons (vR 1) (lCons (vR 2) lNil)) Cm.f_sights_of)) (gN 3) (bNot (b1 truD (d1 anyD (dLc (iSeq (vR 0)) (gN 4) bYes (dCall (lCons (vR 4) (lCons (vR 3) lNil)) Cm.f_has) [4])))) (vR 3) [3] [.fz (runsD rs), .fz (natsD ss), .fz (.int (t : Nat)), .no, .no] = some (sgsD (miss rs ss t)) := by
    have := lcL_enc sgD sgD (fun P => !(rs.any fun r => hasP r P)) (fun P => P) (sgs ss t) (g := gN 3) (ft := bNot (b1 truD (d1 anyD (dLc (iSeq (vR 0)) (gN 4) bYes (dCall (lCons (vR 4) (lCons (vR 3) lNil)) Cm.f_has) [4])))) (fe := vR 3) (ρ := wipeE [.fz (runsD rs), .fz (natsD ss), .fz (.int (t : Nat)), .no, .no] [3]) fun P hP => by
      have hS := mem_sgs.mp hP
      have ha := any_ok (r := .no) (ss := ss) (rs := rs) (P := P) (fun r hrm p hp => by rw [(hr r hrm).len]; exact (hS.ok p hp).1) (by omega) (by rw [hS.len]; omega) (.fz (natsD ss)) (.fz (.int (t : Nat)))
      refine ⟨_, rfl, ?_, fun _ => rfl⟩
      simp only [wipeE, bNot_s, List.set_cons_zero, List.set_cons_succ, ha, Option.bind_some]
    rw [List.map_id'] at this
    refine dLc_of (by simp only [iSeq_s, dCall_s, lCons_s, lNil_s, vR_s, List.getElem?_cons_zero, List.getElem?_cons_succ, Option.bind_some, hs, seqOf_l]) this ?_
    rw [List.length_map]
    have : (miss rs ss t).length ≤ (sgs ss t).length := List.length_filter_le _ _
    omega
  unfold Cm.f_missing_of Cm.D_missing_of
  rw [runX_s]
  rw [show env0 5 [runsD rs, natsD ss, .int (t : Nat)] = [.fz (runsD rs), .fz (natsD ss), .fz (.int (t : Nat)), .no, .no] from rfl]
  rw [sRet_s, e]
  rfl
theorem missing_ok {ss : List Nat} {rs : List (List Nat)} {t : Nat} (h : SzOk ss) (hr : ∀ r ∈ rs, RowOk ss r) (hrl : rs.length ≤ 64) (h1 : 1 ≤ t) (h3 : t ≤ 3) (hl : t ≤ ss.length) : Cm.f_missing [runsD rs, natsD ss, .int (t : Nat)] = some (sgsD (miss rs ss t)) := by
  have c1 := check_covering_ok h hr hrl h1 h3 hl
  have c2 := missing_of_ok h hr (by omega) h3
  unfold Cm.f_missing Cm.D_missing
  simp only [runX_s, env0_s, sSeq_s, sDrop_s, sRet_s, dCall_s, lCons_s, lNil_s, vR_s, List.map_cons, List.map_nil, List.cons_append, List.nil_append, List.getElem?_cons_zero, List.getElem?_cons_succ, Option.bind_some, c1, c2]
end Zx
/-! U3: rows that have sights; the floor. -/
namespace Zx
open PySem PySem.Spec L2 PySem.W
def lift (Q : List (Nat × Nat)) : List (Nat × Nat) := Q.map fun p => (p.1 + 1, p.2)
theorem lift_down {P : List (Nat × Nat)} (h : ∀ p ∈ P, 1 ≤ p.1) : P = lift (P.map fun p => (p.1 - 1, p.2)) := by
  unfold lift
  rw [List.map_map]
  refine (List.map_id P).symm.trans (List.map_congr_left fun p hp => ?_)
  have := h p hp
  show p = (p.1 - 1 + 1, p.2)
  rw [Nat.sub_add_cancel this]
theorem down_isS {s : Nat} {ss : List Nat} {P : List (Nat × Nat)} (h : ∀ p ∈ P, 1 ≤ p.1) (h1 : P.Pairwise fun p q => p.1 < q.1) (h2 : ∀ p ∈ P, p.1 < (s :: ss).length ∧ p.2 < (s :: ss).getD p.1 0) : IsS ss P.length (P.map fun p => (p.1 - 1, p.2)) := by
  refine ⟨?_, by rw [List.length_map], fun q hq => ?_⟩
  · rw [List.pairwise_map]
    refine List.Pairwise.imp_of_mem (fun {a b} ha hb hab => ?_) h1
    have := h a ha
    have := h b hb
    show a.1 - 1 < b.1 - 1
    omega
  · obtain ⟨p, hp, rfl⟩ := List.mem_map.mp hq
    have a1 := h p hp
    obtain ⟨a2, a3⟩ := h2 p hp
    rw [List.length_cons] at a2
    refine ⟨by show p.1 - 1 < ss.length; omega, ?_⟩
    show p.2 < ss.getD (p.1 - 1) 0
    obtain ⟨k, hk⟩ : ∃ k, p.1 = k + 1 := ⟨p.1 - 1, by omega⟩
    rw [hk] at a3 ⊢
    simpa using a3
theorem isS_cons {s : Nat} {ss : List Nat} {t : Nat} {P : List (Nat × Nat)} (h : IsS (s :: ss) t P) : (∃ Q, P = lift Q ∧ IsS ss t Q) ∨ ∃ l Q t', t = t' + 1 ∧ P = (0, l) :: lift Q ∧ l < s ∧ IsS ss t' Q := by
  obtain ⟨h1, h2, h3⟩ := h
  cases P with
  | nil =>
    left
    exact ⟨[], rfl, ⟨List.Pairwise.nil, h2, fun p hp => by cases hp⟩⟩
  | cons p P =>
    rw [List.pairwise_cons] at h1
    obtain ⟨h4, h5⟩ := h1
    by_cases hp : p.1 = 0
    · right
      have hq : ∀ q ∈ P, 1 ≤ q.1 := fun q hq => by have := h4 q hq; omega
      refine ⟨p.2, P.map fun p => (p.1 - 1, p.2), P.length, by simpa using h2.symm, ?_, ?_, down_isS hq h5 fun q hq => h3 q (List.mem_cons_of_mem _ hq)⟩
      · rw [← lift_down hq]
        congr 1
        rw [← hp]
      · have := (h3 p List.mem_cons_self).2
        rw [hp] at this
        simpa using this
    · left
      have hq : ∀ q ∈ p :: P, 1 ≤ q.1 := fun q hq => by
        rw [List.mem_cons] at hq
        rcases hq with rfl | hq
        · omega
        · have := h4 q hq
          omega
      refine ⟨(p :: P).map fun p => (p.1 - 1, p.2), lift_down hq, ?_⟩
      have := down_isS (P := p :: P) hq (List.pairwise_cons.mpr ⟨h4, h5⟩) h3
      rwa [h2] at this
theorem hasP_lift (x : Nat) (r : List Nat) (Q : List (Nat × Nat)) : hasP (x :: r) (lift Q) = hasP r Q := by
  unfold hasP lift
  rw [List.all_map]
  rfl
theorem hasP_zero (x : Nat) (r : List Nat) (l : Nat) (Q : List (Nat × Nat)) : hasP (x :: r) ((0, l) :: lift Q) = (x == l && hasP r Q) := by
  rw [← hasP_lift x r Q]
  rfl
theorem sz_lift (s : Nat) (ss : List Nat) (Q : List (Nat × Nat)) : szAt (s :: ss) ((lift Q).map (·.1)) = szAt ss (Q.map (·.1)) := by
  unfold szAt lift
  rw [List.map_map, List.map_map, List.map_map]
  rfl
/-- each sight is in a row -/
theorem row_of : ∀ {ss : List Nat} {t : Nat} {P : List (Nat × Nat)}, (∀ s ∈ ss, 1 ≤ s) → IsS ss t P → ∃ r, RowOk ss r ∧ hasP r P = true
  | [], t, P, _, h => by
    refine ⟨[], trivial, ?_⟩
    cases P with
    | nil => rfl
    | cons p P => exact absurd (h.ok p List.mem_cons_self).1 (by simp)
  | s :: ss, t, P, hp, h => by
    have hp' : ∀ z ∈ ss, 1 ≤ z := fun z hz => hp z (List.mem_cons_of_mem _ hz)
    rcases isS_cons h with ⟨Q, rfl, hQ⟩ | ⟨l, Q, t', _, rfl, hl, hQ⟩
    · obtain ⟨r, h1, h2⟩ := row_of hp' hQ
      exact ⟨0 :: r, ⟨hp s List.mem_cons_self, h1⟩, by rw [hasP_lift]; exact h2⟩
    · obtain ⟨r, h1, h2⟩ := row_of hp' hQ
      exact ⟨l :: r, ⟨hl, h1⟩, by rw [hasP_zero, h2]; simp⟩
/-- the sizes of a sight's factors are some of the sizes -/
theorem sz_sub : ∀ {ss : List Nat} {t : Nat} {P : List (Nat × Nat)}, IsS ss t P → (szAt ss (P.map (·.1))).Sublist ss
  | [], t, P, h => by
    cases P with
    | nil => exact List.Sublist.refl _
    | cons p P => exact absurd (h.ok p List.mem_cons_self).1 (by simp)
  | s :: ss, t, P, h => by
    rcases isS_cons h with ⟨Q, rfl, hQ⟩ | ⟨l, Q, t', _, rfl, hl, hQ⟩
    · rw [sz_lift]
      exact (sz_sub hQ).cons _
    · have := sz_lift s ss Q
      show List.Sublist (s :: szAt (s :: ss) ((lift Q).map (·.1))) (s :: ss)
      rw [this]
      exact (sz_sub hQ).cons_cons _
theorem range_sum (s y k : Nat) : (if y < s then k else 0) = ((List.range s).map fun x => if x = y then k else 0).sum := by
  induction s with
  | zero => simp
  | succ s ih =>
    rw [List.range_succ, List.map_append, List.sum_append, ← ih]
    simp
    by_cases h1 : y < s
    · rw [if_pos h1, if_pos (by omega), if_neg (by omega)]
      rfl
    · rw [if_neg h1]
      by_cases h2 : s = y
      · rw [if_pos (by omega), if_pos h2]
        omega
      · rw [if_neg (by omega), if_neg h2]
/-- how many rows have a sight -/
theorem rows_have : ∀ {ss : List Nat} {t : Nat} {P : List (Nat × Nat)}, IsS ss t P → ((rows ss).filter fun r => hasP r P).length * (szAt ss (P.map (·.1))).prod = (rows ss).length
  | [], t, P, h => by
    cases P with
    | nil => rfl
    | cons p P => exact absurd (h.ok p List.mem_cons_self).1 (by simp)
  | s :: ss, t, P, h => by
    have ef : (rows (s :: ss)).length = s * (rows ss).length := by rw [rows_len, rows_len, List.prod_cons]
    rw [ef]
    have e : ∀ (f : Nat → Bool) (Q : List (Nat × Nat)), (∀ x r, hasP (x :: r) P = (f x && hasP r Q)) → ((rows (s :: ss)).filter fun r => hasP r P).length = ((List.range s).map fun x => if f x then ((rows ss).filter fun r => hasP r Q).length else 0).sum := fun f Q hf => by
      rw [rows, List.filter_flatMap, List.length_flatMap]
      congr 1
      refine List.map_congr_left fun x _ => ?_
      rw [List.filter_map, List.length_map]
      have : ((fun r => hasP r P) ∘ fun r => x :: r) = fun r => f x && hasP r Q := by
        funext r
        exact hf x r
      rw [this]
      cases hx : f x with
      | true => simp
      | false => simp
    rcases isS_cons h with ⟨Q, rfl, hQ⟩ | ⟨l, Q, t', _, rfl, hl, hQ⟩
    · rw [e (fun _ => true) Q (fun x r => by rw [hasP_lift]; rfl), sz_lift, ← rows_have hQ]
      simp [List.map_const', List.sum_replicate_nat, Nat.mul_assoc]
    · rw [e (fun x => x == l) Q (fun x r => hasP_zero x r l Q)]
      have e2 : ((List.range s).map fun x => if (x == l) = true then ((rows ss).filter fun r => hasP r Q).length else 0) = (List.range s).map fun x => if x = l then ((rows ss).filter fun r => hasP r Q).length else 0 := by
        refine List.map_congr_left fun x _ => ?_
        by_cases hx : x = l
        · rw [if_pos hx, if_pos (by simpa using hx)]
        · rw [if_neg hx, if_neg (by simpa using hx)]
      rw [e2, ← range_sum, if_pos hl, ← rows_have hQ]
      show _ * (s :: szAt (s :: ss) ((lift Q).map (·.1))).prod = _
      rw [sz_lift, List.prod_cons]
      exact Nat.mul_left_comm _ _ _
/-! the floor -/
def flo (ss : List Nat) (t : Nat) : Nat := ((ss.mergeSort leB).drop (ss.length - t)).prod
theorem take_prod_mono : ∀ (L A B : List Nat), (A ++ B).Perm L → L.Pairwise (fun a b => b ≤ a) → A.prod ≤ (L.take A.length).prod
  | [], A, B, h, _ => by
    have := h.length_eq
    rw [List.length_append, List.length_nil] at this
    have : A = [] := List.length_eq_zero_iff.mp (by omega)
    subst this
    simp
  | x :: L, [], B, h, hL => by simp
  | x :: L, a :: A, B, h, hL => by
    rw [List.pairwise_cons] at hL
    obtain ⟨h1, h2⟩ := hL
    by_cases hx : x ∈ a :: A
    · have p := List.perm_cons_erase hx
      have q : (((a :: A).erase x) ++ B).Perm L := by
        have : (x :: ((a :: A).erase x ++ B)).Perm (x :: L) := ((p.append_right B).symm).trans h
        exact List.Perm.cons_inv this
      have ih := take_prod_mono L ((a :: A).erase x) B q h2
      have hl : ((a :: A).erase x).length = A.length := by rw [List.length_erase_of_mem hx]; rfl
      rw [hl] at ih
      rw [p.prod_nat, List.prod_cons, List.length_cons, List.take_succ_cons, List.prod_cons]
      exact Nat.mul_le_mul_left _ ih
    · have hxB : x ∈ B := by
        have : x ∈ (a :: A) ++ B := h.mem_iff.mpr List.mem_cons_self
        rcases List.mem_append.mp this with z | z
        · exact absurd z hx
        · exact z
      have p := List.perm_cons_erase hxB
      have q : (A ++ (a :: B.erase x)).Perm L := by
        have : (x :: (A ++ (a :: B.erase x))).Perm (x :: L) := by
          refine List.Perm.trans ?_ h
          have e1 : (A ++ (a :: B.erase x)).Perm (a :: (A ++ B.erase x)) := List.perm_middle
          have e2 : (A ++ B).Perm (x :: (A ++ B.erase x)) := (p.append_left A).trans List.perm_middle
          exact (e1.cons x).trans ((List.Perm.swap a x _).trans (e2.symm.cons a))
        exact List.Perm.cons_inv this
      have ih := take_prod_mono L A (a :: B.erase x) q h2
      have ha : a ≤ x := by
        have : a ∈ x :: L := h.mem_iff.mp (by simp)
        rcases List.mem_cons.mp this with rfl | z
        · exact Nat.le_refl _
        · exact h1 a z
      rw [List.prod_cons, List.length_cons, List.take_succ_cons, List.prod_cons]
      exact Nat.mul_le_mul ha ih
theorem leB_nat (a b : Nat) : leB a b = true ↔ a ≤ b := by
  have : leB a b = !decide (b < a) := rfl
  rw [this]
  simp
theorem flo_top {ss A : List Nat} {t : Nat} (h : A.Sublist ss) (ht : A.length = t) : A.prod ≤ flo ss t := by
  obtain ⟨B, hB⟩ := h.exists_perm_append
  have p : (A ++ B).Perm (ss.mergeSort leB).reverse := hB.symm.trans ((List.mergeSort_perm ss leB).symm.trans (List.reverse_perm _).symm)
  have := take_prod_mono (ss.mergeSort leB).reverse A B p (by
    rw [List.pairwise_reverse]
    exact (sort_up ss).imp fun {a b} h => (leB_nat _ _).mp h)
  refine Nat.le_trans this ?_
  rw [List.take_reverse, List.length_mergeSort, ht, (List.reverse_perm _).prod_nat]
  exact Nat.le_refl _
theorem flo_perm {ss ss' : List Nat} {t : Nat} (h : ss.Perm ss') : flo ss t = flo ss' t := by
  unfold flo
  have : ss.mergeSort leB = ss'.mergeSort leB := up_uniq ((List.mergeSort_perm ss leB).trans (h.trans (List.mergeSort_perm ss' leB).symm)) (sort_up ss) (sort_up ss')
  rw [this, h.length_eq]
theorem sub_of_perm : ∀ (L X Y : List Nat), (X ++ Y).Perm L → ∃ X' : List Nat, X'.Sublist L ∧ X'.Perm X
  | [], X, Y, h => by
    have := h.length_eq
    rw [List.length_append, List.length_nil] at this
    have : X = [] := List.length_eq_zero_iff.mp (by omega)
    subst this
    exact ⟨[], List.Sublist.refl _, List.Perm.refl _⟩
  | z :: L, X, Y, h => by
    by_cases hx : z ∈ X
    · have p := List.perm_cons_erase hx
      have q : (X.erase z ++ Y).Perm L := List.Perm.cons_inv (((p.append_right Y).symm).trans h)
      obtain ⟨X', h1, h2⟩ := sub_of_perm L _ _ q
      exact ⟨z :: X', h1.cons_cons z, (h2.cons z).trans p.symm⟩
    · have hy : z ∈ Y := by
        rcases List.mem_append.mp (h.mem_iff.mpr List.mem_cons_self) with w | w
        · exact absurd w hx
        · exact w
      have p := List.perm_cons_erase hy
      have q : (X ++ Y.erase z).Perm L := List.Perm.cons_inv ((((p.append_left X).trans List.perm_middle).symm).trans h)
      obtain ⟨X', h1, h2⟩ := sub_of_perm L _ _ q
      exact ⟨X', h1.cons z, h2⟩
theorem sub_at : ∀ {ss X : List Nat}, X.Sublist ss → ∃ T, Asc T ∧ (∀ f ∈ T, f < ss.length) ∧ szAt ss T = X := fun {ss X} h => by
  induction h with
  | slnil => exact ⟨[], List.Pairwise.nil, (fun f hf => by cases hf), rfl⟩
  | cons a h ih =>
    obtain ⟨T, h1, h2, h3⟩ := ih
    refine ⟨T.map (· + 1), ?_, ?_, ?_⟩
    · unfold Asc
      rw [List.pairwise_map]
      exact h1.imp fun {a b} h => by omega
    · intro f hf
      obtain ⟨g, hg, rfl⟩ := List.mem_map.mp hf
      have := h2 g hg
      rw [List.length_cons]
      omega
    · rw [← h3]
      unfold szAt
      rw [List.map_map]
      rfl
  | cons_cons a h ih =>
    obtain ⟨T, h1, h2, h3⟩ := ih
    refine ⟨0 :: T.map (· + 1), ?_, ?_, ?_⟩
    · unfold Asc
      rw [List.pairwise_cons, List.pairwise_map]
      exact ⟨fun g hg => by obtain ⟨k, _, rfl⟩ := List.mem_map.mp hg; omega, h1.imp fun {a b} h => by omega⟩
    · intro f hf
      rw [List.mem_cons] at hf
      rcases hf with rfl | hf
      · rw [List.length_cons]; omega
      · obtain ⟨g, hg, rfl⟩ := List.mem_map.mp hf
        have := h2 g hg
        rw [List.length_cons]
        omega
    · rw [← h3]
      unfold szAt
      rw [List.map_cons, List.map_map]
      rfl
theorem flo_at {ss : List Nat} {t : Nat} (h : t ≤ ss.length) : ∃ T, Asc T ∧ (∀ f ∈ T, f < ss.length) ∧ T.length = t ∧ (szAt ss T).prod = flo ss t := by
  have p : ((ss.mergeSort leB).drop (ss.length - t) ++ (ss.mergeSort leB).take (ss.length - t)).Perm ss := by
    refine List.perm_append_comm.trans ?_
    rw [List.take_append_drop]
    exact List.mergeSort_perm ss leB
  obtain ⟨X, h1, h2⟩ := sub_of_perm ss _ _ p
  obtain ⟨T, h3, h4, h5⟩ := sub_at h1
  refine ⟨T, h3, h4, ?_, ?_⟩
  · have := h2.length_eq
    rw [← h5, szAt_len, List.length_drop, List.length_mergeSort] at this
    omega
  · rw [h5, h2.prod_nat]
    rfl
/-- runs that cover -/
structure Cov (rs : List (List Nat)) (left : List (List (Nat × Nat))) (c : List (List Nat)) : Prop where
  mem : ∀ r ∈ c, r ∈ rs
  cov : ∀ P ∈ left, ∃ r ∈ c, hasP r P = true
theorem flo_le {ss : List Nat} {t : Nat} {c rs : List (List Nat)} (ht : t ≤ ss.length) (h : Cov rs (sgs ss t) c) : flo ss t ≤ c.length := by
  obtain ⟨T, h1, h2, h3, h4⟩ := flo_at ht
  rw [← h4, ← rows_len, ← List.length_map (as := c) (f := fun r => T.map fun f => r.getD f 0)]
  refine List.Nodup.length_le_of_subset (rows_nodup _) fun l hl => ?_
  obtain ⟨r, hr, hh⟩ := h.cov (T.zip l) (List.mem_flatMap.mpr ⟨T, mem_subs.mpr ⟨h1, h2, h3⟩, List.mem_map.mpr ⟨l, hl, rfl⟩⟩)
  have hlen : T.length = l.length := by rw [(mem_rows.mp hl).len, szAt_len]
  rw [hasP_map, zip_fst hlen, zip_snd hlen, decide_eq_true_eq] at hh
  exact List.mem_map.mpr ⟨r, hr, hh⟩
theorem sum_swap {α β : Type} (h : α → β → Bool) : ∀ (xs : List α) (ys : List β), (xs.map fun x => (ys.filter fun y => h x y).length).sum = (ys.map fun y => (xs.filter fun x => h x y).length).sum
  | [], ys => by
    simp [List.map_const', List.sum_replicate_nat]
  | x :: xs, ys => by
    rw [List.map_cons, List.sum_cons, sum_swap h xs ys]
    induction ys with
    | nil => simp
    | cons y ys ih =>
      rw [List.map_cons, List.map_cons, List.sum_cons, List.sum_cons, ← ih, List.filter_cons, List.filter_cons]
      split
      · simp only [List.length_cons]
        omega
      · omega
theorem sum_le {α : Type} {f : α → Nat} {m : Nat} : ∀ {xs : List α}, (∀ x ∈ xs, f x ≤ m) → (xs.map f).sum ≤ xs.length * m
  | [], _ => by simp
  | x :: xs, h => by
    rw [List.map_cons, List.sum_cons, List.length_cons, Nat.succ_mul]
    have := sum_le (xs := xs) fun y hy => h y (List.mem_cons_of_mem _ hy)
    have := h x List.mem_cons_self
    omega
theorem le_sum {α : Type} {f : α → Nat} {m : Nat} : ∀ {xs : List α}, (∀ x ∈ xs, m ≤ f x) → xs.length * m ≤ (xs.map f).sum
  | [], _ => by simp
  | x :: xs, h => by
    rw [List.map_cons, List.sum_cons, List.length_cons, Nat.succ_mul]
    have := le_sum (xs := xs) fun y hy => h y (List.mem_cons_of_mem _ hy)
    have := h x List.mem_cons_self
    omega
/-- the best row has its share -/
theorem avg {ss : List Nat} {t m : Nat} {left : List (List (Nat × Nat))} (hp : ∀ s ∈ ss, 1 ≤ s) (hl : ∀ P ∈ left, IsS ss t P) (hm : ∀ r ∈ rows ss, cnt left r ≤ m) : left.length ≤ m * flo ss t := by
  have h1 : ((rows ss).map fun r => cnt left r).sum ≤ (rows ss).length * m := sum_le hm
  have h2 : ((rows ss).map fun r => cnt left r).sum = (left.map fun P => ((rows ss).filter fun r => hasP r P).length).sum := sum_swap hasP (rows ss) left
  have h3 : left.length * (rows ss).length ≤ (left.map fun P => ((rows ss).filter fun r => hasP r P).length * flo ss t).sum := le_sum fun P hP => by
    have hS := hl P hP
    rw [← rows_have hS]
    exact Nat.mul_le_mul_left _ (flo_top (sz_sub hS) (by rw [szAt_len, List.length_map, hS.len]))
  have h4 : (left.map fun P => ((rows ss).filter fun r => hasP r P).length * flo ss t).sum = (left.map fun P => ((rows ss).filter fun r => hasP r P).length).sum * flo ss t := by
    clear h1 h2 h3 hl hm
    induction left with
    | nil => simp
    | cons P left ih => rw [List.map_cons, List.sum_cons, ih, List.map_cons, List.sum_cons, Nat.add_mul]
  rw [h4, ← h2] at h3
  have h5 : left.length * (rows ss).length ≤ (rows ss).length * m * flo ss t := Nat.le_trans h3 (Nat.mul_le_mul_right _ h1)
  have h6 : 0 < (rows ss).length := by
    rw [rows_len]
    exact prod_pos hp
  rw [Nat.mul_comm left.length, Nat.mul_assoc] at h5
  exact Nat.le_of_mul_le_mul_left h5 h6
end Zx
/-! U4: the walks of the floor, the next run, greedy and fewest runs. -/
namespace Zx
open PySem PySem.Spec L2 PySem.W
namespace Cm
noncomputable def D_floor_of : DenS :=
  (sRet (dCall (lCons (dSl (d1 sortD (vR 0)) (oSome (d2 subD (d1 lenD (vR 0)) (vR 1))) oNone) lNil) f_product_of))
noncomputable def f_floor_of : List D → Option D := runX D_floor_of 2
noncomputable def D_floor : DenS :=
  (sSeq (sDrop (dCall (lCons (vR 0) (lCons (vR 1) lNil)) f_check_sights))
  (sRet (dCall (lCons (vR 0) (lCons (vR 1) lNil)) f_floor_of)))
noncomputable def f_floor : List D → Option D := runX D_floor 2
noncomputable def D_next_of : DenS :=
  (sSeq (sSet 2 (dCall (lCons (vR 1) lNil) f_all_levels))
  (sSeq (sLcSet 3 false (dLc (iSeq (vR 2)) (gN 4) bYes (d1 lenD (dLc (iSeq (vR 0)) (gN 5) (b1 truD (dCall (lCons (vR 4) (lCons (vR 5) lNil)) f_has)) (vR 5) [5])) [4]))
  (sRet (d2 ixD (vR 2) (d2 indexD (vR 3) (d1 maxLD (vR 3)))))))
noncomputable def f_next_of : List D → Option D := runX D_next_of 6
noncomputable def D_next_run : DenS :=
  (sSeq (sDrop (dCall (lCons (vR 0) (lCons (vR 1) (lCons (vR 2) lNil))) f_check_covering))
  (sSeq (sSet 3 (dCall (lCons (vR 0) (lCons (vR 1) (lCons (vR 2) lNil))) f_missing_of))
  (sRet (dIf (b2 gtI (d1 lenD (vR 3)) (kD (.int 0))) (dCall (lCons (vR 3) (lCons (vR 1) lNil)) f_next_of) (kD .none)))))
noncomputable def f_next_run : List D → Option D := runX D_next_run 4
noncomputable def D_greedy : DenS :=
  (sSeq (sDrop (dCall (lCons (vR 0) (lCons (vR 1) lNil)) f_check_sights))
  (sSeq (sOwn 2 (mkL lNil))
  (sSeq (sSet 3 (dCall (lCons (vR 0) (lCons (vR 1) lNil)) f_sights_of))
  (sSeq (sWh (b2 gtI (d1 lenD (vR 3)) (kD (.int 0))) (sSeq (sSet 4 (dCall (lCons (vR 3) (lCons (vR 0) lNil)) f_next_of))
   (sSeq (sApp 2 (vR 4))
   (sLcSet 3 false (dLc (iSeq (vR 3)) (gN 5) (bNot (b1 truD (dCall (lCons (vR 4) (lCons (vR 5) lNil)) f_has))) (vR 5) [5])))))
  (sFrz 2 (sRet (vR 2)))))))
noncomputable def f_greedy : List D → Option D := runX D_greedy 6
noncomputable def D_cover_of (fr : List D → Option D) : DenS :=
  (sSeq (sIf (b2 eqD (d1 lenD (vR 0)) (kD (.int 0))) (sRet (mkL lNil)) sNx)
  (sSeq (sIf (b2 eqD (vR 2) (kD (.int 0))) (sRet (kD .none)) sNx)
  (sSeq (sFor (iSeq (vR 1)) (gN 3) (sIf (b1 truD (dCall (lCons (vR 3) (lCons (d2 ixD (vR 0) (kD (.int 0))) lNil)) f_has)) (sSeq (sSet 4 (dCall (lCons (dLc (iSeq (vR 0)) (gN 5) (bNot (b1 truD (dCall (lCons (vR 3) (lCons (vR 5) lNil)) f_has))) (vR 5) [5]) (lCons (vR 1) (lCons (d2 subD (vR 2) (kD (.int 1))) lNil))) fr))
    (sIf (b1 notN (vR 4)) (sRet (mkL (lCons (vR 3) (lStar (vR 4) lNil)))) sNx)) sNx))
  (sRet (kD .none)))))
noncomputable def f_cover_of : Nat → List D → Option D
  | 0 => fun _ => none
  | n + 1 => runX (D_cover_of (f_cover_of n)) 6
noncomputable def D_fewest : DenS :=
  (sSeq (sDrop (dCall (lCons (vR 0) (lCons (vR 1) lNil)) f_check_sights))
  (sSeq (sSet 2 (dCall (lCons (vR 0) lNil) f_all_levels))
  (sSeq (sIf (b2 gtI (d1 lenD (vR 2)) (kD (.int (12)))) sNo sNx)
  (sSeq (sSet 3 (dCall (lCons (vR 0) (lCons (vR 1) lNil)) f_floor_of))
  (sSeq (sSet 4 (dCall (lCons (dCall (lCons (vR 0) (lCons (vR 1) lNil)) f_sights_of) (lCons (vR 2) (lCons (vR 3) lNil))) (f_cover_of 16)))
  (sSeq (sWh (b1 isN (vR 4)) (sSeq (sSet 3 (d2 addD (vR 3) (kD (.int 1))))
   (sSet 4 (dCall (lCons (dCall (lCons (vR 0) (lCons (vR 1) lNil)) f_sights_of) (lCons (vR 2) (lCons (vR 3) lNil))) (f_cover_of 16)))))
  (sRet (d1 sortD (vR 4)))))))))
noncomputable def f_fewest : List D → Option D := runX D_fewest 5
end Cm
theorem sFor_of {fi : DenI} {g : DenG} {fb : DenS} {ρ : Env} {ds : List D} {o : Out} (hi : fi ρ = some ds) (h : forL g fb ds ρ = some o) : sFor fi g fb ρ = some o := by
  unfold sFor
  rw [hi]
  exact h
theorem index_ok {α : Type} [DecidableEq α] {enc : α → D} {n : Nat} (h : EncOk enc n) (hn : n + 1 ≤ 64) {a : α} {xs : List α} (ha : a ∈ xs) : indexD (.list (xs.map enc)) (enc a) = some (.int ((xs.idxOf a : Nat) : Int)) := by
  have s1 := h.shaped (by omega) a
  have s2 : SeqAt.shaped (.list (xs.map enc)) = true := (enc_list h).shaped hn xs
  have e : ∀ xs : List α, a ∈ xs → indexL (enc a) (xs.map enc) = some (xs.idxOf a) := fun xs => by
    induction xs with
    | nil => intro z; cases z
    | cons x xs ih =>
      intro hm
      rw [List.map_cons, indexL, h.eqv_of, List.idxOf_cons]
      by_cases e : x = a
      · rw [decide_eq_true e, if_pos rfl]
        simp [e]
      · rw [decide_eq_false e, if_neg (by simp), ih (by rcases List.mem_cons.mp hm with z | z; exact absurd z.symm e; exact z)]
        have : (x == a) = false := by simpa using e
        rw [this]
        rfl
  have e2 : indexD (.list (xs.map enc)) (enc a) = if SeqAt.shaped (.list (xs.map enc)) && SeqAt.shaped (enc a) then (indexL (enc a) (xs.map enc)).bind fun i => some (.int (i : Nat)) else none := rfl
  rw [e2, s1, s2, e xs ha]
  rfl
theorem foldl_maxN (is : List Nat) : ∀ i : Nat, ∃ m : Nat, (is.map fun k => ((k : Nat) : Int)).foldl max (i : Int) = (m : Int) ∧ (m = i ∨ m ∈ is) ∧ i ≤ m ∧ ∀ k ∈ is, k ≤ m := by
  induction is with
  | nil => exact fun i => ⟨i, rfl, .inl rfl, Nat.le_refl _, fun k hk => by cases hk⟩
  | cons k is ih =>
    intro i
    obtain ⟨m, h1, h2, h3, h4⟩ := ih (max i k)
    refine ⟨m, ?_, ?_, by omega, fun j hj => ?_⟩
    · rw [List.map_cons, List.foldl_cons, ← h1]
      congr 1
      omega
    · rcases h2 with h2 | h2
      · by_cases hik : i ≤ k
        · right
          rw [h2, Nat.max_eq_right hik]
          exact List.mem_cons_self
        · left
          omega
      · exact .inr (List.mem_cons_of_mem _ h2)
    · rcases List.mem_cons.mp hj with rfl | hj
      · omega
      · exact h4 j hj
theorem maxL_ok {is : List Nat} (h : is ≠ []) : ∃ m ∈ is, maxLD (.list (is.map fun k => .int ((k : Nat) : Int))) = some (.int (m : Int)) ∧ ∀ k ∈ is, k ≤ m := by
  cases is with
  | nil => exact absurd rfl h
  | cons i is =>
    obtain ⟨m, h1, h2, h3, h4⟩ := foldl_maxN is i
    refine ⟨m, List.mem_cons.mpr h2, ?_, fun k hk => ?_⟩
    · have e : ((i :: is).map fun k => PyData.int ((k : Nat) : Int)) = ((i :: is).map fun k => ((k : Nat) : Int)).map .int := by rw [List.map_map]; rfl
      have e2 : maxLD (.list ((i :: is).map fun k => PyData.int ((k : Nat) : Int))) = (intsOf ((i :: is).map fun k => PyData.int ((k : Nat) : Int))).bind fun is => (maxL is).bind fun m => some (.int m) := rfl
      rw [e2, e, intsOf_map, Option.bind_some, List.map_cons, maxL, h1]
      rfl
    · rcases List.mem_cons.mp hk with rfl | hk
      · exact h3
      · exact h4 k hk
theorem floor_of_ok {ss : List Nat} {t : Nat} (h : SzOk ss) (ht : t ≤ ss.length) : Cm.f_floor_of [natsD ss, .int (t : Nat)] = some (.int ((flo ss t : Nat) : Int)) := by
  have h6 := h.l6
  have hs : sortD (natsD ss) = some (natsD (ss.mergeSort leB)) := sort_data ss (by show (0 : Nat) ≤ 64; decide) (by omega) (.inr fun x _ => rfl)
  have hc : cutD (some (((ss.length - t : Nat)) : Int)) none (natsD (ss.mergeSort leB)) = some (natsD ((ss.mergeSort leB).drop (ss.length - t))) := by
    unfold natsD
    rw [cutD_drop _ _ (by rw [List.length_map, List.length_mergeSort]; omega), List.map_drop]
  have hm : ∀ s ∈ (ss.mergeSort leB).drop (ss.length - t), s ∈ ss := fun s hs => (mem_sort ss s).mp (List.mem_of_mem_drop hs)
  have hp := product_ok (ss := (ss.mergeSort leB).drop (ss.length - t)) (fun s hs => ⟨by have := h.lo s (hm s hs); omega, by have := h.hi s (hm s hs); omega⟩) (by
    refine Nat.le_trans (pow_bound (T := []) fun s hs => h.hi s (hm s hs)) ?_
    refine Nat.le_trans (Nat.pow_le_pow_right (by decide) (show _ ≤ 6 by rw [List.length_drop, List.length_mergeSort]; omega)) (by decide))
  have e : ((ss.length : Int) - (t : Int)) = ((ss.length - t : Nat) : Int) := by omega
  unfold Cm.f_floor_of Cm.D_floor_of
  simp only [runX_s, env0_s, sRet_s, dCall_s, dSl_s, oSome_s, oNone_s, lCons_s, lNil_s, d1_s, d2_s, vR_s, List.map_cons, List.map_nil, List.cons_append, List.nil_append, List.getElem?_cons_zero, List.getElem?_cons_succ, Option.bind_some, hs, lenN, subD_i, e, hc, hp]
  rfl
theorem floor_ok {ss : List Nat} {t : Nat} (h : SzOk ss) (h1 : 1 ≤ t) (h3 : t ≤ 3) (ht : t ≤ ss.length) : Cm.f_floor [natsD ss, .int (t : Nat)] = some (.int ((flo ss t : Nat) : Int)) := by
  have c1 := check_sights_ok h h1 h3 ht
  have c2 := floor_of_ok h ht
  unfold Cm.f_floor Cm.D_floor
  simp only [runX_s, env0_s, sSeq_s, sDrop_s, sRet_s, dCall_s, lCons_s, lNil_s, vR_s, List.map_cons, List.map_nil, List.cons_append, List.nil_append, List.getElem?_cons_zero, List.getElem?_cons_succ, Option.bind_some, c1, c2]
theorem SzOk.one {ss : List Nat} (h : SzOk ss) : ∀ s ∈ ss, 1 ≤ s := fun s hs => by have := h.lo s hs; omega
theorem SzOk.levels {ss : List Nat} (h : SzOk ss) : Cm.f_all_levels [natsD ss] = some (runsD (rows ss)) := by
  have h6 := h.l6
  have hp := h.pr
  exact all_levels_ok (fun s hs => ⟨h.one s hs, by have := h.hi s hs; omega⟩) (by omega) (by omega)
theorem SzOk.rows_len {ss : List Nat} (h : SzOk ss) : (rows ss).length ≤ 64 := by
  rw [Zx.rows_len]
  exact h.pr
theorem rows_ne {ss : List Nat} (h : SzOk ss) : rows ss ≠ [] := fun e => by
  have h1 : (rows ss).length = 0 := by rw [e]; rfl
  rw [Zx.rows_len] at h1
  have := prod_pos h.one
  omega
/-- the best of the rows -/
def Best (ss : List Nat) (left : List (List (Nat × Nat))) (r : List Nat) : Prop := r ∈ rows ss ∧ ∀ q ∈ rows ss, cnt left q ≤ cnt left r
theorem next_of_ok {ss : List Nat} {t : Nat} {left : List (List (Nat × Nat))} (h : SzOk ss) (hl : ∀ P ∈ left, IsS ss t P) (ht : t ≤ 1000) (hn : left.length ≤ 100000) : ∃ r, Cm.f_next_of [sgsD left, natsD ss] = some (runD r) ∧ Best ss left r := by
  have hal := h.levels
  have hrl := h.rows_len
  have e1 : ∀ (s2 s3 : Slot) (q : List Nat), q ∈ rows ss → dLc (iSeq (vR 0)) (gN 5) (b1 truD (dCall (lCons (vR 4) (lCons (vR 5) lNil)) Cm.f_has)) (vR 5) [5] [.fz (sgsD left), .fz (natsD ss), s2, s3, .fz (runD q), .no] = some (sgsD (left.filter (hasP q))) := fun s2 s3 q hq => by
    have hql := (mem_rows.mp hq).len
    have := lcL_enc sgD sgD (hasP q) (fun P => P) left (g := gN 5) (ft := b1 truD (dCall (lCons (vR 4) (lCons (vR 5) lNil)) Cm.f_has)) (fe := vR 5) (ρ := wipeE [.fz (sgsD left), .fz (natsD ss), s2, s3, .fz (runD q), .no] [5]) fun P hP => by
      have hS := hl P hP
      have hh := has_ok (r := q) (P := P) (fun p hp => by rw [hql]; exact (hS.ok p hp).1) (by rw [hS.len]; exact ht)
      refine ⟨_, rfl, ?_, fun _ => rfl⟩
      simp only [wipeE, b1_s, dCall_s, lCons_s, lNil_s, vR_s, List.set_cons_zero, List.set_cons_succ, List.getElem?_cons_zero, List.getElem?_cons_succ, Option.bind_some, hh, truD_b]
    rw [List.map_id'] at this
    refine dLc_of rfl this ?_
    rw [List.length_map]
    have := List.length_filter_le (hasP q) left
    omega
  have e2 : dLc (iSeq (vR 2)) (gN 4) bYes (d1 lenD (dLc (iSeq (vR 0)) (gN 5) (b1 truD (dCall (lCons (vR 4) (lCons (vR 5) lNil)) Cm.f_has)) (vR 5) [5])) [4] [.fz (sgsD left), .fz (natsD ss), .fz (runsD (rows ss)), .no, .no, .no] = some (natsD ((rows ss).map (cnt left))) := by
    have : natsD ((rows ss).map (cnt left)) = .list ((rows ss).map fun q => .int ((cnt left q : Nat) : Int)) := by
      unfold natsD
      rw [List.map_map]
      rfl
    rw [this]
    refine dLc_map runD (fun q => .int ((cnt left q : Nat) : Int)) (rows ss) rfl (fun q hq => ⟨_, rfl, ?_⟩) (by omega)
    simp only [wipeE, d1_s, List.set_cons_zero, List.set_cons_succ, e1 _ _ q hq, Option.bind_some, lenD_l, List.length_map]
    rfl
  obtain ⟨m, m1, m2, m3⟩ := maxL_ok (is := (rows ss).map (cnt left)) (fun e => rows_ne h (List.map_eq_nil_iff.mp e))
  have ix := index_ok enc_nat (by decide) m1
  have hi : ((rows ss).map (cnt left)).idxOf m < (rows ss).length := by
    have := List.idxOf_lt_length_of_mem m1
    rwa [List.length_map] at this
  generalize hk : ((rows ss).map (cnt left)).idxOf m = k at *
  have hkc : cnt left (rows ss)[k] = m := by
    have h1 := List.getElem_idxOf (xs := (rows ss).map (cnt left)) (x := m) (by rw [List.length_map, hk]; exact hi)
    simp only [hk, List.getElem_map] at h1
    exact h1
  refine ⟨(rows ss)[k], ?_, List.getElem_mem _, fun q hq => ?_⟩
  · have hat : atI ((rows ss).map runD) (k : Int) = some (runD (rows ss)[k]) := by
      rw [atI_nat _ _ (by rw [List.length_map]; exact hi), List.getElem?_map, List.getElem?_eq_getElem hi]
      rfl
    have ix' : indexD (natsD ((rows ss).map (cnt left))) (.int (m : Int)) = some (.int (k : Int)) := ix
    have m2' : maxLD (natsD ((rows ss).map (cnt left))) = some (.int (m : Int)) := m2
    unfold Cm.f_next_of Cm.D_next_of
    rw [runX_s]
    rw [show env0 6 [sgsD left, natsD ss] = [.fz (sgsD left), .fz (natsD ss), .no, .no, .no, .no] from rfl]
    rw [sSeq_nx (ρ' := [.fz (sgsD left), .fz (natsD ss), .fz (runsD (rows ss)), .no, .no, .no]) (by
      simp only [sSet_s, dCall_s, lCons_s, lNil_s, vR_s, List.set_cons_zero, List.set_cons_succ, List.getElem?_cons_zero, List.getElem?_cons_succ, Option.bind_some, hal])]
    rw [sSeq_nx (ρ' := [.fz (sgsD left), .fz (natsD ss), .fz (runsD (rows ss)), .fz (natsD ((rows ss).map (cnt left))), .no, .no]) (by
      rw [sLcSet_s, e2]
      rfl)]
    simp only [sRet_s, d2_s, d1_s, vR_s, List.getElem?_cons_zero, List.getElem?_cons_succ, Option.bind_some, m2', ix', ixD_l, hat]
  · rw [hkc]
    exact m3 _ (List.mem_map_of_mem hq)
theorem miss_is {rs : List (List Nat)} {ss : List Nat} {t : Nat} : ∀ P ∈ miss rs ss t, IsS ss t P := fun P hP => (mem_miss.mp hP).1
theorem miss_len {rs : List (List Nat)} {ss : List Nat} {t : Nat} (h : SzOk ss) (h3 : t ≤ 3) : (miss rs ss t).length ≤ 8000 := Nat.le_trans (List.length_filter_le _ _) (sgs_len h h3)
theorem next_run_ok {ss : List Nat} {rs : List (List Nat)} {t : Nat} (h : SzOk ss) (hr : ∀ r ∈ rs, RowOk ss r) (hrl : rs.length ≤ 64) (h1 : 1 ≤ t) (h3 : t ≤ 3) (hl : t ≤ ss.length) :
    (miss rs ss t = [] ∧ Cm.f_next_run [runsD rs, natsD ss, .int (t : Nat)] = some .none) ∨ (miss rs ss t ≠ [] ∧ ∃ r, Cm.f_next_run [runsD rs, natsD ss, .int (t : Nat)] = some (runD r) ∧ Best ss (miss rs ss t) r) := by
  have c1 := check_covering_ok h hr hrl h1 h3 hl
  have c2 := missing_of_ok h hr (by omega) h3
  have hml := miss_len (rs := rs) h h3
  obtain ⟨r, n1, n2⟩ := next_of_ok (left := miss rs ss t) h miss_is (by omega) (by omega)
  by_cases e : miss rs ss t = []
  · refine .inl ⟨e, ?_⟩
    unfold Cm.f_next_run Cm.D_next_run
    simp only [runX_s, env0_s, sSeq_s, sSet_s, sDrop_s, sRet_s, dCall_s, dIf_s, b2_s, d1_s, lCons_s, lNil_s, vR_s, kD_s, List.map_cons, List.map_nil, List.cons_append, List.nil_append, List.length_cons, List.length_nil, Nat.zero_add, Nat.reduceAdd, Nat.reduceSub, List.replicate, List.set_cons_zero, List.set_cons_succ, List.getElem?_cons_zero, List.getElem?_cons_succ, Option.bind_some, c1, c2, lenD_l, gtI_s, List.length_map, e]
    rfl
  · refine .inr ⟨e, r, ?_, n2⟩
    have hpos : (0 : Int) < ((miss rs ss t).length : Nat) := by
      have := List.length_pos_iff.mpr e
      omega
    unfold Cm.f_next_run Cm.D_next_run
    simp only [runX_s, env0_s, sSeq_s, sSet_s, sDrop_s, sRet_s, dCall_s, dIf_s, b2_s, d1_s, lCons_s, lNil_s, vR_s, kD_s, List.map_cons, List.map_nil, List.cons_append, List.nil_append, List.length_cons, List.length_nil, Nat.zero_add, Nat.reduceAdd, Nat.reduceSub, List.replicate, List.set_cons_zero, List.set_cons_succ, List.getElem?_cons_zero, List.getElem?_cons_succ, Option.bind_some, c1, c2, lenD_l, gtI_s, List.length_map, decide_eq_true hpos, if_true, n1]
/-! greedy -/
theorem miss_snoc (rs : List (List Nat)) (r : List Nat) (ss : List Nat) (t : Nat) : miss (rs ++ [r]) ss t = (miss rs ss t).filter fun P => !hasP r P := by
  unfold miss
  rw [List.filter_filter]
  congr 1
  funext P
  rw [List.any_append]
  simp [Bool.and_comm]
theorem cnt_split (left : List (List (Nat × Nat))) (r : List Nat) : (left.filter fun P => !hasP r P).length + cnt left r = left.length := by
  unfold cnt
  induction left with
  | nil => rfl
  | cons P left ih =>
    rw [List.filter_cons, List.filter_cons]
    cases hasP r P
    · simp only [Bool.not_false, if_true, Bool.false_eq_true, if_false, List.length_cons]
      omega
    · simp only [Bool.not_true, if_true, Bool.false_eq_true, if_false, List.length_cons]
      omega
theorem best_pos {ss : List Nat} {t : Nat} {left : List (List (Nat × Nat))} {r : List Nat} (h : SzOk ss) (hl : ∀ P ∈ left, IsS ss t P) (hn : left ≠ []) (hb : Best ss left r) : 1 ≤ cnt left r := by
  cases left with
  | nil => exact absurd rfl hn
  | cons P left =>
    obtain ⟨q, q1, q2⟩ := row_of h.one (hl P List.mem_cons_self)
    have := hb.2 q (mem_rows.mpr q1)
    have : 1 ≤ cnt (P :: left) q := by
      unfold cnt
      rw [List.filter_cons, if_pos q2, List.length_cons]
      omega
    omega
/-- greedy runs: each has a sight that none before has -/
structure Grd (ss : List Nat) (t : Nat) (c : List (List Nat)) : Prop where
  mem : ∀ r ∈ c, r ∈ rows ss
  dec : ∀ k, k < c.length → (miss (c.take (k + 1)) ss t).length < (miss (c.take k) ss t).length
theorem Grd.snoc {ss : List Nat} {t : Nat} {c : List (List Nat)} {r : List Nat} (h : SzOk ss) (g : Grd ss t c) (hn : miss c ss t ≠ []) (hb : Best ss (miss c ss t) r) : Grd ss t (c ++ [r]) := by
  refine ⟨fun q hq => ?_, fun k hk => ?_⟩
  · rcases List.mem_append.mp hq with z | z
    · exact g.mem q z
    · rw [List.mem_singleton.mp z]
      exact hb.1
  · rw [List.length_append, List.length_singleton] at hk
    by_cases e : k < c.length
    · rw [List.take_append_of_le_length (by omega), List.take_append_of_le_length (by omega)]
      exact g.dec k e
    · have : k = c.length := by omega
      subst this
      rw [List.take_of_length_le (by simp), List.take_append_of_le_length (Nat.le_refl _), List.take_length, miss_snoc]
      have h1 := cnt_split (miss c ss t) r
      have h2 := best_pos h miss_is hn hb
      omega
theorem greedy_loop {ss : List Nat} {t : Nat} (h : SzOk ss) (h3 : t ≤ 3) (x : Slot) : ∀ (n : Nat) (c : List (List Nat)) (s4 : Slot), (miss c ss t).length ≤ n → c.length + n ≤ 10000 → Grd ss t c →
    ∃ m c' s4', whL (b2 gtI (d1 lenD (vR 3)) (kD (.int 0))) (sSeq (sSet 4 (dCall (lCons (vR 3) (lCons (vR 0) lNil)) Cm.f_next_of)) (sSeq (sApp 2 (vR 4)) (sLcSet 3 false (dLc (iSeq (vR 3)) (gN 5) (bNot (b1 truD (dCall (lCons (vR 4) (lCons (vR 5) lNil)) Cm.f_has))) (vR 5) [5])))) m [.fz (natsD ss), x, .ow (runsD c), .fz (sgsD (miss c ss t)), s4, .no] =
      some (.nx [.fz (natsD ss), x, .ow (runsD c'), .fz (sgsD (miss c' ss t)), s4', .no]) ∧ Grd ss t c' ∧ miss c' ss t = []
  | 0, c, s4, hn, _, g => by
    have e : miss c ss t = [] := List.length_eq_zero_iff.mp (by omega)
    refine ⟨1, c, s4, ?_, g, e⟩
    rw [whL]
    simp [e]
  | n + 1, c, s4, hn, hc, g => by
    by_cases e : miss c ss t = []
    · refine ⟨1, c, s4, ?_, g, e⟩
      rw [whL]
      simp [e]
    · have hml := miss_len (rs := c) h h3
      obtain ⟨r, n1, n2⟩ := next_of_ok (left := miss c ss t) h miss_is (by omega) (by omega)
      have hpos : (0 : Int) < ((miss c ss t).length : Nat) := by
        have := List.length_pos_iff.mpr e
        omega
      have h1 := cnt_split (miss c ss t) r
      have h2 := best_pos h miss_is e n2
      have h0 := miss_snoc c r ss t
      obtain ⟨m, c', s4', ih, i2, i3⟩ := greedy_loop h h3 x n (c ++ [r]) (.fz (runD r)) (by rw [h0]; omega) (by rw [List.length_append, List.length_singleton]; omega) (g.snoc h e n2)
      refine ⟨m + 1, c', s4', ?_, i2, i3⟩
      have hrl := (mem_rows.mp n2.1).len
      have e1 : dLc (iSeq (vR 3)) (gN 5) (bNot (b1 truD (dCall (lCons (vR 4) (lCons (vR 5) lNil)) Cm.f_has))) (vR 5) [5] [.fz (natsD ss), x, .ow (runsD (c ++ [r])), .fz (sgsD (miss c ss t)), .fz (runD r), .no] = some (sgsD (miss (c ++ [r]) ss t)) := by
        have := lcL_enc sgD sgD (fun P => !hasP r P) (fun P => P) (miss c ss t) (g := gN 5) (ft := bNot (b1 truD (dCall (lCons (vR 4) (lCons (vR 5) lNil)) Cm.f_has))) (fe := vR 5) (ρ := wipeE [.fz (natsD ss), x, .ow (runsD (c ++ [r])), .fz (sgsD (miss c ss t)), .fz (runD r), .no] [5]) fun P hP => by
          have hS := miss_is P hP
          have hh := has_ok (r := r) (P := P) (fun p hp => by rw [hrl]; exact (hS.ok p hp).1) (by rw [hS.len]; omega)
          refine ⟨_, rfl, ?_, fun _ => rfl⟩
          simp only [wipeE, bNot_s, b1_s, dCall_s, lCons_s, lNil_s, vR_s, List.set_cons_zero, List.set_cons_succ, List.getElem?_cons_zero, List.getElem?_cons_succ, Option.bind_some, hh, truD_b]
        rw [List.map_id'] at this
        rw [h0]
        refine dLc_of rfl this ?_
        rw [List.length_map]
        have := List.length_filter_le (fun P => !hasP r P) (miss c ss t)
        omega
      have hb : (c.map runD).length < 1000000 := by rw [List.length_map]; omega
      rw [whL]
      simp only [b2_s, d1_s, vR_s, kD_s, List.getElem?_cons_zero, List.getElem?_cons_succ, Option.bind_some, lenD_l, List.length_map, gtI_s, decide_eq_true hpos, if_true]
      rw [sSeq_nx (ρ' := [.fz (natsD ss), x, .ow (runsD c), .fz (sgsD (miss c ss t)), .fz (runD r), .no]) (by
        simp only [sSet_s, dCall_s, lCons_s, lNil_s, vR_s, List.set_cons_zero, List.set_cons_succ, List.getElem?_cons_zero, List.getElem?_cons_succ, Option.bind_some, n1])]
      rw [sSeq_nx (ρ' := [.fz (natsD ss), x, .ow (runsD (c ++ [r])), .fz (sgsD (miss c ss t)), .fz (runD r), .no]) (by
        simp only [sApp_s, vR_s, owL_s, List.set_cons_zero, List.set_cons_succ, List.getElem?_cons_zero, List.getElem?_cons_succ, Option.bind_some, hb, if_true, runsD, List.map_append, List.map_cons, List.map_nil])]
      rw [sLcSet_s, e1]
      exact ih
theorem Grd.nodup {ss : List Nat} {t : Nat} {c : List (List Nat)} (g : Grd ss t c) : c.Nodup := by
  rw [List.nodup_iff_pairwise_ne, List.pairwise_iff_getElem]
  intro i j hi hj hij e
  have h1 := g.dec j hj
  have h2 : miss (c.take (j + 1)) ss t = miss (c.take j) ss t := by
    rw [List.take_succ_eq_append_getElem hj, miss_snoc, List.filter_eq_self]
    intro P hP
    have := (mem_miss.mp hP).2 c[i] (List.mem_take_iff_getElem.mpr ⟨i, by omega, rfl⟩)
    rw [← e, this]
    rfl
  rw [h2] at h1
  omega
theorem Grd.len {ss : List Nat} {t : Nat} {c : List (List Nat)} (h : SzOk ss) (g : Grd ss t c) : c.length ≤ 64 := Nat.le_trans (List.Nodup.length_le_of_subset g.nodup g.mem) h.rows_len
theorem greedy_ok {ss : List Nat} {t : Nat} (h : SzOk ss) (h1 : 1 ≤ t) (h3 : t ≤ 3) (hl : t ≤ ss.length) : ∃ c, Cm.f_greedy [natsD ss, .int (t : Nat)] = some (runsD c) ∧ Grd ss t c ∧ miss c ss t = [] := by
  have c1 := check_sights_ok h h1 h3 hl
  have c2 := sights_of_ok h h3
  have hs := sgs_len h h3
  have e0 : miss [] ss t = sgs ss t := by
    unfold miss
    simp
  obtain ⟨m, c, s4', w, g, e⟩ := greedy_loop h h3 (.fz (.int (t : Nat))) 8000 [] .no (by rw [e0]; omega) (by decide) ⟨(fun r hr => by cases hr), fun k hk => by simp at hk⟩
  refine ⟨c, ?_, g, e⟩
  rw [e0] at w
  unfold Cm.f_greedy Cm.D_greedy
  rw [runX_s]
  rw [show env0 6 [natsD ss, .int (t : Nat)] = [.fz (natsD ss), .fz (.int (t : Nat)), .no, .no, .no, .no] from rfl]
  rw [sSeq_nx (ρ' := [.fz (natsD ss), .fz (.int (t : Nat)), .no, .no, .no, .no]) (by
    simp only [sDrop_s, dCall_s, lCons_s, lNil_s, vR_s, List.getElem?_cons_zero, List.getElem?_cons_succ, Option.bind_some, c1])]
  rw [sSeq_nx (ρ' := [.fz (natsD ss), .fz (.int (t : Nat)), .ow (runsD []), .no, .no, .no]) (by simp)]
  rw [sSeq_nx (ρ' := [.fz (natsD ss), .fz (.int (t : Nat)), .ow (runsD []), .fz (sgsD (sgs ss t)), .no, .no]) (by
    simp only [sSet_s, dCall_s, lCons_s, lNil_s, vR_s, List.set_cons_zero, List.set_cons_succ, List.getElem?_cons_zero, List.getElem?_cons_succ, Option.bind_some, c2])]
  rw [sSeq_nx (sWh_of w)]
  simp
/-! fewest -/
@[simp] theorem notN_runs (c : List (List Nat)) : notN (runsD c) = some true := rfl
@[simp] theorem isN_runs (c : List (List Nat)) : isN (runsD c) = some false := rfl
def resD : Option (List (List Nat)) → D | none => .none | some c => runsD c
def Res (rs : List (List Nat)) (left : List (List (Nat × Nat))) (size : Nat) : Option (List (List Nat)) → Prop
  | some c => c.length ≤ size ∧ Cov rs left c
  | none => ∀ c, c.length ≤ size → ¬ Cov rs left c
theorem cover_loop {rs : List (List Nat)} {left : List (List (Nat × Nat))} {size : Nat} {fr : List D → Option D} (P0 : List (Nat × Nat)) (hP0 : left.head? = some P0)
    (hl : left.length ≤ 100000) (hv : ∀ r ∈ rs, ∀ P ∈ left, (∀ p ∈ P, p.1 < r.length) ∧ P.length ≤ 1000) (hs : size ≤ 1000)
    (hfr : ∀ r ∈ rs, ∃ res, fr [sgsD (left.filter fun P => !hasP r P), runsD rs, .int (size : Nat)] = some (resD res) ∧ Res rs (left.filter fun P => !hasP r P) size res) : ∀ (qs : List (List Nat)) (s3 s4 : Slot), (∀ q ∈ qs, q ∈ rs) →
    (∃ c, forL (gN 3) (sIf (b1 truD (dCall (lCons (vR 3) (lCons (d2 ixD (vR 0) (kD (.int 0))) lNil)) Cm.f_has)) (sSeq (sSet 4 (dCall (lCons (dLc (iSeq (vR 0)) (gN 5) (bNot (b1 truD (dCall (lCons (vR 3) (lCons (vR 5) lNil)) Cm.f_has))) (vR 5) [5]) (lCons (vR 1) (lCons (d2 subD (vR 2) (kD (.int 1))) lNil))) fr))
      (sIf (b1 notN (vR 4)) (sRet (mkL (lCons (vR 3) (lStar (vR 4) lNil)))) sNx)) sNx) (qs.map runD) [.fz (sgsD left), .fz (runsD rs), .fz (.int ((size + 1 : Nat) : Int)), s3, s4, .no] = some (.rt (runsD c)) ∧ c.length ≤ size + 1 ∧ Cov rs left c) ∨
    ((∃ s3' s4', forL (gN 3) (sIf (b1 truD (dCall (lCons (vR 3) (lCons (d2 ixD (vR 0) (kD (.int 0))) lNil)) Cm.f_has)) (sSeq (sSet 4 (dCall (lCons (dLc (iSeq (vR 0)) (gN 5) (bNot (b1 truD (dCall (lCons (vR 3) (lCons (vR 5) lNil)) Cm.f_has))) (vR 5) [5]) (lCons (vR 1) (lCons (d2 subD (vR 2) (kD (.int 1))) lNil))) fr))
      (sIf (b1 notN (vR 4)) (sRet (mkL (lCons (vR 3) (lStar (vR 4) lNil)))) sNx)) sNx) (qs.map runD) [.fz (sgsD left), .fz (runsD rs), .fz (.int ((size + 1 : Nat) : Int)), s3, s4, .no] = some (.nx [.fz (sgsD left), .fz (runsD rs), .fz (.int ((size + 1 : Nat) : Int)), s3', s4', .no])) ∧
      ∀ q ∈ qs, hasP q P0 = true → ∀ c, c.length ≤ size → ¬ Cov rs (left.filter fun P => !hasP q P) c)
  | [], s3, s4, _ => .inr ⟨⟨s3, s4, rfl⟩, fun q hq => by cases hq⟩
  | q :: qs, s3, s4, hq => by
    have hqm := hq q List.mem_cons_self
    have hqs : ∀ r ∈ qs, r ∈ rs := fun r hr => hq r (List.mem_cons_of_mem _ hr)
    have hm0 : P0 ∈ left := List.mem_of_mem_head? hP0
    have hat : atI (left.map sgD) 0 = some (sgD P0) := by
      cases left with
      | nil => cases hP0
      | cons P left =>
        cases hP0
        rw [List.map_cons, atI_0]
    have hh0 := has_ok (r := q) (P := P0) (hv q hqm P0 hm0).1 (hv q hqm P0 hm0).2
    have cc : ∀ s4, b1 truD (dCall (lCons (vR 3) (lCons (d2 ixD (vR 0) (kD (.int 0))) lNil)) Cm.f_has) [.fz (sgsD left), .fz (runsD rs), .fz (.int ((size + 1 : Nat) : Int)), .fz (runD q), s4, .no] = some (hasP q P0) := fun s4 => by
      simp only [b1_s, dCall_s, lCons_s, lNil_s, d2_s, vR_s, kD_s, List.getElem?_cons_zero, List.getElem?_cons_succ, Option.bind_some, ixD_l, hat, hh0, truD_b]
    rw [List.map_cons, forL]
    simp only [gN_s, List.set_cons_zero, List.set_cons_succ, Option.bind_some]
    by_cases hc : hasP q P0 = true
    · obtain ⟨res, f1, f2⟩ := hfr q hqm
      have e1 : dLc (iSeq (vR 0)) (gN 5) (bNot (b1 truD (dCall (lCons (vR 3) (lCons (vR 5) lNil)) Cm.f_has))) (vR 5) [5] [.fz (sgsD left), .fz (runsD rs), .fz (.int ((size + 1 : Nat) : Int)), .fz (runD q), s4, .no] = some (sgsD (left.filter fun P => !hasP q P)) := by
        have := lcL_enc sgD sgD (fun P => !hasP q P) (fun P => P) left (g := gN 5) (ft := bNot (b1 truD (dCall (lCons (vR 3) (lCons (vR 5) lNil)) Cm.f_has))) (fe := vR 5) (ρ := wipeE [.fz (sgsD left), .fz (runsD rs), .fz (.int ((size + 1 : Nat) : Int)), .fz (runD q), s4, .no] [5]) fun P hP => by
          have hh := has_ok (r := q) (P := P) (hv q hqm P hP).1 (hv q hqm P hP).2
          refine ⟨_, rfl, ?_, fun _ => rfl⟩
          simp only [wipeE, bNot_s, b1_s, dCall_s, lCons_s, lNil_s, vR_s, List.set_cons_zero, List.set_cons_succ, List.getElem?_cons_zero, List.getElem?_cons_succ, Option.bind_some, hh, truD_b]
        rw [List.map_id'] at this
        refine dLc_of rfl this ?_
        rw [List.length_map]
        have := List.length_filter_le (fun P => !hasP q P) left
        omega
      have es : ((size + 1 : Nat) : Int) - 1 = (size : Int) := by omega
      rw [sIf_t (by rw [cc, hc])]
      rw [sSeq_nx (ρ' := [.fz (sgsD left), .fz (runsD rs), .fz (.int ((size + 1 : Nat) : Int)), .fz (runD q), .fz (resD res), .no]) (by
        simp only [sSet_s, dCall_s, lCons_s, lNil_s, e1, d2_s, vR_s, kD_s, List.set_cons_zero, List.set_cons_succ, List.getElem?_cons_zero, List.getElem?_cons_succ, Option.bind_some, subD_i, es, f1])]
      cases res with
      | some c =>
        left
        obtain ⟨g1, g2, g3⟩ := f2
        refine ⟨q :: c, ?_, by rw [List.length_cons]; omega, ⟨fun r hr => ?_, fun P hP => ?_⟩⟩
        · have hb : (c.map runD).length + 1 ≤ 1000000 := by rw [List.length_map]; omega
          rw [sIf_t (by simp only [b1_s, vR_s, List.getElem?_cons_zero, List.getElem?_cons_succ, Option.bind_some, resD, notN_runs])]
          simp only [sRet_s, mkL_s, lCons_s, lStar_s, lNil_s, vR_s, resD, List.getElem?_cons_zero, List.getElem?_cons_succ, Option.bind_some, seqOf_l, List.append_nil, List.length_cons, hb, if_true, runsD, List.map_cons]
        · rcases List.mem_cons.mp hr with rfl | hr
          · exact hqm
          · exact g2 r hr
        · cases hp : hasP q P with
          | true => exact ⟨q, List.mem_cons_self, hp⟩
          | false =>
            obtain ⟨r, r1, r2⟩ := g3 P (List.mem_filter.mpr ⟨hP, by rw [hp]; rfl⟩)
            exact ⟨r, List.mem_cons_of_mem _ r1, r2⟩
      | none =>
        rw [sIf_f (by simp only [b1_s, vR_s, List.getElem?_cons_zero, List.getElem?_cons_succ, Option.bind_some, resD, notN])]
        simp only [sNx_s]
        rcases cover_loop P0 hP0 hl hv hs hfr qs (.fz (runD q)) (.fz (resD none)) hqs with h | ⟨h, h2⟩
        · exact .inl h
        · refine .inr ⟨h, fun r hr hrc => ?_⟩
          rcases List.mem_cons.mp hr with rfl | hr
          · exact f2
          · exact h2 r hr hrc
    · rw [sIf_f (by rw [cc, Bool.eq_false_iff.mpr hc])]
      simp only [sNx_s]
      rcases cover_loop P0 hP0 hl hv hs hfr qs (.fz (runD q)) s4 hqs with h | ⟨h, h2⟩
      · exact .inl h
      · refine .inr ⟨h, fun r hr hrc => ?_⟩
        rcases List.mem_cons.mp hr with rfl | hr
        · exact absurd hrc hc
        · exact h2 r hr hrc
theorem cover_of_ok {rs : List (List Nat)} : ∀ (fuel size : Nat) (left : List (List (Nat × Nat))), size < fuel → size ≤ 100 → left.length ≤ 100000 → (∀ r ∈ rs, ∀ P ∈ left, (∀ p ∈ P, p.1 < r.length) ∧ P.length ≤ 1000) →
    ∃ res, Cm.f_cover_of fuel [sgsD left, runsD rs, .int (size : Nat)] = some (resD res) ∧ Res rs left size res
  | 0, size, left, h, _, _, _ => absurd h (by omega)
  | fuel + 1, size, left, hf, hs, hl, hv => by
    show ∃ res, runX (Cm.D_cover_of (Cm.f_cover_of fuel)) 6 _ = _ ∧ _
    unfold Cm.D_cover_of
    rw [runX_s]
    rw [show env0 6 [sgsD left, runsD rs, .int (size : Nat)] = [.fz (sgsD left), .fz (runsD rs), .fz (.int (size : Nat)), .no, .no, .no] from rfl]
    cases left with
    | nil =>
      refine ⟨some [], ?_, ⟨Nat.zero_le _, (fun r hr => by cases hr), fun P hP => by cases hP⟩⟩
      rw [sSeq_rt (d := runsD []) (by simp [eqD_i])]
      rfl
    | cons P0 left =>
      have hne : ¬ (((P0 :: left).length : Nat) : Int) = 0 := by rw [List.length_cons]; omega
      rw [sSeq_nx (ρ' := [.fz (sgsD (P0 :: left)), .fz (runsD rs), .fz (.int (size : Nat)), .no, .no, .no]) (by
        rw [sIf_f (by simp only [b2_s, d1_s, vR_s, kD_s, List.getElem?_cons_zero, List.getElem?_cons_succ, Option.bind_some, lenD_l, List.length_map, eqD_i, decide_eq_false hne])]
        rfl)]
      cases size with
      | zero =>
        refine ⟨none, ?_, fun c hc h => ?_⟩
        · rw [sSeq_rt (d := .none) (by simp [eqD_i])]
          rfl
        · obtain ⟨r, hr, _⟩ := h.cov P0 List.mem_cons_self
          have : c = [] := List.length_eq_zero_iff.mp (by omega)
          subst this
          cases hr
      | succ size =>
        have hz : ¬ ((size + 1 : Nat) : Int) = 0 := by omega
        rw [sSeq_nx (ρ' := [.fz (sgsD (P0 :: left)), .fz (runsD rs), .fz (.int ((size + 1 : Nat) : Int)), .no, .no, .no]) (by
          rw [sIf_f (by simp only [b2_s, vR_s, kD_s, List.getElem?_cons_zero, List.getElem?_cons_succ, Option.bind_some, eqD_i, decide_eq_false hz])]
          rfl)]
        have key := cover_loop (rs := rs) (left := P0 :: left) (size := size) (fr := Cm.f_cover_of fuel) P0 rfl hl hv (by omega) (fun r hr => cover_of_ok fuel size _ (by omega) (by omega) (Nat.le_trans (List.length_filter_le _ _) hl) fun q hq P hP => hv q hq P ((List.mem_filter.mp hP).1)) rs .no .no (fun q hq => hq)
        rcases key with ⟨c, k1, k2, k3⟩ | ⟨⟨s3', s4', k1⟩, k2⟩
        · refine ⟨some c, ?_, k2, k3⟩
          have k1' := sFor_of (fi := iSeq (vR 1)) rfl k1
          rw [sSeq_rt (d := runsD c) k1']
          rfl
        · refine ⟨none, ?_, fun c hc h => ?_⟩
          · have k1' := sFor_of (fi := iSeq (vR 1)) rfl k1
            rw [sSeq_nx k1']
            rfl
          · obtain ⟨r, hr, hh⟩ := h.cov P0 List.mem_cons_self
            refine k2 r (h.mem r hr) hh (c.erase r) (by rw [List.length_erase_of_mem hr]; omega) ⟨fun q hq => h.mem q (List.mem_of_mem_erase hq), fun P hP => ?_⟩
            obtain ⟨hP1, hP2⟩ := List.mem_filter.mp hP
            obtain ⟨q, hq, hqq⟩ := h.cov P hP1
            refine ⟨q, (List.mem_erase_of_ne fun e => ?_).mpr hq, hqq⟩
            subst e
            rw [hqq] at hP2
            cases hP2
theorem sort_runs {c : List (List Nat)} (hl : c.length ≤ 1000) (hne : ∀ r ∈ c, r ≠ []) : ∃ c' : List (List Nat), c'.Perm c ∧ sortD (runsD c) = some (runsD c') := by
  refine ⟨((c.map rowT).mergeSort leB).map (·.items), ?_, ?_⟩
  · have := (List.mergeSort_perm (c.map rowT) leB).map (·.items)
    rw [List.map_map] at this
    have e : c.map ((·.items) ∘ rowT) = c := (List.map_congr_left fun r _ => rfl).trans (List.map_id c)
    rwa [e] at this
  · have := sort_data (c.map rowT) (by show (0 + 1 : Nat) ≤ 64; decide) (by rw [List.length_map]; omega) (.inl fun x hx => by
      obtain ⟨r, hr, rfl⟩ := List.mem_map.mp hx
      cases r with
      | nil => exact absurd rfl (hne _ hr)
      | cons x r => rfl)
    rw [List.map_map] at this
    have e : sortD (runsD c) = some (.list (((c.map rowT).mergeSort leB).map Datum.toD)) := this
    rw [e]
    unfold runsD
    rw [List.map_map]
    rfl
theorem Cov.perm {rs : List (List Nat)} {left : List (List (Nat × Nat))} {c c' : List (List Nat)} (p : c'.Perm c) (h : Cov rs left c) : Cov rs left c' := ⟨fun r hr => h.mem r (p.mem_iff.mp hr), fun P hP => by
  obtain ⟨r, h1, h2⟩ := h.cov P hP
  exact ⟨r, p.mem_iff.mpr h1, h2⟩⟩
theorem rows_cov {ss : List Nat} {t : Nat} (h : SzOk ss) : Cov (rows ss) (sgs ss t) (rows ss) := ⟨fun r hr => hr, fun P hP => by
  obtain ⟨r, h1, h2⟩ := row_of h.one (mem_sgs.mp hP)
  exact ⟨r, mem_rows.mpr h1, h2⟩⟩
theorem fewest_loop {ss : List Nat} {t : Nat} (h : SzOk ss) (h3 : t ≤ 3) (h12 : (rows ss).length ≤ 12) : ∀ (d size : Nat) (res : Option (List (List Nat))), size + d = 12 → Res (rows ss) (sgs ss t) size res → (∀ c, Cov (rows ss) (sgs ss t) c → size ≤ c.length) →
    ∃ m c s3, whL (b1 isN (vR 4)) (sSeq (sSet 3 (d2 addD (vR 3) (kD (.int 1)))) (sSet 4 (dCall (lCons (dCall (lCons (vR 0) (lCons (vR 1) lNil)) Cm.f_sights_of) (lCons (vR 2) (lCons (vR 3) lNil))) (Cm.f_cover_of 16)))) m [.fz (natsD ss), .fz (.int (t : Nat)), .fz (runsD (rows ss)), .fz (.int (size : Nat)), .fz (resD res)] =
      some (.nx [.fz (natsD ss), .fz (.int (t : Nat)), .fz (runsD (rows ss)), s3, .fz (runsD c)]) ∧ Cov (rows ss) (sgs ss t) c ∧ ∀ c', Cov (rows ss) (sgs ss t) c' → c.length ≤ c'.length := fun d => by
  induction d with
  | zero =>
    intro size res hd hres hmin
    cases res with
    | some c => exact ⟨1, c, .fz (.int (size : Nat)), by simp [whL, resD], hres.2, fun c' hc' => Nat.le_trans hres.1 (hmin c' hc')⟩
    | none => exact absurd (rows_cov h) (hres (rows ss) (by omega))
  | succ d ih =>
    intro size res hd hres hmin
    cases res with
    | some c => exact ⟨1, c, .fz (.int (size : Nat)), by simp [whL, resD], hres.2, fun c' hc' => Nat.le_trans hres.1 (hmin c' hc')⟩
    | none =>
      have hsl := sgs_len h h3
      have hso := sights_of_ok h h3
      obtain ⟨res', r1, r2⟩ := cover_of_ok (rs := rows ss) 16 (size + 1) (sgs ss t) (by omega) (by omega) (by omega) fun r hr P hP => by
        have hS := mem_sgs.mp hP
        exact ⟨fun p hp => by rw [(mem_rows.mp hr).len]; exact (hS.ok p hp).1, by rw [hS.len]; omega⟩
      obtain ⟨m, c, s3, w, w2, w3⟩ := ih (size + 1) res' (by omega) r2 fun c hc => by
        have := hmin c hc
        by_cases e : c.length ≤ size
        · exact absurd hc (hres c e)
        · omega
      refine ⟨m + 1, c, s3, ?_, w2, w3⟩
      rw [whL]
      simp only [b1_s, vR_s, resD, List.getElem?_cons_zero, List.getElem?_cons_succ, Option.bind_some, isN, if_true]
      rw [sSeq_nx (ρ' := [.fz (natsD ss), .fz (.int (t : Nat)), .fz (runsD (rows ss)), .fz (.int ((size + 1 : Nat) : Int)), .fz .none]) (by simp)]
      simp only [sSet_s, dCall_s, lCons_s, lNil_s, vR_s, List.set_cons_zero, List.set_cons_succ, List.getElem?_cons_zero, List.getElem?_cons_succ, Option.bind_some, hso, r1]
      exact w
theorem fewest_ok {ss : List Nat} {t : Nat} (h : SzOk ss) (h1 : 1 ≤ t) (h3 : t ≤ 3) (hl : t ≤ ss.length) (h12 : (rows ss).length ≤ 12) : ∃ c, Cm.f_fewest [natsD ss, .int (t : Nat)] = some (runsD c) ∧ Cov (rows ss) (sgs ss t) c ∧ ∀ c', Cov (rows ss) (sgs ss t) c' → c.length ≤ c'.length := by
  have c1 := check_sights_ok h h1 h3 hl
  have c2 := h.levels
  have c3 := floor_of_ok h hl
  have hso := sights_of_ok h h3
  have hsl := sgs_len h h3
  have hfl : flo ss t ≤ 12 := Nat.le_trans (flo_le hl (rows_cov h)) h12
  obtain ⟨res, r1, r2⟩ := cover_of_ok (rs := rows ss) 16 (flo ss t) (sgs ss t) (by omega) (by omega) (by omega) fun r hr P hP => by
    have hS := mem_sgs.mp hP
    exact ⟨fun p hp => by rw [(mem_rows.mp hr).len]; exact (hS.ok p hp).1, by rw [hS.len]; omega⟩
  obtain ⟨m, c, s3, w, w2, w3⟩ := fewest_loop h h3 h12 (12 - flo ss t) (flo ss t) res (by omega) r2 fun c hc => flo_le hl hc
  have hcl : c.length ≤ 12 := Nat.le_trans (w3 _ (rows_cov h)) h12
  obtain ⟨c', p, hs⟩ := sort_runs (c := c) (by omega) fun r hr e => by
    have := (mem_rows.mp (w2.mem r hr)).len
    rw [e] at this
    have := h.l1
    simp at *
    omega
  refine ⟨c', ?_, w2.perm p, fun d hd => by rw [p.length_eq]; exact w3 d hd⟩
  have hn : ¬ (12 : Int) < (((rows ss).length : Nat) : Int) := by omega
  unfold Cm.f_fewest Cm.D_fewest
  rw [runX_s]
  rw [show env0 5 [natsD ss, .int (t : Nat)] = [.fz (natsD ss), .fz (.int (t : Nat)), .no, .no, .no] from rfl]
  rw [sSeq_nx (ρ' := [.fz (natsD ss), .fz (.int (t : Nat)), .no, .no, .no]) (by
    simp only [sDrop_s, dCall_s, lCons_s, lNil_s, vR_s, List.getElem?_cons_zero, List.getElem?_cons_succ, Option.bind_some, c1])]
  rw [sSeq_nx (ρ' := [.fz (natsD ss), .fz (.int (t : Nat)), .fz (runsD (rows ss)), .no, .no]) (by
    simp only [sSet_s, dCall_s, lCons_s, lNil_s, vR_s, List.set_cons_zero, List.set_cons_succ, List.getElem?_cons_zero, List.getElem?_cons_succ, Option.bind_some, c2])]
  rw [sSeq_nx (ρ' := [.fz (natsD ss), .fz (.int (t : Nat)), .fz (runsD (rows ss)), .no, .no]) (by
    rw [sIf_f (by simp only [b2_s, d1_s, vR_s, kD_s, List.getElem?_cons_zero, List.getElem?_cons_succ, Option.bind_some, lenD_l, List.length_map, gtI_s, decide_eq_false hn])]
    rfl)]
  rw [sSeq_nx (ρ' := [.fz (natsD ss), .fz (.int (t : Nat)), .fz (runsD (rows ss)), .fz (.int ((flo ss t : Nat) : Int)), .no]) (by
    simp only [sSet_s, dCall_s, lCons_s, lNil_s, vR_s, List.set_cons_zero, List.set_cons_succ, List.getElem?_cons_zero, List.getElem?_cons_succ, Option.bind_some, c3])]
  rw [sSeq_nx (ρ' := [.fz (natsD ss), .fz (.int (t : Nat)), .fz (runsD (rows ss)), .fz (.int ((flo ss t : Nat) : Int)), .fz (resD res)]) (by
    simp only [sSet_s, dCall_s, lCons_s, lNil_s, vR_s, List.set_cons_zero, List.set_cons_succ, List.getElem?_cons_zero, List.getElem?_cons_succ, Option.bind_some, hso, r1])]
  rw [sSeq_nx (sWh_of w)]
  simp only [sRet_s, d1_s, vR_s, List.getElem?_cons_zero, List.getElem?_cons_succ, Option.bind_some, hs]
end Zx
/-! U5: sights under other names; a factor left out. -/
namespace Zx
open PySem PySem.Spec L2 PySem.W
theorem hasP_perm {r : List Nat} {P Q : List (Nat × Nat)} (h : P.Perm Q) : hasP r P = hasP r Q := by
  rw [Bool.eq_iff_iff, hasP_iff, hasP_iff]
  exact ⟨fun z p hp => z p (h.mem_iff.mpr hp), fun z p hp => z p (h.mem_iff.mp hp)⟩
theorem lt_pair (p q : Nat × Nat) : DatumOrd.lt p q = if p.1 = q.1 then decide (p.2 < q.2) else decide (p.1 < q.1) := rfl
theorem pair_up {P : List (Nat × Nat)} (h : P.Pairwise fun p q => p.1 < q.1) : Up P := up_of_lt (h.imp fun {p q} hpq => by
  rw [lt_pair, if_neg (by omega)]
  exact decide_eq_true hpq)
theorem up_pair {P : List (Nat × Nat)} (h : Up P) (h2 : (P.map (·.1)).Nodup) : P.Pairwise fun p q => p.1 < q.1 := by
  have h3 := List.pairwise_map.mp h2
  have := List.pairwise_and_iff.mpr ⟨h, h3⟩
  refine List.Pairwise.imp (fun {p q} ⟨a, b⟩ => ?_) this
  unfold leB at a
  rw [Bool.not_eq_true', lt_pair, if_neg (fun e => b e.symm)] at a
  have := of_decide_eq_false a
  omega
/-- pairs in order -/
def ord (Q : List (Nat × Nat)) : List (Nat × Nat) := Q.mergeSort leB
theorem ord_perm (Q : List (Nat × Nat)) : (ord Q).Perm Q := List.mergeSort_perm Q leB
theorem ord_is {ss : List Nat} {t : Nat} {Q : List (Nat × Nat)} (h1 : (Q.map (·.1)).Nodup) (h2 : Q.length = t) (h3 : ∀ p ∈ Q, p.1 < ss.length ∧ p.2 < ss.getD p.1 0) : IsS ss t (ord Q) := by
  refine ⟨up_pair (sort_up Q) (((ord_perm Q).map (·.1)).nodup_iff.mpr h1), by rw [(ord_perm Q).length_eq, h2], fun p hp => h3 p ((ord_perm Q).mem_iff.mp hp)⟩
theorem ord_eq {P Q : List (Nat × Nat)} (h : P.Pairwise fun p q => p.1 < q.1) (p : Q.Perm P) : ord Q = P := up_uniq ((ord_perm Q).trans p) (sort_up Q) (pair_up h)
theorem IsS.nd {ss : List Nat} {t : Nat} {P : List (Nat × Nat)} (h : IsS ss t P) : (P.map (·.1)).Nodup := by
  rw [List.nodup_iff_pairwise_ne, List.pairwise_map]
  exact h.asc.imp fun {p q} h e => by omega
theorem getD_map {f : Nat → Nat} {l : List Nat} {i : Nat} (h : i < l.length) : (l.map f).getD i 0 = f (l.getD i 0) := by
  rw [List.getD_eq_getElem?_getD, List.getD_eq_getElem?_getD, List.getElem?_map, List.getElem?_eq_getElem h]
  rfl
theorem getD_idx {l : List Nat} {a : Nat} (h : a ∈ l) : l.getD (l.idxOf a) 0 = a := by
  have h1 := List.idxOf_lt_length_of_mem h
  rw [List.getD_eq_getElem?_getD, List.getElem?_eq_getElem h1]
  exact List.getElem_idxOf h1
theorem idx_getD {l : List Nat} {n i : Nat} (h : l.Perm (List.range n)) (hi : i < n) : l.idxOf (l.getD i 0) = i := by
  have hl : l.length = n := by rw [h.length_eq, List.length_range]
  have hm : l.getD i 0 ∈ l := by
    rw [List.getD_eq_getElem?_getD, List.getElem?_eq_getElem (by omega)]
    exact List.getElem_mem _
  have h1 := List.idxOf_lt_length_of_mem hm
  exact perm_inj h (by omega) hi (getD_idx hm)
/-- factors and levels under other names -/
structure Ren (ss os : List Nat) (lv : Nat → List Nat) : Prop where
  os : os.Perm (List.range ss.length)
  lv : ∀ f, f < ss.length → (lv f).Perm (List.range (ss.getD f 0))
section
variable {ss os : List Nat} {lv : Nat → List Nat}
def szR (ss os : List Nat) : List Nat := os.map fun f => ss.getD f 0
def renR (os : List Nat) (lv : Nat → List Nat) (r : List Nat) : List Nat := os.map fun f => (lv f).getD (r.getD f 0) 0
def unR (n : Nat) (os : List Nat) (lv : Nat → List Nat) (q : List Nat) : List Nat := (List.range n).map fun f => (lv f).idxOf (q.getD (os.idxOf f) 0)
def renQ (os : List Nat) (lv : Nat → List Nat) (P : List (Nat × Nat)) : List (Nat × Nat) := P.map fun p => (os.idxOf p.1, (lv p.1).getD p.2 0)
def unQ (os : List Nat) (lv : Nat → List Nat) (P : List (Nat × Nat)) : List (Nat × Nat) := P.map fun p => (os.getD p.1 0, (lv (os.getD p.1 0)).idxOf p.2)
theorem Ren.len (R : Ren ss os lv) : os.length = ss.length := by rw [R.os.length_eq, List.length_range]
theorem Ren.szLen (R : Ren ss os lv) : (szR ss os).length = ss.length := by rw [szR, List.length_map, R.len]
theorem Ren.mem (R : Ren ss os lv) {f : Nat} (h : f < ss.length) : f ∈ os := R.os.mem_iff.mpr (List.mem_range.mpr h)
theorem Ren.idx (R : Ren ss os lv) {f : Nat} (h : f < ss.length) : os.idxOf f < ss.length := by
  have := List.idxOf_lt_length_of_mem (R.mem h)
  rwa [R.len] at this
theorem Ren.lt (R : Ren ss os lv) {g : Nat} (h : g < ss.length) : os.getD g 0 < ss.length := perm_lt R.os h
theorem Ren.sz (R : Ren ss os lv) {g : Nat} (h : g < ss.length) : (szR ss os).getD g 0 = ss.getD (os.getD g 0) 0 := getD_map (by rw [R.len]; exact h)
theorem Ren.sz2 (R : Ren ss os lv) {f : Nat} (h : f < ss.length) : (szR ss os).getD (os.idxOf f) 0 = ss.getD f 0 := by
  rw [R.sz (R.idx h), getD_idx (R.mem h)]
theorem Ren.szPerm (R : Ren ss os lv) : (szR ss os).Perm ss := by
  have h := R.os.map fun f => ss.getD f 0
  have e : (List.range ss.length).map (fun f => ss.getD f 0) = ss := by
    have := map_getD ss fun x => x
    rw [List.map_id'] at this
    exact this.symm
  rw [e] at h
  exact h
theorem Ren.rowR (R : Ren ss os lv) {r : List Nat} (h : RowOk ss r) : RowOk (szR ss os) (renR os lv r) := by
  rw [rowOk_iff] at h ⊢
  refine ⟨by rw [renR, List.length_map, R.len, R.szLen], fun g hg => ?_⟩
  rw [R.szLen] at hg
  rw [R.sz hg, renR, getD_map (by rw [R.len]; exact hg)]
  exact perm_lt (R.lv _ (R.lt hg)) (h.2 _ (R.lt hg))
theorem Ren.renAt (R : Ren ss os lv) {r : List Nat} {f : Nat} (h : f < ss.length) : (renR os lv r).getD (os.idxOf f) 0 = (lv f).getD (r.getD f 0) 0 := by
  rw [renR, getD_map (by rw [R.len]; exact R.idx h), getD_idx (R.mem h)]
theorem Ren.rowU (R : Ren ss os lv) {q : List Nat} (h : RowOk (szR ss os) q) : RowOk ss (unR ss.length os lv q) ∧ renR os lv (unR ss.length os lv q) = q := by
  rw [rowOk_iff] at h
  obtain ⟨h1, h2⟩ := h
  rw [R.szLen] at h1 h2
  have hm : ∀ f, f < ss.length → q.getD (os.idxOf f) 0 ∈ lv f := fun f hf => by
    have := h2 _ (R.idx hf)
    rw [R.sz2 hf] at this
    exact (R.lv f hf).mem_iff.mpr (List.mem_range.mpr this)
  have ha : ∀ f, f < ss.length → (unR ss.length os lv q).getD f 0 = (lv f).idxOf (q.getD (os.idxOf f) 0) := fun f hf => by
    rw [unR, List.getD_eq_getElem?_getD, List.getElem?_map, List.getElem?_range hf]
    rfl
  refine ⟨rowOk_iff.mpr ⟨by simp [unR], fun f hf => ?_⟩, ?_⟩
  · rw [ha f hf]
    have := List.idxOf_lt_length_of_mem (hm f hf)
    rwa [(R.lv f hf).length_eq, List.length_range] at this
  · refine List.ext_getElem? fun g => ?_
    by_cases hg : g < ss.length
    · have hgl := R.lt hg
      have e : (renR os lv (unR ss.length os lv q)).getD g 0 = q.getD g 0 := by
        rw [renR, getD_map (by rw [R.len]; exact hg), ha _ hgl, getD_idx (hm _ hgl), idx_getD R.os hg]
      rw [List.getD_eq_getElem?_getD, List.getD_eq_getElem?_getD] at e
      rw [List.getElem?_eq_getElem (by rw [renR, List.length_map, R.len]; exact hg), List.getElem?_eq_getElem (by omega)] at e ⊢
      exact congrArg some e
    · rw [List.getElem?_eq_none (by rw [renR, List.length_map, R.len]; omega), List.getElem?_eq_none (by omega)]
theorem Ren.sgR (R : Ren ss os lv) {t : Nat} {P : List (Nat × Nat)} (h : IsS ss t P) : IsS (szR ss os) t (ord (renQ os lv P)) := by
  refine ord_is ?_ (by rw [renQ, List.length_map, h.len]) fun p hp => ?_
  · rw [renQ, List.map_map, List.nodup_iff_pairwise_ne, List.pairwise_map]
    refine List.Pairwise.imp_of_mem (fun {p q} hp hq hpq e => ?_) h.asc
    have e' : os.idxOf p.1 = os.idxOf q.1 := e
    have h1 := getD_idx (R.mem (h.ok p hp).1)
    rw [e', getD_idx (R.mem (h.ok q hq).1)] at h1
    omega
  · obtain ⟨q, hq, rfl⟩ := List.mem_map.mp hp
    obtain ⟨h1, h2⟩ := h.ok q hq
    refine ⟨by rw [R.szLen]; exact R.idx h1, ?_⟩
    show (lv q.1).getD q.2 0 < (szR ss os).getD (os.idxOf q.1) 0
    rw [R.sz2 h1]
    exact perm_lt (R.lv _ h1) h2
theorem Ren.sgU (R : Ren ss os lv) {t : Nat} {P : List (Nat × Nat)} (h : IsS (szR ss os) t P) : IsS ss t (ord (unQ os lv P)) ∧ ord (renQ os lv (ord (unQ os lv P))) = P := by
  have hk : ∀ p ∈ P, p.1 < ss.length ∧ p.2 < ss.getD (os.getD p.1 0) 0 := fun p hp => by
    obtain ⟨h1, h2⟩ := h.ok p hp
    rw [R.szLen] at h1
    rw [R.sz h1] at h2
    exact ⟨h1, h2⟩
  have hm : ∀ p ∈ P, p.2 ∈ lv (os.getD p.1 0) := fun p hp => (R.lv _ (R.lt (hk p hp).1)).mem_iff.mpr (List.mem_range.mpr (hk p hp).2)
  refine ⟨ord_is ?_ (by rw [unQ, List.length_map, h.len]) fun p hp => ?_, ord_eq h.asc ?_⟩
  · rw [unQ, List.map_map, List.nodup_iff_pairwise_ne, List.pairwise_map]
    refine List.Pairwise.imp_of_mem (fun {p q} hp hq hpq e => ?_) h.asc
    have := perm_inj R.os (hk p hp).1 (hk q hq).1 e
    omega
  · obtain ⟨q, hq, rfl⟩ := List.mem_map.mp hp
    refine ⟨R.lt (hk q hq).1, ?_⟩
    have := List.idxOf_lt_length_of_mem (hm q hq)
    rwa [(R.lv _ (R.lt (hk q hq).1)).length_eq, List.length_range] at this
  · refine ((ord_perm (unQ os lv P)).map _).trans ?_
    rw [unQ, List.map_map]
    refine List.Perm.of_eq ((List.map_congr_left fun p hp => ?_).trans (List.map_id P))
    show (os.idxOf (os.getD p.1 0), (lv (os.getD p.1 0)).getD ((lv (os.getD p.1 0)).idxOf p.2) 0) = p
    rw [idx_getD R.os (hk p hp).1, getD_idx (hm p hp)]
theorem Ren.back (R : Ren ss os lv) {t : Nat} {P : List (Nat × Nat)} (h : IsS ss t P) : ord (unQ os lv (ord (renQ os lv P))) = P := by
  refine ord_eq h.asc (((ord_perm (renQ os lv P)).map _).trans ?_)
  rw [renQ, List.map_map]
  refine List.Perm.of_eq ((List.map_congr_left fun p hp => ?_).trans (List.map_id P))
  obtain ⟨h1, h2⟩ := h.ok p hp
  show (os.getD (os.idxOf p.1) 0, (lv (os.getD (os.idxOf p.1) 0)).idxOf ((lv p.1).getD p.2 0)) = p
  rw [getD_idx (R.mem h1), idx_getD (R.lv _ h1) h2]
theorem Ren.has (R : Ren ss os lv) {t : Nat} {r : List Nat} {P : List (Nat × Nat)} (hr : RowOk ss r) (h : IsS ss t P) : hasP (renR os lv r) (ord (renQ os lv P)) = hasP r P := by
  rw [hasP_perm (ord_perm _), Bool.eq_iff_iff, hasP_iff, hasP_iff]
  have hr2 := (rowOk_iff.mp hr).2
  constructor
  · intro z p hp
    obtain ⟨h1, h2⟩ := h.ok p hp
    have := z _ (List.mem_map_of_mem hp)
    dsimp only at this
    rw [R.renAt h1] at this
    exact perm_inj (R.lv _ h1) (hr2 _ h1) h2 this
  · intro z q hq
    obtain ⟨p, hp, rfl⟩ := List.mem_map.mp hq
    dsimp only
    rw [R.renAt (h.ok p hp).1, z p hp]
theorem Ren.missing (R : Ren ss os lv) {t : Nat} {rs : List (List Nat)} (hr : ∀ r ∈ rs, RowOk ss r) : (miss (rs.map (renR os lv)) (szR ss os) t).Perm ((miss rs ss t).map fun P => ord (renQ os lv P)) := by
  refine (List.perm_ext_iff_of_nodup (miss_nodup _ _ _) ?_).mpr fun P => ?_
  · rw [List.nodup_iff_pairwise_ne, List.pairwise_map]
    refine List.Pairwise.imp_of_mem (fun {p q} hp hq hpq e => hpq ?_) (miss_nodup rs ss t)
    rw [← R.back (miss_is p hp), e, R.back (miss_is q hq)]
  · rw [mem_miss, List.mem_map]
    constructor
    · rintro ⟨h1, h2⟩
      obtain ⟨u1, u2⟩ := R.sgU h1
      refine ⟨_, mem_miss.mpr ⟨u1, fun r hrm => ?_⟩, u2⟩
      rw [← R.has (hr r hrm) u1, u2]
      exact h2 _ (List.mem_map_of_mem hrm)
    · rintro ⟨Q, hQ, rfl⟩
      obtain ⟨h1, h2⟩ := mem_miss.mp hQ
      refine ⟨R.sgR h1, fun r hrm => ?_⟩
      obtain ⟨q, hq, rfl⟩ := List.mem_map.mp hrm
      rw [R.has (hr q hq) h1]
      exact h2 q hq
theorem Ren.cnt (R : Ren ss os lv) {t : Nat} {left left' : List (List (Nat × Nat))} (hl : ∀ P ∈ left, IsS ss t P) (hp : left'.Perm (left.map fun P => ord (renQ os lv P))) {r : List Nat} (hr : RowOk ss r) : cnt left' (renR os lv r) = cnt left r := by
  unfold Zx.cnt
  rw [(hp.filter _).length_eq, List.filter_map, List.length_map]
  congr 1
  refine List.filter_congr fun P hP => ?_
  exact R.has hr (hl P hP)
theorem Ren.best (R : Ren ss os lv) {t : Nat} {left left' : List (List (Nat × Nat))} (hl : ∀ P ∈ left, IsS ss t P) (hp : left'.Perm (left.map fun P => ord (renQ os lv P))) {r q : List Nat} (h1 : Best ss left r) (h2 : Best (szR ss os) left' q) : Zx.cnt left' q = Zx.cnt left r := by
  obtain ⟨u1, u2⟩ := R.rowU (mem_rows.mp h2.1)
  have a := h2.2 _ (mem_rows.mpr (R.rowR (mem_rows.mp h1.1)))
  rw [R.cnt hl hp (mem_rows.mp h1.1)] at a
  have b := h1.2 _ (mem_rows.mpr u1)
  rw [← R.cnt hl hp u1, u2] at b
  omega
theorem Ren.cov (R : Ren ss os lv) {t : Nat} {c : List (List Nat)} (h : Cov (rows ss) (sgs ss t) c) : Cov (rows (szR ss os)) (sgs (szR ss os) t) (c.map (renR os lv)) := ⟨fun r hr => by
  obtain ⟨q, hq, rfl⟩ := List.mem_map.mp hr
  exact mem_rows.mpr (R.rowR (mem_rows.mp (h.mem q hq))), fun P hP => by
  obtain ⟨u1, u2⟩ := R.sgU (mem_sgs.mp hP)
  obtain ⟨r, h1, h2⟩ := h.cov _ (mem_sgs.mpr u1)
  refine ⟨_, List.mem_map_of_mem h1, ?_⟩
  rw [← R.has (mem_rows.mp (h.mem r h1)) u1, u2] at h2
  exact h2⟩
theorem Ren.cov' (R : Ren ss os lv) {t : Nat} {c : List (List Nat)} (h : Cov (rows (szR ss os)) (sgs (szR ss os) t) c) : Cov (rows ss) (sgs ss t) (c.map (unR ss.length os lv)) := ⟨fun r hr => by
  obtain ⟨q, hq, rfl⟩ := List.mem_map.mp hr
  exact mem_rows.mpr (R.rowU (mem_rows.mp (h.mem q hq))).1, fun P hP => by
  obtain ⟨r, h1, h2⟩ := h.cov _ (mem_sgs.mpr (R.sgR (mem_sgs.mp hP)))
  obtain ⟨u1, u2⟩ := R.rowU (mem_rows.mp (h.mem r h1))
  refine ⟨_, List.mem_map_of_mem h1, ?_⟩
  rw [← R.has u1 (mem_sgs.mp hP), u2]
  exact h2⟩
end
/-! a factor left out -/
def sh (g : Nat) (P : List (Nat × Nat)) : List (Nat × Nat) := P.map fun p => (if g < p.1 then p.1 - 1 else p.1, p.2)
def ush (g : Nat) (P : List (Nat × Nat)) : List (Nat × Nat) := P.map fun p => (if p.1 < g then p.1 else p.1 + 1, p.2)
theorem getD_er (l : List Nat) (g i : Nat) : (l.eraseIdx g).getD i 0 = l.getD (if i < g then i else i + 1) 0 := by
  rw [List.getD_eq_getElem?_getD, List.getD_eq_getElem?_getD, List.getElem?_eraseIdx]
  split <;> rfl
theorem er_len {l : List Nat} {g : Nat} (h : g < l.length) : (l.eraseIdx g).length = l.length - 1 := List.length_eraseIdx_of_lt h
theorem sh_is {ss : List Nat} {t g : Nat} {P : List (Nat × Nat)} (hg : g < ss.length) (h : IsS ss t P) (hn : ∀ p ∈ P, p.1 ≠ g) : IsS (ss.eraseIdx g) t (sh g P) := by
  refine ⟨?_, by rw [sh, List.length_map, h.len], fun p hp => ?_⟩
  · rw [sh, List.pairwise_map]
    refine List.Pairwise.imp_of_mem (fun {p q} hp hq hpq => ?_) h.asc
    have a := hn p hp
    have b := hn q hq
    dsimp only
    split <;> split <;> omega
  · obtain ⟨q, hq, rfl⟩ := List.mem_map.mp hp
    obtain ⟨h1, h2⟩ := h.ok q hq
    have a := hn q hq
    dsimp only
    rw [er_len hg, getD_er]
    by_cases hh : g < q.1
    · rw [if_pos hh, if_neg (by omega), show q.1 - 1 + 1 = q.1 by omega]
      exact ⟨by omega, h2⟩
    · rw [if_neg hh, if_pos (by omega)]
      exact ⟨by omega, h2⟩
theorem ush_is {ss : List Nat} {t g : Nat} {P : List (Nat × Nat)} (hg : g < ss.length) (h : IsS (ss.eraseIdx g) t P) : IsS ss t (ush g P) ∧ (∀ p ∈ ush g P, p.1 ≠ g) ∧ sh g (ush g P) = P := by
  refine ⟨⟨?_, by rw [ush, List.length_map, h.len], fun p hp => ?_⟩, fun p hp => ?_, ?_⟩
  · rw [ush, List.pairwise_map]
    refine h.asc.imp fun {p q} hpq => ?_
    dsimp only
    split <;> split <;> omega
  · obtain ⟨q, hq, rfl⟩ := List.mem_map.mp hp
    obtain ⟨h1, h2⟩ := h.ok q hq
    rw [er_len hg] at h1
    rw [getD_er] at h2
    dsimp only
    exact ⟨by split <;> omega, h2⟩
  · obtain ⟨q, hq, rfl⟩ := List.mem_map.mp hp
    dsimp only
    split <;> omega
  · rw [sh, ush, List.map_map]
    refine (List.map_congr_left fun p hp => ?_).trans (List.map_id P)
    show (if g < (if p.1 < g then p.1 else p.1 + 1) then (if p.1 < g then p.1 else p.1 + 1) - 1 else (if p.1 < g then p.1 else p.1 + 1), p.2) = p
    by_cases hh : p.1 < g
    · rw [if_pos hh, if_neg (by omega)]
    · rw [if_neg hh, if_pos (by omega), Nat.add_sub_cancel]
theorem sh_has {g : Nat} (r : List Nat) {P : List (Nat × Nat)} (hn : ∀ p ∈ P, p.1 ≠ g) : hasP (r.eraseIdx g) (sh g P) = hasP r P := by
  rw [Bool.eq_iff_iff, hasP_iff, hasP_iff]
  have e : ∀ p ∈ P, (r.eraseIdx g).getD (if g < p.1 then p.1 - 1 else p.1) 0 = r.getD p.1 0 := fun p hp => by
    have := hn p hp
    rw [getD_er]
    by_cases hh : g < p.1
    · rw [if_pos hh, if_neg (by omega), show p.1 - 1 + 1 = p.1 by omega]
    · rw [if_neg hh, if_pos (by omega)]
  constructor
  · intro z p hp
    rw [← e p hp]
    exact z _ (List.mem_map_of_mem hp)
  · intro z q hq
    obtain ⟨p, hp, rfl⟩ := List.mem_map.mp hq
    dsimp only
    rw [e p hp]
    exact z p hp
theorem listLt_map {f : Nat → Nat} : ∀ (a b : List Nat), (∀ x ∈ a ++ b, ∀ y ∈ a ++ b, (x < y ↔ f x < f y)) → listLt (a.map f) (b.map f) = listLt a b
  | [], [], _ => rfl
  | [], _ :: _, _ => rfl
  | _ :: _, [], _ => rfl
  | x :: a, y :: b, h => by
    rw [List.map_cons, List.map_cons, listLt, listLt]
    have h1 := h x (by simp) y (by simp)
    have h2 := h y (by simp) x (by simp)
    by_cases e : x = y
    · rw [if_pos e, if_pos (by rw [e])]
      exact listLt_map a b fun u hu v hv => h u (by simp at hu ⊢; rcases hu with z | z <;> simp [z]) v (by simp at hv ⊢; rcases hv with z | z <;> simp [z])
    · rw [if_neg e, if_neg (by omega)]
      show decide (f x < f y) = decide (x < y)
      rw [Bool.eq_iff_iff, decide_eq_true_eq, decide_eq_true_eq]
      exact h1.symm
theorem sh_lt {g : Nat} {P Q : List (Nat × Nat)} (hp : ∀ p ∈ P, p.1 ≠ g) (hq : ∀ p ∈ Q, p.1 ≠ g) : DatumOrd.lt (ofS (sh g P)) (ofS (sh g Q)) = DatumOrd.lt (ofS P) (ofS Q) := by
  have e1 : ∀ P : List (Nat × Nat), (sh g P).map (·.1) = (P.map (·.1)).map fun x => if g < x then x - 1 else x := fun P => by
    rw [sh, List.map_map, List.map_map]
    rfl
  have e2 : ∀ P : List (Nat × Nat), (sh g P).map (·.2) = P.map (·.2) := fun P => by
    rw [sh, List.map_map]
    rfl
  have hm : ∀ x ∈ P.map (·.1) ++ Q.map (·.1), x ≠ g := fun x hx => by
    rcases List.mem_append.mp hx with z | z
    · obtain ⟨p, h, rfl⟩ := List.mem_map.mp z
      exact hp p h
    · obtain ⟨p, h, rfl⟩ := List.mem_map.mp z
      exact hq p h
  have mono : ∀ x ∈ P.map (·.1) ++ Q.map (·.1), ∀ y ∈ P.map (·.1) ++ Q.map (·.1), (x < y ↔ (if g < x then x - 1 else x) < (if g < y then y - 1 else y)) := fun x hx y hy => by
    have a := hm x hx
    have b := hm y hy
    split <;> split <;> omega
  have key := listLt_map (P.map (·.1)) (Q.map (·.1)) mono
  have inj : (sh g P).map (·.1) = (sh g Q).map (·.1) ↔ P.map (·.1) = Q.map (·.1) := by
    rw [e1, e1]
    constructor
    · intro z
      have hlt : ∀ {a b : List Nat}, DatumOrd.lt a b = listLt a b := fun {a b} => rfl
      refine lt_tri ?_ ?_
      · rw [hlt, ← key, z, ← hlt, lt_irr]
      · have key' := listLt_map (Q.map (·.1)) (P.map (·.1)) (f := fun x => if g < x then x - 1 else x) fun x hx y hy => mono x (by rw [List.mem_append] at *; exact hx.symm) y (by rw [List.mem_append] at *; exact hy.symm)
        rw [hlt, ← key', z, ← hlt, lt_irr]
    · intro z
      rw [z]
  show (if (sh g P).map (·.1) = (sh g Q).map (·.1) then listLt ((sh g P).map (·.2)) ((sh g Q).map (·.2)) else listLt ((sh g P).map (·.1)) ((sh g Q).map (·.1))) = if P.map (·.1) = Q.map (·.1) then listLt (P.map (·.2)) (Q.map (·.2)) else listLt (P.map (·.1)) (Q.map (·.1))
  rw [e2, e2]
  by_cases h : P.map (·.1) = Q.map (·.1)
  · rw [if_pos h, if_pos (inj.mpr h)]
  · rw [if_neg h, if_neg (fun z => h (inj.mp z)), e1, e1, key]
theorem left_out {ss : List Nat} {t g : Nat} {rs : List (List Nat)} (hg : g < ss.length) : (miss (rs.map fun r => r.eraseIdx g) (ss.eraseIdx g) t) = ((miss rs ss t).filter fun P => decide (g ∉ P.map (·.1))).map (sh g) := by
  have hn : ∀ P : List (Nat × Nat), g ∉ P.map (·.1) ↔ ∀ p ∈ P, p.1 ≠ g := fun P => by
    constructor
    · intro h p hp e
      exact h (e ▸ List.mem_map_of_mem hp)
    · intro h z
      obtain ⟨p, hp, e⟩ := List.mem_map.mp z
      exact h p hp e
  have st : St ((((miss rs ss t).filter fun P => decide (g ∉ P.map (·.1))).map (sh g)).map ofS) := by
    have := miss_st rs ss t
    unfold St at *
    rw [List.pairwise_map] at this
    rw [List.pairwise_map, List.pairwise_map]
    refine List.Pairwise.imp_of_mem (fun {P Q} hP hQ h => ?_) (this.filter _)
    rw [sh_lt ((hn P).mp (of_decide_eq_true (List.mem_filter.mp hP).2)) ((hn Q).mp (of_decide_eq_true (List.mem_filter.mp hQ).2))]
    exact h
  have key := st_ext (miss_st (rs.map fun r => r.eraseIdx g) (ss.eraseIdx g) t) st fun x => by
    rw [List.mem_map, List.mem_map]
    have : ∀ P, P ∈ miss (rs.map fun r => r.eraseIdx g) (ss.eraseIdx g) t ↔ P ∈ ((miss rs ss t).filter fun P => decide (g ∉ P.map (·.1))).map (sh g) := fun P => by
      rw [mem_miss, List.mem_map]
      constructor
      · rintro ⟨h1, h2⟩
        obtain ⟨u1, u2, u3⟩ := ush_is hg h1
        refine ⟨_, List.mem_filter.mpr ⟨mem_miss.mpr ⟨u1, fun r hr => ?_⟩, decide_eq_true ((hn _).mpr u2)⟩, u3⟩
        rw [← sh_has r u2, u3]
        exact h2 _ (List.mem_map_of_mem hr)
      · rintro ⟨Q, hQ, rfl⟩
        obtain ⟨q1, q2⟩ := List.mem_filter.mp hQ
        obtain ⟨q3, q4⟩ := mem_miss.mp q1
        have q5 := (hn Q).mp (of_decide_eq_true q2)
        refine ⟨sh_is hg q3 q5, fun r hr => ?_⟩
        obtain ⟨s, hs, rfl⟩ := List.mem_map.mp hr
        rw [sh_has s q5]
        exact q4 s hs
    constructor
    · rintro ⟨P, hP, e⟩
      exact ⟨P, (this P).mp hP, e⟩
    · rintro ⟨P, hP, e⟩
      exact ⟨P, (this P).mpr hP, e⟩
  exact List.map_inj_right (f := ofS) (fun {a b} h => ofS_inj h) |>.mp key
end Zx
/-! C1: faults, plain. -/
namespace Zx
open PySem PySem.Spec L2 PySem.W
abbrev Sg := List (Nat × Nat)
/-- a run has one of the sights -/
def an (r : List Nat) (F : List Sg) : Bool := F.any fun P => hasP r P
/-- the runs that fail -/
def fl (rs : List (List Nat)) (F : List Sg) : List Nat := (List.range rs.length).filter fun k => an (rs.getD k []) F
theorem fl_asc (rs : List (List Nat)) (F : List Sg) : Asc (fl rs F) := List.Pairwise.filter _ List.pairwise_lt_range
theorem mem_fl {rs : List (List Nat)} {F : List Sg} {k : Nat} : k ∈ fl rs F ↔ k < rs.length ∧ an (rs.getD k []) F = true := by
  unfold fl
  rw [List.mem_filter, List.mem_range]
theorem asc_ext {a b : List Nat} (ha : Asc a) (hb : Asc b) (h : ∀ x, x ∈ a ↔ x ∈ b) : a = b := by
  have hu : ∀ {l : List Nat}, Asc l → St l := fun {l} h => h.imp fun {x y} hxy => decide_eq_true hxy
  exact st_ext (hu ha) (hu hb) h
theorem getD_mem {rs : List (List Nat)} {k : Nat} (h : k < rs.length) : rs.getD k [] ∈ rs := by
  rw [List.getD_eq_getElem?_getD, List.getElem?_eq_getElem h]
  exact List.getElem_mem _
theorem fl_eq {rs : List (List Nat)} {F G : List Sg} : fl rs F = fl rs G ↔ ∀ r ∈ rs, an r F = an r G := by
  constructor
  · intro h r hr
    obtain ⟨k, hk, rfl⟩ := List.mem_iff_getElem.mp hr
    have e : rs.getD k [] = rs[k] := by rw [List.getD_eq_getElem?_getD, List.getElem?_eq_getElem hk]; rfl
    have := mem_fl (rs := rs) (F := F) (k := k)
    rw [h, mem_fl, e] at this
    rw [Bool.eq_iff_iff]
    exact ⟨fun z => (this.mpr ⟨hk, z⟩).2, fun z => (this.mp ⟨hk, z⟩).2⟩
  · intro h
    unfold fl
    refine List.filter_congr fun k hk => ?_
    exact h _ (getD_mem (List.mem_range.mp hk))
theorem fl_nil (rs : List (List Nat)) : fl rs [] = [] := by
  unfold fl
  rw [List.filter_eq_nil_iff]
  intro k _ h
  simp [an] at h
theorem an_append (r : List Nat) (F G : List Sg) : an r (F ++ G) = (an r F || an r G) := List.any_append
theorem an_mem {r : List Nat} {F G : List Sg} (h : ∀ P, P ∈ F ↔ P ∈ G) : an r F = an r G := by
  unfold an
  rw [Bool.eq_iff_iff, List.any_eq_true, List.any_eq_true]
  exact ⟨fun ⟨P, a, b⟩ => ⟨P, (h P).mp a, b⟩, fun ⟨P, a, b⟩ => ⟨P, (h P).mpr a, b⟩⟩
theorem fl_both {rs : List (List Nat)} {F G H : List Sg} {T : List Nat} (h : ∀ P, P ∈ H ↔ P ∈ F ++ G) (ht : Asc T) (hm : ∀ x, x ∈ T ↔ x ∈ fl rs F ++ fl rs G) : fl rs H = T := by
  refine asc_ext (fl_asc _ _) ht fun x => ?_
  rw [hm, List.mem_append, mem_fl, mem_fl, mem_fl, an_mem h, an_append, Bool.or_eq_true]
  constructor
  · rintro ⟨a, b | b⟩
    · exact .inl ⟨a, b⟩
    · exact .inr ⟨a, b⟩
  · rintro (⟨a, b⟩ | ⟨a, b⟩)
    · exact ⟨a, .inl b⟩
    · exact ⟨a, .inr b⟩
theorem fl_rev (rs : List (List Nat)) (F : List Sg) : ((fl rs F).map fun k => rs.length - 1 - k).mergeSort leB = fl rs.reverse F := by
  have hu : ∀ {l : List Nat}, Asc l → Up l := fun {l} h => up_of_lt (h.imp fun {x y} hxy => decide_eq_true hxy)
  refine sort_eq ?_ (hu (fl_asc _ _))
  refine (List.perm_ext_iff_of_nodup ?_ ((fl_asc rs.reverse F).imp fun {a b} h => by omega)).mpr fun x => ?_
  · rw [List.nodup_iff_pairwise_ne, List.pairwise_map]
    refine List.Pairwise.imp_of_mem (fun {a b} ha hb hab e => ?_) (fl_asc rs F)
    have := (mem_fl.mp ha).1
    have := (mem_fl.mp hb).1
    omega
  · have key : ∀ k, k < rs.length → rs.reverse.getD k [] = rs.getD (rs.length - 1 - k) [] := fun k hk => by
      rw [List.getD_eq_getElem?_getD, List.getD_eq_getElem?_getD, List.getElem?_reverse hk]
    rw [List.mem_map, mem_fl, List.length_reverse]
    constructor
    · rintro ⟨k, hk, rfl⟩
      obtain ⟨h1, h2⟩ := mem_fl.mp hk
      refine ⟨by omega, ?_⟩
      rw [key _ (by omega), show rs.length - 1 - (rs.length - 1 - k) = k by omega]
      exact h2
    · rintro ⟨h1, h2⟩
      rw [key _ h1] at h2
      exact ⟨rs.length - 1 - x, mem_fl.mpr ⟨by omega, h2⟩, by omega⟩
theorem fl_append (rs ms : List (List Nat)) (F : List Sg) : fl (rs ++ ms) F = fl rs F ++ (fl ms F).map fun k => rs.length + k := by
  have hp : Asc (fl rs F ++ (fl ms F).map fun k => rs.length + k) := by
    refine List.pairwise_append.mpr ⟨fl_asc _ _, ?_, fun a ha b hb => ?_⟩
    · rw [List.pairwise_map]
      exact (fl_asc ms F).imp fun {a b} h => by omega
    · obtain ⟨k, _, rfl⟩ := List.mem_map.mp hb
      have := (mem_fl.mp ha).1
      omega
  refine asc_ext (fl_asc _ _) hp fun x => ?_
  rw [mem_fl, List.mem_append, mem_fl, List.mem_map, List.length_append]
  constructor
  · rintro ⟨h1, h2⟩
    by_cases hx : x < rs.length
    · left
      rw [List.getD_eq_getElem?_getD, List.getElem?_append_left hx, ← List.getD_eq_getElem?_getD] at h2
      exact ⟨hx, h2⟩
    · right
      rw [List.getD_eq_getElem?_getD, List.getElem?_append_right (by omega), ← List.getD_eq_getElem?_getD] at h2
      exact ⟨x - rs.length, mem_fl.mpr ⟨by omega, h2⟩, by omega⟩
  · rintro (⟨h1, h2⟩ | ⟨k, hk, rfl⟩)
    · refine ⟨by omega, ?_⟩
      rw [List.getD_eq_getElem?_getD, List.getElem?_append_left h1, ← List.getD_eq_getElem?_getD]
      exact h2
    · obtain ⟨h1, h2⟩ := mem_fl.mp hk
      refine ⟨by omega, ?_⟩
      rw [List.getD_eq_getElem?_getD, List.getElem?_append_right (by omega), ← List.getD_eq_getElem?_getD, show rs.length + k - rs.length = k by omega]
      exact h2
/-! ### lists of faults -/
def accL (m : Nat) : List Sg → List (List Sg) → List (List Sg)
  | [], acc => acc
  | s :: S, acc => accL m S (acc ++ (acc.filter fun F => decide (F.length < m)).map fun F => F ++ [s])
theorem mem_accL {m : Nat} : ∀ (S : List Sg) (acc : List (List Sg)) (F : List Sg), F ∈ accL m S acc ↔ ∃ G ∈ acc, ∃ H, F = G ++ H ∧ H.Sublist S ∧ (H = [] ∨ F.length ≤ m)
  | [], acc, F => by
    unfold accL
    constructor
    · intro h
      exact ⟨F, h, [], by simp, List.Sublist.slnil, .inl rfl⟩
    · rintro ⟨G, hG, H, rfl, hs, _⟩
      rw [List.sublist_nil.mp hs, List.append_nil]
      exact hG
  | s :: S, acc, F => by
    rw [accL, mem_accL S]
    constructor
    · rintro ⟨G, hG, H, rfl, hs, hl⟩
      rcases List.mem_append.mp hG with h1 | h1
      · exact ⟨G, h1, H, rfl, hs.cons s, hl⟩
      · obtain ⟨G', h2, rfl⟩ := List.mem_map.mp h1
        obtain ⟨h3, h4⟩ := List.mem_filter.mp h2
        have h4 := of_decide_eq_true h4
        refine ⟨G', h3, s :: H, by simp, hs.cons_cons s, .inr ?_⟩
        rcases hl with rfl | hl
        · simp; omega
        · exact hl
    · rintro ⟨G, hG, H, rfl, hs, hl⟩
      cases hs with
      | cons _ hs => exact ⟨G, List.mem_append_left _ hG, H, rfl, hs, hl⟩
      | @cons_cons H' _ _ hs =>
        rcases hl with hl | hl
        · cases hl
        · have hl' := hl
          rw [List.length_append, List.length_cons] at hl
          exact ⟨G ++ [s], List.mem_append_right _ (List.mem_map.mpr ⟨G, List.mem_filter.mpr ⟨hG, decide_eq_true (by omega)⟩, rfl⟩), H', by simp, hs, .inr hl'⟩
theorem mem_lists {m : Nat} {S : List Sg} {F : List Sg} : F ∈ accL m S [[]] ↔ F.Sublist S ∧ F.length ≤ m := by
  rw [mem_accL]
  constructor
  · rintro ⟨G, hG, H, rfl, hs, hl⟩
    rw [List.mem_singleton.mp hG, List.nil_append] at *
    refine ⟨hs, ?_⟩
    rcases hl with rfl | hl
    · exact Nat.zero_le _
    · exact hl
  · rintro ⟨h1, h2⟩
    exact ⟨[], List.mem_singleton.mpr rfl, F, rfl, h1, .inr h2⟩
theorem accL_nodup {m : Nat} : ∀ (S done : List Sg) (acc : List (List Sg)), (done ++ S).Nodup → (∀ F ∈ acc, ∀ P ∈ F, P ∈ done) → acc.Nodup → (accL m S acc).Nodup
  | [], _, _, _, _, h => h
  | s :: S, done, acc, hn, hm, h => by
    have e : done ++ s :: S = (done ++ [s]) ++ S := by simp
    have hs : s ∉ done := by
      have := (List.nodup_append.mp hn).2.2
      intro z
      exact this s z s List.mem_cons_self rfl
    rw [accL]
    refine accL_nodup S (done ++ [s]) _ (e ▸ hn) (fun F hF P hP => ?_) ?_
    · rcases List.mem_append.mp hF with h1 | h1
      · exact List.mem_append_left _ (hm F h1 P hP)
      · obtain ⟨G, h2, rfl⟩ := List.mem_map.mp h1
        rcases List.mem_append.mp hP with h3 | h3
        · exact List.mem_append_left _ (hm G (List.mem_filter.mp h2).1 P h3)
        · exact List.mem_append_right _ h3
    · refine List.nodup_append.mpr ⟨h, ?_, fun F hF G hG e => ?_⟩
      · rw [List.nodup_iff_pairwise_ne, List.pairwise_map]
        exact (h.filter _).imp fun {a b} hab e => hab (List.append_cancel_right e)
      · obtain ⟨G', _, rfl⟩ := List.mem_map.mp hG
        exact hs (hm F hF s (by rw [e]; simp))
theorem lists_nodup {m : Nat} {S : List Sg} (h : S.Nodup) : (accL m S [[]]).Nodup := accL_nodup S [] [[]] (by simpa using h) (fun F hF P hP => by rw [List.mem_singleton.mp hF] at hP; cases hP) (by simp)
theorem accL_len (m : Nat) : ∀ (S : List Sg) (acc : List (List Sg)), (accL m S acc).length ≤ acc.length * 2 ^ S.length
  | [], acc => by simp [accL]
  | s :: S, acc => by
    rw [accL]
    refine Nat.le_trans (accL_len m S _) ?_
    have := List.length_filter_le (fun F : List Sg => decide (F.length < m)) acc
    rw [List.length_append, List.length_map, List.length_cons, Nat.pow_succ, Nat.mul_comm (2 ^ _) 2, ← Nat.mul_assoc]
    exact Nat.mul_le_mul_right _ (by omega)
/-- their order -/
def kF (F : List Sg) : Nat × List (List Nat × Tup Nat) := (F.length, F.map ofS)
def leF (F G : List Sg) : Bool := leB (kF F) (kF G)
def lsF (S : List Sg) (m : Nat) : List (List Sg) := (accL m S [[]]).mergeSort leF
theorem mem_lsF {S : List Sg} {m : Nat} {F : List Sg} : F ∈ lsF S m ↔ F.Sublist S ∧ F.length ≤ m := by
  unfold lsF
  rw [(List.mergeSort_perm _ leF).mem_iff, mem_lists]
theorem lsF_nodup {S : List Sg} (h : S.Nodup) (m : Nat) : (lsF S m).Nodup := (List.mergeSort_perm _ leF).nodup_iff.mpr (lists_nodup h)
/-! ### the first pair -/
section
variable {α β : Type} [DecidableEq β]
def fp (g : α → β) : List α → Option (α × α)
  | [] => none
  | x :: xs => match xs.find? fun y => decide (g y = g x) with
    | some y => some (x, y)
    | none => fp g xs
theorem fp_none {g : α → β} : ∀ {L : List α}, fp g L = none ↔ L.Pairwise fun x y => g y ≠ g x
  | [] => ⟨fun _ => .nil, fun _ => rfl⟩
  | x :: xs => by
    rw [fp, List.pairwise_cons]
    cases h : xs.find? fun y => decide (g y = g x) with
    | some y =>
      have h1 := List.find?_some h
      have h2 := List.mem_of_find?_eq_some h
      constructor
      · intro z; cases z
      · rintro ⟨z, _⟩
        exact absurd (of_decide_eq_true h1) (z y h2)
    | none =>
      rw [List.find?_eq_none] at h
      dsimp only
      rw [fp_none]
      exact ⟨fun z => ⟨fun y hy e => h y hy (decide_eq_true e), z⟩, fun z => z.2⟩
theorem fp_some {g : α → β} : ∀ {L : List α} {p : α × α}, fp g L = some p → p.1 ∈ L ∧ p.2 ∈ L ∧ g p.2 = g p.1
  | [], p, h => by cases h
  | x :: xs, p, h => by
    rw [fp] at h
    cases hf : xs.find? fun y => decide (g y = g x) with
    | some y =>
      rw [hf] at h
      cases h
      exact ⟨List.mem_cons_self, List.mem_cons_of_mem _ (List.mem_of_find?_eq_some hf), of_decide_eq_true (List.find?_some (p := fun y => decide (g y = g x)) hf)⟩
    | none =>
      rw [hf] at h
      obtain ⟨a, b, c⟩ := fp_some h
      exact ⟨List.mem_cons_of_mem _ a, List.mem_cons_of_mem _ b, c⟩
theorem fp_congr {g g' : α → β} (h : ∀ x y, g x = g y ↔ g' x = g' y) : ∀ L : List α, fp g L = fp g' L
  | [] => rfl
  | x :: xs => by
    rw [fp, fp, fp_congr h xs]
    have : (fun y => decide (g y = g x)) = fun y => decide (g' y = g' x) := funext fun y => decide_eq_decide.mpr (h y x)
    rw [this]
theorem find_idx {g : α → β} {x y : α} : ∀ {xs : List α}, (xs.find? fun y => decide (g y = g x)) = some y → xs[(xs.map g).idxOf (g x)]? = some y
  | [], h => by cases h
  | z :: xs, h => by
    rw [List.find?_cons] at h
    rw [List.map_cons, List.idxOf_cons]
    by_cases e : g z = g x
    · rw [decide_eq_true e] at h
      cases h
      rw [e]
      simp
    · rw [decide_eq_false e] at h
      have : (g z == g x) = false := beq_eq_false_iff_ne.mpr e
      rw [this]
      exact find_idx h
end
theorem fp_less {S : List Sg} {g : List Sg → List Nat} (hS : S.Nodup) {m n : Nat} (h : m ≤ n) (h0 : fp g (lsF S n) = none) : fp g (lsF S m) = none := by
  rw [fp_none] at h0 ⊢
  have key : ∀ x ∈ lsF S n, ∀ y ∈ lsF S n, x ≠ y → g y ≠ g x := by
    intro x hx y hy hxy
    obtain ⟨i, hi, rfl⟩ := List.mem_iff_getElem.mp hx
    obtain ⟨j, hj, rfl⟩ := List.mem_iff_getElem.mp hy
    rcases Nat.lt_trichotomy i j with h1 | h1 | h1
    · exact List.pairwise_iff_getElem.mp h0 i j hi hj h1
    · subst h1; exact absurd rfl hxy
    · exact fun e => List.pairwise_iff_getElem.mp h0 j i hj hi h1 e.symm
  have sub : ∀ x ∈ lsF S m, x ∈ lsF S n := fun x hx => by
    obtain ⟨a, b⟩ := mem_lsF.mp hx
    exact mem_lsF.mpr ⟨a, by omega⟩
  have hn : (lsF S m).Pairwise (· ≠ ·) := List.nodup_iff_pairwise_ne.mp (lsF_nodup hS m)
  exact List.Pairwise.imp_of_mem (fun {x y} hx hy hxy => key x (sub x hx) y (sub y hy) hxy) hn
theorem fp_one {S : List Sg} {g : List Sg → List Nat} (hS : S.Nodup) {m : Nat} (h0 : fp g (lsF S m) = none) {A : List Sg} (hA : A ∈ lsF S m) : (lsF S m).filter (fun F => decide (g F = g A)) = [A] := by
  rw [fp_none] at h0
  have hp : ((lsF S m).filter fun F => decide (g F = g A)).Perm [A] := by
    refine (List.perm_ext_iff_of_nodup ((lsF_nodup hS m).filter _) (by simp)).mpr fun F => ?_
    rw [List.mem_filter, decide_eq_true_eq, List.mem_singleton]
    constructor
    · rintro ⟨h1, h2⟩
      apply Classical.byContradiction
      intro hn
      obtain ⟨i, hi, rfl⟩ := List.mem_iff_getElem.mp h1
      obtain ⟨j, hj, rfl⟩ := List.mem_iff_getElem.mp hA
      rcases Nat.lt_trichotomy i j with h3 | h3 | h3
      · exact List.pairwise_iff_getElem.mp h0 i j hi hj h3 h2.symm
      · subst h3; exact hn rfl
      · exact List.pairwise_iff_getElem.mp h0 j i hj hi h3 h2
    · rintro rfl
      exact ⟨hA, rfl⟩
  exact List.perm_singleton.mp hp
end Zx
/-! E1 (plain, k95): words over two levels (solve, Gp), runs of a group cover (lin_cov); even runs (Ev). -/
namespace Zx
open PySem PySem.Spec L2
theorem asc_st {l : List Nat} (h : Asc l) : St l := h.imp fun {x y} hxy => decide_eq_true hxy
theorem st_asc {l : List Nat} (h : St l) : Asc l := h.imp fun {x y} hxy => of_decide_eq_true hxy
theorem Asc.nodup {l : List Nat} (h : Asc l) : l.Nodup := (asc_st h).nodup
/-- what is in one of the two only -/
def xr (a b : List Nat) : List Nat := (a.filter (fun x => decide (x ∉ b)) ++ b.filter (fun x => decide (x ∉ a))).mergeSort leB
theorem mem_xr {a b : List Nat} {x : Nat} : x ∈ xr a b ↔ (x ∈ a ∧ x ∉ b) ∨ (x ∈ b ∧ x ∉ a) := by
  rw [xr, mem_sort, List.mem_append, List.mem_filter, List.mem_filter, decide_eq_true_eq, decide_eq_true_eq]
theorem xr_nd {a b : List Nat} (ha : Asc a) (hb : Asc b) : (a.filter (fun x => decide (x ∉ b)) ++ b.filter (fun x => decide (x ∉ a))).Nodup := by
  rw [List.nodup_append]
  refine ⟨ha.nodup.filter _, hb.nodup.filter _, fun x hx y hy e => ?_⟩
  subst e
  rw [List.mem_filter, decide_eq_true_eq] at hx hy
  exact hx.2 hy.1
theorem xr_asc {a b : List Nat} (ha : Asc a) (hb : Asc b) : Asc (xr a b) := st_asc (st_sort (xr_nd ha hb))
theorem sum_part (f : Nat → Nat) (p : Nat → Bool) : ∀ l : List Nat, (l.map f).sum = ((l.filter p).map f).sum + ((l.filter fun x => !p x).map f).sum
  | [] => rfl
  | x :: l => by
    have := sum_part f p l
    rw [List.filter_cons, List.filter_cons]
    cases hp : p x
    · simp only [Bool.false_eq_true, if_false, Bool.not_false, if_true, List.map_cons, List.sum_cons]
      omega
    · simp only [Bool.not_true, Bool.false_eq_true, if_false, if_true, List.map_cons, List.sum_cons]
      omega
theorem xr_sum {a b : List Nat} (f : Nat → Nat) (ha : Asc a) (hb : Asc b) : ((xr a b).map f).sum % 2 = ((a.map f).sum + (b.map f).sum) % 2 := by
  have h1 := sum_part f (fun x => decide (x ∉ b)) a
  have h2 := sum_part f (fun x => decide (x ∉ a)) b
  have h3 : (a.filter fun x => !(decide (x ∉ b))) = b.filter fun x => !(decide (x ∉ a)) := by
    refine asc_ext (List.Pairwise.filter _ ha) (List.Pairwise.filter _ hb) fun x => ?_
    rw [List.mem_filter, List.mem_filter]
    simp only [decide_not, Bool.not_not, decide_eq_true_eq]
    exact ⟨fun h => ⟨h.2, h.1⟩, fun h => ⟨h.2, h.1⟩⟩
  have h4 : ((xr a b).map f).sum = ((a.filter fun x => decide (x ∉ b)).map f).sum + ((b.filter fun x => decide (x ∉ a)).map f).sum := by
    rw [xr, List.Perm.sum_nat ((List.mergeSort_perm _ leB).map f), List.map_append, List.sum_append]
  rw [h3] at h1
  omega
theorem flip_sum {w : List Nat} {v : Nat} (f : Nat → Nat) (hf : f v < 2) (hw : Asc w) (hv : v ∈ w) :
    ((w.map fun i => if i = v then 1 - f v else f i).sum) % 2 = ((w.map f).sum + 1) % 2 := by
  have p := List.perm_cons_erase hv
  have nd := hw.nodup
  have e : (w.erase v).map (fun i => if i = v then 1 - f v else f i) = (w.erase v).map f := by
    refine List.map_congr_left fun i hi => ?_
    rw [if_neg]
    intro e
    subst e
    exact (nd.mem_erase_iff.mp hi).1 rfl
  rw [List.Perm.sum_nat (p.map _), List.Perm.sum_nat (p.map f), List.map_cons, List.map_cons, List.sum_cons, List.sum_cons, e, if_pos rfl]
  omega
theorem solve {F : List (List Nat)} (hA : ∀ g ∈ F, Asc g) (hc : ∀ a ∈ F, ∀ b ∈ F, xr a b ∈ F) {T : List Nat} (p : Nat → Nat) (hp : ∀ i, p i < 2)
    (h : ∀ g ∈ F, (∀ i ∈ g, i ∈ T) → g = []) : ∀ (k : Nat) (W : List (List Nat)), W.length = k → (∀ w ∈ W, w ∈ F) →
      ∃ x : Nat → Nat, (∀ i, x i < 2) ∧ (∀ i ∈ T, x i = p i) ∧ ∀ w ∈ W, (w.map x).sum % 2 = 0
  | 0, W, hk, _ => ⟨p, hp, fun _ _ => rfl, fun w hw => by
      rw [List.eq_nil_of_length_eq_zero hk] at hw
      cases hw⟩
  | k + 1, [], hk, _ => by cases hk
  | k + 1, w :: W, hk, hW => by
    have hk' : W.length = k := by simpa using hk
    have hw := hW w (List.mem_cons_self ..)
    by_cases hs : ∀ i ∈ w, i ∈ T
    · obtain ⟨x, x1, x2, x3⟩ := solve hA hc p hp h k W hk' fun u hu => hW u (List.mem_cons_of_mem _ hu)
      refine ⟨x, x1, x2, fun u hu => ?_⟩
      rcases List.mem_cons.mp hu with rfl | hu
      · rw [h u hw hs]
        rfl
      · exact x3 u hu
    · have : ∃ v ∈ w, v ∉ T := Classical.byContradiction fun hn => hs fun i hi => Classical.byContradiction fun hi2 => hn ⟨i, hi, hi2⟩
      obtain ⟨v, v1, v2⟩ := this
      obtain ⟨x, x1, x2, x3⟩ := solve hA hc p hp h k (W.map fun u => if v ∈ u then xr u w else u) (by rw [List.length_map, hk']) (fun u hu => by
        obtain ⟨u', hu', rfl⟩ := List.mem_map.mp hu
        have := hW u' (List.mem_cons_of_mem _ hu')
        by_cases hv : v ∈ u'
        · rw [if_pos hv]
          exact hc _ this _ hw
        · rw [if_neg hv]
          exact this)
      have key : ∃ y : Nat → Nat, (∀ i, y i < 2) ∧ (∀ i ∈ T, y i = p i) ∧ (∀ u ∈ W.map fun u => if v ∈ u then xr u w else u, (u.map y).sum % 2 = 0) ∧ (w.map y).sum % 2 = 0 := by
        by_cases he : (w.map x).sum % 2 = 0
        · exact ⟨x, x1, x2, x3, he⟩
        · refine ⟨fun i => if i = v then 1 - x v else x i, fun i => ?_, fun i hi => ?_, fun u hu => ?_, ?_⟩
          · by_cases e : i = v
            · simp only [e, if_true]
              omega
            · simp only [e, if_false]
              exact x1 i
          · have e : i ≠ v := fun e => v2 (e ▸ hi)
            simp only [e, if_false]
            exact x2 i hi
          · rw [← x3 u hu]
            congr 2
            refine List.map_congr_left fun i hi => ?_
            have e : i ≠ v := fun e => by
              subst e
              obtain ⟨u', hu', rfl⟩ := List.mem_map.mp hu
              by_cases hv : i ∈ u'
              · rw [if_pos hv, mem_xr] at hi
                rcases hi with hi | hi
                · exact hi.2 v1
                · exact hi.2 hv
              · rw [if_neg hv] at hi
                exact hv hi
            simp only [e, if_false]
          · rw [flip_sum x (x1 v) (hA w hw) v1]
            omega
      obtain ⟨y, y1, y2, y3, y4⟩ := key
      refine ⟨y, y1, y2, fun u hu => ?_⟩
      rcases List.mem_cons.mp hu with rfl | hu
      · exact y4
      · have := y3 _ (List.mem_map.mpr ⟨u, hu, rfl⟩)
        by_cases hv : v ∈ u
        · rw [if_pos hv, xr_sum y (hA u (hW u (List.mem_cons_of_mem _ hu))) (hA w hw)] at this
          omega
        · rw [if_neg hv] at this
          exact this
/-- a group of words -/
def grp (F : List (List Nat)) : List (List Nat) → List (List Nat)
  | [] => F
  | w :: ws => grp (if w ∈ F then F else F ++ F.map (xr w)) ws
structure Gp (n : Nat) (F : List (List Nat)) : Prop where
  asc : ∀ g ∈ F, Asc g
  lt : ∀ g ∈ F, ∀ i ∈ g, i < n
  nil : [] ∈ F
  cl : ∀ a ∈ F, ∀ b ∈ F, xr a b ∈ F
theorem Gp.one (n : Nat) : Gp n [[]] := ⟨fun g hg => (by rw [List.mem_singleton.mp hg]; exact List.Pairwise.nil), fun g hg i hi => (by rw [List.mem_singleton.mp hg] at hi; cases hi), (by simp), fun a ha b hb => (by
  rw [List.mem_singleton.mp ha, List.mem_singleton.mp hb]
  simp [xr])⟩
theorem Gp.step {n : Nat} {F : List (List Nat)} {w : List Nat} (G : Gp n F) (hw : Asc w) (hl : ∀ i ∈ w, i < n) : Gp n (F ++ F.map (xr w)) := by
  refine ⟨fun g hg => ?_, fun g hg i hi => ?_, List.mem_append_left _ G.nil, fun a ha b hb => ?_⟩
  · rcases List.mem_append.mp hg with hg | hg
    · exact G.asc g hg
    · obtain ⟨a, ha, rfl⟩ := List.mem_map.mp hg
      exact xr_asc hw (G.asc a ha)
  · rcases List.mem_append.mp hg with hg | hg
    · exact G.lt g hg i hi
    · obtain ⟨a, ha, rfl⟩ := List.mem_map.mp hg
      rcases mem_xr.mp hi with h | h
      · exact hl i h.1
      · exact G.lt a ha i h.1
  · rcases List.mem_append.mp ha with ha | ha <;> rcases List.mem_append.mp hb with hb | hb
    · exact List.mem_append_left _ (G.cl a ha b hb)
    · obtain ⟨b, hb', rfl⟩ := List.mem_map.mp hb
      replace hb := hb'
      refine List.mem_append_right _ (List.mem_map.mpr ⟨xr a b, G.cl a ha b hb, ?_⟩)
      refine asc_ext (xr_asc hw (G.asc _ (G.cl a ha b hb))) (xr_asc (G.asc a ha) (xr_asc hw (G.asc b hb))) fun x => ?_
      simp only [mem_xr]
      by_cases x1 : x ∈ a <;> by_cases x2 : x ∈ b <;> by_cases x3 : x ∈ w <;> simp [x1, x2, x3]
    · obtain ⟨a, ha', rfl⟩ := List.mem_map.mp ha
      replace ha := ha'
      refine List.mem_append_right _ (List.mem_map.mpr ⟨xr a b, G.cl a ha b hb, ?_⟩)
      refine asc_ext (xr_asc hw (G.asc _ (G.cl a ha b hb))) (xr_asc (xr_asc hw (G.asc a ha)) (G.asc b hb)) fun x => ?_
      simp only [mem_xr]
      by_cases x1 : x ∈ a <;> by_cases x2 : x ∈ b <;> by_cases x3 : x ∈ w <;> simp [x1, x2, x3]
    · obtain ⟨a, ha', rfl⟩ := List.mem_map.mp ha
      obtain ⟨b, hb', rfl⟩ := List.mem_map.mp hb
      replace ha := ha'
      replace hb := hb'
      have e : xr (xr w a) (xr w b) = xr a b := by
        refine asc_ext (xr_asc (xr_asc hw (G.asc a ha)) (xr_asc hw (G.asc b hb))) (xr_asc (G.asc a ha) (G.asc b hb)) fun x => ?_
        simp only [mem_xr]
        by_cases x1 : x ∈ a <;> by_cases x2 : x ∈ b <;> by_cases x3 : x ∈ w <;> simp [x1, x2, x3]
      rw [e]
      exact List.mem_append_left _ (G.cl a ha b hb)
theorem xr_nil {w : List Nat} (hw : Asc w) : xr w [] = w := asc_ext (xr_asc hw List.Pairwise.nil) hw fun x => by simp [mem_xr]
theorem grp_ok {n : Nat} : ∀ (ws F : List (List Nat)), Gp n F → (∀ w ∈ ws, Asc w ∧ ∀ i ∈ w, i < n) →
    Gp n (grp F ws) ∧ (∀ g ∈ F, g ∈ grp F ws) ∧ (∀ w ∈ ws, w ∈ grp F ws) ∧ (grp F ws).length ≤ F.length * 2 ^ ws.length
  | [], F, G, _ => ⟨G, fun _ h => h, fun w hw => (by cases hw), (by simp [grp])⟩
  | w :: ws, F, G, h => by
    obtain ⟨hw, hl⟩ := h w (List.mem_cons_self ..)
    have h' := fun u hu => h u (List.mem_cons_of_mem _ hu)
    by_cases hm : w ∈ F
    · have e : grp F (w :: ws) = grp F ws := by rw [grp, if_pos hm]
      rw [e]
      obtain ⟨a, b, c, d⟩ := grp_ok ws F G h'
      refine ⟨a, b, fun u hu => ?_, ?_⟩
      · rcases List.mem_cons.mp hu with rfl | hu
        · exact b _ hm
        · exact c u hu
      · rw [List.length_cons, Nat.pow_succ]
        have : F.length * 2 ^ ws.length ≤ F.length * (2 ^ ws.length * 2) := Nat.mul_le_mul_left _ (by omega)
        omega
    · have e : grp F (w :: ws) = grp (F ++ F.map (xr w)) ws := by rw [grp, if_neg hm]
      rw [e]
      obtain ⟨a, b, c, d⟩ := grp_ok ws _ (G.step hw hl) h'
      refine ⟨a, fun g hg => b g (List.mem_append_left _ hg), fun u hu => ?_, ?_⟩
      · rcases List.mem_cons.mp hu with rfl | hu
        · exact b _ (List.mem_append_right _ (List.mem_map.mpr ⟨[], G.nil, xr_nil hw⟩))
        · exact c u hu
      · rw [List.length_append, List.length_map] at d
        rw [List.length_cons, Nat.pow_succ, Nat.mul_comm (2 ^ _) 2, ← Nat.mul_assoc, Nat.mul_two]
        exact d
def evn (w r : List Nat) : Bool := decide ((w.map fun i => r.getD i 0).sum % 2 = 0)
/-- the runs that are even at all words -/
def linR (n : Nat) (ws : List (List Nat)) : List (List Nat) := (rows (List.replicate n 2)).filter fun r => ws.all fun w => evn w r
theorem rep_getD {n i : Nat} (h : i < n) : (List.replicate n 2).getD i 0 = 2 := by
  rw [List.getD_eq_getElem?_getD, List.getElem?_replicate, if_pos h]
  rfl
theorem rangeD {n i : Nat} {f : Nat → Nat} (h : i < n) : ((List.range n).map f).getD i 0 = f i := by
  rw [List.getD_eq_getElem?_getD, List.getElem?_map, List.getElem?_range h]
  rfl
theorem lin_cov {n t : Nat} {ws F : List (List Nat)} (G : Gp n F) (hw : ∀ w ∈ ws, w ∈ F) (h : ∀ g ∈ F, g ≠ [] → t < g.length) : miss (linR n ws) (List.replicate n 2) t = [] := by
  refine List.eq_nil_iff_forall_not_mem.mpr fun P hP => ?_
  obtain ⟨hI, hn⟩ := mem_miss.mp hP
  have hlen : (List.replicate n 2).length = n := List.length_replicate ..
  obtain ⟨r0, q1, q2⟩ := row_of (fun s hs => by rw [(List.mem_replicate.mp hs).2]; decide) hI
  have q3 := (rowOk_iff.mp q1).2
  obtain ⟨x, x1, x2, x3⟩ := solve G.asc G.cl (T := P.map (·.1)) (fun i => if i < n then r0.getD i 0 else 0) (fun i => by
      by_cases hi : i < n
      · simp only [hi, if_true]
        have := q3 i (by rw [hlen]; exact hi)
        rwa [rep_getD hi] at this
      · simp only [hi, if_false]
        decide) (fun g hg hs => Classical.byContradiction fun hne => by
      have h1 := h g hg hne
      have h2 := List.Nodup.length_le_of_subset (G.asc g hg).nodup hs
      rw [List.length_map, hI.len] at h2
      omega) ws.length ws rfl hw
  have hr : hasP ((List.range n).map x) P = true := hasP_iff.mpr fun p hp => by
    have h1 := (hI.ok p hp).1
    rw [hlen] at h1
    rw [rangeD h1, x2 p.1 (List.mem_map.mpr ⟨p, hp, rfl⟩), if_pos h1]
    exact hasP_iff.mp q2 p hp
  have hm : (List.range n).map x ∈ linR n ws := List.mem_filter.mpr ⟨mem_rows.mpr (rowOk_iff.mpr ⟨by rw [List.length_map, List.length_range, hlen], fun i hi => by
    rw [hlen] at hi
    rw [rangeD hi, rep_getD hi]
    exact x1 i⟩), List.all_eq_true.mpr fun w hws => by
    have e : (w.map fun i => ((List.range n).map x).getD i 0) = w.map x := List.map_congr_left fun i hi => rangeD (G.lt w (hw w hws) i hi)
    rw [evn, decide_eq_true_eq, e]
    exact x3 w hws⟩
  rw [hn _ hm] at hr
  cases hr
/-- how often the levels are had -/
def cntL (rs : List (List Nat)) (T l : List Nat) : Nat := (rs.filter fun r => decide (T.map (fun f => r.getD f 0) = l)).length
def Ev (rs : List (List Nat)) (ss T : List Nat) : Prop := ∀ l ∈ rows (szAt ss T), ∀ l' ∈ rows (szAt ss T), cntL rs T l = cntL rs T l'
theorem lev_row {ss r T : List Nat} (hr : RowOk ss r) (hT : ∀ f ∈ T, f < ss.length) : T.map (fun f => r.getD f 0) ∈ rows (szAt ss T) := by
  rw [mem_rows, rowOk_iff]
  refine ⟨by rw [List.length_map, szAt_len], fun i hi => ?_⟩
  rw [szAt_len] at hi
  rw [getD_map hi, szAt, getD_map hi]
  have : T.getD i 0 ∈ T := by
    rw [List.getD_eq_getElem?_getD, List.getElem?_eq_getElem hi]
    exact List.getElem_mem _
  exact (rowOk_iff.mp hr).2 _ (hT _ this)
theorem one_of {α : Type} [DecidableEq α] {x : α} : ∀ {xs : List α}, xs.Nodup → x ∈ xs → (xs.filter fun y => decide (x = y)).length = 1 := fun {xs} hn hx => by
  have : (xs.filter fun y => decide (x = y)) = [x] := by
    have h1 : ∀ y ∈ xs.filter fun y => decide (x = y), y = x := fun y hy => by
      rw [List.mem_filter, decide_eq_true_eq] at hy
      exact hy.2.symm
    have h2 : x ∈ xs.filter fun y => decide (x = y) := List.mem_filter.mpr ⟨hx, decide_eq_true rfl⟩
    have h3 : (xs.filter fun y => decide (x = y)).Nodup := hn.filter _
    generalize (xs.filter fun y => decide (x = y)) = ys at *
    match ys with
    | [] => cases h2
    | [y] => rw [h1 y (List.mem_cons_self ..)]
    | y :: z :: ys =>
      have := h1 y (List.mem_cons_self ..)
      have := h1 z (List.mem_cons_of_mem _ (List.mem_cons_self ..))
      subst y
      subst z
      simp at h3
  rw [this]
  rfl
theorem sum_ones {α : Type} {f : α → Nat} : ∀ {xs : List α}, (∀ x ∈ xs, f x = 1) → (xs.map f).sum = xs.length
  | [], _ => rfl
  | x :: xs, h => by
    rw [List.map_cons, List.sum_cons, h x (List.mem_cons_self ..), sum_ones fun y hy => h y (List.mem_cons_of_mem _ hy), List.length_cons]
    omega
theorem sum_same {α : Type} {f : α → Nat} {c : Nat} : ∀ {xs : List α}, (∀ x ∈ xs, f x = c) → (xs.map f).sum = xs.length * c
  | [], _ => by simp
  | x :: xs, h => by
    rw [List.map_cons, List.sum_cons, h x (List.mem_cons_self ..), sum_same fun y hy => h y (List.mem_cons_of_mem _ hy), List.length_cons, Nat.add_mul]
    omega
theorem cnt_sum {ss T : List Nat} {rs : List (List Nat)} (hr : ∀ r ∈ rs, RowOk ss r) (hT : ∀ f ∈ T, f < ss.length) : ((rows (szAt ss T)).map (cntL rs T)).sum = rs.length := by
  have h1 := sum_swap (fun (l r : List Nat) => decide (T.map (fun f => r.getD f 0) = l)) (rows (szAt ss T)) rs
  have h2 : ((rows (szAt ss T)).map (cntL rs T)).sum = ((rows (szAt ss T)).map fun l => (rs.filter fun r => decide (T.map (fun f => r.getD f 0) = l)).length).sum := rfl
  rw [h2, h1]
  exact sum_ones fun r hr' => one_of (rows_nodup _) (lev_row (hr r hr') hT)
theorem ev_count {ss T l : List Nat} {rs : List (List Nat)} (hr : ∀ r ∈ rs, RowOk ss r) (hT : ∀ f ∈ T, f < ss.length) (h : Ev rs ss T) (hl : l ∈ rows (szAt ss T)) :
    cntL rs T l * (szAt ss T).prod = rs.length := by
  rw [← cnt_sum hr hT, sum_same (c := cntL rs T l) fun l' hl' => h l' hl' l hl, rows_len, Nat.mul_comm]
theorem cnt_pos {rs : List (List Nat)} {T l : List Nat} (h : 0 < cntL rs T l) : ∃ r ∈ rs, T.map (fun f => r.getD f 0) = l := by
  obtain ⟨r, hr⟩ := List.exists_mem_of_length_pos h
  rw [List.mem_filter, decide_eq_true_eq] at hr
  exact ⟨r, hr⟩
theorem ev_pos {ss T l : List Nat} {rs : List (List Nat)} (hr : ∀ r ∈ rs, RowOk ss r) (hT : ∀ f ∈ T, f < ss.length) (hN : 0 < rs.length) (h : Ev rs ss T) (hl : l ∈ rows (szAt ss T)) : 0 < cntL rs T l := by
  have := ev_count hr hT h hl
  rcases Nat.eq_zero_or_pos (cntL rs T l) with e | e
  · rw [e] at this
    omega
  · exact e
theorem ev_miss {ss : List Nat} {t : Nat} {rs : List (List Nat)} (hr : ∀ r ∈ rs, RowOk ss r) (hN : 0 < rs.length) (h : ∀ T ∈ subs ss.length t, Ev rs ss T) : miss rs ss t = [] := by
  refine List.eq_nil_iff_forall_not_mem.mpr fun P hP => ?_
  rw [miss, List.mem_filter] at hP
  obtain ⟨T, hT, hP1⟩ := List.mem_flatMap.mp hP.1
  obtain ⟨l, hl, rfl⟩ := List.mem_map.mp hP1
  obtain ⟨r, r1, r2⟩ := cnt_pos (ev_pos hr (mem_subs.mp hT).2.1 hN (h T hT) hl)
  have hlen : T.length = l.length := by rw [(mem_rows.mp hl).len, szAt_len]
  have : rs.any (fun r => hasP r (T.zip l)) = true := List.any_eq_true.mpr ⟨r, r1, by rw [hasP_map, zip_fst hlen, zip_snd hlen, decide_eq_true_eq]; exact r2⟩
  rw [this] at hP
  exact absurd hP.2 (by decide)
theorem miss_cov {ss : List Nat} {t : Nat} {rs : List (List Nat)} (h : miss rs ss t = []) : Cov rs (sgs ss t) rs := ⟨fun r hr => hr, fun P hP => by
  have : rs.any (fun r => hasP r P) = true := by
    cases e : rs.any (fun r => hasP r P)
    · have : P ∈ miss rs ss t := List.mem_filter.mpr ⟨hP, by rw [e]; rfl⟩
      rw [h] at this
      cases this
    · rfl
  obtain ⟨r, hr, hp⟩ := List.any_eq_true.mp this
  exact ⟨r, hr, hp⟩⟩
theorem miss_sub {ss : List Nat} {t : Nat} {rs qs : List (List Nat)} (h : miss rs ss t = []) (hs : ∀ r ∈ rs, r ∈ qs) : miss qs ss t = [] := by
  refine List.eq_nil_iff_forall_not_mem.mpr fun P hP => ?_
  obtain ⟨h1, h2⟩ := mem_miss.mp hP
  have : P ∈ miss rs ss t := mem_miss.mpr ⟨h1, fun r hr => h2 r (hs r hr)⟩
  rw [h] at this
  cases this
/-- the runs with the level v at g, without g -/
def partR (rs : List (List Nat)) (g v : Nat) : List (List Nat) := (rs.filter fun r => decide (r.getD g 0 = v)).map fun r => r.eraseIdx g
theorem part_miss {ss : List Nat} {t g v : Nat} {rs : List (List Nat)} (hg : g < ss.length) (hv : v < ss.getD g 0) (h : miss rs ss (t + 1) = []) : miss (partR rs g v) (ss.eraseIdx g) t = [] := by
  refine List.eq_nil_iff_forall_not_mem.mpr fun P hP => ?_
  obtain ⟨h1, h2⟩ := mem_miss.mp hP
  obtain ⟨u1, u2, u3⟩ := ush_is hg h1
  have hO : IsS ss (t + 1) (ord ((g, v) :: ush g P)) := ord_is (by
      rw [List.map_cons, List.nodup_cons]
      refine ⟨fun hm => ?_, u1.nd⟩
      obtain ⟨p, hp, e⟩ := List.mem_map.mp hm
      exact u2 p hp e) (by rw [List.length_cons, u1.len]) (fun p hp => by
      rcases List.mem_cons.mp hp with rfl | hp
      · exact ⟨hg, hv⟩
      · exact u1.ok p hp)
  have : ∃ r ∈ rs, hasP r (ord ((g, v) :: ush g P)) = true := Classical.byContradiction fun hn => by
    have : ord ((g, v) :: ush g P) ∈ miss rs ss (t + 1) := mem_miss.mpr ⟨hO, fun r hr => by
      cases e : hasP r (ord ((g, v) :: ush g P))
      · rfl
      · exact absurd ⟨r, hr, e⟩ hn⟩
    rw [h] at this
    cases this
  obtain ⟨r, hr, hh⟩ := this
  rw [hasP_perm (ord_perm _), hasP_iff] at hh
  have e1 : r.getD g 0 = v := hh (g, v) (List.mem_cons_self ..)
  have e2 : hasP r (ush g P) = true := hasP_iff.mpr fun p hp => hh p (List.mem_cons_of_mem _ hp)
  rw [← sh_has r u2, u3] at e2
  rw [h2 (r.eraseIdx g) (List.mem_map.mpr ⟨r, List.mem_filter.mpr ⟨hr, decide_eq_true e1⟩, rfl⟩)] at e2
  cases e2
end Zx
namespace Zx.k95
variable [Marked]
open PySem PySem.Spec L2 Zx
abbrev PR : PySem.Program := PySem.Challenge.pw_triedwares_k95_whole_strong_tables_cover
/-! ### _law_draws -/
abbrev N__law_draws : List Str := ["script", "draws", "k", "rest", "turn", "mixed"]
noncomputable def D__law_draws : DenS :=
  (sSeq (sOwn 1 (mkL lNil))
  (sSeq (sFor (iR1 (d2 minD2 (kD (.int 63)) (d1 lenD (vR 0)))) (gN 2) (sSeq (sSet 3 (d1 absD (d2 ixD (vR 0) (vR 2))))
   (sIf (b2 geI (vR 3) (d2 powD (kD (.int 10)) (kD (.int 18)))) (sFor (iR1 (kD (.int 60))) (gN 4) (sIf (b2 gtI (vR 3) (kD (.int 0))) (sSeq (sApp 1 (d2 modD (d1 intD (vR 3)) (kD (.int 65536))))
      (sSet 3 (d2 fdivD (vR 3) (kD (.int 65536))))) sNx)) (sSeq (sSet 5 (d2 modD (d1 intD (d2 addD (d2 mulI (vR 3) (kD (.int 48271))) (d2 mulI (d2 addD (vR 2) (kD (.int 1))) (kD (.int 69621))))) (kD (.int 2147483647))))
    (sSeq (sSet 5 (d2 modD (d1 intD (d2 addD (d2 addD (d2 mulI (vR 5) (kD (.int 16807))) (d2 mulI (kD (.int 11)) (vR 2))) (kD (.int 5)))) (kD (.int 2147483629))))
    (sSeq (sApp 1 (d2 modD (d1 intD (vR 5)) (kD (.int 65536))))
    (sApp 1 (d2 modD (d1 intD (d2 fdivD (vR 5) (kD (.int 65536)))) (kD (.int 32768))))))))))
  (sFrz 1 (sRet (vR 1)))))
noncomputable def f__law_draws : List D → Option D := runX D__law_draws 6
theorem sc__law_draws : FnScope N__law_draws ["script"] (defScope (topOf PR 67)) := ⟨rfl, rfl, rfl, by decide +kernel, rfl, by decide +kernel, by decide +kernel⟩
theorem b__law_draws {w : World} {K : PySem.W.Frag} {mg : Str → Option Value} {base : Heap} {f : Addr} (h_abs : mg "abs" = none) (h_int : mg "int" = none) (h_len : mg "len" = none) (h_min : mg "min" = none) (h_range : mg "range" = none) : Bd PR w K mg base 0 N__law_draws "_law_draws" (defBody (topOf PR 67)) (defScope (topOf PR 67)) f D__law_draws :=
  ⟨fun cdv A outer s H E hr => by
  have nd : N__law_draws.Nodup := sc__law_draws.nd
  exact (sxs_cons (sx_own 1 nd (by kernel_rfl) (by kernel_rfl) (by kernel_rfl) (en_lst ea_nil) (by kernel_rfl))
  (sxs_cons (sx_for PySem.PassesOwn.never rfl (ei_r1 (gl_of (by kernel_rfl)) h_range (ex_min2 rfl (gl_of (by kernel_rfl)) h_min ex_int.b (ex_len (gl_of (by kernel_rfl)) h_len (vX 0 (by kernel_rfl) (by kernel_rfl)).b (by kernel_rfl)).b (by kernel_rfl) (by kernel_rfl)) (by kernel_rfl)) (eg_name 2 nd (by kernel_rfl) (by kernel_rfl) (by kernel_rfl)) (sxs_cons (sx_set 3 nd (by kernel_rfl) (by kernel_rfl) (by kernel_rfl) (ex_abs (gl_of (by kernel_rfl)) h_abs (ex_ix (vX 0 (by kernel_rfl) (by kernel_rfl)).b (vX 2 (by kernel_rfl) (by kernel_rfl)).b (fun _ _ => rfl)).b (by kernel_rfl)) (by kernel_rfl))
   (sxs_one (sx_if (et_cmp (ec_geI (vX 3 (by kernel_rfl) (by kernel_rfl)).b (ex_pow ex_int.b ex_int.b).b) (by kernel_rfl)) (sxs_one (sx_for PySem.PassesOwn.never rfl (ei_r1 (gl_of (by kernel_rfl)) h_range ex_int (by kernel_rfl)) (eg_name 4 nd (by kernel_rfl) (by kernel_rfl) (by kernel_rfl)) (sxs_one (sx_if (et_cmp (ec_gtI (vX 3 (by kernel_rfl) (by kernel_rfl)).b ex_int.b) (by kernel_rfl)) (sxs_cons (sx_append 1 (by kernel_rfl) (by kernel_rfl) (by kernel_rfl) (by kernel_rfl) (ex_mod (ex_int1 (gl_of (by kernel_rfl)) h_int (vX 3 (by kernel_rfl) (by kernel_rfl)).b (by kernel_rfl)).b ex_int.b) (by kernel_rfl) (by kernel_rfl))
      (sxs_one (sx_set 3 nd (by kernel_rfl) (by kernel_rfl) (by kernel_rfl) (ex_fdiv (vX 3 (by kernel_rfl) (by kernel_rfl)).b ex_int.b) (by kernel_rfl)))) sxs_nil)) (fun _ => rfl))) (sxs_cons (sx_set 5 nd (by kernel_rfl) (by kernel_rfl) (by kernel_rfl) (ex_mod (ex_int1 (gl_of (by kernel_rfl)) h_int (ex_add (ex_mulI (vX 3 (by kernel_rfl) (by kernel_rfl)).b ex_int.b).b (ex_mulI (ex_add (vX 2 (by kernel_rfl) (by kernel_rfl)).b ex_int.b).b ex_int.b).b).b (by kernel_rfl)).b ex_int.b) (by kernel_rfl))
    (sxs_cons (sx_set 5 nd (by kernel_rfl) (by kernel_rfl) (by kernel_rfl) (ex_mod (ex_int1 (gl_of (by kernel_rfl)) h_int (ex_add (ex_add (ex_mulI (vX 5 (by kernel_rfl) (by kernel_rfl)).b ex_int.b).b (ex_mulI ex_int.b (vX 2 (by kernel_rfl) (by kernel_rfl)).b).b).b ex_int.b).b (by kernel_rfl)).b ex_int.b) (by kernel_rfl))
    (sxs_cons (sx_append 1 (by kernel_rfl) (by kernel_rfl) (by kernel_rfl) (by kernel_rfl) (ex_mod (ex_int1 (gl_of (by kernel_rfl)) h_int (vX 5 (by kernel_rfl) (by kernel_rfl)).b (by kernel_rfl)).b ex_int.b) (by kernel_rfl) (by kernel_rfl))
    (sxs_one (sx_append 1 (by kernel_rfl) (by kernel_rfl) (by kernel_rfl) (by kernel_rfl) (ex_mod (ex_int1 (gl_of (by kernel_rfl)) h_int (ex_fdiv (vX 5 (by kernel_rfl) (by kernel_rfl)).b ex_int.b).b (by kernel_rfl)).b ex_int.b) (by kernel_rfl) (by kernel_rfl))))))))) (fun _ => rfl))
  (sxs_one (sx_frz 1 (sx_ret (vX 1 (by kernel_rfl) (by kernel_rfl)))))))⟩
/-! ### _law_mix -/
abbrev N__law_mix : List Str := ["draws", "k", "many", "cell"]
noncomputable def D__law_mix : DenS :=
  (sSeq (sSet 3 (kD (.int 0)))
  (sSeq (sIf (b2 gtI (d1 lenD (vR 0)) (kD (.int 0))) (sSet 3 (d2 ixD (vR 0) (d2 modD (d1 intD (vR 1)) (d1 lenD (vR 0))))) sNx)
  (sSeq (sIf (b2 ltI (vR 1) (d1 lenD (vR 0))) (sRet (d2 modD (d1 intD (vR 3)) (vR 2))) sNx)
  (sRet (d2 modD (d1 intD (d2 fdivD (d1 intD (d2 addD (d2 mulI (vR 3) (kD (.int 7919))) (d2 mulI (vR 1) (kD (.int 104729))))) (kD (.int 3)))) (vR 2))))))
noncomputable def f__law_mix : List D → Option D := runX D__law_mix 4
theorem sc__law_mix : FnScope N__law_mix ["draws", "k", "many"] (defScope (topOf PR 68)) := ⟨rfl, rfl, rfl, by decide +kernel, rfl, by decide +kernel, by decide +kernel⟩
theorem b__law_mix {w : World} {K : PySem.W.Frag} {mg : Str → Option Value} {base : Heap} {f : Addr} (h_int : mg "int" = none) (h_len : mg "len" = none) : Bd PR w K mg base 0 N__law_mix "_law_mix" (defBody (topOf PR 68)) (defScope (topOf PR 68)) f D__law_mix :=
  ⟨fun cdv A outer s H E hr => by
  have nd : N__law_mix.Nodup := sc__law_mix.nd
  exact (sxs_cons (sx_set 3 nd (by kernel_rfl) (by kernel_rfl) (by kernel_rfl) ex_int (by kernel_rfl))
  (sxs_cons (sx_if (et_cmp (ec_gtI (ex_len (gl_of (by kernel_rfl)) h_len (vX 0 (by kernel_rfl) (by kernel_rfl)).b (by kernel_rfl)).b ex_int.b) (by kernel_rfl)) (sxs_one (sx_set 3 nd (by kernel_rfl) (by kernel_rfl) (by kernel_rfl) (ex_ix (vX 0 (by kernel_rfl) (by kernel_rfl)).b (ex_mod (ex_int1 (gl_of (by kernel_rfl)) h_int (vX 1 (by kernel_rfl) (by kernel_rfl)).b (by kernel_rfl)).b (ex_len (gl_of (by kernel_rfl)) h_len (vX 0 (by kernel_rfl) (by kernel_rfl)).b (by kernel_rfl)).b).b (fun _ _ => rfl)) (by kernel_rfl))) sxs_nil)
  (sxs_cons (sx_if (et_cmp (ec_ltI (vX 1 (by kernel_rfl) (by kernel_rfl)).b (ex_len (gl_of (by kernel_rfl)) h_len (vX 0 (by kernel_rfl) (by kernel_rfl)).b (by kernel_rfl)).b) (by kernel_rfl)) (sxs_one (sx_ret (ex_mod (ex_int1 (gl_of (by kernel_rfl)) h_int (vX 3 (by kernel_rfl) (by kernel_rfl)).b (by kernel_rfl)).b (vX 2 (by kernel_rfl) (by kernel_rfl)).b))) sxs_nil)
  (sxs_one (sx_ret (ex_mod (ex_int1 (gl_of (by kernel_rfl)) h_int (ex_fdiv (ex_int1 (gl_of (by kernel_rfl)) h_int (ex_add (ex_mulI (vX 3 (by kernel_rfl) (by kernel_rfl)).b ex_int.b).b (ex_mulI (vX 1 (by kernel_rfl) (by kernel_rfl)).b ex_int.b).b).b (by kernel_rfl)).b ex_int.b).b (by kernel_rfl)).b (vX 2 (by kernel_rfl) (by kernel_rfl)).b))))))⟩
/-! ### _law_words -/
abbrev N__law_words : List Str := ["draws", "k", "factors", "most", "found", "t", "word", "v"]
noncomputable def D__law_words : DenS :=
  (sSeq (sOwn 4 (mkL lNil))
  (sSeq (sFor (iR1 (dCall (lCons (vR 0) (lCons (vR 1) (lCons (d2 addD (vR 3) (kD (.int 1))) lNil))) f__law_mix)) (gN 5) (sSeq (sLcSet 6 false (dLc (iR1 (vR 2)) (gN 7) (b2 eqD (dCall (lCons (vR 0) (lCons (d2 addD (d2 addD (d2 addD (vR 1) (kD (.int 1))) (d2 mulI (kD (.int 7)) (vR 5))) (vR 7)) (lCons (kD (.int 2)) lNil))) f__law_mix) (kD (.int 0))) (vR 7) [7]))
   (sIf (b2 neD (vR 6) (mkL lNil)) (sApp 4 (vR 6)) sNx)))
  (sFrz 4 (sRet (vR 4)))))
noncomputable def f__law_words : List D → Option D := runX D__law_words 8
theorem sc__law_words : FnScope N__law_words ["draws", "k", "factors", "most"] (defScope (topOf PR 69)) := ⟨rfl, rfl, rfl, by decide +kernel, rfl, by decide +kernel, by decide +kernel⟩
theorem b__law_words {w : World} {K : PySem.W.Frag} {mg : Str → Option Value} {base : Heap} {f : Addr} (h_range : mg "range" = none) (c__law_mix : FX PR w K mg base 1 "_law_mix" 3 f__law_mix) : Bd PR w K mg base 1 N__law_words "_law_words" (defBody (topOf PR 69)) (defScope (topOf PR 69)) f D__law_words :=
  ⟨fun cdv A outer s H E hr => by
  have nd : N__law_words.Nodup := sc__law_words.nd
  exact (sxs_cons (sx_own 4 nd (by kernel_rfl) (by kernel_rfl) (by kernel_rfl) (en_lst ea_nil) (by kernel_rfl))
  (sxs_cons (sx_for PySem.PassesOwn.never rfl (ei_r1 (gl_of (by kernel_rfl)) h_range (cX (c__law_mix : FX PR w K mg base _ _ _ _) hr (gl_of (by kernel_rfl)) (by kernel_rfl) (ea_cons (vX 0 (by kernel_rfl) (by kernel_rfl)) (ea_cons (vX 1 (by kernel_rfl) (by kernel_rfl)) (ea_cons (ex_add (vX 3 (by kernel_rfl) (by kernel_rfl)).b ex_int.b) ea_nil (by kernel_rfl)) (by kernel_rfl)) (by kernel_rfl)) rfl (by kernel_rfl) (by kernel_rfl) (lenS (lenS (lenS len0)))) (by kernel_rfl)) (eg_name 5 nd (by kernel_rfl) (by kernel_rfl) (by kernel_rfl)) (sxs_cons (sx_setLc (own := [("v", 7)]) 6 false rfl nd (by kernel_rfl) (by kernel_rfl) (by kernel_rfl) (ei_r1 (gl_of (by kernel_rfl)) h_range (vX 2 (by kernel_rfl) (by kernel_rfl)) (by kernel_rfl)) (blkOk_by (by kernel_rfl)) (fun _ _ _ _ _ => (eg_name 7 nd (by kernel_rfl) (by kernel_rfl) (by kernel_rfl))) (fun _ _ _ _ _ => (ets_one (et_cmp (ec_eq (Zx.Room.u64 hr) (cX (c__law_mix : FX PR w K mg base _ _ _ _) hr (gl_of (by kernel_rfl)) (by kernel_rfl) (ea_cons (vX 0 (by kernel_rfl) (by kernel_rfl)) (ea_cons (ex_add (ex_add (ex_add (vX 1 (by kernel_rfl) (by kernel_rfl)).b ex_int.b).b (ex_mulI ex_int.b (vX 5 (by kernel_rfl) (by kernel_rfl)).b).b).b (vX 7 (by kernel_rfl) (by kernel_rfl)).b) (ea_cons ex_int ea_nil (by kernel_rfl)) (by kernel_rfl)) (by kernel_rfl)) rfl (by kernel_rfl) (by kernel_rfl) (lenS (lenS (lenS len0)))).b ex_int.b) (by kernel_rfl)))) (fun _ _ _ _ _ => (vX 7 (by kernel_rfl) (by kernel_rfl))) (fun _ => rfl) (by decide))
   (sxs_one (sx_if (et_cmp (ec_ne (Zx.Room.u64 hr) (vX 6 (by kernel_rfl) (by kernel_rfl)).b (en_lst ea_nil).x.b) (by kernel_rfl)) (sxs_one (sx_append 4 (by kernel_rfl) (by kernel_rfl) (by kernel_rfl) (by kernel_rfl) (vX 6 (by kernel_rfl) (by kernel_rfl)) (by kernel_rfl) (by kernel_rfl))) sxs_nil))) (fun _ => rfl))
  (sxs_one (sx_frz 4 (sx_ret (vX 4 (by kernel_rfl) (by kernel_rfl)))))))⟩
/-! ### check_sizes -/
abbrev N_check_sizes : List Str := ["sizes", "i", "size"]
noncomputable def D_check_sizes : DenS :=
  (sSeq (sIf (bNot (bCh leI leI (kD (.int 1)) (d1 lenD (vR 0)) (kD (.int (8))))) sNo sNx)
  (sFor (iEn (vR 0)) (gT (gsCons (gN 1) (gsCons (gN 2) gsNil)) 2) (sIf (bNot (bCh leI leI (kD (.int (2))) (vR 2) (kD (.int (5))))) sNo sNx)))
noncomputable def f_check_sizes : List D → Option D := runX D_check_sizes 3
theorem sc_check_sizes : FnScope N_check_sizes ["sizes"] (defScope (topOf PR 15)) := ⟨rfl, rfl, rfl, by decide +kernel, rfl, by decide +kernel, by decide +kernel⟩
theorem b_check_sizes {w : World} {K : PySem.W.Frag} {mg : Str → Option Value} {base : Heap} {f : Addr} (h_enumerate : mg "enumerate" = none) (h_len : mg "len" = none) {t_LEAST_SIZE : Tok} (h_LEAST_SIZE : mg "LEAST_SIZE" = some (.int (2) t_LEAST_SIZE)) {t_MOST_FACTORS_runs : Tok} (h_MOST_FACTORS_runs : mg "MOST_FACTORS_runs" = some (.int (8) t_MOST_FACTORS_runs)) {t_MOST_SIZE : Tok} (h_MOST_SIZE : mg "MOST_SIZE" = some (.int (5) t_MOST_SIZE)) : Bd PR w K mg base 0 N_check_sizes "check_sizes" (defBody (topOf PR 15)) (defScope (topOf PR 15)) f D_check_sizes :=
  ⟨fun cdv A outer s H E hr => by
  have nd : N_check_sizes.Nodup := sc_check_sizes.nd
  exact (sxs_cons (sx_if (et_not (et_leLe ex_int.b (ex_len (gl_of (by kernel_rfl)) h_len (vX 0 (by kernel_rfl) (by kernel_rfl)).b (by kernel_rfl)).b (ex_glob (gl_of (by kernel_rfl)) h_MOST_FACTORS_runs (by kernel_rfl)).b (by kernel_rfl))) (sxs_one sx_no) sxs_nil)
  (sxs_one (sx_for PySem.PassesOwn.never rfl (ei_enum (gl_of (by kernel_rfl)) h_enumerate (vX 0 (by kernel_rfl) (by kernel_rfl)) (by kernel_rfl)) (eg_tup (n := 2) rfl (egs_cons (eg_name 1 nd (by kernel_rfl) (by kernel_rfl) (by kernel_rfl)) (egs_cons (eg_name 2 nd (by kernel_rfl) (by kernel_rfl) (by kernel_rfl)) egs_nil (by kernel_rfl)) (by kernel_rfl)) (by kernel_rfl) (by kernel_rfl)) (sxs_one (sx_if (et_not (et_leLe (ex_glob (gl_of (by kernel_rfl)) h_LEAST_SIZE (by kernel_rfl)).b (vX 2 (by kernel_rfl) (by kernel_rfl)).b (ex_glob (gl_of (by kernel_rfl)) h_MOST_SIZE (by kernel_rfl)).b (by kernel_rfl))) (sxs_one sx_no) sxs_nil)) (fun _ => rfl))))⟩
/-! ### check_runs -/
abbrev N_check_runs : List Str := ["runs", "sizes", "k", "run", "level", "size"]
noncomputable def D_check_runs : DenS :=
  (sSeq (sDrop (dCall (lCons (vR 1) lNil) f_check_sizes))
  (sSeq (sIf (bNot (bCh leI leI (kD (.int 1)) (d1 lenD (vR 0)) (kD (.int (64))))) sNo sNx)
  (sFor (iEn (vR 0)) (gT (gsCons (gN 2) (gsCons (gN 3) gsNil)) 2) (sIf (bOr (b2 neD (d1 lenD (vR 3)) (d1 lenD (vR 1))) (bNot (b1 truD (d1 allD (dLc (iZpX (vR 3) (vR 1)) (gT (gsCons (gN 4) (gsCons (gN 5) gsNil)) 2) bYes (bV (bCh leI ltI (kD (.int 0)) (vR 4) (vR 5))) [4, 5]))))) sNo sNx))))
noncomputable def f_check_runs : List D → Option D := runX D_check_runs 6
theorem sc_check_runs : FnScope N_check_runs ["runs", "sizes"] (defScope (topOf PR 16)) := ⟨rfl, rfl, rfl, by decide +kernel, rfl, by decide +kernel, by decide +kernel⟩
theorem b_check_runs {w : World} {K : PySem.W.Frag} {mg : Str → Option Value} {base : Heap} {f : Addr} (h_all : mg "all" = none) (h_enumerate : mg "enumerate" = none) (h_len : mg "len" = none) (h_zip : mg "zip" = none) {t_MOST_RUNS : Tok} (h_MOST_RUNS : mg "MOST_RUNS" = some (.int (64) t_MOST_RUNS)) (c_check_sizes : FX PR w K mg base 1 "check_sizes" 1 f_check_sizes) : Bd PR w K mg base 1 N_check_runs "check_runs" (defBody (topOf PR 16)) (defScope (topOf PR 16)) f D_check_runs :=
  ⟨fun cdv A outer s H E hr => by
  have nd : N_check_runs.Nodup := sc_check_runs.nd
  exact (sxs_cons (sx_expr (cX (c_check_sizes : FX PR w K mg base _ _ _ _) hr (gl_of (by kernel_rfl)) (by kernel_rfl) (ea_cons (vX 1 (by kernel_rfl) (by kernel_rfl)) ea_nil (by kernel_rfl)) rfl (by kernel_rfl) (by kernel_rfl) (lenS len0)) (by kernel_rfl))
  (sxs_cons (sx_if (et_not (et_leLe ex_int.b (ex_len (gl_of (by kernel_rfl)) h_len (vX 0 (by kernel_rfl) (by kernel_rfl)).b (by kernel_rfl)).b (ex_glob (gl_of (by kernel_rfl)) h_MOST_RUNS (by kernel_rfl)).b (by kernel_rfl))) (sxs_one sx_no) sxs_nil)
  (sxs_one (sx_for PySem.PassesOwn.never rfl (ei_enum (gl_of (by kernel_rfl)) h_enumerate (vX 0 (by kernel_rfl) (by kernel_rfl)) (by kernel_rfl)) (eg_tup (n := 2) rfl (egs_cons (eg_name 2 nd (by kernel_rfl) (by kernel_rfl) (by kernel_rfl)) (egs_cons (eg_name 3 nd (by kernel_rfl) (by kernel_rfl) (by kernel_rfl)) egs_nil (by kernel_rfl)) (by kernel_rfl)) (by kernel_rfl) (by kernel_rfl)) (sxs_one (sx_if (ew_or (et_cmp (ec_ne (Zx.Room.u64 hr) (ex_len (gl_of (by kernel_rfl)) h_len (vX 3 (by kernel_rfl) (by kernel_rfl)).b (by kernel_rfl)).b (ex_len (gl_of (by kernel_rfl)) h_len (vX 1 (by kernel_rfl) (by kernel_rfl)).b (by kernel_rfl)).b) (by kernel_rfl)) (ew_or1 (et_not (et_val (ex_all rfl (gl_of (by kernel_rfl)) h_all (en_lc (own := [("level", 4), ("size", 5)]) rfl nd (ei_zipX (gl_of (by kernel_rfl)) h_zip (vX 3 (by kernel_rfl) (by kernel_rfl)) (vX 1 (by kernel_rfl) (by kernel_rfl)) (by kernel_rfl) (by kernel_rfl)) (blkOk_by (by kernel_rfl)) (fun _ _ _ _ _ => (eg_tup (n := 2) rfl (egs_cons (eg_name 4 nd (by kernel_rfl) (by kernel_rfl) (by kernel_rfl)) (egs_cons (eg_name 5 nd (by kernel_rfl) (by kernel_rfl) (by kernel_rfl)) egs_nil (by kernel_rfl)) (by kernel_rfl)) (by kernel_rfl) (by kernel_rfl))) (fun _ _ _ _ _ => ets_nil) (fun _ _ _ _ _ => (ex_leLt ex_int.b (vX 4 (by kernel_rfl) (by kernel_rfl)).b (vX 5 (by kernel_rfl) (by kernel_rfl)).b (by kernel_rfl))) (fun _ => rfl) (by decide)).x.b (by kernel_rfl)).b (fun _ => rfl))))).t (sxs_one sx_no) sxs_nil)) (fun _ => rfl)))))⟩
/-! ### subsets -/
abbrev N_subsets : List Str := ["many", "few", "found", "k", "told"]
noncomputable def D_subsets : DenS :=
  (sSeq (sSet 2 (mkL (lCons (mkL lNil) lNil)))
  (sSeq (sFor (iR1 (vR 0)) (gN 3) (sSet 2 (d2 addD (vR 2) (dLc (iSeq (vR 2)) (gN 4) (b2 ltI (d1 lenD (vR 4)) (vR 1)) (mkL (lStar (vR 4) (lCons (vR 3) lNil))) [4]))))
  (sRet (d1 sortD (dLc (iSeq (vR 2)) (gN 4) (b2 eqD (d1 lenD (vR 4)) (vR 1)) (vR 4) [4])))))
noncomputable def f_subsets : List D → Option D := runX D_subsets 5
theorem sc_subsets : FnScope N_subsets ["many", "few"] (defScope (topOf PR 21)) := ⟨rfl, rfl, rfl, by decide +kernel, rfl, by decide +kernel, by decide +kernel⟩
theorem b_subsets {w : World} {K : PySem.W.Frag} {mg : Str → Option Value} {base : Heap} {f : Addr} (h_len : mg "len" = none) (h_range : mg "range" = none) (h_sorted : mg "sorted" = none) : Bd PR w K mg base 0 N_subsets "subsets" (defBody (topOf PR 21)) (defScope (topOf PR 21)) f D_subsets :=
  ⟨fun cdv A outer s H E hr => by
  have nd : N_subsets.Nodup := sc_subsets.nd
  exact (sxs_cons (sx_set 2 nd (by kernel_rfl) (by kernel_rfl) (by kernel_rfl) (en_lst (ea_cons (en_lst ea_nil).x ea_nil (by kernel_rfl))).x (by kernel_rfl))
  (sxs_cons (sx_for PySem.PassesOwn.never rfl (ei_r1 (gl_of (by kernel_rfl)) h_range (vX 0 (by kernel_rfl) (by kernel_rfl)) (by kernel_rfl)) (eg_name 3 nd (by kernel_rfl) (by kernel_rfl) (by kernel_rfl)) (sxs_one (sx_set 2 nd (by kernel_rfl) (by kernel_rfl) (by kernel_rfl) (ex_add (vX 2 (by kernel_rfl) (by kernel_rfl)).b (en_lc (own := [("told", 4)]) rfl nd (ei_seq (vX 2 (by kernel_rfl) (by kernel_rfl))) (blkOk_by (by kernel_rfl)) (fun _ _ _ _ _ => (eg_name 4 nd (by kernel_rfl) (by kernel_rfl) (by kernel_rfl))) (fun _ _ _ _ _ => (ets_one (et_cmp (ec_ltI (ex_len (gl_of (by kernel_rfl)) h_len (vX 4 (by kernel_rfl) (by kernel_rfl)).b (by kernel_rfl)).b (vX 1 (by kernel_rfl) (by kernel_rfl)).b) (by kernel_rfl)))) (fun _ _ _ _ _ => (en_lst (ea_star (vX 4 (by kernel_rfl) (by kernel_rfl)).b (ea_cons (vX 3 (by kernel_rfl) (by kernel_rfl)) ea_nil (by kernel_rfl)) (by kernel_rfl))).x) (fun _ => rfl) (by decide)).x.b) (by kernel_rfl))) (fun _ => rfl))
  (sxs_one (sx_ret (en_sorted (Zx.Room.u68 hr) (gl_of (by kernel_rfl)) h_sorted (en_lc (own := [("told", 4)]) rfl nd (ei_seq (vX 2 (by kernel_rfl) (by kernel_rfl))) (blkOk_by (by kernel_rfl)) (fun _ _ _ _ _ => (eg_name 4 nd (by kernel_rfl) (by kernel_rfl) (by kernel_rfl))) (fun _ _ _ _ _ => (ets_one (et_cmp (ec_eq (Zx.Room.u64 hr) (ex_len (gl_of (by kernel_rfl)) h_len (vX 4 (by kernel_rfl) (by kernel_rfl)).b (by kernel_rfl)).b (vX 1 (by kernel_rfl) (by kernel_rfl)).b) (by kernel_rfl)))) (fun _ _ _ _ _ => (vX 4 (by kernel_rfl) (by kernel_rfl))) (fun _ => rfl) (by decide)).x.b (by kernel_rfl)).x))))⟩
/-! ### levels_at -/
abbrev N_levels_at : List Str := ["run", "told", "factor"]
noncomputable def D_levels_at : DenS :=
  (sRet (d1 tupD (dLc (iSeq (vR 1)) (gN 2) bYes (d2 ixD (vR 0) (vR 2)) [2])))
noncomputable def f_levels_at : List D → Option D := runX D_levels_at 3
theorem sc_levels_at : FnScope N_levels_at ["run", "told"] (defScope (topOf PR 18)) := ⟨rfl, rfl, rfl, by decide +kernel, rfl, by decide +kernel, by decide +kernel⟩
theorem b_levels_at {w : World} {K : PySem.W.Frag} {mg : Str → Option Value} {base : Heap} {f : Addr} (h_tuple : mg "tuple" = none) : Bd PR w K mg base 0 N_levels_at "levels_at" (defBody (topOf PR 18)) (defScope (topOf PR 18)) f D_levels_at :=
  ⟨fun cdv A outer s H E hr => by
  have nd : N_levels_at.Nodup := sc_levels_at.nd
  exact (sxs_one (sx_ret (ex_tuple (gl_of (by kernel_rfl)) h_tuple (en_lc (own := [("factor", 2)]) rfl nd (ei_seq (vX 1 (by kernel_rfl) (by kernel_rfl))) (blkOk_by (by kernel_rfl)) (fun _ _ _ _ _ => (eg_name 2 nd (by kernel_rfl) (by kernel_rfl) (by kernel_rfl))) (fun _ _ _ _ _ => ets_nil) (fun _ _ _ _ _ => (ex_ix (vX 0 (by kernel_rfl) (by kernel_rfl)).b (vX 2 (by kernel_rfl) (by kernel_rfl)).b (fun _ _ => rfl))) (fun _ => rfl) (by decide)).x.b (by kernel_rfl))))⟩
/-! ### counts_at -/
abbrev N_counts_at : List Str := ["runs", "told", "found", "run"]
noncomputable def D_counts_at : DenS :=
  (sSeq (sOwn 2 (kD (.dict [(.bool true, .none)])))
  (sSeq (sFor (iSeq (vR 0)) (gN 3) (sStD 2 (dCall (lCons (vR 3) (lCons (vR 1) lNil)) f_levels_at) (d2 addD (d3 dgetD3 (vB 2) (dCall (lCons (vR 3) (lCons (vR 1) lNil)) f_levels_at) (kD (.int 0))) (kD (.int 1)))))
  (sFrz 2 (sRet (vR 2)))))
noncomputable def f_counts_at : List D → Option D := runX D_counts_at 4
theorem sc_counts_at : FnScope N_counts_at ["runs", "told"] (defScope (topOf PR 19)) := ⟨rfl, rfl, rfl, by decide +kernel, rfl, by decide +kernel, by decide +kernel⟩
theorem b_counts_at {w : World} {K : PySem.W.Frag} {mg : Str → Option Value} {base : Heap} {f : Addr} (c_levels_at : FX PR w K mg base 1 "levels_at" 2 f_levels_at) : Bd PR w K mg base 1 N_counts_at "counts_at" (defBody (topOf PR 19)) (defScope (topOf PR 19)) f D_counts_at :=
  ⟨fun cdv A outer s H E hr => by
  have nd : N_counts_at.Nodup := sc_counts_at.nd
  exact (sxs_cons (sx_own 2 nd (by kernel_rfl) (by kernel_rfl) (by kernel_rfl) en_dT (by kernel_rfl))
  (sxs_cons (sx_for PySem.PassesOwn.never rfl (ei_seq (vX 0 (by kernel_rfl) (by kernel_rfl))) (eg_name 3 nd (by kernel_rfl) (by kernel_rfl) (by kernel_rfl)) (sxs_one (sx_setD 2 (Zx.Room.u1 hr) (by kernel_rfl) (by kernel_rfl) (by kernel_rfl) (by kernel_rfl) (ex_add (ex_dget3 (Zx.Room.u1 hr) (vE 2 (by kernel_rfl) (by kernel_rfl)) (cX (c_levels_at : FX PR w K mg base _ _ _ _) hr (gl_of (by kernel_rfl)) (by kernel_rfl) (ea_cons (vX 3 (by kernel_rfl) (by kernel_rfl)) (ea_cons (vX 1 (by kernel_rfl) (by kernel_rfl)) ea_nil (by kernel_rfl)) (by kernel_rfl)) rfl (by kernel_rfl) (by kernel_rfl) (lenS (lenS len0))).b ex_int ⟨(by kernel_rfl), (by kernel_rfl), (by kernel_rfl), (by kernel_rfl)⟩).b ex_int.b) (cX (c_levels_at : FX PR w K mg base _ _ _ _) hr (gl_of (by kernel_rfl)) (by kernel_rfl) (ea_cons (vX 3 (by kernel_rfl) (by kernel_rfl)) (ea_cons (vX 1 (by kernel_rfl) (by kernel_rfl)) ea_nil (by kernel_rfl)) (by kernel_rfl)) rfl (by kernel_rfl) (by kernel_rfl) (lenS (lenS len0))) (by kernel_rfl))) (fun _ => rfl))
  (sxs_one (sx_frz 2 (sx_ret (vX 2 (by kernel_rfl) (by kernel_rfl)))))))⟩
/-! ### all_levels -/
abbrev N_all_levels : List Str := ["sizes", "found", "size", "told", "level"]
noncomputable def D_all_levels : DenS :=
  (sSeq (sSet 1 (mkL (lCons (mkT lNil) lNil)))
  (sSeq (sFor (iSeq (vR 0)) (gN 2) (sLcSet 1 false (dLc2 (iSeq (vR 1)) (gN 3) bYes (iR1 (vR 2)) (gN 4) bYes (mkT (lStar (vR 3) (lCons (vR 4) lNil))) [3, 4] [4])))
  (sRet (vR 1))))
noncomputable def f_all_levels : List D → Option D := runX D_all_levels 5
theorem sc_all_levels : FnScope N_all_levels ["sizes"] (defScope (topOf PR 20)) := ⟨rfl, rfl, rfl, by decide +kernel, rfl, by decide +kernel, by decide +kernel⟩
theorem b_all_levels {w : World} {K : PySem.W.Frag} {mg : Str → Option Value} {base : Heap} {f : Addr} (h_range : mg "range" = none) : Bd PR w K mg base 0 N_all_levels "all_levels" (defBody (topOf PR 20)) (defScope (topOf PR 20)) f D_all_levels :=
  ⟨fun cdv A outer s H E hr => by
  have nd : N_all_levels.Nodup := sc_all_levels.nd
  exact (sxs_cons (sx_set 1 nd (by kernel_rfl) (by kernel_rfl) (by kernel_rfl) (en_lst (ea_cons (ex_tup ea_nil) ea_nil (by kernel_rfl))).x (by kernel_rfl))
  (sxs_cons (sx_for PySem.PassesOwn.never rfl (ei_seq (vX 0 (by kernel_rfl) (by kernel_rfl))) (eg_name 2 nd (by kernel_rfl) (by kernel_rfl) (by kernel_rfl)) (sxs_one (sx_setLc2 (vs1 := [4]) (own := [("told", 3), ("level", 4)]) 1 false rfl nd (by kernel_rfl) (by kernel_rfl) (by kernel_rfl) (ei_seq (vX 1 (by kernel_rfl) (by kernel_rfl))) (blkOk_by (by kernel_rfl)) (by decide) (fun _ _ _ _ _ => (eg_name 3 nd (by kernel_rfl) (by kernel_rfl) (by kernel_rfl))) (fun _ _ _ _ _ => ets_nil) (fun _ _ _ _ _ => (ei_r1 (gl_of (by kernel_rfl)) h_range (vX 2 (by kernel_rfl) (by kernel_rfl)) (by kernel_rfl))) (fun _ _ _ _ _ => (eg_name 4 nd (by kernel_rfl) (by kernel_rfl) (by kernel_rfl))) (fun _ _ _ _ _ => ets_nil) (fun _ _ _ _ _ => (ex_tup (ea_star (vX 3 (by kernel_rfl) (by kernel_rfl)).b (ea_cons (vX 4 (by kernel_rfl) (by kernel_rfl)) ea_nil (by kernel_rfl)) (by kernel_rfl)))) (fun _ => rfl) (fun _ _ => rfl) (by decide) (by decide))) (fun _ => rfl))
  (sxs_one (sx_ret (vX 1 (by kernel_rfl) (by kernel_rfl))))))⟩
/-! ### uneven_at -/
abbrev N_uneven_at : List Str := ["runs", "sizes", "told", "found", "rows", "often", "row", "factor"]
noncomputable def D_uneven_at : DenS :=
  (sSeq (sSet 3 (dCall (lCons (vR 0) (lCons (vR 2) lNil)) f_counts_at))
  (sSeq (sSet 4 (dCall (lCons (dLc (iSeq (vR 2)) (gN 7) bYes (d2 ixD (vR 1) (vR 7)) [7]) lNil) f_all_levels))
  (sSeq (sLcSet 5 false (dLc (iSeq (vR 4)) (gN 6) bYes (d3 dgetD3 (vR 3) (vR 6) (kD (.int 0))) [6]))
  (sSeq (sIf (b2 eqD (d1 maxLD (vR 5)) (d1 minLD (vR 5))) (sRet (kD .none)) sNx)
  (sRet (mkT (lCons (d2 ixD (vR 4) (d2 indexD (vR 5) (d1 maxLD (vR 5)))) (lCons (d2 ixD (vR 4) (d2 indexD (vR 5) (d1 minLD (vR 5)))) lNil))))))))
noncomputable def f_uneven_at : List D → Option D := runX D_uneven_at 8
theorem sc_uneven_at : FnScope N_uneven_at ["runs", "sizes", "told"] (defScope (topOf PR 61)) := ⟨rfl, rfl, rfl, by decide +kernel, rfl, by decide +kernel, by decide +kernel⟩
theorem b_uneven_at {w : World} {K : PySem.W.Frag} {mg : Str → Option Value} {base : Heap} {f : Addr} (h_max : mg "max" = none) (h_min : mg "min" = none) (c_all_levels : FX PR w K mg base 2 "all_levels" 1 f_all_levels) (c_counts_at : FX PR w K mg base 2 "counts_at" 2 f_counts_at) : Bd PR w K mg base 2 N_uneven_at "uneven_at" (defBody (topOf PR 61)) (defScope (topOf PR 61)) f D_uneven_at :=
  ⟨fun cdv A outer s H E hr => by
  have nd : N_uneven_at.Nodup := sc_uneven_at.nd
  exact (sxs_cons (sx_set 3 nd (by kernel_rfl) (by kernel_rfl) (by kernel_rfl) (cX (c_counts_at : FX PR w K mg base _ _ _ _) hr (gl_of (by kernel_rfl)) (by kernel_rfl) (ea_cons (vX 0 (by kernel_rfl) (by kernel_rfl)) (ea_cons (vX 2 (by kernel_rfl) (by kernel_rfl)) ea_nil (by kernel_rfl)) (by kernel_rfl)) rfl (by kernel_rfl) (by kernel_rfl) (lenS (lenS len0))) (by kernel_rfl))
  (sxs_cons (sx_set 4 nd (by kernel_rfl) (by kernel_rfl) (by kernel_rfl) (cX (c_all_levels : FX PR w K mg base _ _ _ _) hr (gl_of (by kernel_rfl)) (by kernel_rfl) (ea_cons (en_lc (own := [("factor", 7)]) rfl nd (ei_seq (vX 2 (by kernel_rfl) (by kernel_rfl))) (blkOk_by (by kernel_rfl)) (fun _ _ _ _ _ => (eg_name 7 nd (by kernel_rfl) (by kernel_rfl) (by kernel_rfl))) (fun _ _ _ _ _ => ets_nil) (fun _ _ _ _ _ => (ex_ix (vX 1 (by kernel_rfl) (by kernel_rfl)).b (vX 7 (by kernel_rfl) (by kernel_rfl)).b (fun _ _ => rfl))) (fun _ => rfl) (by decide)).x ea_nil (by kernel_rfl)) rfl (by kernel_rfl) (by kernel_rfl) (lenS len0)) (by kernel_rfl))
  (sxs_cons (sx_setLc (own := [("row", 6)]) 5 false rfl nd (by kernel_rfl) (by kernel_rfl) (by kernel_rfl) (ei_seq (vX 4 (by kernel_rfl) (by kernel_rfl))) (blkOk_by (by kernel_rfl)) (fun _ _ _ _ _ => (eg_name 6 nd (by kernel_rfl) (by kernel_rfl) (by kernel_rfl))) (fun _ _ _ _ _ => ets_nil) (fun _ _ _ _ _ => (ex_dget3 (Zx.Room.u1 hr) (vX 3 (by kernel_rfl) (by kernel_rfl)).b (vX 6 (by kernel_rfl) (by kernel_rfl)).b ex_int ⟨(by kernel_rfl), (by kernel_rfl), (by kernel_rfl), (by kernel_rfl)⟩)) (fun _ => rfl) (by decide))
  (sxs_cons (sx_if (et_cmp (ec_eq (Zx.Room.u64 hr) (ex_maxL rfl (gl_of (by kernel_rfl)) h_max (vX 5 (by kernel_rfl) (by kernel_rfl)).b (by kernel_rfl)).b (ex_minL rfl (gl_of (by kernel_rfl)) h_min (vX 5 (by kernel_rfl) (by kernel_rfl)).b (by kernel_rfl)).b) (by kernel_rfl)) (sxs_one (sx_ret ex_non)) sxs_nil)
  (sxs_one (sx_ret (ex_tup (ea_cons (ex_ix (vX 4 (by kernel_rfl) (by kernel_rfl)).b (ex_index (Zx.Room.u65 hr) (vX 5 (by kernel_rfl) (by kernel_rfl)).b (ex_maxL rfl (gl_of (by kernel_rfl)) h_max (vX 5 (by kernel_rfl) (by kernel_rfl)).b (by kernel_rfl)) (by kernel_rfl) (by kernel_rfl) (by kernel_rfl)).b (fun _ _ => rfl)) (ea_cons (ex_ix (vX 4 (by kernel_rfl) (by kernel_rfl)).b (ex_index (Zx.Room.u65 hr) (vX 5 (by kernel_rfl) (by kernel_rfl)).b (ex_minL rfl (gl_of (by kernel_rfl)) h_min (vX 5 (by kernel_rfl) (by kernel_rfl)).b (by kernel_rfl)) (by kernel_rfl) (by kernel_rfl) (by kernel_rfl)).b (fun _ _ => rfl)) ea_nil (by kernel_rfl)) (by kernel_rfl)))))))))⟩
/-! ### uneven_of -/
abbrev N_uneven_of : List Str := ["runs", "sizes", "t", "told", "rows"]
noncomputable def D_uneven_of : DenS :=
  (sSeq (sFor (iSeq (dCall (lCons (d1 lenD (vR 1)) (lCons (vR 2) lNil)) f_subsets)) (gN 3) (sSeq (sSet 4 (dCall (lCons (vR 0) (lCons (vR 1) (lCons (vR 3) lNil))) f_uneven_at))
   (sIf (b1 notN (vR 4)) (sRet (mkT (lCons (vR 3) (lCons (d2 ixD (vR 4) (kD (.int 0))) (lCons (d2 ixD (vR 4) (kD (.int 1))) lNil))))) sNx)))
  (sRet (kD .none)))
noncomputable def f_uneven_of : List D → Option D := runX D_uneven_of 5
theorem sc_uneven_of : FnScope N_uneven_of ["runs", "sizes", "t"] (defScope (topOf PR 62)) := ⟨rfl, rfl, rfl, by decide +kernel, rfl, by decide +kernel, by decide +kernel⟩
theorem b_uneven_of {w : World} {K : PySem.W.Frag} {mg : Str → Option Value} {base : Heap} {f : Addr} (h_len : mg "len" = none) (c_subsets : FX PR w K mg base 3 "subsets" 2 f_subsets) (c_uneven_at : FX PR w K mg base 3 "uneven_at" 3 f_uneven_at) : Bd PR w K mg base 3 N_uneven_of "uneven_of" (defBody (topOf PR 62)) (defScope (topOf PR 62)) f D_uneven_of :=
  ⟨fun cdv A outer s H E hr => by
  have nd : N_uneven_of.Nodup := sc_uneven_of.nd
  exact (sxs_cons (sx_for PySem.PassesOwn.never rfl (ei_seq (cX (c_subsets : FX PR w K mg base _ _ _ _) hr (gl_of (by kernel_rfl)) (by kernel_rfl) (ea_cons (ex_len (gl_of (by kernel_rfl)) h_len (vX 1 (by kernel_rfl) (by kernel_rfl)).b (by kernel_rfl)) (ea_cons (vX 2 (by kernel_rfl) (by kernel_rfl)) ea_nil (by kernel_rfl)) (by kernel_rfl)) rfl (by kernel_rfl) (by kernel_rfl) (lenS (lenS len0)))) (eg_name 3 nd (by kernel_rfl) (by kernel_rfl) (by kernel_rfl)) (sxs_cons (sx_set 4 nd (by kernel_rfl) (by kernel_rfl) (by kernel_rfl) (cX (c_uneven_at : FX PR w K mg base _ _ _ _) hr (gl_of (by kernel_rfl)) (by kernel_rfl) (ea_cons (vX 0 (by kernel_rfl) (by kernel_rfl)) (ea_cons (vX 1 (by kernel_rfl) (by kernel_rfl)) (ea_cons (vX 3 (by kernel_rfl) (by kernel_rfl)) ea_nil (by kernel_rfl)) (by kernel_rfl)) (by kernel_rfl)) rfl (by kernel_rfl) (by kernel_rfl) (lenS (lenS (lenS len0)))) (by kernel_rfl))
   (sxs_one (sx_if (et_cmp (ec_notN (vX 4 (by kernel_rfl) (by kernel_rfl)).b) (by kernel_rfl)) (sxs_one (sx_ret (ex_tup (ea_cons (vX 3 (by kernel_rfl) (by kernel_rfl)) (ea_cons (ex_ix (vX 4 (by kernel_rfl) (by kernel_rfl)).b ex_int.b (fun _ _ => rfl)) (ea_cons (ex_ix (vX 4 (by kernel_rfl) (by kernel_rfl)).b ex_int.b (fun _ _ => rfl)) ea_nil (by kernel_rfl)) (by kernel_rfl)) (by kernel_rfl))))) sxs_nil))) (fun _ => rfl))
  (sxs_one (sx_ret ex_non)))⟩
/-! ### strength_of -/
abbrev N_strength_of : List Str := ["runs", "sizes", "found"]
noncomputable def D_strength_of : DenS :=
  (sSeq (sSet 2 (kD (.int 0)))
  (sSeq (sWh (bAnd (b2 ltI (vR 2) (d1 lenD (vR 1))) (b1 isN (dCall (lCons (vR 0) (lCons (vR 1) (lCons (d2 addD (vR 2) (kD (.int 1))) lNil))) f_uneven_of))) (sSet 2 (d2 addD (vR 2) (kD (.int 1)))))
  (sRet (vR 2))))
noncomputable def f_strength_of : List D → Option D := runX D_strength_of 3
theorem sc_strength_of : FnScope N_strength_of ["runs", "sizes"] (defScope (topOf PR 63)) := ⟨rfl, rfl, rfl, by decide +kernel, rfl, by decide +kernel, by decide +kernel⟩
theorem b_strength_of {w : World} {K : PySem.W.Frag} {mg : Str → Option Value} {base : Heap} {f : Addr} (h_len : mg "len" = none) (c_uneven_of : FX PR w K mg base 4 "uneven_of" 3 f_uneven_of) : Bd PR w K mg base 4 N_strength_of "strength_of" (defBody (topOf PR 63)) (defScope (topOf PR 63)) f D_strength_of :=
  ⟨fun cdv A outer s H E hr => by
  have nd : N_strength_of.Nodup := sc_strength_of.nd
  exact (sxs_cons (sx_set 2 nd (by kernel_rfl) (by kernel_rfl) (by kernel_rfl) ex_int (by kernel_rfl))
  (sxs_cons (sx_while PySem.PassesOwn.never (ew_and (et_cmp (ec_ltI (vX 2 (by kernel_rfl) (by kernel_rfl)).b (ex_len (gl_of (by kernel_rfl)) h_len (vX 1 (by kernel_rfl) (by kernel_rfl)).b (by kernel_rfl)).b) (by kernel_rfl)) (ew_and1 (et_cmp (ec_isN (cX (c_uneven_of : FX PR w K mg base _ _ _ _) hr (gl_of (by kernel_rfl)) (by kernel_rfl) (ea_cons (vX 0 (by kernel_rfl) (by kernel_rfl)) (ea_cons (vX 1 (by kernel_rfl) (by kernel_rfl)) (ea_cons (ex_add (vX 2 (by kernel_rfl) (by kernel_rfl)).b ex_int.b) ea_nil (by kernel_rfl)) (by kernel_rfl)) (by kernel_rfl)) rfl (by kernel_rfl) (by kernel_rfl) (lenS (lenS (lenS len0)))).b) (by kernel_rfl)))).t (sxs_one (sx_set 2 nd (by kernel_rfl) (by kernel_rfl) (by kernel_rfl) (ex_add (vX 2 (by kernel_rfl) (by kernel_rfl)).b ex_int.b) (by kernel_rfl))))
  (sxs_one (sx_ret (vX 2 (by kernel_rfl) (by kernel_rfl))))))⟩
/-! ### strength -/
abbrev N_strength : List Str := ["runs", "sizes"]
noncomputable def D_strength : DenS :=
  (sSeq (sDrop (dCall (lCons (vR 0) (lCons (vR 1) lNil)) f_check_runs))
  (sRet (dCall (lCons (vR 0) (lCons (vR 1) lNil)) f_strength_of)))
noncomputable def f_strength : List D → Option D := runX D_strength 2
theorem sc_strength : FnScope N_strength ["runs", "sizes"] (defScope (topOf PR 64)) := ⟨rfl, rfl, rfl, by decide +kernel, rfl, by decide +kernel, by decide +kernel⟩
theorem b_strength {w : World} {K : PySem.W.Frag} {mg : Str → Option Value} {base : Heap} {f : Addr} (c_check_runs : FX PR w K mg base 5 "check_runs" 2 f_check_runs) (c_strength_of : FX PR w K mg base 5 "strength_of" 2 f_strength_of) : Bd PR w K mg base 5 N_strength "strength" (defBody (topOf PR 64)) (defScope (topOf PR 64)) f D_strength :=
  ⟨fun cdv A outer s H E hr => by
  have nd : N_strength.Nodup := sc_strength.nd
  exact (sxs_cons (sx_expr (cX (c_check_runs : FX PR w K mg base _ _ _ _) hr (gl_of (by kernel_rfl)) (by kernel_rfl) (ea_cons (vX 0 (by kernel_rfl) (by kernel_rfl)) (ea_cons (vX 1 (by kernel_rfl) (by kernel_rfl)) ea_nil (by kernel_rfl)) (by kernel_rfl)) rfl (by kernel_rfl) (by kernel_rfl) (lenS (lenS len0))) (by kernel_rfl))
  (sxs_one (sx_ret (cX (c_strength_of : FX PR w K mg base _ _ _ _) hr (gl_of (by kernel_rfl)) (by kernel_rfl) (ea_cons (vX 0 (by kernel_rfl) (by kernel_rfl)) (ea_cons (vX 1 (by kernel_rfl) (by kernel_rfl)) ea_nil (by kernel_rfl)) (by kernel_rfl)) rfl (by kernel_rfl) (by kernel_rfl) (lenS (lenS len0))))))⟩
/-! ### check_number_groups -/
abbrev N_check_number_groups : List Str := ["factors"]
noncomputable def D_check_number_groups : DenS :=
  (sIf (bNot (bCh leI leI (kD (.int 1)) (vR 0) (kD (.int (7))))) sNo sNx)
noncomputable def f_check_number_groups : List D → Option D := runX D_check_number_groups 1
theorem sc_check_number_groups : FnScope N_check_number_groups ["factors"] (defScope (topOf PR 47)) := ⟨rfl, rfl, rfl, by decide +kernel, rfl, by decide +kernel, by decide +kernel⟩
theorem b_check_number_groups {w : World} {K : PySem.W.Frag} {mg : Str → Option Value} {base : Heap} {f : Addr} {t_MOST_FACTORS_groups : Tok} (h_MOST_FACTORS_groups : mg "MOST_FACTORS_groups" = some (.int (7) t_MOST_FACTORS_groups)) : Bd PR w K mg base 0 N_check_number_groups "check_number" (defBody (topOf PR 47)) (defScope (topOf PR 47)) f D_check_number_groups :=
  ⟨fun cdv A outer s H E hr => by
  have nd : N_check_number_groups.Nodup := sc_check_number_groups.nd
  exact (sxs_one (sx_if (et_not (et_leLe ex_int.b (vX 0 (by kernel_rfl) (by kernel_rfl)).b (ex_glob (gl_of (by kernel_rfl)) h_MOST_FACTORS_groups (by kernel_rfl)).b (by kernel_rfl))) (sxs_one sx_no) sxs_nil))⟩
/-! ### is_word -/
abbrev N_is_word : List Str := ["factors", "word", "one", "two"]
noncomputable def D_is_word : DenS :=
  (sRet (dAnd (d1 allD (dLc (iSeq (vR 1)) (gN 2) bYes (bV (bCh leI ltI (kD (.int 0)) (vR 2) (vR 0))) [2])) (d1 allD (dLc (iZpX (vR 1) (dSl (vR 1) (oSome (kD (.int 1))) oNone)) (gT (gsCons (gN 2) (gsCons (gN 3) gsNil)) 2) bYes (bV (b2 ltI (vR 2) (vR 3))) [2, 3]))))
noncomputable def f_is_word : List D → Option D := runX D_is_word 4
theorem sc_is_word : FnScope N_is_word ["factors", "word"] (defScope (topOf PR 49)) := ⟨rfl, rfl, rfl, by decide +kernel, rfl, by decide +kernel, by decide +kernel⟩
theorem b_is_word {w : World} {K : PySem.W.Frag} {mg : Str → Option Value} {base : Heap} {f : Addr} (h_all : mg "all" = none) (h_zip : mg "zip" = none) : Bd PR w K mg base 0 N_is_word "is_word" (defBody (topOf PR 49)) (defScope (topOf PR 49)) f D_is_word :=
  ⟨fun cdv A outer s H E hr => by
  have nd : N_is_word.Nodup := sc_is_word.nd
  exact (sxs_one (sx_ret (ex_and (ex_all rfl (gl_of (by kernel_rfl)) h_all (en_lc (own := [("one", 2)]) rfl nd (ei_seq (vX 1 (by kernel_rfl) (by kernel_rfl))) (blkOk_by (by kernel_rfl)) (fun _ _ _ _ _ => (eg_name 2 nd (by kernel_rfl) (by kernel_rfl) (by kernel_rfl))) (fun _ _ _ _ _ => ets_nil) (fun _ _ _ _ _ => (ex_leLt ex_int.b (vX 2 (by kernel_rfl) (by kernel_rfl)).b (vX 0 (by kernel_rfl) (by kernel_rfl)).b (by kernel_rfl))) (fun _ => rfl) (by decide)).x.b (by kernel_rfl)) (ex_one (ex_all rfl (gl_of (by kernel_rfl)) h_all (en_lc (own := [("one", 2), ("two", 3)]) rfl nd (ei_zipX (gl_of (by kernel_rfl)) h_zip (vX 1 (by kernel_rfl) (by kernel_rfl)) (ex_sl (vX 1 (by kernel_rfl) (by kernel_rfl)).b (eo_some ex_int.b) eo_none) (by kernel_rfl) (by kernel_rfl)) (blkOk_by (by kernel_rfl)) (fun _ _ _ _ _ => (eg_tup (n := 2) rfl (egs_cons (eg_name 2 nd (by kernel_rfl) (by kernel_rfl) (by kernel_rfl)) (egs_cons (eg_name 3 nd (by kernel_rfl) (by kernel_rfl) (by kernel_rfl)) egs_nil (by kernel_rfl)) (by kernel_rfl)) (by kernel_rfl) (by kernel_rfl))) (fun _ _ _ _ _ => ets_nil) (fun _ _ _ _ _ => (ex_cmp (ec_ltI (vX 2 (by kernel_rfl) (by kernel_rfl)).b (vX 3 (by kernel_rfl) (by kernel_rfl)).b) (by kernel_rfl))) (fun _ => rfl) (by decide)).x.b (by kernel_rfl))))))⟩
/-! ### check_words -/
abbrev N_check_words : List Str := ["factors", "words", "k", "word"]
noncomputable def D_check_words : DenS :=
  (sSeq (sDrop (dCall (lCons (vR 0) lNil) f_check_number_groups))
  (sSeq (sIf (b2 gtI (d1 lenD (vR 1)) (kD (.int (6)))) sNo sNx)
  (sFor (iEn (vR 1)) (gT (gsCons (gN 2) (gsCons (gN 3) gsNil)) 2) (sIf (bOr (b2 eqD (d1 lenD (vR 3)) (kD (.int 0))) (bNot (b1 truD (dCall (lCons (vR 0) (lCons (vR 3) lNil)) f_is_word)))) sNo sNx))))
noncomputable def f_check_words : List D → Option D := runX D_check_words 4
theorem sc_check_words : FnScope N_check_words ["factors", "words"] (defScope (topOf PR 50)) := ⟨rfl, rfl, rfl, by decide +kernel, rfl, by decide +kernel, by decide +kernel⟩
theorem b_check_words {w : World} {K : PySem.W.Frag} {mg : Str → Option Value} {base : Heap} {f : Addr} (h_enumerate : mg "enumerate" = none) (h_len : mg "len" = none) {t_MOST_WORDS : Tok} (h_MOST_WORDS : mg "MOST_WORDS" = some (.int (6) t_MOST_WORDS)) (c_check_number_groups : FX PR w K mg base 1 "check_number_groups" 1 f_check_number_groups) (c_is_word : FX PR w K mg base 1 "is_word" 2 f_is_word) : Bd PR w K mg base 1 N_check_words "check_words" (defBody (topOf PR 50)) (defScope (topOf PR 50)) f D_check_words :=
  ⟨fun cdv A outer s H E hr => by
  have nd : N_check_words.Nodup := sc_check_words.nd
  exact (sxs_cons (sx_expr (cX (c_check_number_groups : FX PR w K mg base _ _ _ _) hr (gl_of (by kernel_rfl)) (by kernel_rfl) (ea_cons (vX 0 (by kernel_rfl) (by kernel_rfl)) ea_nil (by kernel_rfl)) rfl (by kernel_rfl) (by kernel_rfl) (lenS len0)) (by kernel_rfl))
  (sxs_cons (sx_if (et_cmp (ec_gtI (ex_len (gl_of (by kernel_rfl)) h_len (vX 1 (by kernel_rfl) (by kernel_rfl)).b (by kernel_rfl)).b (ex_glob (gl_of (by kernel_rfl)) h_MOST_WORDS (by kernel_rfl)).b) (by kernel_rfl)) (sxs_one sx_no) sxs_nil)
  (sxs_one (sx_for PySem.PassesOwn.never rfl (ei_enum (gl_of (by kernel_rfl)) h_enumerate (vX 1 (by kernel_rfl) (by kernel_rfl)) (by kernel_rfl)) (eg_tup (n := 2) rfl (egs_cons (eg_name 2 nd (by kernel_rfl) (by kernel_rfl) (by kernel_rfl)) (egs_cons (eg_name 3 nd (by kernel_rfl) (by kernel_rfl) (by kernel_rfl)) egs_nil (by kernel_rfl)) (by kernel_rfl)) (by kernel_rfl) (by kernel_rfl)) (sxs_one (sx_if (ew_or (et_cmp (ec_eq (Zx.Room.u64 hr) (ex_len (gl_of (by kernel_rfl)) h_len (vX 3 (by kernel_rfl) (by kernel_rfl)).b (by kernel_rfl)).b ex_int.b) (by kernel_rfl)) (ew_or1 (et_not (et_val (cX (c_is_word : FX PR w K mg base _ _ _ _) hr (gl_of (by kernel_rfl)) (by kernel_rfl) (ea_cons (vX 0 (by kernel_rfl) (by kernel_rfl)) (ea_cons (vX 3 (by kernel_rfl) (by kernel_rfl)) ea_nil (by kernel_rfl)) (by kernel_rfl)) rfl (by kernel_rfl) (by kernel_rfl) (lenS (lenS len0))).b (fun _ => rfl))))).t (sxs_one sx_no) sxs_nil)) (fun _ => rfl)))))⟩
/-! ### all_rows -/
abbrev N_all_rows : List Str := ["factors", "found", "_", "told", "level"]
noncomputable def D_all_rows : DenS :=
  (sSeq (sSet 1 (mkL (lCons (mkT lNil) lNil)))
  (sSeq (sFor (iR1 (vR 0)) (gN 2) (sLcSet 1 false (dLc2 (iSeq (vR 1)) (gN 3) bYes (iSeq (mkT (lCons (kD (.int 0)) (lCons (kD (.int 1)) lNil)))) (gN 4) bYes (mkT (lStar (vR 3) (lCons (vR 4) lNil))) [3, 4] [4])))
  (sRet (vR 1))))
noncomputable def f_all_rows : List D → Option D := runX D_all_rows 5
theorem sc_all_rows : FnScope N_all_rows ["factors"] (defScope (topOf PR 55)) := ⟨rfl, rfl, rfl, by decide +kernel, rfl, by decide +kernel, by decide +kernel⟩
theorem b_all_rows {w : World} {K : PySem.W.Frag} {mg : Str → Option Value} {base : Heap} {f : Addr} (h_range : mg "range" = none) : Bd PR w K mg base 0 N_all_rows "all_rows" (defBody (topOf PR 55)) (defScope (topOf PR 55)) f D_all_rows :=
  ⟨fun cdv A outer s H E hr => by
  have nd : N_all_rows.Nodup := sc_all_rows.nd
  exact (sxs_cons (sx_set 1 nd (by kernel_rfl) (by kernel_rfl) (by kernel_rfl) (en_lst (ea_cons (ex_tup ea_nil) ea_nil (by kernel_rfl))).x (by kernel_rfl))
  (sxs_cons (sx_for PySem.PassesOwn.never rfl (ei_r1 (gl_of (by kernel_rfl)) h_range (vX 0 (by kernel_rfl) (by kernel_rfl)) (by kernel_rfl)) (eg_name 2 nd (by kernel_rfl) (by kernel_rfl) (by kernel_rfl)) (sxs_one (sx_setLc2 (vs1 := [4]) (own := [("told", 3), ("level", 4)]) 1 false rfl nd (by kernel_rfl) (by kernel_rfl) (by kernel_rfl) (ei_seq (vX 1 (by kernel_rfl) (by kernel_rfl))) (blkOk_by (by kernel_rfl)) (by decide) (fun _ _ _ _ _ => (eg_name 3 nd (by kernel_rfl) (by kernel_rfl) (by kernel_rfl))) (fun _ _ _ _ _ => ets_nil) (fun _ _ _ _ _ => (ei_seq (ex_tup (ea_cons ex_int (ea_cons ex_int ea_nil (by kernel_rfl)) (by kernel_rfl))))) (fun _ _ _ _ _ => (eg_name 4 nd (by kernel_rfl) (by kernel_rfl) (by kernel_rfl))) (fun _ _ _ _ _ => ets_nil) (fun _ _ _ _ _ => (ex_tup (ea_star (vX 3 (by kernel_rfl) (by kernel_rfl)).b (ea_cons (vX 4 (by kernel_rfl) (by kernel_rfl)) ea_nil (by kernel_rfl)) (by kernel_rfl)))) (fun _ => rfl) (fun _ _ => rfl) (by decide) (by decide))) (fun _ => rfl))
  (sxs_one (sx_ret (vX 1 (by kernel_rfl) (by kernel_rfl))))))⟩
/-! ### is_even -/
abbrev N_is_even : List Str := ["word", "run", "factor"]
noncomputable def D_is_even : DenS :=
  (sRet (bV (b2 eqD (d2 modD (d1 sumD (dLc (iSeq (vR 0)) (gN 2) bYes (d2 ixD (vR 1) (vR 2)) [2])) (kD (.int 2))) (kD (.int 0)))))
noncomputable def f_is_even : List D → Option D := runX D_is_even 3
theorem sc_is_even : FnScope N_is_even ["word", "run"] (defScope (topOf PR 54)) := ⟨rfl, rfl, rfl, by decide +kernel, rfl, by decide +kernel, by decide +kernel⟩
theorem b_is_even {w : World} {K : PySem.W.Frag} {mg : Str → Option Value} {base : Heap} {f : Addr} (h_sum : mg "sum" = none) : Bd PR w K mg base 0 N_is_even "is_even" (defBody (topOf PR 54)) (defScope (topOf PR 54)) f D_is_even :=
  ⟨fun cdv A outer s H E hr => by
  have nd : N_is_even.Nodup := sc_is_even.nd
  exact (sxs_one (sx_ret (ex_cmp (ec_eq (Zx.Room.u64 hr) (ex_mod (ex_sum rfl (gl_of (by kernel_rfl)) h_sum (en_lc (own := [("factor", 2)]) rfl nd (ei_seq (vX 0 (by kernel_rfl) (by kernel_rfl))) (blkOk_by (by kernel_rfl)) (fun _ _ _ _ _ => (eg_name 2 nd (by kernel_rfl) (by kernel_rfl) (by kernel_rfl))) (fun _ _ _ _ _ => ets_nil) (fun _ _ _ _ _ => (ex_ix (vX 1 (by kernel_rfl) (by kernel_rfl)).b (vX 2 (by kernel_rfl) (by kernel_rfl)).b (fun _ _ => rfl))) (fun _ => rfl) (by decide)).x.b (by kernel_rfl)).b ex_int.b).b ex_int.b) (by kernel_rfl))))⟩
/-! ### runs_by -/
abbrev N_runs_by : List Str := ["factors", "words", "run", "word"]
noncomputable def D_runs_by : DenS :=
  (sRet (dLc (iSeq (dCall (lCons (vR 0) lNil) f_all_rows)) (gN 2) (b1 truD (d1 allD (dLc (iSeq (vR 1)) (gN 3) bYes (dCall (lCons (vR 3) (lCons (vR 2) lNil)) f_is_even) [3]))) (vR 2) [2]))
noncomputable def f_runs_by : List D → Option D := runX D_runs_by 4
theorem sc_runs_by : FnScope N_runs_by ["factors", "words"] (defScope (topOf PR 56)) := ⟨rfl, rfl, rfl, by decide +kernel, rfl, by decide +kernel, by decide +kernel⟩
theorem b_runs_by {w : World} {K : PySem.W.Frag} {mg : Str → Option Value} {base : Heap} {f : Addr} (h_all : mg "all" = none) (c_all_rows : FX PR w K mg base 1 "all_rows" 1 f_all_rows) (c_is_even : FX PR w K mg base 1 "is_even" 2 f_is_even) : Bd PR w K mg base 1 N_runs_by "runs_by" (defBody (topOf PR 56)) (defScope (topOf PR 56)) f D_runs_by :=
  ⟨fun cdv A outer s H E hr => by
  have nd : N_runs_by.Nodup := sc_runs_by.nd
  exact (sxs_one (sx_ret (en_lc (own := [("run", 2)]) rfl nd (ei_seq (cX (c_all_rows : FX PR w K mg base _ _ _ _) hr (gl_of (by kernel_rfl)) (by kernel_rfl) (ea_cons (vX 0 (by kernel_rfl) (by kernel_rfl)) ea_nil (by kernel_rfl)) rfl (by kernel_rfl) (by kernel_rfl) (lenS len0))) (blkOk_by (by kernel_rfl)) (fun _ _ _ _ _ => (eg_name 2 nd (by kernel_rfl) (by kernel_rfl) (by kernel_rfl))) (fun _ _ _ _ _ => (ets_one (et_val (ex_all rfl (gl_of (by kernel_rfl)) h_all (en_lc (own := [("word", 3)]) rfl nd (ei_seq (vX 1 (by kernel_rfl) (by kernel_rfl))) (blkOk_by (by kernel_rfl)) (fun _ _ _ _ _ => (eg_name 3 nd (by kernel_rfl) (by kernel_rfl) (by kernel_rfl))) (fun _ _ _ _ _ => ets_nil) (fun _ _ _ _ _ => (cX (c_is_even : FX PR w K mg base _ _ _ _) hr (gl_of (by kernel_rfl)) (by kernel_rfl) (ea_cons (vX 3 (by kernel_rfl) (by kernel_rfl)) (ea_cons (vX 2 (by kernel_rfl) (by kernel_rfl)) ea_nil (by kernel_rfl)) (by kernel_rfl)) rfl (by kernel_rfl) (by kernel_rfl) (lenS (lenS len0)))) (fun _ => rfl) (by decide)).x.b (by kernel_rfl)).b (fun _ => rfl)))) (fun _ _ _ _ _ => (vX 2 (by kernel_rfl) (by kernel_rfl))) (fun _ => rfl) (by decide)).x))⟩
/-! ### runs_of -/
abbrev N_runs_of : List Str := ["factors", "words"]
noncomputable def D_runs_of : DenS :=
  (sSeq (sDrop (dCall (lCons (vR 0) (lCons (vR 1) lNil)) f_check_words))
  (sRet (dCall (lCons (vR 0) (lCons (vR 1) lNil)) f_runs_by)))
noncomputable def f_runs_of : List D → Option D := runX D_runs_of 2
theorem sc_runs_of : FnScope N_runs_of ["factors", "words"] (defScope (topOf PR 57)) := ⟨rfl, rfl, rfl, by decide +kernel, rfl, by decide +kernel, by decide +kernel⟩
theorem b_runs_of {w : World} {K : PySem.W.Frag} {mg : Str → Option Value} {base : Heap} {f : Addr} (c_check_words : FX PR w K mg base 2 "check_words" 2 f_check_words) (c_runs_by : FX PR w K mg base 2 "runs_by" 2 f_runs_by) : Bd PR w K mg base 2 N_runs_of "runs_of" (defBody (topOf PR 57)) (defScope (topOf PR 57)) f D_runs_of :=
  ⟨fun cdv A outer s H E hr => by
  have nd : N_runs_of.Nodup := sc_runs_of.nd
  exact (sxs_cons (sx_expr (cX (c_check_words : FX PR w K mg base _ _ _ _) hr (gl_of (by kernel_rfl)) (by kernel_rfl) (ea_cons (vX 0 (by kernel_rfl) (by kernel_rfl)) (ea_cons (vX 1 (by kernel_rfl) (by kernel_rfl)) ea_nil (by kernel_rfl)) (by kernel_rfl)) rfl (by kernel_rfl) (by kernel_rfl) (lenS (lenS len0))) (by kernel_rfl))
  (sxs_one (sx_ret (cX (c_runs_by : FX PR w K mg base _ _ _ _) hr (gl_of (by kernel_rfl)) (by kernel_rfl) (ea_cons (vX 0 (by kernel_rfl) (by kernel_rfl)) (ea_cons (vX 1 (by kernel_rfl) (by kernel_rfl)) ea_nil (by kernel_rfl)) (by kernel_rfl)) rfl (by kernel_rfl) (by kernel_rfl) (lenS (lenS len0))))))⟩
/-! ### check_some -/
abbrev N_check_some : List Str := ["runs", "sizes", "k", "run", "level", "size"]
noncomputable def D_check_some : DenS :=
  (sSeq (sIf (b2 gtI (d1 lenD (vR 0)) (kD (.int (64)))) sNo sNx)
  (sFor (iEn (vR 0)) (gT (gsCons (gN 2) (gsCons (gN 3) gsNil)) 2) (sIf (bOr (b2 neD (d1 lenD (vR 3)) (d1 lenD (vR 1))) (bNot (b1 truD (d1 allD (dLc (iZpX (vR 3) (vR 1)) (gT (gsCons (gN 4) (gsCons (gN 5) gsNil)) 2) bYes (bV (bCh leI ltI (kD (.int 0)) (vR 4) (vR 5))) [4, 5]))))) sNo sNx)))
noncomputable def f_check_some : List D → Option D := runX D_check_some 6
theorem sc_check_some : FnScope N_check_some ["runs", "sizes"] (defScope (topOf PR 34)) := ⟨rfl, rfl, rfl, by decide +kernel, rfl, by decide +kernel, by decide +kernel⟩
theorem b_check_some {w : World} {K : PySem.W.Frag} {mg : Str → Option Value} {base : Heap} {f : Addr} (h_all : mg "all" = none) (h_enumerate : mg "enumerate" = none) (h_len : mg "len" = none) (h_zip : mg "zip" = none) {t_MOST_FULL : Tok} (h_MOST_FULL : mg "MOST_FULL" = some (.int (64) t_MOST_FULL)) : Bd PR w K mg base 0 N_check_some "check_some" (defBody (topOf PR 34)) (defScope (topOf PR 34)) f D_check_some :=
  ⟨fun cdv A outer s H E hr => by
  have nd : N_check_some.Nodup := sc_check_some.nd
  exact (sxs_cons (sx_if (et_cmp (ec_gtI (ex_len (gl_of (by kernel_rfl)) h_len (vX 0 (by kernel_rfl) (by kernel_rfl)).b (by kernel_rfl)).b (ex_glob (gl_of (by kernel_rfl)) h_MOST_FULL (by kernel_rfl)).b) (by kernel_rfl)) (sxs_one sx_no) sxs_nil)
  (sxs_one (sx_for PySem.PassesOwn.never rfl (ei_enum (gl_of (by kernel_rfl)) h_enumerate (vX 0 (by kernel_rfl) (by kernel_rfl)) (by kernel_rfl)) (eg_tup (n := 2) rfl (egs_cons (eg_name 2 nd (by kernel_rfl) (by kernel_rfl) (by kernel_rfl)) (egs_cons (eg_name 3 nd (by kernel_rfl) (by kernel_rfl) (by kernel_rfl)) egs_nil (by kernel_rfl)) (by kernel_rfl)) (by kernel_rfl) (by kernel_rfl)) (sxs_one (sx_if (ew_or (et_cmp (ec_ne (Zx.Room.u64 hr) (ex_len (gl_of (by kernel_rfl)) h_len (vX 3 (by kernel_rfl) (by kernel_rfl)).b (by kernel_rfl)).b (ex_len (gl_of (by kernel_rfl)) h_len (vX 1 (by kernel_rfl) (by kernel_rfl)).b (by kernel_rfl)).b) (by kernel_rfl)) (ew_or1 (et_not (et_val (ex_all rfl (gl_of (by kernel_rfl)) h_all (en_lc (own := [("level", 4), ("size", 5)]) rfl nd (ei_zipX (gl_of (by kernel_rfl)) h_zip (vX 3 (by kernel_rfl) (by kernel_rfl)) (vX 1 (by kernel_rfl) (by kernel_rfl)) (by kernel_rfl) (by kernel_rfl)) (blkOk_by (by kernel_rfl)) (fun _ _ _ _ _ => (eg_tup (n := 2) rfl (egs_cons (eg_name 4 nd (by kernel_rfl) (by kernel_rfl) (by kernel_rfl)) (egs_cons (eg_name 5 nd (by kernel_rfl) (by kernel_rfl) (by kernel_rfl)) egs_nil (by kernel_rfl)) (by kernel_rfl)) (by kernel_rfl) (by kernel_rfl))) (fun _ _ _ _ _ => ets_nil) (fun _ _ _ _ _ => (ex_leLt ex_int.b (vX 4 (by kernel_rfl) (by kernel_rfl)).b (vX 5 (by kernel_rfl) (by kernel_rfl)).b (by kernel_rfl))) (fun _ => rfl) (by decide)).x.b (by kernel_rfl)).b (fun _ => rfl))))).t (sxs_one sx_no) sxs_nil)) (fun _ => rfl))))⟩
/-! ### product_of -/
abbrev N_product_of : List Str := ["sizes", "found", "size"]
noncomputable def D_product_of : DenS :=
  (sSeq (sSet 1 (kD (.int 1)))
  (sSeq (sFor (iSeq (vR 0)) (gN 2) (sSet 1 (d2 mulI (vR 1) (vR 2))))
  (sRet (vR 1))))
noncomputable def f_product_of : List D → Option D := runX D_product_of 3
theorem sc_product_of : FnScope N_product_of ["sizes"] (defScope (topOf PR 28)) := ⟨rfl, rfl, rfl, by decide +kernel, rfl, by decide +kernel, by decide +kernel⟩
theorem b_product_of {w : World} {K : PySem.W.Frag} {mg : Str → Option Value} {base : Heap} {f : Addr}  : Bd PR w K mg base 0 N_product_of "product_of" (defBody (topOf PR 28)) (defScope (topOf PR 28)) f D_product_of :=
  ⟨fun cdv A outer s H E hr => by
  have nd : N_product_of.Nodup := sc_product_of.nd
  exact (sxs_cons (sx_set 1 nd (by kernel_rfl) (by kernel_rfl) (by kernel_rfl) ex_int (by kernel_rfl))
  (sxs_cons (sx_for PySem.PassesOwn.never rfl (ei_seq (vX 0 (by kernel_rfl) (by kernel_rfl))) (eg_name 2 nd (by kernel_rfl) (by kernel_rfl) (by kernel_rfl)) (sxs_one (sx_set 1 nd (by kernel_rfl) (by kernel_rfl) (by kernel_rfl) (ex_mulI (vX 1 (by kernel_rfl) (by kernel_rfl)).b (vX 2 (by kernel_rfl) (by kernel_rfl)).b) (by kernel_rfl))) (fun _ => rfl))
  (sxs_one (sx_ret (vX 1 (by kernel_rfl) (by kernel_rfl))))))⟩
/-! ### check_full -/
abbrev N_check_full : List Str := ["sizes"]
noncomputable def D_check_full : DenS :=
  (sSeq (sDrop (dCall (lCons (vR 0) lNil) f_check_sizes))
  (sSeq (sIf (b2 gtI (d1 lenD (vR 0)) (kD (.int (6)))) sNo sNx)
  (sIf (b2 gtI (dCall (lCons (vR 0) lNil) f_product_of) (kD (.int (64)))) sNo sNx)))
noncomputable def f_check_full : List D → Option D := runX D_check_full 1
theorem sc_check_full : FnScope N_check_full ["sizes"] (defScope (topOf PR 29)) := ⟨rfl, rfl, rfl, by decide +kernel, rfl, by decide +kernel, by decide +kernel⟩
theorem b_check_full {w : World} {K : PySem.W.Frag} {mg : Str → Option Value} {base : Heap} {f : Addr} (h_len : mg "len" = none) {t_MOST_COVERED : Tok} (h_MOST_COVERED : mg "MOST_COVERED" = some (.int (6) t_MOST_COVERED)) {t_MOST_FULL : Tok} (h_MOST_FULL : mg "MOST_FULL" = some (.int (64) t_MOST_FULL)) (c_check_sizes : FX PR w K mg base 1 "check_sizes" 1 f_check_sizes) (c_product_of : FX PR w K mg base 1 "product_of" 1 f_product_of) : Bd PR w K mg base 1 N_check_full "check_full" (defBody (topOf PR 29)) (defScope (topOf PR 29)) f D_check_full :=
  ⟨fun cdv A outer s H E hr => by
  have nd : N_check_full.Nodup := sc_check_full.nd
  exact (sxs_cons (sx_expr (cX (c_check_sizes : FX PR w K mg base _ _ _ _) hr (gl_of (by kernel_rfl)) (by kernel_rfl) (ea_cons (vX 0 (by kernel_rfl) (by kernel_rfl)) ea_nil (by kernel_rfl)) rfl (by kernel_rfl) (by kernel_rfl) (lenS len0)) (by kernel_rfl))
  (sxs_cons (sx_if (et_cmp (ec_gtI (ex_len (gl_of (by kernel_rfl)) h_len (vX 0 (by kernel_rfl) (by kernel_rfl)).b (by kernel_rfl)).b (ex_glob (gl_of (by kernel_rfl)) h_MOST_COVERED (by kernel_rfl)).b) (by kernel_rfl)) (sxs_one sx_no) sxs_nil)
  (sxs_one (sx_if (et_cmp (ec_gtI (cX (c_product_of : FX PR w K mg base _ _ _ _) hr (gl_of (by kernel_rfl)) (by kernel_rfl) (ea_cons (vX 0 (by kernel_rfl) (by kernel_rfl)) ea_nil (by kernel_rfl)) rfl (by kernel_rfl) (by kernel_rfl) (lenS len0)).b (ex_glob (gl_of (by kernel_rfl)) h_MOST_FULL (by kernel_rfl)).b) (by kernel_rfl)) (sxs_one sx_no) sxs_nil))))⟩
/-! ### check_number_sights -/
abbrev N_check_number_sights : List Str := ["sizes", "t"]
noncomputable def D_check_number_sights : DenS :=
  (sIf (bOr (bNot (bCh leI leI (kD (.int 1)) (vR 1) (kD (.int (3))))) (b2 gtI (vR 1) (d1 lenD (vR 0)))) sNo sNx)
noncomputable def f_check_number_sights : List D → Option D := runX D_check_number_sights 2
theorem sc_check_number_sights : FnScope N_check_number_sights ["sizes", "t"] (defScope (topOf PR 31)) := ⟨rfl, rfl, rfl, by decide +kernel, rfl, by decide +kernel, by decide +kernel⟩
theorem b_check_number_sights {w : World} {K : PySem.W.Frag} {mg : Str → Option Value} {base : Heap} {f : Addr} (h_len : mg "len" = none) {t_MOST_T : Tok} (h_MOST_T : mg "MOST_T" = some (.int (3) t_MOST_T)) : Bd PR w K mg base 0 N_check_number_sights "check_number" (defBody (topOf PR 31)) (defScope (topOf PR 31)) f D_check_number_sights :=
  ⟨fun cdv A outer s H E hr => by
  have nd : N_check_number_sights.Nodup := sc_check_number_sights.nd
  exact (sxs_one (sx_if (ew_or (et_not (et_leLe ex_int.b (vX 1 (by kernel_rfl) (by kernel_rfl)).b (ex_glob (gl_of (by kernel_rfl)) h_MOST_T (by kernel_rfl)).b (by kernel_rfl))) (ew_or1 (et_cmp (ec_gtI (vX 1 (by kernel_rfl) (by kernel_rfl)).b (ex_len (gl_of (by kernel_rfl)) h_len (vX 0 (by kernel_rfl) (by kernel_rfl)).b (by kernel_rfl)).b) (by kernel_rfl)))).t (sxs_one sx_no) sxs_nil))⟩
/-! ### check_sights -/
abbrev N_check_sights : List Str := ["sizes", "t"]
noncomputable def D_check_sights : DenS :=
  (sSeq (sDrop (dCall (lCons (vR 0) lNil) f_check_full))
  (sDrop (dCall (lCons (vR 0) (lCons (vR 1) lNil)) f_check_number_sights)))
noncomputable def f_check_sights : List D → Option D := runX D_check_sights 2
theorem sc_check_sights : FnScope N_check_sights ["sizes", "t"] (defScope (topOf PR 30)) := ⟨rfl, rfl, rfl, by decide +kernel, rfl, by decide +kernel, by decide +kernel⟩
theorem b_check_sights {w : World} {K : PySem.W.Frag} {mg : Str → Option Value} {base : Heap} {f : Addr} (c_check_full : FX PR w K mg base 2 "check_full" 1 f_check_full) (c_check_number_sights : FX PR w K mg base 2 "check_number_sights" 2 f_check_number_sights) : Bd PR w K mg base 2 N_check_sights "check_sights" (defBody (topOf PR 30)) (defScope (topOf PR 30)) f D_check_sights :=
  ⟨fun cdv A outer s H E hr => by
  have nd : N_check_sights.Nodup := sc_check_sights.nd
  exact (sxs_cons (sx_expr (cX (c_check_full : FX PR w K mg base _ _ _ _) hr (gl_of (by kernel_rfl)) (by kernel_rfl) (ea_cons (vX 0 (by kernel_rfl) (by kernel_rfl)) ea_nil (by kernel_rfl)) rfl (by kernel_rfl) (by kernel_rfl) (lenS len0)) (by kernel_rfl))
  (sxs_one (sx_expr (cX (c_check_number_sights : FX PR w K mg base _ _ _ _) hr (gl_of (by kernel_rfl)) (by kernel_rfl) (ea_cons (vX 0 (by kernel_rfl) (by kernel_rfl)) (ea_cons (vX 1 (by kernel_rfl) (by kernel_rfl)) ea_nil (by kernel_rfl)) (by kernel_rfl)) rfl (by kernel_rfl) (by kernel_rfl) (lenS (lenS len0))) (by kernel_rfl))))⟩
/-! ### check_covering -/
abbrev N_check_covering : List Str := ["runs", "sizes", "t"]
noncomputable def D_check_covering : DenS :=
  (sSeq (sDrop (dCall (lCons (vR 1) lNil) f_check_sizes))
  (sSeq (sDrop (dCall (lCons (vR 0) (lCons (vR 1) lNil)) f_check_some))
  (sDrop (dCall (lCons (vR 1) (lCons (vR 2) lNil)) f_check_sights))))
noncomputable def f_check_covering : List D → Option D := runX D_check_covering 3
theorem sc_check_covering : FnScope N_check_covering ["runs", "sizes", "t"] (defScope (topOf PR 33)) := ⟨rfl, rfl, rfl, by decide +kernel, rfl, by decide +kernel, by decide +kernel⟩
theorem b_check_covering {w : World} {K : PySem.W.Frag} {mg : Str → Option Value} {base : Heap} {f : Addr} (c_check_sights : FX PR w K mg base 3 "check_sights" 2 f_check_sights) (c_check_sizes : FX PR w K mg base 3 "check_sizes" 1 f_check_sizes) (c_check_some : FX PR w K mg base 3 "check_some" 2 f_check_some) : Bd PR w K mg base 3 N_check_covering "check_covering" (defBody (topOf PR 33)) (defScope (topOf PR 33)) f D_check_covering :=
  ⟨fun cdv A outer s H E hr => by
  have nd : N_check_covering.Nodup := sc_check_covering.nd
  exact (sxs_cons (sx_expr (cX (c_check_sizes : FX PR w K mg base _ _ _ _) hr (gl_of (by kernel_rfl)) (by kernel_rfl) (ea_cons (vX 1 (by kernel_rfl) (by kernel_rfl)) ea_nil (by kernel_rfl)) rfl (by kernel_rfl) (by kernel_rfl) (lenS len0)) (by kernel_rfl))
  (sxs_cons (sx_expr (cX (c_check_some : FX PR w K mg base _ _ _ _) hr (gl_of (by kernel_rfl)) (by kernel_rfl) (ea_cons (vX 0 (by kernel_rfl) (by kernel_rfl)) (ea_cons (vX 1 (by kernel_rfl) (by kernel_rfl)) ea_nil (by kernel_rfl)) (by kernel_rfl)) rfl (by kernel_rfl) (by kernel_rfl) (lenS (lenS len0))) (by kernel_rfl))
  (sxs_one (sx_expr (cX (c_check_sights : FX PR w K mg base _ _ _ _) hr (gl_of (by kernel_rfl)) (by kernel_rfl) (ea_cons (vX 1 (by kernel_rfl) (by kernel_rfl)) (ea_cons (vX 2 (by kernel_rfl) (by kernel_rfl)) ea_nil (by kernel_rfl)) (by kernel_rfl)) rfl (by kernel_rfl) (by kernel_rfl) (lenS (lenS len0))) (by kernel_rfl)))))⟩
/-! ### sights_of -/
abbrev N_sights_of : List Str := ["sizes", "t", "found", "told", "levels", "factor"]
noncomputable def D_sights_of : DenS :=
  (sSeq (sOwn 2 (mkL lNil))
  (sSeq (sFor (iSeq (dCall (lCons (d1 lenD (vR 0)) (lCons (vR 1) lNil)) f_subsets)) (gN 3) (sExt 2 (dLc (iSeq (dCall (lCons (dLc (iSeq (vR 3)) (gN 5) bYes (d2 ixD (vR 0) (vR 5)) [5]) lNil) f_all_levels)) (gN 4) bYes (mkT (lCons (vR 3) (lCons (vR 4) lNil))) [4])))
  (sFrz 2 (sRet (vR 2)))))
noncomputable def f_sights_of : List D → Option D := runX D_sights_of 6
theorem sc_sights_of : FnScope N_sights_of ["sizes", "t"] (defScope (topOf PR 35)) := ⟨rfl, rfl, rfl, by decide +kernel, rfl, by decide +kernel, by decide +kernel⟩
theorem b_sights_of {w : World} {K : PySem.W.Frag} {mg : Str → Option Value} {base : Heap} {f : Addr} (h_len : mg "len" = none) (c_all_levels : FX PR w K mg base 1 "all_levels" 1 f_all_levels) (c_subsets : FX PR w K mg base 1 "subsets" 2 f_subsets) : Bd PR w K mg base 1 N_sights_of "sights_of" (defBody (topOf PR 35)) (defScope (topOf PR 35)) f D_sights_of :=
  ⟨fun cdv A outer s H E hr => by
  have nd : N_sights_of.Nodup := sc_sights_of.nd
  exact (sxs_cons (sx_own 2 nd (by kernel_rfl) (by kernel_rfl) (by kernel_rfl) (en_lst ea_nil) (by kernel_rfl))
  (sxs_cons (sx_for PySem.PassesOwn.never rfl (ei_seq (cX (c_subsets : FX PR w K mg base _ _ _ _) hr (gl_of (by kernel_rfl)) (by kernel_rfl) (ea_cons (ex_len (gl_of (by kernel_rfl)) h_len (vX 0 (by kernel_rfl) (by kernel_rfl)).b (by kernel_rfl)) (ea_cons (vX 1 (by kernel_rfl) (by kernel_rfl)) ea_nil (by kernel_rfl)) (by kernel_rfl)) rfl (by kernel_rfl) (by kernel_rfl) (lenS (lenS len0)))) (eg_name 3 nd (by kernel_rfl) (by kernel_rfl) (by kernel_rfl)) (sxs_one (sx_extend 2 (by kernel_rfl) (by kernel_rfl) (by kernel_rfl) (by kernel_rfl) (en_lc (own := [("levels", 4)]) rfl nd (ei_seq (cX (c_all_levels : FX PR w K mg base _ _ _ _) hr (gl_of (by kernel_rfl)) (by kernel_rfl) (ea_cons (en_lc (own := [("factor", 5)]) rfl nd (ei_seq (vX 3 (by kernel_rfl) (by kernel_rfl))) (blkOk_by (by kernel_rfl)) (fun _ _ _ _ _ => (eg_name 5 nd (by kernel_rfl) (by kernel_rfl) (by kernel_rfl))) (fun _ _ _ _ _ => ets_nil) (fun _ _ _ _ _ => (ex_ix (vX 0 (by kernel_rfl) (by kernel_rfl)).b (vX 5 (by kernel_rfl) (by kernel_rfl)).b (fun _ _ => rfl))) (fun _ => rfl) (by decide)).x ea_nil (by kernel_rfl)) rfl (by kernel_rfl) (by kernel_rfl) (lenS len0))) (blkOk_by (by kernel_rfl)) (fun _ _ _ _ _ => (eg_name 4 nd (by kernel_rfl) (by kernel_rfl) (by kernel_rfl))) (fun _ _ _ _ _ => ets_nil) (fun _ _ _ _ _ => (ex_tup (ea_cons (vX 3 (by kernel_rfl) (by kernel_rfl)) (ea_cons (vX 4 (by kernel_rfl) (by kernel_rfl)) ea_nil (by kernel_rfl)) (by kernel_rfl)))) (fun _ => rfl) (by decide)).x (by kernel_rfl) (by kernel_rfl))) (fun _ => rfl))
  (sxs_one (sx_frz 2 (sx_ret (vX 2 (by kernel_rfl) (by kernel_rfl)))))))⟩
/-! ### has -/
abbrev N_has : List Str := ["run", "sight"]
noncomputable def D_has : DenS :=
  (sRet (bV (b2 eqD (dCall (lCons (vR 0) (lCons (d2 ixD (vR 1) (kD (.int 0))) lNil)) f_levels_at) (d2 ixD (vR 1) (kD (.int 1))))))
noncomputable def f_has : List D → Option D := runX D_has 2
theorem sc_has : FnScope N_has ["run", "sight"] (defScope (topOf PR 36)) := ⟨rfl, rfl, rfl, by decide +kernel, rfl, by decide +kernel, by decide +kernel⟩
theorem b_has {w : World} {K : PySem.W.Frag} {mg : Str → Option Value} {base : Heap} {f : Addr} (c_levels_at : FX PR w K mg base 1 "levels_at" 2 f_levels_at) : Bd PR w K mg base 1 N_has "has" (defBody (topOf PR 36)) (defScope (topOf PR 36)) f D_has :=
  ⟨fun cdv A outer s H E hr => by
  have nd : N_has.Nodup := sc_has.nd
  exact (sxs_one (sx_ret (ex_cmp (ec_eq (Zx.Room.u64 hr) (cX (c_levels_at : FX PR w K mg base _ _ _ _) hr (gl_of (by kernel_rfl)) (by kernel_rfl) (ea_cons (vX 0 (by kernel_rfl) (by kernel_rfl)) (ea_cons (ex_ix (vX 1 (by kernel_rfl) (by kernel_rfl)).b ex_int.b (fun _ _ => rfl)) ea_nil (by kernel_rfl)) (by kernel_rfl)) rfl (by kernel_rfl) (by kernel_rfl) (lenS (lenS len0))).b (ex_ix (vX 1 (by kernel_rfl) (by kernel_rfl)).b ex_int.b (fun _ _ => rfl)).b) (by kernel_rfl))))⟩
/-! ### missing_of -/
abbrev N_missing_of : List Str := ["runs", "sizes", "t", "sight", "run"]
noncomputable def D_missing_of : DenS :=
  (sRet (dLc (iSeq (dCall (lCons (vR 1) (lCons (vR 2) lNil)) f_sights_of)) (gN 3) (bNot (b1 truD (d1 anyD (dLc (iSeq (vR 0)) (gN 4) bYes (dCall (lCons (vR 4) (lCons (vR 3) lNil)) f_has) [4])))) (vR 3) [3]))
noncomputable def f_missing_of : List D → Option D := runX D_missing_of 5
theorem sc_missing_of : FnScope N_missing_of ["runs", "sizes", "t"] (defScope (topOf PR 37)) := ⟨rfl, rfl, rfl, by decide +kernel, rfl, by decide +kernel, by decide +kernel⟩
theorem b_missing_of {w : World} {K : PySem.W.Frag} {mg : Str → Option Value} {base : Heap} {f : Addr} (h_any : mg "any" = none) (c_has : FX PR w K mg base 2 "has" 2 f_has) (c_sights_of : FX PR w K mg base 2 "sights_of" 2 f_sights_of) : Bd PR w K mg base 2 N_missing_of "missing_of" (defBody (topOf PR 37)) (defScope (topOf PR 37)) f D_missing_of :=
  ⟨fun cdv A outer s H E hr => by
  have nd : N_missing_of.Nodup := sc_missing_of.nd
  exact (sxs_one (sx_ret (en_lc (own := [("sight", 3)]) rfl nd (ei_seq (cX (c_sights_of : FX PR w K mg base _ _ _ _) hr (gl_of (by kernel_rfl)) (by kernel_rfl) (ea_cons (vX 1 (by kernel_rfl) (by kernel_rfl)) (ea_cons (vX 2 (by kernel_rfl) (by kernel_rfl)) ea_nil (by kernel_rfl)) (by kernel_rfl)) rfl (by kernel_rfl) (by kernel_rfl) (lenS (lenS len0)))) (blkOk_by (by kernel_rfl)) (fun _ _ _ _ _ => (eg_name 3 nd (by kernel_rfl) (by kernel_rfl) (by kernel_rfl))) (fun _ _ _ _ _ => (ets_one (et_not (et_val (ex_any rfl (gl_of (by kernel_rfl)) h_any (en_lc (own := [("run", 4)]) rfl nd (ei_seq (vX 0 (by kernel_rfl) (by kernel_rfl))) (blkOk_by (by kernel_rfl)) (fun _ _ _ _ _ => (eg_name 4 nd (by kernel_rfl) (by kernel_rfl) (by kernel_rfl))) (fun _ _ _ _ _ => ets_nil) (fun _ _ _ _ _ => (cX (c_has : FX PR w K mg base _ _ _ _) hr (gl_of (by kernel_rfl)) (by kernel_rfl) (ea_cons (vX 4 (by kernel_rfl) (by kernel_rfl)) (ea_cons (vX 3 (by kernel_rfl) (by kernel_rfl)) ea_nil (by kernel_rfl)) (by kernel_rfl)) rfl (by kernel_rfl) (by kernel_rfl) (lenS (lenS len0)))) (fun _ => rfl) (by decide)).x.b (by kernel_rfl)).b (fun _ => rfl))))) (fun _ _ _ _ _ => (vX 3 (by kernel_rfl) (by kernel_rfl))) (fun _ => rfl) (by decide)).x))⟩
/-! ### missing -/
abbrev N_missing : List Str := ["runs", "sizes", "t"]
noncomputable def D_missing : DenS :=
  (sSeq (sDrop (dCall (lCons (vR 0) (lCons (vR 1) (lCons (vR 2) lNil))) f_check_covering))
  (sRet (dCall (lCons (vR 0) (lCons (vR 1) (lCons (vR 2) lNil))) f_missing_of)))
noncomputable def f_missing : List D → Option D := runX D_missing 3
theorem sc_missing : FnScope N_missing ["runs", "sizes", "t"] (defScope (topOf PR 41)) := ⟨rfl, rfl, rfl, by decide +kernel, rfl, by decide +kernel, by decide +kernel⟩
theorem b_missing {w : World} {K : PySem.W.Frag} {mg : Str → Option Value} {base : Heap} {f : Addr} (c_check_covering : FX PR w K mg base 4 "check_covering" 3 f_check_covering) (c_missing_of : FX PR w K mg base 4 "missing_of" 3 f_missing_of) : Bd PR w K mg base 4 N_missing "missing" (defBody (topOf PR 41)) (defScope (topOf PR 41)) f D_missing :=
  ⟨fun cdv A outer s H E hr => by
  have nd : N_missing.Nodup := sc_missing.nd
  exact (sxs_cons (sx_expr (cX (c_check_covering : FX PR w K mg base _ _ _ _) hr (gl_of (by kernel_rfl)) (by kernel_rfl) (ea_cons (vX 0 (by kernel_rfl) (by kernel_rfl)) (ea_cons (vX 1 (by kernel_rfl) (by kernel_rfl)) (ea_cons (vX 2 (by kernel_rfl) (by kernel_rfl)) ea_nil (by kernel_rfl)) (by kernel_rfl)) (by kernel_rfl)) rfl (by kernel_rfl) (by kernel_rfl) (lenS (lenS (lenS len0)))) (by kernel_rfl))
  (sxs_one (sx_ret (cX (c_missing_of : FX PR w K mg base _ _ _ _) hr (gl_of (by kernel_rfl)) (by kernel_rfl) (ea_cons (vX 0 (by kernel_rfl) (by kernel_rfl)) (ea_cons (vX 1 (by kernel_rfl) (by kernel_rfl)) (ea_cons (vX 2 (by kernel_rfl) (by kernel_rfl)) ea_nil (by kernel_rfl)) (by kernel_rfl)) (by kernel_rfl)) rfl (by kernel_rfl) (by kernel_rfl) (lenS (lenS (lenS len0)))))))⟩
/-! ### next_of -/
abbrev N_next_of : List Str := ["left", "sizes", "runs", "many", "run", "sight"]
noncomputable def D_next_of : DenS :=
  (sSeq (sSet 2 (dCall (lCons (vR 1) lNil) f_all_levels))
  (sSeq (sLcSet 3 false (dLc (iSeq (vR 2)) (gN 4) bYes (d1 lenD (dLc (iSeq (vR 0)) (gN 5) (b1 truD (dCall (lCons (vR 4) (lCons (vR 5) lNil)) f_has)) (vR 5) [5])) [4]))
  (sRet (d2 ixD (vR 2) (d2 indexD (vR 3) (d1 maxLD (vR 3)))))))
noncomputable def f_next_of : List D → Option D := runX D_next_of 6
theorem sc_next_of : FnScope N_next_of ["left", "sizes"] (defScope (topOf PR 39)) := ⟨rfl, rfl, rfl, by decide +kernel, rfl, by decide +kernel, by decide +kernel⟩
theorem b_next_of {w : World} {K : PySem.W.Frag} {mg : Str → Option Value} {base : Heap} {f : Addr} (h_len : mg "len" = none) (h_max : mg "max" = none) (c_all_levels : FX PR w K mg base 2 "all_levels" 1 f_all_levels) (c_has : FX PR w K mg base 2 "has" 2 f_has) : Bd PR w K mg base 2 N_next_of "next_of" (defBody (topOf PR 39)) (defScope (topOf PR 39)) f D_next_of :=
  ⟨fun cdv A outer s H E hr => by
  have nd : N_next_of.Nodup := sc_next_of.nd
  exact (sxs_cons (sx_set 2 nd (by kernel_rfl) (by kernel_rfl) (by kernel_rfl) (cX (c_all_levels : FX PR w K mg base _ _ _ _) hr (gl_of (by kernel_rfl)) (by kernel_rfl) (ea_cons (vX 1 (by kernel_rfl) (by kernel_rfl)) ea_nil (by kernel_rfl)) rfl (by kernel_rfl) (by kernel_rfl) (lenS len0)) (by kernel_rfl))
  (sxs_cons (sx_setLc (own := [("run", 4)]) 3 false rfl nd (by kernel_rfl) (by kernel_rfl) (by kernel_rfl) (ei_seq (vX 2 (by kernel_rfl) (by kernel_rfl))) (blkOk_by (by kernel_rfl)) (fun _ _ _ _ _ => (eg_name 4 nd (by kernel_rfl) (by kernel_rfl) (by kernel_rfl))) (fun _ _ _ _ _ => ets_nil) (fun _ _ _ _ _ => (ex_len (gl_of (by kernel_rfl)) h_len (en_lc (own := [("sight", 5)]) rfl nd (ei_seq (vX 0 (by kernel_rfl) (by kernel_rfl))) (blkOk_by (by kernel_rfl)) (fun _ _ _ _ _ => (eg_name 5 nd (by kernel_rfl) (by kernel_rfl) (by kernel_rfl))) (fun _ _ _ _ _ => (ets_one (et_val (cX (c_has : FX PR w K mg base _ _ _ _) hr (gl_of (by kernel_rfl)) (by kernel_rfl) (ea_cons (vX 4 (by kernel_rfl) (by kernel_rfl)) (ea_cons (vX 5 (by kernel_rfl) (by kernel_rfl)) ea_nil (by kernel_rfl)) (by kernel_rfl)) rfl (by kernel_rfl) (by kernel_rfl) (lenS (lenS len0))).b (fun _ => rfl)))) (fun _ _ _ _ _ => (vX 5 (by kernel_rfl) (by kernel_rfl))) (fun _ => rfl) (by decide)).x.b (by kernel_rfl))) (fun _ => rfl) (by decide))
  (sxs_one (sx_ret (ex_ix (vX 2 (by kernel_rfl) (by kernel_rfl)).b (ex_index (Zx.Room.u65 hr) (vX 3 (by kernel_rfl) (by kernel_rfl)).b (ex_maxL rfl (gl_of (by kernel_rfl)) h_max (vX 3 (by kernel_rfl) (by kernel_rfl)).b (by kernel_rfl)) (by kernel_rfl) (by kernel_rfl) (by kernel_rfl)).b (fun _ _ => rfl))))))⟩
/-! ### greedy -/
abbrev N_greedy : List Str := ["sizes", "t", "found", "left", "run", "sight"]
noncomputable def D_greedy : DenS :=
  (sSeq (sDrop (dCall (lCons (vR 0) (lCons (vR 1) lNil)) f_check_sights))
  (sSeq (sOwn 2 (mkL lNil))
  (sSeq (sSet 3 (dCall (lCons (vR 0) (lCons (vR 1) lNil)) f_sights_of))
  (sSeq (sWh (b2 gtI (d1 lenD (vR 3)) (kD (.int 0))) (sSeq (sSet 4 (dCall (lCons (vR 3) (lCons (vR 0) lNil)) f_next_of))
   (sSeq (sApp 2 (vR 4))
   (sLcSet 3 false (dLc (iSeq (vR 3)) (gN 5) (bNot (b1 truD (dCall (lCons (vR 4) (lCons (vR 5) lNil)) f_has))) (vR 5) [5])))))
  (sFrz 2 (sRet (vR 2)))))))
noncomputable def f_greedy : List D → Option D := runX D_greedy 6
theorem sc_greedy : FnScope N_greedy ["sizes", "t"] (defScope (topOf PR 43)) := ⟨rfl, rfl, rfl, by decide +kernel, rfl, by decide +kernel, by decide +kernel⟩
theorem b_greedy {w : World} {K : PySem.W.Frag} {mg : Str → Option Value} {base : Heap} {f : Addr} (h_len : mg "len" = none) (c_check_sights : FX PR w K mg base 3 "check_sights" 2 f_check_sights) (c_has : FX PR w K mg base 3 "has" 2 f_has) (c_next_of : FX PR w K mg base 3 "next_of" 2 f_next_of) (c_sights_of : FX PR w K mg base 3 "sights_of" 2 f_sights_of) : Bd PR w K mg base 3 N_greedy "greedy" (defBody (topOf PR 43)) (defScope (topOf PR 43)) f D_greedy :=
  ⟨fun cdv A outer s H E hr => by
  have nd : N_greedy.Nodup := sc_greedy.nd
  exact (sxs_cons (sx_expr (cX (c_check_sights : FX PR w K mg base _ _ _ _) hr (gl_of (by kernel_rfl)) (by kernel_rfl) (ea_cons (vX 0 (by kernel_rfl) (by kernel_rfl)) (ea_cons (vX 1 (by kernel_rfl) (by kernel_rfl)) ea_nil (by kernel_rfl)) (by kernel_rfl)) rfl (by kernel_rfl) (by kernel_rfl) (lenS (lenS len0))) (by kernel_rfl))
  (sxs_cons (sx_own 2 nd (by kernel_rfl) (by kernel_rfl) (by kernel_rfl) (en_lst ea_nil) (by kernel_rfl))
  (sxs_cons (sx_set 3 nd (by kernel_rfl) (by kernel_rfl) (by kernel_rfl) (cX (c_sights_of : FX PR w K mg base _ _ _ _) hr (gl_of (by kernel_rfl)) (by kernel_rfl) (ea_cons (vX 0 (by kernel_rfl) (by kernel_rfl)) (ea_cons (vX 1 (by kernel_rfl) (by kernel_rfl)) ea_nil (by kernel_rfl)) (by kernel_rfl)) rfl (by kernel_rfl) (by kernel_rfl) (lenS (lenS len0))) (by kernel_rfl))
  (sxs_cons (sx_while PySem.PassesOwn.never (et_cmp (ec_gtI (ex_len (gl_of (by kernel_rfl)) h_len (vX 3 (by kernel_rfl) (by kernel_rfl)).b (by kernel_rfl)).b ex_int.b) (by kernel_rfl)) (sxs_cons (sx_set 4 nd (by kernel_rfl) (by kernel_rfl) (by kernel_rfl) (cX (c_next_of : FX PR w K mg base _ _ _ _) hr (gl_of (by kernel_rfl)) (by kernel_rfl) (ea_cons (vX 3 (by kernel_rfl) (by kernel_rfl)) (ea_cons (vX 0 (by kernel_rfl) (by kernel_rfl)) ea_nil (by kernel_rfl)) (by kernel_rfl)) rfl (by kernel_rfl) (by kernel_rfl) (lenS (lenS len0))) (by kernel_rfl))
   (sxs_cons (sx_append 2 (by kernel_rfl) (by kernel_rfl) (by kernel_rfl) (by kernel_rfl) (vX 4 (by kernel_rfl) (by kernel_rfl)) (by kernel_rfl) (by kernel_rfl))
   (sxs_one (sx_setLc (own := [("sight", 5)]) 3 false rfl nd (by kernel_rfl) (by kernel_rfl) (by kernel_rfl) (ei_seq (vX 3 (by kernel_rfl) (by kernel_rfl))) (blkOk_by (by kernel_rfl)) (fun _ _ _ _ _ => (eg_name 5 nd (by kernel_rfl) (by kernel_rfl) (by kernel_rfl))) (fun _ _ _ _ _ => (ets_one (et_not (et_val (cX (c_has : FX PR w K mg base _ _ _ _) hr (gl_of (by kernel_rfl)) (by kernel_rfl) (ea_cons (vX 4 (by kernel_rfl) (by kernel_rfl)) (ea_cons (vX 5 (by kernel_rfl) (by kernel_rfl)) ea_nil (by kernel_rfl)) (by kernel_rfl)) rfl (by kernel_rfl) (by kernel_rfl) (lenS (lenS len0))).b (fun _ => rfl))))) (fun _ _ _ _ _ => (vX 5 (by kernel_rfl) (by kernel_rfl))) (fun _ => rfl) (by decide))))))
  (sxs_one (sx_frz 2 (sx_ret (vX 2 (by kernel_rfl) (by kernel_rfl)))))))))⟩
/-! ### order_of -/
abbrev N_order_of : List Str := ["word"]
noncomputable def D_order_of : DenS :=
  (sRet (mkT (lCons (d1 lenD (vR 0)) (lCons (vR 0) lNil))))
noncomputable def f_order_of : List D → Option D := runX D_order_of 1
theorem sc_order_of : FnScope N_order_of ["word"] (defScope (topOf PR 52)) := ⟨rfl, rfl, rfl, by decide +kernel, rfl, by decide +kernel, by decide +kernel⟩
theorem b_order_of {w : World} {K : PySem.W.Frag} {mg : Str → Option Value} {base : Heap} {f : Addr} (h_len : mg "len" = none) : Bd PR w K mg base 0 N_order_of "order_of" (defBody (topOf PR 52)) (defScope (topOf PR 52)) f D_order_of :=
  ⟨fun cdv A outer s H E hr => by
  have nd : N_order_of.Nodup := sc_order_of.nd
  exact (sxs_one (sx_ret (ex_tup (ea_cons (ex_len (gl_of (by kernel_rfl)) h_len (vX 0 (by kernel_rfl) (by kernel_rfl)).b (by kernel_rfl)) (ea_cons (vX 0 (by kernel_rfl) (by kernel_rfl)) ea_nil (by kernel_rfl)) (by kernel_rfl)))))⟩
/-! ### product -/
abbrev N_product : List Str := ["one", "two", "factor"]
noncomputable def D_product : DenS :=
  (sRet (d1 sortD (d2 addD (dLc (iSeq (vR 0)) (gN 2) (b2 ninD (vR 2) (vR 1)) (vR 2) [2]) (dLc (iSeq (vR 1)) (gN 2) (b2 ninD (vR 2) (vR 0)) (vR 2) [2]))))
noncomputable def f_product : List D → Option D := runX D_product 3
theorem sc_product : FnScope N_product ["one", "two"] (defScope (topOf PR 51)) := ⟨rfl, rfl, rfl, by decide +kernel, rfl, by decide +kernel, by decide +kernel⟩
theorem b_product {w : World} {K : PySem.W.Frag} {mg : Str → Option Value} {base : Heap} {f : Addr} (h_sorted : mg "sorted" = none) : Bd PR w K mg base 0 N_product "product" (defBody (topOf PR 51)) (defScope (topOf PR 51)) f D_product :=
  ⟨fun cdv A outer s H E hr => by
  have nd : N_product.Nodup := sc_product.nd
  exact (sxs_one (sx_ret (en_sorted (Zx.Room.u68 hr) (gl_of (by kernel_rfl)) h_sorted (ex_add (en_lc (own := [("factor", 2)]) rfl nd (ei_seq (vX 0 (by kernel_rfl) (by kernel_rfl))) (blkOk_by (by kernel_rfl)) (fun _ _ _ _ _ => (eg_name 2 nd (by kernel_rfl) (by kernel_rfl) (by kernel_rfl))) (fun _ _ _ _ _ => (ets_one (et_cmp (ec_nin (Zx.Room.u65 hr) (vX 2 (by kernel_rfl) (by kernel_rfl)).b (vX 1 (by kernel_rfl) (by kernel_rfl)).b) (by kernel_rfl)))) (fun _ _ _ _ _ => (vX 2 (by kernel_rfl) (by kernel_rfl))) (fun _ => rfl) (by decide)).x.b (en_lc (own := [("factor", 2)]) rfl nd (ei_seq (vX 1 (by kernel_rfl) (by kernel_rfl))) (blkOk_by (by kernel_rfl)) (fun _ _ _ _ _ => (eg_name 2 nd (by kernel_rfl) (by kernel_rfl) (by kernel_rfl))) (fun _ _ _ _ _ => (ets_one (et_cmp (ec_nin (Zx.Room.u65 hr) (vX 2 (by kernel_rfl) (by kernel_rfl)).b (vX 0 (by kernel_rfl) (by kernel_rfl)).b) (by kernel_rfl)))) (fun _ _ _ _ _ => (vX 2 (by kernel_rfl) (by kernel_rfl))) (fun _ => rfl) (by decide)).x.b).b (by kernel_rfl)).x))⟩
/-! ### group_of -/
abbrev N_group_of : List Str := ["words", "found", "word", "one"]
noncomputable def D_group_of : DenS :=
  (sSeq (sSet 1 (mkL (lCons (mkL lNil) lNil)))
  (sSeq (sFor (iSeq (vR 0)) (gN 2) (sIf (b2 ninD (vR 2) (vR 1)) (sSet 1 (d2 addD (vR 1) (dLc (iSeq (vR 1)) (gN 3) bYes (dCall (lCons (vR 2) (lCons (vR 3) lNil)) f_product) [3]))) sNx))
  (sRet (d1 sortKD (vR 1)))))
noncomputable def f_group_of : List D → Option D := runX D_group_of 4
theorem sc_group_of : FnScope N_group_of ["words"] (defScope (topOf PR 53)) := ⟨rfl, rfl, rfl, by decide +kernel, rfl, by decide +kernel, by decide +kernel⟩
theorem b_group_of {w : World} {K : PySem.W.Frag} {mg : Str → Option Value} {base : Heap} {f : Addr} (h_len : mg "len" = none) (h_sorted : mg "sorted" = none) (c_product : FX PR w K mg base 1 "product" 2 f_product) (kd_order_of : KeyDef K mg "order_of") : Bd PR w K mg base 1 N_group_of "group_of" (defBody (topOf PR 53)) (defScope (topOf PR 53)) f D_group_of :=
  ⟨fun cdv A outer s H E hr => by
  have nd : N_group_of.Nodup := sc_group_of.nd
  exact (sxs_cons (sx_set 1 nd (by kernel_rfl) (by kernel_rfl) (by kernel_rfl) (en_lst (ea_cons (en_lst ea_nil).x ea_nil (by kernel_rfl))).x (by kernel_rfl))
  (sxs_cons (sx_for PySem.PassesOwn.never rfl (ei_seq (vX 0 (by kernel_rfl) (by kernel_rfl))) (eg_name 2 nd (by kernel_rfl) (by kernel_rfl) (by kernel_rfl)) (sxs_one (sx_if (et_cmp (ec_nin (Zx.Room.u65 hr) (vX 2 (by kernel_rfl) (by kernel_rfl)).b (vX 1 (by kernel_rfl) (by kernel_rfl)).b) (by kernel_rfl)) (sxs_one (sx_set 1 nd (by kernel_rfl) (by kernel_rfl) (by kernel_rfl) (ex_add (vX 1 (by kernel_rfl) (by kernel_rfl)).b (en_lc (own := [("one", 3)]) rfl nd (ei_seq (vX 1 (by kernel_rfl) (by kernel_rfl))) (blkOk_by (by kernel_rfl)) (fun _ _ _ _ _ => (eg_name 3 nd (by kernel_rfl) (by kernel_rfl) (by kernel_rfl))) (fun _ _ _ _ _ => ets_nil) (fun _ _ _ _ _ => (cX (c_product : FX PR w K mg base _ _ _ _) hr (gl_of (by kernel_rfl)) (by kernel_rfl) (ea_cons (vX 2 (by kernel_rfl) (by kernel_rfl)) (ea_cons (vX 3 (by kernel_rfl) (by kernel_rfl)) ea_nil (by kernel_rfl)) (by kernel_rfl)) rfl (by kernel_rfl) (by kernel_rfl) (lenS (lenS len0)))) (fun _ => rfl) (by decide)).x.b) (by kernel_rfl))) sxs_nil)) (fun _ => rfl))
  (sxs_one (sx_ret (en_sortDef (Zx.Room.u68 hr) (gl_of (by kernel_rfl)) h_sorted (vX 1 (by kernel_rfl) (by kernel_rfl)).b (by kernel_rfl) (L2.Room.depth hr) (gl_of (by kernel_rfl)) (by kernel_rfl) kd_order_of h_len).x))))⟩
/-! ### resolution -/
abbrev N_resolution : List Str := ["factors", "words", "found"]
noncomputable def D_resolution : DenS :=
  (sSeq (sDrop (dCall (lCons (vR 0) (lCons (vR 1) lNil)) f_check_words))
  (sSeq (sSet 2 (dCall (lCons (vR 1) lNil) f_group_of))
  (sRet (dIf (b2 gtI (d1 lenD (vR 2)) (kD (.int 1))) (d1 lenD (d2 ixD (vR 2) (kD (.int 1)))) (kD .none)))))
noncomputable def f_resolution : List D → Option D := runX D_resolution 3
theorem sc_resolution : FnScope N_resolution ["factors", "words"] (defScope (topOf PR 59)) := ⟨rfl, rfl, rfl, by decide +kernel, rfl, by decide +kernel, by decide +kernel⟩
theorem b_resolution {w : World} {K : PySem.W.Frag} {mg : Str → Option Value} {base : Heap} {f : Addr} (h_len : mg "len" = none) (c_check_words : FX PR w K mg base 2 "check_words" 2 f_check_words) (c_group_of : FX PR w K mg base 2 "group_of" 1 f_group_of) : Bd PR w K mg base 2 N_resolution "resolution" (defBody (topOf PR 59)) (defScope (topOf PR 59)) f D_resolution :=
  ⟨fun cdv A outer s H E hr => by
  have nd : N_resolution.Nodup := sc_resolution.nd
  exact (sxs_cons (sx_expr (cX (c_check_words : FX PR w K mg base _ _ _ _) hr (gl_of (by kernel_rfl)) (by kernel_rfl) (ea_cons (vX 0 (by kernel_rfl) (by kernel_rfl)) (ea_cons (vX 1 (by kernel_rfl) (by kernel_rfl)) ea_nil (by kernel_rfl)) (by kernel_rfl)) rfl (by kernel_rfl) (by kernel_rfl) (lenS (lenS len0))) (by kernel_rfl))
  (sxs_cons (sx_set 2 nd (by kernel_rfl) (by kernel_rfl) (by kernel_rfl) (cX (c_group_of : FX PR w K mg base _ _ _ _) hr (gl_of (by kernel_rfl)) (by kernel_rfl) (ea_cons (vX 1 (by kernel_rfl) (by kernel_rfl)) ea_nil (by kernel_rfl)) rfl (by kernel_rfl) (by kernel_rfl) (lenS len0)) (by kernel_rfl))
  (sxs_one (sx_ret (ex_if (et_cmp (ec_gtI (ex_len (gl_of (by kernel_rfl)) h_len (vX 2 (by kernel_rfl) (by kernel_rfl)).b (by kernel_rfl)).b ex_int.b) (by kernel_rfl)) (ex_len (gl_of (by kernel_rfl)) h_len (ex_ix (vX 2 (by kernel_rfl) (by kernel_rfl)).b ex_int.b (fun _ _ => rfl)).b (by kernel_rfl)) ex_non)))))⟩
/-! ### check_factors -/
abbrev N_check_factors : List Str := ["sizes", "told", "k", "factor"]
noncomputable def D_check_factors : DenS :=
  (sFor (iEn (vR 1)) (gT (gsCons (gN 2) (gsCons (gN 3) gsNil)) 2) (sIf (bOr (bNot (bCh leI ltI (kD (.int 0)) (vR 3) (d1 lenD (vR 0)))) (bAnd (b2 gtI (vR 2) (kD (.int 0))) (b2 geI (d2 ixD (vR 1) (d2 subD (vR 2) (kD (.int 1)))) (vR 3)))) sNo sNx))
noncomputable def f_check_factors : List D → Option D := runX D_check_factors 4
theorem sc_check_factors : FnScope N_check_factors ["sizes", "told"] (defScope (topOf PR 17)) := ⟨rfl, rfl, rfl, by decide +kernel, rfl, by decide +kernel, by decide +kernel⟩
theorem b_check_factors {w : World} {K : PySem.W.Frag} {mg : Str → Option Value} {base : Heap} {f : Addr} (h_enumerate : mg "enumerate" = none) (h_len : mg "len" = none) : Bd PR w K mg base 0 N_check_factors "check_factors" (defBody (topOf PR 17)) (defScope (topOf PR 17)) f D_check_factors :=
  ⟨fun cdv A outer s H E hr => by
  have nd : N_check_factors.Nodup := sc_check_factors.nd
  exact (sxs_one (sx_for PySem.PassesOwn.never rfl (ei_enum (gl_of (by kernel_rfl)) h_enumerate (vX 1 (by kernel_rfl) (by kernel_rfl)) (by kernel_rfl)) (eg_tup (n := 2) rfl (egs_cons (eg_name 2 nd (by kernel_rfl) (by kernel_rfl) (by kernel_rfl)) (egs_cons (eg_name 3 nd (by kernel_rfl) (by kernel_rfl) (by kernel_rfl)) egs_nil (by kernel_rfl)) (by kernel_rfl)) (by kernel_rfl) (by kernel_rfl)) (sxs_one (sx_if (ew_or (et_not (et_leLt ex_int.b (vX 3 (by kernel_rfl) (by kernel_rfl)).b (ex_len (gl_of (by kernel_rfl)) h_len (vX 0 (by kernel_rfl) (by kernel_rfl)).b (by kernel_rfl)).b (by kernel_rfl))) (ew_or1 (ew_and (et_cmp (ec_gtI (vX 2 (by kernel_rfl) (by kernel_rfl)).b ex_int.b) (by kernel_rfl)) (ew_and1 (et_cmp (ec_geI (ex_ix (vX 1 (by kernel_rfl) (by kernel_rfl)).b (ex_sub (vX 2 (by kernel_rfl) (by kernel_rfl)).b ex_int.b).b (fun _ _ => rfl)).b (vX 3 (by kernel_rfl) (by kernel_rfl)).b) (by kernel_rfl)))).t)).t (sxs_one sx_no) sxs_nil)) (fun _ => rfl)))⟩
/-! ### parted -/
abbrev N_parted : List Str := ["runs", "sizes", "factor", "found", "run", "_"]
noncomputable def D_parted : DenS :=
  (sSeq (sDrop (dCall (lCons (vR 0) (lCons (vR 1) lNil)) f_check_runs))
  (sSeq (sDrop (dCall (lCons (vR 1) (lCons (mkL (lCons (vR 2) lNil)) lNil)) f_check_factors))
  (sNest 3 5 (iR1 (d2 ixD (vR 1) (vR 2))) (iSeq (vR 0)) (gN 4) (d2 ixD (vR 4) (vR 2)) (d2 addD (dSl (vR 4) oNone (oSome (vR 2))) (dSl (vR 4) (oSome (d2 addD (vR 2) (kD (.int 1)))) oNone)))))
noncomputable def f_parted : List D → Option D := runX D_parted 6
theorem sc_parted : FnScope N_parted ["runs", "sizes", "factor"] (defScope (topOf PR 23)) := ⟨rfl, rfl, rfl, by decide +kernel, rfl, by decide +kernel, by decide +kernel⟩
theorem b_parted {w : World} {K : PySem.W.Frag} {mg : Str → Option Value} {base : Heap} {f : Addr} (h_range : mg "range" = none) (c_check_factors : FX PR w K mg base 2 "check_factors" 2 f_check_factors) (c_check_runs : FX PR w K mg base 2 "check_runs" 2 f_check_runs) : Bd PR w K mg base 2 N_parted "parted" (defBody (topOf PR 23)) (defScope (topOf PR 23)) f D_parted :=
  ⟨fun cdv A outer s H E hr => by
  have nd : N_parted.Nodup := sc_parted.nd
  exact (sxs_cons (sx_expr (cX (c_check_runs : FX PR w K mg base _ _ _ _) hr (gl_of (by kernel_rfl)) (by kernel_rfl) (ea_cons (vX 0 (by kernel_rfl) (by kernel_rfl)) (ea_cons (vX 1 (by kernel_rfl) (by kernel_rfl)) ea_nil (by kernel_rfl)) (by kernel_rfl)) rfl (by kernel_rfl) (by kernel_rfl) (lenS (lenS len0))) (by kernel_rfl))
  (sxs_cons (sx_expr (cX (c_check_factors : FX PR w K mg base _ _ _ _) hr (gl_of (by kernel_rfl)) (by kernel_rfl) (ea_cons (vX 1 (by kernel_rfl) (by kernel_rfl)) (ea_cons (en_lst (ea_cons (vX 2 (by kernel_rfl) (by kernel_rfl)) ea_nil (by kernel_rfl))).x ea_nil (by kernel_rfl)) (by kernel_rfl)) rfl (by kernel_rfl) (by kernel_rfl) (lenS (lenS len0))) (by kernel_rfl))
  (sxs_nest (own := [("_", 5)]) (ws := [4]) 3 5 PySem.PassesOwn.never rfl nd (by kernel_rfl) (by kernel_rfl) (by kernel_rfl) (by kernel_rfl) (by kernel_rfl) (by kernel_rfl) (ei_r1 (gl_of (by kernel_rfl)) h_range (ex_ix (vX 1 (by kernel_rfl) (by kernel_rfl)).b (vX 2 (by kernel_rfl) (by kernel_rfl)).b (fun _ _ => rfl)) (by kernel_rfl)) (blkOk_by (by kernel_rfl)) (fun _ _ _ _ _ => (eg_name 5 nd (by kernel_rfl) (by kernel_rfl) (by kernel_rfl))) (fun _ => rfl) (by decide) (ei_seq (vX 0 (by kernel_rfl) (by kernel_rfl))) (eg_name 4 nd (by kernel_rfl) (by kernel_rfl) (by kernel_rfl)) (by decide) (ex_ix (vX 4 (by kernel_rfl) (by kernel_rfl)).b (vX 2 (by kernel_rfl) (by kernel_rfl)).b (fun _ _ => rfl)) (ex_add (ex_sl (vX 4 (by kernel_rfl) (by kernel_rfl)).b eo_none (eo_some (vX 2 (by kernel_rfl) (by kernel_rfl)).b)).b (ex_sl (vX 4 (by kernel_rfl) (by kernel_rfl)).b (eo_some (ex_add (vX 2 (by kernel_rfl) (by kernel_rfl)).b ex_int.b).b) eo_none).b) (fun _ => rfl) (fun _ _ => rfl) (by kernel_rfl) (by kernel_rfl) rfl (by kernel_rfl))))⟩
/-! ### sights -/
abbrev N_sights : List Str := ["sizes", "t"]
noncomputable def D_sights : DenS :=
  (sSeq (sDrop (dCall (lCons (vR 0) (lCons (vR 1) lNil)) f_check_sights))
  (sRet (dCall (lCons (vR 0) (lCons (vR 1) lNil)) f_sights_of)))
noncomputable def f_sights : List D → Option D := runX D_sights 2
theorem sc_sights : FnScope N_sights ["sizes", "t"] (defScope (topOf PR 40)) := ⟨rfl, rfl, rfl, by decide +kernel, rfl, by decide +kernel, by decide +kernel⟩
theorem b_sights {w : World} {K : PySem.W.Frag} {mg : Str → Option Value} {base : Heap} {f : Addr} (c_check_sights : FX PR w K mg base 3 "check_sights" 2 f_check_sights) (c_sights_of : FX PR w K mg base 3 "sights_of" 2 f_sights_of) : Bd PR w K mg base 3 N_sights "sights" (defBody (topOf PR 40)) (defScope (topOf PR 40)) f D_sights :=
  ⟨fun cdv A outer s H E hr => by
  have nd : N_sights.Nodup := sc_sights.nd
  exact (sxs_cons (sx_expr (cX (c_check_sights : FX PR w K mg base _ _ _ _) hr (gl_of (by kernel_rfl)) (by kernel_rfl) (ea_cons (vX 0 (by kernel_rfl) (by kernel_rfl)) (ea_cons (vX 1 (by kernel_rfl) (by kernel_rfl)) ea_nil (by kernel_rfl)) (by kernel_rfl)) rfl (by kernel_rfl) (by kernel_rfl) (lenS (lenS len0))) (by kernel_rfl))
  (sxs_one (sx_ret (cX (c_sights_of : FX PR w K mg base _ _ _ _) hr (gl_of (by kernel_rfl)) (by kernel_rfl) (ea_cons (vX 0 (by kernel_rfl) (by kernel_rfl)) (ea_cons (vX 1 (by kernel_rfl) (by kernel_rfl)) ea_nil (by kernel_rfl)) (by kernel_rfl)) rfl (by kernel_rfl) (by kernel_rfl) (lenS (lenS len0))))))⟩
/-! ### floor_of -/
abbrev N_floor_of : List Str := ["sizes", "t"]
noncomputable def D_floor_of : DenS :=
  (sRet (dCall (lCons (dSl (d1 sortD (vR 0)) (oSome (d2 subD (d1 lenD (vR 0)) (vR 1))) oNone) lNil) f_product_of))
noncomputable def f_floor_of : List D → Option D := runX D_floor_of 2
theorem sc_floor_of : FnScope N_floor_of ["sizes", "t"] (defScope (topOf PR 38)) := ⟨rfl, rfl, rfl, by decide +kernel, rfl, by decide +kernel, by decide +kernel⟩
theorem b_floor_of {w : World} {K : PySem.W.Frag} {mg : Str → Option Value} {base : Heap} {f : Addr} (h_len : mg "len" = none) (h_sorted : mg "sorted" = none) (c_product_of : FX PR w K mg base 1 "product_of" 1 f_product_of) : Bd PR w K mg base 1 N_floor_of "floor_of" (defBody (topOf PR 38)) (defScope (topOf PR 38)) f D_floor_of :=
  ⟨fun cdv A outer s H E hr => by
  have nd : N_floor_of.Nodup := sc_floor_of.nd
  exact (sxs_one (sx_ret (cX (c_product_of : FX PR w K mg base _ _ _ _) hr (gl_of (by kernel_rfl)) (by kernel_rfl) (ea_cons (ex_sl (en_sorted (Zx.Room.u68 hr) (gl_of (by kernel_rfl)) h_sorted (vX 0 (by kernel_rfl) (by kernel_rfl)).b (by kernel_rfl)).x.b (eo_some (ex_sub (ex_len (gl_of (by kernel_rfl)) h_len (vX 0 (by kernel_rfl) (by kernel_rfl)).b (by kernel_rfl)).b (vX 1 (by kernel_rfl) (by kernel_rfl)).b).b) eo_none) ea_nil (by kernel_rfl)) rfl (by kernel_rfl) (by kernel_rfl) (lenS len0))))⟩
/-! ### floor -/
abbrev N_floor : List Str := ["sizes", "t"]
noncomputable def D_floor : DenS :=
  (sSeq (sDrop (dCall (lCons (vR 0) (lCons (vR 1) lNil)) f_check_sights))
  (sRet (dCall (lCons (vR 0) (lCons (vR 1) lNil)) f_floor_of)))
noncomputable def f_floor : List D → Option D := runX D_floor 2
theorem sc_floor : FnScope N_floor ["sizes", "t"] (defScope (topOf PR 42)) := ⟨rfl, rfl, rfl, by decide +kernel, rfl, by decide +kernel, by decide +kernel⟩
theorem b_floor {w : World} {K : PySem.W.Frag} {mg : Str → Option Value} {base : Heap} {f : Addr} (c_check_sights : FX PR w K mg base 3 "check_sights" 2 f_check_sights) (c_floor_of : FX PR w K mg base 3 "floor_of" 2 f_floor_of) : Bd PR w K mg base 3 N_floor "floor" (defBody (topOf PR 42)) (defScope (topOf PR 42)) f D_floor :=
  ⟨fun cdv A outer s H E hr => by
  have nd : N_floor.Nodup := sc_floor.nd
  exact (sxs_cons (sx_expr (cX (c_check_sights : FX PR w K mg base _ _ _ _) hr (gl_of (by kernel_rfl)) (by kernel_rfl) (ea_cons (vX 0 (by kernel_rfl) (by kernel_rfl)) (ea_cons (vX 1 (by kernel_rfl) (by kernel_rfl)) ea_nil (by kernel_rfl)) (by kernel_rfl)) rfl (by kernel_rfl) (by kernel_rfl) (lenS (lenS len0))) (by kernel_rfl))
  (sxs_one (sx_ret (cX (c_floor_of : FX PR w K mg base _ _ _ _) hr (gl_of (by kernel_rfl)) (by kernel_rfl) (ea_cons (vX 0 (by kernel_rfl) (by kernel_rfl)) (ea_cons (vX 1 (by kernel_rfl) (by kernel_rfl)) ea_nil (by kernel_rfl)) (by kernel_rfl)) rfl (by kernel_rfl) (by kernel_rfl) (lenS (lenS len0))))))⟩
/-! ### uneven -/
abbrev N_uneven : List Str := ["runs", "sizes", "t"]
noncomputable def D_uneven : DenS :=
  (sSeq (sDrop (dCall (lCons (vR 0) (lCons (vR 1) lNil)) f_check_runs))
  (sSeq (sIf (bNot (bCh leI leI (kD (.int 0)) (vR 2) (d1 lenD (vR 1)))) sNo sNx)
  (sRet (dCall (lCons (vR 0) (lCons (vR 1) (lCons (vR 2) lNil))) f_uneven_of))))
noncomputable def f_uneven : List D → Option D := runX D_uneven 3
theorem sc_uneven : FnScope N_uneven ["runs", "sizes", "t"] (defScope (topOf PR 65)) := ⟨rfl, rfl, rfl, by decide +kernel, rfl, by decide +kernel, by decide +kernel⟩
theorem b_uneven {w : World} {K : PySem.W.Frag} {mg : Str → Option Value} {base : Heap} {f : Addr} (h_len : mg "len" = none) (c_check_runs : FX PR w K mg base 4 "check_runs" 2 f_check_runs) (c_uneven_of : FX PR w K mg base 4 "uneven_of" 3 f_uneven_of) : Bd PR w K mg base 4 N_uneven "uneven" (defBody (topOf PR 65)) (defScope (topOf PR 65)) f D_uneven :=
  ⟨fun cdv A outer s H E hr => by
  have nd : N_uneven.Nodup := sc_uneven.nd
  exact (sxs_cons (sx_expr (cX (c_check_runs : FX PR w K mg base _ _ _ _) hr (gl_of (by kernel_rfl)) (by kernel_rfl) (ea_cons (vX 0 (by kernel_rfl) (by kernel_rfl)) (ea_cons (vX 1 (by kernel_rfl) (by kernel_rfl)) ea_nil (by kernel_rfl)) (by kernel_rfl)) rfl (by kernel_rfl) (by kernel_rfl) (lenS (lenS len0))) (by kernel_rfl))
  (sxs_cons (sx_if (et_not (et_leLe ex_int.b (vX 2 (by kernel_rfl) (by kernel_rfl)).b (ex_len (gl_of (by kernel_rfl)) h_len (vX 1 (by kernel_rfl) (by kernel_rfl)).b (by kernel_rfl)).b (by kernel_rfl))) (sxs_one sx_no) sxs_nil)
  (sxs_one (sx_ret (cX (c_uneven_of : FX PR w K mg base _ _ _ _) hr (gl_of (by kernel_rfl)) (by kernel_rfl) (ea_cons (vX 0 (by kernel_rfl) (by kernel_rfl)) (ea_cons (vX 1 (by kernel_rfl) (by kernel_rfl)) (ea_cons (vX 2 (by kernel_rfl) (by kernel_rfl)) ea_nil (by kernel_rfl)) (by kernel_rfl)) (by kernel_rfl)) rfl (by kernel_rfl) (by kernel_rfl) (lenS (lenS (lenS len0))))))))⟩
/-! ### counts -/
abbrev N_counts : List Str := ["runs", "sizes", "told"]
noncomputable def D_counts : DenS :=
  (sSeq (sDrop (dCall (lCons (vR 0) (lCons (vR 1) lNil)) f_check_runs))
  (sSeq (sDrop (dCall (lCons (vR 1) (lCons (vR 2) lNil)) f_check_factors))
  (sRet (dCall (lCons (vR 0) (lCons (vR 2) lNil)) f_counts_at))))
noncomputable def f_counts : List D → Option D := runX D_counts 3
theorem sc_counts : FnScope N_counts ["runs", "sizes", "told"] (defScope (topOf PR 22)) := ⟨rfl, rfl, rfl, by decide +kernel, rfl, by decide +kernel, by decide +kernel⟩
theorem b_counts {w : World} {K : PySem.W.Frag} {mg : Str → Option Value} {base : Heap} {f : Addr} (c_check_factors : FX PR w K mg base 2 "check_factors" 2 f_check_factors) (c_check_runs : FX PR w K mg base 2 "check_runs" 2 f_check_runs) (c_counts_at : FX PR w K mg base 2 "counts_at" 2 f_counts_at) : Bd PR w K mg base 2 N_counts "counts" (defBody (topOf PR 22)) (defScope (topOf PR 22)) f D_counts :=
  ⟨fun cdv A outer s H E hr => by
  have nd : N_counts.Nodup := sc_counts.nd
  exact (sxs_cons (sx_expr (cX (c_check_runs : FX PR w K mg base _ _ _ _) hr (gl_of (by kernel_rfl)) (by kernel_rfl) (ea_cons (vX 0 (by kernel_rfl) (by kernel_rfl)) (ea_cons (vX 1 (by kernel_rfl) (by kernel_rfl)) ea_nil (by kernel_rfl)) (by kernel_rfl)) rfl (by kernel_rfl) (by kernel_rfl) (lenS (lenS len0))) (by kernel_rfl))
  (sxs_cons (sx_expr (cX (c_check_factors : FX PR w K mg base _ _ _ _) hr (gl_of (by kernel_rfl)) (by kernel_rfl) (ea_cons (vX 1 (by kernel_rfl) (by kernel_rfl)) (ea_cons (vX 2 (by kernel_rfl) (by kernel_rfl)) ea_nil (by kernel_rfl)) (by kernel_rfl)) rfl (by kernel_rfl) (by kernel_rfl) (lenS (lenS len0))) (by kernel_rfl))
  (sxs_one (sx_ret (cX (c_counts_at : FX PR w K mg base _ _ _ _) hr (gl_of (by kernel_rfl)) (by kernel_rfl) (ea_cons (vX 0 (by kernel_rfl) (by kernel_rfl)) (ea_cons (vX 2 (by kernel_rfl) (by kernel_rfl)) ea_nil (by kernel_rfl)) (by kernel_rfl)) rfl (by kernel_rfl) (by kernel_rfl) (lenS (lenS len0)))))))⟩
/-! ### law -/
abbrev N_law : List Str := ["script", "draws", "turn", "at", "factors", "words", "runs", "sizes", "number", "t", "lost", "made", "least", "place", "part", "told", "levels", "k", "v"]
noncomputable def D_law : DenS :=
  (sSeq (sSet 1 (dCall (lCons (vR 0) lNil) f__law_draws))
  (sSeq (sFor (iR1 (kD (.int 2))) (gN 2) (sSeq (sSet 3 (d2 addD (kD (.int 10)) (d2 mulI (kD (.int 80)) (vR 2))))
   (sSeq (sSet 4 (d2 addD (kD (.int 2)) (dCall (lCons (vR 1) (lCons (vR 3) (lCons (kD (.int 5)) lNil))) f__law_mix)))
   (sSeq (sSet 5 (dCall (lCons (vR 1) (lCons (d2 addD (vR 3) (kD (.int 1))) (lCons (vR 4) (lCons (kD (.int 3)) lNil)))) f__law_words))
   (sSeq (sPar 6 7 (lCons (dCall (lCons (vR 4) (lCons (vR 5) lNil)) f_runs_of) (lCons (d2 repD (mkL (lCons (kD (.int 2)) lNil)) (vR 4)) lNil)))
   (sSeq (sIf (b2 eqD (dCall (lCons (vR 1) (lCons (d2 addD (vR 3) (kD (.int 40))) (lCons (kD (.int 3)) lNil))) f__law_mix) (kD (.int 0))) (sSeq (sLcSet 6 false (dLc (iR1 (d2 addD (kD (.int 1)) (dCall (lCons (vR 1) (lCons (d2 addD (vR 3) (kD (.int 39))) (lCons (kD (.int 12)) lNil))) f__law_mix))) (gN 17) bYes (d1 tupD (dLc (iR1 (vR 4)) (gN 18) bYes (dCall (lCons (vR 1) (lCons (d2 addD (d2 addD (d2 addD (vR 3) (kD (.int 41))) (d2 mulI (kD (.int 6)) (vR 17))) (vR 18)) (lCons (kD (.int 2)) lNil))) f__law_mix) [18])) [17]))
    (sSet 5 (kD .none))) sNx)
   (sSeq (sSet 8 (dCall (lCons (vR 6) (lCons (vR 7) lNil)) f_strength))
   (sSeq (sFor (iR2 (kD (.int 1)) (d2 addD (d2 minD2 (kD (.int 3)) (vR 4)) (kD (.int 1)))) (gN 9) (sSeq (sSet 10 (dCall (lCons (vR 6) (lCons (vR 7) (lCons (vR 9) lNil))) f_missing))
    (sSeq (sIf (b2 leI (vR 9) (vR 8)) (sSeq (sIf (bOr (b2 neD (vR 10) (mkL lNil)) (b2 ltI (d1 lenD (vR 6)) (dCall (lCons (vR 7) (lCons (vR 9) lNil)) f_floor))) (sRet (kD (.bool false))) sNx)
     (sFor (iSeq (dCall (lCons (vR 7) (lCons (vR 9) lNil)) f_sights)) (gT (gsCons (gN 15) (gsCons (gN 16) gsNil)) 2) (sIf (b2 neD (d2 mulI (d2 dgetD (dCall (lCons (vR 6) (lCons (vR 7) (lCons (vR 15) lNil))) f_counts) (vR 16)) (d2 shlD (kD (.int 1)) (vR 9))) (d1 lenD (vR 6))) (sRet (kD (.bool false))) sNx))) (sIf (bAnd (b2 neD (vR 10) (mkL lNil)) (b1 isN (dCall (lCons (vR 6) (lCons (vR 7) (lCons (vR 9) lNil))) f_uneven))) (sRet (kD (.bool false))) sNx))
    (sSeq (sSet 11 (dCall (lCons (vR 7) (lCons (vR 9) lNil)) f_greedy))
    (sIf (bOr (b2 ltI (d1 lenD (vR 11)) (dCall (lCons (vR 7) (lCons (vR 9) lNil)) f_floor)) (b2 neD (dCall (lCons (dSl (d2 addD (vR 11) (vR 6)) oNone (oSome (kD (.int 64)))) (lCons (vR 7) (lCons (vR 9) lNil))) f_missing) (mkL lNil))) (sRet (kD (.bool false))) sNx)))))
   (sSeq (sIf (b1 notN (vR 5)) (sSeq (sSet 12 (dCall (lCons (vR 4) (lCons (vR 5) lNil)) f_resolution))
    (sFor (iR2 (kD (.int 1)) (d2 addD (d2 minD2 (kD (.int 3)) (vR 4)) (kD (.int 1)))) (gN 9) (sIf (bOr (b1 isN (vR 12)) (b2 ltI (vR 9) (vR 12))) (sIf (b2 neD (dCall (lCons (vR 6) (lCons (vR 7) (lCons (vR 9) lNil))) f_missing) (mkL lNil)) (sRet (kD (.bool false))) sNx) sNx))) sNx)
   (sIf (bAnd (b2 gtI (vR 8) (kD (.int 1))) (b2 gtI (vR 4) (kD (.int 2)))) (sSeq (sSet 13 (dCall (lCons (vR 1) (lCons (d2 addD (vR 3) (kD (.int 70))) (lCons (vR 4) lNil))) f__law_mix))
    (sFor (iSeq (dCall (lCons (vR 6) (lCons (vR 7) (lCons (vR 13) lNil))) f_parted)) (gN 14) (sIf (b2 neD (dCall (lCons (vR 14) (lCons (dSl (vR 7) (oSome (kD (.int 1))) oNone) (lCons (d2 minD2 (kD (.int 3)) (d2 subD (vR 8) (kD (.int 1)))) lNil))) f_missing) (mkL lNil)) (sRet (kD (.bool false))) sNx))) sNx))))))))))
  (sRet (kD (.bool true)))))
noncomputable def f_law : List D → Option D := runX D_law 19
theorem sc_law : FnScope N_law ["script"] (defScope (topOf PR 70)) := ⟨rfl, rfl, rfl, by decide +kernel, rfl, by decide +kernel, by decide +kernel⟩
theorem b_law {w : World} {K : PySem.W.Frag} {mg : Str → Option Value} {base : Heap} {f : Addr} (h_len : mg "len" = none) (h_min : mg "min" = none) (h_range : mg "range" = none) (h_tuple : mg "tuple" = none) (c__law_draws : FX PR w K mg base 6 "_law_draws" 1 f__law_draws) (c__law_mix : FX PR w K mg base 6 "_law_mix" 3 f__law_mix) (c__law_words : FX PR w K mg base 6 "_law_words" 4 f__law_words) (c_counts : FX PR w K mg base 6 "counts" 3 f_counts) (c_floor : FX PR w K mg base 6 "floor" 2 f_floor) (c_greedy : FX PR w K mg base 6 "greedy" 2 f_greedy) (c_missing : FX PR w K mg base 6 "missing" 3 f_missing) (c_parted : FX PR w K mg base 6 "parted" 3 f_parted) (c_resolution : FX PR w K mg base 6 "resolution" 2 f_resolution) (c_runs_of : FX PR w K mg base 6 "runs_of" 2 f_runs_of) (c_sights : FX PR w K mg base 6 "sights" 2 f_sights) (c_strength : FX PR w K mg base 6 "strength" 2 f_strength) (c_uneven : FX PR w K mg base 6 "uneven" 3 f_uneven) : Bd PR w K mg base 6 N_law "law" (defBody (topOf PR 70)) (defScope (topOf PR 70)) f D_law :=
  ⟨fun cdv A outer s H E hr => by
  have nd : N_law.Nodup := sc_law.nd
  exact (sxs_cons (sx_set 1 nd (by kernel_rfl) (by kernel_rfl) (by kernel_rfl) (cX (c__law_draws : FX PR w K mg base _ _ _ _) hr (gl_of (by kernel_rfl)) (by kernel_rfl) (ea_cons (vX 0 (by kernel_rfl) (by kernel_rfl)) ea_nil (by kernel_rfl)) rfl (by kernel_rfl) (by kernel_rfl) (lenS len0)) (by kernel_rfl))
  (sxs_cons (sx_for PySem.PassesOwn.never rfl (ei_r1 (gl_of (by kernel_rfl)) h_range ex_int (by kernel_rfl)) (eg_name 2 nd (by kernel_rfl) (by kernel_rfl) (by kernel_rfl)) (sxs_cons (sx_set 3 nd (by kernel_rfl) (by kernel_rfl) (by kernel_rfl) (ex_add ex_int.b (ex_mulI ex_int.b (vX 2 (by kernel_rfl) (by kernel_rfl)).b).b) (by kernel_rfl))
   (sxs_cons (sx_set 4 nd (by kernel_rfl) (by kernel_rfl) (by kernel_rfl) (ex_add ex_int.b (cX (c__law_mix : FX PR w K mg base _ _ _ _) hr (gl_of (by kernel_rfl)) (by kernel_rfl) (ea_cons (vX 1 (by kernel_rfl) (by kernel_rfl)) (ea_cons (vX 3 (by kernel_rfl) (by kernel_rfl)) (ea_cons ex_int ea_nil (by kernel_rfl)) (by kernel_rfl)) (by kernel_rfl)) rfl (by kernel_rfl) (by kernel_rfl) (lenS (lenS (lenS len0)))).b) (by kernel_rfl))
   (sxs_cons (sx_set 5 nd (by kernel_rfl) (by kernel_rfl) (by kernel_rfl) (cX (c__law_words : FX PR w K mg base _ _ _ _) hr (gl_of (by kernel_rfl)) (by kernel_rfl) (ea_cons (vX 1 (by kernel_rfl) (by kernel_rfl)) (ea_cons (ex_add (vX 3 (by kernel_rfl) (by kernel_rfl)).b ex_int.b) (ea_cons (vX 4 (by kernel_rfl) (by kernel_rfl)) (ea_cons ex_int ea_nil (by kernel_rfl)) (by kernel_rfl)) (by kernel_rfl)) (by kernel_rfl)) rfl (by kernel_rfl) (by kernel_rfl) (lenS (lenS (lenS (lenS len0))))) (by kernel_rfl))
   (sxs_cons (sx_par 6 7 rfl nd (by kernel_rfl) (by kernel_rfl) (by decide) (by kernel_rfl) (by kernel_rfl) (ea_cons (cX (c_runs_of : FX PR w K mg base _ _ _ _) hr (gl_of (by kernel_rfl)) (by kernel_rfl) (ea_cons (vX 4 (by kernel_rfl) (by kernel_rfl)) (ea_cons (vX 5 (by kernel_rfl) (by kernel_rfl)) ea_nil (by kernel_rfl)) (by kernel_rfl)) rfl (by kernel_rfl) (by kernel_rfl) (lenS (lenS len0))) (ea_cons (en_repD (en_lst (ea_cons ex_int ea_nil (by kernel_rfl))).x.b (vX 4 (by kernel_rfl) (by kernel_rfl)).b).x ea_nil (by kernel_rfl)) (by kernel_rfl)) (by kernel_rfl) (by kernel_rfl))
   (sxs_cons (sx_if (et_cmp (ec_eq (Zx.Room.u64 hr) (cX (c__law_mix : FX PR w K mg base _ _ _ _) hr (gl_of (by kernel_rfl)) (by kernel_rfl) (ea_cons (vX 1 (by kernel_rfl) (by kernel_rfl)) (ea_cons (ex_add (vX 3 (by kernel_rfl) (by kernel_rfl)).b ex_int.b) (ea_cons ex_int ea_nil (by kernel_rfl)) (by kernel_rfl)) (by kernel_rfl)) rfl (by kernel_rfl) (by kernel_rfl) (lenS (lenS (lenS len0)))).b ex_int.b) (by kernel_rfl)) (sxs_cons (sx_setLc (own := [("k", 17)]) 6 false rfl nd (by kernel_rfl) (by kernel_rfl) (by kernel_rfl) (ei_r1 (gl_of (by kernel_rfl)) h_range (ex_add ex_int.b (cX (c__law_mix : FX PR w K mg base _ _ _ _) hr (gl_of (by kernel_rfl)) (by kernel_rfl) (ea_cons (vX 1 (by kernel_rfl) (by kernel_rfl)) (ea_cons (ex_add (vX 3 (by kernel_rfl) (by kernel_rfl)).b ex_int.b) (ea_cons ex_int ea_nil (by kernel_rfl)) (by kernel_rfl)) (by kernel_rfl)) rfl (by kernel_rfl) (by kernel_rfl) (lenS (lenS (lenS len0)))).b) (by kernel_rfl)) (blkOk_by (by kernel_rfl)) (fun _ _ _ _ _ => (eg_name 17 nd (by kernel_rfl) (by kernel_rfl) (by kernel_rfl))) (fun _ _ _ _ _ => ets_nil) (fun _ _ _ _ _ => (ex_tuple (gl_of (by kernel_rfl)) h_tuple (en_lc (own := [("v", 18)]) rfl nd (ei_r1 (gl_of (by kernel_rfl)) h_range (vX 4 (by kernel_rfl) (by kernel_rfl)) (by kernel_rfl)) (blkOk_by (by kernel_rfl)) (fun _ _ _ _ _ => (eg_name 18 nd (by kernel_rfl) (by kernel_rfl) (by kernel_rfl))) (fun _ _ _ _ _ => ets_nil) (fun _ _ _ _ _ => (cX (c__law_mix : FX PR w K mg base _ _ _ _) hr (gl_of (by kernel_rfl)) (by kernel_rfl) (ea_cons (vX 1 (by kernel_rfl) (by kernel_rfl)) (ea_cons (ex_add (ex_add (ex_add (vX 3 (by kernel_rfl) (by kernel_rfl)).b ex_int.b).b (ex_mulI ex_int.b (vX 17 (by kernel_rfl) (by kernel_rfl)).b).b).b (vX 18 (by kernel_rfl) (by kernel_rfl)).b) (ea_cons ex_int ea_nil (by kernel_rfl)) (by kernel_rfl)) (by kernel_rfl)) rfl (by kernel_rfl) (by kernel_rfl) (lenS (lenS (lenS len0))))) (fun _ => rfl) (by decide)).x.b (by kernel_rfl))) (fun _ => rfl) (by decide))
    (sxs_one (sx_set 5 nd (by kernel_rfl) (by kernel_rfl) (by kernel_rfl) ex_non (by kernel_rfl)))) sxs_nil)
   (sxs_cons (sx_set 8 nd (by kernel_rfl) (by kernel_rfl) (by kernel_rfl) (cX (c_strength : FX PR w K mg base _ _ _ _) hr (gl_of (by kernel_rfl)) (by kernel_rfl) (ea_cons (vX 6 (by kernel_rfl) (by kernel_rfl)) (ea_cons (vX 7 (by kernel_rfl) (by kernel_rfl)) ea_nil (by kernel_rfl)) (by kernel_rfl)) rfl (by kernel_rfl) (by kernel_rfl) (lenS (lenS len0))) (by kernel_rfl))
   (sxs_cons (sx_for PySem.PassesOwn.never rfl (ei_r2 (gl_of (by kernel_rfl)) h_range ex_int (ex_add (ex_min2 rfl (gl_of (by kernel_rfl)) h_min ex_int.b (vX 4 (by kernel_rfl) (by kernel_rfl)).b (by kernel_rfl) (by kernel_rfl)).b ex_int.b) (by kernel_rfl) (by kernel_rfl)) (eg_name 9 nd (by kernel_rfl) (by kernel_rfl) (by kernel_rfl)) (sxs_cons (sx_set 10 nd (by kernel_rfl) (by kernel_rfl) (by kernel_rfl) (cX (c_missing : FX PR w K mg base _ _ _ _) hr (gl_of (by kernel_rfl)) (by kernel_rfl) (ea_cons (vX 6 (by kernel_rfl) (by kernel_rfl)) (ea_cons (vX 7 (by kernel_rfl) (by kernel_rfl)) (ea_cons (vX 9 (by kernel_rfl) (by kernel_rfl)) ea_nil (by kernel_rfl)) (by kernel_rfl)) (by kernel_rfl)) rfl (by kernel_rfl) (by kernel_rfl) (lenS (lenS (lenS len0)))) (by kernel_rfl))
    (sxs_cons (sx_if (et_cmp (ec_leI (vX 9 (by kernel_rfl) (by kernel_rfl)).b (vX 8 (by kernel_rfl) (by kernel_rfl)).b) (by kernel_rfl)) (sxs_cons (sx_if (ew_or (et_cmp (ec_ne (Zx.Room.u64 hr) (vX 10 (by kernel_rfl) (by kernel_rfl)).b (en_lst ea_nil).x.b) (by kernel_rfl)) (ew_or1 (et_cmp (ec_ltI (ex_len (gl_of (by kernel_rfl)) h_len (vX 6 (by kernel_rfl) (by kernel_rfl)).b (by kernel_rfl)).b (cX (c_floor : FX PR w K mg base _ _ _ _) hr (gl_of (by kernel_rfl)) (by kernel_rfl) (ea_cons (vX 7 (by kernel_rfl) (by kernel_rfl)) (ea_cons (vX 9 (by kernel_rfl) (by kernel_rfl)) ea_nil (by kernel_rfl)) (by kernel_rfl)) rfl (by kernel_rfl) (by kernel_rfl) (lenS (lenS len0))).b) (by kernel_rfl)))).t (sxs_one (sx_ret ex_bl)) sxs_nil)
     (sxs_one (sx_for PySem.PassesOwn.never rfl (ei_seq (cX (c_sights : FX PR w K mg base _ _ _ _) hr (gl_of (by kernel_rfl)) (by kernel_rfl) (ea_cons (vX 7 (by kernel_rfl) (by kernel_rfl)) (ea_cons (vX 9 (by kernel_rfl) (by kernel_rfl)) ea_nil (by kernel_rfl)) (by kernel_rfl)) rfl (by kernel_rfl) (by kernel_rfl) (lenS (lenS len0)))) (eg_tup (n := 2) rfl (egs_cons (eg_name 15 nd (by kernel_rfl) (by kernel_rfl) (by kernel_rfl)) (egs_cons (eg_name 16 nd (by kernel_rfl) (by kernel_rfl) (by kernel_rfl)) egs_nil (by kernel_rfl)) (by kernel_rfl)) (by kernel_rfl) (by kernel_rfl)) (sxs_one (sx_if (et_cmp (ec_ne (Zx.Room.u64 hr) (ex_mulI (ex_dget (Zx.Room.u1 hr) (cX (c_counts : FX PR w K mg base _ _ _ _) hr (gl_of (by kernel_rfl)) (by kernel_rfl) (ea_cons (vX 6 (by kernel_rfl) (by kernel_rfl)) (ea_cons (vX 7 (by kernel_rfl) (by kernel_rfl)) (ea_cons (vX 15 (by kernel_rfl) (by kernel_rfl)) ea_nil (by kernel_rfl)) (by kernel_rfl)) (by kernel_rfl)) rfl (by kernel_rfl) (by kernel_rfl) (lenS (lenS (lenS len0)))).b (vX 16 (by kernel_rfl) (by kernel_rfl)).b (fun _ _ => rfl)).b (ex_shl ex_int.b (vX 9 (by kernel_rfl) (by kernel_rfl)).b).b).b (ex_len (gl_of (by kernel_rfl)) h_len (vX 6 (by kernel_rfl) (by kernel_rfl)).b (by kernel_rfl)).b) (by kernel_rfl)) (sxs_one (sx_ret ex_bl)) sxs_nil)) (fun _ => rfl)))) (sxs_one (sx_if (ew_and (et_cmp (ec_ne (Zx.Room.u64 hr) (vX 10 (by kernel_rfl) (by kernel_rfl)).b (en_lst ea_nil).x.b) (by kernel_rfl)) (ew_and1 (et_cmp (ec_isN (cX (c_uneven : FX PR w K mg base _ _ _ _) hr (gl_of (by kernel_rfl)) (by kernel_rfl) (ea_cons (vX 6 (by kernel_rfl) (by kernel_rfl)) (ea_cons (vX 7 (by kernel_rfl) (by kernel_rfl)) (ea_cons (vX 9 (by kernel_rfl) (by kernel_rfl)) ea_nil (by kernel_rfl)) (by kernel_rfl)) (by kernel_rfl)) rfl (by kernel_rfl) (by kernel_rfl) (lenS (lenS (lenS len0)))).b) (by kernel_rfl)))).t (sxs_one (sx_ret ex_bl)) sxs_nil)))
    (sxs_cons (sx_set 11 nd (by kernel_rfl) (by kernel_rfl) (by kernel_rfl) (cX (c_greedy : FX PR w K mg base _ _ _ _) hr (gl_of (by kernel_rfl)) (by kernel_rfl) (ea_cons (vX 7 (by kernel_rfl) (by kernel_rfl)) (ea_cons (vX 9 (by kernel_rfl) (by kernel_rfl)) ea_nil (by kernel_rfl)) (by kernel_rfl)) rfl (by kernel_rfl) (by kernel_rfl) (lenS (lenS len0))) (by kernel_rfl))
    (sxs_one (sx_if (ew_or (et_cmp (ec_ltI (ex_len (gl_of (by kernel_rfl)) h_len (vX 11 (by kernel_rfl) (by kernel_rfl)).b (by kernel_rfl)).b (cX (c_floor : FX PR w K mg base _ _ _ _) hr (gl_of (by kernel_rfl)) (by kernel_rfl) (ea_cons (vX 7 (by kernel_rfl) (by kernel_rfl)) (ea_cons (vX 9 (by kernel_rfl) (by kernel_rfl)) ea_nil (by kernel_rfl)) (by kernel_rfl)) rfl (by kernel_rfl) (by kernel_rfl) (lenS (lenS len0))).b) (by kernel_rfl)) (ew_or1 (et_cmp (ec_ne (Zx.Room.u64 hr) (cX (c_missing : FX PR w K mg base _ _ _ _) hr (gl_of (by kernel_rfl)) (by kernel_rfl) (ea_cons (ex_sl (ex_add (vX 11 (by kernel_rfl) (by kernel_rfl)).b (vX 6 (by kernel_rfl) (by kernel_rfl)).b).b eo_none (eo_some ex_int.b)) (ea_cons (vX 7 (by kernel_rfl) (by kernel_rfl)) (ea_cons (vX 9 (by kernel_rfl) (by kernel_rfl)) ea_nil (by kernel_rfl)) (by kernel_rfl)) (by kernel_rfl)) rfl (by kernel_rfl) (by kernel_rfl) (lenS (lenS (lenS len0)))).b (en_lst ea_nil).x.b) (by kernel_rfl)))).t (sxs_one (sx_ret ex_bl)) sxs_nil))))) (fun _ => rfl))
   (sxs_cons (sx_if (et_cmp (ec_notN (vX 5 (by kernel_rfl) (by kernel_rfl)).b) (by kernel_rfl)) (sxs_cons (sx_set 12 nd (by kernel_rfl) (by kernel_rfl) (by kernel_rfl) (cX (c_resolution : FX PR w K mg base _ _ _ _) hr (gl_of (by kernel_rfl)) (by kernel_rfl) (ea_cons (vX 4 (by kernel_rfl) (by kernel_rfl)) (ea_cons (vX 5 (by kernel_rfl) (by kernel_rfl)) ea_nil (by kernel_rfl)) (by kernel_rfl)) rfl (by kernel_rfl) (by kernel_rfl) (lenS (lenS len0))) (by kernel_rfl))
    (sxs_one (sx_for PySem.PassesOwn.never rfl (ei_r2 (gl_of (by kernel_rfl)) h_range ex_int (ex_add (ex_min2 rfl (gl_of (by kernel_rfl)) h_min ex_int.b (vX 4 (by kernel_rfl) (by kernel_rfl)).b (by kernel_rfl) (by kernel_rfl)).b ex_int.b) (by kernel_rfl) (by kernel_rfl)) (eg_name 9 nd (by kernel_rfl) (by kernel_rfl) (by kernel_rfl)) (sxs_one (sx_if (ew_or (et_cmp (ec_isN (vX 12 (by kernel_rfl) (by kernel_rfl)).b) (by kernel_rfl)) (ew_or1 (et_cmp (ec_ltI (vX 9 (by kernel_rfl) (by kernel_rfl)).b (vX 12 (by kernel_rfl) (by kernel_rfl)).b) (by kernel_rfl)))).t (sxs_one (sx_if (et_cmp (ec_ne (Zx.Room.u64 hr) (cX (c_missing : FX PR w K mg base _ _ _ _) hr (gl_of (by kernel_rfl)) (by kernel_rfl) (ea_cons (vX 6 (by kernel_rfl) (by kernel_rfl)) (ea_cons (vX 7 (by kernel_rfl) (by kernel_rfl)) (ea_cons (vX 9 (by kernel_rfl) (by kernel_rfl)) ea_nil (by kernel_rfl)) (by kernel_rfl)) (by kernel_rfl)) rfl (by kernel_rfl) (by kernel_rfl) (lenS (lenS (lenS len0)))).b (en_lst ea_nil).x.b) (by kernel_rfl)) (sxs_one (sx_ret ex_bl)) sxs_nil)) sxs_nil)) (fun _ => rfl)))) sxs_nil)
   (sxs_one (sx_if (ew_and (et_cmp (ec_gtI (vX 8 (by kernel_rfl) (by kernel_rfl)).b ex_int.b) (by kernel_rfl)) (ew_and1 (et_cmp (ec_gtI (vX 4 (by kernel_rfl) (by kernel_rfl)).b ex_int.b) (by kernel_rfl)))).t (sxs_cons (sx_set 13 nd (by kernel_rfl) (by kernel_rfl) (by kernel_rfl) (cX (c__law_mix : FX PR w K mg base _ _ _ _) hr (gl_of (by kernel_rfl)) (by kernel_rfl) (ea_cons (vX 1 (by kernel_rfl) (by kernel_rfl)) (ea_cons (ex_add (vX 3 (by kernel_rfl) (by kernel_rfl)).b ex_int.b) (ea_cons (vX 4 (by kernel_rfl) (by kernel_rfl)) ea_nil (by kernel_rfl)) (by kernel_rfl)) (by kernel_rfl)) rfl (by kernel_rfl) (by kernel_rfl) (lenS (lenS (lenS len0)))) (by kernel_rfl))
    (sxs_one (sx_for PySem.PassesOwn.never rfl (ei_seq (cX (c_parted : FX PR w K mg base _ _ _ _) hr (gl_of (by kernel_rfl)) (by kernel_rfl) (ea_cons (vX 6 (by kernel_rfl) (by kernel_rfl)) (ea_cons (vX 7 (by kernel_rfl) (by kernel_rfl)) (ea_cons (vX 13 (by kernel_rfl) (by kernel_rfl)) ea_nil (by kernel_rfl)) (by kernel_rfl)) (by kernel_rfl)) rfl (by kernel_rfl) (by kernel_rfl) (lenS (lenS (lenS len0))))) (eg_name 14 nd (by kernel_rfl) (by kernel_rfl) (by kernel_rfl)) (sxs_one (sx_if (et_cmp (ec_ne (Zx.Room.u64 hr) (cX (c_missing : FX PR w K mg base _ _ _ _) hr (gl_of (by kernel_rfl)) (by kernel_rfl) (ea_cons (vX 14 (by kernel_rfl) (by kernel_rfl)) (ea_cons (ex_sl (vX 7 (by kernel_rfl) (by kernel_rfl)).b (eo_some ex_int.b) eo_none) (ea_cons (ex_min2 rfl (gl_of (by kernel_rfl)) h_min ex_int.b (ex_sub (vX 8 (by kernel_rfl) (by kernel_rfl)).b ex_int.b).b (by kernel_rfl) (by kernel_rfl)) ea_nil (by kernel_rfl)) (by kernel_rfl)) (by kernel_rfl)) rfl (by kernel_rfl) (by kernel_rfl) (lenS (lenS (lenS len0)))).b (en_lst ea_nil).x.b) (by kernel_rfl)) (sxs_one (sx_ret ex_bl)) sxs_nil)) (fun _ => rfl)))) sxs_nil)))))))))) (fun _ => rfl))
  (sxs_one (sx_ret ex_bl))))⟩
end Zx.k95
/-! E2: counts, uneven, strength (k95). -/
namespace Zx.k95
open PySem PySem.Spec L2 PySem.W Zx
theorem e_draws : f__law_draws = Cm.f__law_draws := rfl
theorem e_mix : f__law_mix = Cm.f__law_mix := rfl
theorem e_missing : f_missing = Cm.f_missing := rfl
theorem e_sizes : f_check_sizes = Cm.f_check_sizes := rfl
theorem e_csights : f_check_sights = Cm.f_check_sights := rfl
theorem e_at : f_levels_at = Cm.f_levels_at := rfl
theorem e_levels : f_all_levels = Cm.f_all_levels := rfl
theorem e_subsets : f_subsets = Cm.f_subsets := rfl
theorem e_sights : f_sights_of = Cm.f_sights_of := rfl
theorem e_floor : f_floor = Cm.f_floor := rfl
theorem e_greedy : f_greedy = Cm.f_greedy := rfl
/-! dicts with runs as keys -/
def kdT (l : List (List Nat × Nat)) : List (D × D) := l.map fun p => (runD p.1, .int ((p.2 : Nat) : Int))
def dcT (l : List (List Nat × Nat)) : D := .dict ((.bool true, .none) :: kdT l)
def gtT (l : List (List Nat × Nat)) (k : List Nat) : Option Nat := (l.find? fun p => decide (p.1 = k)).map (·.2)
def ptT (l : List (List Nat × Nat)) (k : List Nat) (v : Nat) : List (List Nat × Nat) := if l.any (fun p => decide (p.1 = k)) then l.map (fun p => if decide (p.1 = k) then (p.1, v) else p) else l ++ [(k, v)]
theorem keys_run : ∀ k : List Nat, (keysOf (k.map fun i => PyData.int ((i : Nat) : Int))).isSome = true
  | [] => rfl
  | i :: k => by
    have := keys_run k
    rw [List.map_cons, keysOf, show keyOf (PyData.int (i : Int)) = some (.inl (i : Int)) from rfl, Option.bind_some]
    obtain ⟨ks, hks⟩ := Option.isSome_iff_exists.mp this
    rw [hks]
    rfl
theorem dGetT (l : List (List Nat × Nat)) (k : List Nat) : dGet (kdT l) (runD k) = (gtT l k).map fun n => PyData.int ((n : Nat) : Int) := by
  unfold dGet gtT kdT
  induction l with
  | nil => rfl
  | cons p l ih =>
    rw [List.map_cons, List.find?_cons, List.find?_cons, enc_run.eqv_of]
    by_cases h : p.1 = k
    · rw [decide_eq_true h]
      rfl
    · rw [decide_eq_false h]
      exact ih
theorem dHasT (l : List (List Nat × Nat)) (k : List Nat) : dHas (kdT l) (runD k) = l.any fun p => decide (p.1 = k) := by
  unfold dHas kdT
  rw [List.any_map]
  congr 1
  funext p
  exact enc_run.eqv_of p.1 k
theorem dPutT (l : List (List Nat × Nat)) (k : List Nat) (v : Nat) : dPut (kdT l) (runD k) (.int ((v : Nat) : Int)) = kdT (ptT l k v) := by
  unfold dPut ptT
  rw [dHasT]
  split
  · unfold kdT
    rw [List.map_map, List.map_map]
    refine List.map_congr_left fun p _ => ?_
    simp only [Function.comp]
    rw [enc_run.eqv_of]
    split <;> rfl
  · unfold kdT
    rw [List.map_append]
    rfl
theorem kdT_len (l : List (List Nat × Nat)) : (kdT l).length = l.length := by simp [kdT]
theorem ptT_len (l : List (List Nat × Nat)) (k : List Nat) (v : Nat) : (ptT l k v).length ≤ l.length + 1 := by
  unfold ptT
  split <;> simp
theorem gt_pt (l : List (List Nat × Nat)) (k : List Nat) (v : Nat) (k' : List Nat) : gtT (ptT l k v) k' = if k = k' then some v else gtT l k' := by
  unfold gtT ptT
  by_cases hk : k = k'
  · subst hk
    rw [if_pos rfl]
    split
    · rename_i ha
      induction l with
      | nil => simp at ha
      | cons p l ih =>
        by_cases h : p.1 = k
        · simp [h]
        · have ha' : (l.any fun p => decide (p.1 = k)) = true := by simpa [h] using ha
          rw [List.map_cons, List.find?_cons]
          simp only [decide_eq_false h, Bool.false_eq_true, if_false]
          exact ih ha'
    · rename_i ha
      rw [List.find?_append, List.find?_eq_none.mpr fun p hp h => ha (List.any_eq_true.mpr ⟨p, hp, h⟩)]
      simp
  · rw [if_neg hk]
    split
    · rename_i ha
      clear ha
      induction l with
      | nil => rfl
      | cons p l ih =>
        rw [List.map_cons, List.find?_cons, List.find?_cons]
        by_cases h : p.1 = k
        · have h2 : ¬ p.1 = k' := fun z => hk (h.symm.trans z)
          simp only [decide_eq_true h, if_true, decide_eq_false h2]
          exact ih
        · simp only [decide_eq_false h, Bool.false_eq_true, if_false]
          by_cases h2 : p.1 = k'
          · simp only [decide_eq_true h2]
          · simp only [decide_eq_false h2]
            exact ih
    · rw [List.find?_append]
      cases l.find? fun p => decide (p.1 = k') with
      | none => simp [hk]
      | some p => rfl
theorem dkT (l : List (List Nat × Nat)) (k : List Nat) : dkOf (dcT l) (runD k) = some (kdT l) := by
  show (if (keysOf (k.map fun i => PyData.int ((i : Nat) : Int))).isSome then some (kdT l) else none) = _
  rw [keys_run]
  rfl
theorem dget3T (l : List (List Nat × Nat)) (k : List Nat) : dgetD3 (dcT l) (runD k) (.int 0) = some (.int (((gtT l k).getD 0 : Nat) : Int)) := by
  unfold dgetD3
  rw [dkT, Option.bind_some, dGetT]
  cases gtT l k <;> rfl
theorem dgetT (l : List (List Nat × Nat)) (k : List Nat) : dgetD (dcT l) (runD k) = (gtT l k).map fun n => PyData.int ((n : Nat) : Int) := by
  unfold dgetD
  rw [dkT, Option.bind_some, dGetT]
theorem putT (l : List (List Nat × Nat)) (k : List Nat) (v : Nat) (h : l.length < 1000000) : putD ((.bool true, .none) :: kdT l) (runD k) (.int ((v : Nat) : Int)) = some ((.bool true, .none) :: kdT (ptT l k v)) := by
  show (if (keysOf (k.map fun i => PyData.int ((i : Nat) : Int))).isSome && decide ((kdT l).length < 1000000) then some ((PyData.bool true, PyData.none) :: dPut (kdT l) (runD k) (.int ((v : Nat) : Int))) else none) = _
  rw [keys_run, dPutT, kdT_len, decide_eq_true h]
  rfl
/-! counts_at -/
def CT (done : List (List Nat)) (T : List Nat) (l : List (List Nat × Nat)) : Prop := ∀ k, gtT l k = if cntL done T k = 0 then none else some (cntL done T k)
theorem CT.nil (T : List Nat) : CT [] T [] := fun k => rfl
theorem CT.getD {done : List (List Nat)} {T : List Nat} {l : List (List Nat × Nat)} (h : CT done T l) (k : List Nat) : (gtT l k).getD 0 = cntL done T k := by
  rw [h k]
  split
  · rename_i e
    rw [e]
    rfl
  · rfl
theorem cntL_snoc (done : List (List Nat)) (r T k : List Nat) : cntL (done ++ [r]) T k = cntL done T k + if T.map (fun f => r.getD f 0) = k then 1 else 0 := by
  unfold cntL
  rw [List.filter_append, List.length_append]
  congr 1
  by_cases h : T.map (fun f => r.getD f 0) = k
  · rw [if_pos h, List.filter_cons]
    simp only [decide_eq_true h, if_true]
    rfl
  · rw [if_neg h, List.filter_cons]
    simp only [decide_eq_false h, Bool.false_eq_true, if_false]
    rfl
theorem CT.snoc {done : List (List Nat)} {T : List Nat} {l : List (List Nat × Nat)} (h : CT done T l) (r : List Nat) : CT (done ++ [r]) T (ptT l (T.map fun f => r.getD f 0) (cntL done T (T.map fun f => r.getD f 0) + 1)) := fun k => by
  rw [gt_pt, cntL_snoc]
  by_cases e : T.map (fun f => r.getD f 0) = k
  · rw [if_pos e, if_pos e, if_neg (by omega), e]
  · rw [if_neg e, if_neg e, Nat.add_zero]
    exact h k
theorem counts_loop {T : List Nat} (x : Slot) (hT : T.length ≤ 1000) : ∀ (suf done : List (List Nat)) (l : List (List Nat × Nat)) (s3 : Slot), (∀ r ∈ suf, ∀ f ∈ T, f < r.length) → CT done T l → l.length ≤ done.length → done.length + suf.length ≤ 100000 →
    ∃ l' s3', forL (gN 3) (sStD 2 (dCall (lCons (vR 3) (lCons (vR 1) lNil)) f_levels_at) (d2 addD (d3 dgetD3 (vB 2) (dCall (lCons (vR 3) (lCons (vR 1) lNil)) f_levels_at) (kD (.int 0))) (kD (.int 1)))) (suf.map runD) [x, .fz (natsD T), .ow (dcT l), s3] =
      some (.nx [x, .fz (natsD T), .ow (dcT l'), s3']) ∧ CT (done ++ suf) T l'
  | [], done, l, s3, _, h, _, _ => ⟨l, s3, rfl, by rw [List.append_nil]; exact h⟩
  | r :: suf, done, l, s3, hr, h, hl, hn => by
    rw [List.length_cons] at hn
    have hp := ptT_len l (T.map fun f => r.getD f 0) (cntL done T (T.map fun f => r.getD f 0) + 1)
    obtain ⟨l', s3', ih, h'⟩ := counts_loop x hT suf (done ++ [r]) _ (.fz (runD r)) (fun q hq => hr q (List.mem_cons_of_mem _ hq)) (h.snoc r) (by rw [List.length_append, List.length_singleton]; omega) (by rw [List.length_append, List.length_singleton]; omega)
    refine ⟨l', s3', ?_, by rw [← List.append_cons] at h'; exact h'⟩
    have c1 := levels_at_ok (hr r (List.mem_cons_self ..)) hT
    rw [← e_at] at c1
    have c2 := dget3T l (T.map fun f => r.getD f 0)
    rw [h.getD] at c2
    have c3 := putT l (T.map fun f => r.getD f 0) (cntL done T (T.map fun f => r.getD f 0) + 1) (by omega)
    rw [List.map_cons, forL, gN_s, Option.bind_some]
    have st : sStD 2 (dCall (lCons (vR 3) (lCons (vR 1) lNil)) f_levels_at) (d2 addD (d3 dgetD3 (vB 2) (dCall (lCons (vR 3) (lCons (vR 1) lNil)) f_levels_at) (kD (.int 0))) (kD (.int 1))) ([x, .fz (natsD T), .ow (dcT l), s3].set 3 (.fz (runD r))) =
        some (.nx [x, .fz (natsD T), .ow (dcT (ptT l (T.map fun f => r.getD f 0) (cntL done T (T.map fun f => r.getD f 0) + 1))), .fz (runD r)]) := by
      simp only [sStD_s, d3_s, vB_s, vR_s, kD_s, d1_s, d2_s, b1_s, b2_s, bV_s, dCall_s, lCons_s, lNil_s, List.set_cons_zero, List.set_cons_succ, List.getElem?_cons_zero, List.getElem?_cons_succ, Option.bind_some, c1, c2, addD_i]
      rw [show ((cntL done T (T.map fun f => r.getD f 0) : Nat) : Int) + 1 = ((cntL done T (T.map fun f => r.getD f 0) + 1 : Nat) : Int) by omega]
      have : owD [x, .fz (natsD T), .ow (dcT l), .fz (runD r)] 2 = some ((.bool true, .none) :: kdT l) := rfl
      rw [this, Option.bind_some, c3]
      rfl
    rw [st]
    exact ih
theorem counts_at_ok {T : List Nat} {rs : List (List Nat)} (hT : T.length ≤ 1000) (hr : ∀ r ∈ rs, ∀ f ∈ T, f < r.length) (hn : rs.length ≤ 100000) : ∃ l, f_counts_at [runsD rs, natsD T] = some (dcT l) ∧ CT rs T l := by
  obtain ⟨l, s3, h1, h2⟩ := counts_loop (.fz (runsD rs)) hT rs [] [] .no hr (CT.nil T) (Nat.le_refl _) (by simpa using hn)
  refine ⟨l, ?_, by simpa using h2⟩
  unfold f_counts_at D_counts_at
  rw [runX_s]
  rw [show env0 4 [runsD rs, natsD T] = [.fz (runsD rs), .fz (natsD T), .no, .no] from rfl]
  rw [sSeq_nx (ρ' := [.fz (runsD rs), .fz (natsD T), .ow (dcT []), .no]) (by rfl)]
  rw [sSeq_nx (sFor_of (ds := rs.map runD) rfl h1)]
  simp
/-! check_runs -/
theorem check_runs_ok {ss : List Nat} {rs : List (List Nat)} (h : SzOk ss) (hr : ∀ r ∈ rs, RowOk ss r) (h0 : 0 < rs.length) (hl : rs.length ≤ 64) : f_check_runs [runsD rs, natsD ss] = some .none := by
  have h6 := h.l6
  have c0 := check_sizes_ok h
  rw [← e_sizes] at c0
  obtain ⟨ρ', g1, g2⟩ := sFor_chk (fi := iEn (vR 0)) (g := gT (gsCons (gN 2) (gsCons (gN 3) gsNil)) 2) (c := (bOr (b2 neD (d1 lenD (vR 3)) (d1 lenD (vR 1))) (bNot (b1 truD (d1 allD (dLc (iZpX (vR 3) (vR 1)) (gT (gsCons (gN 4) (gsCons (gN 5) gsNil)) 2) bYes (bV (bCh leI ltI (kD (.int 0)) (vR 4) (vR 5))) [4, 5]))))))
    (ρ := [.fz (runsD rs), .fz (natsD ss), .no, .no, .no, .no]) (ds := enumL (rs.map runD))
    (fun ρ => ∃ s2 s3, ρ = [.fz (runsD rs), .fz (natsD ss), s2, s3, .no, .no]) rfl ⟨_, _, rfl⟩ (fun d hd ρ ⟨s2, s3, e⟩ => by
      subst e
      obtain ⟨k, x, hx, rfl⟩ := enum_mem hd
      obtain ⟨r, hrm, rfl⟩ := List.mem_map.mp hx
      have hro := hr r hrm
      have hlen := hro.len
      refine ⟨_, rfl, ?_, _, _, rfl⟩
      have hall : dLc (iZpX (vR 3) (vR 1)) (gT (gsCons (gN 4) (gsCons (gN 5) gsNil)) 2) bYes (bV (bCh leI ltI (kD (.int 0)) (vR 4) (vR 5))) [4, 5] [.fz (runsD rs), .fz (natsD ss), .fz (.int (k : Int)), .fz (runD r), .no, .no] = some (.list ((r.zip ss).map fun _ => .bool true)) := by
        refine dLc_map (fun p : Nat × Nat => PyData.tuple [.int ((p.1 : Nat) : Int), .int ((p.2 : Nat) : Int)]) (fun _ => .bool true) (r.zip ss) (by
          simp only [iZpX_s, vR_s, List.getElem?_cons_zero, List.getElem?_cons_succ, Option.bind_some]
          rw [zipL_map]) (fun p hp => ⟨_, rfl, ?_⟩) (by simp; omega)
        have a := rowOk_zip hro p hp
        have b : ((p.1 : Nat) : Int) < (p.2 : Nat) := by omega
        simp [wipeE, b]
      have hb : allD (.list ((r.zip ss).map fun _ => .bool true)) = some (.bool true) := by
        have : ((r.zip ss).map fun _ => PyData.bool true) = ((r.zip ss).map fun _ => true).map .bool := by rw [List.map_map]; rfl
        rw [this]
        simp only [allD, bools_map, Option.bind_some]
        congr 2
        simp
      simp only [bOr_s, bNot_s, b2_s, b1_s, d1_s, hall, hb, vR_s, List.set_cons_zero, List.set_cons_succ, List.getElem?_cons_zero, List.getElem?_cons_succ, Option.bind_some, len_run, lenN, neD_i, hlen, truD_b]
      simp)
  obtain ⟨s2, s3, rfl⟩ := g2
  unfold f_check_runs D_check_runs
  rw [runX_s]
  rw [show env0 6 [runsD rs, natsD ss] = [.fz (runsD rs), .fz (natsD ss), .no, .no, .no, .no] from rfl]
  rw [sSeq_nx (ρ' := [.fz (runsD rs), .fz (natsD ss), .no, .no, .no, .no]) (by
    simp only [sDrop_s, vR_s, kD_s, d1_s, d2_s, b1_s, b2_s, bV_s, dCall_s, lCons_s, lNil_s, List.set_cons_zero, List.set_cons_succ, List.getElem?_cons_zero, List.getElem?_cons_succ, Option.bind_some, c0])]
  rw [sSeq_nx (ρ' := [.fz (runsD rs), .fz (natsD ss), .no, .no, .no, .no]) (by
    rw [sIf_f (by
      have b1 : (1 : Int) ≤ rs.length := by omega
      have b2 : (rs.length : Int) ≤ 64 := by omega
      simp [b1, b2])]
    rfl), g1]
/-! uneven -/
theorem foldl_minN (is : List Nat) : ∀ i : Nat, ∃ m : Nat, (is.map fun k => ((k : Nat) : Int)).foldl min (i : Int) = (m : Int) ∧ (m = i ∨ m ∈ is) ∧ m ≤ i ∧ ∀ k ∈ is, m ≤ k := by
  induction is with
  | nil => exact fun i => ⟨i, rfl, .inl rfl, Nat.le_refl _, fun k hk => by cases hk⟩
  | cons k is ih =>
    intro i
    obtain ⟨m, h1, h2, h3, h4⟩ := ih (min i k)
    refine ⟨m, ?_, ?_, by omega, fun j hj => ?_⟩
    · rw [List.map_cons, List.foldl_cons, ← h1]
      congr 1
      omega
    · rcases h2 with h2 | h2
      · by_cases hik : k ≤ i
        · right
          rw [h2, Nat.min_eq_right hik]
          exact List.mem_cons_self
        · left
          omega
      · exact .inr (List.mem_cons_of_mem _ h2)
    · rcases List.mem_cons.mp hj with rfl | hj
      · omega
      · exact h4 j hj
theorem minL_ok {is : List Nat} (h : is ≠ []) : ∃ m ∈ is, minLD (natsD is) = some (.int (m : Int)) ∧ ∀ k ∈ is, m ≤ k := by
  cases is with
  | nil => exact absurd rfl h
  | cons i is =>
    obtain ⟨m, h1, h2, h3, h4⟩ := foldl_minN is i
    refine ⟨m, List.mem_cons.mpr h2, ?_, fun k hk => ?_⟩
    · have e : ((i :: is).map fun k => PyData.int ((k : Nat) : Int)) = ((i :: is).map fun k => ((k : Nat) : Int)).map .int := by rw [List.map_map]; rfl
      have e2 : minLD (.list ((i :: is).map fun k => PyData.int ((k : Nat) : Int))) = (intsOf ((i :: is).map fun k => PyData.int ((k : Nat) : Int))).bind fun is => (minL is).bind fun m => some (.int m) := rfl
      unfold natsD
      rw [e2, e, intsOf_map, Option.bind_some, List.map_cons, minL, h1]
      rfl
    · rcases List.mem_cons.mp hk with rfl | hk
      · exact h3
      · exact h4 k hk
theorem uneven_at_ok {ss T : List Nat} {rs : List (List Nat)} (h : SzOk ss) (hr : ∀ r ∈ rs, RowOk ss r) (hn : rs.length ≤ 64) (hT : ∀ f ∈ T, f < ss.length) (hT2 : T.length ≤ 6) : ∃ d, f_uneven_at [runsD rs, natsD ss, natsD T] = some d ∧
    ((d = .none ∧ Ev rs ss T) ∨ (∃ a b, d = .tuple [runD a, runD b]) ∧ ¬ Ev rs ss T) := by
  obtain ⟨l, c1, c2⟩ := counts_at_ok (rs := rs) (T := T) (by omega) (fun r hrm f hf => by rw [(hr r hrm).len]; exact hT f hf) (by omega)
  have hb : (szAt ss T).prod ≤ 5 ^ 6 := Nat.le_trans (pow_bound (T := T) fun s hs => h.hi s (szAt_mem hT s hs)) (by rw [szAt_len]; exact Nat.pow_le_pow_right (by decide) hT2)
  have c3 := all_levels_ok (ss := szAt ss T) (fun s hs => by
    have := h.lo s (szAt_mem hT s hs)
    have := h.hi s (szAt_mem hT s hs)
    omega) (by rw [szAt_len]; omega) (Nat.le_trans hb (by decide))
  rw [← e_levels] at c3
  have hlen : (rows (szAt ss T)).length ≤ 5 ^ 6 := by rw [rows_len]; exact hb
  have e1 : ∀ s3 : Slot, dLc (iSeq (vR 2)) (gN 7) bYes (d2 ixD (vR 1) (vR 7)) [7] [.fz (runsD rs), .fz (natsD ss), .fz (natsD T), s3, .no, .no, .no, .no] = some (natsD (szAt ss T)) := fun s3 => by
    have : natsD (szAt ss T) = .list (T.map fun f => .int ((ss.getD f 0 : Nat) : Int)) := by
      unfold natsD szAt
      rw [List.map_map]
      rfl
    rw [this]
    refine dLc_map (fun f => .int ((f : Nat) : Int)) (fun f => .int ((ss.getD f 0 : Nat) : Int)) T rfl (fun f hf => ⟨_, rfl, ?_⟩) (by omega)
    have := nats_at (hT f hf)
    simp only [wipeE, vR_s, kD_s, d1_s, d2_s, b1_s, b2_s, bV_s, dCall_s, lCons_s, lNil_s, List.set_cons_zero, List.set_cons_succ, List.getElem?_cons_zero, List.getElem?_cons_succ, Option.bind_some, this]
  have e2 : dLc (iSeq (vR 4)) (gN 6) bYes (d3 dgetD3 (vR 3) (vR 6) (kD (.int 0))) [6] [.fz (runsD rs), .fz (natsD ss), .fz (natsD T), .fz (dcT l), .fz (runsD (rows (szAt ss T))), .no, .no, .no] = some (natsD ((rows (szAt ss T)).map (cntL rs T))) := by
    have : natsD ((rows (szAt ss T)).map (cntL rs T)) = .list ((rows (szAt ss T)).map fun k => .int ((cntL rs T k : Nat) : Int)) := by
      unfold natsD
      rw [List.map_map]
      rfl
    rw [this]
    refine dLc_map runD (fun k => .int ((cntL rs T k : Nat) : Int)) (rows (szAt ss T)) rfl (fun k hk => ⟨_, rfl, ?_⟩) (by
      have : (5 : Nat) ^ 6 ≤ 100000 := by decide
      omega)
    have := dget3T l k
    rw [c2.getD] at this
    simp only [wipeE, d3_s, vR_s, kD_s, d1_s, d2_s, b1_s, b2_s, bV_s, dCall_s, lCons_s, lNil_s, List.set_cons_zero, List.set_cons_succ, List.getElem?_cons_zero, List.getElem?_cons_succ, Option.bind_some, this]
  have hne : (rows (szAt ss T)).map (cntL rs T) ≠ [] := fun e => by
    have := List.map_eq_nil_iff.mp e
    have h2 := rows_len (szAt ss T)
    rw [this, List.length_nil] at h2
    have h3 : 1 ≤ (szAt ss T).prod := prod_pos fun s hs => by have := h.lo s (szAt_mem hT s hs); omega
    omega
  obtain ⟨m, m1, m2, m3⟩ := maxL_ok hne
  obtain ⟨n, n1, n2, n3⟩ := minL_ok hne
  have m2' : maxLD (natsD ((rows (szAt ss T)).map (cntL rs T))) = some (.int (m : Int)) := m2
  have i1 : indexD (natsD ((rows (szAt ss T)).map (cntL rs T))) (.int (m : Int)) = some (.int ((_ : Nat) : Int)) := index_ok enc_nat (by decide) m1
  have i2 : indexD (natsD ((rows (szAt ss T)).map (cntL rs T))) (.int (n : Int)) = some (.int ((_ : Nat) : Int)) := index_ok enc_nat (by decide) n1
  have b1 := List.idxOf_lt_length_of_mem m1
  have b2 := List.idxOf_lt_length_of_mem n1
  rw [List.length_map] at b1 b2
  generalize ((rows (szAt ss T)).map (cntL rs T)).idxOf m = I at i1 b1
  generalize ((rows (szAt ss T)).map (cntL rs T)).idxOf n = J at i2 b2
  have a1 : ixD (runsD (rows (szAt ss T))) (.int (I : Int)) = some (runD (rows (szAt ss T))[I]) := by
    rw [ixD_l, atI_nat _ _ (by rw [List.length_map]; exact b1), List.getElem?_map, List.getElem?_eq_getElem b1]
    rfl
  have a2 : ixD (runsD (rows (szAt ss T))) (.int (J : Int)) = some (runD (rows (szAt ss T))[J]) := by
    rw [ixD_l, atI_nat _ _ (by rw [List.length_map]; exact b2), List.getElem?_map, List.getElem?_eq_getElem b2]
    rfl
  have main : ∀ rest : DenS, (sSeq (sSet 3 (dCall (lCons (vR 0) (lCons (vR 2) lNil)) f_counts_at))
  (sSeq (sSet 4 (dCall (lCons (dLc (iSeq (vR 2)) (gN 7) bYes (d2 ixD (vR 1) (vR 7)) [7]) lNil) f_all_levels))
  (sSeq (sLcSet 5 false (dLc (iSeq (vR 4)) (gN 6) bYes (d3 dgetD3 (vR 3) (vR 6) (kD (.int 0))) [6])) rest))) [.fz (runsD rs), .fz (natsD ss), .fz (natsD T), .no, .no, .no, .no, .no] = rest [.fz (runsD rs), .fz (natsD ss), .fz (natsD T), .fz (dcT l), .fz (runsD (rows (szAt ss T))), .fz (natsD ((rows (szAt ss T)).map (cntL rs T))), .no, .no] := fun rest => by
    rw [sSeq_nx (ρ' := [.fz (runsD rs), .fz (natsD ss), .fz (natsD T), .fz (dcT l), .no, .no, .no, .no]) (by simp only [sSet_s, vR_s, kD_s, d1_s, d2_s, b1_s, b2_s, bV_s, dCall_s, lCons_s, lNil_s, List.set_cons_zero, List.set_cons_succ, List.getElem?_cons_zero, List.getElem?_cons_succ, Option.bind_some, c1])]
    rw [sSeq_nx (ρ' := [.fz (runsD rs), .fz (natsD ss), .fz (natsD T), .fz (dcT l), .fz (runsD (rows (szAt ss T))), .no, .no, .no]) (by simp only [sSet_s, vR_s, kD_s, d1_s, d2_s, b1_s, b2_s, bV_s, dCall_s, lCons_s, lNil_s, List.set_cons_zero, List.set_cons_succ, List.getElem?_cons_zero, List.getElem?_cons_succ, Option.bind_some, e1, c3])]
    rw [sSeq_nx (ρ' := [.fz (runsD rs), .fz (natsD ss), .fz (natsD T), .fz (dcT l), .fz (runsD (rows (szAt ss T))), .fz (natsD ((rows (szAt ss T)).map (cntL rs T))), .no, .no]) (by
      rw [sLcSet_s, e2]
      rfl)]
  unfold f_uneven_at D_uneven_at
  rw [runX_s]
  rw [show env0 8 [runsD rs, natsD ss, natsD T] = [.fz (runsD rs), .fz (natsD ss), .fz (natsD T), .no, .no, .no, .no, .no] from rfl]
  rw [main]
  by_cases e : m = n
  · subst e
    refine ⟨.none, ?_, .inl ⟨rfl, fun k hk k' hk' => ?_⟩⟩
    · rw [sSeq_rt (d := .none) (by
        rw [sIf_t (by simp only [vR_s, kD_s, d1_s, d2_s, b1_s, b2_s, bV_s, dCall_s, lCons_s, lNil_s, List.set_cons_zero, List.set_cons_succ, List.getElem?_cons_zero, List.getElem?_cons_succ, Option.bind_some, m2', n2, eqD_i, decide_true])]
        rfl)]
    · have q1 := m3 _ (List.mem_map_of_mem hk)
      have q2 := m3 _ (List.mem_map_of_mem hk')
      have q3 := n3 _ (List.mem_map_of_mem hk)
      have q4 := n3 _ (List.mem_map_of_mem hk')
      omega
  · refine ⟨.tuple [runD (rows (szAt ss T))[I], runD (rows (szAt ss T))[J]], ?_, .inr ⟨⟨_, _, rfl⟩, fun z => ?_⟩⟩
    · have ne : ¬ (m : Int) = (n : Int) := by omega
      rw [sSeq_nx (ρ' := [.fz (runsD rs), .fz (natsD ss), .fz (natsD T), .fz (dcT l), .fz (runsD (rows (szAt ss T))), .fz (natsD ((rows (szAt ss T)).map (cntL rs T))), .no, .no]) (by
        rw [sIf_f (by simp only [vR_s, kD_s, d1_s, d2_s, b1_s, b2_s, bV_s, dCall_s, lCons_s, lNil_s, List.set_cons_zero, List.set_cons_succ, List.getElem?_cons_zero, List.getElem?_cons_succ, Option.bind_some, m2', n2, eqD_i, decide_eq_false ne])]
        rfl)]
      simp only [sRet_s, mkT_s, vR_s, kD_s, d1_s, d2_s, b1_s, b2_s, bV_s, dCall_s, lCons_s, lNil_s, List.set_cons_zero, List.set_cons_succ, List.getElem?_cons_zero, List.getElem?_cons_succ, Option.bind_some, m2', n2, i1, i2, a1, a2]
      rfl
    · obtain ⟨k, k1, rfl⟩ := List.mem_map.mp m1
      obtain ⟨k', k2, rfl⟩ := List.mem_map.mp n1
      exact e (z k k1 k' k2)
end Zx.k95
/-! E3: uneven_of, strength, counts, sights, parted (k95). -/
namespace Zx.k95
open PySem PySem.Spec L2 PySem.W Zx
theorem cutT_take (xs : List D) (k : Nat) (h : k ≤ xs.length) : cutD none (some (k : Int)) (.tuple xs) = some (.tuple (xs.take k)) := by rw [← cut_take xs k h]; rfl
theorem cutT_drop (xs : List D) (k : Nat) (h : k ≤ xs.length) : cutD (some (k : Int)) none (.tuple xs) = some (.tuple (xs.drop k)) := by rw [← cut_drop xs k h]; rfl
theorem er_row {ss r : List Nat} {g : Nat} (hg : g < ss.length) (h : RowOk ss r) : RowOk (ss.eraseIdx g) (r.eraseIdx g) := by
  rw [rowOk_iff] at h ⊢
  obtain ⟨h1, h2⟩ := h
  refine ⟨by rw [er_len hg, er_len (by omega), h1], fun i hi => ?_⟩
  rw [er_len hg] at hi
  rw [getD_er, getD_er]
  exact h2 _ (by split <;> omega)
theorem er_run {l : List Nat} {g : Nat} (hg : g < l.length) (hl : l.length ≤ 1000) : ∃ x y, cutD none (some (g : Int)) (runD l) = some x ∧ cutD (some ((g : Int) + 1)) none (runD l) = some y ∧ addD x y = some (runD (l.eraseIdx g)) := by
  refine ⟨runD (l.take g), runD (l.drop (g + 1)), ?_, ?_, ?_⟩
  · unfold runD
    rw [cutT_take _ _ (by rw [List.length_map]; omega), List.map_take]
  · unfold runD
    rw [show (g : Int) + 1 = ((g + 1 : Nat) : Int) by omega, cutT_drop _ _ (by rw [List.length_map]; omega), List.map_drop]
  · unfold runD
    rw [addD_t, if_pos (by rw [List.length_map, List.length_map, List.length_take, List.length_drop]; omega), ← List.map_append, List.eraseIdx_eq_take_drop_succ]
abbrev AllEv (rs : List (List Nat)) (ss : List Nat) (t : Nat) : Prop := ∀ T ∈ subs ss.length t, Ev rs ss T
/-- a table -/
structure Tb (ss : List Nat) (rs : List (List Nat)) : Prop where
  sz : SzOk ss
  row : ∀ r ∈ rs, RowOk ss r
  pos : 0 < rs.length
  le : rs.length ≤ 64
theorem uneven_loop {ss : List Nat} {rs : List (List Nat)} (B : Tb ss rs) (x : Slot) : ∀ (Ts : List (List Nat)) (s3 s4 : Slot), (∀ T ∈ Ts, (∀ f ∈ T, f < ss.length) ∧ T.length ≤ 6) →
    ∃ o, forL (gN 3) (sSeq (sSet 4 (dCall (lCons (vR 0) (lCons (vR 1) (lCons (vR 3) lNil))) f_uneven_at))
   (sIf (b1 notN (vR 4)) (sRet (mkT (lCons (vR 3) (lCons (d2 ixD (vR 4) (kD (.int 0))) (lCons (d2 ixD (vR 4) (kD (.int 1))) lNil))))) sNx)) (Ts.map fun l => natsD l) [.fz (runsD rs), .fz (natsD ss), x, s3, s4] = some o ∧
      ((∃ s3' s4', o = .nx [.fz (runsD rs), .fz (natsD ss), x, s3', s4'] ∧ ∀ T ∈ Ts, Ev rs ss T) ∨ (∃ a b c, o = .rt (.tuple [a, b, c])) ∧ ¬ ∀ T ∈ Ts, Ev rs ss T)
  | [], s3, s4, _ => ⟨_, rfl, .inl ⟨s3, s4, rfl, fun T hT => by cases hT⟩⟩
  | T :: Ts, s3, s4, h => by
    obtain ⟨h1, h2⟩ := h T (List.mem_cons_self ..)
    obtain ⟨d, d1', d2'⟩ := uneven_at_ok B.sz B.row B.le h1 h2
    rw [List.map_cons, forL, gN_s, Option.bind_some]
    rcases d2' with ⟨rfl, he⟩ | ⟨⟨a, b, rfl⟩, he⟩
    · obtain ⟨o, o1, o2⟩ := uneven_loop B x Ts (.fz (natsD T)) (.fz .none) fun U hU => h U (List.mem_cons_of_mem _ hU)
      have st : (sSeq (sSet 4 (dCall (lCons (vR 0) (lCons (vR 1) (lCons (vR 3) lNil))) f_uneven_at))
   (sIf (b1 notN (vR 4)) (sRet (mkT (lCons (vR 3) (lCons (d2 ixD (vR 4) (kD (.int 0))) (lCons (d2 ixD (vR 4) (kD (.int 1))) lNil))))) sNx)) ([.fz (runsD rs), .fz (natsD ss), x, s3, s4].set 3 (.fz (natsD T))) = some (.nx [.fz (runsD rs), .fz (natsD ss), x, .fz (natsD T), .fz .none]) := by
        rw [sSeq_nx (ρ' := [.fz (runsD rs), .fz (natsD ss), x, .fz (natsD T), .fz .none]) (by simp only [sSet_s, vR_s, kD_s, d1_s, d2_s, b1_s, b2_s, bV_s, dCall_s, lCons_s, lNil_s, List.set_cons_zero, List.set_cons_succ, List.getElem?_cons_zero, List.getElem?_cons_succ, Option.bind_some, d1'])]
        rw [sIf_f (by simp only [vR_s, kD_s, d1_s, d2_s, b1_s, b2_s, bV_s, dCall_s, lCons_s, lNil_s, List.set_cons_zero, List.set_cons_succ, List.getElem?_cons_zero, List.getElem?_cons_succ, Option.bind_some]; rfl)]
        rfl
      rw [st]
      refine ⟨o, o1, ?_⟩
      rcases o2 with ⟨s3', s4', z1, z2⟩ | ⟨z1, z2⟩
      · exact .inl ⟨s3', s4', z1, fun U hU => by
          rcases List.mem_cons.mp hU with rfl | hU
          · exact he
          · exact z2 U hU⟩
      · exact .inr ⟨z1, fun w => z2 fun U hU => w U (List.mem_cons_of_mem _ hU)⟩
    · have st : (sSeq (sSet 4 (dCall (lCons (vR 0) (lCons (vR 1) (lCons (vR 3) lNil))) f_uneven_at))
   (sIf (b1 notN (vR 4)) (sRet (mkT (lCons (vR 3) (lCons (d2 ixD (vR 4) (kD (.int 0))) (lCons (d2 ixD (vR 4) (kD (.int 1))) lNil))))) sNx)) ([.fz (runsD rs), .fz (natsD ss), x, s3, s4].set 3 (.fz (natsD T))) = some (.rt (.tuple [natsD T, runD a, runD b])) := by
        rw [sSeq_nx (ρ' := [.fz (runsD rs), .fz (natsD ss), x, .fz (natsD T), .fz (.tuple [runD a, runD b])]) (by simp only [sSet_s, vR_s, kD_s, d1_s, d2_s, b1_s, b2_s, bV_s, dCall_s, lCons_s, lNil_s, List.set_cons_zero, List.set_cons_succ, List.getElem?_cons_zero, List.getElem?_cons_succ, Option.bind_some, d1'])]
        rw [sIf_t (by simp only [vR_s, kD_s, d1_s, d2_s, b1_s, b2_s, bV_s, dCall_s, lCons_s, lNil_s, List.set_cons_zero, List.set_cons_succ, List.getElem?_cons_zero, List.getElem?_cons_succ, Option.bind_some]; rfl)]
        rfl
      rw [st]
      exact ⟨_, rfl, .inr ⟨⟨_, _, _, rfl⟩, fun w => he (w T (List.mem_cons_self ..))⟩⟩
/-- what `uneven` answers -/
def UnA (rs : List (List Nat)) (ss : List Nat) (t : Nat) (d : D) : Prop := (d = .none ∧ AllEv rs ss t) ∨ (∃ a b c, d = .tuple [a, b, c]) ∧ ¬ AllEv rs ss t
theorem uneven_of_ok {ss : List Nat} {rs : List (List Nat)} {t : Nat} (B : Tb ss rs) (ht : t ≤ 6) : ∃ d, f_uneven_of [runsD rs, natsD ss, .int (t : Nat)] = some d ∧ UnA rs ss t d := by
  have h6 := B.sz.l6
  have hsub := subsets_ok (n := ss.length) (t := t) (by omega)
  rw [← e_subsets] at hsub
  obtain ⟨o, o1, o2⟩ := uneven_loop B (.fz (.int (t : Nat))) (subs ss.length t) .no .no fun T hT => ⟨(mem_subs.mp hT).2.1, by rw [(mem_subs.mp hT).2.2]; exact ht⟩
  have hi : iSeq (dCall (lCons (d1 lenD (vR 1)) (lCons (vR 2) lNil)) f_subsets) [.fz (runsD rs), .fz (natsD ss), .fz (.int (t : Nat)), .no, .no] = some ((subs ss.length t).map fun l => natsD l) := by
    simp only [iSeq_s, dCall_s, lCons_s, lNil_s, d1_s, vR_s, List.getElem?_cons_zero, List.getElem?_cons_succ, Option.bind_some, lenN, hsub, seqOf_l]
  unfold f_uneven_of D_uneven_of
  rw [runX_s]
  rw [show env0 5 [runsD rs, natsD ss, .int (t : Nat)] = [.fz (runsD rs), .fz (natsD ss), .fz (.int (t : Nat)), .no, .no] from rfl]
  rcases o2 with ⟨s3', s4', rfl, z2⟩ | ⟨⟨a, b, c, rfl⟩, z2⟩
  · refine ⟨.none, ?_, .inl ⟨rfl, z2⟩⟩
    rw [sSeq_nx (sFor_of hi o1)]
    rfl
  · refine ⟨_, ?_, .inr ⟨⟨a, b, c, rfl⟩, z2⟩⟩
    rw [sSeq_rt (sFor_of hi o1)]
theorem UnA.isN {rs : List (List Nat)} {ss : List Nat} {t : Nat} {d : D} (h : UnA rs ss t d) : ∃ b, isN d = some b ∧ (b = true ↔ AllEv rs ss t) := by
  rcases h with ⟨rfl, h⟩ | ⟨⟨a, b, c, rfl⟩, h⟩
  · exact ⟨true, rfl, fun _ => h, fun _ => rfl⟩
  · exact ⟨false, rfl, fun z => (by cases z), fun z => absurd z h⟩
theorem strength_loop {ss : List Nat} {rs : List (List Nat)} (B : Tb ss rs) : ∀ (j k : Nat), k + j = ss.length → (∀ t, 1 ≤ t → t ≤ k → AllEv rs ss t) →
    ∃ m k', whL (bAnd (b2 ltI (vR 2) (d1 lenD (vR 1))) (b1 isN (dCall (lCons (vR 0) (lCons (vR 1) (lCons (d2 addD (vR 2) (kD (.int 1))) lNil))) f_uneven_of))) (sSet 2 (d2 addD (vR 2) (kD (.int 1)))) m [.fz (runsD rs), .fz (natsD ss), .fz (.int ((k : Nat) : Int))] = some (.nx [.fz (runsD rs), .fz (natsD ss), .fz (.int ((k' : Nat) : Int))]) ∧ k' ≤ ss.length ∧ ∀ t, 1 ≤ t → t ≤ k' → AllEv rs ss t
  | 0, k, hk, h => by
    refine ⟨1, k, ?_, by omega, h⟩
    have c : ¬ (k : Int) < (ss.length : Int) := by omega
    rw [whL]
    simp only [bAnd_s, vR_s, kD_s, d1_s, d2_s, b1_s, b2_s, bV_s, dCall_s, lCons_s, lNil_s, List.set_cons_zero, List.set_cons_succ, List.getElem?_cons_zero, List.getElem?_cons_succ, Option.bind_some, lenN, ltI_s, decide_eq_false c, Bool.false_eq_true, if_false]
  | j + 1, k, hk, h => by
    have h6 := B.sz.l6
    have c : (k : Int) < (ss.length : Int) := by omega
    obtain ⟨d, d1', d2'⟩ := uneven_of_ok (t := k + 1) B (by omega)
    obtain ⟨b, b1', b2'⟩ := d2'.isN
    have ek : ((k : Nat) : Int) + 1 = ((k + 1 : Nat) : Int) := by omega
    have hc : bAnd (b2 ltI (vR 2) (d1 lenD (vR 1))) (b1 isN (dCall (lCons (vR 0) (lCons (vR 1) (lCons (d2 addD (vR 2) (kD (.int 1))) lNil))) f_uneven_of)) [.fz (runsD rs), .fz (natsD ss), .fz (.int ((k : Nat) : Int))] = some b := by
      simp only [bAnd_s, vR_s, kD_s, d1_s, d2_s, b1_s, b2_s, bV_s, dCall_s, lCons_s, lNil_s, List.set_cons_zero, List.set_cons_succ, List.getElem?_cons_zero, List.getElem?_cons_succ, Option.bind_some, lenN, ltI_s, decide_eq_true c, if_true, addD_i, ek, d1', b1']
    cases b with
    | true =>
      obtain ⟨m, k', w1, w2, w3⟩ := strength_loop B j (k + 1) (by omega) fun t t1 t2 => by
        rcases Nat.lt_or_ge k t with ht | ht
        · rw [show t = k + 1 by omega]
          exact b2'.mp rfl
        · exact h t t1 ht
      refine ⟨m + 1, k', ?_, w2, w3⟩
      rw [whL, hc, Option.bind_some, if_pos rfl]
      have : sSet 2 (d2 addD (vR 2) (kD (.int 1))) [.fz (runsD rs), .fz (natsD ss), .fz (.int ((k : Nat) : Int))] = some (.nx [.fz (runsD rs), .fz (natsD ss), .fz (.int ((k + 1 : Nat) : Int))]) := by
        simp only [sSet_s, vR_s, kD_s, d1_s, d2_s, b1_s, b2_s, bV_s, dCall_s, lCons_s, lNil_s, List.set_cons_zero, List.set_cons_succ, List.getElem?_cons_zero, List.getElem?_cons_succ, Option.bind_some, addD_i, ek]
      rw [this]
      exact w1
    | false =>
      refine ⟨1, k, ?_, by omega, h⟩
      rw [whL, hc, Option.bind_some, if_neg (by decide)]
theorem strength_ok {ss : List Nat} {rs : List (List Nat)} (B : Tb ss rs) : ∃ k : Nat, f_strength [runsD rs, natsD ss] = some (.int (k : Nat)) ∧ k ≤ ss.length ∧ ∀ t, 1 ≤ t → t ≤ k → AllEv rs ss t := by
  have c1 := check_runs_ok B.sz B.row B.pos B.le
  obtain ⟨m, k, w1, w2, w3⟩ := strength_loop B ss.length 0 (by omega) fun t t1 t2 => by omega
  refine ⟨k, ?_, w2, w3⟩
  have c2 : f_strength_of [runsD rs, natsD ss] = some (.int (k : Nat)) := by
    unfold f_strength_of D_strength_of
    rw [runX_s]
    rw [show env0 3 [runsD rs, natsD ss] = [.fz (runsD rs), .fz (natsD ss), .no] from rfl]
    rw [sSeq_nx (ρ' := [.fz (runsD rs), .fz (natsD ss), .fz (.int ((0 : Nat) : Int))]) (by rfl)]
    rw [sSeq_nx (sWh_of w1)]
    rfl
  unfold f_strength D_strength
  simp only [runX_s, env0_s, sSeq_s, sDrop_s, sRet_s, dCall_s, lCons_s, lNil_s, vR_s, List.map_cons, List.map_nil, List.cons_append, List.nil_append, List.getElem?_cons_zero, List.getElem?_cons_succ, Option.bind_some, c1, c2]
theorem uneven_ok {ss : List Nat} {rs : List (List Nat)} {t : Nat} (B : Tb ss rs) (ht : t ≤ ss.length) : ∃ d, f_uneven [runsD rs, natsD ss, .int (t : Nat)] = some d ∧ UnA rs ss t d := by
  have h6 := B.sz.l6
  have c1 := check_runs_ok B.sz B.row B.pos B.le
  obtain ⟨d, c2, hd⟩ := uneven_of_ok (t := t) B (by omega)
  refine ⟨d, ?_, hd⟩
  have a1 : (0 : Int) ≤ (t : Int) := by omega
  have a2 : (t : Int) ≤ (ss.length : Int) := by omega
  unfold f_uneven D_uneven
  rw [runX_s]
  rw [show env0 3 [runsD rs, natsD ss, .int (t : Nat)] = [.fz (runsD rs), .fz (natsD ss), .fz (.int (t : Nat))] from rfl]
  rw [sSeq_nx (ρ' := [.fz (runsD rs), .fz (natsD ss), .fz (.int (t : Nat))]) (by simp only [sDrop_s, vR_s, kD_s, d1_s, d2_s, b1_s, b2_s, bV_s, dCall_s, lCons_s, lNil_s, List.set_cons_zero, List.set_cons_succ, List.getElem?_cons_zero, List.getElem?_cons_succ, Option.bind_some, c1])]
  rw [sSeq_nx (ρ' := [.fz (runsD rs), .fz (natsD ss), .fz (.int (t : Nat))]) (by
    rw [sIf_f (by simp [a1, a2])]
    rfl)]
  simp only [sRet_s, vR_s, kD_s, d1_s, d2_s, b1_s, b2_s, bV_s, dCall_s, lCons_s, lNil_s, List.set_cons_zero, List.set_cons_succ, List.getElem?_cons_zero, List.getElem?_cons_succ, Option.bind_some, c2]
theorem check_factors_ok {ss T : List Nat} (hT : ∀ f ∈ T, f < ss.length) (hA : Asc T) : f_check_factors [natsD ss, natsD T] = some .none := by
  obtain ⟨ρ', g1, g2⟩ := sFor_chk (fi := iEn (vR 1)) (g := gT (gsCons (gN 2) (gsCons (gN 3) gsNil)) 2) (c := (bOr (bNot (bCh leI ltI (kD (.int 0)) (vR 3) (d1 lenD (vR 0)))) (bAnd (b2 gtI (vR 2) (kD (.int 0))) (b2 geI (d2 ixD (vR 1) (d2 subD (vR 2) (kD (.int 1)))) (vR 3)))))
    (ρ := [.fz (natsD ss), .fz (natsD T), .no, .no]) (ds := enumL (T.map fun i => .int ((i : Nat) : Int)))
    (fun ρ => ∃ s2 s3, ρ = [.fz (natsD ss), .fz (natsD T), s2, s3]) rfl ⟨_, _, rfl⟩ (fun d hd ρ ⟨s2, s3, e⟩ => by
      subst e
      obtain ⟨k, x, hx, rfl⟩ : ∃ (k : Nat) (x : D), (T.map fun i => PyData.int ((i : Nat) : Int))[k]? = some x ∧ d = .tuple [.int (k : Int), x] := by
        obtain ⟨i, hi⟩ := List.mem_iff_getElem?.mp hd
        obtain ⟨x, h1, h2⟩ := enumL_get hi
        exact ⟨i, x, h1, h2⟩
      rw [List.getElem?_map, Option.map_eq_some_iff] at hx
      obtain ⟨f, hf, rfl⟩ := hx
      have hfl := hT f (List.mem_of_getElem? hf)
      obtain ⟨hk, hkf⟩ := List.getElem?_eq_some_iff.mp hf
      refine ⟨_, rfl, ?_, _, _, rfl⟩
      have b1' : (0 : Int) ≤ f := by omega
      have b2' : (f : Int) < (ss.length : Int) := by omega
      have c0 : bNot (bCh leI ltI (kD (.int 0)) (vR 3) (d1 lenD (vR 0))) [.fz (natsD ss), .fz (natsD T), .fz (.int (k : Int)), .fz (.int ((f : Nat) : Int))] = some false := by simp [b2']
      have e0 : (([.fz (natsD ss), .fz (natsD T), s2, s3] : Env).set 2 (.fz (.int (k : Int)))).set 3 (.fz (.int ((f : Nat) : Int))) = [.fz (natsD ss), .fz (natsD T), .fz (.int (k : Int)), .fz (.int ((f : Nat) : Int))] := rfl
      simp only [bOr_s, List.set_cons_zero, List.set_cons_succ, c0, Option.bind_some, Bool.false_eq_true, if_false]
      by_cases hk0 : k = 0
      · subst hk0
        simp only [bAnd_s, vR_s, kD_s, d1_s, d2_s, b1_s, b2_s, bV_s, dCall_s, lCons_s, lNil_s, List.set_cons_zero, List.set_cons_succ, List.getElem?_cons_zero, List.getElem?_cons_succ, Option.bind_some, gtI_s]
        rfl
      · have c1 : (0 : Int) < (k : Nat) := by omega
        have hk1 : k - 1 < T.length := by omega
        have c3 : ixD (natsD T) (.int ((k : Int) - 1)) = some (.int ((T.getD (k - 1) 0 : Nat) : Int)) := by
          rw [show (k : Int) - 1 = ((k - 1 : Nat) : Int) by omega]
          exact nats_at hk1
        have c4 : T.getD (k - 1) 0 < f := by
          rw [← hkf, List.getD_eq_getElem?_getD, List.getElem?_eq_getElem hk1]
          exact List.pairwise_iff_getElem.mp hA (k - 1) k hk1 hk (by omega)
        have c5 : ¬ ((f : Nat) : Int) ≤ ((T.getD (k - 1) 0 : Nat) : Int) := by omega
        simp only [bAnd_s, vR_s, kD_s, d1_s, d2_s, b1_s, b2_s, bV_s, dCall_s, lCons_s, lNil_s, List.set_cons_zero, List.set_cons_succ, List.getElem?_cons_zero, List.getElem?_cons_succ, Option.bind_some, gtI_s, decide_eq_true c1, if_true, subD_i, c3, geI_s, ge_iff_le, decide_eq_false c5])
  obtain ⟨s2, s3, rfl⟩ := g2
  unfold f_check_factors D_check_factors
  rw [runX_s]
  rw [show env0 4 [natsD ss, natsD T] = [.fz (natsD ss), .fz (natsD T), .no, .no] from rfl]
  rw [g1]
theorem counts_ok {ss T : List Nat} {rs : List (List Nat)} (B : Tb ss rs) (hT : ∀ f ∈ T, f < ss.length) (hA : Asc T) : ∃ l, f_counts [runsD rs, natsD ss, natsD T] = some (dcT l) ∧ CT rs T l := by
  have hl := B.le
  have h6 := B.sz.l6
  have hTl : T.length ≤ ss.length := by
    have := List.Nodup.length_le_of_subset (l₁ := T) (l₂ := List.range ss.length) hA.nodup fun x hx => List.mem_range.mpr (hT x hx)
    rwa [List.length_range] at this
  have c1 := check_runs_ok B.sz B.row B.pos B.le
  have c2 := check_factors_ok hT hA
  obtain ⟨l, c3, h3⟩ := counts_at_ok (rs := rs) (T := T) (by omega) (fun r hr f hf => by rw [(B.row r hr).len]; exact hT f hf) (by omega)
  refine ⟨l, ?_, h3⟩
  unfold f_counts D_counts
  simp only [runX_s, env0_s, sSeq_s, sDrop_s, sRet_s, dCall_s, lCons_s, lNil_s, vR_s, List.map_cons, List.map_nil, List.cons_append, List.nil_append, List.getElem?_cons_zero, List.getElem?_cons_succ, Option.bind_some, c1, c2, c3]
theorem sights_ok {ss : List Nat} {t : Nat} (h : SzOk ss) (h1 : 1 ≤ t) (h3 : t ≤ 3) (hl : t ≤ ss.length) : f_sights [natsD ss, .int (t : Nat)] = some (sgsD (sgs ss t)) := by
  have c1 := check_sights_ok h h1 h3 hl
  have c2 := sights_of_ok h h3
  rw [← e_csights] at c1
  rw [← e_sights] at c2
  unfold f_sights D_sights
  simp only [runX_s, env0_s, sSeq_s, sDrop_s, sRet_s, dCall_s, lCons_s, lNil_s, vR_s, List.map_cons, List.map_nil, List.cons_append, List.nil_append, List.getElem?_cons_zero, List.getElem?_cons_succ, Option.bind_some, c1, c2]
/-! parted -/
def prts (rs : List (List Nat)) (g : Nat) : List (List D) := [(partR rs g 0).map runD, (partR rs g 1).map runD]
theorem part_snoc (rs : List (List Nat)) (r : List Nat) (g v : Nat) : partR (rs ++ [r]) g v = partR rs g v ++ if r.getD g 0 = v then [r.eraseIdx g] else [] := by
  unfold partR
  rw [List.filter_append, List.map_append]
  congr 1
  by_cases h : r.getD g 0 = v
  · rw [if_pos h, List.filter_cons]
    simp only [decide_eq_true h, if_true]
    rfl
  · rw [if_neg h, List.filter_cons]
    simp only [decide_eq_false h, Bool.false_eq_true, if_false]
    rfl
theorem part_len (rs : List (List Nat)) (g v : Nat) : (partR rs g v).length ≤ rs.length := by
  unfold partR
  rw [List.length_map]
  exact List.length_filter_le _ _
theorem parted_loop {ss : List Nat} {g : Nat} (a b : D) (hg : g < ss.length) (h6 : ss.length ≤ 6) (h2 : ss.getD g 0 = 2) : ∀ (suf done : List (List Nat)) (s4 : Slot), (∀ r ∈ suf, RowOk ss r) → noOw [.fz a, .fz b, .fz (.int (g : Nat)), .no, s4, .no] = true → done.length + suf.length ≤ 1000 →
    nestL 3 (gN 4) (d2 ixD (vR 4) (vR 2)) (d2 addD (dSl (vR 4) oNone (oSome (vR 2))) (dSl (vR 4) (oSome (d2 addD (vR 2) (kD (.int 1)))) oNone)) (suf.map runD) [.fz a, .fz b, .fz (.int (g : Nat)), .no, s4, .no] (prts done g) = some (prts (done ++ suf) g)
  | [], done, s4, _, _, _ => by rw [List.append_nil]; rfl
  | r :: suf, done, s4, hr, h4, hn => by
    rw [List.length_cons] at hn
    have hro := hr r (List.mem_cons_self ..)
    have hlen := hro.len
    have c1 := run_at (r := r) (i := g) (by omega)
    have hv := (rowOk_iff.mp hro).2 g hg
    rw [h2] at hv
    obtain ⟨x, y, c2, c3, c4⟩ := er_run (l := r) (g := g) (by omega) (by omega)
    have ih := parted_loop a b hg h6 h2 suf (done ++ [r]) (.fz (runD r)) (fun q hq => hr q (List.mem_cons_of_mem _ hq)) rfl (by rw [List.length_append, List.length_singleton]; omega)
    rw [← List.append_cons] at ih
    rw [List.map_cons, nestL, gN_s, Option.bind_some]
    have e1 : d2 ixD (vR 4) (vR 2) ([.fz a, .fz b, .fz (.int (g : Nat)), .no, s4, .no].set 4 (.fz (runD r))) = some (.int ((r.getD g 0 : Nat) : Int)) := by
      simp only [vR_s, kD_s, d1_s, d2_s, b1_s, b2_s, bV_s, dCall_s, lCons_s, lNil_s, List.set_cons_zero, List.set_cons_succ, List.getElem?_cons_zero, List.getElem?_cons_succ, Option.bind_some, c1]
    have e2 : d2 addD (dSl (vR 4) oNone (oSome (vR 2))) (dSl (vR 4) (oSome (d2 addD (vR 2) (kD (.int 1)))) oNone) ([.fz a, .fz b, .fz (.int (g : Nat)), .no, s4, .no].set 4 (.fz (runD r))) = some (runD (r.eraseIdx g)) := by
      simp only [dSl_s, oSome_s, oNone_s, vR_s, kD_s, d1_s, d2_s, b1_s, b2_s, bV_s, dCall_s, lCons_s, lNil_s, List.set_cons_zero, List.set_cons_succ, List.getElem?_cons_zero, List.getElem?_cons_succ, Option.bind_some, addD_i, c2, c3, c4]
    have e3 : (isNo ([.fz a, .fz b, .fz (.int (g : Nat)), .no, s4, .no].set 4 (.fz (runD r)))[3]? && noOw ([.fz a, .fz b, .fz (.int (g : Nat)), .no, s4, .no].set 4 (.fz (runD r)))) = true := rfl
    rw [e3, if_pos rfl, e1, Option.bind_some]
    have hx : ixN (prts done g).length ((r.getD g 0 : Nat) : Int) = some (r.getD g 0) := ixN_nat (show r.getD g 0 < (prts done g).length from hv)
    have p0 := part_len done g 0
    have p1 := part_len done g 1
    have q0 := part_snoc done r g 0
    have q1 := part_snoc done r g 1
    simp only [hx, Option.bind_some, e2]
    generalize r.getD g 0 = v at *
    have : v = 0 ∨ v = 1 := by omega
    rcases this with rfl | rfl
    · have z : (prts done g).set 0 ((partR done g 0).map runD ++ [runD (r.eraseIdx g)]) = prts (done ++ [r]) g := by
        unfold prts
        rw [q0, q1, if_pos rfl, if_neg (by decide), List.append_nil, List.map_append]
        rfl
      rw [show (prts done g)[0]? = some ((partR done g 0).map runD) from rfl, Option.bind_some, if_pos (by rw [List.length_map]; omega), z]
      exact ih
    · have z : (prts done g).set 1 ((partR done g 1).map runD ++ [runD (r.eraseIdx g)]) = prts (done ++ [r]) g := by
        unfold prts
        rw [q0, q1, if_pos rfl, if_neg (by decide), List.append_nil, List.map_append]
        rfl
      rw [show (prts done g)[1]? = some ((partR done g 1).map runD) from rfl, Option.bind_some, if_pos (by rw [List.length_map]; omega), z]
      exact ih
theorem parted_ok {ss : List Nat} {rs : List (List Nat)} {g : Nat} (B : Tb ss rs) (hg : g < ss.length) (h2 : ss.getD g 0 = 2) : f_parted [runsD rs, natsD ss, .int (g : Nat)] = some (.list [runsD (partR rs g 0), runsD (partR rs g 1)]) := by
  have hl := B.le
  have c1 := check_runs_ok B.sz B.row B.pos B.le
  have c2 := check_factors_ok (ss := ss) (T := [g]) (fun f hf => by rw [List.mem_singleton.mp hf]; exact hg) (List.pairwise_singleton _ _)
  have c2' : f_check_factors [natsD ss, .list [.int (g : Nat)]] = some .none := c2
  have c3 := nats_at hg
  rw [h2] at c3
  have c4 := rg1_nat (n := 2) (by decide)
  have c5 := parted_loop (runsD rs) (natsD ss) hg B.sz.l6 h2 rs [] .no B.row rfl (by simpa using (by omega : rs.length ≤ 1000))
  rw [List.nil_append] at c5
  unfold f_parted D_parted
  rw [runX_s]
  rw [show env0 6 [runsD rs, natsD ss, .int (g : Nat)] = [.fz (runsD rs), .fz (natsD ss), .fz (.int (g : Nat)), .no, .no, .no] from rfl]
  rw [sSeq_nx (ρ' := [.fz (runsD rs), .fz (natsD ss), .fz (.int (g : Nat)), .no, .no, .no]) (by simp only [sDrop_s, vR_s, kD_s, d1_s, d2_s, b1_s, b2_s, bV_s, dCall_s, lCons_s, lNil_s, List.set_cons_zero, List.set_cons_succ, List.getElem?_cons_zero, List.getElem?_cons_succ, Option.bind_some, c1])]
  rw [sSeq_nx (ρ' := [.fz (runsD rs), .fz (natsD ss), .fz (.int (g : Nat)), .no, .no, .no]) (by
    simp only [sDrop_s, mkL_s, vR_s, kD_s, d1_s, d2_s, b1_s, b2_s, bV_s, dCall_s, lCons_s, lNil_s, List.set_cons_zero, List.set_cons_succ, List.getElem?_cons_zero, List.getElem?_cons_succ, Option.bind_some, List.length_cons, List.length_nil, Nat.zero_add, Nat.reduceLeDiff, if_true, c2'])]
  have i1 : iR1 (d2 ixD (vR 1) (vR 2)) [.fz (runsD rs), .fz (natsD ss), .fz (.int (g : Nat)), .no, .no, .no] = some ((List.range 2).map fun i => PyData.int ((i : Nat) : Int)) := by
    simp only [iR1_s, vR_s, kD_s, d1_s, d2_s, b1_s, b2_s, bV_s, dCall_s, lCons_s, lNil_s, List.set_cons_zero, List.set_cons_succ, List.getElem?_cons_zero, List.getElem?_cons_succ, Option.bind_some, c3, c4]
  have i2 : iSeq (vR 0) [.fz (runsD rs), .fz (natsD ss), .fz (.int (g : Nat)), .no, .no, .no] = some (rs.map runD) := rfl
  have : sNest 3 5 (iR1 (d2 ixD (vR 1) (vR 2))) (iSeq (vR 0)) (gN 4) (d2 ixD (vR 4) (vR 2)) (d2 addD (dSl (vR 4) oNone (oSome (vR 2))) (dSl (vR 4) (oSome (d2 addD (vR 2) (kD (.int 1)))) oNone)) [.fz (runsD rs), .fz (natsD ss), .fz (.int (g : Nat)), .no, .no, .no] = some (.rt (.list [runsD (partR rs g 0), runsD (partR rs g 1)])) := by
    unfold sNest
    rw [i1, i2, Option.bind_some, Option.bind_some, List.length_map, List.length_range, show List.replicate 2 ([] : List D) = prts [] g from rfl, c5]
    rfl
  rw [this]
end Zx.k95
/-! E4: words, their runs, the group, resolution; the drawn tables (k95). -/
namespace Zx.k95
open PySem PySem.Spec L2 PySem.W Zx
theorem mixI {dr : List Int} (hd : Dr 3780 dr) (a m : Int) (h0 : 0 ≤ a) (h1 : a < 1000000) (hm : 0 < m) : ∃ y : Nat, (y : Int) < m ∧ f__law_mix [.list (dr.map .int), .int a, .int m] = some (.int (y : Nat)) := by
  obtain ⟨x, hx, x0, x1⟩ := mix_ok hd (by decide) a m h0 h1 hm
  obtain ⟨n, rfl⟩ := Int.eq_ofNat_of_zero_le x0
  exact ⟨n, x1, hx⟩
theorem chooseN {n : Nat} {Q : Nat → Nat → Prop} (h : ∀ k, k < n → ∃ x : Nat, Q k x) : ∃ P : Nat → Nat, ∀ k, k < n → Q k (P k) :=
  ⟨fun k => if hk : k < n then Classical.choose (h k hk) else 0, fun k hk => by
    dsimp only
    rw [dif_pos hk]
    exact Classical.choose_spec (h k hk)⟩
abbrev wsD (ws : List (List Nat)) : D := .list (ws.map fun l => natsD l)
/-- words as they are let -/
structure WOk (n : Nat) (w : List Nat) : Prop where
  asc : Asc w
  lt : ∀ i ∈ w, i < n
  ne : w ≠ []
theorem asc_len {n : Nat} {w : List Nat} (h : Asc w) (hl : ∀ i ∈ w, i < n) : w.length ≤ n := by
  have := List.Nodup.length_le_of_subset (l₁ := w) (l₂ := List.range n) h.nodup fun x hx => List.mem_range.mpr (hl x hx)
  rwa [List.length_range] at this
theorem words_ok {dr : List Int} (hd : Dr 3780 dr) (k n : Nat) (hk : k < 10000) (hn : n ≤ 6) : ∃ ws, (∀ w ∈ ws, WOk n w) ∧ ws.length ≤ 3 ∧ f__law_words [.list (dr.map .int), .int (k : Nat), .int (n : Nat), .int 3] = some (wsD ws) := by
  obtain ⟨m, hm, hm'⟩ := mixI hd (k : Nat) 4 (by omega) (by omega) (by decide)
  have hM := mixI hd
  have r1 := rg1_nat (n := m) (by omega)
  have r2 := rg1_nat (n := n) (by omega)
  generalize hDR : PyData.list (dr.map .int) = DR at *
  obtain ⟨ρ', g1, g2⟩ := sFor_ok (fi := iR1 (dCall (lCons (vR 0) (lCons (vR 1) (lCons (d2 addD (vR 3) (kD (.int 1))) lNil))) f__law_mix)) (g := gN 5) (fb := (sSeq (sLcSet 6 false (dLc (iR1 (vR 2)) (gN 7) (b2 eqD (dCall (lCons (vR 0) (lCons (d2 addD (d2 addD (d2 addD (vR 1) (kD (.int 1))) (d2 mulI (kD (.int 7)) (vR 5))) (vR 7)) (lCons (kD (.int 2)) lNil))) f__law_mix) (kD (.int 0))) (vR 7) [7]))
   (sIf (b2 neD (vR 6) (mkL lNil)) (sApp 4 (vR 6)) sNx)))
    (ρ := [.fz DR, .fz (.int (k : Nat)), .fz (.int (n : Nat)), .fz (.int 3), .ow (wsD []), .no, .no, .no]) (ds := (List.range m).map fun i => PyData.int ((i : Nat) : Int))
    (fun j ρ => ∃ (ws : List (List Nat)) (s5 s6 : Slot), ρ = [.fz DR, .fz (.int (k : Nat)), .fz (.int (n : Nat)), .fz (.int 3), .ow (wsD ws), s5, s6, .no] ∧ ws.length ≤ j ∧ ∀ w ∈ ws, WOk n w)
    (by simp only [iR1_s, vR_s, kD_s, d1_s, d2_s, b1_s, b2_s, bV_s, dCall_s, lCons_s, lNil_s, List.set_cons_zero, List.set_cons_succ, List.getElem?_cons_zero, List.getElem?_cons_succ, Option.bind_some, addD_i]; rw [show (3 : Int) + 1 = 4 from rfl, hm', Option.bind_some, r1]) ⟨[], .no, .no, rfl, Nat.le_refl _, fun w hw => (by cases hw)⟩ (fun j d ρ hd' ⟨ws, s5, s6, hρ, h1, h2⟩ => by
      subst hρ
      rw [List.getElem?_map, Option.map_eq_some_iff] at hd'
      obtain ⟨i, hi, rfl⟩ := hd'
      have hi2 := List.mem_range.mp (List.mem_of_getElem? hi)
      have hjm : j < m := by
        have := (List.getElem?_eq_some_iff.mp hi).1
        rwa [List.length_range] at this
      obtain ⟨Y, hY⟩ := chooseN (n := n) (Q := fun v y => f__law_mix [DR, .int ((k : Int) + 1 + 7 * (i : Int) + (v : Int)), .int 2] = some (.int (y : Nat))) fun v hv => by
        obtain ⟨y, _, hy⟩ := hM ((k : Int) + 1 + 7 * (i : Int) + (v : Int)) 2 (by omega) (by omega) (by decide)
        exact ⟨y, hy⟩
      have mk : mulOk (7 : Int) (i : Int) = true := mulOk64 (by decide) (by omega)
      have e : dLc (iR1 (vR 2)) (gN 7) (b2 eqD (dCall (lCons (vR 0) (lCons (d2 addD (d2 addD (d2 addD (vR 1) (kD (.int 1))) (d2 mulI (kD (.int 7)) (vR 5))) (vR 7)) (lCons (kD (.int 2)) lNil))) f__law_mix) (kD (.int 0))) (vR 7) [7] [.fz DR, .fz (.int (k : Nat)), .fz (.int (n : Nat)), .fz (.int 3), .ow (wsD ws), .fz (.int (i : Nat)), s6, .no] = some (natsD ((List.range n).filter fun v => decide (Y v = 0))) := by
        have := lcL_enc (fun i => PyData.int ((i : Nat) : Int)) (fun i => PyData.int ((i : Nat) : Int)) (fun v => decide (Y v = 0)) (fun v => v) (List.range n) (g := gN 7) (ft := b2 eqD (dCall (lCons (vR 0) (lCons (d2 addD (d2 addD (d2 addD (vR 1) (kD (.int 1))) (d2 mulI (kD (.int 7)) (vR 5))) (vR 7)) (lCons (kD (.int 2)) lNil))) f__law_mix) (kD (.int 0))) (fe := vR 7) (ρ := wipeE [.fz DR, .fz (.int (k : Nat)), .fz (.int (n : Nat)), .fz (.int 3), .ow (wsD ws), .fz (.int (i : Nat)), s6, .no] [7]) fun v hv => by
          have hy := hY v (List.mem_range.mp hv)
          refine ⟨_, rfl, ?_, fun _ => rfl⟩
          simp only [wipeE, vR_s, kD_s, d1_s, d2_s, b1_s, b2_s, bV_s, dCall_s, lCons_s, lNil_s, List.set_cons_zero, List.set_cons_succ, List.getElem?_cons_zero, List.getElem?_cons_succ, Option.bind_some, addD_i, mulI_i, mk, if_true, hy, eqD_i]
          congr 1
          rw [Bool.eq_iff_iff, decide_eq_true_eq, decide_eq_true_eq]
          omega
        rw [List.map_id'] at this
        refine dLc_of (by simp only [iR1_s, vR_s, kD_s, d1_s, d2_s, b1_s, b2_s, bV_s, dCall_s, lCons_s, lNil_s, List.set_cons_zero, List.set_cons_succ, List.getElem?_cons_zero, List.getElem?_cons_succ, Option.bind_some, r2]) this ?_
        have := List.length_filter_le (fun v => decide (Y v = 0)) (List.range n)
        rw [List.length_map]
        rw [List.length_range] at this
        omega
      generalize hw : ((List.range n).filter fun v => decide (Y v = 0)) = w at e
      have wa : Asc w := by
        rw [← hw]
        exact List.Pairwise.filter _ List.pairwise_lt_range
      have wl : ∀ i ∈ w, i < n := fun i hi => by
        rw [← hw, List.mem_filter] at hi
        exact List.mem_range.mp hi.1
      have qe := enc_nats.ne (by decide) w []
      have qe' : neD (natsD w) (.list []) = some (decide (w ≠ [])) := qe
      have st1 : sLcSet 6 false (dLc (iR1 (vR 2)) (gN 7) (b2 eqD (dCall (lCons (vR 0) (lCons (d2 addD (d2 addD (d2 addD (vR 1) (kD (.int 1))) (d2 mulI (kD (.int 7)) (vR 5))) (vR 7)) (lCons (kD (.int 2)) lNil))) f__law_mix) (kD (.int 0))) (vR 7) [7]) [.fz DR, .fz (.int (k : Nat)), .fz (.int (n : Nat)), .fz (.int 3), .ow (wsD ws), .fz (.int (i : Nat)), s6, .no] = some (.nx [.fz DR, .fz (.int (k : Nat)), .fz (.int (n : Nat)), .fz (.int 3), .ow (wsD ws), .fz (.int (i : Nat)), .fz (natsD w), .no]) := by
        rw [sLcSet_s, e]
        rfl
      by_cases hz : w = []
      · refine ⟨[.fz DR, .fz (.int (k : Nat)), .fz (.int (n : Nat)), .fz (.int 3), .ow (wsD ws), .fz (.int (i : Nat)), s6, .no], _, rfl, (by
          rw [sSeq_nx st1, sIf_f (by
            rw [hz] at qe' ⊢
            simp only [mkL_s, vR_s, kD_s, d1_s, d2_s, b1_s, b2_s, bV_s, dCall_s, lCons_s, lNil_s, List.set_cons_zero, List.set_cons_succ, List.getElem?_cons_zero, List.getElem?_cons_succ, Option.bind_some, List.length_nil, Nat.zero_le, if_true, qe', ne_eq, not_true_eq_false, decide_false])]
          rfl), _, .inl rfl, ws, _, _, rfl, by omega, h2⟩
      · have hb : (ws.map fun l => natsD l).length < 1000000 := by rw [List.length_map]; omega
        refine ⟨[.fz DR, .fz (.int (k : Nat)), .fz (.int (n : Nat)), .fz (.int 3), .ow (wsD ws), .fz (.int (i : Nat)), s6, .no], .nx [.fz DR, .fz (.int (k : Nat)), .fz (.int (n : Nat)), .fz (.int 3), .ow (wsD (ws ++ [w])), .fz (.int (i : Nat)), .fz (natsD w), .no], rfl, (by
          rw [sSeq_nx st1, sIf_t (by simp only [mkL_s, vR_s, kD_s, d1_s, d2_s, b1_s, b2_s, bV_s, dCall_s, lCons_s, lNil_s, List.set_cons_zero, List.set_cons_succ, List.getElem?_cons_zero, List.getElem?_cons_succ, Option.bind_some, List.length_nil, Nat.zero_le, if_true, qe', hz, ne_eq, not_false_eq_true, decide_true])]
          simp only [sApp_s, owL_s, vR_s, kD_s, d1_s, d2_s, b1_s, b2_s, bV_s, dCall_s, lCons_s, lNil_s, List.set_cons_zero, List.set_cons_succ, List.getElem?_cons_zero, List.getElem?_cons_succ, Option.bind_some, hb, if_true, wsD, List.map_append, List.map_cons, List.map_nil]), _, .inl rfl, ws ++ [w], _, _, rfl, by rw [List.length_append, List.length_singleton]; omega, fun u hu => by
          rcases List.mem_append.mp hu with hu | hu
          · exact h2 u hu
          · rw [List.mem_singleton.mp hu]
            exact ⟨wa, wl, hz⟩⟩)
  rw [List.length_map, List.length_range] at g2
  obtain ⟨ws, s5, s6, rfl, h1, h2⟩ := g2
  refine ⟨ws, h2, by omega, ?_⟩
  unfold f__law_words D__law_words
  rw [runX_s]
  rw [show env0 8 [DR, .int (k : Nat), .int (n : Nat), .int 3] = [.fz DR, .fz (.int (k : Nat)), .fz (.int (n : Nat)), .fz (.int 3), .no, .no, .no, .no] from rfl]
  rw [sSeq_nx (ρ' := [.fz DR, .fz (.int (k : Nat)), .fz (.int (n : Nat)), .fz (.int 3), .ow (wsD []), .no, .no, .no]) (by rfl)]
  rw [sSeq_nx g1]
  simp
/-! check_words -/
theorem asc_zip {T : List Nat} (h : Asc T) : ∀ p ∈ T.zip (T.drop 1), p.1 < p.2 := fun p hp => by
  obtain ⟨i, hi, rfl⟩ := List.mem_iff_getElem.mp hp
  rw [List.getElem_zip]
  rw [List.length_zip, List.length_drop] at hi
  rw [List.getElem_drop]
  exact List.pairwise_iff_getElem.mp h i (1 + i) (by omega) (by omega) (by omega)
theorem all_true {α : Type} (xs : List α) : allD (.list (xs.map fun _ => .bool true)) = some (.bool true) := by
  have : (xs.map fun _ => PyData.bool true) = (xs.map fun _ => true).map .bool := by rw [List.map_map]; rfl
  rw [this]
  simp only [allD, bools_map, Option.bind_some]
  congr 2
  simp
theorem is_word_ok {n : Nat} {w : List Nat} (hn : n ≤ 7) (h : WOk n w) : f_is_word [.int (n : Nat), natsD w] = some (.bool true) := by
  have hl := asc_len h.asc h.lt
  have e1 : dLc (iSeq (vR 1)) (gN 2) bYes (bV (bCh leI ltI (kD (.int 0)) (vR 2) (vR 0))) [2] [.fz (.int (n : Nat)), .fz (natsD w), .no, .no] = some (.list (w.map fun _ => .bool true)) := by
    refine dLc_map (fun i => .int ((i : Nat) : Int)) (fun _ => .bool true) w rfl (fun i hi => ⟨_, rfl, ?_⟩) (by omega)
    have := h.lt i hi
    have b2' : (i : Int) < (n : Int) := by omega
    simp [wipeE, b2']
  have e2 : dLc (iZpX (vR 1) (dSl (vR 1) (oSome (kD (.int 1))) oNone)) (gT (gsCons (gN 2) (gsCons (gN 3) gsNil)) 2) bYes (bV (b2 ltI (vR 2) (vR 3))) [2, 3] [.fz (.int (n : Nat)), .fz (natsD w), .no, .no] = some (.list ((w.zip (w.drop 1)).map fun _ => .bool true)) := by
    have hne := List.length_pos_iff.mpr h.ne
    have hc : cutD (some 1) none (natsD w) = some (natsD (w.drop 1)) := by
      have := cutD_drop (w.map fun i => PyData.int ((i : Nat) : Int)) 1 (by rw [List.length_map]; omega)
      rw [← List.map_drop] at this
      exact this
    refine dLc_map (fun p : Nat × Nat => PyData.tuple [.int ((p.1 : Nat) : Int), .int ((p.2 : Nat) : Int)]) (fun _ => .bool true) (w.zip (w.drop 1)) (by
      simp only [iZpX_s, dSl_s, oSome_s, oNone_s, vR_s, kD_s, d1_s, d2_s, b1_s, b2_s, bV_s, dCall_s, lCons_s, lNil_s, List.set_cons_zero, List.set_cons_succ, List.getElem?_cons_zero, List.getElem?_cons_succ, Option.bind_some, hc]
      rw [zipL_map]) (fun p hp => ⟨_, rfl, ?_⟩) (by simp; omega)
    have a := asc_zip h.asc p hp
    have b : ((p.1 : Nat) : Int) < (p.2 : Nat) := by omega
    simp [wipeE, b]
  unfold f_is_word D_is_word
  rw [runX_s]
  rw [show env0 4 [.int (n : Nat), natsD w] = [.fz (.int (n : Nat)), .fz (natsD w), .no, .no] from rfl]
  simp only [sRet_s, dAnd_s, d1_s, e1, e2, Option.bind_some, all_true]
theorem check_words_ok {n : Nat} {ws : List (List Nat)} (h1 : 1 ≤ n) (hn : n ≤ 6) (hw : ∀ w ∈ ws, WOk n w) (hl : ws.length ≤ 6) : f_check_words [.int (n : Nat), wsD ws] = some .none := by
  have c0 : f_check_number_groups [.int (n : Nat)] = some .none := by
    unfold f_check_number_groups D_check_number_groups
    have b1 : (1 : Int) ≤ n := by omega
    have b2 : (n : Int) ≤ 7 := by omega
    simp [b1, b2]
  obtain ⟨ρ', g1, g2⟩ := sFor_chk (fi := iEn (vR 1)) (g := gT (gsCons (gN 2) (gsCons (gN 3) gsNil)) 2) (c := (bOr (b2 eqD (d1 lenD (vR 3)) (kD (.int 0))) (bNot (b1 truD (dCall (lCons (vR 0) (lCons (vR 3) lNil)) f_is_word)))))
    (ρ := [.fz (.int (n : Nat)), .fz (wsD ws), .no, .no]) (ds := enumL (ws.map fun l => natsD l))
    (fun ρ => ∃ s2 s3, ρ = [.fz (.int (n : Nat)), .fz (wsD ws), s2, s3]) rfl ⟨_, _, rfl⟩ (fun d hd ρ ⟨s2, s3, e⟩ => by
      subst e
      obtain ⟨k, x, hx, rfl⟩ := enum_mem hd
      obtain ⟨w, hwm, rfl⟩ := List.mem_map.mp hx
      have c1 := is_word_ok (by omega : n ≤ 7) (hw w hwm)
      have hne := List.length_pos_iff.mpr (hw w hwm).ne
      have hz : ¬ (w.length : Int) = 0 := by omega
      refine ⟨_, rfl, ?_, _, _, rfl⟩
      simp only [bOr_s, bNot_s, vR_s, kD_s, d1_s, d2_s, b1_s, b2_s, bV_s, dCall_s, lCons_s, lNil_s, List.set_cons_zero, List.set_cons_succ, List.getElem?_cons_zero, List.getElem?_cons_succ, Option.bind_some, lenN, eqD_i, decide_eq_false hz, Bool.false_eq_true, if_false, c1, truD_b, Bool.not_true])
  obtain ⟨s2, s3, rfl⟩ := g2
  unfold f_check_words D_check_words
  rw [runX_s]
  rw [show env0 4 [.int (n : Nat), wsD ws] = [.fz (.int (n : Nat)), .fz (wsD ws), .no, .no] from rfl]
  rw [sSeq_nx (ρ' := [.fz (.int (n : Nat)), .fz (wsD ws), .no, .no]) (by simp only [sDrop_s, vR_s, kD_s, d1_s, d2_s, b1_s, b2_s, bV_s, dCall_s, lCons_s, lNil_s, List.set_cons_zero, List.set_cons_succ, List.getElem?_cons_zero, List.getElem?_cons_succ, Option.bind_some, c0])]
  rw [sSeq_nx (ρ' := [.fz (.int (n : Nat)), .fz (wsD ws), .no, .no]) (by
    rw [sIf_f (by
      have b1 : ¬ (6 : Int) < ws.length := by omega
      simp only [vR_s, kD_s, d1_s, d2_s, b1_s, b2_s, bV_s, dCall_s, lCons_s, lNil_s, List.set_cons_zero, List.set_cons_succ, List.getElem?_cons_zero, List.getElem?_cons_succ, Option.bind_some, lenD_l, List.length_map, gtI_s, decide_eq_false b1])]
    rfl), g1]
/-! runs_of -/
theorem all_rows_loop (x : Slot) : ∀ (ds : List D) (acc : List (List Nat)) (s2 : Slot), (∀ r ∈ acc, r.length + ds.length ≤ 1000) → acc.length * 2 ^ ds.length ≤ 100000 → ∃ s2', forL (gN 2) (sLcSet 1 false (dLc2 (iSeq (vR 1)) (gN 3) bYes (iSeq (mkT (lCons (kD (.int 0)) (lCons (kD (.int 1)) lNil)))) (gN 4) bYes (mkT (lStar (vR 3) (lCons (vR 4) lNil))) [3, 4] [4])) ds [x, .fz (runsD acc), s2, .no, .no] = some (.nx [x, .fz (runsD (rowsF acc (List.replicate ds.length 2))), s2', .no, .no])
  | [], acc, s2, _, _ => ⟨s2, by simp [forL, rowsF]⟩
  | d :: ds, acc, s2, hl, h2 => by
    rw [List.length_cons, Nat.pow_succ, Nat.mul_comm (2 ^ _) 2, ← Nat.mul_assoc] at h2
    have b1 : acc.length * 2 ≤ 100000 := Nat.le_trans (Nat.le_mul_of_pos_right _ (Nat.pow_pos (by decide))) h2
    obtain ⟨s2', ih⟩ := all_rows_loop x ds (acc.flatMap fun r => (List.range 2).map fun x => r ++ [x]) (.fz d) (fun r hr => by
      obtain ⟨q, hq, hr⟩ := List.mem_flatMap.mp hr
      obtain ⟨y, _, rfl⟩ := List.mem_map.mp hr
      have := hl q hq
      rw [List.length_cons] at this
      rw [List.length_append, List.length_singleton]
      omega) (by rw [step_len]; exact h2)
    refine ⟨s2', ?_⟩
    have e : dLc2 (iSeq (vR 1)) (gN 3) bYes (iSeq (mkT (lCons (kD (.int 0)) (lCons (kD (.int 1)) lNil)))) (gN 4) bYes (mkT (lStar (vR 3) (lCons (vR 4) lNil))) [3, 4] [4] [x, .fz (runsD acc), .fz d, .no, .no] = some (runsD (acc.flatMap fun r => (List.range 2).map fun x => r ++ [x])) := by
      unfold dLc2
      have hi : iSeq (vR 1) [x, .fz (runsD acc), .fz d, .no, .no] = some (acc.map runD) := rfl
      rw [hi, Option.bind_some]
      rw [lc2L_map runD (fun r => (List.range 2).map fun x => r ++ [x]) runD acc fun r hr => ?_]
      · rw [Option.bind_some, List.length_map, step_len, if_pos (by omega)]
      · refine ⟨[x, .fz (runsD acc), .fz d, .fz (runD r), .no], (List.range 2).map fun i => PyData.int ((i : Nat) : Int), rfl, rfl, ?_⟩
        have hrl := hl r hr
        rw [List.length_cons] at hrl
        rw [lcL_map (fun i => .int ((i : Nat) : Int)) (fun i => runD (r ++ [i])) (List.range 2) fun i hi => ?_]
        · rw [List.map_map]
          rfl
        · refine ⟨_, rfl, ?_⟩
          have hb : (r.map fun i => PyData.int ((i : Nat) : Int)).length + 1 ≤ 1000000 := by rw [List.length_map]; omega
          simp only [wipeE, mkT_s, lStar_s, lCons_s, lNil_s, vR_s, List.set_cons_zero, List.set_cons_succ, List.getElem?_cons_zero, List.getElem?_cons_succ, Option.bind_some, seqOf_t, List.length_append, List.length_cons, List.length_nil, hb, if_true, List.map_append, List.map_cons, List.map_nil, Nat.zero_add, runD]
    rw [forL]
    simp only [gN_s, sLcSet_s, setNew, e, List.set_cons_zero, List.set_cons_succ, Option.bind_some, Bool.false_eq_true, if_false]
    exact ih
theorem all_rows_ok {n : Nat} (hn : n ≤ 6) : f_all_rows [.int (n : Nat)] = some (runsD (rows (List.replicate n 2))) := by
  have r1 := rg1_nat (n := n) (by omega)
  have h2 : 2 ^ n ≤ 2 ^ 6 := Nat.pow_le_pow_right (by decide) hn
  obtain ⟨s2', h⟩ := all_rows_loop (.fz (.int (n : Nat))) ((List.range n).map fun i => PyData.int ((i : Nat) : Int)) [[]] .no (by simp; omega) (by simp; omega)
  rw [List.length_map, List.length_range, rowsF_nil] at h
  unfold f_all_rows D_all_rows
  rw [runX_s]
  rw [show env0 5 [.int (n : Nat)] = [.fz (.int (n : Nat)), .no, .no, .no, .no] from rfl]
  rw [sSeq_nx (ρ' := [.fz (.int (n : Nat)), .fz (runsD [[]]), .no, .no, .no]) (by simp)]
  rw [sSeq_nx (sFor_of (by simp only [iR1_s, vR_s, kD_s, d1_s, d2_s, b1_s, b2_s, bV_s, dCall_s, lCons_s, lNil_s, List.set_cons_zero, List.set_cons_succ, List.getElem?_cons_zero, List.getElem?_cons_succ, Option.bind_some, r1]) h)]
  simp
theorem is_even_ok {w r : List Nat} (h : ∀ i ∈ w, i < r.length) (hb : ∀ i, r.getD i 0 < 2) (hl : w.length ≤ 1000) : f_is_even [natsD w, runD r] = some (.bool (evn w r)) := by
  have e : dLc (iSeq (vR 0)) (gN 2) bYes (d2 ixD (vR 1) (vR 2)) [2] [.fz (natsD w), .fz (runD r), .no] = some (.list ((w.map fun i => ((r.getD i 0 : Nat) : Int)).map .int)) := by
    rw [List.map_map]
    refine dLc_map (fun i => .int ((i : Nat) : Int)) (fun i => .int ((r.getD i 0 : Nat) : Int)) w rfl (fun i hi => ⟨_, rfl, ?_⟩) (by omega)
    have := run_at (h i hi)
    simp only [wipeE, vR_s, kD_s, d1_s, d2_s, b1_s, b2_s, bV_s, dCall_s, lCons_s, lNil_s, List.set_cons_zero, List.set_cons_succ, List.getElem?_cons_zero, List.getElem?_cons_succ, Option.bind_some, this]
  have es : ∀ l : List Nat, (l.map fun i => ((r.getD i 0 : Nat) : Int)).sum = (((l.map fun i => r.getD i 0).sum : Nat) : Int) := fun l => by
    induction l with
    | nil => rfl
    | cons i l ih =>
      rw [List.map_cons, List.sum_cons, ih, List.map_cons, List.sum_cons]
      omega
  unfold f_is_even D_is_even
  rw [runX_s]
  rw [show env0 3 [natsD w, runD r] = [.fz (natsD w), .fz (runD r), .no] from rfl]
  have hs : sumD (.list ((w.map fun i => ((r.getD i 0 : Nat) : Int)).map .int)) = some (.int (((w.map fun i => r.getD i 0).sum : Nat) : Int)) := by
    simp only [sumD, intsOf_map, Option.bind_some]
    rw [es]
  simp only [sRet_s, vR_s, kD_s, d1_s, d2_s, b1_s, b2_s, bV_s, dCall_s, lCons_s, lNil_s, List.set_cons_zero, List.set_cons_succ, List.getElem?_cons_zero, List.getElem?_cons_succ, Option.bind_some, e, hs]
  have hm : modD (.int (((w.map fun i => r.getD i 0).sum : Nat) : Int)) (.int 2) = some (.int ((((w.map fun i => r.getD i 0).sum % 2 : Nat) : Nat) : Int)) := rfl
  rw [hm, Option.bind_some, eqD_i]
  unfold evn
  have e9 : decide ((((w.map fun i => r.getD i 0).sum % 2 : Nat) : Int) = 0) = decide ((w.map fun i => r.getD i 0).sum % 2 = 0) := by
    rw [Bool.eq_iff_iff, decide_eq_true_eq, decide_eq_true_eq]
    omega
  rw [e9]
  rfl
theorem runs_of_ok {n : Nat} {ws : List (List Nat)} (h1 : 1 ≤ n) (hn : n ≤ 6) (hw : ∀ w ∈ ws, WOk n w) (hl : ws.length ≤ 6) : f_runs_of [.int (n : Nat), wsD ws] = some (runsD (linR n ws)) := by
  have c1 := check_words_ok h1 hn hw hl
  have c2 := all_rows_ok hn
  have h2 : 2 ^ n ≤ 2 ^ 6 := Nat.pow_le_pow_right (by decide) hn
  have hrl : (rows (List.replicate n 2)).length = 2 ^ n := by rw [rows_len]; simp
  have e : dLc (iSeq (dCall (lCons (vR 0) lNil) f_all_rows)) (gN 2) (b1 truD (d1 allD (dLc (iSeq (vR 1)) (gN 3) bYes (dCall (lCons (vR 3) (lCons (vR 2) lNil)) f_is_even) [3]))) (vR 2) [2] [.fz (.int (n : Nat)), .fz (wsD ws), .no, .no] = some (runsD (linR n ws)) := by
    have := lcL_enc runD runD (fun r => ws.all fun w => evn w r) (fun r => r) (rows (List.replicate n 2)) (g := gN 2) (ft := b1 truD (d1 allD (dLc (iSeq (vR 1)) (gN 3) bYes (dCall (lCons (vR 3) (lCons (vR 2) lNil)) f_is_even) [3]))) (fe := vR 2) (ρ := wipeE [.fz (.int (n : Nat)), .fz (wsD ws), .no, .no] [2]) fun r hr => by
      have hro := mem_rows.mp hr
      have hlen : r.length = n := by rw [hro.len, List.length_replicate]
      refine ⟨_, rfl, ?_, fun _ => rfl⟩
      have e3 : dLc (iSeq (vR 1)) (gN 3) bYes (dCall (lCons (vR 3) (lCons (vR 2) lNil)) f_is_even) [3] [.fz (.int (n : Nat)), .fz (wsD ws), .fz (runD r), .no] = some (.list ((ws.map fun w => evn w r).map .bool)) := by
        rw [List.map_map]
        refine dLc_map (fun l => natsD l) (fun w => .bool (evn w r)) ws rfl (fun w hwm => ⟨_, rfl, ?_⟩) (by omega)
        have hwo := hw w hwm
        have := is_even_ok (w := w) (r := r) (fun i hi => by rw [hlen]; exact hwo.lt i hi) (fun i => by
          by_cases hi : i < n
          · have := (rowOk_iff.mp hro).2 i (by rw [List.length_replicate]; exact hi)
            rwa [rep_getD hi] at this
          · rw [List.getD_eq_getElem?_getD, List.getElem?_eq_none (by omega)]
            decide) (by have := asc_len hwo.asc hwo.lt; omega)
        simp only [wipeE, vR_s, kD_s, d1_s, d2_s, b1_s, b2_s, bV_s, dCall_s, lCons_s, lNil_s, List.set_cons_zero, List.set_cons_succ, List.getElem?_cons_zero, List.getElem?_cons_succ, Option.bind_some, this]
      show b1 truD (d1 allD (dLc (iSeq (vR 1)) (gN 3) bYes (dCall (lCons (vR 3) (lCons (vR 2) lNil)) f_is_even) [3])) [.fz (.int (n : Nat)), .fz (wsD ws), .fz (runD r), .no] = _
      simp only [b1_s, d1_s, e3, Option.bind_some, allD, bools_map, truD_b, List.all_map]
      rfl
    rw [List.map_id'] at this
    refine dLc_of (by simp only [iSeq_s, vR_s, kD_s, d1_s, d2_s, b1_s, b2_s, bV_s, dCall_s, lCons_s, lNil_s, List.set_cons_zero, List.set_cons_succ, List.getElem?_cons_zero, List.getElem?_cons_succ, Option.bind_some, c2, seqOf_l]) this ?_
    rw [List.length_map]
    have : (linR n ws).length ≤ (rows (List.replicate n 2)).length := List.length_filter_le _ _
    have z : ((rows (List.replicate n 2)).filter fun r => ws.all fun w => evn w r).length = (linR n ws).length := rfl
    omega
  have c3 : f_runs_by [.int (n : Nat), wsD ws] = some (runsD (linR n ws)) := by
    unfold f_runs_by D_runs_by
    rw [runX_s]
    rw [show env0 4 [.int (n : Nat), wsD ws] = [.fz (.int (n : Nat)), .fz (wsD ws), .no, .no] from rfl]
    rw [sRet_s, e]
    rfl
  unfold f_runs_of D_runs_of
  simp only [runX_s, env0_s, sSeq_s, sDrop_s, sRet_s, dCall_s, lCons_s, lNil_s, vR_s, List.map_cons, List.map_nil, List.cons_append, List.nil_append, List.getElem?_cons_zero, List.getElem?_cons_succ, Option.bind_some, c1, c3]
/-! group, resolution -/
theorem product_ok {a b : List Nat} (ha : a.length ≤ 1000) (hb : b.length ≤ 1000) : f_product [natsD a, natsD b] = some (natsD (xr a b)) := by
  have ni : ∀ (x : Nat) (l : List Nat), ninD (.int (x : Nat)) (natsD l) = some (decide (x ∉ l)) := fun x l => by
    have h1 : inD (.int ((x : Nat) : Int)) (natsD l) = some (decide (x ∈ l)) := (in_list enc_nat (by decide) x l).trans (congrArg some (decide_eq_decide.mpr Iff.rfl))
    unfold ninD
    rw [h1, Option.map_some, decide_not]
  have e1 : dLc (iSeq (vR 0)) (gN 2) (b2 ninD (vR 2) (vR 1)) (vR 2) [2] [.fz (natsD a), .fz (natsD b), .no] = some (natsD (a.filter fun x => decide (x ∉ b))) := by
    have := lcL_enc (fun i => PyData.int ((i : Nat) : Int)) (fun i => PyData.int ((i : Nat) : Int)) (fun x => decide (x ∉ b)) (fun x => x) a (g := gN 2) (ft := b2 ninD (vR 2) (vR 1)) (fe := vR 2) (ρ := wipeE [.fz (natsD a), .fz (natsD b), .no] [2]) fun x hx => by
      refine ⟨_, rfl, ?_, fun _ => rfl⟩
      simp only [wipeE, vR_s, kD_s, d1_s, d2_s, b1_s, b2_s, bV_s, dCall_s, lCons_s, lNil_s, List.set_cons_zero, List.set_cons_succ, List.getElem?_cons_zero, List.getElem?_cons_succ, Option.bind_some, ni]
    rw [List.map_id'] at this
    refine dLc_of rfl this ?_
    rw [List.length_map]
    have := List.length_filter_le (fun x => decide (x ∉ b)) a
    omega
  have e2 : dLc (iSeq (vR 1)) (gN 2) (b2 ninD (vR 2) (vR 0)) (vR 2) [2] [.fz (natsD a), .fz (natsD b), .no] = some (natsD (b.filter fun x => decide (x ∉ a))) := by
    have := lcL_enc (fun i => PyData.int ((i : Nat) : Int)) (fun i => PyData.int ((i : Nat) : Int)) (fun x => decide (x ∉ a)) (fun x => x) b (g := gN 2) (ft := b2 ninD (vR 2) (vR 0)) (fe := vR 2) (ρ := wipeE [.fz (natsD a), .fz (natsD b), .no] [2]) fun x hx => by
      refine ⟨_, rfl, ?_, fun _ => rfl⟩
      simp only [wipeE, vR_s, kD_s, d1_s, d2_s, b1_s, b2_s, bV_s, dCall_s, lCons_s, lNil_s, List.set_cons_zero, List.set_cons_succ, List.getElem?_cons_zero, List.getElem?_cons_succ, Option.bind_some, ni]
    rw [List.map_id'] at this
    refine dLc_of rfl this ?_
    rw [List.length_map]
    have := List.length_filter_le (fun x => decide (x ∉ a)) b
    omega
  have l1 := List.length_filter_le (fun x => decide (x ∉ b)) a
  have l2 := List.length_filter_le (fun x => decide (x ∉ a)) b
  have hs : sortD (natsD (a.filter (fun x => decide (x ∉ b)) ++ b.filter fun x => decide (x ∉ a))) = some (natsD (xr a b)) :=
    sort_data (a.filter (fun x => decide (x ∉ b)) ++ b.filter fun x => decide (x ∉ a)) (by show (0 : Nat) ≤ 64; decide) (by rw [List.length_append]; omega) (.inr fun x _ => rfl)
  have ha' : addD (natsD (a.filter fun x => decide (x ∉ b))) (natsD (b.filter fun x => decide (x ∉ a))) = some (natsD (a.filter (fun x => decide (x ∉ b)) ++ b.filter fun x => decide (x ∉ a))) := by
    unfold natsD
    rw [addD_l, List.length_map, List.length_map, if_pos (by omega), List.map_append]
  unfold f_product D_product
  rw [runX_s]
  rw [show env0 3 [natsD a, natsD b] = [.fz (natsD a), .fz (natsD b), .no] from rfl]
  simp only [sRet_s, d1_s, d2_s, e1, e2, Option.bind_some, ha', hs]
def kW (w : List Nat) : Nat × List Nat := (w.length, w)
def leW (a b : List Nat) : Bool := leB (kW a) (kW b)
theorem leW_len {a b : List Nat} (h : leW a b = true) : a.length ≤ b.length := by
  unfold leW leB kW at h
  have e : DatumOrd.lt (b.length, b) (a.length, a) = if b.length = a.length then DatumOrd.lt b a else decide (b.length < a.length) := rfl
  rw [e] at h
  split at h
  · omega
  · rw [Bool.not_eq_true', decide_eq_false_iff_not] at h
    omega
theorem srt_of_sort {xs : List D} {d : D} (h : sortD (.list xs) = some d) : srtOk xs = true := by
  have e : sortD (.list xs) = if srtOk xs then some (.list (xs.mergeSort leS)) else none := rfl
  rw [e] at h
  split at h
  · assumption
  · cases h
theorem sortKW_ok {ws : List (List Nat)} (hl : ws.length ≤ 1000000) : sortKD (wsD ws) = some (wsD (ws.mergeSort leW)) := by
  have hk : ∀ w : List Nat, kOf (natsD w) = Datum.toD (kW w) := fun w => by
    show PyData.tuple [.int ((w.map fun i => PyData.int ((i : Nat) : Int)).length : Nat), natsD w] = _
    rw [List.length_map]
    rfl
  have hs := srt_of_sort (sort_data (ws.map kW) (by show (max 0 (0 + 1) + 1 : Nat) ≤ 64; decide) (by rw [List.length_map]; exact hl) (.inl fun x hx => rfl))
  have ok : srtKOk (ws.map fun l => natsD l) = true := by
    unfold srtKOk
    rw [Bool.and_eq_true]
    refine ⟨List.all_eq_true.mpr fun x hx => ?_, ?_⟩
    · obtain ⟨P, _, rfl⟩ := List.mem_map.mp hx
      rfl
    · rw [List.map_map] at hs ⊢
      rw [show (kOf ∘ fun l => natsD l) = Datum.toD ∘ kW from funext hk]
      exact hs
  have e : sortKD (wsD ws) = if srtKOk (ws.map fun l => natsD l) then some (.list ((ws.map fun l => natsD l).mergeSort leK)) else none := rfl
  rw [e, if_pos ok]
  unfold wsD
  rw [List.map_mergeSort (s := leK) fun a _ b _ => ?_]
  show leB (kW a) (kW b) = leS (kOf (natsD a)) (kOf (natsD b))
  rw [hk, hk]
  unfold leB leS
  rw [DatumOrd.lt_eq]
theorem group_loop {n : Nat} (x : Slot) (hn : n ≤ 6) : ∀ (ws F : List (List Nat)) (s2 : Slot), Gp n F → (∀ w ∈ ws, WOk n w) → F.length * 2 ^ ws.length ≤ 1000 →
    ∃ s2', forL (gN 2) (sIf (b2 ninD (vR 2) (vR 1)) (sSet 1 (d2 addD (vR 1) (dLc (iSeq (vR 1)) (gN 3) bYes (dCall (lCons (vR 2) (lCons (vR 3) lNil)) f_product) [3]))) sNx) (ws.map fun l => natsD l) [x, .fz (wsD F), s2, .no] = some (.nx [x, .fz (wsD (grp F ws)), s2', .no])
  | [], F, s2, _, _, _ => ⟨s2, rfl⟩
  | w :: ws, F, s2, G, hw, hb => by
    have hwo := hw w (List.mem_cons_self ..)
    have hw' := fun u hu => hw u (List.mem_cons_of_mem _ hu)
    rw [List.length_cons, Nat.pow_succ, Nat.mul_comm (2 ^ _) 2, ← Nat.mul_assoc] at hb
    have hF : F.length * 2 ≤ 1000 := Nat.le_trans (Nat.le_mul_of_pos_right _ (Nat.pow_pos (by decide))) hb
    have hin : inD (natsD w) (wsD F) = some (decide (w ∈ F)) := (in_list enc_nats (by decide) w F).trans (congrArg some (decide_eq_decide.mpr Iff.rfl))
    rw [List.map_cons, forL, gN_s, Option.bind_some]
    by_cases hm : w ∈ F
    · have e : grp F (w :: ws) = grp F ws := by rw [grp, if_pos hm]
      rw [e]
      have hb' : F.length * 2 ^ ws.length ≤ F.length * 2 * 2 ^ ws.length := Nat.mul_le_mul_right _ (by omega)
      obtain ⟨s2', ih⟩ := group_loop x hn ws F (.fz (natsD w)) G hw' (by omega)
      refine ⟨s2', ?_⟩
      have st : sIf (b2 ninD (vR 2) (vR 1)) (sSet 1 (d2 addD (vR 1) (dLc (iSeq (vR 1)) (gN 3) bYes (dCall (lCons (vR 2) (lCons (vR 3) lNil)) f_product) [3]))) sNx ([x, .fz (wsD F), s2, .no].set 2 (.fz (natsD w))) = some (.nx [x, .fz (wsD F), .fz (natsD w), .no]) := by
        rw [sIf_f (by
          simp only [vR_s, kD_s, d1_s, d2_s, b1_s, b2_s, bV_s, dCall_s, lCons_s, lNil_s, List.set_cons_zero, List.set_cons_succ, List.getElem?_cons_zero, List.getElem?_cons_succ, Option.bind_some, ninD, hin, decide_eq_true hm]
          rfl)]
        rfl
      rw [st]
      exact ih
    · have e : grp F (w :: ws) = grp (F ++ F.map (xr w)) ws := by rw [grp, if_neg hm]
      rw [e]
      obtain ⟨s2', ih⟩ := group_loop x hn ws (F ++ F.map (xr w)) (.fz (natsD w)) (G.step hwo.asc hwo.lt) hw' (by
        rw [List.length_append, List.length_map, ← Nat.mul_two]
        exact hb)
      refine ⟨s2', ?_⟩
      have e1 : dLc (iSeq (vR 1)) (gN 3) bYes (dCall (lCons (vR 2) (lCons (vR 3) lNil)) f_product) [3] [x, .fz (wsD F), .fz (natsD w), .no] = some (wsD (F.map (xr w))) := by
        have : wsD (F.map (xr w)) = .list (F.map fun u => natsD (xr w u)) := by
          unfold wsD
          rw [List.map_map]
          rfl
        rw [this]
        refine dLc_map (fun l => natsD l) (fun u => natsD (xr w u)) F rfl (fun u hu => ⟨_, rfl, ?_⟩) (by omega)
        have := product_ok (a := w) (b := u) (by have := asc_len hwo.asc hwo.lt; omega) (by have := asc_len (G.asc u hu) (G.lt u hu); omega)
        simp only [wipeE, vR_s, kD_s, d1_s, d2_s, b1_s, b2_s, bV_s, dCall_s, lCons_s, lNil_s, List.set_cons_zero, List.set_cons_succ, List.getElem?_cons_zero, List.getElem?_cons_succ, Option.bind_some, this]
      have e2 : addD (wsD F) (wsD (F.map (xr w))) = some (wsD (F ++ F.map (xr w))) := by
        unfold wsD
        rw [addD_l, List.length_map, List.length_map, List.length_map, if_pos (by omega), List.map_append]
      have st : sIf (b2 ninD (vR 2) (vR 1)) (sSet 1 (d2 addD (vR 1) (dLc (iSeq (vR 1)) (gN 3) bYes (dCall (lCons (vR 2) (lCons (vR 3) lNil)) f_product) [3]))) sNx ([x, .fz (wsD F), s2, .no].set 2 (.fz (natsD w))) = some (.nx [x, .fz (wsD (F ++ F.map (xr w))), .fz (natsD w), .no]) := by
        rw [sIf_t (by
          simp only [vR_s, kD_s, d1_s, d2_s, b1_s, b2_s, bV_s, dCall_s, lCons_s, lNil_s, List.set_cons_zero, List.set_cons_succ, List.getElem?_cons_zero, List.getElem?_cons_succ, Option.bind_some, ninD, hin, decide_eq_false hm]
          rfl)]
        simp only [sSet_s, d2_s, vR_s, List.set_cons_zero, List.set_cons_succ, List.getElem?_cons_zero, List.getElem?_cons_succ, Option.bind_some, e1, e2]
      rw [st]
      exact ih
/-- what `resolution` answers -/
def lstD : Option Nat → D | none => .none | some m => .int ((m : Nat) : Int)
theorem resolution_ok {n : Nat} {ws : List (List Nat)} (h1 : 1 ≤ n) (hn : n ≤ 6) (hw : ∀ w ∈ ws, WOk n w) (hl : ws.length ≤ 3) : ∃ o, f_resolution [.int (n : Nat), wsD ws] = some (lstD o) ∧ ∀ t, (∀ m, o = some m → t < m) → miss (linR n ws) (List.replicate n 2) t = [] := by
  have c1 := check_words_ok h1 hn hw (by omega)
  have hp : 2 ^ ws.length ≤ 2 ^ 3 := Nat.pow_le_pow_right (by decide) hl
  obtain ⟨s2', g1⟩ := group_loop (n := n) (.fz (wsD ws)) hn ws [[]] .no (Gp.one n) hw (by simp; omega)
  obtain ⟨G, _, k2, k3⟩ := grp_ok ws [[]] (Gp.one n) fun w hwm => ⟨(hw w hwm).asc, (hw w hwm).lt⟩
  rw [show ([[]] : List (List Nat)).length = 1 from rfl, Nat.one_mul] at k3
  generalize hF : grp [[]] ws = F at *
  have ks := sortKW_ok (ws := F) (by omega)
  have c2 : f_group_of [wsD ws] = some (wsD (F.mergeSort leW)) := by
    unfold f_group_of D_group_of
    rw [runX_s]
    rw [show env0 4 [wsD ws] = [.fz (wsD ws), .no, .no, .no] from rfl]
    rw [sSeq_nx (ρ' := [.fz (wsD ws), .fz (wsD [[]]), .no, .no]) (by simp)]
    rw [sSeq_nx (sFor_of (ds := ws.map fun l => natsD l) rfl g1)]
    simp only [sRet_s, vR_s, kD_s, d1_s, d2_s, b1_s, b2_s, bV_s, dCall_s, lCons_s, lNil_s, List.set_cons_zero, List.set_cons_succ, List.getElem?_cons_zero, List.getElem?_cons_succ, Option.bind_some, ks]
  have pm := List.mergeSort_perm F leW
  have pw : (F.mergeSort leW).Pairwise fun a b => leW a b = true := List.pairwise_mergeSort (fun a b c => leB_tr (kW a) (kW b) (kW c)) (fun a b => leB_total (kW a) (kW b)) F
  generalize hL : F.mergeSort leW = L at *
  have run : ∀ d, dIf (b2 gtI (d1 lenD (vR 2)) (kD (.int 1))) (d1 lenD (d2 ixD (vR 2) (kD (.int 1)))) (kD .none) [.fz (.int (n : Nat)), .fz (wsD ws), .fz (wsD L)] = some d → f_resolution [.int (n : Nat), wsD ws] = some d := fun d hd => by
    unfold f_resolution D_resolution
    rw [runX_s]
    rw [show env0 3 [.int (n : Nat), wsD ws] = [.fz (.int (n : Nat)), .fz (wsD ws), .no] from rfl]
    rw [sSeq_nx (ρ' := [.fz (.int (n : Nat)), .fz (wsD ws), .no]) (by simp only [sDrop_s, vR_s, kD_s, d1_s, d2_s, b1_s, b2_s, bV_s, dCall_s, lCons_s, lNil_s, List.set_cons_zero, List.set_cons_succ, List.getElem?_cons_zero, List.getElem?_cons_succ, Option.bind_some, c1])]
    rw [sSeq_nx (ρ' := [.fz (.int (n : Nat)), .fz (wsD ws), .fz (wsD L)]) (by simp only [sSet_s, vR_s, kD_s, d1_s, d2_s, b1_s, b2_s, bV_s, dCall_s, lCons_s, lNil_s, List.set_cons_zero, List.set_cons_succ, List.getElem?_cons_zero, List.getElem?_cons_succ, Option.bind_some, c2])]
    simp only [sRet_s, hd, Option.bind_some]
  match L with
  | [] =>
    have := pm.mem_iff.mpr G.nil
    cases this
  | [a] =>
    refine ⟨none, run _ rfl, fun t _ => lin_cov G k2 fun g hg hne => ?_⟩
    have e1 := List.mem_singleton.mp (pm.mem_iff.mpr hg)
    have e2 := List.mem_singleton.mp (pm.mem_iff.mpr G.nil)
    exact absurd (e1.trans e2.symm) hne
  | a :: b :: L' =>
    refine ⟨some b.length, run _ ?_, fun t ht => lin_cov G k2 fun g hg hne => ?_⟩
    · have hlt : (1 : Int) < ((a :: b :: L').length : Nat) := by
        rw [List.length_cons, List.length_cons]
        omega
      have hix : ixD (wsD (a :: b :: L')) (.int 1) = some (natsD b) := by
        have := atI_nat ((a :: b :: L').map fun l => natsD l) 1 (by simp)
        exact this
      simp only [dIf_s, vR_s, kD_s, d1_s, d2_s, b1_s, b2_s, bV_s, dCall_s, lCons_s, lNil_s, List.set_cons_zero, List.set_cons_succ, List.getElem?_cons_zero, List.getElem?_cons_succ, Option.bind_some, lenD_l, List.length_map, gtI_s, decide_eq_true hlt, if_true, hix, lenN]
      rfl
    · have hb := ht b.length rfl
      obtain ⟨p1, p2⟩ := List.pairwise_cons.mp pw
      obtain ⟨p3, p4⟩ := List.pairwise_cons.mp p2
      have ha : a = [] := by
        have hm := pm.mem_iff.mpr G.nil
        rcases List.mem_cons.mp hm with e | e
        · exact e.symm
        · have := leW_len (p1 [] e)
          exact List.eq_nil_of_length_eq_zero (Nat.le_zero.mp this)
      have hm := pm.mem_iff.mpr hg
      rcases List.mem_cons.mp hm with e | e
      · exact absurd (e.trans ha) hne
      · rcases List.mem_cons.mp e with e | e
        · rw [e]
          exact hb
        · have := leW_len (p3 g e)
          omega
end Zx.k95
/-! E5: one turn of the law (k95; printed by mkE5.py from E5_head). -/
namespace Zx.k95
open PySem PySem.Spec L2 PySem.W Zx
theorem rep_ok {n : Nat} (h1 : 1 ≤ n) (h6 : n ≤ 6) : SzOk (List.replicate n 2) := by
  have hp : 2 ^ n ≤ 2 ^ 6 := Nat.pow_le_pow_right (by decide) h6
  refine ⟨by rw [List.length_replicate]; exact h1, by rw [List.length_replicate]; exact h6, fun s hs => by rw [(List.mem_replicate.mp hs).2]; exact Nat.le_refl _, fun s hs => by rw [(List.mem_replicate.mp hs).2]; decide, ?_⟩
  have : (List.replicate n 2).prod = 2 ^ n := by simp
  rw [this]
  exact hp
theorem sz_two {n : Nat} {T : List Nat} (hT : ∀ f ∈ T, f < n) : (szAt (List.replicate n 2) T).prod = 2 ^ T.length := by
  have : szAt (List.replicate n 2) T = List.replicate T.length 2 := by
    unfold szAt
    rw [List.eq_replicate_iff]
    refine ⟨List.length_map _, fun b hb => ?_⟩
    obtain ⟨f, hf, rfl⟩ := List.mem_map.mp hb
    exact rep_getD (hT f hf)
  rw [this]
  simp
theorem sFor_keep {fi : DenI} {g : DenG} {fb : DenS} {ρ : Env} {ds : List D} (P : Env → Prop) (hi : fi ρ = some ds) (h0 : P ρ) (hs : ∀ d ∈ ds, ∀ ρ, P ρ → ∃ ρ1 ρ2, g d ρ = some ρ1 ∧ fb ρ1 = some (.nx ρ2) ∧ P ρ2) : ∃ ρ', sFor fi g fb ρ = some (.nx ρ') ∧ P ρ' := by
  obtain ⟨ρ', g1, g2⟩ := sFor_ok (fi := fi) (g := g) (fb := fb) (ρ := ρ) (ds := ds) (fun _ ρ => P ρ) hi h0 (fun j d ρ hd h => by
    obtain ⟨ρ1, ρ2, a, b, c⟩ := hs d (List.mem_of_getElem? hd) ρ h
    exact ⟨ρ1, _, a, b, ρ2, .inl rfl, c⟩)
  exact ⟨ρ', g1, g2⟩
theorem ne_nil : neD (sgsD []) (.list []) = some false := rfl
theorem ne_cons {A : List (List (Nat × Nat))} (h : A ≠ []) : neD (sgsD A) (.list []) = some true := by
  have := enc_sgs.ne (by decide) A []
  have e : neD (sgsD A) (sgsD []) = some true := by
    rw [this]
    congr 1
    exact decide_eq_true h
  exact e
theorem sg_lv {ss : List Nat} {t : Nat} {P : List (Nat × Nat)} (h : IsS ss t P) : Asc (P.map (·.1)) ∧ (∀ f ∈ P.map (·.1), f < ss.length) ∧ (P.map (·.1)).length = t ∧ P.map (·.2) ∈ rows (szAt ss (P.map (·.1))) := by
  refine ⟨List.pairwise_map.mpr h.asc, fun f hf => ?_, by rw [List.length_map, h.len], mem_rows.mpr ((rowOk_pairs ss P).mpr fun p hp => (h.ok p hp).2)⟩
  obtain ⟨p, hp, rfl⟩ := List.mem_map.mp hf
  exact (h.ok p hp).1
theorem add_runs (A B : List (List Nat)) (h : A.length + B.length ≤ 100000) : addD (runsD A) (runsD B) = some (runsD (A ++ B)) := by
  unfold runsD
  rw [addD_l, List.length_map, List.length_map, if_pos (by omega), List.map_append]
theorem cut_runs (F : List (List Nat)) (m : Nat) : cutD none (some (m : Int)) (runsD F) = some (runsD (F.take m)) := by
  show some (PyData.list (cutL (F.map runD) none (some (m : Int)))) = _
  have : cutL (F.map runD) none (some (m : Int)) = (F.map runD).take m := by
    unfold cutL
    rw [HT.sIx_none, HT.sIx_nat]
    simp [List.take_eq_take_iff]
  rw [this, ← List.map_take]
theorem counted {n t : Nat} {ss : List Nat} {rs : List (List Nat)} (hs : ss = List.replicate n 2) (B : Tb ss rs) (t1 : 1 ≤ t) (t3 : t ≤ 3) (tl : t ≤ ss.length) (hE : AllEv rs ss t) (s0 s1 s2 s3 s4 s5 s8 s10 s11 s12 s13 s14 s15 s16 : Slot) :
    ∃ t15 t16, sFor (iSeq (dCall (lCons (vR 7) (lCons (vR 9) lNil)) f_sights)) (gT (gsCons (gN 15) (gsCons (gN 16) gsNil)) 2) (sIf (b2 neD (d2 mulI (d2 dgetD (dCall (lCons (vR 6) (lCons (vR 7) (lCons (vR 15) lNil))) f_counts) (vR 16)) (d2 shlD (kD (.int 1)) (vR 9))) (d1 lenD (vR 6))) (sRet (kD (.bool false))) sNx) [s0, s1, s2, s3, s4, s5, .fz (runsD rs), .fz (natsD ss), s8, .fz (.int (t : Nat)), s10, s11, s12, s13, s14, s15, s16, .no, .no] =
      some (.nx [s0, s1, s2, s3, s4, s5, .fz (runsD rs), .fz (natsD ss), s8, .fz (.int (t : Nat)), s10, s11, s12, s13, s14, t15, t16, .no, .no]) := by
  have c1 := sights_ok B.sz t1 t3 tl
  have hle := B.le
  obtain ⟨ρ', g1, g2⟩ := sFor_keep (fi := iSeq (dCall (lCons (vR 7) (lCons (vR 9) lNil)) f_sights)) (g := gT (gsCons (gN 15) (gsCons (gN 16) gsNil)) 2) (fb := (sIf (b2 neD (d2 mulI (d2 dgetD (dCall (lCons (vR 6) (lCons (vR 7) (lCons (vR 15) lNil))) f_counts) (vR 16)) (d2 shlD (kD (.int 1)) (vR 9))) (d1 lenD (vR 6))) (sRet (kD (.bool false))) sNx))
    (ρ := [s0, s1, s2, s3, s4, s5, .fz (runsD rs), .fz (natsD ss), s8, .fz (.int (t : Nat)), s10, s11, s12, s13, s14, s15, s16, .no, .no]) (ds := (sgs ss t).map sgD)
    (fun ρ => ∃ t15 t16, ρ = [s0, s1, s2, s3, s4, s5, .fz (runsD rs), .fz (natsD ss), s8, .fz (.int (t : Nat)), s10, s11, s12, s13, s14, t15, t16, .no, .no])
    (by simp only [iSeq_s, vR_s, kD_s, d1_s, d2_s, b1_s, b2_s, bV_s, dCall_s, lCons_s, lNil_s, List.set_cons_zero, List.set_cons_succ, List.getElem?_cons_zero, List.getElem?_cons_succ, Option.bind_some, c1, seqOf_l]) ⟨_, _, rfl⟩ (fun d hd ρ ⟨t15, t16, e⟩ => by
      subst e
      obtain ⟨P, hP, rfl⟩ := List.mem_map.mp hd
      obtain ⟨p1, p2, p3, p4⟩ := sg_lv (mem_sgs.mp hP)
      obtain ⟨l, c2, c3⟩ := counts_ok B p2 p1
      have hT : P.map (·.1) ∈ subs ss.length t := mem_subs.mpr ⟨p1, p2, p3⟩
      have c4 := ev_count B.row p2 (hE _ hT) p4
      have c5 := ev_pos B.row p2 B.pos (hE _ hT) p4
      rw [hs, sz_two (by rw [hs, List.length_replicate] at p2; exact p2), p3] at c4
      have c6 : dgetD (dcT l) (runD (P.map (·.2))) = some (.int ((cntL rs (P.map (·.1)) (P.map (·.2)) : Nat) : Int)) := by
        rw [dgetT, c3, if_neg (by omega)]
        rfl
      have c7 : shlD (.int 1) (.int (t : Nat)) = some (.int ((2 ^ t : Nat) : Int)) := by
        have : t = 1 ∨ t = 2 ∨ t = 3 := by omega
        rcases this with rfl | rfl | rfl <;> rfl
      have hp2 : 2 ^ t ≤ 2 ^ 3 := Nat.pow_le_pow_right (by decide) t3
      generalize hc : cntL rs (P.map (·.1)) (P.map (·.2)) = c at *
      have hcl : c ≤ 64 := by
        have := Nat.le_mul_of_pos_right c (show 0 < 2 ^ t from Nat.pow_pos (by decide))
        omega
      have hmk : mulOk (c : Int) ((2 ^ t : Nat) : Int) = true := mulOk64 (by omega) (by rw [Int.natAbs_natCast]; exact Nat.lt_of_le_of_lt hp2 (by decide))
      refine ⟨_, _, rfl, ?_, .fz (natsD (P.map (·.1))), .fz (runD (P.map (·.2))), rfl⟩
      have hz : ¬ (c : Int) * ((2 ^ t : Nat) : Int) ≠ ((rs.length : Nat) : Int) := by
        rw [← c4, Int.natCast_mul]
        exact fun z => z rfl
      rw [sIf_f (by simp only [vR_s, kD_s, d1_s, d2_s, b1_s, b2_s, bV_s, dCall_s, lCons_s, lNil_s, List.set_cons_zero, List.set_cons_succ, List.getElem?_cons_zero, List.getElem?_cons_succ, Option.bind_some, c2, c6, c7, mulI_i, hmk, if_true, lenD_l, List.length_map, neD_i, decide_eq_false hz])]
      rfl)
  obtain ⟨t15, t16, rfl⟩ := g2
  exact ⟨t15, t16, g1⟩
theorem t_ok {n t k : Nat} {ss : List Nat} {rs : List (List Nat)} (hs : ss = List.replicate n 2) (B : Tb ss rs) (t1 : 1 ≤ t) (t3 : t ≤ 3) (tl : t ≤ ss.length) (hE : ∀ t, 1 ≤ t → t ≤ k → AllEv rs ss t) (s0 s1 s2 s3 s4 s5 s10 s11 s12 s13 s14 s15 s16 : Slot) :
    ∃ t10 t11 t15 t16, (sSeq (sSet 10 (dCall (lCons (vR 6) (lCons (vR 7) (lCons (vR 9) lNil))) f_missing))
    (sSeq (sIf (b2 leI (vR 9) (vR 8)) (sSeq (sIf (bOr (b2 neD (vR 10) (mkL lNil)) (b2 ltI (d1 lenD (vR 6)) (dCall (lCons (vR 7) (lCons (vR 9) lNil)) f_floor))) (sRet (kD (.bool false))) sNx)
     (sFor (iSeq (dCall (lCons (vR 7) (lCons (vR 9) lNil)) f_sights)) (gT (gsCons (gN 15) (gsCons (gN 16) gsNil)) 2) (sIf (b2 neD (d2 mulI (d2 dgetD (dCall (lCons (vR 6) (lCons (vR 7) (lCons (vR 15) lNil))) f_counts) (vR 16)) (d2 shlD (kD (.int 1)) (vR 9))) (d1 lenD (vR 6))) (sRet (kD (.bool false))) sNx))) (sIf (bAnd (b2 neD (vR 10) (mkL lNil)) (b1 isN (dCall (lCons (vR 6) (lCons (vR 7) (lCons (vR 9) lNil))) f_uneven))) (sRet (kD (.bool false))) sNx))
    (sSeq (sSet 11 (dCall (lCons (vR 7) (lCons (vR 9) lNil)) f_greedy))
    (sIf (bOr (b2 ltI (d1 lenD (vR 11)) (dCall (lCons (vR 7) (lCons (vR 9) lNil)) f_floor)) (b2 neD (dCall (lCons (dSl (d2 addD (vR 11) (vR 6)) oNone (oSome (kD (.int 64)))) (lCons (vR 7) (lCons (vR 9) lNil))) f_missing) (mkL lNil))) (sRet (kD (.bool false))) sNx)))) [s0, s1, s2, s3, s4, s5, .fz (runsD rs), .fz (natsD ss), .fz (.int (k : Nat)), .fz (.int (t : Nat)), s10, s11, s12, s13, s14, s15, s16, .no, .no] =
      some (.nx [s0, s1, s2, s3, s4, s5, .fz (runsD rs), .fz (natsD ss), .fz (.int (k : Nat)), .fz (.int (t : Nat)), t10, t11, s12, s13, s14, t15, t16, .no, .no]) := by
  have hle := B.le
  have c1 := missing_ok B.sz B.row B.le t1 t3 tl
  rw [← e_missing] at c1
  have c2 := floor_ok B.sz t1 t3 tl
  rw [← e_floor] at c2
  have hmiss : AllEv rs ss t → miss rs ss t = [] := fun h => ev_miss B.row B.pos h
  have mid : ∃ t15 t16, (sIf (b2 leI (vR 9) (vR 8)) (sSeq (sIf (bOr (b2 neD (vR 10) (mkL lNil)) (b2 ltI (d1 lenD (vR 6)) (dCall (lCons (vR 7) (lCons (vR 9) lNil)) f_floor))) (sRet (kD (.bool false))) sNx)
     (sFor (iSeq (dCall (lCons (vR 7) (lCons (vR 9) lNil)) f_sights)) (gT (gsCons (gN 15) (gsCons (gN 16) gsNil)) 2) (sIf (b2 neD (d2 mulI (d2 dgetD (dCall (lCons (vR 6) (lCons (vR 7) (lCons (vR 15) lNil))) f_counts) (vR 16)) (d2 shlD (kD (.int 1)) (vR 9))) (d1 lenD (vR 6))) (sRet (kD (.bool false))) sNx))) (sIf (bAnd (b2 neD (vR 10) (mkL lNil)) (b1 isN (dCall (lCons (vR 6) (lCons (vR 7) (lCons (vR 9) lNil))) f_uneven))) (sRet (kD (.bool false))) sNx))
      [s0, s1, s2, s3, s4, s5, .fz (runsD rs), .fz (natsD ss), .fz (.int (k : Nat)), .fz (.int (t : Nat)), .fz (sgsD (miss rs ss t)), s11, s12, s13, s14, s15, s16, .no, .no] = some (.nx [s0, s1, s2, s3, s4, s5, .fz (runsD rs), .fz (natsD ss), .fz (.int (k : Nat)), .fz (.int (t : Nat)), .fz (sgsD (miss rs ss t)), s11, s12, s13, s14, t15, t16, .no, .no]) := by
    by_cases hk : t ≤ k
    · have a1 : (t : Int) ≤ (k : Int) := by omega
      have hA := hE t t1 hk
      have hm := hmiss hA
      obtain ⟨t15, t16, hc⟩ := counted hs B t1 t3 tl hA s0 s1 s2 s3 s4 s5 (.fz (.int (k : Nat))) (.fz (sgsD (miss rs ss t))) s11 s12 s13 s14 s15 s16
      have hf := flo_le tl (miss_cov hm)
      have a2 : ¬ ((rs.length : Nat) : Int) < ((flo ss t : Nat) : Int) := by omega
      refine ⟨t15, t16, ?_⟩
      rw [sIf_t (by simp only [vR_s, kD_s, d1_s, d2_s, b1_s, b2_s, bV_s, dCall_s, lCons_s, lNil_s, List.set_cons_zero, List.set_cons_succ, List.getElem?_cons_zero, List.getElem?_cons_succ, Option.bind_some, leI_s, decide_eq_true a1])]
      rw [hm] at hc ⊢
      rw [sSeq_nx (ρ' := [s0, s1, s2, s3, s4, s5, .fz (runsD rs), .fz (natsD ss), .fz (.int (k : Nat)), .fz (.int (t : Nat)), .fz (sgsD []), s11, s12, s13, s14, s15, s16, .no, .no]) (by
        rw [sIf_f (by simp only [bOr_s, mkL_s, vR_s, kD_s, d1_s, d2_s, b1_s, b2_s, bV_s, dCall_s, lCons_s, lNil_s, List.set_cons_zero, List.set_cons_succ, List.getElem?_cons_zero, List.getElem?_cons_succ, Option.bind_some, List.length_nil, Nat.zero_le, if_true, ne_nil, Bool.false_eq_true, if_false, c2, lenD_l, List.length_map, ltI_s, decide_eq_false a2])]
        rfl)]
      exact hc
    · have a1 : ¬ (t : Int) ≤ (k : Int) := by omega
      refine ⟨s15, s16, ?_⟩
      rw [sIf_f (by simp only [vR_s, kD_s, d1_s, d2_s, b1_s, b2_s, bV_s, dCall_s, lCons_s, lNil_s, List.set_cons_zero, List.set_cons_succ, List.getElem?_cons_zero, List.getElem?_cons_succ, Option.bind_some, leI_s, decide_eq_false a1])]
      obtain ⟨d, u1, u2⟩ := uneven_ok B tl
      obtain ⟨b, b1', b2'⟩ := u2.isN
      by_cases hm : miss rs ss t = []
      · rw [hm]
        rw [sIf_f (by simp only [bAnd_s, mkL_s, vR_s, kD_s, d1_s, d2_s, b1_s, b2_s, bV_s, dCall_s, lCons_s, lNil_s, List.set_cons_zero, List.set_cons_succ, List.getElem?_cons_zero, List.getElem?_cons_succ, Option.bind_some, List.length_nil, Nat.zero_le, if_true, ne_nil, Bool.false_eq_true, if_false])]
        rfl
      · have hb : b = false := by
          cases b with
          | false => rfl
          | true => exact absurd (hmiss (b2'.mp rfl)) hm
        rw [hb] at b1'
        rw [sIf_f (by simp only [bAnd_s, mkL_s, vR_s, kD_s, d1_s, d2_s, b1_s, b2_s, bV_s, dCall_s, lCons_s, lNil_s, List.set_cons_zero, List.set_cons_succ, List.getElem?_cons_zero, List.getElem?_cons_succ, Option.bind_some, List.length_nil, Nat.zero_le, if_true, ne_cons hm, u1, b1'])]
        rfl
  obtain ⟨t15, t16, mid⟩ := mid
  obtain ⟨c, c3, G, hc⟩ := greedy_ok B.sz t1 t3 tl
  rw [← e_greedy] at c3
  have hcl := G.len B.sz
  have hf := flo_le tl (miss_cov hc)
  have a2 : ¬ ((c.length : Nat) : Int) < ((flo ss t : Nat) : Int) := by omega
  have ad := add_runs c rs (by omega)
  have cu : cutD none (some 64) (runsD (c ++ rs)) = some (runsD ((c ++ rs).take 64)) := cut_runs (c ++ rs) 64
  have hsub : ∀ r ∈ c, r ∈ (c ++ rs).take 64 := fun r hr => by
    rw [List.take_append]
    refine List.mem_append_left _ ?_
    rw [List.take_of_length_le hcl]
    exact hr
  have hrow : ∀ r ∈ (c ++ rs).take 64, RowOk ss r := fun r hr => by
    rcases List.mem_append.mp (List.mem_of_mem_take hr) with h | h
    · exact mem_rows.mp (G.mem r h)
    · exact B.row r h
  have c4 := missing_ok B.sz hrow (by rw [List.length_take]; omega) t1 t3 tl
  rw [← e_missing, miss_sub hc hsub] at c4
  refine ⟨.fz (sgsD (miss rs ss t)), .fz (runsD c), t15, t16, ?_⟩
  rw [sSeq_nx (ρ' := [s0, s1, s2, s3, s4, s5, .fz (runsD rs), .fz (natsD ss), .fz (.int (k : Nat)), .fz (.int (t : Nat)), .fz (sgsD (miss rs ss t)), s11, s12, s13, s14, s15, s16, .no, .no]) (by simp only [sSet_s, vR_s, kD_s, d1_s, d2_s, b1_s, b2_s, bV_s, dCall_s, lCons_s, lNil_s, List.set_cons_zero, List.set_cons_succ, List.getElem?_cons_zero, List.getElem?_cons_succ, Option.bind_some, c1])]
  rw [sSeq_nx mid]
  rw [sSeq_nx (ρ' := [s0, s1, s2, s3, s4, s5, .fz (runsD rs), .fz (natsD ss), .fz (.int (k : Nat)), .fz (.int (t : Nat)), .fz (sgsD (miss rs ss t)), .fz (runsD c), s12, s13, s14, t15, t16, .no, .no]) (by simp only [sSet_s, vR_s, kD_s, d1_s, d2_s, b1_s, b2_s, bV_s, dCall_s, lCons_s, lNil_s, List.set_cons_zero, List.set_cons_succ, List.getElem?_cons_zero, List.getElem?_cons_succ, Option.bind_some, c3])]
  rw [sIf_f (by simp only [bOr_s, mkL_s, dSl_s, oSome_s, oNone_s, vR_s, kD_s, d1_s, d2_s, b1_s, b2_s, bV_s, dCall_s, lCons_s, lNil_s, List.set_cons_zero, List.set_cons_succ, List.getElem?_cons_zero, List.getElem?_cons_succ, Option.bind_some, List.length_nil, Nat.zero_le, if_true, c2, lenD_l, List.length_map, ltI_s, decide_eq_false a2, Bool.false_eq_true, if_false, ad, cu, c4, ne_nil])]
  rfl
theorem t_range {n : Nat} (h1 : 1 ≤ n) (h6 : n ≤ 6) {ρ : Env} (h4 : ρ[4]? = some (.fz (.int (n : Nat)))) : iR2 (kD (.int 1)) (d2 addD (d2 minD2 (kD (.int 3)) (vR 4)) (kD (.int 1))) ρ = some (rgL 1 (min 3 n)) := by
  have e : (if ((n : Nat) : Int) < 3 then ((n : Nat) : Int) else 3) + 1 = ((min 3 n : Nat) : Int) + 1 := by split <;> omega
  have r := rg2_ok (m := 1) (n := ((min 3 n : Nat) : Int) + 1) (by decide) (by decide) (by omega) (by omega)
  simp only [iR2_s, d2_s, kD_s, vR_s, h4, Option.bind_some, minD2_i, addD_i, e, r]
  congr 2
  omega
theorem drawn_ok {dr : List Int} (hd : Dr 3780 dr) {a n : Nat} (ha : a < 1000) (h1 : 1 ≤ n) (h6 : n ≤ 6) (s0 s2 s5 s6 s7 s8 s9 s10 s11 s12 s13 s14 s15 s16 : Slot) :
    ∃ rs, Tb (List.replicate n 2) rs ∧ (sSeq (sLcSet 6 false (dLc (iR1 (d2 addD (kD (.int 1)) (dCall (lCons (vR 1) (lCons (d2 addD (vR 3) (kD (.int 39))) (lCons (kD (.int 12)) lNil))) f__law_mix))) (gN 17) bYes (d1 tupD (dLc (iR1 (vR 4)) (gN 18) bYes (dCall (lCons (vR 1) (lCons (d2 addD (d2 addD (d2 addD (vR 3) (kD (.int 41))) (d2 mulI (kD (.int 6)) (vR 17))) (vR 18)) (lCons (kD (.int 2)) lNil))) f__law_mix) [18])) [17]))
    (sSet 5 (kD .none))) [s0, .fz (.list (dr.map .int)), s2, .fz (.int (a : Nat)), .fz (.int (n : Nat)), s5, s6, s7, s8, s9, s10, s11, s12, s13, s14, s15, s16, .no, .no] = some (.nx [s0, .fz (.list (dr.map .int)), s2, .fz (.int (a : Nat)), .fz (.int (n : Nat)), .fz .none, .fz (runsD rs), s7, s8, s9, s10, s11, s12, s13, s14, s15, s16, .no, .no]) := by
  have hM := mixI hd
  generalize hDR : PyData.list (dr.map .int) = DR at *
  obtain ⟨m, hm, qm⟩ := hM ((a : Int) + 39) 12 (by omega) (by omega) (by decide)
  obtain ⟨Y, hY⟩ := chooseN (n := 1000) (Q := fun j y => y < 2 ∧ f__law_mix [DR, .int ((a : Int) + 41 + (j : Int)), .int 2] = some (.int (y : Nat))) fun j hj => by
    obtain ⟨y, y1, hy⟩ := hM ((a : Int) + 41 + (j : Int)) 2 (by omega) (by omega) (by decide)
    exact ⟨y, by omega, hy⟩
  have hlen : (List.replicate n 2).length = n := List.length_replicate ..
  refine ⟨(List.range (1 + m)).map fun k => (List.range n).map fun v => Y (6 * k + v), ⟨rep_ok h1 h6, fun r hr => ?_, by rw [List.length_map, List.length_range]; omega, by rw [List.length_map, List.length_range]; omega⟩, ?_⟩
  · obtain ⟨k, hk, rfl⟩ := List.mem_map.mp hr
    have hk' := List.mem_range.mp hk
    refine rowOk_iff.mpr ⟨by rw [List.length_map, List.length_range, hlen], fun i hi => ?_⟩
    rw [hlen] at hi
    rw [rangeD hi, rep_getD hi]
    exact (hY (6 * k + i) (by omega)).1
  · have em : (1 : Int) + (m : Int) = ((1 + m : Nat) : Int) := by omega
    have r1 := rg1_nat (n := 1 + m) (by omega)
    have r2 := rg1_nat (n := n) (by omega)
    have e : dLc (iR1 (d2 addD (kD (.int 1)) (dCall (lCons (vR 1) (lCons (d2 addD (vR 3) (kD (.int 39))) (lCons (kD (.int 12)) lNil))) f__law_mix))) (gN 17) bYes (d1 tupD (dLc (iR1 (vR 4)) (gN 18) bYes (dCall (lCons (vR 1) (lCons (d2 addD (d2 addD (d2 addD (vR 3) (kD (.int 41))) (d2 mulI (kD (.int 6)) (vR 17))) (vR 18)) (lCons (kD (.int 2)) lNil))) f__law_mix) [18])) [17] [s0, .fz DR, s2, .fz (.int (a : Nat)), .fz (.int (n : Nat)), s5, s6, s7, s8, s9, s10, s11, s12, s13, s14, s15, s16, .no, .no] = some (runsD ((List.range (1 + m)).map fun k => (List.range n).map fun v => Y (6 * k + v))) := by
      have e0 : runsD ((List.range (1 + m)).map fun k => (List.range n).map fun v => Y (6 * k + v)) = .list ((List.range (1 + m)).map fun k => runD ((List.range n).map fun v => Y (6 * k + v))) := by
        unfold runsD
        rw [List.map_map]
        rfl
      rw [e0]
      refine dLc_map (fun i => .int ((i : Nat) : Int)) (fun k => runD ((List.range n).map fun v => Y (6 * k + v))) (List.range (1 + m)) (by simp only [iR1_s, vR_s, kD_s, d1_s, d2_s, b1_s, b2_s, bV_s, dCall_s, lCons_s, lNil_s, List.set_cons_zero, List.set_cons_succ, List.getElem?_cons_zero, List.getElem?_cons_succ, Option.bind_some, addD_i, qm, em, r1]) (fun k hk => ⟨_, rfl, ?_⟩) (by rw [List.length_range]; omega)
      have hk' := List.mem_range.mp hk
      have mk : mulOk (6 : Int) (k : Int) = true := mulOk64 (by decide) (by omega)
      have e2 : dLc (iR1 (vR 4)) (gN 18) bYes (dCall (lCons (vR 1) (lCons (d2 addD (d2 addD (d2 addD (vR 3) (kD (.int 41))) (d2 mulI (kD (.int 6)) (vR 17))) (vR 18)) (lCons (kD (.int 2)) lNil))) f__law_mix) [18] [s0, .fz DR, s2, .fz (.int (a : Nat)), .fz (.int (n : Nat)), s5, s6, s7, s8, s9, s10, s11, s12, s13, s14, s15, s16, .fz (.int ((k : Nat) : Int)), .no] = some (.list ((List.range n).map fun v => .int ((Y (6 * k + v) : Nat) : Int))) := by
        refine dLc_map (fun i => .int ((i : Nat) : Int)) (fun v => .int ((Y (6 * k + v) : Nat) : Int)) (List.range n) (by simp only [iR1_s, vR_s, kD_s, d1_s, d2_s, b1_s, b2_s, bV_s, dCall_s, lCons_s, lNil_s, List.set_cons_zero, List.set_cons_succ, List.getElem?_cons_zero, List.getElem?_cons_succ, Option.bind_some, r2]) (fun v hv => ⟨_, rfl, ?_⟩) (by rw [List.length_range]; omega)
        have hv' := List.mem_range.mp hv
        have := (hY (6 * k + v) (by omega)).2
        have ei : (a : Int) + 41 + 6 * (k : Int) + (v : Int) = (a : Int) + 41 + ((6 * k + v : Nat) : Int) := by omega
        simp only [wipeE, vR_s, kD_s, d1_s, d2_s, b1_s, b2_s, bV_s, dCall_s, lCons_s, lNil_s, List.set_cons_zero, List.set_cons_succ, List.getElem?_cons_zero, List.getElem?_cons_succ, Option.bind_some, addD_i, mulI_i, mk, if_true, ei, this]
      show d1 tupD _ [s0, .fz DR, s2, .fz (.int (a : Nat)), .fz (.int (n : Nat)), s5, s6, s7, s8, s9, s10, s11, s12, s13, s14, s15, s16, .fz (.int ((k : Nat) : Int)), .no] = _
      rw [d1_s, e2, Option.bind_some, tupD_l]
      unfold runD
      rw [List.map_map]
      rfl
    rw [sSeq_nx (ρ' := [s0, .fz DR, s2, .fz (.int (a : Nat)), .fz (.int (n : Nat)), s5, .fz (runsD ((List.range (1 + m)).map fun k => (List.range n).map fun v => Y (6 * k + v))), s7, s8, s9, s10, s11, s12, s13, s14, s15, s16, .no, .no]) (by
      rw [sLcSet_s, e]
      rfl)]
    rfl
noncomputable abbrev turnB : DenS := (sSeq (sSet 3 (d2 addD (kD (.int 10)) (d2 mulI (kD (.int 80)) (vR 2))))
   (sSeq (sSet 4 (d2 addD (kD (.int 2)) (dCall (lCons (vR 1) (lCons (vR 3) (lCons (kD (.int 5)) lNil))) f__law_mix)))
   (sSeq (sSet 5 (dCall (lCons (vR 1) (lCons (d2 addD (vR 3) (kD (.int 1))) (lCons (vR 4) (lCons (kD (.int 3)) lNil)))) f__law_words))
   (sSeq (sPar 6 7 (lCons (dCall (lCons (vR 4) (lCons (vR 5) lNil)) f_runs_of) (lCons (d2 repD (mkL (lCons (kD (.int 2)) lNil)) (vR 4)) lNil)))
   (sSeq (sIf (b2 eqD (dCall (lCons (vR 1) (lCons (d2 addD (vR 3) (kD (.int 40))) (lCons (kD (.int 3)) lNil))) f__law_mix) (kD (.int 0))) (sSeq (sLcSet 6 false (dLc (iR1 (d2 addD (kD (.int 1)) (dCall (lCons (vR 1) (lCons (d2 addD (vR 3) (kD (.int 39))) (lCons (kD (.int 12)) lNil))) f__law_mix))) (gN 17) bYes (d1 tupD (dLc (iR1 (vR 4)) (gN 18) bYes (dCall (lCons (vR 1) (lCons (d2 addD (d2 addD (d2 addD (vR 3) (kD (.int 41))) (d2 mulI (kD (.int 6)) (vR 17))) (vR 18)) (lCons (kD (.int 2)) lNil))) f__law_mix) [18])) [17]))
    (sSet 5 (kD .none))) sNx)
   (sSeq (sSet 8 (dCall (lCons (vR 6) (lCons (vR 7) lNil)) f_strength))
   (sSeq (sFor (iR2 (kD (.int 1)) (d2 addD (d2 minD2 (kD (.int 3)) (vR 4)) (kD (.int 1)))) (gN 9) (sSeq (sSet 10 (dCall (lCons (vR 6) (lCons (vR 7) (lCons (vR 9) lNil))) f_missing))
    (sSeq (sIf (b2 leI (vR 9) (vR 8)) (sSeq (sIf (bOr (b2 neD (vR 10) (mkL lNil)) (b2 ltI (d1 lenD (vR 6)) (dCall (lCons (vR 7) (lCons (vR 9) lNil)) f_floor))) (sRet (kD (.bool false))) sNx)
     (sFor (iSeq (dCall (lCons (vR 7) (lCons (vR 9) lNil)) f_sights)) (gT (gsCons (gN 15) (gsCons (gN 16) gsNil)) 2) (sIf (b2 neD (d2 mulI (d2 dgetD (dCall (lCons (vR 6) (lCons (vR 7) (lCons (vR 15) lNil))) f_counts) (vR 16)) (d2 shlD (kD (.int 1)) (vR 9))) (d1 lenD (vR 6))) (sRet (kD (.bool false))) sNx))) (sIf (bAnd (b2 neD (vR 10) (mkL lNil)) (b1 isN (dCall (lCons (vR 6) (lCons (vR 7) (lCons (vR 9) lNil))) f_uneven))) (sRet (kD (.bool false))) sNx))
    (sSeq (sSet 11 (dCall (lCons (vR 7) (lCons (vR 9) lNil)) f_greedy))
    (sIf (bOr (b2 ltI (d1 lenD (vR 11)) (dCall (lCons (vR 7) (lCons (vR 9) lNil)) f_floor)) (b2 neD (dCall (lCons (dSl (d2 addD (vR 11) (vR 6)) oNone (oSome (kD (.int 64)))) (lCons (vR 7) (lCons (vR 9) lNil))) f_missing) (mkL lNil))) (sRet (kD (.bool false))) sNx)))))
   (sSeq (sIf (b1 notN (vR 5)) (sSeq (sSet 12 (dCall (lCons (vR 4) (lCons (vR 5) lNil)) f_resolution))
    (sFor (iR2 (kD (.int 1)) (d2 addD (d2 minD2 (kD (.int 3)) (vR 4)) (kD (.int 1)))) (gN 9) (sIf (bOr (b1 isN (vR 12)) (b2 ltI (vR 9) (vR 12))) (sIf (b2 neD (dCall (lCons (vR 6) (lCons (vR 7) (lCons (vR 9) lNil))) f_missing) (mkL lNil)) (sRet (kD (.bool false))) sNx) sNx))) sNx)
   (sIf (bAnd (b2 gtI (vR 8) (kD (.int 1))) (b2 gtI (vR 4) (kD (.int 2)))) (sSeq (sSet 13 (dCall (lCons (vR 1) (lCons (d2 addD (vR 3) (kD (.int 70))) (lCons (vR 4) lNil))) f__law_mix))
    (sFor (iSeq (dCall (lCons (vR 6) (lCons (vR 7) (lCons (vR 13) lNil))) f_parted)) (gN 14) (sIf (b2 neD (dCall (lCons (vR 14) (lCons (dSl (vR 7) (oSome (kD (.int 1))) oNone) (lCons (d2 minD2 (kD (.int 3)) (d2 subD (vR 8) (kD (.int 1)))) lNil))) f_missing) (mkL lNil)) (sRet (kD (.bool false))) sNx))) sNx)))))))))
theorem turn_ok {dr : List Int} (hd : Dr 3780 dr) (S0 : D) (u : Nat) (hu : u < 2) (s3 s4 s5 s6 s7 s8 s9 s10 s11 s12 s13 s14 s15 s16 : Slot) : ∃ t3 t4 t5 t6 t7 t8 t9 t10 t11 t12 t13 t14 t15 t16, turnB [.fz S0, .fz (.list (dr.map .int)), .fz (.int (u : Nat)), s3, s4, s5, s6, s7, s8, s9, s10, s11, s12, s13, s14, s15, s16, .no, .no] =
    some (.nx [.fz S0, .fz (.list (dr.map .int)), .fz (.int (u : Nat)), t3, t4, t5, t6, t7, t8, t9, t10, t11, t12, t13, t14, t15, t16, .no, .no]) := by
  have m0 : mulOk 80 (u : Int) = true := mulOk64 (by decide) (by omega)
  have ea : (10 : Int) + 80 * (u : Int) = ((10 + 80 * u : Nat) : Int) := by omega
  generalize haa : 10 + 80 * u = a at ea
  have ha : a < 1000 := by omega
  have hM := mixI hd
  obtain ⟨x, hx, q1⟩ := hM (a : Nat) 5 (by omega) (by omega) (by decide)
  have en : (2 : Int) + (x : Int) = ((2 + x : Nat) : Int) := by omega
  generalize hnn : 2 + x = n at en
  have n2 : 2 ≤ n := by omega
  have n6 : n ≤ 6 := by omega
  obtain ⟨ws, w1, w2, q2⟩ := words_ok hd (a + 1) n (by omega) n6
  rw [show ((a + 1 : Nat) : Int) = (a : Int) + 1 by omega] at q2
  have q3 := runs_of_ok (n := n) (by omega) n6 w1 (by omega)
  obtain ⟨y, hy, q4⟩ := hM ((a : Int) + 40) 3 (by omega) (by omega) (by decide)
  obtain ⟨g, hg, q5⟩ := hM ((a : Int) + 70) (n : Nat) (by omega) (by omega) (by omega)
  have drawn := fun s0 s2 s5 s6 s7 s8 s9 s10 s11 s12 s13 s14 s15 s16 => drawn_ok hd (a := a) (n := n) ha (by omega) n6 s0 s2 s5 s6 s7 s8 s9 s10 s11 s12 s13 s14 s15 s16
  generalize hDR : PyData.list (dr.map .int) = DR at *
  have hok := rep_ok (n := n) (by omega) n6
  have hlen : (List.replicate n 2).length = n := List.length_replicate ..
  have qr : repD (.list [.int 2]) (.int (n : Nat)) = some (natsD (List.replicate n 2)) := by
    show (if (n : Int).natAbs ≤ 1000000 ∧ 1 * (n : Int).toNat ≤ 1000000 then some (PyData.list (List.replicate (n : Int).toNat [PyData.int 2]).flatten) else none) = _
    rw [if_pos (by omega), Int.toNat_natCast]
    unfold natsD
    rw [List.map_replicate]
    simp
  have linTb : Tb (List.replicate n 2) (linR n ws) := by
    refine ⟨hok, fun r hr => mem_rows.mp (List.mem_filter.mp hr).1, List.length_pos_of_mem (a := List.replicate n 0) (List.mem_filter.mpr ⟨mem_rows.mpr (rowOk_iff.mpr ⟨by simp, fun i hi => ?_⟩), List.all_eq_true.mpr fun w hw => ?_⟩), ?_⟩
    · rw [hlen] at hi
      rw [rep_getD hi, List.getD_eq_getElem?_getD, List.getElem?_replicate, if_pos hi]
      decide
    · have z : (w.map fun i => (List.replicate n 0).getD i 0) = w.map fun _ => 0 := List.map_congr_left fun i hi => by
        rw [List.getD_eq_getElem?_getD, List.getElem?_replicate, if_pos ((w1 w hw).lt i hi)]
        rfl
      unfold evn
      rw [z, decide_eq_true_eq]
      clear z hw
      induction w with
      | nil => rfl
      | cons i w ih =>
        rw [List.map_cons, List.sum_cons]
        omega
    · exact Nat.le_trans (List.length_filter_le _ _) hok.rows_len
  -- the table
  have tab : ∃ (rs : List (List Nat)) (W : D), Tb (List.replicate n 2) rs ∧ (W = .none ∨ W = wsD ws ∧ rs = linR n ws) ∧
      sIf (b2 eqD (dCall (lCons (vR 1) (lCons (d2 addD (vR 3) (kD (.int 40))) (lCons (kD (.int 3)) lNil))) f__law_mix) (kD (.int 0))) (sSeq (sLcSet 6 false (dLc (iR1 (d2 addD (kD (.int 1)) (dCall (lCons (vR 1) (lCons (d2 addD (vR 3) (kD (.int 39))) (lCons (kD (.int 12)) lNil))) f__law_mix))) (gN 17) bYes (d1 tupD (dLc (iR1 (vR 4)) (gN 18) bYes (dCall (lCons (vR 1) (lCons (d2 addD (d2 addD (d2 addD (vR 3) (kD (.int 41))) (d2 mulI (kD (.int 6)) (vR 17))) (vR 18)) (lCons (kD (.int 2)) lNil))) f__law_mix) [18])) [17]))
    (sSet 5 (kD .none))) sNx [.fz S0, .fz DR, .fz (.int (u : Nat)), .fz (.int (a : Nat)), .fz (.int (n : Nat)), .fz (wsD ws), .fz (runsD (linR n ws)), .fz (natsD (List.replicate n 2)), s8, s9, s10, s11, s12, s13, s14, s15, s16, .no, .no] = some (.nx [.fz S0, .fz DR, .fz (.int (u : Nat)), .fz (.int (a : Nat)), .fz (.int (n : Nat)), .fz W, .fz (runsD rs), .fz (natsD (List.replicate n 2)), s8, s9, s10, s11, s12, s13, s14, s15, s16, .no, .no]) := by
    by_cases hz : y = 0
    · obtain ⟨rs, B, h⟩ := drawn (.fz S0) (.fz (.int (u : Nat))) (.fz (wsD ws)) (.fz (runsD (linR n ws))) (.fz (natsD (List.replicate n 2))) s8 s9 s10 s11 s12 s13 s14 s15 s16
      refine ⟨rs, .none, B, .inl rfl, ?_⟩
      subst hz
      rw [sIf_t (by
        simp only [vR_s, kD_s, d1_s, d2_s, b1_s, b2_s, bV_s, dCall_s, lCons_s, lNil_s, List.set_cons_zero, List.set_cons_succ, List.getElem?_cons_zero, List.getElem?_cons_succ, Option.bind_some, addD_i, q4, eqD_i]
        rfl)]
      exact h
    · refine ⟨linR n ws, wsD ws, linTb, .inr ⟨rfl, rfl⟩, ?_⟩
      have hz' : ¬ (y : Int) = 0 := by omega
      rw [sIf_f (by simp only [vR_s, kD_s, d1_s, d2_s, b1_s, b2_s, bV_s, dCall_s, lCons_s, lNil_s, List.set_cons_zero, List.set_cons_succ, List.getElem?_cons_zero, List.getElem?_cons_succ, Option.bind_some, addD_i, q4, eqD_i, decide_eq_false hz'])]
      rfl
  obtain ⟨rs, W, B, hW, tab⟩ := tab
  obtain ⟨k, q6, hk, hE⟩ := strength_ok B
  rw [hlen] at hk
  generalize hss : List.replicate n 2 = ss at *
  -- the loop over t
  have tlp : ∃ t9 t10 t11 t15 t16, sFor (iR2 (kD (.int 1)) (d2 addD (d2 minD2 (kD (.int 3)) (vR 4)) (kD (.int 1)))) (gN 9) (sSeq (sSet 10 (dCall (lCons (vR 6) (lCons (vR 7) (lCons (vR 9) lNil))) f_missing))
    (sSeq (sIf (b2 leI (vR 9) (vR 8)) (sSeq (sIf (bOr (b2 neD (vR 10) (mkL lNil)) (b2 ltI (d1 lenD (vR 6)) (dCall (lCons (vR 7) (lCons (vR 9) lNil)) f_floor))) (sRet (kD (.bool false))) sNx)
     (sFor (iSeq (dCall (lCons (vR 7) (lCons (vR 9) lNil)) f_sights)) (gT (gsCons (gN 15) (gsCons (gN 16) gsNil)) 2) (sIf (b2 neD (d2 mulI (d2 dgetD (dCall (lCons (vR 6) (lCons (vR 7) (lCons (vR 15) lNil))) f_counts) (vR 16)) (d2 shlD (kD (.int 1)) (vR 9))) (d1 lenD (vR 6))) (sRet (kD (.bool false))) sNx))) (sIf (bAnd (b2 neD (vR 10) (mkL lNil)) (b1 isN (dCall (lCons (vR 6) (lCons (vR 7) (lCons (vR 9) lNil))) f_uneven))) (sRet (kD (.bool false))) sNx))
    (sSeq (sSet 11 (dCall (lCons (vR 7) (lCons (vR 9) lNil)) f_greedy))
    (sIf (bOr (b2 ltI (d1 lenD (vR 11)) (dCall (lCons (vR 7) (lCons (vR 9) lNil)) f_floor)) (b2 neD (dCall (lCons (dSl (d2 addD (vR 11) (vR 6)) oNone (oSome (kD (.int 64)))) (lCons (vR 7) (lCons (vR 9) lNil))) f_missing) (mkL lNil))) (sRet (kD (.bool false))) sNx)))) [.fz S0, .fz DR, .fz (.int (u : Nat)), .fz (.int (a : Nat)), .fz (.int (n : Nat)), .fz W, .fz (runsD rs), .fz (natsD ss), .fz (.int (k : Nat)), s9, s10, s11, s12, s13, s14, s15, s16, .no, .no] = some (.nx [.fz S0, .fz DR, .fz (.int (u : Nat)), .fz (.int (a : Nat)), .fz (.int (n : Nat)), .fz W, .fz (runsD rs), .fz (natsD ss), .fz (.int (k : Nat)), t9, t10, t11, s12, s13, s14, t15, t16, .no, .no]) := by
    obtain ⟨ρ', g1, g2⟩ := sFor_keep (fi := iR2 (kD (.int 1)) (d2 addD (d2 minD2 (kD (.int 3)) (vR 4)) (kD (.int 1)))) (g := gN 9) (fb := (sSeq (sSet 10 (dCall (lCons (vR 6) (lCons (vR 7) (lCons (vR 9) lNil))) f_missing))
    (sSeq (sIf (b2 leI (vR 9) (vR 8)) (sSeq (sIf (bOr (b2 neD (vR 10) (mkL lNil)) (b2 ltI (d1 lenD (vR 6)) (dCall (lCons (vR 7) (lCons (vR 9) lNil)) f_floor))) (sRet (kD (.bool false))) sNx)
     (sFor (iSeq (dCall (lCons (vR 7) (lCons (vR 9) lNil)) f_sights)) (gT (gsCons (gN 15) (gsCons (gN 16) gsNil)) 2) (sIf (b2 neD (d2 mulI (d2 dgetD (dCall (lCons (vR 6) (lCons (vR 7) (lCons (vR 15) lNil))) f_counts) (vR 16)) (d2 shlD (kD (.int 1)) (vR 9))) (d1 lenD (vR 6))) (sRet (kD (.bool false))) sNx))) (sIf (bAnd (b2 neD (vR 10) (mkL lNil)) (b1 isN (dCall (lCons (vR 6) (lCons (vR 7) (lCons (vR 9) lNil))) f_uneven))) (sRet (kD (.bool false))) sNx))
    (sSeq (sSet 11 (dCall (lCons (vR 7) (lCons (vR 9) lNil)) f_greedy))
    (sIf (bOr (b2 ltI (d1 lenD (vR 11)) (dCall (lCons (vR 7) (lCons (vR 9) lNil)) f_floor)) (b2 neD (dCall (lCons (dSl (d2 addD (vR 11) (vR 6)) oNone (oSome (kD (.int 64)))) (lCons (vR 7) (lCons (vR 9) lNil))) f_missing) (mkL lNil))) (sRet (kD (.bool false))) sNx)))))
      (ρ := [.fz S0, .fz DR, .fz (.int (u : Nat)), .fz (.int (a : Nat)), .fz (.int (n : Nat)), .fz W, .fz (runsD rs), .fz (natsD ss), .fz (.int (k : Nat)), s9, s10, s11, s12, s13, s14, s15, s16, .no, .no]) (ds := rgL 1 (min 3 n))
      (fun ρ => ∃ t9 t10 t11 t15 t16, ρ = [.fz S0, .fz DR, .fz (.int (u : Nat)), .fz (.int (a : Nat)), .fz (.int (n : Nat)), .fz W, .fz (runsD rs), .fz (natsD ss), .fz (.int (k : Nat)), t9, t10, t11, s12, s13, s14, t15, t16, .no, .no])
      (t_range (by omega) n6 rfl) ⟨_, _, _, _, _, rfl⟩ (fun d hd ρ ⟨t9, t10, t11, t15, t16, e⟩ => by
        subst e
        obtain ⟨j, hj⟩ := List.mem_iff_getElem?.mp hd
        obtain ⟨hj, rfl⟩ := rgL_at hj
        obtain ⟨p10, p11, p15, p16, h⟩ := t_ok (t := 1 + j) hss.symm B (by omega) (by omega) (by omega) hE (.fz S0) (.fz DR) (.fz (.int (u : Nat))) (.fz (.int (a : Nat))) (.fz (.int (n : Nat))) (.fz W) t10 t11 s12 s13 s14 t15 t16
        rw [show ((1 + j : Nat) : Int) = 1 + (j : Int) by omega] at h
        exact ⟨_, _, rfl, h, _, _, _, _, _, rfl⟩)
    obtain ⟨t9, t10, t11, t15, t16, rfl⟩ := g2
    exact ⟨t9, t10, t11, t15, t16, g1⟩
  obtain ⟨t9, t10, t11, t15, t16, tlp⟩ := tlp
  -- resolution
  have res : ∃ p9 p12, (sIf (b1 notN (vR 5)) (sSeq (sSet 12 (dCall (lCons (vR 4) (lCons (vR 5) lNil)) f_resolution))
    (sFor (iR2 (kD (.int 1)) (d2 addD (d2 minD2 (kD (.int 3)) (vR 4)) (kD (.int 1)))) (gN 9) (sIf (bOr (b1 isN (vR 12)) (b2 ltI (vR 9) (vR 12))) (sIf (b2 neD (dCall (lCons (vR 6) (lCons (vR 7) (lCons (vR 9) lNil))) f_missing) (mkL lNil)) (sRet (kD (.bool false))) sNx) sNx))) sNx) [.fz S0, .fz DR, .fz (.int (u : Nat)), .fz (.int (a : Nat)), .fz (.int (n : Nat)), .fz W, .fz (runsD rs), .fz (natsD ss), .fz (.int (k : Nat)), t9, t10, t11, s12, s13, s14, t15, t16, .no, .no] = some (.nx [.fz S0, .fz DR, .fz (.int (u : Nat)), .fz (.int (a : Nat)), .fz (.int (n : Nat)), .fz W, .fz (runsD rs), .fz (natsD ss), .fz (.int (k : Nat)), p9, t10, t11, p12, s13, s14, t15, t16, .no, .no]) := by
    rcases hW with rfl | ⟨rfl, rfl⟩
    · refine ⟨t9, s12, ?_⟩
      rw [sIf_f (by simp only [vR_s, kD_s, d1_s, d2_s, b1_s, b2_s, bV_s, dCall_s, lCons_s, lNil_s, List.set_cons_zero, List.set_cons_succ, List.getElem?_cons_zero, List.getElem?_cons_succ, Option.bind_some]; rfl)]
      rfl
    · obtain ⟨o, c1, c2⟩ := resolution_ok (n := n) (by omega) n6 w1 w2
      rw [hss] at c2
      obtain ⟨ρ', g1, g2⟩ := sFor_keep (fi := iR2 (kD (.int 1)) (d2 addD (d2 minD2 (kD (.int 3)) (vR 4)) (kD (.int 1)))) (g := gN 9) (fb := (sIf (bOr (b1 isN (vR 12)) (b2 ltI (vR 9) (vR 12))) (sIf (b2 neD (dCall (lCons (vR 6) (lCons (vR 7) (lCons (vR 9) lNil))) f_missing) (mkL lNil)) (sRet (kD (.bool false))) sNx) sNx))
        (ρ := [.fz S0, .fz DR, .fz (.int (u : Nat)), .fz (.int (a : Nat)), .fz (.int (n : Nat)), .fz (wsD ws), .fz (runsD (linR n ws)), .fz (natsD ss), .fz (.int (k : Nat)), t9, t10, t11, .fz (lstD o), s13, s14, t15, t16, .no, .no]) (ds := rgL 1 (min 3 n))
        (fun ρ => ∃ p9, ρ = [.fz S0, .fz DR, .fz (.int (u : Nat)), .fz (.int (a : Nat)), .fz (.int (n : Nat)), .fz (wsD ws), .fz (runsD (linR n ws)), .fz (natsD ss), .fz (.int (k : Nat)), p9, t10, t11, .fz (lstD o), s13, s14, t15, t16, .no, .no])
        (t_range (by omega) n6 rfl) ⟨_, rfl⟩ (fun d hd ρ ⟨p9, e⟩ => by
          subst e
          obtain ⟨j, hj⟩ := List.mem_iff_getElem?.mp hd
          obtain ⟨hj, rfl⟩ := rgL_at hj
          rw [show (1 : Int) + (j : Int) = ((1 + j : Nat) : Int) by omega]
          refine ⟨_, [.fz S0, .fz DR, .fz (.int (u : Nat)), .fz (.int (a : Nat)), .fz (.int (n : Nat)), .fz (wsD ws), .fz (runsD (linR n ws)), .fz (natsD ss), .fz (.int (k : Nat)), .fz (.int ((1 + j : Nat) : Int)), t10, t11, .fz (lstD o), s13, s14, t15, t16, .no, .no], rfl, ?_, _, rfl⟩
          have c3 := missing_ok (t := 1 + j) B.sz B.row B.le (by omega) (by omega) (by omega)
          rw [← e_missing] at c3
          have fin : miss (linR n ws) ss (1 + j) = [] → (sIf (b2 neD (dCall (lCons (vR 6) (lCons (vR 7) (lCons (vR 9) lNil))) f_missing) (mkL lNil)) (sRet (kD (.bool false))) sNx) [.fz S0, .fz DR, .fz (.int (u : Nat)), .fz (.int (a : Nat)), .fz (.int (n : Nat)), .fz (wsD ws), .fz (runsD (linR n ws)), .fz (natsD ss), .fz (.int (k : Nat)), .fz (.int ((1 + j : Nat) : Int)), t10, t11, .fz (lstD o), s13, s14, t15, t16, .no, .no] = some (.nx [.fz S0, .fz DR, .fz (.int (u : Nat)), .fz (.int (a : Nat)), .fz (.int (n : Nat)), .fz (wsD ws), .fz (runsD (linR n ws)), .fz (natsD ss), .fz (.int (k : Nat)), .fz (.int ((1 + j : Nat) : Int)), t10, t11, .fz (lstD o), s13, s14, t15, t16, .no, .no]) := fun hz => by
            rw [hz] at c3
            rw [sIf_f (by simp only [mkL_s, vR_s, kD_s, d1_s, d2_s, b1_s, b2_s, bV_s, dCall_s, lCons_s, lNil_s, List.set_cons_zero, List.set_cons_succ, List.getElem?_cons_zero, List.getElem?_cons_succ, Option.bind_some, List.length_nil, Nat.zero_le, if_true, c3, ne_nil])]
            rfl
          cases o with
          | none =>
            show (sIf (bOr (b1 isN (vR 12)) (b2 ltI (vR 9) (vR 12))) _ _) [.fz S0, .fz DR, .fz (.int (u : Nat)), .fz (.int (a : Nat)), .fz (.int (n : Nat)), .fz (wsD ws), .fz (runsD (linR n ws)), .fz (natsD ss), .fz (.int (k : Nat)), .fz (.int ((1 + j : Nat) : Int)), t10, t11, .fz (lstD none), s13, s14, t15, t16, .no, .no] = _
            rw [sIf_t (by rfl)]
            exact fin (c2 (1 + j) fun m hm => by cases hm)
          | some m =>
            show (sIf (bOr (b1 isN (vR 12)) (b2 ltI (vR 9) (vR 12))) _ _) [.fz S0, .fz DR, .fz (.int (u : Nat)), .fz (.int (a : Nat)), .fz (.int (n : Nat)), .fz (wsD ws), .fz (runsD (linR n ws)), .fz (natsD ss), .fz (.int (k : Nat)), .fz (.int ((1 + j : Nat) : Int)), t10, t11, .fz (.int ((m : Nat) : Int)), s13, s14, t15, t16, .no, .no] = _
            by_cases hlt : 1 + j < m
            · have a1 : ((1 + j : Nat) : Int) < (m : Int) := by omega
              rw [sIf_t (by
                simp only [bOr_s, vR_s, kD_s, d1_s, d2_s, b1_s, b2_s, bV_s, dCall_s, lCons_s, lNil_s, List.set_cons_zero, List.set_cons_succ, List.getElem?_cons_zero, List.getElem?_cons_succ, Option.bind_some, ltI_s, decide_eq_true a1]
                rfl)]
              exact fin (c2 (1 + j) fun m' hm => by
                cases hm
                exact hlt)
            · have a1 : ¬ ((1 + j : Nat) : Int) < (m : Int) := by omega
              rw [sIf_f (by
                simp only [bOr_s, vR_s, kD_s, d1_s, d2_s, b1_s, b2_s, bV_s, dCall_s, lCons_s, lNil_s, List.set_cons_zero, List.set_cons_succ, List.getElem?_cons_zero, List.getElem?_cons_succ, Option.bind_some, ltI_s, decide_eq_false a1]
                rfl)]
              rfl)
      obtain ⟨p9, rfl⟩ := g2
      refine ⟨p9, .fz (lstD o), ?_⟩
      rw [sIf_t (by simp only [vR_s, kD_s, d1_s, d2_s, b1_s, b2_s, bV_s, dCall_s, lCons_s, lNil_s, List.set_cons_zero, List.set_cons_succ, List.getElem?_cons_zero, List.getElem?_cons_succ, Option.bind_some]; rfl)]
      rw [sSeq_nx (ρ' := [.fz S0, .fz DR, .fz (.int (u : Nat)), .fz (.int (a : Nat)), .fz (.int (n : Nat)), .fz (wsD ws), .fz (runsD (linR n ws)), .fz (natsD ss), .fz (.int (k : Nat)), t9, t10, t11, .fz (lstD o), s13, s14, t15, t16, .no, .no]) (by simp only [sSet_s, vR_s, kD_s, d1_s, d2_s, b1_s, b2_s, bV_s, dCall_s, lCons_s, lNil_s, List.set_cons_zero, List.set_cons_succ, List.getElem?_cons_zero, List.getElem?_cons_succ, Option.bind_some, c1])]
      exact g1
  obtain ⟨p9, p12, res⟩ := res
  -- a level left out
  have prt : ∃ p13 p14, (sIf (bAnd (b2 gtI (vR 8) (kD (.int 1))) (b2 gtI (vR 4) (kD (.int 2)))) (sSeq (sSet 13 (dCall (lCons (vR 1) (lCons (d2 addD (vR 3) (kD (.int 70))) (lCons (vR 4) lNil))) f__law_mix))
    (sFor (iSeq (dCall (lCons (vR 6) (lCons (vR 7) (lCons (vR 13) lNil))) f_parted)) (gN 14) (sIf (b2 neD (dCall (lCons (vR 14) (lCons (dSl (vR 7) (oSome (kD (.int 1))) oNone) (lCons (d2 minD2 (kD (.int 3)) (d2 subD (vR 8) (kD (.int 1)))) lNil))) f_missing) (mkL lNil)) (sRet (kD (.bool false))) sNx))) sNx) [.fz S0, .fz DR, .fz (.int (u : Nat)), .fz (.int (a : Nat)), .fz (.int (n : Nat)), .fz W, .fz (runsD rs), .fz (natsD ss), .fz (.int (k : Nat)), p9, t10, t11, p12, s13, s14, t15, t16, .no, .no] = some (.nx [.fz S0, .fz DR, .fz (.int (u : Nat)), .fz (.int (a : Nat)), .fz (.int (n : Nat)), .fz W, .fz (runsD rs), .fz (natsD ss), .fz (.int (k : Nat)), p9, t10, t11, p12, p13, p14, t15, t16, .no, .no]) := by
    by_cases hk1 : 1 < k
    · by_cases hn2 : 2 < n
      · have a1 : (1 : Int) < (k : Int) := by omega
        have a2 : (2 : Int) < (n : Int) := by omega
        have gl : g < n := by omega
        have hv2 : ss.getD g 0 = 2 := by
          rw [← hss]
          exact rep_getD gl
        have c1 := parted_ok (g := g) B (by omega) hv2
        have cd : cutD (some 1) none (natsD ss) = some (natsD (ss.drop 1)) := by
          have := cutD_drop (ss.map fun i => PyData.int ((i : Nat) : Int)) 1 (by rw [List.length_map]; omega)
          rw [← List.map_drop] at this
          exact this
        have ed : ss.drop 1 = ss.eraseIdx g := by
          rw [← hss, List.drop_replicate, List.eraseIdx_replicate, if_pos gl]
        have eb : ss.drop 1 = List.replicate (n - 1) 2 := by rw [← hss, List.drop_replicate]
        have emn : (if ((k : Nat) : Int) - 1 < 3 then ((k : Nat) : Int) - 1 else 3) = ((min 3 (k - 1) : Nat) : Int) := by split <;> omega
        have hm : miss rs ss (min 3 (k - 1) + 1) = [] := ev_miss B.row B.pos (hE _ (by omega) (by omega))
        have hB' := rep_ok (n := n - 1) (by omega) (by omega)
        rw [← eb] at hB'
        have c2 : ∀ v, v < 2 → f_missing [runsD (partR rs g v), natsD (ss.drop 1), .int (min 3 (k - 1) : Nat)] = some (sgsD []) := fun v hv => by
          have pm := part_miss (v := v) (rs := rs) (by omega : g < ss.length) (by omega) hm
          rw [← ed] at pm
          have := missing_ok (rs := partR rs g v) (t := min 3 (k - 1)) hB' (fun r hr => by
            obtain ⟨q, hq, rfl⟩ := List.mem_map.mp hr
            rw [ed]
            exact er_row (by omega) (B.row q (List.mem_filter.mp hq).1)) (Nat.le_trans (part_len _ _ _) B.le) (by omega) (by omega) (by rw [List.length_drop]; omega)
          rw [pm] at this
          rw [e_missing]
          exact this
        obtain ⟨ρ', g1, g2⟩ := sFor_keep (fi := iSeq (dCall (lCons (vR 6) (lCons (vR 7) (lCons (vR 13) lNil))) f_parted)) (g := gN 14) (fb := (sIf (b2 neD (dCall (lCons (vR 14) (lCons (dSl (vR 7) (oSome (kD (.int 1))) oNone) (lCons (d2 minD2 (kD (.int 3)) (d2 subD (vR 8) (kD (.int 1)))) lNil))) f_missing) (mkL lNil)) (sRet (kD (.bool false))) sNx))
          (ρ := [.fz S0, .fz DR, .fz (.int (u : Nat)), .fz (.int (a : Nat)), .fz (.int (n : Nat)), .fz W, .fz (runsD rs), .fz (natsD ss), .fz (.int (k : Nat)), p9, t10, t11, p12, .fz (.int (g : Nat)), s14, t15, t16, .no, .no]) (ds := [runsD (partR rs g 0), runsD (partR rs g 1)])
          (fun ρ => ∃ p14, ρ = [.fz S0, .fz DR, .fz (.int (u : Nat)), .fz (.int (a : Nat)), .fz (.int (n : Nat)), .fz W, .fz (runsD rs), .fz (natsD ss), .fz (.int (k : Nat)), p9, t10, t11, p12, .fz (.int (g : Nat)), p14, t15, t16, .no, .no])
          (by simp only [iSeq_s, vR_s, kD_s, d1_s, d2_s, b1_s, b2_s, bV_s, dCall_s, lCons_s, lNil_s, List.set_cons_zero, List.set_cons_succ, List.getElem?_cons_zero, List.getElem?_cons_succ, Option.bind_some, c1, seqOf_l]) ⟨_, rfl⟩ (fun d hd ρ ⟨p14, e⟩ => by
            subst e
            obtain ⟨v, hv, rfl⟩ : ∃ v, v < 2 ∧ d = runsD (partR rs g v) := by
              rcases List.mem_cons.mp hd with e | e
              · exact ⟨0, by decide, e⟩
              · exact ⟨1, by decide, List.mem_singleton.mp e⟩
            refine ⟨_, [.fz S0, .fz DR, .fz (.int (u : Nat)), .fz (.int (a : Nat)), .fz (.int (n : Nat)), .fz W, .fz (runsD rs), .fz (natsD ss), .fz (.int (k : Nat)), p9, t10, t11, p12, .fz (.int (g : Nat)), .fz (runsD (partR rs g v)), t15, t16, .no, .no], rfl, ?_, _, rfl⟩
            have c3 := c2 v hv
            rw [sIf_f (by simp only [mkL_s, dSl_s, oSome_s, oNone_s, vR_s, kD_s, d1_s, d2_s, b1_s, b2_s, bV_s, dCall_s, lCons_s, lNil_s, List.set_cons_zero, List.set_cons_succ, List.getElem?_cons_zero, List.getElem?_cons_succ, Option.bind_some, subD_i, minD2_i, emn, cd, List.length_nil, Nat.zero_le, if_true, c3, ne_nil])]
            rfl)
        obtain ⟨p14, rfl⟩ := g2
        refine ⟨.fz (.int (g : Nat)), p14, ?_⟩
        rw [sIf_t (by simp only [bAnd_s, vR_s, kD_s, d1_s, d2_s, b1_s, b2_s, bV_s, dCall_s, lCons_s, lNil_s, List.set_cons_zero, List.set_cons_succ, List.getElem?_cons_zero, List.getElem?_cons_succ, Option.bind_some, gtI_s, decide_eq_true a1, decide_eq_true a2, if_true])]
        rw [sSeq_nx (ρ' := [.fz S0, .fz DR, .fz (.int (u : Nat)), .fz (.int (a : Nat)), .fz (.int (n : Nat)), .fz W, .fz (runsD rs), .fz (natsD ss), .fz (.int (k : Nat)), p9, t10, t11, p12, .fz (.int (g : Nat)), s14, t15, t16, .no, .no]) (by simp only [sSet_s, vR_s, kD_s, d1_s, d2_s, b1_s, b2_s, bV_s, dCall_s, lCons_s, lNil_s, List.set_cons_zero, List.set_cons_succ, List.getElem?_cons_zero, List.getElem?_cons_succ, Option.bind_some, addD_i, q5])]
        exact g1
      · have a1 : (1 : Int) < (k : Int) := by omega
        have a2 : ¬ (2 : Int) < (n : Int) := by omega
        refine ⟨s13, s14, ?_⟩
        rw [sIf_f (by simp only [bAnd_s, vR_s, kD_s, d1_s, d2_s, b1_s, b2_s, bV_s, dCall_s, lCons_s, lNil_s, List.set_cons_zero, List.set_cons_succ, List.getElem?_cons_zero, List.getElem?_cons_succ, Option.bind_some, gtI_s, decide_eq_true a1, decide_eq_false a2, if_true])]
        rfl
    · have a1 : ¬ (1 : Int) < (k : Int) := by omega
      refine ⟨s13, s14, ?_⟩
      rw [sIf_f (by simp only [bAnd_s, vR_s, kD_s, d1_s, d2_s, b1_s, b2_s, bV_s, dCall_s, lCons_s, lNil_s, List.set_cons_zero, List.set_cons_succ, List.getElem?_cons_zero, List.getElem?_cons_succ, Option.bind_some, gtI_s, decide_eq_false a1, Bool.false_eq_true, if_false])]
      rfl
  obtain ⟨p13, p14, prt⟩ := prt
  refine ⟨.fz (.int (a : Nat)), .fz (.int (n : Nat)), .fz W, .fz (runsD rs), .fz (natsD ss), .fz (.int (k : Nat)), p9, t10, t11, p12, p13, p14, t15, t16, ?_⟩
  unfold turnB
  rw [sSeq_nx (ρ' := [.fz S0, .fz DR, .fz (.int (u : Nat)), .fz (.int (a : Nat)), s4, s5, s6, s7, s8, s9, s10, s11, s12, s13, s14, s15, s16, .no, .no]) (by simp only [sSet_s, vR_s, kD_s, d1_s, d2_s, b1_s, b2_s, bV_s, dCall_s, lCons_s, lNil_s, List.set_cons_zero, List.set_cons_succ, List.getElem?_cons_zero, List.getElem?_cons_succ, Option.bind_some, mulI_i, m0, if_true, addD_i, ea])]
  rw [sSeq_nx (ρ' := [.fz S0, .fz DR, .fz (.int (u : Nat)), .fz (.int (a : Nat)), .fz (.int (n : Nat)), s5, s6, s7, s8, s9, s10, s11, s12, s13, s14, s15, s16, .no, .no]) (by simp only [sSet_s, vR_s, kD_s, d1_s, d2_s, b1_s, b2_s, bV_s, dCall_s, lCons_s, lNil_s, List.set_cons_zero, List.set_cons_succ, List.getElem?_cons_zero, List.getElem?_cons_succ, Option.bind_some, q1, addD_i, en])]
  rw [sSeq_nx (ρ' := [.fz S0, .fz DR, .fz (.int (u : Nat)), .fz (.int (a : Nat)), .fz (.int (n : Nat)), .fz (wsD ws), s6, s7, s8, s9, s10, s11, s12, s13, s14, s15, s16, .no, .no]) (by simp only [sSet_s, vR_s, kD_s, d1_s, d2_s, b1_s, b2_s, bV_s, dCall_s, lCons_s, lNil_s, List.set_cons_zero, List.set_cons_succ, List.getElem?_cons_zero, List.getElem?_cons_succ, Option.bind_some, addD_i, q2])]
  rw [sSeq_nx (ρ' := [.fz S0, .fz DR, .fz (.int (u : Nat)), .fz (.int (a : Nat)), .fz (.int (n : Nat)), .fz (wsD ws), .fz (runsD (linR n ws)), .fz (natsD ss), s8, s9, s10, s11, s12, s13, s14, s15, s16, .no, .no]) (by simp only [sPar_s, mkL_s, vR_s, kD_s, d1_s, d2_s, b1_s, b2_s, bV_s, dCall_s, lCons_s, lNil_s, List.set_cons_zero, List.set_cons_succ, List.getElem?_cons_zero, List.getElem?_cons_succ, Option.bind_some, q3, List.length_cons, List.length_nil, Nat.zero_add, Nat.reduceLeDiff, if_true, qr])]
  rw [sSeq_nx tab]
  rw [sSeq_nx (ρ' := [.fz S0, .fz DR, .fz (.int (u : Nat)), .fz (.int (a : Nat)), .fz (.int (n : Nat)), .fz W, .fz (runsD rs), .fz (natsD ss), .fz (.int (k : Nat)), s9, s10, s11, s12, s13, s14, s15, s16, .no, .no]) (by simp only [sSet_s, vR_s, kD_s, d1_s, d2_s, b1_s, b2_s, bV_s, dCall_s, lCons_s, lNil_s, List.set_cons_zero, List.set_cons_succ, List.getElem?_cons_zero, List.getElem?_cons_succ, Option.bind_some, q6])]
  rw [sSeq_nx tlp]
  rw [sSeq_nx res]
  exact prt
end Zx.k95
/-! E6: the law (printed by mklaw.py). -/
namespace Zx.k95
open PySem PySem.Spec L2 PySem.W Zx
theorem law_true (ns : List Int) (hn : ns.length ≤ 63) : f_law [scrD ns] = some (.bool true) := by
  obtain ⟨dr, hdr, hd⟩ := draws_ok ns hn
  rw [← e_draws] at hdr
  generalize hS : scrD ns = S at *
  have r1 := rg1_nat (n := 2) (by decide)
  obtain ⟨ρ', g1, g2⟩ := sFor_ok (fi := iR1 (kD (.int 2))) (g := gN 2) (fb := turnB)
    (ρ := [.fz S, .fz (.list (dr.map .int)), .no, .no, .no, .no, .no, .no, .no, .no, .no, .no, .no, .no, .no, .no, .no, .no, .no]) (ds := (List.range 2).map fun i => PyData.int ((i : Nat) : Int))
    (fun j ρ => ∃ s2 s3 s4 s5 s6 s7 s8 s9 s10 s11 s12 s13 s14 s15 s16, ρ = [.fz S, .fz (.list (dr.map .int)), s2, s3, s4, s5, s6, s7, s8, s9, s10, s11, s12, s13, s14, s15, s16, .no, .no])
    (by
      have : iR1 (kD (.int 2)) [.fz S, .fz (.list (dr.map .int)), .no, .no, .no, .no, .no, .no, .no, .no, .no, .no, .no, .no, .no, .no, .no, .no, .no] = rg1 (.int 2) := rfl
      rw [this]
      exact r1) ⟨_, _, _, _, _, _, _, _, _, _, _, _, _, _, _, rfl⟩ (fun j d ρ hd' ⟨s2, s3, s4, s5, s6, s7, s8, s9, s10, s11, s12, s13, s14, s15, s16, e⟩ => by
      subst e
      rw [List.getElem?_map, Option.map_eq_some_iff] at hd'
      obtain ⟨i, hi, rfl⟩ := hd'
      have hi2 := List.mem_range.mp (List.mem_of_getElem? hi)
      obtain ⟨t3, t4, t5, t6, t7, t8, t9, t10, t11, t12, t13, t14, t15, t16, ht⟩ := turn_ok hd S i hi2 s3 s4 s5 s6 s7 s8 s9 s10 s11 s12 s13 s14 s15 s16
      exact ⟨_, _, rfl, ht, _, .inl rfl, _, _, _, _, _, _, _, _, _, _, _, _, _, _, _, rfl⟩)
  obtain ⟨s2, s3, s4, s5, s6, s7, s8, s9, s10, s11, s12, s13, s14, s15, s16, rfl⟩ := g2
  unfold f_law D_law
  rw [runX_s]
  rw [show env0 19 [S] = [.fz S, .no, .no, .no, .no, .no, .no, .no, .no, .no, .no, .no, .no, .no, .no, .no, .no, .no, .no] from rfl]
  rw [sSeq_nx (ρ' := [.fz S, .fz (.list (dr.map .int)), .no, .no, .no, .no, .no, .no, .no, .no, .no, .no, .no, .no, .no, .no, .no, .no, .no]) (by
    simp only [sSet_s, dCall_s, lCons_s, lNil_s, vR_s, List.set_cons_zero, List.set_cons_succ, List.getElem?_cons_zero, List.getElem?_cons_succ, Option.bind_some, hdr])]
  rw [sSeq_nx g1]
  rfl
end Zx.k95
namespace Zx.k95
open PySem PySem.Spec PyProof.Rows L2 Zx
/-! ### the head -/
def d__law_draws : He.DefD := ⟨("_law_draws", none), "_law_draws", "_law_draws", defArgs (topOf PR 67), defBody (topOf PR 67), defScope (topOf PR 67), [], []⟩
def d__law_mix : He.DefD := ⟨("_law_mix", none), "_law_mix", "_law_mix", defArgs (topOf PR 68), defBody (topOf PR 68), defScope (topOf PR 68), [], []⟩
def d__law_words : He.DefD := ⟨("_law_words", none), "_law_words", "_law_words", defArgs (topOf PR 69), defBody (topOf PR 69), defScope (topOf PR 69), [], []⟩
def d_check_sizes : He.DefD := ⟨("check_sizes", none), "check_sizes", "check_sizes", defArgs (topOf PR 15), defBody (topOf PR 15), defScope (topOf PR 15), [], []⟩
def d_check_runs : He.DefD := ⟨("check_runs", none), "check_runs", "check_runs", defArgs (topOf PR 16), defBody (topOf PR 16), defScope (topOf PR 16), [], []⟩
def d_subsets : He.DefD := ⟨("subsets", none), "subsets", "subsets", defArgs (topOf PR 21), defBody (topOf PR 21), defScope (topOf PR 21), [], []⟩
def d_levels_at : He.DefD := ⟨("levels_at", none), "levels_at", "levels_at", defArgs (topOf PR 18), defBody (topOf PR 18), defScope (topOf PR 18), [], []⟩
def d_counts_at : He.DefD := ⟨("counts_at", none), "counts_at", "counts_at", defArgs (topOf PR 19), defBody (topOf PR 19), defScope (topOf PR 19), [], []⟩
def d_all_levels : He.DefD := ⟨("all_levels", none), "all_levels", "all_levels", defArgs (topOf PR 20), defBody (topOf PR 20), defScope (topOf PR 20), [], []⟩
def d_uneven_at : He.DefD := ⟨("uneven_at", none), "uneven_at", "uneven_at", defArgs (topOf PR 61), defBody (topOf PR 61), defScope (topOf PR 61), [], []⟩
def d_uneven_of : He.DefD := ⟨("uneven_of", none), "uneven_of", "uneven_of", defArgs (topOf PR 62), defBody (topOf PR 62), defScope (topOf PR 62), [], []⟩
def d_strength_of : He.DefD := ⟨("strength_of", none), "strength_of", "strength_of", defArgs (topOf PR 63), defBody (topOf PR 63), defScope (topOf PR 63), [], []⟩
def d_strength : He.DefD := ⟨("strength", none), "strength", "strength", defArgs (topOf PR 64), defBody (topOf PR 64), defScope (topOf PR 64), [], []⟩
def d_check_number_groups : He.DefD := ⟨("check_number_groups", none), "check_number", "check_number", defArgs (topOf PR 47), defBody (topOf PR 47), defScope (topOf PR 47), [], []⟩
def d_is_word : He.DefD := ⟨("is_word", none), "is_word", "is_word", defArgs (topOf PR 49), defBody (topOf PR 49), defScope (topOf PR 49), [], []⟩
def d_check_words : He.DefD := ⟨("check_words", none), "check_words", "check_words", defArgs (topOf PR 50), defBody (topOf PR 50), defScope (topOf PR 50), [], []⟩
def d_all_rows : He.DefD := ⟨("all_rows", none), "all_rows", "all_rows", defArgs (topOf PR 55), defBody (topOf PR 55), defScope (topOf PR 55), [], []⟩
def d_is_even : He.DefD := ⟨("is_even", none), "is_even", "is_even", defArgs (topOf PR 54), defBody (topOf PR 54), defScope (topOf PR 54), [], []⟩
def d_runs_by : He.DefD := ⟨("runs_by", none), "runs_by", "runs_by", defArgs (topOf PR 56), defBody (topOf PR 56), defScope (topOf PR 56), [], []⟩
def d_runs_of : He.DefD := ⟨("runs_of", none), "runs_of", "runs_of", defArgs (topOf PR 57), defBody (topOf PR 57), defScope (topOf PR 57), [], []⟩
def d_check_some : He.DefD := ⟨("check_some", none), "check_some", "check_some", defArgs (topOf PR 34), defBody (topOf PR 34), defScope (topOf PR 34), [], []⟩
def d_product_of : He.DefD := ⟨("product_of", none), "product_of", "product_of", defArgs (topOf PR 28), defBody (topOf PR 28), defScope (topOf PR 28), [], []⟩
def d_check_full : He.DefD := ⟨("check_full", none), "check_full", "check_full", defArgs (topOf PR 29), defBody (topOf PR 29), defScope (topOf PR 29), [], []⟩
def d_check_number_sights : He.DefD := ⟨("check_number_sights", none), "check_number", "check_number", defArgs (topOf PR 31), defBody (topOf PR 31), defScope (topOf PR 31), [], []⟩
def d_check_sights : He.DefD := ⟨("check_sights", none), "check_sights", "check_sights", defArgs (topOf PR 30), defBody (topOf PR 30), defScope (topOf PR 30), [], []⟩
def d_check_covering : He.DefD := ⟨("check_covering", none), "check_covering", "check_covering", defArgs (topOf PR 33), defBody (topOf PR 33), defScope (topOf PR 33), [], []⟩
def d_sights_of : He.DefD := ⟨("sights_of", none), "sights_of", "sights_of", defArgs (topOf PR 35), defBody (topOf PR 35), defScope (topOf PR 35), [], []⟩
def d_has : He.DefD := ⟨("has", none), "has", "has", defArgs (topOf PR 36), defBody (topOf PR 36), defScope (topOf PR 36), [], []⟩
def d_missing_of : He.DefD := ⟨("missing_of", none), "missing_of", "missing_of", defArgs (topOf PR 37), defBody (topOf PR 37), defScope (topOf PR 37), [], []⟩
def d_missing : He.DefD := ⟨("missing", none), "missing", "missing", defArgs (topOf PR 41), defBody (topOf PR 41), defScope (topOf PR 41), [], []⟩
def d_next_of : He.DefD := ⟨("next_of", none), "next_of", "next_of", defArgs (topOf PR 39), defBody (topOf PR 39), defScope (topOf PR 39), [], []⟩
def d_greedy : He.DefD := ⟨("greedy", none), "greedy", "greedy", defArgs (topOf PR 43), defBody (topOf PR 43), defScope (topOf PR 43), [], []⟩
def d_order_of : He.DefD := ⟨("order_of", none), "order_of", "order_of", defArgs (topOf PR 52), defBody (topOf PR 52), defScope (topOf PR 52), [], []⟩
def d_product : He.DefD := ⟨("product", none), "product", "product", defArgs (topOf PR 51), defBody (topOf PR 51), defScope (topOf PR 51), [], []⟩
def d_group_of : He.DefD := ⟨("group_of", none), "group_of", "group_of", defArgs (topOf PR 53), defBody (topOf PR 53), defScope (topOf PR 53), [], []⟩
def d_resolution : He.DefD := ⟨("resolution", none), "resolution", "resolution", defArgs (topOf PR 59), defBody (topOf PR 59), defScope (topOf PR 59), [], []⟩
def d_check_factors : He.DefD := ⟨("check_factors", none), "check_factors", "check_factors", defArgs (topOf PR 17), defBody (topOf PR 17), defScope (topOf PR 17), [], []⟩
def d_parted : He.DefD := ⟨("parted", none), "parted", "parted", defArgs (topOf PR 23), defBody (topOf PR 23), defScope (topOf PR 23), [], []⟩
def d_sights : He.DefD := ⟨("sights", none), "sights", "sights", defArgs (topOf PR 40), defBody (topOf PR 40), defScope (topOf PR 40), [], []⟩
def d_floor_of : He.DefD := ⟨("floor_of", none), "floor_of", "floor_of", defArgs (topOf PR 38), defBody (topOf PR 38), defScope (topOf PR 38), [], []⟩
def d_floor : He.DefD := ⟨("floor", none), "floor", "floor", defArgs (topOf PR 42), defBody (topOf PR 42), defScope (topOf PR 42), [], []⟩
def d_uneven : He.DefD := ⟨("uneven", none), "uneven", "uneven", defArgs (topOf PR 65), defBody (topOf PR 65), defScope (topOf PR 65), [], []⟩
def d_counts : He.DefD := ⟨("counts", none), "counts", "counts", defArgs (topOf PR 22), defBody (topOf PR 22), defScope (topOf PR 22), [], []⟩
def d_law : He.DefD := ⟨("law", none), "law", "law", defArgs (topOf PR 70), defBody (topOf PR 70), defScope (topOf PR 70), [], []⟩
def fn : List He.DefD := [d__law_draws, d__law_mix, d__law_words, d_check_sizes, d_check_runs, d_subsets, d_levels_at, d_counts_at, d_all_levels, d_uneven_at, d_uneven_of, d_strength_of, d_strength, d_check_number_groups, d_is_word, d_check_words, d_all_rows, d_is_even, d_runs_by, d_runs_of, d_check_some, d_product_of, d_check_full, d_check_number_sights, d_check_sights, d_check_covering, d_sights_of, d_has, d_missing_of, d_missing, d_next_of, d_greedy, d_order_of, d_product, d_group_of, d_resolution, d_check_factors, d_parted, d_sights, d_floor_of, d_floor, d_uneven, d_counts, d_law]
def fa : List He.Fa := [.glo "_law_draws", .glo "_law_mix", .glo "_law_words", .glo "check_sizes", .glo "check_runs", .glo "subsets", .glo "levels_at", .glo "counts_at", .glo "all_levels", .glo "uneven_at", .glo "uneven_of", .glo "strength_of", .glo "strength", .glo "check_number_groups", .glo "is_word", .glo "check_words", .glo "all_rows", .glo "is_even", .glo "runs_by", .glo "runs_of", .glo "check_some", .glo "product_of", .glo "check_full", .glo "check_number_sights", .glo "check_sights", .glo "check_covering", .glo "sights_of", .glo "has", .glo "missing_of", .glo "missing", .glo "next_of", .glo "greedy", .glo "order_of", .glo "product", .glo "group_of", .glo "resolution", .glo "check_factors", .glo "parted", .glo "sights", .glo "floor_of", .glo "floor", .glo "uneven", .glo "counts", .glo "law", .free "abs", .free "all", .free "any", .free "enumerate", .free "int", .free "len", .free "max", .free "min", .free "range", .free "sorted", .free "sum", .free "tuple", .free "zip", .int "LEAST_SIZE" (2), .int "MOST_COVERED" (6), .int "MOST_FACTORS_groups" (7), .int "MOST_FACTORS_runs" (8), .int "MOST_FULL" (64), .int "MOST_RUNS" (64), .int "MOST_SIZE" (5), .int "MOST_T" (3), .int "MOST_WORDS" (6)]
def loose : List PySem.Str := (["__name__", "WareError", "OutOfRange", "TooMany", "TooLarge", "WrongSize", "NotASet", "BadSizes", "BadRun", "BadWord", "MOST_RUNS", "MOST_FACTORS_runs", "LEAST_SIZE", "MOST_SIZE", "check_sizes", "check_runs", "check_factors", "levels_at", "counts_at", "all_levels", "subsets", "counts", "parted", "MOST_COVERED", "MOST_FULL", "MOST_T", "product_of", "check_full", "check_sights", "check_number"] : List PySem.Str) ++ (["check_number_sights", "check_covering", "check_some", "sights_of", "has", "missing_of", "floor_of", "next_of", "sights", "missing", "floor", "greedy", "MOST_FACTORS_groups", "MOST_WORDS", "check_number_groups", "is_word", "check_words", "product", "order_of", "group_of", "is_even", "all_rows", "runs_by", "runs_of", "resolution", "uneven_at", "uneven_of", "strength_of", "strength", "uneven"] : List PySem.Str) ++ (["_law_draws", "_law_mix", "_law_words"] : List PySem.Str)
abbrev R : PySem.W.OpenRow := PySem.W.OpenLaw.row PySem.Challenge.rw_triedwares_k95_whole_strong_tables_cover
abbrev hk : PySem.W.Hook := He.hookD 4 fa fn
def ob (s : PySem.W.SharedT) : He.AlD := He.obsDG 4 fa fn (HandSHeadRun.getT s)
theorem ob_eq (s : PySem.W.SharedT) : ob s = hk.obs s.abs := He.obsDG_eq (HandSHeadRun.getT_eq s)
theorem run (w : World) : HandSHeadRun.RunEq R (PySem.W.view R.prog [70]) hk ob 6000 loose w := by
  intro os
  kernel_rfl
theorem facts {w : World} {K : PySem.W.Frag} {mg : Str → Option Value} {h : Heap} {f : Addr} (X : K.In h) (G : h.Ns mainGlobals mg) (hfa : mg ("law" : Str) = some (.ref f)) (c : He.SaysD fa fn K) :
    ∃ fd : FuncData, (∀ (s : Shared) (v : Value), BindsTo s fd ⟨[v], []⟩ [("script", v)]) ∧ ∀ base : Heap, K.In base → base.Ns mainGlobals mg → FnOk PR w K mg base CX0 7 f fd ["script"] (spX K 1 f_law) := by
  obtain ⟨fd__law_draws, F__law_draws⟩ := c.def_ 0 (d := d__law_draws) rfl
  have m__law_draws := He.glo_ok X G (c.fact 0 (f := .glo "_law_draws") rfl)
  obtain ⟨fd__law_mix, F__law_mix⟩ := c.def_ 1 (d := d__law_mix) rfl
  have m__law_mix := He.glo_ok X G (c.fact 1 (f := .glo "_law_mix") rfl)
  obtain ⟨fd__law_words, F__law_words⟩ := c.def_ 2 (d := d__law_words) rfl
  have m__law_words := He.glo_ok X G (c.fact 2 (f := .glo "_law_words") rfl)
  obtain ⟨fd_check_sizes, F_check_sizes⟩ := c.def_ 3 (d := d_check_sizes) rfl
  have m_check_sizes := He.glo_ok X G (c.fact 3 (f := .glo "check_sizes") rfl)
  obtain ⟨fd_check_runs, F_check_runs⟩ := c.def_ 4 (d := d_check_runs) rfl
  have m_check_runs := He.glo_ok X G (c.fact 4 (f := .glo "check_runs") rfl)
  obtain ⟨fd_subsets, F_subsets⟩ := c.def_ 5 (d := d_subsets) rfl
  have m_subsets := He.glo_ok X G (c.fact 5 (f := .glo "subsets") rfl)
  obtain ⟨fd_levels_at, F_levels_at⟩ := c.def_ 6 (d := d_levels_at) rfl
  have m_levels_at := He.glo_ok X G (c.fact 6 (f := .glo "levels_at") rfl)
  obtain ⟨fd_counts_at, F_counts_at⟩ := c.def_ 7 (d := d_counts_at) rfl
  have m_counts_at := He.glo_ok X G (c.fact 7 (f := .glo "counts_at") rfl)
  obtain ⟨fd_all_levels, F_all_levels⟩ := c.def_ 8 (d := d_all_levels) rfl
  have m_all_levels := He.glo_ok X G (c.fact 8 (f := .glo "all_levels") rfl)
  obtain ⟨fd_uneven_at, F_uneven_at⟩ := c.def_ 9 (d := d_uneven_at) rfl
  have m_uneven_at := He.glo_ok X G (c.fact 9 (f := .glo "uneven_at") rfl)
  obtain ⟨fd_uneven_of, F_uneven_of⟩ := c.def_ 10 (d := d_uneven_of) rfl
  have m_uneven_of := He.glo_ok X G (c.fact 10 (f := .glo "uneven_of") rfl)
  obtain ⟨fd_strength_of, F_strength_of⟩ := c.def_ 11 (d := d_strength_of) rfl
  have m_strength_of := He.glo_ok X G (c.fact 11 (f := .glo "strength_of") rfl)
  obtain ⟨fd_strength, F_strength⟩ := c.def_ 12 (d := d_strength) rfl
  have m_strength := He.glo_ok X G (c.fact 12 (f := .glo "strength") rfl)
  obtain ⟨fd_check_number_groups, F_check_number_groups⟩ := c.def_ 13 (d := d_check_number_groups) rfl
  have m_check_number_groups := He.glo_ok X G (c.fact 13 (f := .glo "check_number_groups") rfl)
  obtain ⟨fd_is_word, F_is_word⟩ := c.def_ 14 (d := d_is_word) rfl
  have m_is_word := He.glo_ok X G (c.fact 14 (f := .glo "is_word") rfl)
  obtain ⟨fd_check_words, F_check_words⟩ := c.def_ 15 (d := d_check_words) rfl
  have m_check_words := He.glo_ok X G (c.fact 15 (f := .glo "check_words") rfl)
  obtain ⟨fd_all_rows, F_all_rows⟩ := c.def_ 16 (d := d_all_rows) rfl
  have m_all_rows := He.glo_ok X G (c.fact 16 (f := .glo "all_rows") rfl)
  obtain ⟨fd_is_even, F_is_even⟩ := c.def_ 17 (d := d_is_even) rfl
  have m_is_even := He.glo_ok X G (c.fact 17 (f := .glo "is_even") rfl)
  obtain ⟨fd_runs_by, F_runs_by⟩ := c.def_ 18 (d := d_runs_by) rfl
  have m_runs_by := He.glo_ok X G (c.fact 18 (f := .glo "runs_by") rfl)
  obtain ⟨fd_runs_of, F_runs_of⟩ := c.def_ 19 (d := d_runs_of) rfl
  have m_runs_of := He.glo_ok X G (c.fact 19 (f := .glo "runs_of") rfl)
  obtain ⟨fd_check_some, F_check_some⟩ := c.def_ 20 (d := d_check_some) rfl
  have m_check_some := He.glo_ok X G (c.fact 20 (f := .glo "check_some") rfl)
  obtain ⟨fd_product_of, F_product_of⟩ := c.def_ 21 (d := d_product_of) rfl
  have m_product_of := He.glo_ok X G (c.fact 21 (f := .glo "product_of") rfl)
  obtain ⟨fd_check_full, F_check_full⟩ := c.def_ 22 (d := d_check_full) rfl
  have m_check_full := He.glo_ok X G (c.fact 22 (f := .glo "check_full") rfl)
  obtain ⟨fd_check_number_sights, F_check_number_sights⟩ := c.def_ 23 (d := d_check_number_sights) rfl
  have m_check_number_sights := He.glo_ok X G (c.fact 23 (f := .glo "check_number_sights") rfl)
  obtain ⟨fd_check_sights, F_check_sights⟩ := c.def_ 24 (d := d_check_sights) rfl
  have m_check_sights := He.glo_ok X G (c.fact 24 (f := .glo "check_sights") rfl)
  obtain ⟨fd_check_covering, F_check_covering⟩ := c.def_ 25 (d := d_check_covering) rfl
  have m_check_covering := He.glo_ok X G (c.fact 25 (f := .glo "check_covering") rfl)
  obtain ⟨fd_sights_of, F_sights_of⟩ := c.def_ 26 (d := d_sights_of) rfl
  have m_sights_of := He.glo_ok X G (c.fact 26 (f := .glo "sights_of") rfl)
  obtain ⟨fd_has, F_has⟩ := c.def_ 27 (d := d_has) rfl
  have m_has := He.glo_ok X G (c.fact 27 (f := .glo "has") rfl)
  obtain ⟨fd_missing_of, F_missing_of⟩ := c.def_ 28 (d := d_missing_of) rfl
  have m_missing_of := He.glo_ok X G (c.fact 28 (f := .glo "missing_of") rfl)
  obtain ⟨fd_missing, F_missing⟩ := c.def_ 29 (d := d_missing) rfl
  have m_missing := He.glo_ok X G (c.fact 29 (f := .glo "missing") rfl)
  obtain ⟨fd_next_of, F_next_of⟩ := c.def_ 30 (d := d_next_of) rfl
  have m_next_of := He.glo_ok X G (c.fact 30 (f := .glo "next_of") rfl)
  obtain ⟨fd_greedy, F_greedy⟩ := c.def_ 31 (d := d_greedy) rfl
  have m_greedy := He.glo_ok X G (c.fact 31 (f := .glo "greedy") rfl)
  obtain ⟨fd_order_of, F_order_of⟩ := c.def_ 32 (d := d_order_of) rfl
  have m_order_of := He.glo_ok X G (c.fact 32 (f := .glo "order_of") rfl)
  obtain ⟨fd_product, F_product⟩ := c.def_ 33 (d := d_product) rfl
  have m_product := He.glo_ok X G (c.fact 33 (f := .glo "product") rfl)
  obtain ⟨fd_group_of, F_group_of⟩ := c.def_ 34 (d := d_group_of) rfl
  have m_group_of := He.glo_ok X G (c.fact 34 (f := .glo "group_of") rfl)
  obtain ⟨fd_resolution, F_resolution⟩ := c.def_ 35 (d := d_resolution) rfl
  have m_resolution := He.glo_ok X G (c.fact 35 (f := .glo "resolution") rfl)
  obtain ⟨fd_check_factors, F_check_factors⟩ := c.def_ 36 (d := d_check_factors) rfl
  have m_check_factors := He.glo_ok X G (c.fact 36 (f := .glo "check_factors") rfl)
  obtain ⟨fd_parted, F_parted⟩ := c.def_ 37 (d := d_parted) rfl
  have m_parted := He.glo_ok X G (c.fact 37 (f := .glo "parted") rfl)
  obtain ⟨fd_sights, F_sights⟩ := c.def_ 38 (d := d_sights) rfl
  have m_sights := He.glo_ok X G (c.fact 38 (f := .glo "sights") rfl)
  obtain ⟨fd_floor_of, F_floor_of⟩ := c.def_ 39 (d := d_floor_of) rfl
  have m_floor_of := He.glo_ok X G (c.fact 39 (f := .glo "floor_of") rfl)
  obtain ⟨fd_floor, F_floor⟩ := c.def_ 40 (d := d_floor) rfl
  have m_floor := He.glo_ok X G (c.fact 40 (f := .glo "floor") rfl)
  obtain ⟨fd_uneven, F_uneven⟩ := c.def_ 41 (d := d_uneven) rfl
  have m_uneven := He.glo_ok X G (c.fact 41 (f := .glo "uneven") rfl)
  obtain ⟨fd_counts, F_counts⟩ := c.def_ 42 (d := d_counts) rfl
  have m_counts := He.glo_ok X G (c.fact 42 (f := .glo "counts") rfl)
  obtain ⟨fd_law, F_law⟩ := c.def_ 43 (d := d_law) rfl
  have h_abs := He.free_ok X G (c.fact 44 (f := .free "abs") rfl)
  have h_all := He.free_ok X G (c.fact 45 (f := .free "all") rfl)
  have h_any := He.free_ok X G (c.fact 46 (f := .free "any") rfl)
  have h_enumerate := He.free_ok X G (c.fact 47 (f := .free "enumerate") rfl)
  have h_int := He.free_ok X G (c.fact 48 (f := .free "int") rfl)
  have h_len := He.free_ok X G (c.fact 49 (f := .free "len") rfl)
  have h_max := He.free_ok X G (c.fact 50 (f := .free "max") rfl)
  have h_min := He.free_ok X G (c.fact 51 (f := .free "min") rfl)
  have h_range := He.free_ok X G (c.fact 52 (f := .free "range") rfl)
  have h_sorted := He.free_ok X G (c.fact 53 (f := .free "sorted") rfl)
  have h_sum := He.free_ok X G (c.fact 54 (f := .free "sum") rfl)
  have h_tuple := He.free_ok X G (c.fact 55 (f := .free "tuple") rfl)
  have h_zip := He.free_ok X G (c.fact 56 (f := .free "zip") rfl)
  obtain ⟨t_LEAST_SIZE, h_LEAST_SIZE⟩ := He.int_ok X G (c.fact 57 (f := .int "LEAST_SIZE" (2)) rfl)
  obtain ⟨t_MOST_COVERED, h_MOST_COVERED⟩ := He.int_ok X G (c.fact 58 (f := .int "MOST_COVERED" (6)) rfl)
  obtain ⟨t_MOST_FACTORS_groups, h_MOST_FACTORS_groups⟩ := He.int_ok X G (c.fact 59 (f := .int "MOST_FACTORS_groups" (7)) rfl)
  obtain ⟨t_MOST_FACTORS_runs, h_MOST_FACTORS_runs⟩ := He.int_ok X G (c.fact 60 (f := .int "MOST_FACTORS_runs" (8)) rfl)
  obtain ⟨t_MOST_FULL, h_MOST_FULL⟩ := He.int_ok X G (c.fact 61 (f := .int "MOST_FULL" (64)) rfl)
  obtain ⟨t_MOST_RUNS, h_MOST_RUNS⟩ := He.int_ok X G (c.fact 62 (f := .int "MOST_RUNS" (64)) rfl)
  obtain ⟨t_MOST_SIZE, h_MOST_SIZE⟩ := He.int_ok X G (c.fact 63 (f := .int "MOST_SIZE" (5)) rfl)
  obtain ⟨t_MOST_T, h_MOST_T⟩ := He.int_ok X G (c.fact 64 (f := .int "MOST_T" (3)) rfl)
  obtain ⟨t_MOST_WORDS, h_MOST_WORDS⟩ := He.int_ok X G (c.fact 65 (f := .int "MOST_WORDS" (6)) rfl)
  have e := hfa.symm.trans (He.glo_ok X G (c.fact 43 (f := .glo "law") rfl))
  cases e
  have bl := FunD.bindsA (ps := ["script"]) F_law fun _ _ _ _ _ _ us hl => match us, hl with | [_], _ => rfl
  refine ⟨fd_law, fun s v => bl s [v] rfl, fun base _ _ => ?_⟩
  have kd_order_of : KeyDef K mg "order_of" := ⟨_, fd_order_of, _, _, _, _, _, _, _, _, _, _, F_order_of, m_order_of, keyS_by (by kernel_rfl), fun _ _ _ _ _ _ _ => rfl⟩
  have c__law_draws : FX PR w K mg base 1 "_law_draws" 1 f__law_draws := fx_of F__law_draws sc__law_draws m__law_draws (fun _ _ _ _ _ _ us hl => match us, hl with | [_], _ => rfl) rfl (b__law_draws h_abs h_int h_len h_min h_range)
  have c__law_mix : FX PR w K mg base 1 "_law_mix" 3 f__law_mix := fx_of F__law_mix sc__law_mix m__law_mix (fun _ _ _ _ _ _ us hl => match us, hl with | [_, _, _], _ => rfl) rfl (b__law_mix h_int h_len)
  have c__law_words : FX PR w K mg base 2 "_law_words" 4 f__law_words := fx_of F__law_words sc__law_words m__law_words (fun _ _ _ _ _ _ us hl => match us, hl with | [_, _, _, _], _ => rfl) rfl (b__law_words h_range (c__law_mix.mono (by decide)))
  have c_check_sizes : FX PR w K mg base 1 "check_sizes" 1 f_check_sizes := fx_of F_check_sizes sc_check_sizes m_check_sizes (fun _ _ _ _ _ _ us hl => match us, hl with | [_], _ => rfl) rfl (b_check_sizes h_enumerate h_len h_LEAST_SIZE h_MOST_FACTORS_runs h_MOST_SIZE)
  have c_check_runs : FX PR w K mg base 2 "check_runs" 2 f_check_runs := fx_of F_check_runs sc_check_runs m_check_runs (fun _ _ _ _ _ _ us hl => match us, hl with | [_, _], _ => rfl) rfl (b_check_runs h_all h_enumerate h_len h_zip h_MOST_RUNS (c_check_sizes.mono (by decide)))
  have c_subsets : FX PR w K mg base 1 "subsets" 2 f_subsets := fx_of F_subsets sc_subsets m_subsets (fun _ _ _ _ _ _ us hl => match us, hl with | [_, _], _ => rfl) rfl (b_subsets h_len h_range h_sorted)
  have c_levels_at : FX PR w K mg base 1 "levels_at" 2 f_levels_at := fx_of F_levels_at sc_levels_at m_levels_at (fun _ _ _ _ _ _ us hl => match us, hl with | [_, _], _ => rfl) rfl (b_levels_at h_tuple)
  have c_counts_at : FX PR w K mg base 2 "counts_at" 2 f_counts_at := fx_of F_counts_at sc_counts_at m_counts_at (fun _ _ _ _ _ _ us hl => match us, hl with | [_, _], _ => rfl) rfl (b_counts_at (c_levels_at.mono (by decide)))
  have c_all_levels : FX PR w K mg base 1 "all_levels" 1 f_all_levels := fx_of F_all_levels sc_all_levels m_all_levels (fun _ _ _ _ _ _ us hl => match us, hl with | [_], _ => rfl) rfl (b_all_levels h_range)
  have c_uneven_at : FX PR w K mg base 3 "uneven_at" 3 f_uneven_at := fx_of F_uneven_at sc_uneven_at m_uneven_at (fun _ _ _ _ _ _ us hl => match us, hl with | [_, _, _], _ => rfl) rfl (b_uneven_at h_max h_min (c_all_levels.mono (by decide)) (c_counts_at.mono (by decide)))
  have c_uneven_of : FX PR w K mg base 4 "uneven_of" 3 f_uneven_of := fx_of F_uneven_of sc_uneven_of m_uneven_of (fun _ _ _ _ _ _ us hl => match us, hl with | [_, _, _], _ => rfl) rfl (b_uneven_of h_len (c_subsets.mono (by decide)) (c_uneven_at.mono (by decide)))
  have c_strength_of : FX PR w K mg base 5 "strength_of" 2 f_strength_of := fx_of F_strength_of sc_strength_of m_strength_of (fun _ _ _ _ _ _ us hl => match us, hl with | [_, _], _ => rfl) rfl (b_strength_of h_len (c_uneven_of.mono (by decide)))
  have c_strength : FX PR w K mg base 6 "strength" 2 f_strength := fx_of F_strength sc_strength m_strength (fun _ _ _ _ _ _ us hl => match us, hl with | [_, _], _ => rfl) rfl (b_strength (c_check_runs.mono (by decide)) (c_strength_of.mono (by decide)))
  have c_check_number_groups : FX PR w K mg base 1 "check_number_groups" 1 f_check_number_groups := fx_ofA F_check_number_groups sc_check_number_groups m_check_number_groups (fun _ _ _ _ _ _ us hl => match us, hl with | [_], _ => rfl) rfl (b_check_number_groups h_MOST_FACTORS_groups)
  have c_is_word : FX PR w K mg base 1 "is_word" 2 f_is_word := fx_of F_is_word sc_is_word m_is_word (fun _ _ _ _ _ _ us hl => match us, hl with | [_, _], _ => rfl) rfl (b_is_word h_all h_zip)
  have c_check_words : FX PR w K mg base 2 "check_words" 2 f_check_words := fx_of F_check_words sc_check_words m_check_words (fun _ _ _ _ _ _ us hl => match us, hl with | [_, _], _ => rfl) rfl (b_check_words h_enumerate h_len h_MOST_WORDS (c_check_number_groups.mono (by decide)) (c_is_word.mono (by decide)))
  have c_all_rows : FX PR w K mg base 1 "all_rows" 1 f_all_rows := fx_of F_all_rows sc_all_rows m_all_rows (fun _ _ _ _ _ _ us hl => match us, hl with | [_], _ => rfl) rfl (b_all_rows h_range)
  have c_is_even : FX PR w K mg base 1 "is_even" 2 f_is_even := fx_of F_is_even sc_is_even m_is_even (fun _ _ _ _ _ _ us hl => match us, hl with | [_, _], _ => rfl) rfl (b_is_even h_sum)
  have c_runs_by : FX PR w K mg base 2 "runs_by" 2 f_runs_by := fx_of F_runs_by sc_runs_by m_runs_by (fun _ _ _ _ _ _ us hl => match us, hl with | [_, _], _ => rfl) rfl (b_runs_by h_all (c_all_rows.mono (by decide)) (c_is_even.mono (by decide)))
  have c_runs_of : FX PR w K mg base 3 "runs_of" 2 f_runs_of := fx_of F_runs_of sc_runs_of m_runs_of (fun _ _ _ _ _ _ us hl => match us, hl with | [_, _], _ => rfl) rfl (b_runs_of (c_check_words.mono (by decide)) (c_runs_by.mono (by decide)))
  have c_check_some : FX PR w K mg base 1 "check_some" 2 f_check_some := fx_of F_check_some sc_check_some m_check_some (fun _ _ _ _ _ _ us hl => match us, hl with | [_, _], _ => rfl) rfl (b_check_some h_all h_enumerate h_len h_zip h_MOST_FULL)
  have c_product_of : FX PR w K mg base 1 "product_of" 1 f_product_of := fx_of F_product_of sc_product_of m_product_of (fun _ _ _ _ _ _ us hl => match us, hl with | [_], _ => rfl) rfl (b_product_of )
  have c_check_full : FX PR w K mg base 2 "check_full" 1 f_check_full := fx_of F_check_full sc_check_full m_check_full (fun _ _ _ _ _ _ us hl => match us, hl with | [_], _ => rfl) rfl (b_check_full h_len h_MOST_COVERED h_MOST_FULL (c_check_sizes.mono (by decide)) (c_product_of.mono (by decide)))
  have c_check_number_sights : FX PR w K mg base 1 "check_number_sights" 2 f_check_number_sights := fx_ofA F_check_number_sights sc_check_number_sights m_check_number_sights (fun _ _ _ _ _ _ us hl => match us, hl with | [_, _], _ => rfl) rfl (b_check_number_sights h_len h_MOST_T)
  have c_check_sights : FX PR w K mg base 3 "check_sights" 2 f_check_sights := fx_of F_check_sights sc_check_sights m_check_sights (fun _ _ _ _ _ _ us hl => match us, hl with | [_, _], _ => rfl) rfl (b_check_sights (c_check_full.mono (by decide)) (c_check_number_sights.mono (by decide)))
  have c_check_covering : FX PR w K mg base 4 "check_covering" 3 f_check_covering := fx_of F_check_covering sc_check_covering m_check_covering (fun _ _ _ _ _ _ us hl => match us, hl with | [_, _, _], _ => rfl) rfl (b_check_covering (c_check_sights.mono (by decide)) (c_check_sizes.mono (by decide)) (c_check_some.mono (by decide)))
  have c_sights_of : FX PR w K mg base 2 "sights_of" 2 f_sights_of := fx_of F_sights_of sc_sights_of m_sights_of (fun _ _ _ _ _ _ us hl => match us, hl with | [_, _], _ => rfl) rfl (b_sights_of h_len (c_all_levels.mono (by decide)) (c_subsets.mono (by decide)))
  have c_has : FX PR w K mg base 2 "has" 2 f_has := fx_of F_has sc_has m_has (fun _ _ _ _ _ _ us hl => match us, hl with | [_, _], _ => rfl) rfl (b_has (c_levels_at.mono (by decide)))
  have c_missing_of : FX PR w K mg base 3 "missing_of" 3 f_missing_of := fx_of F_missing_of sc_missing_of m_missing_of (fun _ _ _ _ _ _ us hl => match us, hl with | [_, _, _], _ => rfl) rfl (b_missing_of h_any (c_has.mono (by decide)) (c_sights_of.mono (by decide)))
  have c_missing : FX PR w K mg base 5 "missing" 3 f_missing := fx_of F_missing sc_missing m_missing (fun _ _ _ _ _ _ us hl => match us, hl with | [_, _, _], _ => rfl) rfl (b_missing (c_check_covering.mono (by decide)) (c_missing_of.mono (by decide)))
  have c_next_of : FX PR w K mg base 3 "next_of" 2 f_next_of := fx_of F_next_of sc_next_of m_next_of (fun _ _ _ _ _ _ us hl => match us, hl with | [_, _], _ => rfl) rfl (b_next_of h_len h_max (c_all_levels.mono (by decide)) (c_has.mono (by decide)))
  have c_greedy : FX PR w K mg base 4 "greedy" 2 f_greedy := fx_of F_greedy sc_greedy m_greedy (fun _ _ _ _ _ _ us hl => match us, hl with | [_, _], _ => rfl) rfl (b_greedy h_len (c_check_sights.mono (by decide)) (c_has.mono (by decide)) (c_next_of.mono (by decide)) (c_sights_of.mono (by decide)))
  have c_order_of : FX PR w K mg base 1 "order_of" 1 f_order_of := fx_of F_order_of sc_order_of m_order_of (fun _ _ _ _ _ _ us hl => match us, hl with | [_], _ => rfl) rfl (b_order_of h_len)
  have c_product : FX PR w K mg base 1 "product" 2 f_product := fx_of F_product sc_product m_product (fun _ _ _ _ _ _ us hl => match us, hl with | [_, _], _ => rfl) rfl (b_product h_sorted)
  have c_group_of : FX PR w K mg base 2 "group_of" 1 f_group_of := fx_of F_group_of sc_group_of m_group_of (fun _ _ _ _ _ _ us hl => match us, hl with | [_], _ => rfl) rfl (b_group_of h_len h_sorted (c_product.mono (by decide)) kd_order_of)
  have c_resolution : FX PR w K mg base 3 "resolution" 2 f_resolution := fx_of F_resolution sc_resolution m_resolution (fun _ _ _ _ _ _ us hl => match us, hl with | [_, _], _ => rfl) rfl (b_resolution h_len (c_check_words.mono (by decide)) (c_group_of.mono (by decide)))
  have c_check_factors : FX PR w K mg base 1 "check_factors" 2 f_check_factors := fx_of F_check_factors sc_check_factors m_check_factors (fun _ _ _ _ _ _ us hl => match us, hl with | [_, _], _ => rfl) rfl (b_check_factors h_enumerate h_len)
  have c_parted : FX PR w K mg base 3 "parted" 3 f_parted := fx_of F_parted sc_parted m_parted (fun _ _ _ _ _ _ us hl => match us, hl with | [_, _, _], _ => rfl) rfl (b_parted h_range (c_check_factors.mono (by decide)) (c_check_runs.mono (by decide)))
  have c_sights : FX PR w K mg base 4 "sights" 2 f_sights := fx_of F_sights sc_sights m_sights (fun _ _ _ _ _ _ us hl => match us, hl with | [_, _], _ => rfl) rfl (b_sights (c_check_sights.mono (by decide)) (c_sights_of.mono (by decide)))
  have c_floor_of : FX PR w K mg base 2 "floor_of" 2 f_floor_of := fx_of F_floor_of sc_floor_of m_floor_of (fun _ _ _ _ _ _ us hl => match us, hl with | [_, _], _ => rfl) rfl (b_floor_of h_len h_sorted (c_product_of.mono (by decide)))
  have c_floor : FX PR w K mg base 4 "floor" 2 f_floor := fx_of F_floor sc_floor m_floor (fun _ _ _ _ _ _ us hl => match us, hl with | [_, _], _ => rfl) rfl (b_floor (c_check_sights.mono (by decide)) (c_floor_of.mono (by decide)))
  have c_uneven : FX PR w K mg base 5 "uneven" 3 f_uneven := fx_of F_uneven sc_uneven m_uneven (fun _ _ _ _ _ _ us hl => match us, hl with | [_, _, _], _ => rfl) rfl (b_uneven h_len (c_check_runs.mono (by decide)) (c_uneven_of.mono (by decide)))
  have c_counts : FX PR w K mg base 3 "counts" 3 f_counts := fx_of F_counts sc_counts m_counts (fun _ _ _ _ _ _ us hl => match us, hl with | [_, _, _], _ => rfl) rfl (b_counts (c_check_factors.mono (by decide)) (c_check_runs.mono (by decide)) (c_counts_at.mono (by decide)))
  exact fo_of F_law sc_law (fun _ _ _ _ _ _ us hl => match us, hl with | [_], _ => rfl) rfl (b_law h_len h_min h_range h_tuple (c__law_draws.mono (by decide)) (c__law_mix.mono (by decide)) (c__law_words.mono (by decide)) (c_counts.mono (by decide)) (c_floor.mono (by decide)) (c_greedy.mono (by decide)) (c_missing.mono (by decide)) (c_parted.mono (by decide)) (c_resolution.mono (by decide)) (c_runs_of.mono (by decide)) (c_sights.mono (by decide)) (c_strength.mono (by decide)) (c_uneven.mono (by decide)))
end Zx.k95
open PySem PySem.W PySem.Calls PyProof.Rows
theorem PySem.Challenge.cw_triedwares_k95_whole_strong_tables_cover_holds : PySem.Challenge.rw_triedwares_k95_whole_strong_tables_cover.Holds := by
  w_on; o_law
  refine HandSHeadRun.head_any (r := OpenLaw.row PySem.Challenge.rw_triedwares_k95_whole_strong_tables_cover) (q := view (OpenLaw.row PySem.Challenge.rw_triedwares_k95_whole_strong_tables_cover).prog [70]) (H := Zx.k95.hk) (ob := Zx.k95.ob) (M := 6000) (loose := Zx.k95.loose) (d := HandSHeadRun.topDef (OpenLaw.row PySem.Challenge.rw_triedwares_k95_whole_strong_tables_cover).prog 70) (kwd := []) Zx.k95.ob_eq
    (by kernel_rfl) (fun s => by kernel_rfl) Zx.k95.run
    (by kernel_rfl) (by kernel_rfl) (by kernel_rfl) (by rfl) (by first | assumption | decide +kernel) (by decide +kernel) ⟨rfl, rfl, rfl, rfl, rfl, by decide +kernel⟩ ?hw ?hc
  case hw => w_witness2
  case hc =>
    refine L2.walk_ofE (l := PySem.Challenge.rw_triedwares_k95_whole_strong_tables_cover) (n := 63) (k := 7) (x := "script") (CX := L2.CX0) rfl (by decide) (by kernel_rfl) ⟨rfl, by decide, by decide⟩ ?F (fun _ _ _ _ z => z)
    intro w mg fa h Y G hmg0
    obtain ⟨K, KX, c⟩ := Y
    have hmg : mg ("law" : PySem.Str) = some (.ref fa) := by
      have e : (HandSHeadRun.topDef (OpenLaw.row PySem.Challenge.rw_triedwares_k95_whole_strong_tables_cover).prog 70).name = ("law" : PySem.Str) := by kernel_rfl
      rw [← e]
      exact hmg0
    obtain ⟨fd, hb, hF⟩ := Zx.k95.facts (w := w) KX G hmg c
    refine ⟨K, fd, Zx.spX K 1 Zx.k95.f_law, KX, hb, fun H a ns hl hO hS => ?_, hF⟩
    exact ⟨H, [Zx.scrD ns], .bool true, Zx.le_only hO, .cons (.scr hS) .nil, rfl, Zx.k95.law_true ns hl, fun v F' H' x r => by cases r; rfl⟩
